/- Calls by contracts. -/
import Derived.Test.YtagibnnojbolnaaGreatDoorLc
import Derived.WalkSpells
import Derived.Lib.SliceRun
set_option linter.unusedSimpArgs false
set_option linter.unusedVariables false
namespace Go.Lv
section
variable {I:Ip} {P:Program} {ι ι':Asg} {w w':World} {h:Nat->Option (EO I.C)} {nx:Nat}
structure ZL (P:Program) (con:Con I):Prop where
 wf:Bj con=true
 fn: ∀x y,con.F x=some y-> ∃fn,P.funcs[con.f]? =some fn/\(fn.name== "runtime.NumGoroutine")=false/\fn.body.isSome=true
 ok: ∀x y,con.F x=some y-> ∀(ι:Asg) (w:World) (vs:Array Value),Wf ι w->(∀i,con.inS.objs.length<=i->ι i= .free)->(∀o∈((con.inS.sl I).enc x).2,Qd P ι w o.1 o.2)->Gh ι w ((con.inS.sl I).enc x).1 vs->
  Calls P con.f vs w fun e w'=> ∃v ι',e= .returned v/\Stp (· ∉ con.cst) ι w ι' w'/\Wf ι' w'/\RepL ι' w' (resE ((con.outS.sl I).enc y).1) v/\(∀o∈((con.outS.sl I).enc y).2,Qd P ι' w' o.1 o.2)/\ ∀i,con.inS.objs.length+con.k<=i->ι' i= .free
theorem Pj{i:Nat}: ∀{l:List Nat},memN i l=true↔i∈l
 |[]=>by simp[memN]
 |j::r=>by
  simp only[memN,Jb];by_cases hij:i=j
  ·subst hij;simp
  ·have:Nat.beq i j=false:=by cases hb:Nat.beq i j with|false=>rfl|true=>simp_all
   rw[this];simp only[Ba,hij,false_or];exact Pj
theorem aB: ∀{a b:List Nat},eqN a b=true->a=b
 |[],[],_=>rfl
 |[],_::_,h=>by cases h
 |_::_,[],h=>by cases h
 |i::r,j::s,h=>by simp only[eqN,Da]at h;rw[La h.1,aB h.2]
theorem Wl{a b:Nat}:Nat.blt a b=true↔a<b:=by simp[Nat.blt_eq]
theorem UD: ∀{m:Mp},Np m=[]-> ∀i,lk m i≠some none
 |[],_,i,h=>by cases h
 |(j,none)::r,hn,i,h=>by simp[Np]at hn
 |(j,some a)::r,hn,i,h=>by
  rw[Z9]at h;split at h
  ·cases h
  ·exact UD (m:=r) (by simpa [Np] using hn) i h
theorem Ah{α:Type}: ∀{l:List (Nat×α)} {i:Nat} {x:α},lk l i=some x->(i,x)∈l
 |[],_,_,h=>by cases h
 |(j,y)::r,i,x,h=>by
  rw[Z9]at h;split at h
  ·grind
  ·exact Kb _ (Ah h)
theorem aY{m:Mp}{cst:List Nat}{out:List (Nat×OSh)}: ∀{l:List (Nat×OSh)} {i a:Nat},i∈l.map (·.1)->lk m i=some (some a)->i ∉ cst->i ∉ out.map (·.1)->a∈(Sj (I:=I) m cst out l).map (·.1)
 |[],_,_,hi,_,_,_=>by cases hi
 |(j,s)::r,i,a,hi,hl,h1,h2=>by
  have rest:i∈r.map (·.1)->a∈(Sj (I:=I) m cst out ((j,s)::r)).map (·.1):=fun hr=>by
   have:=aY (l:=r) hr hl h1 h2;simp only[Sj]
   grind
  rcases Jb.1 hi with rfl|hr
  ·simp only[Sj,hl];have:(memN i cst||memN i (out.map (·.1)))=false:=by
    cases hb:(memN i cst||memN i (out.map (·.1)))with
    |false=>rfl
    |true=>rw[Yc,Pj,Pj]at hb;grind
   rw[this];simp
  ·exact rest hr
theorem aD{m:Mp}{cst:List Nat}{out:List (Nat×OSh)}: ∀{l:List (Nat×OSh)},∀p∈Sj (I:=I) m cst out l,p.2= .dead
 |[],p,hp=>by cases hp
 |(j,s)::r,p,hp=>by
  simp only[Sj]at hp;split at hp
  ·cases hb:(memN j cst||memN j (out.map (·.1)))<;>rw[hb]at hp<;>simp only[Ca,Ba,Jb]at hp
   ·rcases hp with rfl|hp
    ·rfl
    ·exact aD p hp
   ·exact aD p hp
  ·exact aD p hp
theorem dZ{a:Nat}{o:EO I.C}(hz: ∀id t l,h id=some (.frz t l)->ι id= .pure (l.map (I.full t)))(hh: ∀o,h a=some o->Qd P ι w a o)(ho:nrmH h a=some o):Qd P ι w a o:=by
 have les: ∀cs:List (EV I.C),LesC ι w ι cs (cs.map (nrmV h)):=fun cs=>⟨by simp,fun j x y hx hy v _ hv=>by
  rw[Ra,hx]at hy;cases hy;exact iB hz hv⟩
 unfold nrmH at ho;split at ho
 ·rename_i ty cs hid;cases ho;exact Yl (hh _ hid) rfl (by simp[kE]) rfl rfl fun j r r' hr hr'=>by
   cases j with
   |zero=>cases hr;cases hr';exact les _
   |succ j=>cases hr
 ·rename_i t l1 cs l2 hid;cases ho;refine Yl (hh _ hid) rfl rfl rfl (by simp[Zd]) fun j r r' hr hr'=> ?_;by_cases e:r=r'
  ·subst e;exact⟨rfl,fun j x y hx hy v _ hv=>by grind⟩
  ·simp only[Zd]at hr hr'
   grind
 ·exact hh _ ho
theorem zMN(hI:IpOK P I)(f:Nat->Nat){o:EO I.C}(ho:isR o=true):Zd (rnEO f o)=(Zd o).map (·.map (rnV f)):=by
 have e: ∀(t:Nat) (x:I.C t),I.exp t x=(I.exp t x).map (rnV f):=fun t x=>by
  have:=List.map_congr_left (l:=I.exp t x) (f:=rnV f) (g:=id) fun v hv=>by have:=hI.pur t x v hv;cases v<;>first|rfl|cases this
  simp_all
 cases o<;>first|(cases ho;done)|rfl|skip
 all_goals simp only[Zd,rnEO,List.map_map,Jc,List.map_nil,ae]
 ·exact List.map_congr_left fun x _=>e _ x
 ·rw[List.map_congr_left fun x _=>e _ x,List.map_congr_left (l:=_) fun x _=>e _ x];rfl
theorem zHO{x:EV I.C}(h:Sl x=true):oh x=[]:=by cases x<;>first|rfl|cases h
theorem zKg(hI:IpOK P I){o:EO I.C}(ho:isR o=true){j k:Nat}{r:List (EV I.C)}{z:EV I.C}(hr:(Zd o)[j]? =some r)(hz:r[k]? =some z){i:Nat}(hi:i∈oh z):i∈Dt o:=by
 have pr: ∀(t:Nat) (y:I.C t),r=I.exp t y->i∈Dt o:=fun t y e=>by rw[e]at hz;rw[zHO (hI.pur t y z (ma hz))]at hi;cases hi
 have hm:=ma hr;cases o with
 |cells ty cs=>obtain rfl:=Tc.1 hm;exact List.mem_flatMap.2 ⟨z,ma hz,hi⟩
 |sl t l=>obtain⟨y,_,e⟩:=Nb.1 hm;grind
 |slo t l1 cs l2=>
  rcases Rc.1 hm with h|h
  ·grind
  ·rcases Jb.1 h with rfl|h
   ·exact List.mem_flatMap.2 ⟨z,ma hz,hi⟩
   grind
 |rows ty k rs=>exact List.mem_flatMap.2 ⟨z,List.mem_flatten.2 ⟨r,hm,ma hz⟩,hi⟩
 |_=>cases ho
theorem zJF(hI:IpOK P I)(hC:Conv ι w ι' w){f:Nat->Nat}{i:Nat}{o:EO I.C}(ho:isR o=true)(hh:Qd P ι w i o)(hs:ι' (f i)=ι i)(hf: ∀j∈Dt o,Slw ι ι' w w j (f j)):Qd P ι' w (f i) (rnEO f o):=by
 have h1:isR (rnEO f o)=true:=by cases o<;>first|rfl|cases ho
 have hr:=zMN hI f ho;obtain⟨b,e,hb⟩:=(Zo ho).1 hh;have k1:kE P (rnEO f o)=kE P o:=by cases o<;>simp[kE,rnEO]
 have k2:tyE (rnEO f o)=tyE o:=by cases o<;>rfl
 refine(Zo h1).2 ⟨b,by grind,?_⟩;rw[k1,k2,hr];refine hb.les (fun _ _=>rfl) ⟨by simp,fun j x x' hx hx'=> ?_⟩;simp only[Ra,Ma]at hx hx';obtain⟨y,hy,rfl⟩:=hx;obtain⟨_,⟨y',hy',rfl⟩,rfl⟩:=hx';rw[hy]at hy';cases hy';refine⟨by simp,fun k p p' hp1 hp2 v _ hv=> ?_⟩;simp only[Ra,Ma]at hp1 hp2;obtain⟨z,hz,rfl⟩:=hp1;obtain⟨_,⟨z2,hz2,rfl⟩,rfl⟩:=hp2;rw[hz]at hz2;cases hz2;exact RepV.ren hC (fun i hi=>hf i (zKg hI ho hy hz hi)) hv
theorem LZ(hI:IpOK P I)(hC:Conv ι w ι' w){f:Nat->Nat}{i:Nat}{o:EO I.C}(ho:isL o=true)(hh:Qd P ι w i o)(hs:ι' (f i)=ι i)(hX: ∀b,ι.X b= .inn i->ι'.X b= .inn (f i))(hf: ∀j∈Dt o,Slw ι ι' w w j (f j)):Qd P ι' w (f i) (rnEO f o):=by
 cases hr:isR o with
 |true=>exact zJF hI hC hr hh hs hf
 |false=>
  cases o with
  |slq t e l c=>exact gN hh hs hX hC fun v _ hv=>hv.ren hC hf
  |dead=>cases ho
  |frz t l=>cases ho
  |mp kd l=>cases ho
  |_=>cases hr
theorem Gh.arg{as bs:List (ET I.C)}{vs:Array Value}(h:Gh ι w as vs)(hl:bs.length=as.length)(hb: ∀(j:Nat) a b,as[j]? =some a->bs[j]? =some b-> ∀v,RepT ι w a v->RepT ι' w b v):Gh ι' w bs vs:=
 ⟨by rw[h.1,hl],fun j b hj=>by
  have ha:=Ta (show j<as.length by grind);obtain⟨u,a1,a2⟩:=h.2 j _ ha
  grind⟩
theorem zLu (hI:IpOK P I) {con:Con I} (hc:ZL P con) {as:List (ET I.C)} {x:(con.inS.sl I).T} {m:Mp} (hm:(con.inS.sl I).mat as (nrmH h) []=some (x,m)) (hb:(m.all fun z=>Nat.blt z.1 con.inS.objs.length)=true) (hn:Np m=[]) {y:(con.outS.sl I).T} (hF:con.F x=some y) {vs:Array Value}
  (W:Wf ι w) (hd:Hd P h ((jh con h nx m y).rd++(jh con h nx m y).up.map (·.1)) ι w) (hfree: ∀j,j<con.k->ι (nx+j)= .free) (hv:Gh ι w as vs):Calls P con.f vs w fun e w'=> ∃v,e= .returned v/\Done P ι w nx (jh con h nx m y) v w':=by
 have wf:=hc.wf;simp only[Bj,Da,ja]at wf;obtain⟨⟨⟨⟨⟨⟨⟨w1,w2⟩,w3⟩,w4⟩,w5⟩,w6⟩,w7⟩,w8⟩:=wf;have w1:=aB w1;obtain⟨_,L1⟩:=Wn (P:=P) hI con.inS;obtain⟨l1,l2,l3,l4⟩:=L1 as (nrmH h) [] x m hm;have hinj:InjM m:=l1.2 fun i j a h=>by cases h
 generalize hp:con.inS.objs.length=p at*
 let f:Nat->Nat:=fun i=>cond (Nat.blt i p) (rnM m 0 i) (nx+(i - p))
 have act: ∀i,i<p-> ∃o,lk m i=some (some (f i))/\nrmH h (f i)=some o:=by
  intro i hi;have:i∈con.inS.objs.map (·.1):=by rw[w1];exact Md.2 hi
  obtain⟨o,ho,rfl⟩:=Nb.1 this;obtain⟨z,hz,hz'⟩:=l2 o ho;cases z with
  |none=>exact absurd hz (UD hn _)
  |some a=>
   have e:f o.1=a:=by simp[f,Wl.2 hi,rnM,hz]
   grind
 have finj: ∀i j,i<p->j<p->f i=f j->i=j:=fun i j hi hj e=>by obtain⟨_,q1,_⟩:=act i hi;obtain⟨_,q2,_⟩:=act j hj;rw[e]at q1;exact hinj i j _ q1 q2
 have fout: ∀j,f (p+j)=nx+j:=fun j=>by
  have:Nat.blt (p+j) p=false:=by cases hb:Nat.blt (p+j) p with|false=>rfl|true=>have:=Wl.1 hb;omega
  simp[f,this]
 have mlt: ∀i a,lk m i=some (some a)->i<p/\a=f i:=fun i a hi=>by
  have h1:=Wl.1 (Pb.1 hb _ (Ah hi))
  grind
 have hfind: ∀i,i<p->(List.range p).find? (fun j=>f j==f i)=some i:=fun i hi=>by
  cases hf:(List.range p).find? (fun j=>f j==f i)with
  |none=>grind
  |some j=>grind
 -- the callee's slots
 let Far:Nat->Prop:=fun b=>ι.X b= .far\/(∃a,ι.X b= .inn a/\ ∀i,i<p->f i≠a)\/ ∃a k n,ι a= .live (some b) k n/\ ∀i,i<p->f i≠a
 have dF: ∀b,Decidable (Far b):=fun b=>Classical.propDecidable _
 let ιc:Asg:=⟨fun i=>if i<p then ι (f i)else .free,fun b=>if Far b then .far else match ι.X b with
  | .inn a=>match(List.range p).find? (fun i=>f i==a)with
   |some i=> .inn i
   |none=> .far
  |x=>x⟩
 have c1: ∀b,Far b->ιc.X b= .far:=fun b h=>Sa h;have c0: ∀b,¬Far b->ιc.X b=match ι.X b with
  | .inn a=>match(List.range p).find? (fun i=>f i==a)with
   |some i=> .inn i
   |none=> .far
  |x=>x:=fun b h=>Oa h
 have c2: ∀b i,i<p->ι.X b= .inn (f i)-> ¬Far b/\ιc.X b= .inn i:=fun b i hi e=>by
  have hn: ¬Far b:=by
   rintro(h|⟨a,h1,h2⟩|⟨a,k,n,h1,h2⟩)
   ·grind
   ·grind
   ·have:=(W.lt _ _ _ _ h1).2;grind
  exact⟨hn,by rw[c0 b hn,e];grind⟩
 have c3: ∀b,¬Far b->ιc.X b= .no\/ ∃i,i<p/\ι.X b= .inn (f i):=fun b hn=>by
  cases e:ι.X b with
  |no=>grind
  |far=>grind
  |inn a=>
   grind
 have hc1: ∀i,i<p->ιc i=ι (f i):=fun i hi=>Sa hi;have hc2: ∀i,p<=i->ιc i= .free:=fun i hi=>Oa (by omega);have hcl: ∀{i b k n},ιc i= .live (some b) k n->i<p/\ι (f i)= .live (some b) k n:=fun {i b k n} e=>by
  grind
 have dom1: ∀b,Dom ι w b->Dom ιc w b:=fun b hb=>by
  have hn: ¬Far b:=by
   rintro(h|⟨a,h1,h2⟩|⟨a,k,n,h1,h2⟩)
   ·rw[hb.2.1]at h;cases h
   ·rw[hb.2.1]at h1;cases h1
   ·exact hb.2.2 a k n h1
  exact⟨hb.1,by rw[c0 b hn,hb.2.1],fun i k n e=>hb.2.2 _ k n (hcl e).2⟩
 have hC:Conv ι w ιc w:=⟨fun _ _ h=>h,dom1,fun _ _=>rfl⟩;have Wc:Wf ιc w:=by
  refine⟨fun i b k n e=> ?_,fun i j b k k' n n' e e'=> ?_,fun q hq=> ?_,fun b hx=> ?_⟩
  ·obtain⟨h1,h2⟩:=hcl e;obtain⟨h3,h4⟩:=W.lt _ _ _ _ h2;have hn: ¬Far b:=by
    rintro(h|⟨a,h5,_⟩|⟨a,k,n,h5,h6⟩)
    ·rw[h4]at h;cases h
    ·rw[h4]at h5;cases h5
    ·exact h6 i h1 (W.inj _ _ _ _ _ _ _ h2 h5)
   exact⟨h3,by rw[c0 b hn,h4]⟩
  ·obtain⟨h1,h2⟩:=hcl e;obtain⟨g1,g2⟩:=hcl e';exact finj i j h1 g1 (W.inj _ _ _ _ _ _ _ h2 g2)
  ·obtain⟨h1,h2⟩:=W.glob q hq;exact⟨dom1 _ h1,h2⟩
  ·by_cases hF:Far b
   ·rcases hF with h|⟨a,h,_⟩|⟨a,k,n,h,_⟩
    ·exact W.xlt b (by rw[h];simp)
    ·exact W.xlt b (by rw[h];simp)
    ·exact(W.lt _ _ _ _ h).1
   ·rcases c3 b hF with h|⟨i,_,h⟩
    ·exact absurd h hx
    ·exact W.xlt b (by rw[h];simp)
 have hcmp:Cmp ι ιc (fun _=>0) m:=fun i z hz=>by
  cases z with
  |none=>exact absurd hz (UD hn _)
  |some a=>obtain⟨h1,rfl⟩:=mlt i a hz;exact⟨hc1 i h1,fun b e=>(c2 b i h1 e).2⟩
 have hold: ∀a o,(∃i,lk m i=some (some a))->nrmH h a=some o->Qd P ι w a o:=fun a o ⟨i,hi⟩ ho=>dZ hd.1 (hd.2 a (jd _ (List.mem_filterMap.2 ⟨(i,some a),Ah hi,rfl⟩))) ho;obtain⟨a1,a2⟩:=l4 hC hcmp (fun o _ e=>absurd e (UD hn _)) fun i a hi o ho=>hold a o ⟨i,hi⟩ ho;have live: ∀i,i<p-> ∃b k n,ι (f i)= .live b k n:=fun i hi=>by
  obtain⟨o,h1,h2⟩:=act i hi;have:i∈((con.inS.sl I).enc x).2.map (·.1):=by rw[(Wn (P:=P) hI con.inS).1,w1];exact Md.2 hi
  obtain⟨q,hq,rfl⟩:=Nb.1 this;obtain⟨h3,h4⟩:=a2 q hq;obtain⟨b,k,n,e⟩:=Mx h3 h4;exact⟨b,k,n,hc1 _ hi▸e⟩
 have fnx: ∀i j,i<p->j<con.k->f i≠nx+j:=fun i j hi hj e=>by obtain⟨b,k,n,e'⟩:=live i hi;rw[e,hfree j hj]at e';cases e'
 refine(hc.ok x y hF ιc w vs Wc (by rw[hp];exact hc2) (fun o ho=>(a2 o ho).2) (hv.arg l3 a1)).mono fun e w' ⟨v,ι2,he,S2,W2,v2,o2,f2⟩=>⟨v,he,?_⟩;rw[hp]at f2
 -- the caller's slots behind the call
 let ι3:Asg:=⟨fun a=>match(List.range p).find? (fun i=>f i==a)with|some i=>ι2 i|none=>if nx<=a/\a<nx+con.k then ι2 (p+(a - nx))else ι a,fun b=>if Far b then ι.X b else match ι2.X b with| .inn i=> .inn (f i)|x=>x⟩
 have k1: ∀i,i<p->ι3 (f i)=ι2 i:=fun i hi=>by show(match(List.range p).find? (fun j=>f j==f i)with|some i=>ι2 i|none=>_)=_;rw[hfind i hi]
 have d0: ∀b,Far b->ι2.X b= .far:=fun b h=>(S2.xs b (by rw[c1 b h];trivial)).trans (c1 b h);have d1: ∀b,Far b->ι3.X b=ι.X b:=fun b h=>Sa h;have d2: ∀b,¬Far b->ι3.X b=match ι2.X b with| .inn i=> .inn (f i)|x=>x:=fun b h=>Oa h;have d3: ∀b,ι2.X b= .no-> ¬Far b/\ι3.X b= .no:=fun b h=>by
  have hn: ¬Far b:=fun hF=>by rw[d0 b hF]at h;cases h
  exact⟨hn,by rw[d2 b hn,h]⟩
 have kout: ∀a,(∀i,i<p->f i≠a)->ι3 a=if nx<=a/\a<nx+con.k then ι2 (p+(a - nx))else ι a:=fun a ha=>by
  show(match(List.range p).find? (fun j=>f j==a)with|some i=>ι2 i|none=>_)=_;cases hf:(List.range p).find? (fun j=>f j==a)with
  |none=>rfl
  |some j=>exact absurd (by simpa using List.find?_some hf) (ha j (Md.1 (List.mem_of_find?_eq_some hf)))
 have k2: ∀j,j<con.k->ι3 (nx+j)=ι2 (p+j):=fun j hj=>by rw[kout _ fun i hi=>fnx i j hi hj,Sa (by omega),Nat.add_sub_cancel_left]
 have k3: ∀a,(∀i,i<p->f i≠a)->(a<nx\/nx+con.k<=a)->ι3 a=ι a:=fun a ha hn=>by rw[kout a ha,Oa (by omega)]
 have kf: ∀i,ι2 i≠ .free->ι3 (f i)=ι2 i:=fun i hi=>by
  by_cases h1:i<p
  ·exact k1 i h1
  ·obtain⟨j,rfl⟩: ∃j,i=p+j:=⟨i - p,by omega⟩;rw[fout];exact k2 j (by by_cases h2:j<con.k;exact h2;exact absurd (f2 (p+j) (by omega)) hi)
 have cas: ∀a,(∃i,i<p/\f i=a)\/(∃j,j<con.k/\a=nx+j)\/((∀i,i<p->f i≠a)/\(a<nx\/nx+con.k<=a)):=fun a=>by
  by_cases h1: ∃i,i<p/\f i=a
  ·exact .inl h1
  ·by_cases h2:nx<=a/\a<nx+con.k
   ·exact .inr (.inl ⟨a - nx,by omega,by omega⟩)
   ·exact .inr (.inr ⟨fun i hi e=>h1 ⟨i,hi,e⟩,by omega⟩)
 have lv: ∀{a b k n},ι3 a= .live (some b) k n->(∃i,ι2 i= .live (some b) k n/\f i=a)\/(ι a= .live (some b) k n/\Far b):=fun {a b k n} e=>by
  rcases cas a with⟨i,hi,rfl⟩|⟨j,hj,rfl⟩|⟨h1,h2⟩
  ·exact .inl ⟨i,k1 i hi▸e,rfl⟩
  ·exact .inl ⟨p+j,k2 j hj▸e,fout j⟩
  ·have e:=k3 a h1 h2▸e;exact .inr ⟨e, .inr (.inr ⟨a,k,n,e,h1⟩)⟩
 have dom2: ∀b,Dom ι2 w' b->Dom ι3 w' b:=fun b hb=>⟨hb.1,(d3 b hb.2.1).2,fun a k n e=>by
  rcases lv e with⟨i,e',_⟩|⟨_,e'⟩
  ·exact hb.2.2 i k n e'
  ·exact(d3 b hb.2.1).1 e'⟩
 have hC2:Conv ι2 w' ι3 w':=⟨fun _ _ h=>h,dom2,fun _ _=>rfl⟩;have hsl: ∀i,Slw ι2 ι3 w' w' i (f i):=fun i hi=> .inl (kf i hi);have W3:Wf ι3 w':=by
  refine⟨fun a b k n e=> ?_,fun a a' b k k' n n' e e'=> ?_,fun q hq=> ?_,fun b hx=> ?_⟩
  ·rcases lv e with⟨i,e',_⟩|⟨e',hFb⟩
   ·obtain⟨h1,h2⟩:=W2.lt _ _ _ _ e';exact⟨h1,(d3 b h2).2⟩
   ·obtain⟨h1,h2⟩:=W.lt _ _ _ _ e';exact⟨Dc h1 S2.size,by rw[d1 b hFb];exact h2⟩
  ·rcases lv e with⟨i,h1,h2⟩|⟨h1,h2⟩<;>rcases lv e' with⟨i',g1,g2⟩|⟨g1,g2⟩
   ·rw[<-h2,<-g2,W2.inj _ _ _ _ _ _ _ h1 g1]
   ·exact absurd g2 (d3 b (W2.lt _ _ _ _ h1).2).1
   ·exact absurd h2 (d3 b (W2.lt _ _ _ _ g1).2).1
   ·exact W.inj _ _ _ _ _ _ _ h1 g1
  ·obtain⟨h1,h2⟩:=W2.glob q hq;exact⟨dom2 _ h1,h2⟩
  ·by_cases hF:Far b
   ·rw[d1 b hF]at hx;exact Dc (W.xlt b hx) S2.size
   ·refine W2.xlt b fun e=>hx ?_;rw[d2 b hF,e]
 have hup: ∀i,i<p->i ∉ con.cst->f i∈(jh con h nx m y).up.map (·.1):=fun i hi hcs=>by
  obtain⟨_,h1,_⟩:=act i hi;show f i∈(_++_:EHeap I.C).map (·.1);rw[ae,Rc];by_cases ho:i∈con.outS.objs.map (·.1)
  ·left;rw[<-(Wn (P:=P) hI con.outS).1 y]at ho;obtain⟨o,ho',rfl⟩:=Nb.1 ho;exact Nb.2 ⟨_,Nb.2 ⟨o,ho',rfl⟩,by rw[hp]⟩
  ·exact .inr (aY (by rw[w1];exact Md.2 hi) h1 hcs ho)
 have Sc: ∀i,i<p->ι (f i)≠ .free->ι3 (f i)=ι (f i)\/ι3 (f i)= .dead\/ ∃b k n rows,ι (f i)= .live b k n/\ι3 (f i)= .pure rows/\ ∀v,SlAt w b k 0 n v->RepP (Dom ι3 w') w' (.sl rows) v:=fun i hi h0=>by
  rw[k1 i hi,<-hc1 i hi];rcases S2.slots i (by rw[hc1 i hi];exact h0)with e|e|⟨b,k,n,rows,e1,e2,e3⟩
  ·exact .inl e
  ·exact .inr (.inl e)
  ·exact .inr (.inr ⟨b,k,n,rows,e1,e2,fun v hv=>(e3 v hv).conv hC2⟩)
 have hX: ∀b,Held (fun i=>i∈(jh con h nx m y).up.map (·.1)) (ι.X b)->ι3.X b=ι.X b/\w'.heap[b]? =w.heap[b]? :=fun b hb=>by
  by_cases hF:Far b
  ·exact⟨d1 b hF,S2.xkeep b (by rw[c1 b hF];trivial)⟩
  ·rcases c3 b hF with h|⟨i,hi,e⟩
   ·cases e:ι.X b with
    |no=>rw[e]at hb;cases hb
    |far=>exact absurd (.inl e) hF
    |inn a=> rw[c0 b hF,e]at h;simp only at h;split at h<;>cases h
   ·have hcs:i∈con.cst:=Me fun hn=>by rw[e]at hb;exact hb (hup i hi hn)
    have hh:Held (· ∉ con.cst) (ιc.X b):=by rw[(c2 b i hi e).2];exact fun h=>h hcs
    have e2:=(S2.xs b hh).trans (c2 b i hi e).2;exact⟨by rw[d2 b hF,e2,e],S2.xkeep b hh⟩
 refine⟨ι3,⟨⟨S2.shape,fun b hb=>dom2 b (S2.dom b (dom1 b hb)),fun b hb=>S2.keep b (dom1 b hb)⟩,S2.os,S2.tape,S2.output,S2.size,fun a b k n hT e=> ?_,fun a h0=> ?_,fun a hT h0=> ?_,fun b hb=>(hX b hb).1,fun b e=> ?_,fun b hb=>(hX b hb).2⟩,W3,?_,fun q hq=> ?_,fun a ha hn=> ?_⟩
 ·rcases cas a with⟨i,hi,rfl⟩|⟨j,hj,rfl⟩|⟨h1,h2⟩
  ·exact S2.own i b k n (fun h=>hT (hup i hi h)) (hc1 i hi▸e)
  ·rw[hfree j hj]at e;cases e
  ·exact S2.xkeep b (by rw[c1 b (.inr (.inr ⟨a,k,n,e,h1⟩))];trivial)
 ·rcases cas a with⟨i,hi,rfl⟩|⟨j,hj,rfl⟩|⟨h1,h2⟩
  ·exact Sc i hi h0
  ·exact absurd (hfree j hj) h0
  ·exact .inl (k3 a h1 h2)
 ·rcases cas a with⟨i,hi,rfl⟩|⟨j,hj,rfl⟩|⟨h1,h2⟩
  ·rw[k1 i hi,S2.fix i (fun h=>hT (hup i hi h)) (by rw[hc1 i hi];exact h0),hc1 i hi]
  ·exact absurd (hfree j hj) h0
  ·exact k3 a h1 h2
 ·by_cases hF:Far b
  ·rw[d1 b hF]at e;exact e
  ·rw[d2 b hF]at e;cases e2:ι2.X b with
   |far=>exact absurd (c3 b hF) (by
     have:=S2.xn b e2;rintro(h|⟨i,hi,h⟩)
     ·rw[this]at h;cases h
     ·rw[(c2 b i hi h).2]at this;cases this)
   |_=>rw[e2]at e;cases e
 ·have: ∀ts:List (ET I.C),RepL ι2 w' (resE ts) v->RepL ι3 w' (resE (ts.map (rnET f))) v:=by
   intro ts hr;have tup: ∀ts:List (ET I.C),RepL ι2 w' (.tup ts) v->RepL ι3 w' (.tup (ts.map (rnET f))) v:=fun ts ⟨vs,h1,h2,h3⟩=>⟨vs,h1,by simpa using h2,fun j t ht=>by
    simp only[Ra,Ma]at ht;obtain⟨t0,ht,rfl⟩:=ht;obtain⟨u,q1,q2⟩:=h3 j t0 ht;exact⟨u,q1,q2.ren hC2 fun i _=>hsl i⟩⟩
   match ts,hr with
   |[t],hr=>exact RepT.ren hC2 (fun i _=>hsl i) hr
   |[],hr=>exact tup _ hr
   |_::_::_,hr=>exact tup _ hr
  have:=this _ v2;rw[show(jh con h nx m y).val=resE (((con.outS.sl I).enc y).1.map (rnET f)) by simp only[jh,hp];rfl];exact this
 ·have hq:q∈((con.outS.sl I).enc y).2.map (fun o=>(f o.1,rnEO f o.2))++Sj m con.cst con.outS.objs con.inS.objs:=by have:=hq;simp only[jh,hp]at this;exact this
  rcases Rc.1 hq with hq|hq
  ·obtain⟨o,ho,rfl⟩:=Nb.1 hq;have h1:=OV con.outS y o ho;have h2:=o2 o ho;obtain⟨b,k,n,e⟩:=Mx h1 h2;exact LZ hI hC2 h1 h2 (kf _ (by rw[e];simp)) (fun b e=>by
    have hn: ¬Far b:=fun hF=>by rw[d0 b hF]at e;cases e
    rw[d2 b hn,e]) fun j _=>hsl j
  ·rw[aD q hq];trivial
 ·rcases cas a with⟨i,hi,rfl⟩|⟨j,hj,rfl⟩|⟨h1,h2⟩
  ·obtain⟨b,k,n,e⟩:=live i hi;rw[e]at ha;cases ha
  ·simp only[jh]at hn;omega
  ·rw[k3 a h1 h2];exact ha
end
section
variable {I:Ip} {P:Program} {ι:Asg} {w:World} {h:Nat->Option (EO I.C)} {nx:Nat} {R:Type} {r0:R} {q:Path} {g:Bool} {K:Kt I R}
def Runs(P:Program)(a:Act)(o:Oper)(w:World)(G:Value->World->Prop):Prop:=
 (∃v w',(execOp a.eval o).run P w= .ok (.value v) w'/\G v w')\/(∃w',(execOp a.eval o).run P w= .ok .skip w'/\G undef w')\/
  ∃f vs,(execOp a.eval o).run P w= .ok (.enter f vs) w/\Calls P f vs w fun e w'=> ∃v,e= .returned v/\G v w'
theorem Runs.wp{a:Act}{o:Oper}{G:Value->World->Prop}(h:Runs P a o w G){K:Act->World->Prop}{Q:Exit->Act->World->Prop}(hK: ∀v w',G v w'->K (a.put o.dst v) w'):o.wp P a w K Q:=by
 unfold Oper.wp;rcases h with⟨v,w',h,g⟩|⟨w',h,g⟩|⟨f,vs,h,g⟩
 ·rw[h];exact hK v w' g
 ·rw[h];exact hK undef w' g
 ·rw[h];refine g.mono fun e w' ⟨v,he,hg⟩=> ?_;subst he;exact hK v w' hg
def OpG(P:Program)(g:Bool)(h:Nat->Option (EO I.C))(nx:Nat)(K:Kt I R)(r0:R)(o:Oper)(E:Operand->EL I.C):Prop:=
 ∃res,K res=some r0/\(g=false->res.up=[])/\(g=true-> ∀ι w (a:Act),Wf ι w->Hd P h (res.rd++res.up.map (·.1)) ι w->(∀j,j<res.k->ι (nx+j)= .free)->(∀x∈o.op.operands,RepL ι w (E x) (a.eval x))->Runs P a o w (Done P ι w nx res))
theorem OpD.opg{A:Asg->World->Sem Value->Prop}{o:Oper}{E:Operand->EL I.C}(h1:OpD P g h nx K r0 A)(f:Act->Sem Value)(he: ∀a:Act,execOp a.eval o=(do pure (.value (<-f a))))(hA:g=true-> ∀ι w (a:Act),(∀x∈o.op.operands,RepL ι w (E x) (a.eval x))->A ι w (f a)):OpG P g h nx K r0 o E:=
 let⟨res,a,b,c⟩:=h1
 ⟨res,a,b,fun hg ι w a W hd hf hE=>by
  obtain⟨v,w',e1,e2⟩:=c hg ι w _ W hd hf (hA hg ι w a hE);exact .inl ⟨v,w',by rw[he];simp[e1],e2⟩⟩
theorem Ms{x:EL I.C}{o:Oper}{E:Operand->EL I.C}{rd:List Nat}{k:Nat}(h0:K ⟨x,[],rd,k⟩=some r0)(h1:g=true-> ∀ι w (a:Act),Hd P h rd ι w->(∀x∈o.op.operands,RepL ι w (E x) (a.eval x))-> ∃v,(execOp a.eval o).run P w= .ok (.value v) w/\RepL ι w x v):OpG P g h nx K r0 o E:=
 ⟨_,h0,fun _=>rfl,fun hg ι w a W hd _ hE=>by
  obtain⟨v,e1,e2⟩:=h1 hg ι w a (hd.mono fun i hi=>jd _ hi) hE;exact .inl ⟨v,w,e1, .same W e2⟩⟩
theorem jo{e:Nat->Option (EL I.C)}{t:Nat}{w:Bool}{r:Path}:qA e ((t,w)::r)=(litB w (Tm e t)&&qA e r):=by cases r<;>simp[qA]
theorem gZ{e:Nat->Option (EL I.C)}{a:Nat×Bool}: ∀{q:Path},memK a q=true->qA e q=true->litB a.2 (Tm e a.1)=true
 |[],h,_=>by cases h
 |(t,w)::r,h,hp=>by
  rw[jo,Da]at hp;simp only[memK]at h;cases hb:beqK a (t,w)with
  |true=>
   simp only[beqK,Da]at hb;have e1:=La hb.1;have e2:a.2=w:=by have:=hb.2;cases h1:a.2<;>cases w<;>simp_all
   rw[e1,e2];exact hp.1
  |false=>rw[hb]at h;exact gZ h hp.2
theorem LD{e:Nat->Option (EL I.C)}: ∀{ks q:Path},subK ks q=true->qA e q=true->qA e ks=true
 |[],_,_,_=>rfl
 |(t,w)::r,q,h,hp=>by
  simp only[subK]at h;cases hm:memK (t,w) q with
  |false=>rw[hm]at h;cases h
  |true=> rw[hm]at h;rw[jo,gZ hm hp,LD h hp];rfl
variable {X:Cx I} {st:ES I.C}
def Cons(e:Nat->Option (EL I.C)):Prop:= ∀t ks b x,e t=some (.opt ks b x)->qA e ks=b
theorem HY{x:Operand}{ks:Path}{b:Bool}{t:ET I.C}(hc:Cons (lkE X st))(h:opdE X st x= .opt ks b t):qA (lkE X st) ks=b:=by
 cases x with
 |tmp i=>
  simp only[opdE]at h;split at h
  ·rename_i y hy;cases y<;>simp only[nrmL,reduceCtorEq,EL.opt.injEq]at h;obtain⟨rfl,rfl,_⟩:=h;exact hc _ _ _ _ hy
  ·cases h
 |const v=>
  simp only[opdE]at h;unfold eB at h;split at h
  ·rename_i vs;generalize (vs.all fun x=>x.oneCell')=z at h;cases z<;>cases h
  ·cases h
  ·cases h
 |global g=>cases h
 |func f=>cases h
theorem Z7(hc:Cons (lkE X st)){x:Operand}{t:ET I.C}(h:useE q (opdE X st x)=some t)(hg:qA (lkE X st) q=true){v:Value}(hv:RepL ι w (opdE X st x) v):RepT ι w t v:=by
 unfold useE at h;split at h
 ·rename_i e;cases h;rw[e]at hv;exact hv
 ·rename_i e;obtain⟨h1,h2⟩:=Zb h;cases h2;rw[e]at hv;exact hv.1 (by rw[<-HY hc e];exact LD h1 hg)
 ·cases h
theorem EC(hc:Cons (lkE X st))(hg:qA (lkE X st) q=true){a:Act}: ∀{xs:List Operand} {as:List (ET I.C)},allE q (xs.map (opdE X st))=some as->(∀x∈xs,RepL ι w (opdE X st x) (a.eval x))->as.length=xs.length/\ ∀(j:Nat) (t:ET I.C),as[j]? =some t-> ∃u,(xs.map a.eval)[j]? =some u/\RepT ι w t u
 |[],as,h,_=>by cases h;exact⟨rfl,by simp⟩
 |x::r,as,h,hE=>by
  simp only[Jc,allE]at h;split at h
  ·rename_i t l ht hl;cases h;obtain⟨i1,i2⟩:=EC hc hg hl fun y hy=>hE y (Kb _ hy);refine⟨by simp[i1],fun j t' hj=> ?_⟩;cases j with
   |zero=>cases hj;exact⟨_,rfl,Z7 hc ht hg (hE x (by simp))⟩
   |succ j=>exact i2 j t' hj
  ·cases h
theorem RD(hc:Cons (lkE X st)){x:Operand}{ks:Path}{b:Bool}(h:DI (opdE X st x)=some (ks,b))(hp:qA (lkE X st) ks=true){v:Value}(hv:RepL ι w (opdE X st x) v):v= .bool b:=by
 unfold DI at h;split at h
 ·rename_i e;cases h;rw[e]at hv;exact Zf rfl hv
 ·rename_i e;cases h;rw[e]at hv;exact Zf rfl (hv.1 (by rw[<-HY hc e];exact hp))
 ·cases h
theorem zLq{t:Nat}{b:Bool}(h:useE q (opdE X st (.tmp t))=some (.c (.bool b))):Tm (lkE X st) t=b:=by
 have at_: ∀{z:ET I.C},nrmT (lkO X st) z= .c (.bool b)->z= .c (.bool b):=fun {z} e=>by
  cases z with
  |c u=>cases u<;>simp only[nrmT,nrmV,ET.c.injEq,reduceCtorEq,EV.bool.injEq]at e<;>first|(subst e;rfl)|(split at e<;>cases e)
  |agg=>cases e
 simp only[opdE]at h;unfold Tm;cases hl:lkE X st t with
 |none=>rw[hl]at h;cases h
 |some z=>
  rw[hl]at h;cases z with
  |any=>cases h
  |tup ts=>cases h
  |v z=>rw[at_ (z:=z) (by simpa [nrmL,useE] using h)]
  |opt ks b' z=>simp only[nrmL,useE]at h;rw[at_ (z:=z) (by simpa using (Zb h).2)]
theorem zKb(hc:Cons (lkE X st)){o:Oper}{c x y:Operand}(ho:o.op= .pick c x y)(h0:iM c (opdE X st c) (opdE X st x) (opdE X st y) q K=some r0):OpG P (qA (lkE X st) q) h nx K r0 o (opdE X st):=by
 have run: ∀{b:Bool} {a:Act} {w:World},a.eval c= .bool b->(execOp a.eval o).run P w= .ok (.value (if b=true then a.eval x else a.eval y)) w:=by intro b a w hb;cases b<;>simp[execOp,ho,hb,asBool]
 have ops: ∀z∈[c,x,y],z∈o.op.operands:=by rw[ho];intro z hz;simpa [Op.operands] using hz
 unfold iM at h0;split at h0
 ·rename_i t b ka ba kb bb hx hy hcc;obtain⟨hk,h0⟩:=Zb h0;rw[Da]at hk;refine Ms h0 fun hg ι w a hd hE=> ?_;have h1:=Zf rfl (Z7 hc hcc hg (hE _ (ops _ (by simp))));refine⟨_,run h1,?_⟩;have hb:=zLq hcc;cases b with
  |true=> have:=RD hc hx (LD hk.1 (by rw[jo,hb,hg];rfl)) (hE x (ops _ (by simp)));rw[Sa rfl,this];exact mi _
  |false=> have:=RD hc hy (LD hk.2 (by rw[jo,hb,hg];rfl)) (hE y (ops _ (by simp)));rw[Oa (by simp),this];exact mi _
 ·rename_i b ba bb _ hx hy hcc;refine Ms h0 fun hg ι w a hd hE=> ?_;have h1:=Zf rfl (Z7 hc hcc hg (hE _ (ops _ (by simp))));refine⟨_,run h1,?_⟩;cases b with
  |true=>rw[Sa rfl,RD hc hx rfl (hE x (ops _ (by simp)))];exact mi _
  |false=>rw[Oa (by simp),RD hc hy rfl (hE y (ops _ (by simp)))];exact mi _
 ·cases h0
theorem tX{a:Act}: ∀{xs:List Operand} {l:List (Nat×Nat×Nat)},EI (opdE X st) xs=some l->(∀x∈xs,RepL ι w (opdE X st x) (a.eval x))->l.length=xs.length/\ ∀(j:Nat) q,l[j]? =some q-> ∃u,(xs.map a.eval)[j]? =some u/\RepT (I:=I) ι w (.c (.optr q.1 q.2.1 q.2.2)) u
 |[],l,h,_=>by cases h;exact⟨rfl,by simp⟩
 |x::r,l,h,hE=>by
  simp only[EI]at h;split at h
  ·rename_i id row cell l' hx hl;cases h;obtain⟨i1,i2⟩:=tX hl fun y hy=>hE y (Kb _ hy);refine⟨by simp[i1],fun j q hq=> ?_⟩;cases j with
   |zero=>cases hq;have:=hE x (by simp);rw[hx]at this;exact⟨_,rfl,this⟩
   |succ j=>exact i2 j q hq
  ·cases h
theorem zM0{x:ET I.C}{v:Value}(h:RepT ι w x v):RepT ι w (unF x) v:=by
 unfold unF;split
 ·exact⟨h.1,h.2.1⟩
 ·exact h
theorem vX(hI:IpOK P I)(hg:q=[]->g=true){f:Nat}{as:List (ET I.C)}: ∀{S:List (Con I)},(∀c∈S,ZL P c)->dA h nx f as q g K S=some r0->
  ∃res,K res=some r0/\(g=false->res.up=[])/\(∃fn,P.funcs[f]? =some fn/\(fn.name== "runtime.NumGoroutine")=false/\fn.body.isSome=true\/g=false)/\(g=true-> ∀ι w vs,Wf ι w->Hd P h (res.rd++res.up.map (·.1)) ι w->(∀j,j<res.k->ι (nx+j)= .free)->Gh ι w as vs->Calls P f vs w fun e w'=> ∃v,e= .returned v/\Done P ι w nx res v w')
 |[],_,h0=>by cases h0
 |con::r,hS,h0=>by
  have rest:=fun h=>vX hI hg (f:=f) (as:=as) (S:=r) (fun c hc=>hS c (Kb _ hc)) h;simp only[dA]at h0;cases hf:Nat.beq con.f f with
  |false=>rw[hf]at h0;exact rest h0
  |true=>
   rw[hf]at h0;simp only[Ca]at h0;have hf:=La hf;split at h0
   case h_2=>exact rest h0
   rename_i x m hm;have hc:=hS con (Ob ..);have fn:(g=true-> ∃y,con.F x=some y)-> ∃fn,P.funcs[f]? =some fn/\(fn.name== "runtime.NumGoroutine")=false/\fn.body.isSome=true\/g=false:=fun h=>by
    rcases ic g with e|e
    ·obtain⟨y,hy⟩:=h e;obtain⟨fn,h1⟩:=hc.fn x y hy;exact⟨fn, .inl (hf▸h1)⟩
    ·exact⟨default, .inr e⟩
   unfold OU at h0;split at h0
   case h_2=>cases h0
   rename_i hn;have hb:(m.all fun z=>Nat.blt z.1 con.inS.objs.length)=true/\Np m=[]:=by
    cases hall:(m.all fun z=>Nat.blt z.1 con.inS.objs.length)<;>rw[hall]at hn
    ·cases hn
    ·exact⟨rfl,hn⟩
   have go: ∀y,con.F x=some y-> ∀ι w vs,Wf ι w->Hd P h ((jh con h nx m y).rd++(jh con h nx m y).up.map (·.1)) ι w->(∀j,j<(jh con h nx m y).k->ι (nx+j)= .free)->Gh ι w as vs->Calls P f vs w fun e w'=> ∃v,e= .returned v/\Done P ι w nx (jh con h nx m y) v w':=
    fun y hy ι w vs W hd hfr hv=>hf▸zLu hI hc hm hb.1 hb.2 hy W hd hfr hv
   split at h0
   ·obtain⟨y,hy,h0⟩:=Ka.1 h0;exact⟨_,h0,fun e=>(by rw[hg rfl]at e;cases e),fn fun _=>⟨y,hy⟩,fun _=>go y hy⟩
   ·rename_i _ ho hgn;obtain⟨hk,h0⟩:=Zb h0;obtain⟨y,hy,h0⟩:=Ka.1 h0;refine⟨_,h0,fun _=> ?_,fn fun e=>⟨y,by rw[e]at hy;exact hy⟩,fun e=>go y (by rw[e]at hy;exact hy)⟩;have:((con.outS.sl I).enc y).2=[]:=by have:=(Wn (P:=P) hI con.outS).1 y;rw[ho]at this;exact List.map_eq_nil_iff.1 this
    simp only[jh,this,List.map_nil,Bc];exact hgn
   ·cases g with
    |true=>
     obtain⟨y,hy,h0⟩:=Ka.1 h0;exact⟨_,h0,fun e=>(by cases e),fn fun _=>⟨y,hy⟩,fun _=>go y hy⟩
    |false=>exact⟨_,h0,fun _=>rfl,⟨default, .inr rfl⟩,fun e=>(by cases e)⟩
theorem zNY(hI:IpOK P I)(hT:TOK P X.T X.fk){S:List (Con I)}(hS: ∀c∈S,ZL P c){fz:Nat}(hc:Cons (lkE X st)){o:Oper}(h0:opE X S fz st q (qA (lkE X st) q) o.op K=some r0):OpG P (qA (lkE X st) q) (lkO X st) st.next K r0 o (opdE X st):=by
 have hg:q=[]->qA (lkE X st) q=true:=fun e=>by rw[e];rfl
 have key: ∀x,x∈o.op.operands->(∀(a:Act) (w:World),(execOp a.eval o).run P w= .ok (.value (a.eval x)) w)->(optB (match q,opdE X st x with|[], .tup ts=>some (EL.tup ts)|_,y=>(useE q y).map .v) fun v=>K ⟨v,[],[],0⟩)=some r0->OpG P (qA (lkE X st) q) (lkO X st) st.next K r0 o (opdE X st):=by
  intro x hx he h0;obtain⟨v,hv,h0⟩:=Zw h0;refine Ms h0 fun hg ι w a _ hE=>⟨_,he a w,?_⟩;have hr:=hE x hx;generalize hy:opdE X st x=y at hv hr;split at hv
  ·cases hv;exact hr
  ·obtain⟨t,ht,rfl⟩:=Ma.1 hv;rw[<-hy]at ht hr;exact Z7 hc ht hg hr
 have hbi: ∀{c:Call} {b:Builtin} {s:Act->Sem Value},o.op= .call c->c.callee= .builtin b->(∀(a:Act) cs,builtin b c.argTypes o.type cs (c.args.map a.eval)=(do pure (.value (<-s a))))-> ∀a:Act,execOp a.eval o=(do pure (.value (<-s a))):=by intro c b s ho hc hb a;simp only[execOp,ho,resolve,hc];simp only[invoke,pure_bind,hb]
 cases ho:o.op<;>rw[ho]at h0<;>simp only[opE]at h0<;>try (cases h0;done)
 case move x=>exact key x (by rw[ho];simp[Op.operands]) (fun a w=>by simp[execOp,ho]) h0
 case assign x=>exact key x (by rw[ho];simp[Op.operands]) (fun a w=>by simp[execOp,ho]) h0
 case pick c x y=>exact zKb hc ho h0
 case alloc t=>
  split at h0
  ·exact(zFq hI hT hg h0).opg (fun _=>Instr.alloc t true (.tuple #[])) (by simp[execOp,ho]) fun _ _ _ _ _=>rfl
  ·exact(zFs hT hg h0).opg (fun _=>Instr.alloc t true (.tuple #[])) (by simp[execOp,ho]) fun _ _ _ _ _=>rfl
  split at h0
  ·obtain⟨hz,h0⟩:=Zb h0;exact(zIN hT hg rfl hz h0).opg (fun _=>Instr.alloc t true (.tuple #[])) (by simp[execOp,ho]) fun _ _ _ _ _=>rfl
  ·cases h0
 case box t x=>
  split at h0
  ·obtain⟨v,hv,h0⟩:=Zw h0;obtain⟨_,h0⟩:=Zb h0;exact(zNj hg rfl h0).opg (fun a=>Instr.box t (a.eval x)) (by simp[execOp,ho]) fun hg ι w a hE=>⟨_,Z7 hc hv hg (hE x (by simp[ho,Op.operands])),rfl⟩
  ·cases h0
 case build t parts=> exact(zFF (h:=lkO X st) hT h0).opd.opg (fun a=>Instr.build t (parts.map fun(i,x)=>(i,a.eval x))) (by simp[execOp,ho]) fun hg ι w a hE=>⟨a.eval,fun p hp t ht=>Z7 hc ht hg (hE p.2 (by rw[ho];simp only[Op.operands,List.mem_toArray,Array.mem_def];exact Nb.2 ⟨p,hp,rfl⟩)),rfl⟩
 case buildSlice t len parts=> exact(ztK hI hT hg h0).opg (fun a=>Instr.buildSlice t len (parts.map fun(i,x)=>(i,a.eval x))) (by simp[execOp,ho]) fun hg ι w a hE=>⟨a.eval,fun p hp t ht=>Z7 hc ht hg (hE p.2 (by rw[ho];simp only[Op.operands,List.mem_toArray,Array.mem_def];exact Nb.2 ⟨p,hp,rfl⟩)),rfl⟩
 case load t x=> obtain⟨v,hv,h0⟩:=Zw h0;exact(zJQ hI hT hg h0).opd.opg (fun a=>Instr.loadAt t (a.eval x)) (by simp[execOp,ho]) fun hg ι w a hE=>⟨_,Z7 hc hv hg (hE x (by simp[ho,Op.operands])),rfl⟩
 case store t x y=> obtain⟨v,hv,h0⟩:=Zw h0;obtain⟨u,hu,h0⟩:=Zw h0;obtain⟨res,h1,h2,h3⟩:=zIy (P:=P) (nx:=st.next) hI hT hg h0;refine⟨res,h1,h2,fun hg ι w a W hd _ hE=> ?_⟩;obtain⟨w',e1,e2⟩:=h3 hg ι w _ _ W hd (Z7 hc hv hg (hE x (by simp[ho,Op.operands]))) (Z7 hc hu hg (hE y (by simp[ho,Op.operands])));exact .inr (.inl ⟨w',by simp[execOp,ho,e1],e2⟩)
 case nilCheck x=>
  obtain⟨v,hv,h0⟩:=Zw h0;unfold fZ at h0;have key: ∀{v:ET I.C} {rd:List Nat},useE q (opdE X st x)=some v->K ⟨.v v,[],rd,0⟩=some r0->(∀ι w u,Hd P (lkO X st) rd ι w->RepT ι w v u->(∃p,u= .pointer (some p))\/ ∃f c,u= .func (.func f) #[] c)->OpG P (qA (lkE X st) q) (lkO X st) st.next K r0 o (opdE X st):=by intro v rd hv h0 hp;refine Ms h0 fun hg ι w a hd hE=> ?_;have hr:=Z7 hc hv hg (hE x (by simp[ho,Op.operands]));refine⟨a.eval x,?_,hr⟩;rcases hp ι w _ hd hr with⟨p,e⟩|⟨_,_,e⟩<;>simp[execOp,ho,e]
  split at h0
  ·split at h0<;>first
    |(cases h0;done)
    |(rename_i hid
      exact key hv h0 fun ι w u hd hu=>by obtain⟨b,rfl,_⟩:=eO rfl (hd.2 _ (by simp) _ hid) hu;exact .inl ⟨_,rfl⟩)
  ·exact key hv h0 fun ι w u _ ⟨_,hu⟩=>by cases hu;exact .inl ⟨_,rfl⟩
  ·exact key hv h0 fun ι w u _ ⟨_,vs,hu,_⟩=> .inr ⟨_,_,hu⟩
  ·cases h0
 case binOp op t x y ty=> obtain⟨v,hv,h0⟩:=Zw h0;obtain⟨u,hu,h0⟩:=Zw h0;exact(zLp (h:=lkO X st) hT x y hg h0).opd.opg (fun a=>do eqGuard op t x y (a.eval x) (a.eval y);binOp op t (a.eval x) (a.eval y)) (by simp[execOp,ho]) fun hg ι w a hE=>⟨_,_,Z7 hc hv hg (hE x (by simp[ho,Op.operands])),Z7 hc hu hg (hE y (by simp[ho,Op.operands])),rfl⟩
 case unOp op t x=> obtain⟨v,hv,h0⟩:=Zw h0;exact(zOv (h:=lkO X st) (g:=qA (lkE X st) q) h0).opd.opg (fun a=>Op.unary op (a.eval x)) (by simp[execOp,ho]) fun hg ι w a hE=>⟨_,Z7 hc hv hg (hE x (by simp[ho,Op.operands])),rfl⟩
 case convert s d x=> obtain⟨v,hv,h0⟩:=Zw h0;exact(zJc hI hT hg h0).opg (fun a=>convert s d (a.eval x)) (by simp[execOp,ho]) fun hg ι w a hE=>⟨_,Z7 hc hv hg (hE x (by simp[ho,Op.operands])),rfl⟩
 case makeFunc fn first captured=>
  cases fn<;>try (cases h0;done)
  rename_i f;simp only at h0;split at h0
  case h_2=>cases h0
  rename_i hfirst;obtain⟨l,hl,h0⟩:=Zw h0;refine Ms h0 fun _ ι w a _ hE=> ?_;obtain⟨c1,c2⟩:=tX hl fun x hx=>hE x (by rw[ho];simp[Op.operands];exact .inr (by simpa using hx));refine⟨.func (.func f) #[] (captured.map a.eval),?_,rfl,_,rfl,by rw[Array.size_map,c1,Od],fun j q hq=> ?_⟩
  ·have:first= #[]:=by simpa using hfirst
   simp[execOp,ho,this,Instr.makeFunc]
  ·obtain⟨u,h1,h2⟩:=c2 j q hq;exact⟨u,by rw[<-h1,<-Ed,Array.toList_map],h2.1,h2.2⟩
 case makeSlice t l c=>
  obtain⟨v,hv,h0⟩:=Zw h0;obtain⟨u,hu,h0⟩:=Zw h0;have key:OpD P (qA (lkE X st) q) (lkO X st) st.next K r0 fun ι w s=> ∃vl vc,RepT ι w v vl/\RepT ι w u vc/\s=Instr.makeSlice t vl vc:=by
   split at h0
   ·exact zJT hT hg h0
   ·exact OY hI hT hg h0
  exact key.opg (fun a=>Instr.makeSlice t (a.eval l) (a.eval c)) (by simp[execOp,ho]) fun hg ι w a hE=>⟨_,_,Z7 hc hv hg (hE l (by simp[ho,Op.operands])),Z7 hc hu hg (hE c (by simp[ho,Op.operands])),rfl⟩
 case slice t x lo hi mx=>
  obtain⟨v,hv,h0⟩:=Zw h0;obtain⟨l,hl,h0⟩:=Zw h0;obtain⟨hh,hhh,h0⟩:=Zw h0;obtain⟨m,hm,h0⟩:=Zw h0;have bnd: ∀{y:Option Operand} {n ι w} {a:Act},bndE q (opdE X st) y=some n->qA (lkE X st) q=true->(∀z,y=some z->RepL ι w (opdE X st z) (a.eval z))->Bnd (y.map a.eval) n:=by
   intro y n ι w a hb hg hE;cases y with
   |none=>cases hb;exact .inl ⟨rfl,rfl⟩
   |some z=>
    simp only[bndE]at hb;split at hb
    ·rename_i hz;cases hb;exact .inr ⟨_,_,congrArg some (Zf rfl (Z7 hc hz hg (hE z rfl))),rfl⟩
    ·cases hb
  have key:OpD P (qA (lkE X st) q) (lkO X st) st.next K r0 fun ι w s=> ∃vx lo hi mx,RepT ι w v vx/\Bnd lo l/\Bnd hi hh/\Bnd mx m/\s=Instr.sliceAt t vx lo hi mx:=by
   split at h0
   ·exact zIt hI hT hg h0
   ·exact(zIr hI hT hg h0).opd
  exact key.opg (fun a=>Instr.sliceAt t (a.eval x) (lo.map a.eval) (hi.map a.eval) (mx.map a.eval)) (by simp[execOp,ho]) fun hg ι w a hE=>
   ⟨_,_,_,_,Z7 hc hv hg (hE x (by simp[ho,Op.operands])),bnd hl hg fun z e=>hE z (by simp[ho,Op.operands,e]),bnd hhh hg fun z e=>hE z (by simp[ho,Op.operands,e]),bnd hm hg fun z e=>hE z (by simp[ho,Op.operands,e]),rfl⟩
 case fieldAddr t x f=> obtain⟨v,hv,h0⟩:=Zw h0;exact(D8 (g:=qA (lkE X st) q) hT h0).opd.opg (fun a=>Instr.fieldAt t (a.eval x) f) (by simp[execOp,ho]) fun hg ι w a hE=>⟨_,Z7 hc hv hg (hE x (by simp[ho,Op.operands])),rfl⟩
 case field t x f=> obtain⟨v,hv,h0⟩:=Zw h0;exact(zGl (h:=lkO X st) (g:=qA (lkE X st) q) hT h0).opd.opg (fun a=>Instr.field t (a.eval x) f) (by simp[execOp,ho]) fun hg ι w a hE=>⟨_,Z7 hc hv hg (hE x (by simp[ho,Op.operands])),rfl⟩
 case indexAddr t x i=> obtain⟨v,hv,h0⟩:=Zw h0;obtain⟨u,hu,h0⟩:=Zw h0;exact(N8 hI hT hg h0).opd.opg (fun a=>Instr.indexAt t (a.eval x) (a.eval i)) (by simp[execOp,ho]) fun hg ι w a hE=>⟨_,_,Z7 hc hv hg (hE x (by simp[ho,Op.operands])),Z7 hc hu hg (hE i (by simp[ho,Op.operands])),rfl⟩
 case index t x i=> obtain⟨v,hv,h0⟩:=Zw h0;obtain⟨u,hu,h0⟩:=Zw h0;exact(zGK (h:=lkO X st) hT hg h0).opd.opg (fun a=>Instr.index t (a.eval x) (a.eval i)) (by simp[execOp,ho]) fun hg ι w a hE=>⟨_,_,Z7 hc hv hg (hE x (by simp[ho,Op.operands])),Z7 hc hu hg (hE i (by simp[ho,Op.operands])),rfl⟩
 case extract x i=>
  split at h0
  ·rename_i ts hts;obtain⟨t,ht,h0⟩:=Zw h0;refine Ms h0 fun _ ι w a _ hE=> ?_;have hr:=hE x (by simp[ho,Op.operands]);rw[hts]at hr;obtain⟨vs,hv,_,h2⟩:=hr;obtain⟨u,h3,h4⟩:=h2 i t ht;exact⟨u,by simp[execOp,ho,Instr.extract,hv,h3],h4⟩
  ·cases h0
 case makeMap t sz=>
  cases sz with
  |none=>exact(zEZ (P:=P) (T:=X.T) (t:=t) hg h0).opg (fun _=>Instr.makeMap t none) (by simp[execOp,ho]) fun _ _ _ _ _=>rfl
  |some e=>cases h0
 case insert t m k x=> obtain⟨vm,hm,h0⟩:=Zw h0;obtain⟨vk,hk,h0⟩:=Zw h0;obtain⟨vx,hx,h0⟩:=Zw h0;obtain⟨res,h1,h2,h3⟩:=zGL (P:=P) (nx:=st.next) hT hg h0;refine⟨res,h1,h2,fun hg ι w a W hd _ hE=> ?_⟩;obtain⟨w',e1,e2⟩:=h3 hg ι w _ _ _ W hd (Z7 hc hm hg (hE m (by simp[ho,Op.operands]))) (Z7 hc hk hg (hE k (by simp[ho,Op.operands]))) (Z7 hc hx hg (hE x (by simp[ho,Op.operands])));exact .inr (.inl ⟨w',by simp[execOp,ho,e1],e2⟩)
 case lookup t m k ok=> obtain⟨vm,hm,h0⟩:=Zw h0;obtain⟨vk,hk,h0⟩:=Zw h0;exact(zG1 (g:=qA (lkE X st) q) hT h0).opd.opg (fun a=>Instr.lookup t (a.eval m) (a.eval k) ok) (by simp[execOp,ho]) fun hg ι w a hE=>⟨_,_,Z7 hc hm hg (hE m (by simp[ho,Op.operands])),Z7 hc hk hg (hE k (by simp[ho,Op.operands])),rfl⟩
 case call c=>
  have ops: ∀{b},c.callee= .builtin b-> ∀x∈c.args.toList,x∈o.op.operands:=fun hcl x hx=>by rw[ho];simp[Op.operands,Call.operands,hcl];simpa using hx
  split at h0
  ·rename_i f hcl;obtain⟨fc,hfc,h0⟩:=Zw h0;obtain⟨as,has,h0⟩:=Zw h0;obtain⟨res,r1,r2,⟨fn,r3⟩,r4⟩:=vX hI hg hS h0;refine⟨res,r1,r2,fun hgt ι w a W hd hf hE=> ?_⟩;have ops: ∀x,x=f\/x∈c.args.toList->x∈o.op.operands:=fun x hx=>by rw[ho];simp[Op.operands,Call.operands,hcl];simpa using hx
   obtain⟨f1,f2,f3⟩:=r3.resolve_right (by rw[hgt];simp);obtain⟨a1,a2⟩:=EC hc hgt has fun x hx=>hE x (ops x (.inr hx));have hclo: ∃g0 caps,fc=(g0,caps)/\useE q (opdE X st f)=some (.c (.clo g0 caps)):=by
    unfold cloE at hfc;split at hfc
    ·rename_i e;cases hfc;exact⟨_,_,rfl,e⟩
    ·cases hfc
   obtain⟨g0,caps,rfl,hu⟩:=hclo;obtain⟨_,vs,hve,v1,v2⟩:=Z7 hc hu hgt (hE f (ops f (.inl rfl)));refine .inr (.inr ⟨g0,c.args.map a.eval++vs,?_,r4 hgt ι w _ W hd hf ⟨?_,fun j t ht=> ?_⟩⟩)
   ·simp only[execOp,ho,resolve,hcl,hve,Deferred.ofValue,Sem.run_bind,Sem.run_pure,Result.andThen_ok,invoke,Array.empty_append];exact zI4 f1 f2 f3
   ·simp[a1,v1]
   ·rw[Ec]at ht;split at ht<;>rename_i hj
    ·simp only[Ra,Ma]at ht;obtain⟨t0,ht,rfl⟩:=ht;obtain⟨u,h1,h2⟩:=a2 j t0 ht;refine⟨u,?_,zM0 h2⟩;rw[Sd,Sa (by have:=a1;simp at hj this ⊢;omega),<-h1,<-Ed,Array.toList_map]
    ·simp only[Ra,Ma]at ht;obtain⟨q0,ht,rfl⟩:=ht;obtain⟨u,h1,h2,h3⟩:=v2 _ q0 ht;refine⟨u,?_,h2,h3⟩;rw[Sd,Oa (by have:=a1;simp at hj this ⊢;omega),<-h1];congr 1;simp[a1]
  ·rename_i hcl;split at h0
   case h_2=>cases h0
   rename_i t x ht hx;obtain⟨v,hv,h0⟩:=Zw h0;have e1:c.argTypes= #[t]:=by rw[<-Ae (xs:=c.argTypes),ht]
   have e2: ∀a:Act,c.args.map a.eval= #[a.eval x]:=fun a=>by rw[<-Ae (xs:=c.args),hx];simp
   exact(zL8 (g:=qA (lkE X st) q) hT o.type h0).opd.opg (fun a=>Builtin.len_ #[t] o.type #[a.eval x]) (hbi ho hcl fun a cs=>by rw[e1,e2];rfl) fun hg ι w a hE=>⟨_,Z7 hc hv hg (hE x (ops hcl x (by rw[hx];simp))),rfl⟩
  ·rename_i hcl;split at h0
   case h_2=>cases h0
   rename_i t u s x ht hx;obtain⟨v,hv,h0⟩:=Zw h0;obtain⟨v2,hv2,h0⟩:=Zw h0;have e1:c.argTypes= #[t,u]:=by rw[<-Ae (xs:=c.argTypes),ht]
   have e2: ∀a:Act,c.args.map a.eval= #[a.eval s,a.eval x]:=fun a=>by rw[<-Ae (xs:=c.args),hx];simp
   exact(zEr hI hT o.type hg h0).opg (fun a=>Builtin.append_ #[t,u] o.type #[a.eval s,a.eval x]) (hbi ho hcl fun a cs=>by rw[e1,e2];rfl) fun hg ι w a hE=>⟨_,_,Z7 hc hv hg (hE s (ops hcl s (by rw[hx];simp))),Z7 hc hv2 hg (hE x (ops hcl x (by rw[hx];simp))),rfl⟩
  ·rename_i hcl;split at h0
   case h_2=>cases h0
   rename_i t u s x ht hx;obtain⟨v,hv,h0⟩:=Zw h0;obtain⟨v2,hv2,h0⟩:=Zw h0;have e1:c.argTypes= #[t,u]:=by rw[<-Ae (xs:=c.argTypes),ht]
   have e2: ∀a:Act,c.args.map a.eval= #[a.eval s,a.eval x]:=fun a=>by rw[<-Ae (xs:=c.args),hx];simp
   exact(zJd hI hT o.type hg h0).opg (fun a=>Builtin.copy_ #[t,u] o.type #[a.eval s,a.eval x]) (hbi ho hcl fun a cs=>by rw[e1,e2];rfl) fun hg ι w a hE=>⟨_,_,Z7 hc hv hg (hE s (ops hcl s (by rw[hx];simp))),Z7 hc hv2 hg (hE x (ops hcl x (by rw[hx];simp))),rfl⟩
  ·rename_i hcl;obtain⟨as,has,h0⟩:=Zw h0;refine(rP (h:=lkO X st) (g:=qA (lkE X st) q) c.argTypes o.type h0).opd.opg (fun a=>Builtin.min_ c.argTypes o.type (c.args.map a.eval)) (hbi ho hcl fun a cs=>rfl) fun hg ι w a hE=> ?_;obtain⟨a1,a2⟩:=EC hc hg has fun x hx=>hE x (ops hcl x hx);exact⟨c.args.toList.map a.eval,by simpa using a1.symm,a2,by rw[<-Array.toList_map];rfl⟩
  ·rename_i hcl;obtain⟨as,has,h0⟩:=Zw h0;refine(rP (h:=lkO X st) (g:=qA (lkE X st) q) c.argTypes o.type h0).opd.opg (fun a=>Builtin.max_ c.argTypes o.type (c.args.map a.eval)) (hbi ho hcl fun a cs=>rfl) fun hg ι w a hE=> ?_;obtain⟨a1,a2⟩:=EC hc hg has fun x hx=>hE x (ops hcl x hx);exact⟨c.args.toList.map a.eval,by simpa using a1.symm,a2,by rw[<-Array.toList_map];rfl⟩
  ·cases h0
end
section
variable {I:Ip} {P:Program} {ι ι':Asg} {w w':World} {R:Type} {r0:R}
structure Base where
 ι0:Asg
 w0:World
 p:Nat
 cst:List Nat
structure Bas (B:Base) (ι:Asg) (w:World):Prop where
 c:Conv B.ι0 B.w0 ι w
 os:w.os=B.w0.os
 tape:w.tape=B.w0.tape
 output:w.output=B.w0.output
 size:B.w0.heap.size<=w.heap.size
 xs: ∀b,Held (· ∉ B.cst) (B.ι0.X b)->ι.X b=B.ι0.X b
 xn: ∀b,ι.X b= .far->B.ι0.X b= .far
 xkeep: ∀b,Held (· ∉ B.cst) (B.ι0.X b)->w.heap[b]? =B.w0.heap[b]?
 slots: ∀id,id<B.p->ι id=B.ι0 id\/(id ∉ B.cst/\(ι id= .dead\/ ∃rows,ι id= .pure rows))
 cst: ∀id b k n,id∈B.cst->B.ι0 id= .live (some b) k n->w.heap[b]? =B.w0.heap[b]?
theorem Bas.step{B:Base}{T:Nat->Prop}(h:Bas B ι w)(hp: ∀id,id<B.p->B.ι0 id≠ .free)(hc: ∀id∈B.cst,id<B.p/\ ¬T id)(S:Stp T ι w ι' w'):Bas B ι' w':=by
 have hm: ∀{x:Own},Held (· ∉ B.cst) x->Held T x:=fun hx=>gq (fun i hi hc'=>(hc i hc').2 hi) hx;refine⟨⟨fun b s hs=>S.shape b s (h.c.shape b s hs),fun b hb=>S.dom b (h.c.dom b hb),fun b hb=>(S.keep b (h.c.dom b hb)).trans (h.c.keep b hb)⟩,S.os.trans h.os,S.tape.trans h.tape,S.output.trans h.output,Bb h.size S.size,fun b hx=>(S.xs b (by rw[h.xs b hx];exact hm hx)).trans (h.xs b hx),fun b e=>h.xn b (S.xn b e),fun b hx=>(S.xkeep b (by rw[h.xs b hx];exact hm hx)).trans (h.xkeep b hx),fun id hi=> ?_,fun id b k n hi e=> ?_⟩
 ·rcases h.slots id hi with e|⟨hn,e⟩
  ·by_cases hT:T id
   ·rcases S.slots id (by grind)with e'|e'|⟨_,_,_,rows,_,e',_⟩
    ·grind
    ·grind
    grind
   ·exact .inl ((S.fix id hT (by grind)).trans e)
  ·refine .inr ⟨hn,?_⟩;rcases e with e|⟨rows,e⟩<;>rcases S.slots id (by rw[e];simp)with e'|e'|⟨_,_,_,_,e',_⟩
   ·grind
   ·exact .inl e'
   ·grind
   ·grind
   ·exact .inl e'
   ·grind
 ·obtain⟨h1,h2⟩:=hc id hi;have:ι id= .live (some b) k n:=by
   rcases h.slots id h1 with e'|⟨hn,_⟩
   ·exact e'.trans e
   ·grind
  exact(S.own id b k n h2 this).trans (h.cst id b k n hi e)
abbrev EF(I:Ip):=Nat->Option (EL I.C)
abbrev HF(I:Ip):=Nat->Option (EO I.C)
structure Vw (P:Program) (B:Base) (nt:Nat) (e:EF I) (h:HF I) (ι:Asg) (a:Act) (w:World):Prop where
 size:a.tmps.size=nt
 defers:a.defers=[]
 env: ∀t x,e t=some x->RepL ι w x (a.tmps.getD t undef)
 obj: ∀id o,h id=some o->Qd P ι w id o
 wf:Wf ι w
 bas:Bas B ι w
def putF(e:EF I)(d:Option Nat)(x:EL I.C):EF I:=fun t=>if d=some t then some x else e t
def updF(h:HF I)(up:EHeap I.C):HF I:=fun id=>match lk up id with|some o=>some o|none=>h id
structure FS (I:Ip)where
 e:EF I
 h:HF I
 nx:Nat
structure Rz (I:Ip)where
 o:Oper
 x:EL I.C
 res:OR I.C
 g:Bool
def Dj(z:Rz I)(s:FS I):FS I:=⟨putF s.e z.o.dst z.x,updF s.h z.res.up,s.nx+z.res.k⟩
theorem Gl{h:HF I}{up:EHeap I.C}{id:Nat}(hn:id ∉ up.map (·.1)):updF h up id=h id:=by
 unfold updF;cases hl:lk up id with
 |none=>rfl
 |some o=>exact absurd (Nb.2 ⟨_,Ah hl,rfl⟩) hn
theorem Vw.put {B:Base} {nt:Nat} {e:EF I} {h:HF I} {a:Act} (V:Vw P B nt e h ι a w) {T:Nat->Prop} (S:Stp T ι w ι' w') (W:Wf ι' w') (hB:Bas B ι' w') {d:Option Nat} (hd: ∀t,d=some t->t<nt) {x:EL I.C} {v:Value} (hx:RepL ι' w' x v)
  {up:EHeap I.C} (hT: ∀i,T i->i∈up.map (·.1)) (hu: ∀p∈up,Qd P ι' w' p.1 p.2):Vw P B nt (putF e d x) (updF h up) ι' (a.put d v) w':=by
 have hget: ∀t,(a.put d v).tmps.getD t undef=if d=some t then v else a.tmps.getD t undef:=fun t=>by
  cases d with
  |none=>simp[Act.put]
  |some d=>
   have hlt:d<a.tmps.size:=by rw[V.size];exact hd d rfl
   simp only[Act.put,Option.some.injEq];by_cases hi:d=t
   ·simp_all
   simp_all
 refine⟨by cases d<;>simp[Act.put,V.size],by cases d<;>exact V.defers,fun t y hy=> ?_,fun id o ho=> ?_,W,hB⟩
 ·rw[hget];unfold putF at hy;split at hy
  ·grind
  ·rw[Oa (by assumption)];exact RepL.step S (V.env t y hy)
 ·unfold updF at ho;cases hl:lk up id with
  |some o'=>rw[hl]at ho;cases ho;exact hu _ (Ah hl)
  |none=>
   rw[hl]at ho;refine(V.obj id o ho).step S fun hT'=> ?_;obtain⟨p,hp,rfl⟩:=Nb.1 (hT id hT');have: ∀{l:EHeap I.C} {p},p∈l->lk l p.1≠none:=fun {l}=>by
    induction l with
    |nil=>grind
    |cons q r ih=>
     intro p hp;rw[Z9]
     grind
   exact this hp hl
structure OkZ (P:Program) (B:Base) (nt:Nat) (ops:List Oper) (z:Rz I) (s:FS I):Prop where
 dst: ∀d,z.o.dst=some d->d<nt
 frz: ∀p∈z.res.up,XU p.2=true/\ ∀t l,s.h p.1≠some (.frz t l)
 cst: ∀p∈z.res.up,p.1 ∉ B.cst
 up0:z.g=false->z.res.up=[]
 run: ∀(ι:Asg) (a:Act) (w:World),Wf ι w->(∀id t l,s.h id=some (.frz t l)->ι id= .pure (l.map (I.full t)))->(∀t∈uj ops z.o,∀x,s.e t=some x->RepL ι w x (a.tmps.getD t undef))->(∀id,(id∈z.res.rd\/id∈z.res.up.map (·.1))-> ∀o,s.h id=some o->Qd P ι w id o)->(∀j,j<z.res.k->ι (s.nx+j)= .free)->
  Region.wanted z.o (yielded ops.toArray a.tmps)=z.g/\(z.g=true->Runs P a z.o w fun v w'=> ∃ι',Stp (fun i=>i∈z.res.up.map (·.1)) ι w ι' w'/\Wf ι' w'/\RepL ι' w' z.x v/\(∀p∈z.res.up,Qd P ι' w' p.1 p.2)/\ ∀id,ι id= .free->(id<s.nx\/s.nx+z.res.k<=id)->ι' id= .free)/\(z.g=false->RepL ι w z.x undef)
theorem OkZ.step {B:Base} {nt:Nat} {ops:List Oper} {z:Rz I} {s:FS I} (h:OkZ P B nt ops z s) (hp: ∀id,id<B.p->B.ι0 id≠ .free) (hcp: ∀id∈B.cst,id<B.p) {e:EF I} {hh:HF I} {a:Act} (V:Vw P B nt e hh ι a w) (hz: ∀id t l,s.h id=some (.frz t l)->ι id= .pure (l.map (I.full t))) (he: ∀t∈uj ops z.o,e t=s.e t) (ho: ∀id,(id∈z.res.rd\/id∈z.res.up.map (·.1))->hh id=s.h id) (hf: ∀j,j<z.res.k->ι (s.nx+j)= .free)
  {K:Act->World->Prop} {Q:Exit->Act->World->Prop} (hK: ∀ι' a' w',Vw P B nt (putF e z.o.dst z.x) (updF hh z.res.up) ι' a' w'->(∀id,ι id= .free->(id<s.nx\/s.nx+z.res.k<=id)->ι' id= .free)->(∀id rows,ι id= .pure rows->id ∉ z.res.up.map (·.1)->ι' id= .pure rows)->K a' w'):
  if Region.wanted z.o (yielded ops.toArray a.tmps)=true then z.o.wp P a w K Q else K (a.put z.o.dst undef) w:=by
 obtain⟨r1,r2,r3⟩:=h.run ι a w V.wf hz (fun t ht x hx=>V.env t x (by grind)) (fun id hid o hio=>V.obj id o (by grind)) hf;have hcs: ∀id∈B.cst,id<B.p/\ ¬(id∈z.res.up.map (·.1)):=fun id hi=>⟨hcp id hi,fun hm=>by obtain⟨p,h1,rfl⟩:=Nb.1 hm;exact h.cst p h1 hi⟩;rw[r1];cases hg:z.g with
 |true=> rw[Sa rfl];exact(r2 hg).wp fun v w' ⟨ι',S,W,hx,hu,hfr⟩=>hK ι' _ w' (V.put S W (V.bas.step hp hcs S) h.dst hx (fun _ h=>h) hu) hfr fun id rows e hn=>(S.fix id hn (by rw[e];simp)).trans e
 |false=> rw[Oa (by simp)];have S:Stp (fun _=>False) ι w ι w:= .same _ _ _;exact hK ι _ w (V.put S V.wf V.bas h.dst (r3 hg) (fun _ h=>h.elim) (by rw[h.up0 hg];simp)) (fun _ h _=>h) fun _ _ e _=>e
end
inductive Rch (ops:List Oper):Nat->Nat->Prop where
 |dir (i j:Nat) (o:Oper) (ho:ops[j]? =some o) (hi:i∈direct o):Rch ops i j
 |tr (i m j:Nat) (o:Oper) (ho:ops[j]? =some o) (hm:m∈direct o) (h:Rch ops i m):Rch ops i j
theorem cnt_lt{l:List Nat}{p q:Nat->Bool}(h: ∀x,q x=true->p x=true){x:Nat}(hx:x∈l)(hp:p x=true)(hq:q x=false):l.countP q<l.countP p:=by
 induction l with
 |nil=>simp at hx
 |cons y r ih=>
  have hmono:r.countP q<=r.countP p:=List.countP_mono_left (fun z _ hz=>h z hz);rw[List.countP_cons,List.countP_cons];rcases Jb.1 hx with e|e
  ·subst e;simp only[hp,hq,Df];simp;omega
  ·have:=ih e;by_cases hqy:q y=true
   ·rw[Sa hqy,Sa (h y hqy)];omega
   ·rw[Oa hqy];split<;>omega
section
variable {I:Ip} {P:Program} {ι ι':Asg} {w w':World} {R:Type} {r0:R} {X:Cx I} {st:ES I.C} {B:Base} {nt:Nat} {ops:List Oper}
theorem VJ{a b:List Nat}(h:EB a b=false): ∀i∈a,i ∉ b:=by intro i hi hb;have:EB a b=true:=List.any_eq_true.2 ⟨i,hi,Pj.2 hb⟩;rw[h]at this;cases this
theorem dQ{fps:List Fp}: ∀(r:List Oper) (j:Nat) (acc:List (List Nat)),acc.length=j->(∀k,r[k]? =ops[j+k]?)->(∀m i,i∈acc.getD m []->Rch ops i m)->JI ops fps j r acc=true->
  ∀i k x y a b,ops[i]? =some x->ops[k]? =some y->fps[i]? =some a->fps[k]? =some b->i<k->j<=k->Rch ops i k\/(Sm ops x y=false/\fpB a b=false)
 |[],j,acc,_,hr,_,_,i,k,x,y,a,b,_,hy,_,_,_,hjk=>by have:=hr (k - j);rw[show j+(k - j)=k by omega,hy]at this;simp at this
 |o::r,j,acc,hl,hr,ha,h,i,k,x,y,a,b,hx,hy,hfa,hfb,hik,hjk=>by
  have ho:ops[j]? =some o:=by have:=hr 0;simpa using this.symm
  simp only[JI,Da,Pb,Md]at h;obtain⟨h1,h2⟩:=h;have hcl: ∀i,i∈dupN (direct o++(direct o).flatMap (fun i=>acc.getD i []))->Rch ops i j:=by
   intro i hi;have hi:=XO hi;rcases Rc.1 hi with hi|hi
   ·exact .dir i j o ho hi
   ·obtain⟨m,hm,hi⟩:=List.mem_flatMap.1 hi;exact .tr i m j o ho hm (ha m i hi)
  rcases Nat.eq_or_lt_of_le hjk with e|e
  ·subst e;rw[ho]at hy;cases hy;have:=h1 i hik;rw[Yc]at this;rcases this with this|this
   ·exact .inl (hcl i (Pj.1 this))
   ·rw[hx,hfa,hfb]at this;simp only[Da,Ri]at this;exact .inr this
  ·refine dQ r (j+1) _ (by simp[hl]) (fun k=> ?_) (fun m i hi=> ?_) h2 i k x y a b hx hy hfa hfb hik e
   ·have:=hr (k+1);rw[rf]at this;rw[this];congr 1;omega
   ·rw[Ye,Ec]at hi;split at hi
    ·exact ha m i (by rw[Ye];exact hi)
    ·rename_i hm;cases hmj:m - acc.length with
     |zero=>
      rw[hmj]at hi;have:m=j:=by omega
      subst this;exact hcl i (by simpa using hi)
     |succ n=>rw[hmj]at hi;simp at hi
theorem zHf{o:Oper}{w:Bool}{t:TypeId}{x:Operand}(h:BI o=some (w,t,x)):(∃d,o.dst=some d)/\o.guard=none/\ ∃u,o.op= .binOp (cond w .eql .neq) t x (.const (.slice none 0 0)) u:=by
 unfold BI at h;split at h
 ·rename_i d h1 h2 h3;cases h;exact⟨⟨_,h1⟩,h2,_,h3⟩
 ·rename_i d h1 h2 h3;cases h;exact⟨⟨_,h1⟩,h2,_,h3⟩
 ·cases h
theorem lq{α:Type}: ∀(l m:List (Nat×α)) (i:Nat),lk (l++m) i=(match lk l i with|some x=>some x|none=>lk m i)
 |[],m,i=>rfl
 |(j,x)::r,m,i=>by
  simp only[Sb];rw[Z9,Z9];by_cases hij:i=j
  ·rw[Sa hij,Sa hij]
  ·rw[Oa hij,Oa hij];exact lq r m i
def fsE(X:Cx I)(st:ES I.C):FS I:=⟨lkE X st,lkO X st,st.next⟩
theorem kC{o:Oper}{q:Path}{g:Bool}{res:OR I.C}:fsE X (wh o q g st res)=Dj ⟨o,putL q g res.val,res,g⟩ (fsE X st):=by
 unfold fsE Dj;congr 1
 ·funext t;simp only[lkE,wh,putF];cases o.dst with
  |none=>simp
  |some d=>
   simp only[Z9,Option.some.injEq];by_cases h:t=d
   ·subst h;simp
   ·rw[Oa h,Oa (Ne.symm h)]
 ·funext id;simp only[lkO,wh,updF,lq];cases lk res.up id<;>rfl
theorem cK{e e':EF I}: ∀{ks:Path},(∀k∈ks,e' k.1=e k.1)->qA e' ks=qA e ks
 |[],_=>rfl
 |(t,w)::r,h=>by rw[jo,jo,cK fun k hk=>h k (Kb _ hk)];have:=h (t,w) (Ob ..);simp only[Tm];rw[show e' t=e t from this]
theorem tJ{d:Nat}: ∀{env:EEnv I.C} {t ks b x},Ao d env=true->lk env t=some (.opt ks b x)-> ∀k∈ks,k.1≠d
 |[],_,_,_,_,_,h=>by cases h
 |(j,y)::r,t,ks,b,x,hn,h=>by
  rw[Z9]at h;have rest:Ao d r=true:=by
   cases y<;>simp only[Ao]at hn<;>first|exact hn|skip
   cases hb:(List.any _ _:Bool)<;>rw[hb]at hn<;>first|exact hn|cases hn
  split at h
  ·cases h;intro k hk e;simp only[Ao]at hn;rw[show(ks.any fun k=>Nat.beq k.1 d)=true from List.any_eq_true.2 ⟨k,hk,by rw[e];simp⟩]at hn;cases hn
  ·exact tJ rest h
theorem jY{o:Oper}{q:Path}{res:OR I.C}(hc:Cons (lkE X st))(hok:Om X nt o q st res=true):Cons (lkE X (wh o q (qA (lkE X st) q) st res)):=by
 have e:=congrArg FS.e (kC (X:=X) (st:=st) (o:=o) (q:=q) (g:=qA (lkE X st) q) (res:=res));have e:lkE X (wh o q (qA (lkE X st) q) st res)=putF (lkE X st) o.dst (putL q (qA (lkE X st) q) res.val):=e;simp only[Om,Da]at hok;obtain⟨⟨h1,h2⟩,_⟩:=hok;intro t ks b x hx;have same:(∀k∈ks,o.dst≠some k.1)->qA (lkE X (wh o q (qA (lkE X st) q) st res)) ks=qA (lkE X st) ks:=fun h=>cK fun k hk=>by rw[e];unfold putF;rw[Oa (h k hk)]
 rw[e]at hx;unfold putF at hx;split at hx
 ·rename_i hd;rw[hd]at h1;simp only[Da,Pb]at h1;injection hx with hx;cases q with
  |nil=>simp only[putL]at hx;rw[hx]at h2;cases h2
  |cons k0 q0=> simp only[putL]at hx;split at hx<;>cases hx;refine same fun k hk he=> ?_;rw[hd]at he;cases he;simpa using h1.2 k hk
 ·rename_i hd;rw[<-hc t ks b x hx];refine same fun k hk he=> ?_;rw[he]at h1;simp only[Da]at h1;unfold lkE at hx;split at hx
  ·rename_i y hy;cases hx;exact tJ h1.1.2 hy k hk rfl
  ·obtain⟨_,_,hx⟩:=Ma.1 hx;cases hx
theorem zEB(v:Value):RepL (I:=I) ι w (eB v) v:=by
 unfold eB;split
 ·rename_i vs;cases hall:vs.all fun x=>x.oneCell'
  ·trivial
  ·refine⟨vs,rfl,by simp,fun j x hx=> ?_⟩;simp only[Ra,Ma]at hx;obtain⟨u,hu,rfl⟩:=hx;have hu':vs[j]? =some u:=by simpa using hu
   exact⟨u,hu',iJ (Array.all_eq_true_iff_forall_mem.1 hall u (Array.mem_of_getElem? hu'))⟩
 ·trivial
 ·rename_i h1 h2;exact iJ (by cases v<;>first|rfl|exact absurd rfl (h1 _)|exact absurd rfl (h2 _))
theorem zJ2{h:HF I}{x:EL I.C}{v:Value}(hz: ∀id t l,h id=some (.frz t l)->ι id= .pure (l.map (I.full t)))(hv:RepL ι w x v):RepL ι w (nrmL h x) v:=by
 cases x with
 |any=>trivial
 |v t=>exact Vq hz hv
 |opt ks b t=>exact⟨fun h=>Vq hz (hv.1 h),hv.2⟩
 |tup ts=> obtain⟨vs,h1,h2,h3⟩:=hv;refine⟨vs,h1,by simpa using h2,fun j t ht=> ?_⟩;simp only[Ra,Ma]at ht;obtain⟨y,hy,rfl⟩:=ht;obtain⟨u,a,b⟩:=h3 j y hy;exact⟨u,a,Vq hz b⟩
theorem Eu{a:Act}(hz: ∀id t l,lkO X st id=some (.frz t l)->ι id= .pure (l.map (I.full t))){x:Operand}(he: ∀t,x= .tmp t-> ∀y,lkE X st t=some y->RepL ι w y (a.tmps.getD t undef)):RepL ι w (opdE X st x) (a.eval x):=by
 cases x with
 |tmp t=>
  simp only[opdE];split
  ·exact zJ2 hz (he t rfl _ (by assumption))
  ·trivial
 |const v=>exact zEB v
 |global g=>trivial
 |func f=>exact⟨rfl,#[],rfl,rfl,by simp⟩
theorem zJC{o:Oper}{q:Path}(hc:Cons (lkE X st))(hg:guardE X ops st o.guard=some q){a:Act}(he: ∀t∈uj ops o,∀x,lkE X st t=some x->RepL ι w x (a.tmps.getD t undef)):Region.wanted o (yielded ops.toArray a.tmps)=qA (lkE X st) q:=by
 unfold guardE at hg;split at hg
 ·rename_i h;cases hg;simp[Region.wanted,h,qA]
 ·rename_i j want hgd;split at hg
  case h_2=>cases hg
  rename_i o' ho';split at hg
  case h_2=>cases hg
  rename_i d hd;have hd':((ops.toArray)[j]?).bind (·.dst)=some d:=by simp[ho',hd]
  have hl:d∈uj ops o:=by simp[uj,hgd,ho',hd]
  have hy: ∀b,a.tmps.getD d undef= .bool b->yielded ops.toArray a.tmps j=some b:=by
   intro b hb;have:a.tmps[d]? =some (.bool b):=by
    rw[Pd]at hb;cases hq:a.tmps[d]? with
    |none=>rw[hq]at hb;simp[undef]at hb
    |some v=>rw[hq]at hb;simp at hb;rw[hb]
   simp only[yielded,hd',Aa,this]
  have hn:a.tmps.getD d undef=undef->yielded ops.toArray a.tmps j=none:=by
   intro hb;simp only[yielded,hd',Aa];rw[Pd]at hb;cases hq:a.tmps[d]? with
   |none=>rfl
   |some v=>rw[hq]at hb;simp at hb;rw[hb];rfl
  split at hg<;>cases hg
  ·rename_i b hb;have:=hy b (Zf rfl (he d hl _ hb));rw[jo];cases want<;>cases b<;>simp[Region.wanted,hgd,this,Tm,hb,litB,qA]
  ·rename_i ks c b hb;have hr:=he d hl _ hb;rw[jo,hc _ _ _ _ hb];cases c with
   |true=>
    have:=hy b (Zf rfl (hr.1 rfl));cases want<;>cases b<;>simp[Region.wanted,hgd,this,Tm,hb,litB]
   |false=> have:=hn (hr.2 rfl);simp[Region.wanted,hgd,this]
theorem zHQ{q:Path}{x:EL I.C}{v:Value}(h:RepL ι w x v):RepL ι w (putL q true x) v:=by
 cases q with
 |nil=>exact h
 |cons k q=>cases x<;>first|exact⟨fun _=>h,fun h=>by cases h⟩|trivial
theorem zFd{q:Path}(hq:qA (lkE X st) q=false){x:EL I.C}:RepL ι w (putL q false x) undef:=by
 cases q with
 |nil=>cases hq
 |cons k q=>cases x<;>first|exact⟨fun h=>(by cases h),fun _=>rfl⟩|trivial
def InC(X:Cx I)(cst:List Nat):Prop:= ∀i∈cst,lk X.frh i≠none
theorem opZ (hI:IpOK P I) (hT:TOK P X.T X.fk) {S:List (Con I)} (hS: ∀c∈S,ZL P c) {fz:Nat} (hc:Cons (lkE X st)) (hcs:InC X B.cst) {o:Oper} {q:Path} {K:Kt I R} (hg:guardE X ops st o.guard=some q)
  (h0:opE X S fz st q (qA (lkE X st) q) o.op (fun res=>cond (Om X nt o q st res) (K res) none)=some r0): ∃res,K res=some r0/\OkZ P B nt ops ⟨o,putL q (qA (lkE X st) q) res.val,res,qA (lkE X st) q⟩ (fsE X st)/\Cons (lkE X (wh o q (qA (lkE X st) q) st res)):=by
 obtain⟨res,r1,r2,r3⟩:=zNY hI hT hS hc h0;obtain⟨hok,r1⟩:=Zb r1;have hk:=hok;simp only[Om,Da,Pb]at hk;obtain⟨⟨k1,_⟩,k2⟩:=hk;refine⟨res,r1,⟨fun d hd=> ?_,fun p hp=>⟨(k2 p hp).1.1,fun t l e=> ?_⟩,fun p hp hm=> ?_,r2,fun ι a w W hz he ho hf=> ?_⟩,jY hc hok⟩
 ·have hd:o.dst=some d:=hd;rw[hd]at k1;simp only[Da]at k1;exact Wl.1 k1.1.1
 ·have:=(k2 p hp).2;rw[show lkO X st p.1=_ from e]at this;cases this
 ·have:=(k2 p hp).1.2;cases hl:lk X.frh p.1 with
  |none=>exact hcs _ hm hl
  |some _=>rw[hl]at this;cases this
 ·have hops: ∀x∈o.op.operands,RepL ι w (opdE X st x) (a.eval x):=fun x hx=>Eu hz fun t e y hy=>he t (by
   simp only[uj,Rc];exact .inl (List.mem_filterMap.2 ⟨.tmp t,by rw[e]at hx;simpa using hx,rfl⟩)) y hy
  refine⟨zJC hc hg he,fun hgt=> ?_,fun hgf=> ?_⟩
  ·have hgt:qA (lkE X st) q=true:=hgt;have:=r3 hgt ι w a W ⟨hz,fun id hid o ho'=>ho id (Rc.1 hid) o ho'⟩ hf hops;have wk: ∀{v w'},Done P ι w st.next res v w'-> ∃ι',Stp (fun i=>i∈res.up.map (·.1)) ι w ι' w'/\Wf ι' w'/\RepL ι' w' (putL q (qA (lkE X st) q) res.val) v/\(∀p∈res.up,Qd P ι' w' p.1 p.2)/\ ∀id,ι id= .free->(id<st.next\/st.next+res.k<=id)->ι' id= .free:=fun⟨ι',a,b,c,d,e⟩=>⟨ι',a,b,by rw[hgt];exact zHQ c,d,e⟩;rcases this with⟨v,w',g1,g2⟩|⟨w',g1,g2⟩|⟨f,vs,g1,g2⟩
   ·exact .inl ⟨v,w',g1,wk g2⟩
   ·exact .inr (.inl ⟨w',g1,wk g2⟩)
   ·exact .inr (.inr ⟨f,vs,g1,g2.mono fun e w' ⟨v,he,hd⟩=>⟨v,he,wk hd⟩⟩)
  ·have hgf:qA (lkE X st) q=false:=hgf;show RepL ι w (putL q (qA (lkE X st) q) res.val) undef;rw[hgf];exact zFd hgf
theorem ek{e:EF I}{h:HF I}{a:Act}(V:Vw P B nt e h ι a w): ∀id t l,h id=some (.frz t l)->ι id= .pure (l.map (I.full t)):=fun id t l e=>V.obj id _ e
structure St (P:Program) (B:Base) (nt:Nat) (X:Cx I) (st:ES I.C) (ι:Asg) (a:Act) (w:World):Prop where
 vw:Vw P B nt (lkE X st) (lkO X st) ι a w
 free: ∀id,st.next<=id->ι id= .free
 le:B.p<=st.next
structure BOK (B:Base) (X:Cx I):Prop where
 live: ∀id,id<B.p->B.ι0 id≠ .free
 lt: ∀id∈B.cst,id<B.p
 inc:InC X B.cst
theorem aV (hB:BOK B X) {o:Oper} {q:Path} {res:OR I.C} (hz:OkZ P B nt ops ⟨o,putL q (qA (lkE X st) q) res.val,res,qA (lkE X st) q⟩ (fsE X st)) {a:Act} (V:St P B nt X st ι a w) {K:Act->World->Prop} {Q:Exit->Act->World->Prop}
  (hK: ∀ι' a' w',St P B nt X (wh o q (qA (lkE X st) q) st res) ι' a' w'->K a' w'):if Region.wanted o (yielded ops.toArray a.tmps)=true then o.wp P a w K Q else K (a.put o.dst undef) w:=by
 refine hz.step hB.live hB.lt V.vw (ek V.vw) (fun _ _=>rfl) (fun _ _=>rfl) (fun j _=>V.free _ (Ug _ _)) fun ι' a' w' V' hf _=>hK ι' a' w' ⟨?_,fun id hid=> ?_,Bb V.le (Ug _ _)⟩
 ·have e:=kC (X:=X) (st:=st) (o:=o) (q:=q) (g:=qA (lkE X st) q) (res:=res);have e1:lkE X (wh o q (qA (lkE X st) q) st res)=putF (lkE X st) o.dst (putL q (qA (lkE X st) q) res.val):=congrArg FS.e e;have e2:lkO X (wh o q (qA (lkE X st) q) st res)=updF (lkO X st) res.up:=congrArg FS.h e;rw[e1,e2];exact V'
 ·have hid:st.next+res.k<=id:=hid;exact hf id (V.free id (by omega)) (.inr hid)
theorem zIX{x y:Option R}(h:both x y=some r0):x=some r0/\y=some r0:=by
 unfold both at h;split at h
 ·rename_i e;exact⟨h,e▸h⟩
 ·cases h
theorem zNT(hT:TOK P X.T X.fk){o:Oper}{wt:Bool}{t:TypeId}{x:Operand}(hn:BI o=some (wt,t,x)){go:Bool->Option R}(h0:nilE X.T wt t (opdE X st x) go=some r0){a:Act}(V:Vw P B nt (lkE X st) (lkO X st) ι a w): ∃b,go b=some r0/\Region.wanted o (yielded ops.toArray a.tmps)=true/\(execOp a.eval o).run P w= .ok (.value (.bool b)) w:=by
 obtain⟨⟨d,h1⟩,h2,u,h3⟩:=zHf hn;have hx:=Eu (x:=x) (ek V) fun t _ y hy=>V.env t y hy;have key: ∀{e ad n c},(X.T.at t).kd= .sl e->a.eval x= .slice ad n c->Region.wanted o (yielded ops.toArray a.tmps)=true/\(execOp a.eval o).run P w= .ok (.value (.bool (cond wt ad.isNone !ad.isNone))) w:=by
  intro e ad n c hk hv;have hun:=mg (QR hT hk (by simp));have hc:a.eval (.const (.slice none 0 0))= .slice none 0 0:=rfl;refine⟨by simp[Region.wanted,h2],?_⟩;cases wt with
  |true=> have hg:=YY (P:=P) (w:=w) .eql t x (.const (.slice none 0 0)) ad none n c 0 0;have hb:=Lib.run_eql_slice_nil (P:=P) w t e ad n c 0 0 hun;simp[execOp,h3,hv,hc,Sem.run_bind,hg,hb]
  |false=> have hg:=YY (P:=P) (w:=w) .neq t x (.const (.slice none 0 0)) ad none n c 0 0;have hb:=run_neq_slice_nil_any (P:=P) w t e ad n c 0 0 hun;simp[execOp,h3,hv,hc,Sem.run_bind,hg,hb]
 unfold nilE at h0;split at h0
 ·rename_i e u l hk he;rw[he]at hx;obtain⟨_,hx⟩:=hx;have hx:RepP (Dom ι w) w (.sl (l.map (I.full u))) (a.eval x):=hx;generalize hv:a.eval x=v at hx;cases hx with
  |sl _ ad n c k b o' val hn' hc ha=>
   refine⟨_,?_,key hk hv⟩;cases hl:l.isEmpty with
   |true=>
    rw[hl]at h0;obtain⟨b1,b2⟩:=zIX h0;cases ad<;>cases wt<;>first|exact b1|exact b2
   |false=> rw[hl]at h0;rw[ha (by rw[hn',Fb];cases l<;>simp at hl ⊢)];cases wt<;>exact h0
 ·rename_i e hk he;rw[he]at hx;refine⟨_,?_,key hk (Zf rfl hx)⟩;cases wt<;>exact h0
 ·cases h0
theorem VB(hI:IpOK P I){D:Nat->Prop}(hD: ∀b,Dom ι w b->D b){b:Option Nat}{k n t:Nat}{ty:TypeId->Nat->Prop}{l:List (I.C t)}(hb:Blk w b k ty ((l.map (I.exp t)).map (·.map (RepV ι w))))(hb': ∀b',b=some b'->D b')(hk:k=P.cellsOf t)(hn:n=l.length){v:Value}(h:SlAt w b k 0 n v):RepP D w (.sl (l.map (I.full t))) v:=by
 have hl: ∀row∈l.map (I.full t),row.length=k:=fun row hr=>by obtain⟨x,_,rfl⟩:=Nb.1 hr;rw[hI.len,hk]
 rcases h with⟨rfl,h,rfl⟩|⟨b',c,t',sz,a,rfl,rfl,h3,h4,_⟩
 ·obtain rfl:l=[]:=ib (hn▸h);exact .sl [] none 0 0 k 0 0 (fun _ _=>undef) rfl (Xa _) (fun h=>absurd h (by omega)) (fun h=>absurd h (by omega)) hl (by simp) (by simp)
 ·rcases hb.2 with⟨h,_⟩|⟨b2,cur,fr,_,h,h5,_,_,h6⟩<;>cases h;have key: ∀(i:Nat) (row:List PV) (j:Nat) (x:PV),(l.map (I.full t))[i]? =some row->row[j]? =some x-> ∃u,cur[i*k+j]? =some u/\RepP (Dom ι w) w x u:=fun i row j x hi hj=>by simp only[Ra,Ma]at hi;obtain⟨y,hy,rfl⟩:=hi;rw[hI.exp,Ra]at hj;obtain⟨z,hz,rfl⟩:=Ma.1 hj;obtain⟨u,a1,_,a2⟩:=h6 i _ j (RepV ι w z) (by simp only[Ra,hy];rfl) (by rw[Ra,hz];rfl);exact⟨u,a1,(uh (hI.pur _ _ _ (ma hz))).1 a2⟩
  refine .sl _ a n c k b' 0 (fun i j=>cur.getD (i*k+j) undef) (by rw[hn,Fb]) h4 (fun h=>h3.elim (fun e=>by omega) fun e=>by simpa using e) (fun _=>hb' _ rfl) hl (fun i row j x hi hj=> ?_) fun i row j x hi hj=> ?_
  all_goals obtain⟨u,a1,a2⟩:=key i row j x hi hj
  all_goals have e:cur.getD (i*k+j) undef=u:=by rw[Pd,a1];rfl
  ·rw[cell_of h5,jc,a1,e]
  ·rw[e];exact a2.mono hD fun _ _=>rfl
theorem St.set{a:Act}(hB:BOK B X)(V:St P B nt X st ι a w){id:Nat}{o:EO I.C}(hfr:lk X.frh id=none)(S:Stp (· =id) ι w ι' w)(W:Wf ι' w)(hh:Qd P ι' w id o)(hf: ∀i,ι i= .free->ι' i= .free):St P B nt X {st with heap:=(id,o)::st.heap} ι' a w:=
 ⟨⟨V.vw.size,V.vw.defers,fun t x hx=>RepL.step S (V.vw.env t x hx),fun i o' ho=>by
  simp only[lkO,Z9]at ho;by_cases hi:i=id
  ·rw[Sa hi]at ho;cases ho;rw[hi];exact hh
  ·rw[Oa hi]at ho;exact(V.vw.obj i o' ho).step S hi,W,V.vw.bas.step hB.live (fun i hi=>⟨hB.lt i hi,fun e=>hB.inc i hi (by rw[e];exact hfr)⟩) S⟩,fun i hi=>hf i (V.free i hi),V.le⟩
theorem eX{id:Nat}{rows:List (List PV)}: ∀b',Dom ι w b'->Dom (setA ι id (.pure rows)) w b':=fun b' h=>⟨h.1,h.2.1,fun i k n e'=>by
 by_cases hi:i=id
 ·rw[hi,zbR]at e';cases e'
 ·rw[ji _ _ _ hi]at e';exact h.2.2 i k n e'⟩
theorem dY{id:Nat}{rows:List (List PV)}(W:Wf ι w){b k n:Nat}(e:ι id= .live (some b) k n):Dom (setA ι id (.pure rows)) w b:=by
 obtain⟨h1,h2⟩:=W.lt _ _ _ _ e;refine⟨h1,h2,fun i k n e'=> ?_⟩;by_cases hi:i=id
 ·rw[hi,zbR]at e';cases e'
 ·rw[ji _ _ _ hi]at e';exact hi (W.inj _ _ _ _ _ _ _ e' e)
theorem BV(hI:IpOK P I)(hB:BOK B X){id t:Nat}{l:List (I.C t)}(hl:lk st.heap id=some (.sl t l))(hfr:lk X.frh id=none){a:Act}(V:St P B nt X st ι a w):St P B nt X {st with heap:=(id, .frz t l)::st.heap} (setA ι id (.pure (l.map (I.full t)))) a w:=by
 have hh:=V.vw.obj id _ (show lkO X st id=some (.sl t l) by simp only[lkO,hl]);obtain⟨b,e,hb⟩:=(Zo rfl).1 hh;have dom: ∀b',Dom ι w b'->Dom (setA ι id (.pure (l.map (I.full t)))) w b':=eX;have bd: ∀b',b=some b'->Dom (setA ι id (.pure (l.map (I.full t)))) w b':=fun b' eb=>by subst eb;exact dY V.vw.wf e
 have S:Stp (· =id) ι w (setA ι id (.pure (l.map (I.full t)))) w:=by
  refine⟨⟨fun _ _ h=>h,dom,fun _ _=>rfl⟩,rfl,rfl,rfl,Xa _,fun _ _ _ _ _ _=>rfl,fun i _=> ?_,fun i hi _=>ji _ _ _ hi,fun _ _=>rfl,fun _ h=>h,fun _ _=>rfl⟩;by_cases hi:i=id
  ·subst hi;exact .inr (.inr ⟨b,_,_,_,e,zbR ..,fun v hv=>VB hI dom hb bd rfl (by simp[Zd]) hv⟩)
  ·exact .inl (ji _ _ _ hi)
 have inv: ∀{i b' k n},setA ι id (.pure (l.map (I.full t))) i= .live (some b') k n->ι i= .live (some b') k n:=fun {i b' k n} e'=>by
  by_cases hi:i=id
  ·rw[hi,zbR]at e';cases e'
  ·rwa [ji _ _ _ hi]at e'
 refine V.set hB hfr S ⟨fun i b k n e=>V.vw.wf.lt _ _ _ _ (inv e),fun i j b k k' n n' e e'=>V.vw.wf.inj _ _ _ _ _ _ _ (inv e) (inv e'),V.vw.wf.glob.step S,V.vw.wf.xlt⟩ (zbR ..) fun i hi=> ?_;rw[ji _ _ _ fun e'=>by rw[e',e]at hi;cases hi];exact hi
theorem zJK (hI:IpOK P I) {ts tx ty e id:Nat} {l new:List (I.C e)} (hk:kdOf P ts= .sl e) (hkx:Vi (kdOf P tx)) (hz:(ti P e).zok=true) (W:Wf ι w) (hh:Qd P ι w id (.sl e l)) (h1l:1<=l.length)
  {vs vx:Value} (hvs:RepT (I:=I) ι w (.c (.own id)) vs) (S1:Src P ι w (P.cellsOf e) (new.map (I.exp e)) vx) (a2:l.length+new.length<=maxLen) (a1:(l.length+new.length)*(ti P e).by_<=140737488355328):
  ∃v w',(Builtin.append_ #[ts,tx] ty #[vs,vx]).run P w= .ok v w'/\Stp (· =id) ι w ι w'/\Wf ι w'/\Qd P ι w' id (.sl e l)/\
   ∀ι2:Asg,(∀b,Dom ι w' b->Dom ι2 w' b)->(∀b k n,ι id= .live (some b) k n->Dom ι2 w' b)->v.oneCell'=true/\RepP (Dom ι2 w') w' (.sl ((l++new).map (I.full e))) v:=by
 obtain⟨b,b1,b2,b3,b4⟩:=nC W ((Zo rfl).1 hh) hvs;obtain⟨i,z,hi,hz,hzs,hz1,hz2⟩:=Uw hz;have l0:(l.map (I.exp e)).length=l.length:=Fb ..;have l1:(new.map (I.exp e)).length=new.length:=Fb ..;have hR1: ∀row∈new.map (I.exp e),row.length=P.cellsOf e:=by obtain⟨_,_,h,_⟩:=S1;exact h.1
 have hR0: ∀row∈l.map (I.exp e),row.length=P.cellsOf e:=by obtain⟨_,_,h,_⟩:=b3;exact h.1
 have hm:(l++new).map (I.exp e)=l.map (I.exp e)++new.map (I.exp e):=ae ..;rcases b2 with⟨_,h0,_⟩|⟨b',c,ty',sz,a,rfl,rfl,hca,hnc,hcm,hsh,hle⟩
 ·omega
 obtain⟨cur,fr,ty2,k2,k3,k4,k5⟩:=b4 b' rfl;rw[l0]at k5;have hsz:sz=cur.size:=by simp[World.shape?,k2]at hsh;exact hsh.2.symm
 subst hsz;by_cases hfit:l.length+new.length<=c
 ·obtain⟨cs1,q1,c1,c1',hrun⟩:=SK (ty:=ty) (a:=a) (mg hk) hkx hi S1 (by rw[l1];exact hfit);rw[l1]at q1;have hin:l.length*P.cellsOf e+cs1.length<=cur.size:=by rw[q1,<-Xd];exact Bb (Vb _ (by omega)) hle
  have hsz2:(cur.toList.take (l.length*P.cellsOf e)++cs1++cur.toList.drop (l.length*P.cellsOf e+cs1.length)).toArray.size=cur.size:=by simp only[je,Na,Wd,jb,Od];omega
  obtain rfl:=hca.resolve_left (by omega);obtain⟨w',hw1,hw2,cur',hw3,hsz2,hcur⟩: ∃w',(storeCells ((⟨b',0*P.cellsOf e,none⟩:Addr).add (l.length*P.cellsOf e)) cs1).run P w= .ok () w'/\Chg w w' b'/\
    ∃cur',w'.heap[b']? =some (.cells cur' ty2 fr)/\cur'.size=cur.size/\(cur.toList.take (l.length*P.cellsOf e)++cs1++cur.toList.drop (l.length*P.cellsOf e+cs1.length)).toArray=cur':=by
   have hrunS:=Wz (P:=P) (g:=b') (o:=0+l.length*P.cellsOf e) (t:=ty2) (fr:=fr) cs1 0 cur w k2 k3.1.out (by simpa using hin) c1';simp only[jc,Nc]at hrunS;exact⟨_,by simp only[Ef,addr_add,jc];exact hrunS,CE k2 hsz2,_,setRow_heap w b' cur _ ty2 fr k2,hsz2,rfl⟩
  simp only[hw1]at hrun;have hpre:(cur.toList.take (l.length*P.cellsOf e)).toArray.size=(l.map (I.exp e)).length*P.cellsOf e:=by rw[l0];simp;omega
  have e1:cur'=(cur.toList.take (l.length*P.cellsOf e)).toArray++cs1.toArray++(cur.toList.drop (l.length*P.cellsOf e+cs1.length)).toArray:=by rw[<-hcur];simp
  have h0r: ∀(i:Nat) row (j:Nat) x,(l.map (I.exp e))[i]? =some row->row[j]? =some x-> ∃v,cur'[i*P.cellsOf e+j]? =some v/\Rep1 ι w x v:=fun i row j x hi hj=>by obtain⟨v,a1,a2⟩:=k4.2 i row j x hi hj;refine⟨v,?_,a2⟩;have:=fw (Ja.1 hi).1 (show j<P.cellsOf e by rw[<-hR0 row (ma hi)];exact(Ja.1 hj).1);rw[e1,df,Sd,Sa (by rw[hpre];exact this),Mg,Uc,Sa (by rw[<-l0];exact this),Ed];exact a1
  have hcr:qD ι w (P.cellsOf e) ((l++new).map (I.exp e)) cur':=by rw[hm];exact .app hR0 hR1 h0r (by rw[e1];exact c1.at_app hpre)
  obtain⟨S,W'⟩:=Nq (T:=(· =id)) W b1 rfl hw2;have hfo:FT (TyOK P e) ty2 fr cur'.size:=by rw[hsz2];exact k3
  have hall:(l++new).length*P.cellsOf e<=cur'.size:=by rw[hsz2,Na];exact Bb (Vb _ (by omega)) hle
  have B1:=hcr.blk (ty:=TyOK P e) S hw3 hfo (by rw[Fb];exact hall);have B0:Blk w' (some b') (P.cellsOf e) (TyOK P e) ((l.map (I.exp e)).map (·.map (RepV ι w'))):=qD.blk S ⟨hR0,h0r⟩ hw3 hfo (by rw[l0,hsz2];exact k5);have hl2:ι id= .live (some b') (P.cellsOf e) (l.map (I.exp e)).length:=by rw[b1,l0]
  have hold:Cg P ι w' id (.sl e l):=⟨some b',hl2,B0⟩;refine⟨_,_,hrun,S,W',(Zo rfl).2 hold,fun ι2 hD hb2=>⟨rfl,?_⟩⟩;refine VB hI hD B1 (fun b'' e'=>by cases e';exact hb2 _ _ _ b1) rfl (n:=(l++new).length) rfl ?_;exact .inr ⟨b',c,ty2,cur'.size,_,rfl,by rw[l1,Na], .inr rfl,by rw[Na];exact hfit,hcm,by simp[World.shape?,hw3],by rw[hsz2];exact hle⟩
 ·have hby:i.bytes=(ti P e).by_:=Vy hi;rw[<-l0]at b3;obtain⟨cs0,cs1,m0,m1,c0,c1,hrun⟩:=aK (ty:=ty) (mg hk) hkx hi hz b3 S1 (by rw[l0,l1];exact hfit) (by rw[l0,l1];exact a2) (by rw[hby,l0,l1];exact a1);rw[l0,l1]at hrun;have hge:=grownCap_ge w (l.length+new.length) c e;have hmx:=grownCap_le_maxLen w (l.length+new.length) c e a2;generalize grownCap w (l.length+new.length) c e=c2 at*;obtain⟨cur',hcur⟩: ∃cur',cs0.toArray++cs1.toArray++Builtin.zeroCells z.cells (c2 - (l.length+new.length))=cur':=⟨_,rfl⟩;have hsz:cur'.size=c2*P.cellsOf e:=by rw[<-hcur];simp only[Array.size_append,je,XR,m0,m1,hzs,l0,l1,<-Xd];congr 1;omega
  have hcr:qD ι w (P.cellsOf e) ((l++new).map (I.exp e)) cur':=by rw[hm,<-hcur];refine .app hR0 hR1 ?_ (c1.at_app (by simp[m0]));intro i row j x hi hj;obtain⟨v,a1,a2⟩:=c0.2 i row j x hi hj;have:=(Lb.1 a1).1;exact⟨v,by rw[df,Sd,Sa this];exact a1,a2⟩
  rw[hcur]at hrun;obtain⟨w',hw'⟩: ∃w',w.drew.alloc (.cells cur' e)=w':=⟨_,rfl⟩;have g:Grew w w' (.cells cur' e (0,0)):=by rw[<-hw'];exact⟨rfl,rfl,rfl,rfl⟩
  rw[hw']at hrun;have S: ∀T,Stp T ι w ι w':=fun T=>⟨⟨g.wld.shape,fun b hb=>⟨by rw[g.size];have:=hb.1;omega,hb.2⟩,fun b hb=>g.old hb.1⟩,g.os,g.tape,g.output,by rw[g.size];omega,fun _ _ _ _ _ e=>g.old (W.lt _ _ _ _ e).1,fun _ _=> .inl rfl,fun _ _ _=>rfl,fun _ _=>rfl,fun _ h=>h,fun b hx=>g.old (W.xlt b (Au hx))⟩;have W':Wf ι w':=⟨fun i b k n e=>by rw[g.size];have:=W.lt _ _ _ _ e;exact⟨by omega,this.2⟩,W.inj,W.glob.step (S fun _=>False),fun b hx=>by rw[g.size];have:=W.xlt b hx;omega⟩;have B1:=hcr.blk (ty:=TyOK P e) (S fun _=>False) g.new ⟨.inl rfl, .inl rfl⟩ (by rw[Fb,Na,hsz];exact Vb _ hge);refine⟨_,_,hrun,S _,W',hh.step (S fun _=>False) (fun h=>h),fun ι2 hD hb2=>⟨rfl,?_⟩⟩;refine VB hI hD B1 (fun b'' e'=>by cases e';exact hD _ ⟨by rw[g.size];omega,Me fun hx=>by have:=W.xlt _ hx;omega,fun i k n e=>by have:=(W.lt _ _ _ _ e).1;omega⟩) rfl (n:=(l++new).length) rfl ?_;rw[Na];exact EA (t:=e) (fr:=(0,0)) (cur:=cur') g.new hge hmx (by rw[hsz];exact Xa _)
theorem zER{o:Oper}{d t u:Nat}{s x:Operand}(h:aN o=some (d,t,u,s,x)):o.dst=some d/\o.guard=none/\ ∃c,o.op= .call c/\c.callee= .builtin .append/\c.argTypes= #[t,u]/\c.args= #[s,x]:=by
 unfold aN at h;split at h
 case h_2=>cases h
 rename_i d' c h1 h2 h3;split at h
 case h_2=>cases h
 rename_i h4 h5 h6;cases h;exact⟨h1,h2,c,h3,h4,by rw[<-Ae (xs:=c.argTypes),h5],by rw[<-Ae (xs:=c.args),h6]⟩
theorem wB(hI:IpOK P I)(hT:TOK P X.T X.fk)(hB:BOK B X){o:Oper}{K:ES I.C->Option R}(h0:uM X nt st o K=some r0){a:Act}(V:St P B nt X st ι a w)(hc:Cons (lkE X st)):
  ∃st',K st'=some r0/\Cons (lkE X st')/\Region.wanted o (yielded ops.toArray a.tmps)=true/\ ∃v w',(execOp a.eval o).run P w= .ok (.value v) w'/\ ∃ι',St P B nt X st' ι' (a.put o.dst v) w':=by
 unfold uM at h0;split at h0
 ·cases h0
 rename_i d t u s x hko;obtain⟨hd,hgd,c,hop,hcal,hty,har⟩:=zER hko;split at h0
 case h_2=>cases h0
 rename_i e id y hkd hs hx;split at h0
 case h_2=>cases h0
 rename_i t0 l new rd ok hl hfr hsrc;split at h0
 case h_2=>cases h0
 rename_i l' hcast;obtain⟨hp,h0⟩:=Zb h0;simp only[Da]at hp;obtain⟨p1,p2,p3,p4,p5⟩:=hp;obtain⟨hok,h0⟩:=Z8 h0;obtain⟨h1l,h0⟩:=Z8 h0;obtain⟨hap,h0⟩:=Z8 h0;obtain⟨rfl,hc'⟩:=qi hcast;cases hc';have p2:=Gc p2;have hti:=Xi hT (.inr (.inl p3));have hz:(ti P t0).zok=true:=by rw[<-hti];exact p3
 obtain⟨a1,a2⟩:=Uu p2 hap;obtain⟨hkx,hS⟩:=Ut hI hT p1 hsrc hok;have rs:=Eu (x:=s) (ek V.vw) fun t _ y hy=>V.vw.env t y hy;have rx:=Eu (x:=x) (ek V.vw) fun t _ y hy=>V.vw.env t y hy;rw[hs]at rs;rw[hx]at rx;have hh:=V.vw.obj id _ (show lkO X st id=some (.sl t0 l) by simp only[lkO,hl]);have S1:=hS ⟨ek V.vw,fun i _ o ho=>V.vw.obj i o ho⟩ rx;obtain⟨v,w',hrun,S,W',hh',hrep⟩:=zJK (ts:=t) (tx:=u) (ty:=o.type) hI (QR hT hkd (by simp)) hkx hz V.vw.wf hh (Gc h1l) rs S1 a2 (by rw[<-hti];exact a1);obtain⟨hv1,hv2⟩:=hrep (setA ι id (.pure (l.map (I.full t0)))) eX fun b k n eb=>dY W' eb;have hput: ∀(q:EL I.C),lkE X {st with env:=(d,q)::st.env}=putF (lkE X st) (some d) q:=fun q=>by
  funext t;simp only[lkE,putF,Z9,Option.some.injEq];by_cases h:t=d
  ·subst h;simp
  ·rw[Oa h,Oa (Ne.symm h)]
 have V1:St P B nt X {st with env:=(d, .any)::st.env} ι (a.put o.dst v) w':=by
  refine⟨?_,V.free,V.le⟩;have hu:lkO X {st with env:=(d,EL.any)::st.env}=updF (lkO X st) [(id, .sl t0 l)]:=by
   funext i;simp only[updF,Z9];by_cases hi:i=id
   ·subst hi;rw[Sa rfl];simp only[lkO,hl]
   ·rw[Oa hi];rfl
  rw[hput,hu,hd];exact V.vw.put S W' (V.vw.bas.step hB.live (fun i hi=>⟨hB.lt i hi,fun e=>hB.inc i hi (by rw[e];exact hfr)⟩) S) (fun t' ht=>by cases ht;exact Wl.1 p4) (x:= .any) trivial (fun i hi=>by rw[hi];simp) (fun p hp=>by rw[Tc.1 hp];exact hh')
 have V2:=BV hI hB (st:={st with env:=(d, .any)::st.env}) (id:=id) hl hfr V1;have hval:(a.put o.dst v).tmps.getD d undef=v:=by rw[hd];simp[Act.put,Array.getD,show d<a.tmps.size by rw[V.vw.size];exact Wl.1 p4]
 refine⟨_,h0,?_,?_,v,w',?_,_,⟨⟨V2.vw.size,V2.vw.defers,fun t' q hq=> ?_,V2.vw.obj,V2.vw.wf,V2.vw.bas⟩,V2.free,V2.le⟩⟩
 ·intro t' ks b q hq;have e:lkE X {st with env:=(d,EL.v (.c (.sl t0 (l++new))))::st.env,heap:=(id, .frz t0 l)::st.heap}=putF (lkE X st) (some d) (.v (.c (.sl t0 (l++new)))):=hput _;rw[e]at hq ⊢;unfold putF at hq;split at hq
  ·cases hq
  ·rename_i hdt;rw[<-hc t' ks b q hq];refine cK fun k hk=> ?_;unfold putF;rw[Oa];intro he;cases he;unfold lkE at hq;split at hq
   ·rename_i y' hy';cases hq;exact tJ p5 hy' k hk rfl
   ·obtain⟨_,_,hq⟩:=Ma.1 hq;cases hq
 ·simp[Region.wanted,hgd]
 ·have hb: ∀cs,builtin .append c.argTypes o.type cs (c.args.map a.eval)=(do pure (.value (<-Builtin.append_ #[t,u] o.type #[a.eval s,a.eval x]))):=fun cs=>by
   have e2:c.args.map a.eval= #[a.eval s,a.eval x]:=by rw[har];simp
   rw[hty,e2];rfl
  have hex:execOp a.eval o=(do pure (.value (<-Builtin.append_ #[t,u] o.type #[a.eval s,a.eval x]))):=by simp only[execOp,hop,resolve,hcal];simp only[invoke,pure_bind,hb]
  rw[hex,Sem.run_bind,hrun];rfl
 ·have e:lkE X {st with env:=(d,EL.v (.c (.sl t0 (l++new))))::st.env,heap:=(id, .frz t0 l)::st.heap}=putF (lkE X st) (some d) (.v (.c (.sl t0 (l++new)))):=hput _;rw[e]at hq;unfold putF at hq;split at hq
  ·rename_i hdt;cases hq;cases hdt;rw[hval];exact⟨hv1,hv2⟩
  ·rename_i hdt;refine V2.vw.env t' q ?_;have e2:lkE X {st with env:=(d,EL.any)::st.env,heap:=(id, .frz t0 l)::st.heap}=putF (lkE X st) (some d) .any:=hput _;rw[e2];unfold putF;rw[Oa hdt];exact hq
theorem NB(hI:IpOK P I)(hT:TOK P X.T X.fk){S:List (Con I)}(hS: ∀c∈S,ZL P c)(hB:BOK B X){fz:List Nat}{K:ES I.C->Option R}{Q:Exit->Act->World->Prop}(hQ: ∀st' ι' a' w',K st'=some r0->St P B nt X st' ι' a' w'->Q .normal a' w'):
  ∀(r:List Oper) (j:Nat) (st:ES I.C) (ι:Asg) (a:Act) (w:World),seqN X S fz nt ops K j r st=some r0->Cons (lkE X st)->St P B nt X st ι a w->wpList P ops.toArray Q r a w
 |[],j,st,ι,a,w,h0,_,V=>hQ st ι a w h0 V
 |o::r,j,st,ι,a,w,h0,hc,V=>by
  refine wpList_step fun K' hK'=> ?_;simp only[seqN]at h0;split at h0
  ·rename_i wt t x hn;obtain⟨b,h1,h2,h3⟩:=zNT (ops:=ops) hT hn h0 V.vw;obtain⟨hok,h1⟩:=Zb h1;rw[Sa h2];have S:Stp (fun _=>False) ι w ι w:= .same _ _ _;refine Runs.wp (G:=fun v w'=>v= .bool b/\w'=w) (.inl ⟨_,_,h3,rfl,rfl⟩) fun v w' ⟨hv,hw⟩=> ?_;subst hv;subst hw;have hk:=hok;simp only[Om,Da]at hk;refine hK' _ _ (NB hI hT hS hB hQ r (j+1) _ ι _ w' h1 (jY hc hok) ⟨?_,fun id hid=>V.free id hid,V.le⟩);have e:=kC (X:=X) (st:=st) (o:=o) (q:=[]) (g:=true) (res:=okV (.bool b));have e1:lkE X (wh o [] true st (okV (.bool b)))=putF (lkE X st) o.dst (.v (.c (.bool b))):=congrArg FS.e e;have e2:lkO X (wh o [] true st (okV (.bool b)))=updF (lkO X st) []:=congrArg FS.h e;rw[e1,e2];exact V.vw.put (x:= .v (.c (.bool b))) S V.vw.wf V.vw.bas (fun d hd=>by have:=hk.1.1;rw[hd]at this;simp only[Da]at this;exact Wl.1 this.1.1) (mi b) (fun _ h=>h.elim) (by simp)
  ·split at h0
   ·obtain⟨st',h1,hc',h2,v,w',h3,ι',V'⟩:=wB (ops:=ops) hI hT hB h0 V hc;rw[Sa h2];refine Runs.wp (G:=fun u w''=>u=v/\w''=w') (.inl ⟨_,_,h3,rfl,rfl⟩) fun u w'' ⟨hu,hw⟩=> ?_;subst hu;subst hw;exact hK' _ _ (NB hI hT hS hB hQ r (j+1) _ ι' _ _ h1 hc' V')
   split at h0
   ·cases h0
   ·rename_i q hg;obtain⟨res,h1,hz,hc'⟩:=opZ (B:=B) hI hT hS hc hB.inc hg h0;exact aV hB hz V fun ι' a' w' V'=>hK' _ _ (NB hI hT hS hB hQ r (j+1) _ ι' a' w' h1 hc' V')
end
section
variable {I:Ip} {P:Program} {ι ι':Asg} {w w':World} {R:Type} {r0:R} {X:Cx I} {st:ES I.C} {B:Base} {nt:Nat} {ops:List Oper} {zs:List (Rz I)} {s0:FS I}
def stA(zs:List (Rz I))(s0:FS I):Nat->FS I
 |0=>s0
 |n+1=>match zs[n]? with|some z=>Dj z (stA zs s0 n)|none=>stA zs s0 n
def sgA(zs:List (Rz I))(s0:FS I)(S:Nat->Bool):Nat->EF I×HF I
 |0=>(s0.e,s0.h)
 |n+1=>match zs[n]? with
  |some z=>cond (S n) (putF (sgA zs s0 S n).1 z.o.dst z.x,updF (sgA zs s0 S n).2 z.res.up) (sgA zs s0 S n)
  |none=>sgA zs s0 S n
theorem pO{h h':HF I}{up:EHeap I.C}{id:Nat}(e:id ∉ up.map (·.1)->h id=h' id):updF h up id=updF h' up id:=by
 by_cases hm:id∈up.map (·.1)
 ·unfold updF;cases hl:lk up id with
  |some o=>rfl
  |none=>
   obtain⟨p,hp,rfl⟩:=Nb.1 hm;exfalso;have: ∀{l:EHeap I.C},p∈l->lk l p.1≠none:=fun {l}=>by
    induction l with
    |nil=>grind
    |cons q r ih=>
     intro hp;rw[Z9]
     grind
   exact this hp hl
 ·rw[Gl hm,Gl hm,e hm]
theorem sg_e{S:Nat->Bool}{t:Nat}: ∀(n j:Nat),j<=n->(∀i z,zs[i]? =some z->i<n->z.o.dst=some t->(S i=true↔i<j))->(sgA zs s0 S n).1 t=(stA zs s0 j).e t
 |0,j,hj,_=>by obtain rfl:j=0:=(by omega);rfl
 |n+1,j,hj,h=>by
  simp only[sgA];cases hz:zs[n]? with
  |none=>
   by_cases hn:j=n+1
   ·subst hn;simp only[stA,hz];exact sg_e n n (Xa _) fun i z hi hin hd=>by grind
   ·exact sg_e n j (by omega) fun i z hi hin hd=>h i z hi (by omega) hd
  |some z=>
   by_cases hd:z.o.dst=some t
   ·have:=h n z hz (by omega) hd;by_cases hn:j=n+1
    ·subst hn;rw[this.2 (by omega)];simp only[stA,hz,Dj,Ca,putF,Sa hd]
    ·cases hS:S n with
     |true=>grind
     |false=>exact sg_e n j (by omega) fun i z hi hin hd=>h i z hi (by omega) hd
   ·have e1:(cond (S n) (putF (sgA zs s0 S n).1 z.o.dst z.x,updF (sgA zs s0 S n).2 z.res.up) (sgA zs s0 S n)).1 t=(sgA zs s0 S n).1 t:=by cases S n<;>simp[putF,hd]
    rw[e1];by_cases hn:j=n+1
    ·subst hn;simp only[stA,hz,Dj,putF,Oa hd];exact sg_e n n (Xa _) fun i z hi hin hd=>by grind
    ·exact sg_e n j (by omega) fun i z hi hin hd=>h i z hi (by omega) hd
theorem sg_h{S:Nat->Bool}{id:Nat}: ∀(n j:Nat),j<=n->(∀i z,zs[i]? =some z->i<n->id∈z.res.up.map (·.1)->(S i=true↔i<j))->(sgA zs s0 S n).2 id=(stA zs s0 j).h id
 |0,j,hj,_=>by obtain rfl:j=0:=(by omega);rfl
 |n+1,j,hj,h=>by
  simp only[sgA];have ih:j≠n+1->(sgA zs s0 S n).2 id=(stA zs s0 j).h id:=fun hn=>sg_h n j (by omega) fun i z hi hin hd=>h i z hi (by omega) hd;have ih':j=n+1->(sgA zs s0 S n).2 id=(stA zs s0 n).h id:=fun hn=>sg_h n n (Xa _) fun i z hi hin hd=>by grind
  cases hz:zs[n]? with
  |none=>
   by_cases hn:j=n+1
   ·rw[hn];simp only[stA,hz];exact ih' hn
   ·exact ih hn
  |some z=>
   by_cases hd:id∈z.res.up.map (·.1)
   ·have:=h n z hz (by omega) hd;by_cases hn:j=n+1
    ·rw[this.2 (by omega),hn];simp only[stA,hz,Dj,Ca];exact pO fun h=>absurd hd h
    grind
   ·have e1:(cond (S n) (putF (sgA zs s0 S n).1 z.o.dst z.x,updF (sgA zs s0 S n).2 z.res.up) (sgA zs s0 S n)).2 id=(sgA zs s0 S n).2 id:=by cases S n<;>simp[Gl hd]
    rw[e1];by_cases hn:j=n+1
    ·rw[hn];simp only[stA,hz,Dj];rw[Gl hd];exact ih' hn
    ·exact ih hn
theorem TV{S S':Nat->Bool}{j:Nat}{zj:Rz I}(hj:zs[j]? =some zj)(hS:S j=false)(hS': ∀i,S' i=(S i||i==j)): ∀(n:Nat),(∀i z,zs[i]? =some z->j<i->i<n->S i=true->(∀d,z.o.dst=some d->zj.o.dst≠some d)/\ ∀id∈z.res.up.map (·.1),id ∉ zj.res.up.map (·.1))->
  sgA zs s0 S' n=if j<n then(putF (sgA zs s0 S n).1 zj.o.dst zj.x,updF (sgA zs s0 S n).2 zj.res.up)else sgA zs s0 S n
 |0,_=>by rw[Oa (by omega)];rfl
 |n+1,h=>by
  have ih:=TV hj hS hS' n fun i z hi hji hin=>h i z hi hji (by omega);simp only[sgA];cases hz:zs[n]? with
  |none=>
   grind
  |some z=>
   by_cases hn:n=j
   ·grind
   ·have e1:S' n=S n:=by rw[hS'];simp[hn]
    simp only[e1,ih];by_cases hjn:j<n
    ·rw[Sa hjn,Sa (by omega)];cases hSn:S n with
     |false=>rfl
     |true=>
      obtain⟨h1,h2⟩:=h n z hz hjn (by omega) hSn;simp only[Ca,Prod.mk.injEq];constructor
      ·funext t;simp only[putF]
       grind
      ·funext id;by_cases a:id∈z.res.up.map (·.1)
       ·rw[pO (h:=updF (sgA zs s0 S n).2 zj.res.up) (h':=(sgA zs s0 S n).2) fun hn=>absurd a hn,Gl (h2 id a)]
       ·by_cases b:id∈zj.res.up.map (·.1)
        ·rw[Gl a];exact pO fun hn=>absurd b hn
        ·rw[Gl a,Gl b,Gl b,Gl a]
    grind
def AllZ(P:Program)(B:Base)(nt:Nat)(ops:List Oper)(zs:List (Rz I))(s0:FS I):Prop:=zs.map (·.o)=ops/\ ∀j z,zs[j]? =some z->OkZ P B nt ops z (stA zs s0 j)
def Iw(a b:Rz I):Prop:=(∀x∈a.res.up.map (·.1),x ∉ b.res.rd/\x ∉ b.res.up.map (·.1))/\ ∀x∈b.res.up.map (·.1),x ∉ a.res.rd
def zM9(ops:List Oper)(zs:List (Rz I)):Prop:= ∀i k x y,zs[i]? =some x->zs[k]? =some y->i<k->Rch ops i k\/(Sm ops x.o y.o=false/\Iw x y)
theorem GJ{x y:Oper}(h:Sm ops x y=false):(∀d,x.dst=some d->d ∉ uj ops y/\y.dst≠some d)/\ ∀d,y.dst=some d->d ∉ uj ops x:=by
 simp only[Sm,Uf]at h;refine⟨fun d hd=> ?_,fun d hd hm=> ?_⟩
 ·have h:=h.1;rw[hd]at h;have h:=Uf.1 h;exact⟨fun hm=>(by rw[Pj.2 hm]at h;cases h.1),fun he=>(by simp_all)⟩
 ·have h:=h.2;rw[hd]at h;have h:memN d (uj ops x)=false:=h;rw[Pj.2 hm]at h;cases h
theorem lI(hA:AllZ P B nt ops zs s0): ∀(n id t:Nat) (l:List (I.C t)),(stA zs s0 n).h id=some (.frz t l)->s0.h id=some (.frz t l)
 |0,_,_,_,h=>h
 |n+1,id,t,l,h=>by
  simp only[stA]at h;cases hz:zs[n]? with
  |none=>rw[hz]at h;exact lI hA n id t l h
  |some z=>
   rw[hz]at h;simp only[Dj,updF]at h;cases hl:lk z.res.up id with
   |none=>rw[hl]at h;exact lI hA n id t l h
   |some o=>rw[hl]at h;cases h;have:=((hA.2 n z hz).frz _ (Ah hl)).1;cases this
theorem WB(hA:AllZ P B nt ops zs s0){id t:Nat}{l:List (I.C t)}(h:s0.h id=some (.frz t l)): ∀n,(stA zs s0 n).h id=some (.frz t l)
 |0=>h
 |n+1=>by
  simp only[stA];cases hz:zs[n]? with
  |none=>exact WB hA h n
  |some z=> simp only[Dj];rw[Gl,WB hA h n];intro hm;obtain⟨p,hp,rfl⟩:=Nb.1 hm;exact((hA.2 n z hz).frz p hp).2 t l (WB hA h n)
theorem zLU(hA:AllZ P B nt ops zs s0){id t:Nat}{l:List (I.C t)}(h:s0.h id=some (.frz t l)){j:Nat}{z:Rz I}(hz:zs[j]? =some z):id ∉ z.res.up.map (·.1):=fun hm=>by obtain⟨p,hp,rfl⟩:=Nb.1 hm;exact((hA.2 j z hz).frz p hp).2 t l (WB hA h j)
theorem ow: ∀(i k:Nat),i<=k->(stA zs s0 i).nx<=(stA zs s0 k).nx
 |i,0,h=>by grind
 |i,k+1,h=>by
  by_cases e:i=k+1
  ·grind
  ·have:=ow i k (by omega);simp only[stA];cases zs[k]? with
   |none=>exact this
   |some z=>simp only[Dj];omega
theorem zLE (hB:BOK B X) (hA:AllZ P B nt ops zs s0) (hap:zM9 ops zs) (hfw:NM ops=true) {Q:Exit->Act->World->Prop}
  (hQ: ∀ι a w,Vw P B nt (stA zs s0 zs.length).e (stA zs s0 zs.length).h ι a w->(∀id,(stA zs s0 zs.length).nx<=id->ι id= .free)->Q .normal a w):
  ∀(fuel:Nat) (listed:Array Bool) (ι:Asg) (a:Act) (w:World),listed.size=ops.length->(∀i j,Rch ops i j->listed.getD j false=true->listed.getD i false=true)->
   Vw P B nt (sgA zs s0 (fun j=>listed.getD j false) zs.length).1 (sgA zs s0 (fun j=>listed.getD j false) zs.length).2 ι a w->(∀id t l,s0.h id=some (.frz t l)->ι id= .pure (l.map (I.full t)))->(∀j z,zs[j]? =some z->listed.getD j false=false-> ∀i,i<z.res.k->ι ((stA zs s0 j).nx+i)= .free)->(∀id,(stA zs s0 zs.length).nx<=id->ι id= .free)->
   (List.range ops.length).countP (fun j=> !listed.getD j false)<=fuel->wpAny P .any ops.toArray Q fuel listed a w:=by
 have hlen:zs.length=ops.length:=by rw[<-hA.1,Fb]
 have hop: ∀{j:Nat} {z:Rz I},zs[j]? =some z->ops[j]? =some z.o:=fun hz=>by rw[<-hA.1,Ra,hz];rfl
 have hend: ∀(listed:Array Bool) (ι:Asg) (a:Act) (w:World),Vw P B nt (sgA zs s0 (fun j=>listed.getD j false) zs.length).1 (sgA zs s0 (fun j=>listed.getD j false) zs.length).2 ι a w->(∀id,(stA zs s0 zs.length).nx<=id->ι id= .free)->(∀j,j<ops.length->listed.getD j false=true)->Q .normal a w:=by intro listed ι a w V hfr hall;have e1:(sgA zs s0 (fun j=>listed.getD j false) zs.length).1=(stA zs s0 zs.length).e:=funext fun t=>sg_e _ _ (Xa _) fun i z hi hin _=>⟨fun _=>hin,fun _=>hall i (by omega)⟩;have e2:(sgA zs s0 (fun j=>listed.getD j false) zs.length).2=(stA zs s0 zs.length).h:=funext fun t=>sg_h _ _ (Xa _) fun i z hi hin _=>⟨fun _=>hin,fun _=>hall i (by omega)⟩;rw[e1,e2]at V;exact hQ ι a w V hfr
 intro fuel
 induction fuel with
 |zero=>
  intro listed ι a w hsz hcl V hz hsl hfr hcnt;have hall: ∀j,j<ops.length->listed.getD j false=true:=by intro j hj;simpa using List.countP_eq_zero.1 (Nat.le_zero.1 hcnt) j (Md.2 hj)
  refine⟨?_,hend listed ι a w V hfr hall⟩;rw[List.eq_nil_iff_forall_not_mem];intro j hj;rw[mem_ready]at hj
  grind
 |succ fuel ih=>
  intro listed ι a w hsz hcl V hz hsl hfr hcnt;refine⟨fun hnil=>hend listed ι a w V hfr (fun j=> ?_),fun j hj=> ?_⟩
  ·induction j using Nat.strongRecOn with
   |_ j ihj=>
    intro hjl;cases hSj:listed.getD j false with
    |true=>rfl
    |false=>
     exfalso;have ho:ops[j]? =some ops[j]:=Ta hjl;have:j∈Region.ready .any ops.toArray listed:=by
      rw[mem_ready];refine⟨?_,ops[j],by simp,fun ed hed hb=> ?_⟩
      ·grind
      ·have hd:ed.on∈direct ops[j]:=by simp only[direct,Nb,Te];exact⟨ed,⟨by simpa using hed,hb⟩,rfl⟩
       simp only[NM,Pb,Md]at hfw
       grind
     grind
  ·rw[mem_ready]at hj;obtain⟨h1,o,ho,hrd⟩:=hj;have ho':ops[j]? =some o:=by simpa using ho
   have hjl:j<ops.length:=(Ja.1 ho').1;obtain⟨z,hzj⟩: ∃z,zs[j]? =some z:=⟨_,Ta (by omega)⟩;obtain rfl:o=z.o:=by grind
   have hS:listed.getD j false=false:=by rw[Pd,Di (by omega)]at h1 ⊢;simpa using h1
   have hr: ∀i∈direct z.o,listed.getD i false=true:=by intro i hi;simp only[direct,Nb,Te]at hi;obtain⟨ed,⟨he1,he2⟩,rfl⟩:=hi;exact hrd ed (by simpa using he1) he2
   have rcl: ∀i,Rch ops i j->listed.getD i false=true:=by
    intro i h;cases h with
    |dir _ o' ho2 hi=>grind
    |tr m _ o' ho2 hm h=>grind
   have hS': ∀i,(listed.setIfInBounds j true).getD i false=(listed.getD i false||i==j):=by
    intro i;by_cases hij:i=j
    ·simp_all
    ·rw[getD_set_ne false (Ne.symm hij)];simp[hij]
   -- who is done, and meets this one, is ahead of it
   have ord: ∀i y,zs[i]? =some y->(¬(Sm ops y.o z.o=false/\Iw y z)->i<j->listed.getD i false=true)/\(¬(Sm ops z.o y.o=false/\Iw z y)->j<i->listed.getD i false=false):=fun i y hy=>⟨fun hn hij=>(hap i j y z hy hzj hij).elim (rcl i) fun h=>absurd h hn,fun hn hji=>by
    rcases hap j i z y hzj hy hji with h|h
    ·grind
    grind⟩
   have cut: ∀i y,zs[i]? =some y->(i≠j-> ¬(Sm ops y.o z.o=false/\Iw y z)/\ ¬(Sm ops z.o y.o=false/\Iw z y))->(listed.getD i false=true↔i<j):=fun i y hy hn=>by
    rcases Nat.lt_trichotomy i j with h|h|h
    ·grind
    ·grind
    grind
   have he: ∀t∈uj ops z.o,(sgA zs s0 (fun j=>listed.getD j false) zs.length).1 t=(stA zs s0 j).e t:=fun t ht=>sg_e _ j (by omega) fun i y hy _ hd=>cut i y hy fun _=>⟨fun h=>((GJ h.1).1 t hd).1 ht,fun h=>(GJ h.1).2 t hd ht⟩;have hh: ∀id,(id∈z.res.rd\/id∈z.res.up.map (·.1))->(sgA zs s0 (fun j=>listed.getD j false) zs.length).2 id=(stA zs s0 j).h id:=fun id hid=>sg_h _ j (by omega) fun i y hy _ hd=>cut i y hy fun _=>⟨fun h=>hid.elim (h.2.1 id hd).1 (h.2.1 id hd).2,fun h=>hid.elim (h.2.2 id hd) fun h2=>(h.2.1 id h2).2 hd⟩;have hput:=TV (s0:=s0) (S:=fun j=>listed.getD j false) (S':=fun i=>(listed.setIfInBounds j true).getD i false) hzj hS hS' zs.length fun i y hy hji _ hSi=>by
    rcases hap j i z y hzj hy hji with h|h
    ·grind
    ·exact⟨fun d hd e=>((GJ h.1).1 d e).2 hd,fun id hid hm=>(h.2.1 id hm).2 hid⟩
   rw[Sa (by omega)]at hput;have hk:=(hA.2 j z hzj).step hB.live hB.lt V (fun id t l e=>hz id t l (lI hA j id t l e)) he hh (hsl j z hzj hS) (K:=wpAny P .any ops.toArray Q fuel (listed.setIfInBounds j true)) (Q:=Q) fun ι' a' w' V' hf hpu=>
    ih (listed.setIfInBounds j true) ι' a' w' (by simpa using hsz) (fun i k hik hk=>by
     grind) (by grind) (fun id t l e=>hpu id _ (hz id t l e) (zLU hA e hzj)) (fun i y hy hSi m hm=>by
     rw[hS',Uf]at hSi;have hij:i≠j:=by simpa using hSi.2
     refine hf _ (hsl i y hy hSi.1 m hm) ?_;have nx: ∀{i y},zs[i]? =some y->(stA zs s0 (i+1)).nx=(stA zs s0 i).nx+y.res.k:=fun h=>by simp only[stA,h,Dj]
     rcases Nat.lt_or_gt_of_ne hij with h|h
     ·have:=ow (zs:=zs) (s0:=s0) (i+1) j h;grind
     ·have:=ow (zs:=zs) (s0:=s0) (j+1) i h;grind) (fun id hid=>hf id (hfr id hid) (.inr (by
     have:=ow (zs:=zs) (s0:=s0) (j+1) zs.length (by omega);have e:(stA zs s0 (j+1)).nx=(stA zs s0 j).nx+z.res.k:=by simp only[stA,hzj,Dj]
     omega))) (by
     have:=cnt_lt (l:=List.range ops.length) (p:=fun j=> !listed.getD j false) (q:=fun i=> !(listed.setIfInBounds j true).getD i false) (fun x hx=>by
      grind) (Md.2 hjl) (by grind) (by grind)
     omega)
   unfold wpOp;simp only[ho];split at hk
   ·grind
   ·grind
end
end Go.Lv
