import Derived.Test.YtiidaccdmolmkaaGreatDoorLc
import Derived.WalkSpells
import Derived.Lib.SliceRun
set_option linter.all false
namespace Go.Lv
section
variable {I:Ip} {P:Program} {ι ι':cL} {w w':World} {h:Nat->Option (EO I.C)} {nx:Nat}
structure ZH (P:Program) (con:Con I):Prop where
 wf:Ii con=true
 fn: ∀x y,con.F x=some y-> ∃fn,P.funcs[con.f]? =some fn/\(fn.name== "runtime.NumGoroutine")=false/\fn.body.isSome=true
 ok: ∀x y,con.F x=some y-> ∀(ι:cL) (w:World) (vs:Array Value),Wf ι w->(∀i,con.inS.objs.length<=i->ι i= .free)->(∀o∈((con.inS.sl I).enc x).2,Qu P ι w o.1 o.2)->Jh ι w ((con.inS.sl I).enc x).1 vs->
  Calls P con.f vs w λe w'=> ∃v ι',e= .returned v/\fW (· ∉ con.cst) ι w ι' w'/\Wf ι' w'/\de ι' w' (resE ((con.outS.sl I).enc y).1) v/\(∀o∈((con.outS.sl I).enc y).2,Qu P ι' w' o.1 o.2)/\ ∀i,con.inS.objs.length+con.k<=i->ι' i= .free
def Dk{i:Nat}: ∀{l:List Nat},dq i l=true↔i∈l
 |[]=>by simp[dq]
 |j::r=>by
  simp only[dq,ib];by_cases a:i=j
  ·subst a;simp
  ·have:Nat.beq i j=false:=by cases hb:Nat.beq i j with|false=>rfl|true=>simp_all
   rw[this];simp only[Ba,a,false_or];exact Dk
def OE: ∀{a b:List Nat},eqN a b=true->a=b
 |[],[],_=>rfl
 |[],_::_,h=>by cases h
 |_::_,[],h=>by cases h
 |i::r,j::s,h=>by simp only[eqN,Da]at h;rw[ma h.1,OE h.2]
def Gv{a b:Nat}:Nat.blt a b=true↔a<b:=by simp[Nat.blt_eq]
def uF: ∀{m:Mp},Jr m=[]-> ∀i,lk m i≠some none
 |[],_,i,h=>by cases h
 |(j,none)::r,hn,i,h=>by simp[Jr]at hn
 |(j,some a)::r,hn,i,h=>by
  rw[Z9]at h;split at h
  ·cases h
  ·exact uF (m:=r) (by simpa [Jr] using hn) i h
def Mh{α:Type}: ∀{l:List (Nat×α)} {i:Nat} {x:α},lk l i=some x->(i,x)∈l
 |[],_,_,h=>by cases h
 |(j,y)::r,i,x,h=>by
  rw[Z9]at h;split at h
  ·grind
  ·exact Vb _ (Mh h)
def G9{m:Mp}{cst:List Nat}{out:List (Nat×jj)}: ∀{l:List (Nat×jj)} {i a:Nat},i∈l.map (·.1)->lk m i=some (some a)->i ∉ cst->i ∉ out.map (·.1)->a∈(Sk (I:=I) m cst out l).map (·.1)
 |[],_,_,hi,_,_,_=>by cases hi
 |(j,s)::r,i,a,hi,hl,h1,h2=>by
  have rest:i∈r.map (·.1)->a∈(Sk (I:=I) m cst out ((j,s)::r)).map (·.1):=λhr=>by
   have:=G9 (l:=r) hr hl h1 h2;simp only[Sk]
   grind
  rcases ib.1 hi with rfl|hr
  ·simp only[Sk,hl];have:(dq i cst||dq i (out.map (·.1)))=false:=by
    cases hb:(dq i cst||dq i (out.map (·.1)))with
    |false=>rfl
    |true=>rw[Pb,Dk,Dk]at hb;grind
   rw[this];simp
  ·exact rest hr
def IG{m:Mp}{cst:List Nat}{out:List (Nat×jj)}: ∀{l:List (Nat×jj)},∀p∈Sk (I:=I) m cst out l,p.2= .dead
 |[],p,hp=>by cases hp
 |(j,s)::r,p,hp=>by
  simp only[Sk]at hp;split at hp
  ·cases hb:(dq j cst||dq j (out.map (·.1)))<;>rw[hb]at hp<;>simp only[Ca,Ba,ib]at hp
   ·rcases hp with rfl|hp
    ·rfl
    ·exact IG p hp
   ·exact IG p hp
  ·exact IG p hp
def zB7{a:Nat}{o:EO I.C}(k: ∀id t l,h id=some (.frz t l)->ι id= .pure (l.map (I.full t)))(c: ∀o,h a=some o->Qu P ι w a o)(ho:nrmH h a=some o):Qu P ι w a o:=by
 have les: ∀cs:List (EV I.C),LesC ι w ι cs (cs.map (nrmV h)):=λcs=>⟨by simp,λj x y f d v _ hv=>by
  rw[Ta,f]at d;cases d;exact TE k hv⟩
 unfold nrmH at ho;split at ho
 ·rename_i ty cs hid;cases ho;exact Sq (c _ hid) rfl (by simp[kE]) rfl rfl λj r i hr b=>by
   cases j with
   |zero=>cases hr;cases b;exact les _
   |succ j=>cases hr
 ·rename_i t l1 cs l2 hid;cases ho;refine Sq (c _ hid) rfl rfl rfl (by simp[Zl]) λj r i hr b=> ?_;by_cases e:r=i
  ·subst e;exact⟨rfl,λj x y f d v _ hv=>by grind⟩
  ·simp only[Zl]at hr b
   grind
 ·exact c _ ho
def zRd(hI:cU P I)(f:Nat->Nat){o:EO I.C}(ho:isR o=true):Zl (lq f o)=(Zl o).map (·.map (rnV f)):=by
 have e: ∀(t:Nat) (x:I.C t),I.exp t x=(I.exp t x).map (rnV f):=λt x=>by
  have:=Me (l:=I.exp t x) (f:=rnV f) (g:=id) λv hv=>by have:=hI.pur t x v hv;cases v<;>first|rfl|cases this
  simp_all
 cases o<;>first|(cases ho;done)|rfl|skip
 all_goals simp only[Zl,lq,Ag,Xb,Ye,Tc]
 ·exact Me λx _=>e _ x
 ·rw[Me λx _=>e _ x,Me (l:=_) λx _=>e _ x];rfl
def zKB{x:EV I.C}(h:Nn x=true):Oi x=[]:=by cases x<;>first|rfl|cases h
def zNL(hI:cU P I){o:EO I.C}(ho:isR o=true){j k:Nat}{r:List (EV I.C)}{z:EV I.C}(hr:(Zl o)[j]? =some r)(a:r[k]? =some z){i:Nat}(hi:i∈Oi z):i∈uu o:=by
 have b: ∀(t:Nat) (y:I.C t),r=I.exp t y->i∈uu o:=λt y e=>by rw[e]at a;rw[zKB (hI.pur t y z (Ob a))]at hi;cases hi
 have hm:=Ob hr;cases o with
 |cells ty cs=>obtain rfl:=jc.1 hm;exact We.2 ⟨z,Ob a,hi⟩
 |sl t l=>obtain⟨y,_,e⟩:=Rb.1 hm;grind
 |slo t l1 cs l2=>
  rcases Vd.1 hm with h|h
  ·grind
  ·rcases ib.1 h with rfl|h
   ·exact We.2 ⟨z,Ob a,hi⟩
   grind
 |rows ty k rs=>exact We.2 ⟨z,List.mem_flatten.2 ⟨r,hm,Ob a⟩,hi⟩
 |_=>cases ho
def zMR(hI:cU P I)(t:Conv ι w ι' w){f:Nat->Nat}{i:Nat}{o:EO I.C}(ho:isR o=true)(u:Qu P ι w i o)(hs:ι' (f i)=ι i)(hf: ∀j∈uu o,Slw ι ι' w w j (f j)):Qu P ι' w (f i) (lq f o):=by
 have h1:isR (lq f o)=true:=by cases o<;>first|rfl|cases ho
 have hr:=zRd hI f ho;obtain⟨b,e,hb⟩:=(Zu ho).1 u;have k1:kE P (lq f o)=kE P o:=by cases o<;>simp[kE,lq]
 have k2:tyE (lq f o)=tyE o:=by cases o<;>rfl
 refine(Zu h1).2 ⟨b,by grind,?_⟩;rw[k1,k2,hr];refine hb.les (λ_ _=>rfl) ⟨by simp,λj x A n a=> ?_⟩;simp only[Ta,Sa]at n a;obtain⟨y,r,rfl⟩:=n;obtain⟨_,⟨E,c,rfl⟩,rfl⟩:=a;rw[r]at c;cases c;refine⟨by simp,λk p F d l v _ hv=> ?_⟩;simp only[Ta,Sa]at d l;obtain⟨z,s,rfl⟩:=d;obtain⟨_,⟨J,m,rfl⟩,rfl⟩:=l;rw[s]at m;cases m;exact ef.ren t (λi hi=>hf i (zNL hI ho r s hi)) hv
def zBG(hI:cU P I)(a:Conv ι w ι' w){f:Nat->Nat}{i:Nat}{o:EO I.C}(ho:isL o=true)(d:Qu P ι w i o)(hs:ι' (f i)=ι i)(k: ∀b,ι.X b= .inn i->ι'.X b= .inn (f i))(hf: ∀j∈uu o,Slw ι ι' w w j (f j)):Qu P ι' w (f i) (lq f o):=by
 cases hr:isR o with
 |true=>exact zMR hI a hr d hs hf
 |false=>
  cases o with
  |slq t e l c=>exact BR d hs k a λv _ hv=>hv.ren a hf
  |dead=>cases ho
  |frz t l=>cases ho
  |mp kd l=>cases ho
  |_=>cases hr
def Jh.arg{as bs:List (ET I.C)}{vs:Array Value}(h:Jh ι w as vs)(hl:bs.length=as.length)(hb: ∀(j:Nat) a b,as[j]? =some a->bs[j]? =some b-> ∀v,cx ι w a v->cx ι' w b v):Jh ι' w bs vs:=
 ⟨by rw[h.1,hl],λj b c=>by
  have ha:=Na (show j<as.length by grind);obtain⟨u,a1,a2⟩:=h.2 j _ ha
  grind⟩
def zPy (hI:cU P I){con:Con I}(hc:ZH P con){as:List (ET I.C)}{x:(con.inS.sl I).T}{m:Mp}(hm:(con.inS.sl I).mat as (nrmH h) []=some (x,m))(hb:(m.all λz=>Nat.blt z.1 con.inS.objs.length)=true)(hn:Jr m=[]){y:(con.outS.sl I).T}(r:con.F x=some y){vs:Array Value}
  (W:Wf ι w) (hd:Hd P h ((Pi con h nx m y).rd++(Pi con h nx m y).up.map (·.1)) ι w) (s: ∀j,j<con.k->ι (nx+j)= .free) (hv:Jh ι w as vs):Calls P con.f vs w λe w'=> ∃v,e= .returned v/\Done P ι w nx (Pi con h nx m y) v w':=by
 have wf:=hc.wf;simp only[Ii,Da,aa]at wf;obtain⟨⟨⟨⟨⟨⟨⟨w1,w2⟩,w3⟩,w4⟩,w5⟩,w6⟩,w7⟩,w8⟩:=wf;have w1:=OE w1;obtain⟨_,L1⟩:=Gq (P:=P) hI con.inS;obtain⟨l1,l2,l3,l4⟩:=L1 as (nrmH h) [] x m hm;have ad:InjM m:=l1.2 λi j a h=>by cases h
 generalize hp:con.inS.objs.length=p at*
 let f:Nat->Nat:=λi=>cond (Nat.blt i p) (rnM m 0 i) (nx+(i - p))
 have V: ∀i,i<p-> ∃o,lk m i=some (some (f i))/\nrmH h (f i)=some o:=by
  intro i hi;have:i∈con.inS.objs.map (·.1):=by rw[w1];exact Pd.2 hi
  obtain⟨o,ho,rfl⟩:=Rb.1 this;obtain⟨z,hz,b3⟩:=l2 o ho;cases z with
  |none=>exact absurd hz (uF hn _)
  |some a=>
   have e:f o.1=a:=by simp[f,Gv.2 hi,rnM,hz]
   grind
 have al: ∀i j,i<p->j<p->f i=f j->i=j:=λi j hi J e=>by obtain⟨_,q1,_⟩:=V i hi;obtain⟨_,q2,_⟩:=V j J;rw[e]at q1;exact ad i j _ q1 q2
 have a3: ∀j,f (p+j)=nx+j:=λj=>by
  have:Nat.blt (p+j) p=false:=by cases hb:Nat.blt (p+j) p with|false=>rfl|true=>have:=Gv.1 hb;omega
  simp[f,this]
 have ao: ∀i a,lk m i=some (some a)->i<p/\a=f i:=λi a hi=>by
  have h1:=Gv.1 (Ya.1 hb _ (Mh hi))
  grind
 have a7: ∀i,i<p->(List.range p).find? (λj=>f j==f i)=some i:=λi hi=>by
  cases hf:(List.range p).find? (λj=>f j==f i)with
  |none=>grind
  |some j=>grind
 -- the callee's slots
 let c:Nat->Prop:=λb=>ι.X b= .far\/(∃a,ι.X b= .inn a/\ ∀i,i<p->f i≠a)\/ ∃a k n,ι a= .live (some b) k n/\ ∀i,i<p->f i≠a
 have dF: ∀b,Decidable (c b):=λb=>Classical.propDecidable _
 let l:cL:=⟨λi=>if i<p then ι (f i)else .free,λb=>if c b then .far else match ι.X b with
  | .inn a=>match(List.range p).find? (λi=>f i==a)with
   |some i=> .inn i
   |none=> .far
  |x=>x⟩
 have c1: ∀b,c b->l.X b= .far:=λb h=>La h;have c0: ∀b,¬c b->l.X b=match ι.X b with
  | .inn a=>match(List.range p).find? (λi=>f i==a)with
   |some i=> .inn i
   |none=> .far
  |x=>x:=λb h=>Ka h
 have c2: ∀b i,i<p->ι.X b= .inn (f i)-> ¬c b/\l.X b= .inn i:=λb i hi e=>by
  have hn: ¬c b:=by
   rintro(h|⟨a,h1,h2⟩|⟨a,k,n,h1,h2⟩)
   ·grind
   ·grind
   ·have:=(W.lt _ _ _ _ h1).2;grind
  exact⟨hn,by rw[c0 b hn,e];grind⟩
 have c3: ∀b,¬c b->l.X b= .no\/ ∃i,i<p/\ι.X b= .inn (f i):=λb hn=>by
  cases e:ι.X b with
  |no=>grind
  |far=>grind
  |inn a=>
   grind
 have E: ∀i,i<p->l i=ι (f i):=λi hi=>La hi;have ap: ∀i,p<=i->l i= .free:=λi hi=>Ka (by omega);have Y: ∀{i b k n},l i= .live (some b) k n->i<p/\ι (f i)= .live (some b) k n:=λ{i b k n} e=>by
  grind
 have L: ∀b,fm ι w b->fm l w b:=λb hb=>by
  have hn: ¬c b:=by
   rintro(h|⟨a,h1,h2⟩|⟨a,k,n,h1,h2⟩)
   ·rw[hb.2.1]at h;cases h
   ·rw[hb.2.1]at h1;cases h1
   ·exact hb.2.2 a k n h1
  exact⟨hb.1,by rw[c0 b hn,hb.2.1],λi k n e=>hb.2.2 _ k n (Y e).2⟩
 have hC:Conv ι w l w:=⟨λ_ _ h=>h,L,λ_ _=>rfl⟩;have Wc:Wf l w:=by
  refine⟨λi b k n e=> ?_,λi j b k k' n n' e M=> ?_,λq O=> ?_,λb hx=> ?_⟩
  ·obtain⟨h1,h2⟩:=Y e;obtain⟨h3,h4⟩:=W.lt _ _ _ _ h2;have hn: ¬c b:=by
    rintro(h|⟨a,h5,_⟩|⟨a,k,n,h5,h6⟩)
    ·rw[h4]at h;cases h
    ·rw[h4]at h5;cases h5
    ·exact h6 i h1 (W.inj _ _ _ _ _ _ _ h2 h5)
   exact⟨h3,by rw[c0 b hn,h4]⟩
  ·obtain⟨h1,h2⟩:=Y e;obtain⟨g1,g2⟩:=Y M;exact al i j h1 g1 (W.inj _ _ _ _ _ _ _ h2 g2)
  ·obtain⟨h1,h2⟩:=W.glob q O;exact⟨L _ h1,h2⟩
  ·by_cases r:c b
   ·rcases r with h|⟨a,h,_⟩|⟨a,k,n,h,_⟩
    ·exact W.xlt b (by rw[h];simp)
    ·exact W.xlt b (by rw[h];simp)
    ·exact(W.lt _ _ _ _ h).1
   ·rcases c3 b r with h|⟨i,_,h⟩
    ·exact absurd h hx
    ·exact W.xlt b (by rw[h];simp)
 have am:Cmp ι l (λ_=>0) m:=λi z hz=>by
  cases z with
  |none=>exact absurd hz (uF hn _)
  |some a=>obtain⟨h1,rfl⟩:=ao i a hz;exact⟨E i h1,λb e=>(c2 b i h1 e).2⟩
 have an: ∀a o,(∃i,lk m i=some (some a))->nrmH h a=some o->Qu P ι w a o:=λa o ⟨i,hi⟩ ho=>zB7 hd.1 (hd.2 a (Xe _ (List.mem_filterMap.2 ⟨(i,some a),Mh hi,rfl⟩))) ho;obtain⟨a1,a2⟩:=l4 hC am (λo _ e=>absurd e (uF hn _)) λi a hi o ho=>an a o ⟨i,hi⟩ ho;have live: ∀i,i<p-> ∃b k n,ι (f i)= .live b k n:=λi hi=>by
  obtain⟨o,h1,h2⟩:=V i hi;have:i∈((con.inS.sl I).enc x).2.map (·.1):=by rw[(Gq (P:=P) hI con.inS).1,w1];exact Pd.2 hi
  obtain⟨q,O,rfl⟩:=Rb.1 this;obtain⟨h3,h4⟩:=a2 q O;obtain⟨b,k,n,e⟩:=Yz h3 h4;exact⟨b,k,n,E _ hi▸e⟩
 have aq: ∀i j,i<p->j<con.k->f i≠nx+j:=λi j hi J e=>by obtain⟨b,k,n,M⟩:=live i hi;rw[e,s j J]at M;cases M
 refine(hc.ok x y r l w vs Wc (by rw[hp];exact ap) (λo ho=>(a2 o ho).2) (hv.arg l3 a1)).mono λe w' ⟨v,ι2,he,A,W2,v2,o2,f2⟩=>⟨v,he,?_⟩;rw[hp]at f2
 -- the caller's slots behind the call
 let d:cL:=⟨λa=>match(List.range p).find? (λi=>f i==a)with|some i=>ι2 i|none=>if nx<=a/\a<nx+con.k then ι2 (p+(a - nx))else ι a,λb=>if c b then ι.X b else match ι2.X b with| .inn i=> .inn (f i)|x=>x⟩
 have k1: ∀i,i<p->d (f i)=ι2 i:=λi hi=>by show(match(List.range p).find? (λj=>f j==f i)with|some i=>ι2 i|none=>_)=_;rw[a7 i hi]
 have d0: ∀b,c b->ι2.X b= .far:=λb h=>(A.xs b (by rw[c1 b h];trivial)).trans (c1 b h);have d1: ∀b,c b->d.X b=ι.X b:=λb h=>La h;have d2: ∀b,¬c b->d.X b=match ι2.X b with| .inn i=> .inn (f i)|x=>x:=λb h=>Ka h;have d3: ∀b,ι2.X b= .no-> ¬c b/\d.X b= .no:=λb h=>by
  have hn: ¬c b:=λr=>by rw[d0 b r]at h;cases h
  exact⟨hn,by rw[d2 b hn,h]⟩
 have a6: ∀a,(∀i,i<p->f i≠a)->d a=if nx<=a/\a<nx+con.k then ι2 (p+(a - nx))else ι a:=λa ha=>by
  show(match(List.range p).find? (λj=>f j==a)with|some i=>ι2 i|none=>_)=_;cases hf:(List.range p).find? (λj=>f j==a)with
  |none=>rfl
  |some j=>exact absurd (by simpa using List.find?_some hf) (ha j (Pd.1 (List.mem_of_find?_eq_some hf)))
 have k2: ∀j,j<con.k->d (nx+j)=ι2 (p+j):=λj J=>by rw[a6 _ λi hi=>aq i j hi J,La (by omega),Nat.add_sub_cancel_left]
 have k3: ∀a,(∀i,i<p->f i≠a)->(a<nx\/nx+con.k<=a)->d a=ι a:=λa ha hn=>by rw[a6 a ha,Ka (by omega)]
 have kf: ∀i,ι2 i≠ .free->d (f i)=ι2 i:=λi hi=>by
  by_cases h1:i<p
  ·exact k1 i h1
  ·obtain⟨j,rfl⟩: ∃j,i=p+j:=⟨i - p,by omega⟩;rw[a3];exact k2 j (by by_cases h2:j<con.k;exact h2;exact absurd (f2 (p+j) (by omega)) hi)
 have Q: ∀a,(∃i,i<p/\f i=a)\/(∃j,j<con.k/\a=nx+j)\/((∀i,i<p->f i≠a)/\(a<nx\/nx+con.k<=a)):=λa=>by
  by_cases h1: ∃i,i<p/\f i=a
  ·exact .inl h1
  ·by_cases h2:nx<=a/\a<nx+con.k
   ·exact .inr (.inl ⟨a - nx,by omega,by omega⟩)
   ·exact .inr (.inr ⟨λi hi e=>h1 ⟨i,hi,e⟩,by omega⟩)
 have lv: ∀{a b k n},d a= .live (some b) k n->(∃i,ι2 i= .live (some b) k n/\f i=a)\/(ι a= .live (some b) k n/\c b):=λ{a b k n} e=>by
  rcases Q a with⟨i,hi,rfl⟩|⟨j,J,rfl⟩|⟨h1,h2⟩
  ·exact .inl ⟨i,k1 i hi▸e,rfl⟩
  ·exact .inl ⟨p+j,k2 j J▸e,a3 j⟩
  ·have e:=k3 a h1 h2▸e;exact .inr ⟨e, .inr (.inr ⟨a,k,n,e,h1⟩)⟩
 have U: ∀b,fm ι2 w' b->fm d w' b:=λb hb=>⟨hb.1,(d3 b hb.2.1).2,λa k n e=>by
  rcases lv e with⟨i,M,_⟩|⟨_,M⟩
  ·exact hb.2.2 i k n M
  ·exact(d3 b hb.2.1).1 M⟩
 have Z:Conv ι2 w' d w':=⟨λ_ _ h=>h,U,λ_ _=>rfl⟩;have a8: ∀i,Slw ι2 d w' w' i (f i):=λi hi=> .inl (kf i hi);have W3:Wf d w':=by
  refine⟨λa b k n e=> ?_,λa a' b k k' n n' e M=> ?_,λq O=> ?_,λb hx=> ?_⟩
  ·rcases lv e with⟨i,M,_⟩|⟨M,ar⟩
   ·obtain⟨h1,h2⟩:=W2.lt _ _ _ _ M;exact⟨h1,(d3 b h2).2⟩
   ·obtain⟨h1,h2⟩:=W.lt _ _ _ _ M;exact⟨Mc h1 A.size,by rw[d1 b ar];exact h2⟩
  ·rcases lv e with⟨i,h1,h2⟩|⟨h1,h2⟩<;>rcases lv M with⟨i',g1,g2⟩|⟨g1,g2⟩
   ·rw[<-h2,<-g2,W2.inj _ _ _ _ _ _ _ h1 g1]
   ·exact absurd g2 (d3 b (W2.lt _ _ _ _ h1).2).1
   ·exact absurd h2 (d3 b (W2.lt _ _ _ _ g1).2).1
   ·exact W.inj _ _ _ _ _ _ _ h1 g1
  ·obtain⟨h1,h2⟩:=W2.glob q O;exact⟨U _ h1,h2⟩
  ·by_cases r:c b
   ·rw[d1 b r]at hx;exact Mc (W.xlt b hx) A.size
   ·refine W2.xlt b λe=>hx ?_;rw[d2 b r,e]
 have a9: ∀i,i<p->i ∉ con.cst->f i∈(Pi con h nx m y).up.map (·.1):=λi hi ab=>by
  obtain⟨_,h1,_⟩:=V i hi;show f i∈(_++_:eE I.C).map (·.1);rw[Tc,Vd];by_cases ho:i∈con.outS.objs.map (·.1)
  ·left;rw[<-(Gq (P:=P) hI con.outS).1 y]at ho;obtain⟨o,aw,rfl⟩:=Rb.1 ho;exact Rb.2 ⟨_,Rb.2 ⟨o,aw,rfl⟩,by rw[hp]⟩
  ·exact .inr (G9 (by rw[w1];exact Pd.2 hi) h1 ab ho)
 have Sc: ∀i,i<p->ι (f i)≠ .free->d (f i)=ι (f i)\/d (f i)= .dead\/ ∃b k n rows,ι (f i)= .live b k n/\d (f i)= .pure rows/\ ∀v,gk w b k 0 n v->cX (fm d w') w' (.sl rows) v:=λi hi h0=>by
  rw[k1 i hi,<-E i hi];rcases A.slots i (by rw[E i hi];exact h0)with e|e|⟨b,k,n,rows,e1,e2,e3⟩
  ·exact .inl e
  ·exact .inr (.inl e)
  ·exact .inr (.inr ⟨b,k,n,rows,e1,e2,λv hv=>(e3 v hv).conv Z⟩)
 have hX: ∀b,lr (λi=>i∈(Pi con h nx m y).up.map (·.1)) (ι.X b)->d.X b=ι.X b/\w'.heap[b]? =w.heap[b]? :=λb hb=>by
  by_cases r:c b
  ·exact⟨d1 b r,A.xkeep b (by rw[c1 b r];trivial)⟩
  ·rcases c3 b r with h|⟨i,hi,e⟩
   ·cases e:ι.X b with
    |no=>rw[e]at hb;cases hb
    |far=>exact absurd (.inl e) r
    |inn a=> rw[c0 b r,e]at h;simp only at h;split at h<;>cases h
   ·have ab:i∈con.cst:=ve λhn=>by rw[e]at hb;exact hb (a9 i hi hn)
    have hh:lr (· ∉ con.cst) (l.X b):=by rw[(c2 b i hi e).2];exact λh=>h ab
    have e2:=(A.xs b hh).trans (c2 b i hi e).2;exact⟨by rw[d2 b r,e2,e],A.xkeep b hh⟩
 refine⟨d,⟨⟨A.shape,λb hb=>U b (A.dom b (L b hb)),λb hb=>A.keep b (L b hb)⟩,A.os,A.tape,A.output,A.size,λa b k n hT e=> ?_,λa h0=> ?_,λa hT h0=> ?_,λb hb=>(hX b hb).1,λb e=> ?_,λb hb=>(hX b hb).2⟩,W3,?_,λq O=> ?_,λa ha hn=> ?_⟩
 ·rcases Q a with⟨i,hi,rfl⟩|⟨j,J,rfl⟩|⟨h1,h2⟩
  ·exact A.own i b k n (λh=>hT (a9 i hi h)) (E i hi▸e)
  ·rw[s j J]at e;cases e
  ·exact A.xkeep b (by rw[c1 b (.inr (.inr ⟨a,k,n,e,h1⟩))];trivial)
 ·rcases Q a with⟨i,hi,rfl⟩|⟨j,J,rfl⟩|⟨h1,h2⟩
  ·exact Sc i hi h0
  ·exact absurd (s j J) h0
  ·exact .inl (k3 a h1 h2)
 ·rcases Q a with⟨i,hi,rfl⟩|⟨j,J,rfl⟩|⟨h1,h2⟩
  ·rw[k1 i hi,A.fix i (λh=>hT (a9 i hi h)) (by rw[E i hi];exact h0),E i hi]
  ·exact absurd (s j J) h0
  ·exact k3 a h1 h2
 ·by_cases r:c b
  ·rw[d1 b r]at e;exact e
  ·rw[d2 b r]at e;cases e2:ι2.X b with
   |far=>exact absurd (c3 b r) (by
     have:=A.xn b e2;rintro(h|⟨i,hi,h⟩)
     ·rw[this]at h;cases h
     ·rw[(c2 b i hi h).2]at this;cases this)
   |_=>rw[e2]at e;cases e
 ·have: ∀ts:List (ET I.C),de ι2 w' (resE ts) v->de d w' (resE (ts.map (rnET f))) v:=by
   intro ts hr;have tup: ∀ts:List (ET I.C),de ι2 w' (.tup ts) v->de d w' (.tup (ts.map (rnET f))) v:=λts ⟨vs,h1,h2,h3⟩=>⟨vs,h1,by simpa using h2,λj t ht=>by
    simp only[Ta,Sa]at ht;obtain⟨t0,ht,rfl⟩:=ht;obtain⟨u,q1,q2⟩:=h3 j t0 ht;exact⟨u,q1,q2.ren Z λi _=>a8 i⟩⟩
   match ts,hr with
   |[t],hr=>exact cx.ren Z (λi _=>a8 i) hr
   |[],hr=>exact tup _ hr
   |_::_::_,hr=>exact tup _ hr
  have:=this _ v2;rw[show(Pi con h nx m y).val=resE (((con.outS.sl I).enc y).1.map (rnET f)) by simp only[Pi,hp];rfl];exact this
 ·have O:q∈((con.outS.sl I).enc y).2.map (λo=>(f o.1,lq f o.2))++Sk m con.cst con.outS.objs con.inS.objs:=by have:=O;simp only[Pi,hp]at this;exact this
  rcases Vd.1 O with O|O
  ·obtain⟨o,ho,rfl⟩:=Rb.1 O;have h1:=eZ con.outS y o ho;have h2:=o2 o ho;obtain⟨b,k,n,e⟩:=Yz h1 h2;exact zBG hI Z h1 h2 (kf _ (by rw[e];simp)) (λb e=>by
    have hn: ¬c b:=λr=>by rw[d0 b r]at e;cases e
    rw[d2 b hn,e]) λj _=>a8 j
  ·rw[IG q O];trivial
 ·rcases Q a with⟨i,hi,rfl⟩|⟨j,J,rfl⟩|⟨h1,h2⟩
  ·obtain⟨b,k,n,e⟩:=live i hi;rw[e]at ha;cases ha
  ·simp only[Pi]at hn;omega
  ·rw[k3 a h1 h2];exact ha
end
section
variable {I:Ip} {P:Program} {ι:cL} {w:World} {h:Nat->Option (EO I.C)} {nx:Nat} {R:Type} {r0:R} {q:Path} {g:Bool} {K:Kt I R}
def Runs(P:Program)(a:Act)(o:Oper)(w:World)(G:Value->World->Prop):Prop:=
 (∃v w',(execOp a.eval o).run P w= .ok (.value v) w'/\G v w')\/(∃w',(execOp a.eval o).run P w= .ok .skip w'/\G undef w')\/
  ∃f vs,(execOp a.eval o).run P w= .ok (.enter f vs) w/\Calls P f vs w λe w'=> ∃v,e= .returned v/\G v w'
def Runs.wp{a:Act}{o:Oper}{G:Value->World->Prop}(h:Runs P a o w G){K:Act->World->Prop}{Q:Exit->Act->World->Prop}(b: ∀v w',G v w'->K (a.put o.dst v) w'):o.wp P a w K Q:=by
 unfold Oper.wp;rcases h with⟨v,w',h,g⟩|⟨w',h,g⟩|⟨f,vs,h,g⟩
 ·rw[h];exact b v w' g
 ·rw[h];exact b undef w' g
 ·rw[h];refine g.mono λe w' ⟨v,c,d⟩=> ?_
  grind
def OpG(P:Program)(g:Bool)(h:Nat->Option (EO I.C))(nx:Nat)(K:Kt I R)(r0:R)(o:Oper)(E:Operand->EL I.C):Prop:=
 ∃res,K res=some r0/\(g=false->res.up=[])/\(g=true-> ∀ι w (a:Act),Wf ι w->Hd P h (res.rd++res.up.map (·.1)) ι w->(∀j,j<res.k->ι (nx+j)= .free)->(∀x∈o.op.operands,de ι w (E x) (a.eval x))->Runs P a o w (Done P ι w nx res))
def OpD.opg{A:cL->World->Sem Value->Prop}{o:Oper}{E:Operand->EL I.C}(h1:OpD P g h nx K r0 A)(f:Act->Sem Value)(k: ∀a:Act,execOp a.eval o=(do pure (.value (<-f a))))(e:g=true-> ∀ι w (a:Act),(∀x∈o.op.operands,de ι w (E x) (a.eval x))->A ι w (f a)):OpG P g h nx K r0 o E:=
 let⟨res,a,b,c⟩:=h1
 ⟨res,a,b,λd ι w a W i hf j=>by
  obtain⟨v,w',e1,e2⟩:=c d ι w _ W i hf (e d ι w a j);exact .inl ⟨v,w',by simp_all,e2⟩⟩
def wu{x:EL I.C}{o:Oper}{E:Operand->EL I.C}{rd:List Nat}{k:Nat}(h0:K ⟨x,[],rd,k⟩=some r0)(h1:g=true-> ∀ι w (a:Act),Hd P h rd ι w->(∀x∈o.op.operands,de ι w (E x) (a.eval x))-> ∃v,(execOp a.eval o).run P w= .ok (.value v) w/\de ι w x v):OpG P g h nx K r0 o E:=
 ⟨_,h0,λ_=>rfl,λb ι w a W c _ d=>by
  obtain⟨v,e1,e2⟩:=h1 b ι w a (c.mono λi hi=>Xe _ hi) d;exact .inl ⟨v,w,e1, .same W e2⟩⟩
def pq{e:Nat->Option (EL I.C)}{t:Nat}{w:Bool}{r:Path}:qz e ((t,w)::r)=(litB w (Ao e t)&&qz e r):=by cases r<;>simp[qz]
def zBW{e:Nat->Option (EL I.C)}{a:Nat×Bool}: ∀{q:Path},memK a q=true->qz e q=true->litB a.2 (Ao e a.1)=true
 |[],h,_=>by cases h
 |(t,w)::r,h,hp=>by
  rw[pq,Da]at hp;simp only[memK]at h;cases hb:beqK a (t,w)with
  |true=>
   simp only[beqK,Da]at hb;have e1:=ma hb.1
   grind
  |false=>rw[hb]at h;exact zBW h hp.2
def PG{e:Nat->Option (EL I.C)}: ∀{ks q:Path},subK ks q=true->qz e q=true->qz e ks=true
 |[],_,_,_=>rfl
 |(t,w)::r,q,h,hp=>by
  simp only[subK]at h;cases hm:memK (t,w) q with
  |false=>grind
  |true=> rw[hm]at h;rw[pq,zBW hm hp,PG h hp];rfl
variable {X:Cx I} {st:ES I.C}
def gw(e:Nat->Option (EL I.C)):Prop:= ∀t ks b x,e t=some (.opt ks b x)->qz e ks=b
def V9{x:Operand}{ks:Path}{b:Bool}{t:ET I.C}(hc:gw (cR X st))(h:eh X st x= .opt ks b t):qz (cR X st) ks=b:=by
 cases x with
 |tmp i=>
  simp only[eh]at h;split at h
  ·rename_i y a;cases y<;>simp only[nrmL,reduceCtorEq,EL.opt.injEq]at h;obtain⟨rfl,rfl,_⟩:=h;exact hc _ _ _ _ a
  ·cases h
 |const v=>
  simp only[eh]at h;unfold iE at h
  grind
 |global g=>cases h
 |func f=>cases h
def qR(hc:gw (cR X st)){x:Operand}{t:ET I.C}(h:en q (eh X st x)=some t)(a:qz (cR X st) q=true){v:Value}(hv:de ι w (eh X st x) v):cx ι w t v:=by
 unfold en at h;split at h
 ·rename_i e;cases h;rw[e]at hv;exact hv
 ·rename_i e;obtain⟨h1,h2⟩:=zX h;cases h2;rw[e]at hv;exact hv.1 (by rw[<-V9 hc e];exact PG h1 a)
 ·cases h
def uE(hc:gw (cR X st))(b:qz (cR X st) q=true){a:Act}: ∀{xs:List Operand} {as:List (ET I.C)},allE q (xs.map (eh X st))=some as->(∀x∈xs,de ι w (eh X st x) (a.eval x))->as.length=xs.length/\ ∀(j:Nat) (t:ET I.C),as[j]? =some t-> ∃u,(xs.map a.eval)[j]? =some u/\cx ι w t u
 |[],as,h,_=>by cases h;grind
 |x::r,as,h,c=>by
  simp only[Xb,allE]at h;split at h
  ·rename_i t l ht hl;cases h;obtain⟨e,f⟩:=uE hc b hl λy i=>c y (Vb _ i);refine⟨by simp[e],λj k d=> ?_⟩;cases j with
   |zero=>cases d;exact⟨_,rfl,qR hc ht b (c x (by simp))⟩
   |succ j=>exact f j k d
  ·cases h
def UG(hc:gw (cR X st)){x:Operand}{ks:Path}{b:Bool}(h:vK (eh X st x)=some (ks,b))(hp:qz (cR X st) ks=true){v:Value}(hv:de ι w (eh X st x) v):v= .bool b:=by
 unfold vK at h;split at h
 ·rename_i e;cases h;rw[e]at hv;exact Ze rfl hv
 ·rename_i e;cases h;rw[e]at hv;exact Ze rfl (hv.1 (by rw[<-V9 hc e];exact hp))
 ·cases h
def zPr{t:Nat}{b:Bool}(h:en q (eh X st (.tmp t))=some (.c (.bool b))):Ao (cR X st) t=b:=by
 have at_: ∀{z:ET I.C},nrmT (ev X st) z= .c (.bool b)->z= .c (.bool b):=λ{z} e=>by
  cases z with
  |c u=>cases u<;>simp only[nrmT,nrmV,ET.c.injEq,reduceCtorEq,EV.bool.injEq]at e<;>first|(subst e;rfl)|grind
  |agg=>cases e
 simp only[eh]at h;unfold Ao;cases hl:cR X st t with
 |none=>rw[hl]at h;cases h
 |some z=>
  rw[hl]at h;cases z with
  |any=>cases h
  |tup ts=>cases h
  |v z=>rw[at_ (z:=z) (by simpa [nrmL,en] using h)]
  |opt ks a z=>simp only[nrmL,en]at h;grind
def zNz(hc:gw (cR X st)){o:Oper}{c x y:Operand}(ho:o.op= .pick c x y)(h0:FQ c (eh X st c) (eh X st x) (eh X st y) q K=some r0):OpG P (qz (cR X st) q) h nx K r0 o (eh X st):=by
 have run: ∀{b:Bool} {a:Act} {w:World},a.eval c= .bool b->(execOp a.eval o).run P w= .ok (.value (if b=true then a.eval x else a.eval y)) w:=by intro b a w hb;cases b<;>simp[execOp,ho,hb,asBool]
 have ops: ∀z∈[c,x,y],z∈o.op.operands:=by rw[ho];intro z k;simpa [Op.operands] using k
 unfold FQ at h0;split at h0
 ·rename_i t b p l r m i j d;obtain⟨hk,h0⟩:=zX h0;rw[Da]at hk;refine wu h0 λf ι w a n e=> ?_;have h1:=Ze rfl (qR hc d f (e _ (ops _ (by simp))));refine⟨_,run h1,?_⟩;have hb:=zPr d;cases b with
  |true=> have:=UG hc i (PG hk.1 (by rw[pq,hb,f];rfl)) (e x (ops _ (by simp)));rw[La rfl,this];exact Rj _
  |false=> have:=UG hc j (PG hk.2 (by rw[pq,hb,f];rfl)) (e y (ops _ (by simp)));rw[Ka (by simp),this];exact Rj _
 ·rename_i b l m _ i j d;refine wu h0 λf ι w a n e=> ?_;have h1:=Ze rfl (qR hc d f (e _ (ops _ (by simp))));refine⟨_,run h1,?_⟩;cases b with
  |true=>rw[La rfl,UG hc i rfl (e x (ops _ (by simp)))];exact Rj _
  |false=>rw[Ka (by simp),UG hc j rfl (e y (ops _ (by simp)))];exact Rj _
 ·cases h0
def zEY{a:Act}: ∀{xs:List Operand} {l:List (Nat×Nat×Nat)},pK (eh X st) xs=some l->(∀x∈xs,de ι w (eh X st x) (a.eval x))->l.length=xs.length/\ ∀(j:Nat) q,l[j]? =some q-> ∃u,(xs.map a.eval)[j]? =some u/\cx (I:=I) ι w (.c (.optr q.1 q.2.1 q.2.2)) u
 |[],l,h,_=>by cases h;grind
 |x::r,l,h,b=>by
  simp only[pK]at h;split at h
  ·rename_i id row cell m e hl;cases h;obtain⟨f,i⟩:=zEY hl λy k=>b y (Vb _ k);refine⟨by simp[f],λj q d=> ?_⟩;cases j with
   |zero=>cases d;have:=b x (by simp);rw[e]at this;exact⟨_,rfl,this⟩
   |succ j=>exact i j q d
  ·cases h
def zRn{x:ET I.C}{v:Value}(h:cx ι w x v):cx ι w (unF x) v:=by
 unfold unF;split
 ·exact⟨h.1,h.2.1⟩
 ·exact h
def zEU(hI:cU P I)(l:q=[]->g=true){f:Nat}{as:List (ET I.C)}: ∀{S:List (Con I)},(∀c∈S,ZH P c)->wC h nx f as q g K S=some r0->
  ∃res,K res=some r0/\(g=false->res.up=[])/\(∃fn,P.funcs[f]? =some fn/\(fn.name== "runtime.NumGoroutine")=false/\fn.body.isSome=true\/g=false)/\(g=true-> ∀ι w vs,Wf ι w->Hd P h (res.rd++res.up.map (·.1)) ι w->(∀j,j<res.k->ι (nx+j)= .free)->Jh ι w as vs->Calls P f vs w λe w'=> ∃v,e= .returned v/\Done P ι w nx res v w')
 |[],_,h0=>by cases h0
 |con::r,hS,h0=>by
  have rest:=λh=>zEU hI l (f:=f) (as:=as) (S:=r) (λc hc=>hS c (Vb _ hc)) h;simp only[wC]at h0;cases hf:Nat.beq con.f f with
  |false=>grind
  |true=>
   rw[hf]at h0;simp only[Ca]at h0;have hf:=ma hf;split at h0
   case h_2=>exact rest h0
   rename_i x m hm;have hc:=hS con (Ub ..);have fn:(g=true-> ∃y,con.F x=some y)-> ∃fn,P.funcs[f]? =some fn/\(fn.name== "runtime.NumGoroutine")=false/\fn.body.isSome=true\/g=false:=λh=>by
    rcases ic g with e|e
    ·obtain⟨y,a⟩:=h e;obtain⟨fn,h1⟩:=hc.fn x y a
     grind
    simp_all
   unfold LY at h0;split at h0
   case h_2=>cases h0
   rename_i hn;have hb:(m.all λz=>Nat.blt z.1 con.inS.objs.length)=true/\Jr m=[]:=by
    cases b:(m.all λz=>Nat.blt z.1 con.inS.objs.length)<;>rw[b]at hn
    ·cases hn
    ·grind
   have go: ∀y,con.F x=some y-> ∀ι w vs,Wf ι w->Hd P h ((Pi con h nx m y).rd++(Pi con h nx m y).up.map (·.1)) ι w->(∀j,j<(Pi con h nx m y).k->ι (nx+j)= .free)->Jh ι w as vs->Calls P f vs w λe w'=> ∃v,e= .returned v/\Done P ι w nx (Pi con h nx m y) v w':=
    λy a ι w vs W n d hv=>hf▸zPy hI hc hm hb.1 hb.2 a W n d hv
   split at h0
   ·obtain⟨y,a,h0⟩:=Ra.1 h0;exact⟨_,h0,λe=>(by grind),fn λ_=>⟨y,a⟩,λ_=>go y a⟩
   ·rename_i _ ho i;obtain⟨hk,h0⟩:=zX h0;obtain⟨y,a,h0⟩:=Ra.1 h0;refine⟨_,h0,λ_=> ?_,fn λe=>⟨y,by rw[e]at a;exact a⟩,λe=>go y (by rw[e]at a;exact a)⟩;have:((con.outS.sl I).enc y).2=[]:=by have:=(Gq (P:=P) hI con.outS).1 y;rw[ho]at this;exact List.map_eq_nil_iff.1 this
    simp only[Pi,this,Ye,Lb];exact i
   ·cases g with
    |true=>
     obtain⟨y,a,h0⟩:=Ra.1 h0;exact⟨_,h0,λe=>(by cases e),fn λ_=>⟨y,a⟩,λ_=>go y a⟩
    |false=>grind
def zSH(hI:cU P I)(J:g8 P X.T X.fk){S:List (Con I)}(hS: ∀c∈S,ZH P c){fz:Nat}(hc:gw (cR X st)){o:Oper}(h0:opE X S fz st q (qz (cR X st) q) o.op K=some r0):OpG P (qz (cR X st) q) (ev X st) st.next K r0 o (eh X st):=by
 have k:q=[]->qz (cR X st) q=true:=λe=>by rw[e];rfl
 have E: ∀x,x∈o.op.operands->(∀(a:Act) (w:World),(execOp a.eval o).run P w= .ok (.value (a.eval x)) w)->(cY (match q,eh X st x with|[], .tup ts=>some (EL.tup ts)|_,y=>(en q y).map .v) λv=>K ⟨v,[],[],0⟩)=some r0->OpG P (qz (cR X st) q) (ev X st) st.next K r0 o (eh X st):=by
  intro x F he h0;obtain⟨v,hv,h0⟩:=Zy h0;refine wu h0 λk ι w a _ r=>⟨_,he a w,?_⟩;have hr:=r x F;generalize hy:eh X st x=y at hv hr;split at hv
  ·cases hv;exact hr
  ·obtain⟨t,ht,rfl⟩:=Sa.1 hv;rw[<-hy]at ht hr;exact qR hc ht k hr
 have L: ∀{c:Call} {b:Builtin} {s:Act->Sem Value},o.op= .call c->c.callee= .builtin b->(∀(a:Act) cs,builtin b c.argTypes o.type cs (c.args.map a.eval)=(do pure (.value (<-s a))))-> ∀a:Act,execOp a.eval o=(do pure (.value (<-s a))):=by intro c b s ho hc hb a;simp only[execOp,ho,resolve,hc];simp only[invoke,pure_bind,hb]
 cases ho:o.op<;>rw[ho]at h0<;>simp only[opE]at h0<;>try (cases h0;done)
 case move x=>exact E x (by rw[ho];simp[Op.operands]) (λa w=>by simp[execOp,ho]) h0
 case assign x=>exact E x (by rw[ho];simp[Op.operands]) (λa w=>by simp[execOp,ho]) h0
 case pick c x y=>exact zNz hc ho h0
 case alloc t=>
  split at h0
  ·exact(zHL hI J k h0).opg (λ_=>Instr.alloc t true (.tuple #[])) (by simp[execOp,ho]) λ_ _ _ _ _=>rfl
  ·exact(zHN J k h0).opg (λ_=>Instr.alloc t true (.tuple #[])) (by simp[execOp,ho]) λ_ _ _ _ _=>rfl
  split at h0
  ·obtain⟨hz,h0⟩:=zX h0;exact(zLR J k rfl hz h0).opg (λ_=>Instr.alloc t true (.tuple #[])) (by simp[execOp,ho]) λ_ _ _ _ _=>rfl
  ·cases h0
 case box t x=>
  split at h0
  ·obtain⟨v,hv,h0⟩:=Zy h0;obtain⟨_,h0⟩:=zX h0;exact(zRM k rfl h0).opg (λa=>Instr.box t (a.eval x)) (by simp[execOp,ho]) λk ι w a r=>⟨_,qR hc hv k (r x (by simp[ho,Op.operands])),rfl⟩
  ·cases h0
 case build t parts=> exact(zH4 (h:=ev X st) J h0).opd.opg (λa=>Instr.build t (parts.map λ(i,x)=>(i,a.eval x))) (by simp[execOp,ho]) λk ι w a r=>⟨a.eval,λp hp t ht=>qR hc ht k (r p.2 (by rw[ho];simp only[Op.operands,List.mem_toArray,Array.mem_def];exact Rb.2 ⟨p,hp,rfl⟩)),rfl⟩
 case buildSlice t len parts=> exact(zuG hI J k h0).opg (λa=>Instr.buildSlice t len (parts.map λ(i,x)=>(i,a.eval x))) (by simp[execOp,ho]) λk ι w a r=>⟨a.eval,λp hp t ht=>qR hc ht k (r p.2 (by rw[ho];simp only[Op.operands,List.mem_toArray,Array.mem_def];exact Rb.2 ⟨p,hp,rfl⟩)),rfl⟩
 case load t x=> obtain⟨v,hv,h0⟩:=Zy h0;exact(zNa hI J k h0).opd.opg (λa=>Instr.loadAt t (a.eval x)) (by simp[execOp,ho]) λk ι w a r=>⟨_,qR hc hv k (r x (by simp[ho,Op.operands])),rfl⟩
 case store t x y=> obtain⟨v,hv,h0⟩:=Zy h0;obtain⟨u,hu,h0⟩:=Zy h0;obtain⟨res,h1,h2,h3⟩:=zLn (P:=P) (nx:=st.next) hI J k h0;refine⟨res,h1,h2,λk ι w a W U _ r=> ?_⟩;obtain⟨w',e1,e2⟩:=h3 k ι w _ _ W U (qR hc hv k (r x (by simp[ho,Op.operands]))) (qR hc hu k (r y (by simp[ho,Op.operands])));exact .inr (.inl ⟨w',by simp[execOp,ho,e1],e2⟩)
 case nilCheck x=>
  obtain⟨v,hv,h0⟩:=Zy h0;unfold zB3 at h0;have E: ∀{v:ET I.C} {rd:List Nat},en q (eh X st x)=some v->K ⟨.v v,[],rd,0⟩=some r0->(∀ι w u,Hd P (ev X st) rd ι w->cx ι w v u->(∃p,u= .pointer (some p))\/ ∃f c,u= .func (.func f) #[] c)->OpG P (qz (cR X st) q) (ev X st) st.next K r0 o (eh X st):=by intro v rd hv h0 hp;refine wu h0 λk ι w a U r=> ?_;have hr:=qR hc hv k (r x (by simp[ho,Op.operands]));refine⟨a.eval x,?_,hr⟩;rcases hp ι w _ U hr with⟨p,e⟩|⟨_,_,e⟩<;>simp[execOp,ho,e]
  split at h0
  ·split at h0<;>first
    |(cases h0;done)
    |(rename_i hid
      exact E hv h0 λι w u U hu=>by obtain⟨b,rfl,_⟩:=nR rfl (U.2 _ (by simp) _ hid) hu;exact .inl ⟨_,rfl⟩)
  ·exact E hv h0 λι w u _ ⟨_,hu⟩=>by cases hu;exact .inl ⟨_,rfl⟩
  ·exact E hv h0 λι w u _ ⟨_,vs,hu,_⟩=> .inr ⟨_,_,hu⟩
  ·cases h0
 case binOp op t x y ty=> obtain⟨v,hv,h0⟩:=Zy h0;obtain⟨u,hu,h0⟩:=Zy h0;exact(zPp (h:=ev X st) J x y k h0).opd.opg (λa=>do eqGuard op t x y (a.eval x) (a.eval y);binOp op t (a.eval x) (a.eval y)) (by simp[execOp,ho]) λk ι w a r=>⟨_,_,qR hc hv k (r x (by simp[ho,Op.operands])),qR hc hu k (r y (by simp[ho,Op.operands])),rfl⟩
 case unOp op t x=> obtain⟨v,hv,h0⟩:=Zy h0;exact(zTl (h:=ev X st) (g:=qz (cR X st) q) h0).opd.opg (λa=>Op.unary op (a.eval x)) (by simp[execOp,ho]) λk ι w a r=>⟨_,qR hc hv k (r x (by simp[ho,Op.operands])),rfl⟩
 case convert s d x=> obtain⟨v,hv,h0⟩:=Zy h0;exact(zMk hI J k h0).opg (λa=>convert s d (a.eval x)) (by simp[execOp,ho]) λk ι w a r=>⟨_,qR hc hv k (r x (by simp[ho,Op.operands])),rfl⟩
 case makeFunc fn first captured=>
  cases fn<;>try (cases h0;done)
  rename_i f;simp only at h0;split at h0
  case h_2=>cases h0
  rename_i M;obtain⟨l,hl,h0⟩:=Zy h0;refine wu h0 λ_ ι w a _ r=> ?_;obtain⟨c1,c2⟩:=zEY hl λx F=>r x (by rw[ho];simp[Op.operands];exact .inr (by simpa using F));refine⟨.func (.func f) #[] (captured.map a.eval),?_,rfl,_,rfl,by rw[Array.size_map,c1,Pe],λj q hq=> ?_⟩
  ·have:first= #[]:=by simpa using M
   simp[execOp,ho,this,Instr.makeFunc]
  ·obtain⟨u,h1,h2⟩:=c2 j q hq;exact⟨u,by rw[<-h1,<-Re,Array.toList_map],h2.1,h2.2⟩
 case makeSlice t l c=> obtain⟨v,hv,h0⟩:=Zy h0;obtain⟨u,hu,h0⟩:=Zy h0;have E:OpD P (qz (cR X st) q) (ev X st) st.next K r0 λι w s=> ∃vl vc,cx ι w v vl/\cx ι w u vc/\s=Instr.makeSlice t vl vc:=zFA hI J k h0;exact E.opg (λa=>Instr.makeSlice t (a.eval l) (a.eval c)) (by simp[execOp,ho]) λk ι w a r=>⟨_,_,qR hc hv k (r l (by simp[ho,Op.operands])),qR hc hu k (r c (by simp[ho,Op.operands])),rfl⟩
 case slice t x lo hi mx=>
  obtain⟨v,hv,h0⟩:=Zy h0;obtain⟨l,hl,h0⟩:=Zy h0;obtain⟨hh,a3,h0⟩:=Zy h0;obtain⟨m,hm,h0⟩:=Zy h0;have V: ∀{y:Option Operand} {n ι w} {a:Act},bndE q (eh X st) y=some n->qz (cR X st) q=true->(∀z,y=some z->de ι w (eh X st z) (a.eval z))->Bnd (y.map a.eval) n:=by
   intro y n ι w a hb k r;cases y with
   |none=>cases hb;exact .inl ⟨rfl,rfl⟩
   |some z=>
    simp only[bndE]at hb;split at hb
    ·rename_i hz;cases hb;exact .inr ⟨_,_,congrArg some (Ze rfl (qR hc hz k (r z rfl))),rfl⟩
    ·cases hb
  have E:OpD P (qz (cR X st) q) (ev X st) st.next K r0 λι w s=> ∃vx lo hi mx,cx ι w v vx/\Bnd lo l/\Bnd hi hh/\Bnd mx m/\s=Instr.sliceAt t vx lo hi mx:=by
   split at h0
   ·exact zLi hI J k h0
   ·exact(zLg hI J k h0).opd
  exact E.opg (λa=>Instr.sliceAt t (a.eval x) (lo.map a.eval) (hi.map a.eval) (mx.map a.eval)) (by simp[execOp,ho]) λk ι w a r=>
   ⟨_,_,_,_,qR hc hv k (r x (by simp[ho,Op.operands])),V hl k λz e=>r z (by simp[ho,Op.operands,e]),V a3 k λz e=>r z (by simp[ho,Op.operands,e]),V hm k λz e=>r z (by simp[ho,Op.operands,e]),rfl⟩
 case fieldAddr t x f=> obtain⟨v,hv,h0⟩:=Zy h0;exact(zyd (g:=qz (cR X st) q) J h0).opd.opg (λa=>Instr.fieldAt t (a.eval x) f) (by simp[execOp,ho]) λk ι w a r=>⟨_,qR hc hv k (r x (by simp[ho,Op.operands])),rfl⟩
 case field t x f=> obtain⟨v,hv,h0⟩:=Zy h0;exact(zIN (h:=ev X st) (g:=qz (cR X st) q) J h0).opd.opg (λa=>Instr.field t (a.eval x) f) (by simp[execOp,ho]) λk ι w a r=>⟨_,qR hc hv k (r x (by simp[ho,Op.operands])),rfl⟩
 case indexAddr t x i=> obtain⟨v,hv,h0⟩:=Zy h0;obtain⟨u,hu,h0⟩:=Zy h0;exact(zys hI J k h0).opd.opg (λa=>Instr.indexAt t (a.eval x) (a.eval i)) (by simp[execOp,ho]) λk ι w a r=>⟨_,_,qR hc hv k (r x (by simp[ho,Op.operands])),qR hc hu k (r i (by simp[ho,Op.operands])),rfl⟩
 case index t x i=> obtain⟨v,hv,h0⟩:=Zy h0;obtain⟨u,hu,h0⟩:=Zy h0;exact(zJj (h:=ev X st) J k h0).opd.opg (λa=>Instr.index t (a.eval x) (a.eval i)) (by simp[execOp,ho]) λk ι w a r=>⟨_,_,qR hc hv k (r x (by simp[ho,Op.operands])),qR hc hu k (r i (by simp[ho,Op.operands])),rfl⟩
 case extract x i=>
  split at h0
  ·rename_i ts a6;obtain⟨t,ht,h0⟩:=Zy h0;refine wu h0 λ_ ι w a _ r=> ?_;have hr:=r x (by simp[ho,Op.operands]);rw[a6]at hr;obtain⟨vs,hv,_,h2⟩:=hr;obtain⟨u,h3,h4⟩:=h2 i t ht;exact⟨u,by simp[execOp,ho,Instr.extract,hv,h3],h4⟩
  ·cases h0
 case call c=>
  have ops: ∀{b},c.callee= .builtin b-> ∀x∈c.args.toList,x∈o.op.operands:=λA x F=>by rw[ho];simp[Op.operands,Call.operands,A];simpa using F
  split at h0
  ·rename_i f A;obtain⟨fc,O,h0⟩:=Zy h0;obtain⟨as,has,h0⟩:=Zy h0;obtain⟨res,r1,r2,⟨fn,r3⟩,r4⟩:=zEU hI k hS h0;refine⟨res,r1,r2,λQ ι w a W U hf r=> ?_⟩;have ops: ∀x,x=f\/x∈c.args.toList->x∈o.op.operands:=λx F=>by rw[ho];simp[Op.operands,Call.operands,A];simpa using F
   obtain⟨f1,f2,f3⟩:=r3.resolve_right (by rw[Q];simp);obtain⟨a1,a2⟩:=uE hc Q has λx F=>r x (ops x (.inr F));have Y: ∃Z caps,fc=(Z,caps)/\en q (eh X st f)=some (.c (.clo Z caps)):=by
    unfold cloE at O;split at O
    ·rename_i e;cases O;exact⟨_,_,rfl,e⟩
    ·cases O
   obtain⟨Z,caps,rfl,hu⟩:=Y;obtain⟨_,vs,a7,v1,v2⟩:=qR hc hu Q (r f (ops f (.inl rfl)));refine .inr (.inr ⟨Z,c.args.map a.eval++vs,?_,r4 Q ι w _ W U hf ⟨?_,λj t ht=> ?_⟩⟩)
   ·simp only[execOp,ho,resolve,A,a7,Deferred.ofValue,Sem.run_bind,Sem.run_pure,Result.andThen_ok,invoke,Array.empty_append];exact zL7 f1 f2 f3
   ·simp[a1,v1]
   ·rw[Fe]at ht;split at ht<;>rename_i hj
    ·simp only[Ta,Sa]at ht;obtain⟨t0,ht,rfl⟩:=ht;obtain⟨u,h1,h2⟩:=a2 j t0 ht;refine⟨u,?_,zRn h2⟩;rw[Te,La (by have:=a1;simp at hj this ⊢;omega),<-h1,<-Re,Array.toList_map]
    ·simp only[Ta,Sa]at ht;obtain⟨q0,ht,rfl⟩:=ht;obtain⟨u,h1,h2,h3⟩:=v2 _ q0 ht;refine⟨u,?_,h2,h3⟩;rw[Te,Ka (by have:=a1;simp at hj this ⊢;omega),<-h1];congr 1;simp[a1]
  ·rename_i A;split at h0
   case h_2=>cases h0
   rename_i t x ht F;obtain⟨v,hv,h0⟩:=Zy h0;have e1:c.argTypes= #[t]:=by rw[<-Ah (xs:=c.argTypes),ht]
   have e2: ∀a:Act,c.args.map a.eval= #[a.eval x]:=λa=>by rw[<-Ah (xs:=c.args),F];simp
   exact(zQr (g:=qz (cR X st) q) J o.type h0).opd.opg (λa=>Builtin.len_ #[t] o.type #[a.eval x]) (L ho A λa cs=>by rw[e1,e2];rfl) λk ι w a r=>⟨_,qR hc hv k (r x (ops A x (by rw[F];simp))),rfl⟩
  ·rename_i A;split at h0
   case h_2=>cases h0
   rename_i t u s x ht F;obtain⟨v,hv,h0⟩:=Zy h0;obtain⟨v2,a8,h0⟩:=Zy h0;have e1:c.argTypes= #[t,u]:=by rw[<-Ah (xs:=c.argTypes),ht]
   have e2: ∀a:Act,c.args.map a.eval= #[a.eval s,a.eval x]:=λa=>by rw[<-Ah (xs:=c.args),F];simp
   exact(zGD hI J o.type k h0).opg (λa=>Builtin.append_ #[t,u] o.type #[a.eval s,a.eval x]) (L ho A λa cs=>by rw[e1,e2];rfl) λk ι w a r=>⟨_,_,qR hc hv k (r s (ops A s (by rw[F];simp))),qR hc a8 k (r x (ops A x (by rw[F];simp))),rfl⟩
  ·rename_i A;obtain⟨as,has,h0⟩:=Zy h0;refine(TU (h:=ev X st) (g:=qz (cR X st) q) c.argTypes o.type h0).opd.opg (λa=>Builtin.min_ c.argTypes o.type (c.args.map a.eval)) (L ho A λa cs=>rfl) λk ι w a r=> ?_;obtain⟨a1,a2⟩:=uE hc k has λx F=>r x (ops A x F);exact⟨c.args.toList.map a.eval,by simpa using a1.symm,a2,by rw[<-Array.toList_map];rfl⟩
  ·rename_i A;obtain⟨as,has,h0⟩:=Zy h0;refine(TU (h:=ev X st) (g:=qz (cR X st) q) c.argTypes o.type h0).opd.opg (λa=>Builtin.max_ c.argTypes o.type (c.args.map a.eval)) (L ho A λa cs=>rfl) λk ι w a r=> ?_;obtain⟨a1,a2⟩:=uE hc k has λx F=>r x (ops A x F);exact⟨c.args.toList.map a.eval,by simpa using a1.symm,a2,by rw[<-Array.toList_map];rfl⟩
  ·cases h0
end
section
variable {I:Ip} {P:Program} {ι ι':cL} {w w':World} {R:Type} {r0:R}
structure Base where
 ι0:cL
 w0:World
 p:Nat
 cst:List Nat
structure Bas (B:Base) (ι:cL) (w:World):Prop where
 c:Conv B.ι0 B.w0 ι w
 os:w.os=B.w0.os
 tape:w.tape=B.w0.tape
 output:w.output=B.w0.output
 size:B.w0.heap.size<=w.heap.size
 xs: ∀b,lr (· ∉ B.cst) (B.ι0.X b)->ι.X b=B.ι0.X b
 xn: ∀b,ι.X b= .far->B.ι0.X b= .far
 xkeep: ∀b,lr (· ∉ B.cst) (B.ι0.X b)->w.heap[b]? =B.w0.heap[b]?
 slots: ∀id,id<B.p->ι id=B.ι0 id\/(id ∉ B.cst/\(ι id= .dead\/ ∃rows,ι id= .pure rows))
 cst: ∀id b k n,id∈B.cst->B.ι0 id= .live (some b) k n->w.heap[b]? =B.w0.heap[b]?
def Bas.step{B:Base}{T:Nat->Prop}(h:Bas B ι w)(hp: ∀id,id<B.p->B.ι0 id≠ .free)(hc: ∀id∈B.cst,id<B.p/\ ¬T id)(S:fW T ι w ι' w'):Bas B ι' w':=by
 have hm: ∀{x:Own},lr (· ∉ B.cst) x->lr T x:=λa=>FN (λi hi f=>(hc i f).2 hi) a;refine⟨⟨λb s hs=>S.shape b s (h.c.shape b s hs),λb hb=>S.dom b (h.c.dom b hb),λb hb=>(S.keep b (h.c.dom b hb)).trans (h.c.keep b hb)⟩,S.os.trans h.os,S.tape.trans h.tape,S.output.trans h.output,Jc h.size S.size,λb a=>(S.xs b (by rw[h.xs b a];exact hm a)).trans (h.xs b a),λb e=>h.xn b (S.xn b e),λb a=>(S.xkeep b (by rw[h.xs b a];exact hm a)).trans (h.xkeep b a),λid hi=> ?_,λid b k n hi e=> ?_⟩
 ·rcases h.slots id hi with e|⟨hn,e⟩
  ·by_cases j:T id
   ·rcases S.slots id (by grind)with d|d|⟨_,_,_,rows,_,d,_⟩
    ·grind
    ·grind
    grind
   ·exact .inl ((S.fix id j (by grind)).trans e)
  ·refine .inr ⟨hn,?_⟩;rcases e with e|⟨rows,e⟩<;>rcases S.slots id (by rw[e];simp)with d|d|⟨_,_,_,_,d,_⟩
   ·grind
   ·exact .inl d
   ·grind
   ·grind
   ·exact .inl d
   ·grind
 ·obtain⟨h1,h2⟩:=hc id hi;have:ι id= .live (some b) k n:=by
   rcases h.slots id h1 with d|⟨hn,_⟩
   ·exact d.trans e
   ·grind
  exact(S.own id b k n h2 this).trans (h.cst id b k n hi e)
abbrev EF(I:Ip):=Nat->Option (EL I.C)
abbrev HF(I:Ip):=Nat->Option (EO I.C)
structure Vw (P:Program) (B:Base) (nt:Nat) (e:EF I) (h:HF I) (ι:cL) (a:Act) (w:World):Prop where
 size:a.tmps.size=nt
 defers:a.defers=[]
 env: ∀t x,e t=some x->de ι w x (a.tmps.getD t undef)
 obj: ∀id o,h id=some o->Qu P ι w id o
 wf:Wf ι w
 bas:Bas B ι w
def fh(e:EF I)(d:Option Nat)(x:EL I.C):EF I:=λt=>if d=some t then some x else e t
def gA(h:HF I)(up:eE I.C):HF I:=λid=>match lk up id with|some o=>some o|none=>h id
structure FS (I:Ip)where
 e:EF I
 h:HF I
 nx:Nat
structure Rz (I:Ip)where
 o:Oper
 x:EL I.C
 res:OR I.C
 g:Bool
def Yj(z:Rz I)(s:FS I):FS I:=⟨fh s.e z.o.dst z.x,gA s.h z.res.up,s.nx+z.res.k⟩
def Jm{h:HF I}{up:eE I.C}{id:Nat}(hn:id ∉ up.map (·.1)):gA h up id=h id:=by
 unfold gA;cases hl:lk up id with
 |none=>rfl
 |some o=>exact absurd (Rb.2 ⟨_,Mh hl,rfl⟩) hn
def Vw.put {B:Base}{nt:Nat}{e:EF I}{h:HF I}{a:Act}(V:Vw P B nt e h ι a w){T:Nat->Prop}(S:fW T ι w ι' w')(W:Wf ι' w')(hB:Bas B ι' w'){d:Option Nat}(j: ∀t,d=some t->t<nt){x:EL I.C}{v:Value}(n:de ι' w' x v)
  {up:eE I.C} (k: ∀i,T i->i∈up.map (·.1)) (hu: ∀p∈up,Qu P ι' w' p.1 p.2):Vw P B nt (fh e d x) (gA h up) ι' (a.put d v) w':=by
 have b: ∀t,(a.put d v).tmps.getD t undef=if d=some t then v else a.tmps.getD t undef:=λt=>by
  cases d with
  |none=>simp[Act.put]
  |some d=>
   have m:d<a.tmps.size:=by rw[V.size];exact j d rfl
   simp only[Act.put,Option.some.injEq];by_cases hi:d=t
   ·simp_all
   simp_all
 refine⟨by cases d<;>simp[Act.put,V.size],by cases d<;>exact V.defers,λt y c=> ?_,λid o ho=> ?_,W,hB⟩
 ·rw[b];unfold fh at c;split at c
  ·grind
  ·rw[Ka (by assumption)];exact de.step S (V.env t y c)
 ·unfold gA at ho;cases hl:lk up id with
  |some o'=>rw[hl]at ho;cases ho;exact hu _ (Mh hl)
  |none=>
   rw[hl]at ho;refine(V.obj id o ho).step S λf=> ?_;obtain⟨p,hp,rfl⟩:=Rb.1 (k id f);have: ∀{l:eE I.C} {p},p∈l->lk l p.1≠none:=λ{l}=>by
    induction l with
    |nil=>grind
    |cons q r s=>
     intro p hp;rw[Z9]
     grind
   exact this hp hl
structure OkZ (P:Program) (B:Base) (nt:Nat) (ops:List Oper) (z:Rz I) (s:FS I):Prop where
 dst: ∀d,z.o.dst=some d->d<nt
 frz: ∀p∈z.res.up,EY p.2=true/\ ∀t l,s.h p.1≠some (.frz t l)
 cst: ∀p∈z.res.up,p.1 ∉ B.cst
 up0:z.g=false->z.res.up=[]
 run: ∀(ι:cL) (a:Act) (w:World),Wf ι w->(∀id t l,s.h id=some (.frz t l)->ι id= .pure (l.map (I.full t)))->(∀t∈ak ops z.o,∀x,s.e t=some x->de ι w x (a.tmps.getD t undef))->(∀id,(id∈z.res.rd\/id∈z.res.up.map (·.1))-> ∀o,s.h id=some o->Qu P ι w id o)->(∀j,j<z.res.k->ι (s.nx+j)= .free)->
  Region.wanted z.o (yielded ops.toArray a.tmps)=z.g/\(z.g=true->Runs P a z.o w λv w'=> ∃ι',fW (λi=>i∈z.res.up.map (·.1)) ι w ι' w'/\Wf ι' w'/\de ι' w' z.x v/\(∀p∈z.res.up,Qu P ι' w' p.1 p.2)/\ ∀id,ι id= .free->(id<s.nx\/s.nx+z.res.k<=id)->ι' id= .free)/\(z.g=false->de ι w z.x undef)
def OkZ.step {B:Base}{nt:Nat}{ops:List Oper}{z:Rz I}{s:FS I}(h:OkZ P B nt ops z s)(hp: ∀id,id<B.p->B.ι0 id≠ .free)(b: ∀id∈B.cst,id<B.p){e:EF I}{c:HF I}{a:Act}(V:Vw P B nt e c ι a w)(u: ∀id t l,s.h id=some (.frz t l)->ι id= .pure (l.map (I.full t)))(J: ∀t∈ak ops z.o,e t=s.e t)(ho: ∀id,(id∈z.res.rd\/id∈z.res.up.map (·.1))->c id=s.h id)(hf: ∀j,j<z.res.k->ι (s.nx+j)= .free)
  {K:Act->World->Prop} {Q:Exit->Act->World->Prop} (m: ∀ι' n w',Vw P B nt (fh e z.o.dst z.x) (gA c z.res.up) ι' n w'->(∀id,ι id= .free->(id<s.nx\/s.nx+z.res.k<=id)->ι' id= .free)->(∀id rows,ι id= .pure rows->id ∉ z.res.up.map (·.1)->ι' id= .pure rows)->K n w'):
  if Region.wanted z.o (yielded ops.toArray a.tmps)=true then z.o.wp P a w K Q else K (a.put z.o.dst undef) w:=by
 obtain⟨y,A,E⟩:=h.run ι a w V.wf u (λt ht x r=>V.env t x (by grind)) (λid hid o F=>V.obj id o (by grind)) hf;have d: ∀id∈B.cst,id<B.p/\ ¬(id∈z.res.up.map (·.1)):=λid hi=>⟨b id hi,λhm=>by obtain⟨p,h1,rfl⟩:=Rb.1 hm;exact h.cst p h1 hi⟩;rw[y];cases f:z.g with
 |true=> rw[La rfl];exact(A f).wp λv w' ⟨ι',S,W,r,hu,i⟩=>m ι' _ w' (V.put S W (V.bas.step hp d S) h.dst r (λ_ h=>h) hu) i λid rows e hn=>(S.fix id hn (by rw[e];simp)).trans e
 |false=> rw[Ka (by simp)];have S:fW (λ_=>False) ι w ι w:= .same _ _ _;exact m ι _ w (V.put S V.wf V.bas h.dst (E f) (λ_ h=>h.elim) (by rw[h.up0 f];simp)) (λ_ h _=>h) λ_ _ e _=>e
end
inductive Rch (ops:List Oper):Nat->Nat->Prop where
 |dir (i j:Nat) (o:Oper) (ho:ops[j]? =some o) (hi:i∈eR o):Rch ops i j
 |tr (i m j:Nat) (o:Oper) (ho:ops[j]? =some o) (hm:m∈eR o) (h:Rch ops i m):Rch ops i j
def cnt_lt{l:List Nat}{p q:Nat->Bool}(h: ∀x,q x=true->p x=true){x:Nat}(b:x∈l)(hp:p x=true)(d:q x=false):l.countP q<l.countP p:=by
 induction l with
 |nil=>simp at b
 |cons y r e=>
  have a:r.countP q<=r.countP p:=List.countP_mono_left (λz _ c=>h z c)
  grind
section
variable {I:Ip} {P:Program} {ι ι':cL} {w w':World} {R:Type} {r0:R} {X:Cx I} {st:ES I.C} {B:Base} {nt:Nat} {ops:List Oper}
def DN{a b:List Nat}(h:XD a b=false): ∀i∈a,i ∉ b:=by
 intro i hi hb;have:XD a b=true:=Bg.2 ⟨i,hi,Dk.2 hb⟩
 grind
def gU{c:List Fp}: ∀(r:List Oper) (j:Nat) (acc:List (List Nat)),acc.length=j->(∀k,r[k]? =ops[j+k]?)->(∀m i,i∈acc.getD m []->Rch ops i m)->IL ops c j r acc=true->
  ∀i k x y a b,ops[i]? =some x->ops[k]? =some y->c[i]? =some a->c[k]? =some b->i<k->j<=k->Rch ops i k\/(dn ops x y=false/\fpB a b=false)
 |[],j,acc,_,hr,_,_,i,k,x,y,a,b,_,l,_,_,_,d=>by
  have:=hr (k - j)
  grind
 |o::r,j,acc,hl,hr,ha,h,i,k,x,y,a,b,t,l,n,p,f,d=>by
  have ho:ops[j]? =some o:=by have:=hr 0;simpa using this.symm
  simp only[IL,Da,Ya,Pd]at h;obtain⟨h1,h2⟩:=h;have s: ∀i,i∈dupN (eR o++(eR o).flatMap (λi=>acc.getD i []))->Rch ops i j:=by
   intro i hi;have hi:=uS hi;rcases Vd.1 hi with hi|hi
   ·exact .dir i j o ho hi
   ·obtain⟨m,hm,hi⟩:=We.1 hi;exact .tr i m j o ho hm (ha m i hi)
  rcases Nat.eq_or_lt_of_le d with e|e
  ·subst e;rw[ho]at l;cases l;have:=h1 i f;rw[Pb]at this;rcases this with this|this
   ·exact .inl (s i (Dk.1 this))
   ·grind
  ·refine gU r (j+1) _ (by simp[hl]) (λk=> ?_) (λm i hi=> ?_) h2 i k x y a b t l n p f e
   ·have:=hr (k+1)
    grind
   grind
def zJ2{o:Oper}{w:Bool}{t:TypeId}{x:Operand}(h:fK o=some (w,t,x)):(∃d,o.dst=some d)/\o.guard=none/\ ∃u,o.op= .binOp (cond w .eql .neq) t x (.const (.slice none 0 0)) u:=by
 unfold fK at h
 grind
def yt{α:Type}: ∀(l m:List (Nat×α)) (i:Nat),lk (l++m) i=(match lk l i with|some x=>some x|none=>lk m i)
 |[],m,i=>rfl
 |(j,x)::r,m,i=>by
  simp only[Bb];rw[Z9,Z9];by_cases a:i=j
  ·grind
  ·rw[Ka a,Ka a];exact yt r m i
def fsE(X:Cx I)(st:ES I.C):FS I:=⟨cR X st,ev X st,st.next⟩
def iF{o:Oper}{q:Path}{g:Bool}{res:OR I.C}:fsE X (Yi o q g st res)=Yj ⟨o,kO q g res.val,res,g⟩ (fsE X st):=by
 unfold fsE Yj;congr 1
 ·funext t;simp only[cR,Yi,fh];cases o.dst with
  |none=>simp
  |some d=>
   simp only[Z9,Option.some.injEq]
   grind
 ·funext id;simp only[ev,Yi,gA,yt]
  grind
def KO{e a:EF I}: ∀{ks:Path},(∀k∈ks,a k.1=e k.1)->qz a ks=qz e ks
 |[],_=>rfl
 |(t,w)::r,h=>by
  rw[pq,pq,KO λk hk=>h k (Vb _ hk)];have:=h (t,w) (Ub ..);simp only[Ao]
  grind
def uN{d:Nat}: ∀{env:EEnv I.C} {t ks b x},Yp d env=true->lk env t=some (.opt ks b x)-> ∀k∈ks,k.1≠d
 |[],_,_,_,_,_,h=>by cases h
 |(j,y)::r,t,ks,b,x,hn,h=>by
  rw[Z9]at h;have rest:Yp d r=true:=by
   cases y<;>simp only[Yp]at hn<;>first|exact hn|skip
   cases hb:(List.any _ _:Bool)<;>rw[hb]at hn<;>first|exact hn|cases hn
  split at h
  ·cases h;intro k hk e;simp only[Yp]at hn;rw[show(ks.any λk=>Nat.beq k.1 d)=true from Bg.2 ⟨k,hk,by rw[e];simp⟩]at hn;cases hn
  ·exact uN rest h
def zF0{o:Oper}{q:Path}{res:OR I.C}(hc:gw (cR X st))(c:yn X nt o q st res=true):gw (cR X (Yi o q (qz (cR X st) q) st res)):=by
 have e:=congrArg FS.e (iF (X:=X) (st:=st) (o:=o) (q:=q) (g:=qz (cR X st) q) (res:=res));have e:cR X (Yi o q (qz (cR X st) q) st res)=fh (cR X st) o.dst (kO q (qz (cR X st) q) res.val):=e;simp only[yn,Da]at c;obtain⟨⟨h1,h2⟩,_⟩:=c;intro t ks b x a;have same:(∀k∈ks,o.dst≠some k.1)->qz (cR X (Yi o q (qz (cR X st) q) st res)) ks=qz (cR X st) ks:=λh=>KO λk hk=>by rw[e];unfold fh;grind
 rw[e]at a;unfold fh at a;split at a
 ·rename_i f;rw[f]at h1;simp only[Da,Ya]at h1;injection a with a;cases q with
  |nil=>simp only[kO]at a;rw[a]at h2;cases h2
  |cons j l=> simp only[kO]at a;split at a<;>cases a;refine same λk hk d=> ?_;rw[f]at d;cases d;simpa using h1.2 k hk
 ·rename_i f;rw[<-hc t ks b x a];refine same λk hk d=> ?_;rw[d]at h1;simp only[Da]at h1;unfold cR at a;split at a
  ·rename_i y i;cases a;exact uN h1.1.2 i k hk rfl
  simp_all
def zGQ(v:Value):de (I:=I) ι w (iE v) v:=by
 unfold iE;split
 ·rename_i vs;cases a:vs.all λx=>x.oneCell'
  ·trivial
  ·refine⟨vs,rfl,by simp,λj x c=> ?_⟩;simp only[Ta,Sa]at c;obtain⟨u,hu,rfl⟩:=c;have b:vs[j]? =some u:=by simpa using hu
   exact⟨u,b,vM (Array.all_eq_true_iff_forall_mem.1 a u (Array.mem_of_getElem? b))⟩
 ·trivial
 ·rename_i h1 h2;exact vM (by cases v<;>first|rfl|grind|grind)
def zNq{h:HF I}{x:EL I.C}{v:Value}(c: ∀id t l,h id=some (.frz t l)->ι id= .pure (l.map (I.full t)))(hv:de ι w x v):de ι w (nrmL h x) v:=by
 cases x with
 |any=>trivial
 |v t=>exact Vv c hv
 |opt ks b t=>exact⟨λh=>Vv c (hv.1 h),hv.2⟩
 |tup ts=> obtain⟨vs,h1,h2,h3⟩:=hv;refine⟨vs,h1,by simpa using h2,λj t ht=> ?_⟩;simp only[Ta,Sa]at ht;obtain⟨y,d,rfl⟩:=ht;obtain⟨u,a,b⟩:=h3 j y d;exact⟨u,a,Vv c b⟩
def Uv{a:Act}(b: ∀id t l,ev X st id=some (.frz t l)->ι id= .pure (l.map (I.full t))){x:Operand}(c: ∀t,x= .tmp t-> ∀y,cR X st t=some y->de ι w y (a.tmps.getD t undef)):de ι w (eh X st x) (a.eval x):=by
 cases x with
 |tmp t=>
  simp only[eh];split
  ·exact zNq b (c t rfl _ (by assumption))
  ·trivial
 |const v=>exact zGQ v
 |global g=>trivial
 |func f=>exact⟨rfl,#[],rfl,rfl,by simp⟩
def zMM{o:Oper}{q:Path}(hc:gw (cR X st))(e:k8 X ops st o.guard=some q){a:Act}(n: ∀t∈ak ops o,∀x,cR X st t=some x->de ι w x (a.tmps.getD t undef)):Region.wanted o (yielded ops.toArray a.tmps)=qz (cR X st) q:=by
 unfold k8 at e;split at e
 ·rename_i h;cases e;simp[Region.wanted,h,qz]
 ·rename_i j i f;split at e
  case h_2=>cases e
  rename_i o' k;split at e
  case h_2=>cases e
  rename_i d p;have l:((ops.toArray)[j]?).bind (·.dst)=some d:=by simp[k,p]
  have hl:d∈ak ops o:=by simp[ak,f,k,p]
  have r: ∀b,a.tmps.getD d undef= .bool b->yielded ops.toArray a.tmps j=some b:=by
   intro b hb;have:a.tmps[d]? =some (.bool b):=by
    rw[Sd]at hb;cases m:a.tmps[d]? with
    |none=>rw[m]at hb;simp[undef]at hb
    |some v=>grind
   simp only[yielded,l,Aa,this]
  have hn:a.tmps.getD d undef=undef->yielded ops.toArray a.tmps j=none:=by
   intro hb;simp only[yielded,l,Aa];rw[Sd]at hb;cases m:a.tmps[d]? with
   |none=>rfl
   |some v=>rw[m]at hb;simp at hb;rw[hb];rfl
  split at e<;>cases e
  ·rename_i b hb;have:=r b (Ze rfl (n d hl _ hb));rw[pq];cases i<;>cases b<;>simp[Region.wanted,f,this,Ao,hb,litB,qz]
  ·rename_i ks c b hb;have hr:=n d hl _ hb;rw[pq,hc _ _ _ _ hb];cases c with
   |true=>
    have:=r b (Ze rfl (hr.1 rfl));cases i<;>cases b<;>simp[Region.wanted,f,this,Ao,hb,litB]
   |false=> have:=hn (hr.2 rfl);simp[Region.wanted,f,this]
def zKD{q:Path}{x:EL I.C}{v:Value}(h:de ι w x v):de ι w (kO q true x) v:=by
 cases q with
 |nil=>exact h
 |cons k q=>cases x<;>first|exact⟨λ_=>h,λh=>by cases h⟩|trivial
def zHo{q:Path}(a:qz (cR X st) q=false){x:EL I.C}:de ι w (kO q false x) undef:=by
 cases q with
 |nil=>cases a
 |cons k q=>cases x<;>first|exact⟨λh=>(by cases h),λ_=>rfl⟩|trivial
def InC(X:Cx I)(cst:List Nat):Prop:= ∀i∈cst,lk X.frh i≠none
def opZ (hI:cU P I)(O:g8 P X.T X.fk){S:List (Con I)}(hS: ∀c∈S,ZH P c){fz:Nat}(hc:gw (cR X st))(E:InC X B.cst){o:Oper}{q:Path}{K:Kt I R}(Q:k8 X ops st o.guard=some q)
  (h0:opE X S fz st q (qz (cR X st) q) o.op (λres=>cond (yn X nt o q st res) (K res) none)=some r0): ∃res,K res=some r0/\OkZ P B nt ops ⟨o,kO q (qz (cR X st) q) res.val,res,qz (cR X st) q⟩ (fsE X st)/\gw (cR X (Yi o q (qz (cR X st) q) st res)):=by
 obtain⟨res,F,U,V⟩:=zSH hI O hS hc h0;obtain⟨n,F⟩:=zX F;have hk:=n;simp only[yn,Da,Ya]at hk;obtain⟨⟨k1,_⟩,k2⟩:=hk;refine⟨res,F,⟨λd L=> ?_,λp hp=>⟨(k2 p hp).1.1,λt l e=> ?_⟩,λp hp hm=> ?_,U,λι a w W M A ho hf=> ?_⟩,zF0 hc n⟩
 ·simp_all
 ·have:=(k2 p hp).2;rw[show ev X st p.1=_ from e]at this;cases this
 ·have:=(k2 p hp).1.2;cases hl:lk X.frh p.1 with
  |none=>exact E _ hm hl
  |some _=>grind
 ·have r: ∀x∈o.op.operands,de ι w (eh X st x) (a.eval x):=λx Z=>Uv M λt e y Y=>A t (by
   simp only[ak,Vd];exact .inl (List.mem_filterMap.2 ⟨.tmp t,by grind,rfl⟩)) y Y
  refine⟨zMM hc Q A,λj=> ?_,λm=> ?_⟩
  ·have j:qz (cR X st) q=true:=j;have:=V j ι w a W ⟨M,λid hid o J=>ho id (Vd.1 hid) o J⟩ hf r;have wk: ∀{v w'},Done P ι w st.next res v w'-> ∃ι',fW (λi=>i∈res.up.map (·.1)) ι w ι' w'/\Wf ι' w'/\de ι' w' (kO q (qz (cR X st) q) res.val) v/\(∀p∈res.up,Qu P ι' w' p.1 p.2)/\ ∀id,ι id= .free->(id<st.next\/st.next+res.k<=id)->ι' id= .free:=λ⟨ι',a,b,c,d,e⟩=>⟨ι',a,b,by rw[j];exact zKD c,d,e⟩;rcases this with⟨v,w',s,u⟩|⟨w',s,u⟩|⟨f,vs,s,u⟩
   ·exact .inl ⟨v,w',s,wk u⟩
   ·exact .inr (.inl ⟨w',s,wk u⟩)
   ·exact .inr (.inr ⟨f,vs,s,u.mono λe w' ⟨v,A,L⟩=>⟨v,A,wk L⟩⟩)
  ·have m:qz (cR X st) q=false:=m;show de ι w (kO q (qz (cR X st) q) res.val) undef;rw[m];exact zHo m
def Rl{e:EF I}{h:HF I}{a:Act}(V:Vw P B nt e h ι a w): ∀id t l,h id=some (.frz t l)->ι id= .pure (l.map (I.full t)):=λid t l e=>V.obj id _ e
structure St (P:Program) (B:Base) (nt:Nat) (X:Cx I) (st:ES I.C) (ι:cL) (a:Act) (w:World):Prop where
 vw:Vw P B nt (cR X st) (ev X st) ι a w
 free: ∀id,st.next<=id->ι id= .free
 le:B.p<=st.next
structure BOK (B:Base) (X:Cx I):Prop where
 live: ∀id,id<B.p->B.ι0 id≠ .free
 lt: ∀id∈B.cst,id<B.p
 inc:InC X B.cst
def oZ (hB:BOK B X){o:Oper}{q:Path}{res:OR I.C}(c:OkZ P B nt ops ⟨o,kO q (qz (cR X st) q) res.val,res,qz (cR X st) q⟩ (fsE X st)){a:Act}(V:St P B nt X st ι a w){K:Act->World->Prop}{Q:Exit->Act->World->Prop}
  (d: ∀ι' b w',St P B nt X (Yi o q (qz (cR X st) q) st res) ι' b w'->K b w'):if Region.wanted o (yielded ops.toArray a.tmps)=true then o.wp P a w K Q else K (a.put o.dst undef) w:=by
 refine c.step hB.live hB.lt V.vw (Rl V.vw) (λ_ _=>rfl) (λ_ _=>rfl) (λj _=>V.free _ (Nat.le_add_right _ _)) λι' b w' f hf _=>d ι' b w' ⟨?_,λid hid=> ?_,Jc V.le (Nat.le_add_right _ _)⟩
 ·have e:=iF (X:=X) (st:=st) (o:=o) (q:=q) (g:=qz (cR X st) q) (res:=res);have e1:cR X (Yi o q (qz (cR X st) q) st res)=fh (cR X st) o.dst (kO q (qz (cR X st) q) res.val):=congrArg FS.e e;have e2:ev X (Yi o q (qz (cR X st) q) st res)=gA (ev X st) res.up:=congrArg FS.h e
  grind
 ·have hid:st.next+res.k<=id:=hid;exact hf id (V.free id (by omega)) (.inr hid)
def zL0{x y:Option R}(h:both x y=some r0):x=some r0/\y=some r0:=by
 unfold both at h
 grind
def zSA(A:g8 P X.T X.fk){o:Oper}{j:Bool}{t:TypeId}{x:Operand}(hn:fK o=some (j,t,x)){go:Bool->Option R}(h0:nilE X.T j t (eh X st x) go=some r0){a:Act}(V:Vw P B nt (cR X st) (ev X st) ι a w): ∃b,go b=some r0/\Region.wanted o (yielded ops.toArray a.tmps)=true/\(execOp a.eval o).run P w= .ok (.value (.bool b)) w:=by
 obtain⟨⟨d,h1⟩,h2,u,h3⟩:=zJ2 hn;have i:=Uv (x:=x) (Rl V) λt _ y E=>V.env t y E;have m: ∀{e f n c},(X.T.at t).kd= .sl e->a.eval x= .slice f n c->Region.wanted o (yielded ops.toArray a.tmps)=true/\(execOp a.eval o).run P w= .ok (.value (.bool (cond j f.isNone !f.isNone))) w:=by
  intro e f n c hk hv;have p:=mh (jf A hk (by simp));have hc:a.eval (.const (.slice none 0 0))= .slice none 0 0:=rfl;refine⟨by simp[Region.wanted,h2],?_⟩;cases j with
  |true=> have r:=E9 (P:=P) (w:=w) .eql t x (.const (.slice none 0 0)) f none n c 0 0;have hb:=Lib.run_eql_slice_nil (P:=P) w t e f n c 0 0 p;simp[execOp,h3,hv,hc,Sem.run_bind,r,hb]
  |false=> have r:=E9 (P:=P) (w:=w) .neq t x (.const (.slice none 0 0)) f none n c 0 0;have hb:=run_neq_slice_nil_any (P:=P) w t e f n c 0 0 p;simp[execOp,h3,hv,hc,Sem.run_bind,r,hb]
 unfold nilE at h0;split at h0
 ·rename_i e u l hk s;rw[s]at i;obtain⟨_,i⟩:=i;have i:cX (fm ι w) w (.sl (l.map (I.full u))) (a.eval x):=i;generalize hv:a.eval x=v at i;cases i with
  |sl _ f n c k b o' val F hc ha=>
   refine⟨_,?_,m hk hv⟩;cases hl:l.isEmpty with
   |true=>
    rw[hl]at h0;obtain⟨b1,b2⟩:=zL0 h0;cases f<;>cases j<;>first|exact b1|exact b2
   |false=>
    grind
 ·rename_i e hk s;rw[s]at i;refine⟨_,?_,m hk (Ze rfl i)⟩
  grind
 ·cases h0
def JE(hI:cU P I){D:Nat->Prop}(hD: ∀b,fm ι w b->D b){b:Option Nat}{k n t:Nat}{ty:TypeId->Nat->Prop}{l:List (I.C t)}(hb:Blk w b k ty ((l.map (I.exp t)).map (·.map (ef ι w))))(m: ∀f,b=some f->D f)(hk:k=P.cellsOf t)(hn:n=l.length){v:Value}(h:gk w b k 0 n v):cX D w (.sl (l.map (I.full t))) v:=by
 have hl: ∀row∈l.map (I.full t),row.length=k:=λrow hr=>by obtain⟨x,_,rfl⟩:=Rb.1 hr;rw[hI.len,hk]
 rcases h with⟨rfl,h,rfl⟩|⟨f,c,E,sz,a,rfl,rfl,h3,h4,_⟩
 ·obtain rfl:l=[]:=Gc (hn▸h);exact .sl [] none 0 0 k 0 0 (λ_ _=>undef) rfl (Db _) (λh=>absurd h (by omega)) (λh=>absurd h (by omega)) hl (by simp) (by simp)
 ·rcases hb.2 with⟨h,_⟩|⟨b2,cur,fr,_,h,p,_,_,r⟩<;>cases h;have o: ∀(i:Nat) (row:List PV) (j:Nat) (x:PV),(l.map (I.full t))[i]? =some row->row[j]? =some x-> ∃u,cur[i*k+j]? =some u/\cX (fm ι w) w x u:=λi row j x hi d=>by simp only[Ta,Sa]at hi;obtain⟨y,s,rfl⟩:=hi;rw[hI.exp,Ta]at d;obtain⟨z,A,rfl⟩:=Sa.1 d;obtain⟨u,a1,_,a2⟩:=r i _ j (ef ι w z) (by simp only[Ta,s];rfl) (by grind);exact⟨u,a1,(Cj (hI.pur _ _ _ (Ob A))).1 a2⟩
  refine .sl _ a n c k f 0 (λi j=>cur.getD (i*k+j) undef) (by grind) h4 (λh=>h3.elim (λe=>by omega) λe=>by simpa using e) (λ_=>m _ rfl) hl (λi row j x hi d=> ?_) λi row j x hi d=> ?_
  all_goals obtain⟨u,a1,a2⟩:=o i row j x hi d
  all_goals have e:cur.getD (i*k+j) undef=u:=by rw[Sd,a1];rfl
  ·rw[hU p,Gd,a1,e]
  ·rw[e];exact a2.mono hD λ_ _=>rfl
def St.set{a:Act}(hB:BOK B X)(V:St P B nt X st ι a w){id:Nat}{o:EO I.C}(b:lk X.frh id=none)(S:fW (· =id) ι w ι' w)(W:Wf ι' w)(d:Qu P ι' w id o)(hf: ∀i,ι i= .free->ι' i= .free):St P B nt X {st with heap:=(id,o)::st.heap} ι' a w:=
 ⟨⟨V.vw.size,V.vw.defers,λt x c=>de.step S (V.vw.env t x c),λi o' ho=>by
  simp only[ev,Z9]at ho;by_cases hi:i=id
  ·grind
  ·rw[Ka hi]at ho;exact(V.vw.obj i o' ho).step S hi,W,V.vw.bas.step hB.live (λi hi=>⟨hB.lt i hi,λe=>hB.inc i hi (by rw[e];exact b)⟩) S⟩,λi hi=>hf i (V.free i hi),V.le⟩
def K8{id:Nat}{rows:List (List PV)}: ∀a,fm ι w a->fm (ju ι id (.pure rows)) w a:=λa h=>⟨h.1,h.2.1,λi k n b=>by
 by_cases hi:i=id
 ·simp_all
 ·rw[ik _ _ _ hi]at b;exact h.2.2 i k n b⟩
def L8{id:Nat}{rows:List (List PV)}(W:Wf ι w){b k n:Nat}(e:ι id= .live (some b) k n):fm (ju ι id (.pure rows)) w b:=by
 obtain⟨h1,h2⟩:=W.lt _ _ _ _ e;refine⟨h1,h2,λi k n a=> ?_⟩;by_cases hi:i=id
 ·simp_all
 ·rw[ik _ _ _ hi]at a;exact hi (W.inj _ _ _ _ _ _ _ a e)
def VZ(hI:cU P I)(hB:BOK B X){id t:Nat}{l:List (I.C t)}(hl:lk st.heap id=some (.sl t l))(f:lk X.frh id=none){a:Act}(V:St P B nt X st ι a w):St P B nt X {st with heap:=(id, .frz t l)::st.heap} (ju ι id (.pure (l.map (I.full t)))) a w:=by
 have m:=V.vw.obj id _ (show ev X st id=some (.sl t l) by simp only[ev,hl]);obtain⟨b,e,hb⟩:=(Zu rfl).1 m;have dom: ∀c,fm ι w c->fm (ju ι id (.pure (l.map (I.full t)))) w c:=K8;have bd: ∀c,b=some c->fm (ju ι id (.pure (l.map (I.full t)))) w c:=λc o=>by subst o;exact L8 V.vw.wf e
 have S:fW (· =id) ι w (ju ι id (.pure (l.map (I.full t)))) w:=by
  refine⟨⟨λ_ _ h=>h,dom,λ_ _=>rfl⟩,rfl,rfl,rfl,Db _,λ_ _ _ _ _ _=>rfl,λi _=> ?_,λi hi _=>ik _ _ _ hi,λ_ _=>rfl,λ_ h=>h,λ_ _=>rfl⟩;by_cases hi:i=id
  ·subst hi;exact .inr (.inr ⟨b,_,_,_,e,zg0 ..,λv hv=>JE hI dom hb bd rfl (by simp[Zl]) hv⟩)
  ·exact .inl (ik _ _ _ hi)
 have inv: ∀{i c k n},ju ι id (.pure (l.map (I.full t))) i= .live (some c) k n->ι i= .live (some c) k n:=λ{i c k n} d=>by
  by_cases hi:i=id
  ·simp_all
  ·rwa [ik _ _ _ hi]at d
 refine V.set hB f S ⟨λi b k n e=>V.vw.wf.lt _ _ _ _ (inv e),λi j b k k' n n' e d=>V.vw.wf.inj _ _ _ _ _ _ _ (inv e) (inv d),V.vw.wf.glob.step S,V.vw.wf.xlt⟩ (zg0 ..) λi hi=> ?_;rw[ik _ _ _ λd=>by grind];exact hi
def zMY (hI:cU P I){ts tx ty e id:Nat}{l new:List (I.C e)}(hk:cI P ts= .sl e)(J:Wj (cI P tx))(hz:(ti P e).zok=true)(W:Wf ι w)(hh:Qu P ι w id (.sl e l))(b6:1<=l.length)
  {vs vx:Value} (a6:cx (I:=I) ι w (.c (.own id)) vs) (S1:gx P ι w (P.cellsOf e) (new.map (I.exp e)) vx) (a2:l.length+new.length<=maxLen) (a1:(l.length+new.length)*(ti P e).by_<=140737488355328):
  ∃v w',(Builtin.append_ #[ts,tx] ty #[vs,vx]).run P w= .ok v w'/\fW (· =id) ι w ι w'/\Wf ι w'/\Qu P ι w' id (.sl e l)/\
   ∀ι2:cL,(∀b,fm ι w' b->fm ι2 w' b)->(∀b k n,ι id= .live (some b) k n->fm ι2 w' b)->v.oneCell'=true/\cX (fm ι2 w') w' (.sl ((l++new).map (I.full e))) v:=by
 obtain⟨b,b1,b2,b3,b4⟩:=bM W ((Zu rfl).1 hh) a6;obtain⟨i,z,hi,hz,a7,b7,b8⟩:=aL hz;have F:(l.map (I.exp e)).length=l.length:=Xa ..;have l1:(new.map (I.exp e)).length=new.length:=Xa ..;have L: ∀row∈new.map (I.exp e),row.length=P.cellsOf e:=by obtain⟨_,_,h,_⟩:=S1;exact h.1
 have u: ∀row∈l.map (I.exp e),row.length=P.cellsOf e:=by obtain⟨_,_,h,_⟩:=b3;exact h.1
 have hm:(l++new).map (I.exp e)=l.map (I.exp e)++new.map (I.exp e):=Tc ..;rcases b2 with⟨_,h0,_⟩|⟨s,c,b9,sz,a,rfl,rfl,a8,ba,a9,M,O⟩
 ·omega
 obtain⟨cur,fr,ty2,k2,k3,k4,k5⟩:=b4 s rfl;rw[F]at k5;have y:sz=cur.size:=by simp[World.shape?,k2]at M;exact M.2.symm
 subst y;by_cases Q:l.length+new.length<=c
 ·obtain⟨d,q1,c1,ab,f⟩:=kN (ty:=ty) (a:=a) (mh hk) J hi S1 (by rw[l1];exact Q);rw[l1]at q1;have ad:l.length*P.cellsOf e+d.length<=cur.size:=by rw[q1,<-mf];exact Jc (Rc _ (by omega)) O
  have m:(cur.toList.take (l.length*P.cellsOf e)++d++cur.toList.drop (l.length*P.cellsOf e+d.length)).toArray.size=cur.size:=by simp only[df,Ea,Oc,Ic,Pe];omega
  obtain rfl:=a8.resolve_left (by omega);obtain⟨w',al,am,cur',A,m,p⟩: ∃w',(storeCells ((⟨s,0*P.cellsOf e,none⟩:Addr).add (l.length*P.cellsOf e)) d).run P w= .ok () w'/\Chg w w' s/\
    ∃cur',w'.heap[s]? =some (.cells cur' ty2 fr)/\cur'.size=cur.size/\(cur.toList.take (l.length*P.cellsOf e)++d++cur.toList.drop (l.length*P.cellsOf e+d.length)).toArray=cur':=by
   have r:=RJ (P:=P) (g:=s) (o:=0+l.length*P.cellsOf e) (t:=ty2) (fr:=fr) d 0 cur w k2 k3.1.out (by simpa using ad) ab;simp only[Gd,Od]at r;exact⟨_,by simp only[Uf,addr_add,Gd];exact r,iN k2 m,_,setRow_heap w s cur _ ty2 fr k2,m,rfl⟩
  simp only[al]at f;have U:(cur.toList.take (l.length*P.cellsOf e)).toArray.size=(l.map (I.exp e)).length*P.cellsOf e:=by rw[F];simp;omega
  have e1:cur'=(cur.toList.take (l.length*P.cellsOf e)).toArray++d.toArray++(cur.toList.drop (l.length*P.cellsOf e+d.length)).toArray:=by rw[<-p];simp
  have V: ∀(i:Nat) row (j:Nat) x,(l.map (I.exp e))[i]? =some row->row[j]? =some x-> ∃v,cur'[i*P.cellsOf e+j]? =some v/\k9 ι w x v:=λi row j x hi hj=>by
   obtain⟨v,a1,a2⟩:=k4.2 i row j x hi hj;refine⟨v,?_,a2⟩;have:=XE (Ua.1 hi).1 (show j<P.cellsOf e by grind)
   grind
  have E:Qf ι w (P.cellsOf e) ((l++new).map (I.exp e)) cur':=by rw[hm];exact .app u L V (by rw[e1];exact c1.at_app U)
  obtain⟨S,W'⟩:=Fv (T:=(· =id)) W b1 rfl am;have Y:FT (km P e) ty2 fr cur'.size:=by rw[m];exact k3
  have b5:(l++new).length*P.cellsOf e<=cur'.size:=by rw[m,Ea];exact Jc (Rc _ (by omega)) O
  have B1:=E.blk (ty:=km P e) S A Y (by grind);have B0:Blk w' (some s) (P.cellsOf e) (km P e) ((l.map (I.exp e)).map (·.map (ef ι w'))):=Qf.blk S ⟨u,V⟩ A Y (by grind);have an:ι id= .live (some s) (P.cellsOf e) (l.map (I.exp e)).length:=by rw[b1,F]
  have Z:Sg P ι w' id (.sl e l):=⟨some s,an,B0⟩;refine⟨_,_,f,S,W',(Zu rfl).2 Z,λι2 hD ao=>⟨rfl,?_⟩⟩;refine JE hI hD B1 (λap e'=>by grind) rfl (n:=(l++new).length) rfl ?_;exact .inr ⟨s,c,ty2,cur'.size,_,rfl,by grind, .inr rfl,by grind,a9,by simp[World.shape?,A],by grind⟩
 ·have bb:i.bytes=(ti P e).by_:=YG hi;rw[<-F]at b3;obtain⟨aq,d,m0,m1,c0,c1,f⟩:=VO (ty:=ty) (mh hk) J hi hz b3 S1 (by grind) (by grind) (by grind);rw[F,l1]at f;have ar:=grownCap_ge w (l.length+new.length) c e;have aw:=grownCap_le_maxLen w (l.length+new.length) c e a2;generalize grownCap w (l.length+new.length) c e=c2 at*;obtain⟨cur',p⟩: ∃cur',aq.toArray++d.toArray++Builtin.zeroCells z.cells (c2 - (l.length+new.length))=cur':=⟨_,rfl⟩;have y:cur'.size=c2*P.cellsOf e:=by rw[<-p];simp only[Array.size_append,df,FW,m0,m1,a7,F,l1,<-mf];congr 1;omega
  have E:Qf ι w (P.cellsOf e) ((l++new).map (I.exp e)) cur':=by rw[hm,<-p];refine .app u L ?_ (c1.at_app (by simp[m0]));intro i row j x hi hj;obtain⟨v,a1,a2⟩:=c0.2 i row j x hi hj;have:=(Sb.1 a1).1;exact⟨v,by grind,a2⟩
  rw[p]at f;obtain⟨w',a3⟩: ∃w',w.drew.alloc (.cells cur' e)=w':=⟨_,rfl⟩;have g:i7 w w' (.cells cur' e (0,0)):=by rw[<-a3];exact⟨rfl,rfl,rfl,rfl⟩
  rw[a3]at f;have S: ∀T,fW T ι w ι w':=λT=>⟨⟨g.wld.shape,λb hb=>⟨by rw[g.size];have:=hb.1;omega,hb.2⟩,λb hb=>g.old hb.1⟩,g.os,g.tape,g.output,by rw[g.size];omega,λ_ _ _ _ _ e=>g.old (W.lt _ _ _ _ e).1,λ_ _=> .inl rfl,λ_ _ _=>rfl,λ_ _=>rfl,λ_ h=>h,λb hx=>g.old (W.xlt b (Cv hx))⟩;have W':Wf ι w':=⟨λi b k n e=>by rw[g.size];have:=W.lt _ _ _ _ e;grind,W.inj,W.glob.step (S λ_=>False),λb hx=>by rw[g.size];have:=W.xlt b hx;omega⟩;have B1:=E.blk (ty:=km P e) (S λ_=>False) g.new ⟨.inl rfl, .inl rfl⟩ (by rw[Xa,Ea,y];grind);refine⟨_,_,f,S _,W',hh.step (S λ_=>False) (λh=>h),λι2 hD ao=>⟨rfl,?_⟩⟩;refine JE hI hD B1 (λap e'=>by cases e';exact hD _ ⟨by rw[g.size];omega,ve λhx=>by have:=W.xlt _ hx;omega,λi k n e=>by have:=(W.lt _ _ _ _ e).1;omega⟩) rfl (n:=(l++new).length) rfl ?_;rw[Ea];exact iK (t:=e) (fr:=(0,0)) (cur:=cur') g.new ar aw (by grind)
def zG6{o:Oper}{d t u:Nat}{s x:Operand}(h:vQ o=some (d,t,u,s,x)):o.dst=some d/\o.guard=none/\ ∃c,o.op= .call c/\c.callee= .builtin .append/\c.argTypes= #[t,u]/\c.args= #[s,x]:=by
 unfold vQ at h;split at h
 case h_2=>cases h
 rename_i a c h1 h2 h3;split at h
 case h_2=>cases h
 rename_i h4 b e;cases h;exact⟨h1,h2,c,h3,h4,by grind,by grind⟩
def zQo(hI:cU P I)(Q:g8 P X.T X.fk)(hB:BOK B X){o:Oper}{K:ES I.C->Option R}(h0:wP X nt st o K=some r0){a:Act}(V:St P B nt X st ι a w)(hc:gw (cR X st)):
  ∃st',K st'=some r0/\gw (cR X st')/\Region.wanted o (yielded ops.toArray a.tmps)=true/\ ∃v w',(execOp a.eval o).run P w= .ok (.value v) w'/\ ∃ι',St P B nt X st' ι' (a.put o.dst v) w':=by
 unfold wP at h0;split at h0
 ·cases h0
 rename_i d t u s x U;obtain⟨hd,W,c,Y,E,Z,a3⟩:=zG6 U;split at h0
 case h_2=>cases h0
 rename_i e id y a6 hs hx;split at h0
 case h_2=>cases h0
 rename_i t0 l new rd ok hl F J;split at h0
 case h_2=>cases h0
 rename_i l' r;obtain⟨hp,h0⟩:=zX h0;simp only[Da]at hp;obtain⟨p1,p2,p3,p4,p5⟩:=hp;obtain⟨a7,h0⟩:=QJ h0;obtain⟨a8,h0⟩:=QJ h0;obtain⟨a9,h0⟩:=QJ h0;obtain⟨rfl,ab⟩:=qK r;cases ab;have p2:=Kc p2;have ad:=Nl Q (.inr (.inl p3));have hz:(ti P t0).zok=true:=by rw[<-ad];exact p3
 obtain⟨a1,a2⟩:=VG p2 a9;obtain⟨al,hS⟩:=lD hI Q p1 J a7;have rs:=Uv (x:=s) (Rl V.vw) λt _ y hy=>V.vw.env t y hy;have rx:=Uv (x:=x) (Rl V.vw) λt _ y hy=>V.vw.env t y hy;rw[hs]at rs;rw[hx]at rx;have hh:=V.vw.obj id _ (show ev X st id=some (.sl t0 l) by simp only[ev,hl]);have S1:=hS ⟨Rl V.vw,λi _ o ho=>V.vw.obj i o ho⟩ rx;obtain⟨v,w',ap,S,W',aq,L⟩:=zMY (ts:=t) (tx:=u) (ty:=o.type) hI (jf Q a6 (by simp)) al hz V.vw.wf hh (Kc a8) rs S1 a2 (by grind);obtain⟨am,an⟩:=L (ju ι id (.pure (l.map (I.full t0)))) K8 λb k n eb=>L8 W' eb;have f: ∀(q:EL I.C),cR X {st with env:=(d,q)::st.env}=fh (cR X st) (some d) q:=λq=>by
  funext t;simp only[cR,fh,Z9,Option.some.injEq]
  grind
 have V1:St P B nt X {st with env:=(d, .any)::st.env} ι (a.put o.dst v) w':=by
  refine⟨?_,V.free,V.le⟩;have hu:ev X {st with env:=(d,EL.any)::st.env}=gA (ev X st) [(id, .sl t0 l)]:=by
   funext i;simp only[gA,Z9];by_cases hi:i=id
   ·subst hi;rw[La rfl];simp only[ev,hl]
   ·rw[Ka hi];rfl
  rw[f,hu,hd];exact V.vw.put S W' (V.vw.bas.step hB.live (λi hi=>⟨hB.lt i hi,λe=>hB.inc i hi (by rw[e];exact F)⟩) S) (λO ht=>by simp_all) (x:= .any) trivial (λi hi=>by rw[hi];simp) (λp hp=>by grind)
 have m:=VZ hI hB (st:={st with env:=(d, .any)::st.env}) (id:=id) hl F V1;have M:(a.put o.dst v).tmps.getD d undef=v:=by rw[hd];simp[Act.put,Array.getD,show d<a.tmps.size by rw[V.vw.size];simp_all]
 refine⟨_,h0,?_,?_,v,w',?_,_,⟨⟨m.vw.size,m.vw.defers,λO q j=> ?_,m.vw.obj,m.vw.wf,m.vw.bas⟩,m.free,m.le⟩⟩
 ·intro O ks b q j;have e:cR X {st with env:=(d,EL.v (.c (.sl t0 (l++new))))::st.env,heap:=(id, .frz t0 l)::st.heap}=fh (cR X st) (some d) (.v (.c (.sl t0 (l++new)))):=f _;rw[e]at j ⊢;unfold fh at j;split at j
  ·cases j
  ·rename_i A;rw[<-hc O ks b q j];refine KO λk hk=> ?_;unfold fh;rw[Ka];intro he;cases he;unfold cR at j;split at j
   ·rename_i y' ao;cases j;exact uN p5 ao k hk rfl
   simp_all
 ·simp[Region.wanted,W]
 ·have hb: ∀cs,builtin .append c.argTypes o.type cs (c.args.map a.eval)=(do pure (.value (<-Builtin.append_ #[t,u] o.type #[a.eval s,a.eval x]))):=λcs=>by
   have e2:c.args.map a.eval= #[a.eval s,a.eval x]:=by rw[a3];simp
   rw[Z,e2];rfl
  have ar:execOp a.eval o=(do pure (.value (<-Builtin.append_ #[t,u] o.type #[a.eval s,a.eval x]))):=by simp only[execOp,Y,resolve,E];simp only[invoke,pure_bind,hb]
  simp_all
 ·have e:cR X {st with env:=(d,EL.v (.c (.sl t0 (l++new))))::st.env,heap:=(id, .frz t0 l)::st.heap}=fh (cR X st) (some d) (.v (.c (.sl t0 (l++new)))):=f _;rw[e]at j;unfold fh at j;split at j
  ·rename_i A;cases j;cases A;rw[M];exact⟨am,an⟩
  ·rename_i A;refine m.vw.env O q ?_;have e2:cR X {st with env:=(d,EL.any)::st.env,heap:=(id, .frz t0 l)::st.heap}=fh (cR X st) (some d) .any:=f _;rw[e2];unfold fh
   grind
def nD(hI:cU P I)(k:g8 P X.T X.fk){S:List (Con I)}(hS: ∀c∈S,ZH P c)(hB:BOK B X){fz:List Nat}{K:ES I.C->Option R}{Q:Exit->Act->World->Prop}(n: ∀st' ι' p w',K st'=some r0->St P B nt X st' ι' p w'->Q .normal p w'):
  ∀(r:List Oper) (j:Nat) (st:ES I.C) (ι:cL) (a:Act) (w:World),seqN X S fz nt ops K j r st=some r0->gw (cR X st)->St P B nt X st ι a w->wpList P ops.toArray Q r a w
 |[],j,st,ι,a,w,h0,_,V=>n st ι a w h0 V
 |o::r,j,st,ι,a,w,h0,hc,V=>by
  refine wpList_step λF f=> ?_;simp only[seqN]at h0;split at h0
  ·rename_i J t x hn;obtain⟨b,h1,h2,h3⟩:=zSA (ops:=ops) k hn h0 V.vw;obtain⟨l,h1⟩:=zX h1;rw[La h2];have S:fW (λ_=>False) ι w ι w:= .same _ _ _;refine Runs.wp (G:=λv w'=>v= .bool b/\w'=w) (.inl ⟨_,_,h3,rfl,rfl⟩) λv w' ⟨hv,s⟩=> ?_;subst hv;subst s;have hk:=l;simp only[yn,Da]at hk;refine f _ _ (nD hI k hS hB n r (j+1) _ ι _ w' h1 (zF0 hc l) ⟨?_,λid hid=>V.free id hid,V.le⟩);have e:=iF (X:=X) (st:=st) (o:=o) (q:=[]) (g:=true) (res:=eK (.bool b));have e1:cR X (Yi o [] true st (eK (.bool b)))=fh (cR X st) o.dst (.v (.c (.bool b))):=congrArg FS.e e;have e2:ev X (Yi o [] true st (eK (.bool b)))=gA (ev X st) []:=congrArg FS.h e;rw[e1,e2];exact V.vw.put (x:= .v (.c (.bool b))) S V.vw.wf V.vw.bas (λd L=>by simp_all) (Rj b) (λ_ h=>h.elim) (by simp)
  ·split at h0
   ·obtain⟨st',h1,i,h2,v,w',h3,ι',y⟩:=zQo (ops:=ops) hI k hB h0 V hc;rw[La h2];refine Runs.wp (G:=λu m=>u=v/\m=w') (.inl ⟨_,_,h3,rfl,rfl⟩) λu m ⟨hu,s⟩=> ?_;subst hu;subst s;exact f _ _ (nD hI k hS hB n r (j+1) _ ι' _ _ h1 i y)
   split at h0
   ·cases h0
   ·rename_i q A;obtain⟨res,h1,E,i⟩:=opZ (B:=B) hI k hS hc hB.inc A h0;exact oZ hB E V λι' p w' y=>f _ _ (nD hI k hS hB n r (j+1) _ ι' p w' h1 i y)
end
section
variable {I:Ip} {P:Program} {ι ι':cL} {w w':World} {R:Type} {r0:R} {X:Cx I} {st:ES I.C} {B:Base} {nt:Nat} {ops:List Oper} {zs:List (Rz I)} {s0:FS I}
def gt(zs:List (Rz I))(s0:FS I):Nat->FS I
 |0=>s0
 |n+1=>match zs[n]? with|some z=>Yj z (gt zs s0 n)|none=>gt zs s0 n
def ij(zs:List (Rz I))(s0:FS I)(S:Nat->Bool):Nat->EF I×HF I
 |0=>(s0.e,s0.h)
 |n+1=>match zs[n]? with
  |some z=>cond (S n) (fh (ij zs s0 S n).1 z.o.dst z.x,gA (ij zs s0 S n).2 z.res.up) (ij zs s0 S n)
  |none=>ij zs s0 S n
def JS{h h':HF I}{up:eE I.C}{id:Nat}(e:id ∉ up.map (·.1)->h id=h' id):gA h up id=gA h' up id:=by
 by_cases hm:id∈up.map (·.1)
 ·unfold gA;cases hl:lk up id with
  |some o=>rfl
  |none=>
   obtain⟨p,hp,rfl⟩:=Rb.1 hm;exfalso;have: ∀{l:eE I.C},p∈l->lk l p.1≠none:=λ{l}=>by
    induction l with
    |nil=>grind
    |cons q r a=>
     intro hp;rw[Z9]
     grind
   exact this hp hl
 ·rw[Jm hm,Jm hm,e hm]
def sg_e{S:Nat->Bool}{t:Nat}: ∀(n j:Nat),j<=n->(∀i z,zs[i]? =some z->i<n->z.o.dst=some t->(S i=true↔i<j))->(ij zs s0 S n).1 t=(gt zs s0 j).e t
 |0,j,d,_=>by obtain rfl:j=0:=(by omega);rfl
 |n+1,j,d,h=>by
  simp only[ij];cases c:zs[n]? with
  |none=>
   by_cases hn:j=n+1
   ·subst hn;simp only[gt,c];exact sg_e n n (Db _) λi z hi b a=>by grind
   ·exact sg_e n j (by omega) λi z hi b a=>h i z hi (by omega) a
  |some z=>
   by_cases a:z.o.dst=some t
   ·have:=h n z c (by omega) a;by_cases hn:j=n+1
    ·subst hn;rw[this.2 (by omega)];simp only[gt,c,Yj,Ca,fh,La a]
    ·cases hS:S n with
     |true=>grind
     |false=>exact sg_e n j (by omega) λi z hi b a=>h i z hi (by omega) a
   ·have e1:(cond (S n) (fh (ij zs s0 S n).1 z.o.dst z.x,gA (ij zs s0 S n).2 z.res.up) (ij zs s0 S n)).1 t=(ij zs s0 S n).1 t:=by cases S n<;>simp[fh,a]
    rw[e1];by_cases hn:j=n+1
    ·subst hn;simp only[gt,c,Yj,fh,Ka a];exact sg_e n n (Db _) λi z hi b a=>by grind
    ·exact sg_e n j (by omega) λi z hi b a=>h i z hi (by omega) a
def sg_h{S:Nat->Bool}{id:Nat}: ∀(n j:Nat),j<=n->(∀i z,zs[i]? =some z->i<n->id∈z.res.up.map (·.1)->(S i=true↔i<j))->(ij zs s0 S n).2 id=(gt zs s0 j).h id
 |0,j,f,_=>by obtain rfl:j=0:=(by omega);rfl
 |n+1,j,f,h=>by
  simp only[ij];have e:j≠n+1->(ij zs s0 S n).2 id=(gt zs s0 j).h id:=λhn=>sg_h n j (by omega) λi z hi d a=>h i z hi (by omega) a;have b:j=n+1->(ij zs s0 S n).2 id=(gt zs s0 n).h id:=λhn=>sg_h n n (Db _) λi z hi d a=>by grind
  cases c:zs[n]? with
  |none=>
   by_cases hn:j=n+1
   ·rw[hn];simp only[gt,c];exact b hn
   ·exact e hn
  |some z=>
   by_cases a:id∈z.res.up.map (·.1)
   ·have:=h n z c (by omega) a;by_cases hn:j=n+1
    ·rw[this.2 (by omega),hn];simp only[gt,c,Yj,Ca];exact JS λh=>absurd a h
    grind
   ·have e1:(cond (S n) (fh (ij zs s0 S n).1 z.o.dst z.x,gA (ij zs s0 S n).2 z.res.up) (ij zs s0 S n)).2 id=(ij zs s0 S n).2 id:=by cases S n<;>simp[Jm a]
    rw[e1];by_cases hn:j=n+1
    ·rw[hn];simp only[gt,c,Yj];rw[Jm a];exact b hn
    ·exact e hn
def iZ{S S':Nat->Bool}{j:Nat}{c:Rz I}(m:zs[j]? =some c)(hS:S j=false)(e: ∀i,S' i=(S i||i==j)): ∀(n:Nat),(∀i z,zs[i]? =some z->j<i->i<n->S i=true->(∀d,z.o.dst=some d->c.o.dst≠some d)/\ ∀id∈z.res.up.map (·.1),id ∉ c.res.up.map (·.1))->
  ij zs s0 S' n=if j<n then(fh (ij zs s0 S n).1 c.o.dst c.x,gA (ij zs s0 S n).2 c.res.up)else ij zs s0 S n
 |0,_=>by rw[Ka (by omega)];rfl
 |n+1,h=>by
  have p:=iZ m hS e n λi z hi k r=>h i z hi k (by omega);simp only[ij];cases s:zs[n]? with
  |none=>
   grind
  |some z=>
   by_cases hn:n=j
   ·grind
   ·have e1:S' n=S n:=by rw[e];simp[hn]
    simp only[e1,p];by_cases f:j<n
    ·rw[La f,La (by omega)];cases l:S n with
     |false=>rfl
     |true=>
      obtain⟨h1,h2⟩:=h n z s f (by omega) l;simp only[Ca,Prod.mk.injEq];constructor
      ·funext t;simp only[fh]
       grind
      ·funext id;by_cases a:id∈z.res.up.map (·.1)
       ·rw[JS (h:=gA (ij zs s0 S n).2 c.res.up) (h':=(ij zs s0 S n).2) λhn=>absurd a hn,Jm (h2 id a)]
       ·by_cases b:id∈c.res.up.map (·.1)
        ·rw[Jm a];exact JS λhn=>absurd b hn
        ·rw[Jm a,Jm b,Jm b,Jm a]
    grind
def AllZ(P:Program)(B:Base)(nt:Nat)(ops:List Oper)(zs:List (Rz I))(s0:FS I):Prop:=zs.map (·.o)=ops/\ ∀j z,zs[j]? =some z->OkZ P B nt ops z (gt zs s0 j)
def eD(a b:Rz I):Prop:=(∀x∈a.res.up.map (·.1),x ∉ b.res.rd/\x ∉ b.res.up.map (·.1))/\ ∀x∈b.res.up.map (·.1),x ∉ a.res.rd
def zRz(ops:List Oper)(zs:List (Rz I)):Prop:= ∀i k x y,zs[i]? =some x->zs[k]? =some y->i<k->Rch ops i k\/(dn ops x.o y.o=false/\eD x y)
def gM{x y:Oper}(h:dn ops x y=false):(∀d,x.dst=some d->d ∉ ak ops y/\y.dst≠some d)/\ ∀d,y.dst=some d->d ∉ ak ops x:=by
 simp only[dn,Mf]at h;refine⟨λd a=> ?_,λd a hm=> ?_⟩
 ·have h:=h.1;rw[a]at h;have h:=Mf.1 h;exact⟨λhm=>(by rw[Dk.2 hm]at h;cases h.1),λb=>(by simp_all)⟩
 ·have h:=h.2;rw[a]at h;have h:dq d (ak ops x)=false:=h;rw[Dk.2 hm]at h;cases h
def KM(a:AllZ P B nt ops zs s0): ∀(n id t:Nat) (l:List (I.C t)),(gt zs s0 n).h id=some (.frz t l)->s0.h id=some (.frz t l)
 |0,_,_,_,h=>h
 |n+1,id,t,l,h=>by
  simp only[gt]at h;cases b:zs[n]? with
  |none=>rw[b]at h;exact KM a n id t l h
  |some z=>
   rw[b]at h;simp only[Yj,gA]at h;cases hl:lk z.res.up id with
   |none=>rw[hl]at h;exact KM a n id t l h
   |some o=>rw[hl]at h;cases h;have:=((a.2 n z b).frz _ (Mh hl)).1;cases this
def KE(a:AllZ P B nt ops zs s0){id t:Nat}{l:List (I.C t)}(h:s0.h id=some (.frz t l)): ∀n,(gt zs s0 n).h id=some (.frz t l)
 |0=>h
 |n+1=>by
  simp only[gt];cases b:zs[n]? with
  |none=>exact KE a h n
  |some z=> simp only[Yj];rw[Jm,KE a h n];intro hm;obtain⟨p,hp,rfl⟩:=Rb.1 hm;exact((a.2 n z b).frz p hp).2 t l (KE a h n)
def zP9(a:AllZ P B nt ops zs s0){id t:Nat}{l:List (I.C t)}(h:s0.h id=some (.frz t l)){j:Nat}{z:Rz I}(b:zs[j]? =some z):id ∉ z.res.up.map (·.1):=λhm=>by obtain⟨p,hp,rfl⟩:=Rb.1 hm;exact((a.2 j z b).frz p hp).2 t l (KE a h j)
def kz: ∀(i k:Nat),i<=k->(gt zs s0 i).nx<=(gt zs s0 k).nx
 |i,0,h=>by grind
 |i,k+1,h=>by
  by_cases e:i=k+1
  ·grind
  ·have:=kz i k (by omega);simp only[gt];cases zs[k]? with
   |none=>exact this
   |some z=>simp only[Yj];omega
def zPP (hB:BOK B X)(Y:AllZ P B nt ops zs s0)(J:zRz ops zs)(a8:IQ ops=true){Q:Exit->Act->World->Prop}
  (hQ: ∀ι a w,Vw P B nt (gt zs s0 zs.length).e (gt zs s0 zs.length).h ι a w->(∀id,(gt zs s0 zs.length).nx<=id->ι id= .free)->Q .normal a w):
  ∀(c:Nat) (b:Array Bool) (ι:cL) (a:Act) (w:World),b.size=ops.length->(∀i j,Rch ops i j->b.getD j false=true->b.getD i false=true)->
   Vw P B nt (ij zs s0 (λj=>b.getD j false) zs.length).1 (ij zs s0 (λj=>b.getD j false) zs.length).2 ι a w->(∀id t l,s0.h id=some (.frz t l)->ι id= .pure (l.map (I.full t)))->(∀j z,zs[j]? =some z->b.getD j false=false-> ∀i,i<z.res.k->ι ((gt zs s0 j).nx+i)= .free)->(∀id,(gt zs s0 zs.length).nx<=id->ι id= .free)->
   (List.range ops.length).countP (λj=> !b.getD j false)<=c->wpAny P .any ops.toArray Q c b a w:=by
 have ar:zs.length=ops.length:=by rw[<-Y.1,Xa]
 have b3: ∀{j:Nat} {z:Rz I},zs[j]? =some z->ops[j]? =some z.o:=λZ=>by rw[<-Y.1,Ta,Z];rfl
 have E: ∀(b:Array Bool) (ι:cL) (a:Act) (w:World),Vw P B nt (ij zs s0 (λj=>b.getD j false) zs.length).1 (ij zs s0 (λj=>b.getD j false) zs.length).2 ι a w->(∀id,(gt zs s0 zs.length).nx<=id->ι id= .free)->(∀j,j<ops.length->b.getD j false=true)->Q .normal a w:=by intro b ι a w V r n;have e1:(ij zs s0 (λj=>b.getD j false) zs.length).1=(gt zs s0 zs.length).e:=funext λt=>sg_e _ _ (Db _) λi z hi L _=>⟨λ_=>L,λ_=>n i (by omega)⟩;have e2:(ij zs s0 (λj=>b.getD j false) zs.length).2=(gt zs s0 zs.length).h:=funext λt=>sg_h _ _ (Db _) λi z hi L _=>⟨λ_=>L,λ_=>n i (by omega)⟩;rw[e1,e2]at V;exact hQ ι a w V r
 intro c
 induction c with
 |zero=>
  intro b ι a w a3 a9 V Z M r F;have n: ∀j,j<ops.length->b.getD j false=true:=by intro j W;simpa using List.countP_eq_zero.1 (Nat.le_zero.1 F) j (Pd.2 W)
  refine⟨?_,E b ι a w V r n⟩;rw[List.eq_nil_iff_forall_not_mem];intro j W;rw[mem_ready]at W
  grind
 |succ c ih=>
  intro b ι a w a3 a9 V Z M r F;refine⟨λaw=>E b ι a w V r (λj=> ?_),λj W=> ?_⟩
  ·induction j using Nat.strongRecOn with
   |_ j b5=>
    intro O;cases b6:b.getD j false with
    |true=>rfl
    |false=>
     exfalso;have ho:ops[j]? =some ops[j]:=Na O;have:j∈Region.ready .any ops.toArray b:=by
      rw[mem_ready];refine⟨?_,ops[j],by simp,λed ab hb=> ?_⟩
      ·grind
      ·have v:ed.on∈eR ops[j]:=by simp only[eR,Rb,Df];exact⟨ed,⟨by simpa using ab,hb⟩,rfl⟩
       simp only[IQ,Ya,Pd]at a8
       grind
     grind
  ·rw[mem_ready]at W;obtain⟨h1,o,ho,ad⟩:=W;have al:ops[j]? =some o:=by simpa using ho
   have O:j<ops.length:=(Ua.1 al).1;obtain⟨z,f⟩: ∃z,zs[j]? =some z:=⟨_,Na (by omega)⟩;obtain rfl:o=z.o:=by grind
   have hS:b.getD j false=false:=by rw[Sd,Array.getElem?_eq_getElem (by omega)]at h1 ⊢;simpa using h1
   have hr: ∀i∈eR z.o,b.getD i false=true:=by intro i hi;simp only[eR,Rb,Df]at hi;obtain⟨ed,⟨am,an⟩,rfl⟩:=hi;exact ad ed (by simpa using am) an
   have ao: ∀i,Rch ops i j->b.getD i false=true:=by
    intro i h;cases h with
    |dir _ o' ap hi=>grind
    |tr m _ o' ap hm h=>grind
   have a6: ∀i,(b.setIfInBounds j true).getD i false=(b.getD i false||i==j):=by
    intro i;by_cases s:i=j
    ·simp_all
    ·rw[getD_set_ne false (Ne.symm s)];simp[s]
   -- who is done, and meets this one, is ahead of it
   have b7: ∀i y,zs[i]? =some y->(¬(dn ops y.o z.o=false/\eD y z)->i<j->b.getD i false=true)/\(¬(dn ops z.o y.o=false/\eD z y)->j<i->b.getD i false=false):=λi y u=>⟨λhn s=>(J i j y z u f s).elim (ao i) λh=>absurd h hn,λhn U=>by
    rcases J j i z y f u U with h|h
    ·grind
    grind⟩
   have cut: ∀i y,zs[i]? =some y->(i≠j-> ¬(dn ops y.o z.o=false/\eD y z)/\ ¬(dn ops z.o y.o=false/\eD z y))->(b.getD i false=true↔i<j):=λi y u hn=>by
    rcases Nat.lt_trichotomy i j with h|h|h
    ·grind
    ·grind
    grind
   have he: ∀t∈ak ops z.o,(ij zs s0 (λj=>b.getD j false) zs.length).1 t=(gt zs s0 j).e t:=λt ht=>sg_e _ j (by omega) λi y u _ v=>cut i y u λ_=>⟨λh=>((gM h.1).1 t v).1 ht,λh=>(gM h.1).2 t v ht⟩;have hh: ∀id,(id∈z.res.rd\/id∈z.res.up.map (·.1))->(ij zs s0 (λj=>b.getD j false) zs.length).2 id=(gt zs s0 j).h id:=λid hid=>sg_h _ j (by omega) λi y u _ v=>cut i y u λ_=>⟨λh=>hid.elim (h.2.1 id v).1 (h.2.1 id v).2,λh=>hid.elim (h.2.2 id v) λh2=>(h.2.1 id h2).2 v⟩;have a7:=iZ (s0:=s0) (S:=λj=>b.getD j false) (S':=λi=>(b.setIfInBounds j true).getD i false) f hS a6 zs.length λi y u U _ A=>by
    rcases J j i z y f u U with h|h
    ·grind
    ·exact⟨λd v e=>((gM h.1).1 d e).2 v,λid hid hm=>(h.2.1 id hm).2 hid⟩
   rw[La (by omega)]at a7;have hk:=(Y.2 j z f).step hB.live hB.lt V (λid t l e=>Z id t l (KM Y j id t l e)) he hh (M j z f hS) (K:=wpAny P .any ops.toArray Q c (b.setIfInBounds j true)) (Q:=Q) λι' a' w' V' hf aq=>
    ih (b.setIfInBounds j true) ι' a' w' (by simpa using a3) (λi k b8 hk=>by
     grind) (by grind) (λid t l e=>aq id _ (Z id t l e) (zP9 Y e f)) (λi y u A m hm=>by
     rw[a6,Mf]at A;have s:i≠j:=by simpa using A.2
     refine hf _ (M i y u A.1 m hm) ?_;have nx: ∀{i y},zs[i]? =some y->(gt zs s0 (i+1)).nx=(gt zs s0 i).nx+y.res.k:=λh=>by simp only[gt,h,Yj]
     rcases Nat.lt_or_gt_of_ne s with h|h
     ·have:=kz (zs:=zs) (s0:=s0) (i+1) j h;grind
     ·have:=kz (zs:=zs) (s0:=s0) (j+1) i h;grind) (λid hid=>hf id (r id hid) (.inr (by
     have:=kz (zs:=zs) (s0:=s0) (j+1) zs.length (by omega);have e:(gt zs s0 (j+1)).nx=(gt zs s0 j).nx+z.res.k:=by simp only[gt,f,Yj]
     omega))) (by
     have:=cnt_lt (l:=List.range ops.length) (p:=λj=> !b.getD j false) (q:=λi=> !(b.setIfInBounds j true).getD i false) (λx hx=>by
      grind) (Pd.2 O) (by grind) (by grind)
     omega)
   unfold wpOp;simp only[ho];split at hk
   ·grind
   ·grind
end
end Go.Lv
