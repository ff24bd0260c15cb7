/- That the evaluator is right: an operation at its place in a region. -/
import Derived.Test.YtcdeccnjlkkejaaGreatDoorLc
import Derived.WalkSpells
import Derived.Lib.SliceRun
set_option linter.unusedSimpArgs false
set_option linter.unusedVariables false
namespace Go.Lv
structure Vw {I:Ip} (P:Program) (X:Cx I) (ρ:Nat->Nat) (G:Get) (st:ES I.C) (e:Env) (lh:LH):Prop where
 env: ∀t,look e t=(match lkE X st t with|some x=>trL ρ (lkO X st) (lkE X st) x|none=> .any)
 heap: ∀id o,lkO X st id=some o->lh.get (ρ id)=trO P ρ (lkO X st) o
 oth: ∀i,G i≠none->lh.get i=G i/\ ∀id o,lkO X st id=some o->ρ id≠i
 inj: ∀i j o o',lkO X st i=some o->lkO X st j=some o'->ρ i=ρ j->i=j
 lt: ∀id,id<st.next->ρ id<lh.next
 up: ∀id,st.next<=id->ρ id=lh.next+(id - st.next)
 fre: ∀t x,lk X.frm t=some x->lkE X st t=some x/\eF x=true
 fro: ∀i o,lk X.frh i=some o->lkO X st i=some o
 glt: ∀i,G i≠none->i<lh.next
 wfe: ∀t x,lkE X st t=some x->wfL st.next x=true
 wfh: ∀id o,lkO X st id=some o->id<st.next/\wfO st.next o=true
def unopt:LV->LV
 | .opt true t=> .v t
 |x=>x
def Zl(e:Env):Env:=e.map fun p=>(p.1,unopt p.2)
theorem Sq: ∀(e:Env) (t:Nat),look (Zl e) t=unopt (look e t)
 |[],t=>rfl
 |(j,x)::r,t=>by
  simp only[Zl,aa,look];split
  ·rfl
  ·exact Sq r t
theorem OZ{ι:Asg}{w:World}{x:LV}{v:Value}(h:repL ι w x v):repL ι w (unopt x) v:=by
 unfold unopt;split
 ·exact h.1 rfl
 ·exact h
theorem Bz{ι:Asg}{w:World}{nt:Nat}{e:Env}{a:Act}(h:Qt ι w nt e a):Qt ι w nt (Zl e) a:=
 ⟨h.size,h.defers,fun i=>by rw[Sq];exact OZ (h.rep i)⟩
section
variable {P:Program} {I:Ip} {X:Cx I} {ρ:Nat->Nat} {G:Get} {st:ES I.C} {e:Env} {lh:LH} {q:Path}
theorem YQ{E:Nat->Option (EL I.C)}{a:Nat×Bool}: ∀{q:Path},qB E q=true->memK a q=true->litB a.2 (Ci E a.1)=true
 |[],_,h=>by cases h
 |b::r,hp,h=>by
  have hb:litB b.2 (Ci E b.1)=true/\(r=[]\/qB E r=true):=by
   obtain⟨t,w⟩:=b;cases r with
   |nil=>exact⟨hp, .inl rfl⟩
   |cons c r=>simp only[qB,Da]at hp;exact⟨hp.1, .inr hp.2⟩
  simp only[memK]at h;cases hk:beqK a b with
  |true=>
   simp only[beqK,Da]at hk;have h1:=Bb hk.1;have h2:a.2=b.2:=by have:=hk.2;revert d;cases a.2<;>cases b.2<;>simp
   rw[h1,h2];exact hb.1
  |false=>
   rw[hk]at h;rcases hb.2 with hr|hr
   ·subst hr;cases h
   ·exact YQ hr h
theorem aD{E:Nat->Option (EL I.C)}: ∀{p q:Path},qB E q=true->subK p q=true->qB E p=true
 |[],q,_,_=>rfl
 |a::r,q,d,h=>by
  simp only[subK]at h;obtain⟨h1,h2⟩:=zl (R:=Unit) (x:=some ()) (r0:=()) (b:=memK a q&&subK r q) (by
   cases hm:memK a q with
   |true=>rw[hm]at h;simp at h;simp[h]
   |false=>rw[hm]at h;cases h)
  rw[Da]at h1;have ha:=YQ d h1.1;have hr:=aD d h1.2;obtain⟨t,w⟩:=a;cases r with
  |nil=>exact ha
  |cons c r=>simp only[qB,Da];exact⟨ha,hr⟩
theorem oN{ks:Path}(h:subK ks []=true):ks=[]:=by
 cases ks with
 |nil=>rfl
 |cons a r=>cases h
theorem zAU{I:Ip}{q:Path}{x:EL I.C}{t:ET I.C}(h:useE [] x=some t):useE q x=some t:=by
 cases x with
 |v u=>exact h
 |opt ks u=>
  simp only[useE]at h ⊢;cases hk:subK ks []with
  |true=>rw[hk]at h;rw[oN hk];exact h
  |false=>rw[hk]at h;cases h
 |any=>cases h
 |tup ts=>cases h
theorem VI{E:Nat->Option (EL I.C)}{x:EL I.C}{t:ET I.C}(c:q=[]\/qB E q=true)(hu:useE q x=some t):x= .v t\/ ∃ks,x= .opt ks t/\qB E ks=true:=by
 unfold useE at hu;split at hu
 ·injection hu with hu;subst hu;exact .inl rfl
 ·rename_i ks d;obtain⟨h1,h2⟩:=zl hu;injection h2 with h2;subst h2;refine .inr ⟨ks,rfl,?_⟩;rcases c with rfl|c
  ·rw[oN h1];rfl
  ·exact aD c h1
 ·cases hu
theorem KR{E:Nat->Option (EL I.C)}{h:Nat->Option (EO I.C)}(v:Value)(hv:(ak v:EL I.C)≠ .any):Jn v=trL ρ h E (ak v):=by
 cases v with
 |agg vs=>
  simp only[ak]at hv ⊢;cases hc:vs.all (·.oneCell')with
  |false=>rw[hc]at hv;exact absurd rfl hv
  |true=> simp only[Ka,Jn,hc,Td,trL,trT,Ac];congr 2;exact Ya fun u _=>(bJ (ρ:=ρ) (h:=h) u).symm
 |d vs=>exact absurd rfl hv
 |_=>exact congrArg (fun x=>LV.v (TV.c x)) (bJ (ρ:=ρ) (h:=h) _).symm
theorem Tt(hv:Vw P X ρ G st e lh)(p:q=[]\/qB (lkE X st) q=true)(x:Operand)(t:ET I.C)(hu:useE q (opdE X st x)=some t):opd (Zl e) x= .v (trT ρ (lkO X st) t):=by
 cases x with
 |u i=>
  simp only[opd,Sq,hv.env i];simp only[opdE]at hu;cases hl:lkE X st i with
  |none=>rw[hl]at hu;cases hu
  |some y=>
   rw[hl]at hu;simp only at hu;rcases VI p hu with h1|⟨ks,h1,h2⟩
   ·have:=dB (ρ:=ρ) (h:=lkO X st) (e:=lkE X st) y;rw[h1]at c;simp only;rw[<-c];rfl
   ·have:=dB (ρ:=ρ) (h:=lkO X st) (e:=lkE X st) y;rw[h1]at c;simp only;rw[<-c];simp[trL,h2,unopt]
 |j v=>
  simp only[opdE]at hu;have m:(ak v:EL I.C)≠ .any:=fun h=>by rw[h]at hu;cases hu
  rw[show opd (Zl e) (.const v)=Jn v from rfl,KR (ρ:=ρ) (E:=lkE X st) (h:=lkO X st) v m];rcases VI p hu with h1|⟨ks,h1,h2⟩
  ·rw[h1];rfl
  ·exfalso;cases v<;>first|(simp[ak]at h1;done)|skip;simp only[ak]at h1;rename_i vs;cases hc:vs.all (·.oneCell')<;>rw[hc]at h1<;>cases h1
 |d g=>cases hu
 |r f=> simp only[opdE,useE,Option.some.injEq]at hu;subst hu;rfl
theorem KH(hv:Vw P X ρ G st e lh)(x:Operand)(ts:List (ET I.C))(hu:opdE X st x= .tup ts):opd (Zl e) x= .tup (ts.map (trT ρ (lkO X st))):=by
 cases x with
 |m i=>
  simp only[opd,Sq,hv.env i];simp only[opdE]at hu;cases hl:lkE X st i with
  |none=>rw[hl]at hu;cases hu
  |some y=> rw[hl]at hu;simp only at hu ⊢;rw[<-dB (ρ:=ρ) (h:=lkO X st) (e:=lkE X st) y,hu];rfl
 |d v=>
  exfalso;simp only[opdE]at hu;cases v<;>first|(simp[ak]at hu;done)|skip;simp only[ak]at hu;rename_i vs;cases hc:vs.all (·.oneCell')<;>rw[hc]at hu<;>cases hu
 |c g=>cases hu
 |j f=>cases hu
theorem oC(hv:Vw P X ρ G st e lh)(x:Operand){ks:Path}{b:Bool}(hb:jv (opdE X st x)=some (ks,b)):Al (opd (Zl e) x)=(qB (lkE X st) ks,some b):=by
 have m: ∀y:LV,∀c d,Al y=(c,some d)->Al (unopt y)=(c,some d):=by
  intro y c d h;cases y with
  |opt g t=>
   cases g with
   |true=>exact h
   |false=>exact h
  |_=>exact h
 cases x with
 |z i=>
  simp only[opd,Sq,hv.env i];simp only[opdE]at hb;cases hl:lkE X st i with
  |none=>rw[hl]at hb;cases hb
  |some y=> rw[hl]at hb;refine m _ _ _ ?_;simp only;rw[<-dB (ρ:=ρ) (h:=lkO X st) (e:=lkE X st) y];exact uQ hb
 |p v=>
  simp only[opdE]at hb;have r:(ak v:EL I.C)≠ .any:=fun h=>by rw[h]at hb;cases hb
  rw[show opd (Zl e) (.const v)=Jn v from rfl,KR (ρ:=ρ) (E:=lkE X st) (h:=lkO X st) v r];exact uQ hb
 |j g=>cases hb
 |u f=>cases hb
theorem EN{h:Nat->Option (EO I.C)}{n:Nat}{x:EV I.C}(c:wfV n x=true):wfV n (nrmV h x)=true:=by
 cases x<;>simp only[nrmV]<;>first|exact c|skip;split
 ·rfl
 ·exact c
theorem oG{h:Nat->Option (EO I.C)}{n:Nat}{x:ET I.C}(d:wfT n x=true):wfT n (nrmT h x)=true:=by
 cases x with
 |c x=>exact EN d
 |agg xs=> simp only[nrmT,wfT,Xa,Oa]at d ⊢;rintro _ ⟨y,f,rfl⟩;exact EN (d y f)
theorem JR(n:Nat)(v:Value):wfV n (Vp v:EV I.C)=true:=by unfold Vp;split<;>rfl
theorem zD0(hv:Vw P X ρ G st e lh)(x:Operand)(t:ET I.C)(hu:useE q (opdE X st x)=some t):wfT st.next t=true:=by
 have d: ∀y:EL I.C,wfL st.next y=true->useE q y=some t->wfT st.next t=true:=by
  intro y j hu;unfold useE at hu;split at hu
  ·injection hu with hu;subst hu;exact j
  ·obtain⟨h1,h2⟩:=zl hu;injection h2 with h2;subst h2;exact j
  ·cases hu
 cases x with
 |z i=>
  simp only[opdE]at hu;cases hl:lkE X st i with
  |none=>rw[hl]at hu;cases hu
  |some y=>
   rw[hl]at hu;have m:=hv.wfe i y hl;refine d _ ?_ hu;cases y with
   |any=>rfl
   |v t=>exact oG m
   |opt ks t=>exact oG (x:=t) m
   |tup ts=> simp only[nrmL,wfL,Xa,Oa]at m ⊢;rintro _ ⟨y,j,rfl⟩;exact oG (m y j)
 |r v=>
  refine d _ ?_ hu;cases v<;>simp only[opdE,ak]<;>first|rfl|exact JR _ _|skip;rename_i vs;cases hc:vs.all (·.oneCell')
  ·rfl
  ·simp only[Ka,wfL,wfT,Xa,Oa];rintro _ ⟨y,j,rfl⟩;exact JR _ _
 |p g=>cases hu
 |u f=> refine d (.v (.c (.clo f []))) rfl hu
end
section
variable {P:Program} {I:Ip} {T:TT} {fk:List (Nat×List Kd)} {ρ:Nat->Nat} {h:Nat->Option (EO I.C)} {e:Nat->Option (EL I.C)} {get:Get} {nx:Nat} {R:Type} {r0:R} {q:Path} {g:Bool} {K:Kt I R}
theorem QF{b:Bool}{x:Option R}(h:Yh q g b x=some r0):x=some r0:=by
 unfold Yh at h;split at h
 ·exact(zY h).2
 ·exact(zY h).2
theorem PD{α:Type}{c:Option α}{d:α}{f:α->Option R}(h:bndG q g c d f=some r0): ∃x,f x=some r0:=by
 unfold bndG at h;split at h
 ·obtain⟨x,_,h2⟩:=Ca.1 h;exact⟨x,h2⟩
 ·obtain⟨x,_,h2⟩:=Ca.1 h;exact⟨x,h2⟩
def AnyR(q:Path)(K:Kt I R)(r0:R):Prop:= ∃res,K res=some r0/\(q=[]\/res.up=[])
theorem any_ok{res:OR I.C}(h:K res=some r0)(hu:res.up=[]):AnyR q K r0:=⟨res,h, .inr hu⟩
theorem aY{op:BinOp}{k:IntKind}{x y:Int}(h0:intE op k x y q g K=some r0):AnyR q K r0:=by cases op<;>simp only[intE]at h0<;>first|exact any_ok h0 rfl|exact any_ok (QF h0) rfl
theorem zAC{op:BinOp}{l m:List UInt8}(h0:strE op l m q g K=some r0):AnyR q K r0:=by cases op<;>simp only[strE]at h0<;>first|(cases h0;done)|exact any_ok h0 rfl|exact any_ok (QF h0) rfl
theorem JY{fk:Option (List Kd)}{kd:Kd}{op:BinOp}{a b:ET I.C}(h0:binE fk kd op a b q g K=some r0):AnyR q K r0:=by
 unfold binE at h0;split at h0
 ·exact aY (zl h0).2
 ·exact zAC h0
 ·split at h0<;>first|(cases h0;done)|exact any_ok h0 rfl
 ·split at h0<;>first|(cases h0;done)|(obtain⟨_,_,h1⟩:=zk h0;exact any_ok h1 rfl)
 ·split at h0<;>first|(cases h0;done)|exact any_ok h0 rfl
 ·split at h0<;>first|(cases h0;done)|exact any_ok h0 rfl
 ·cases h0
theorem zC6{op:UnOp}{a:ET I.C}(h0:unE op a K=some r0):AnyR q K r0:=by unfold unE at h0;split at h0<;>first|(cases h0;done)|exact any_ok h0 rfl
theorem I1{c:Operand}{d a b:EL I.C}(h0:WF c d a b q K=some r0):AnyR q K r0:=by
 unfold WF at h0;split at h0
 ·exact any_ok (zl h0).2 rfl
 ·exact any_ok h0 rfl
 ·cases h0
theorem K8{E:Operand->EL I.C}{t:Nat}{ps:List (Nat×Operand)}(h0:jw T E q t ps K=some r0):AnyR q K r0:=by
 unfold jw at h0;split at h0
 ·cases h0
 ·split at h0
  ·obtain⟨_,_,h1⟩:=zk h0;exact any_ok (zl h1).2 rfl
  ·obtain⟨_,_,h1⟩:=zk h0;exact any_ok (zl h1).2 rfl
  ·cases h0
theorem zkL{E:Operand->EL I.C}{fz:Nat}{n t len:Nat}{ps:List (Nat×Operand)}(h0:kz T E q fz n t len ps K=some r0):AnyR q K r0:=by
 unfold kz at h0;split at h0
 ·split at h0
  ·obtain⟨_,h1⟩:=zl h0;rw[TJ]at h1;obtain⟨_,_,h2⟩:=Ca.1 h1;split at h2
   ·exact any_ok h2 rfl
   ·exact⟨_,h2, .inl rfl⟩
   ·exact⟨_,(zl h2).2, .inl rfl⟩
   ·cases h2
  ·cases h0
 ·cases h0
theorem jZ{i:TI}{a:ET I.C}(h0:Kv i h a q g K=some r0):AnyR q K r0:=by
 unfold Kv at h0;split at h0
 ·split at h0
  ·obtain⟨_,h1⟩:=zl h0;obtain⟨_,_,h2⟩:=zk h1;exact any_ok h2 rfl
  ·obtain⟨_,h1⟩:=PD h0;obtain⟨_,_,h2⟩:=zk h1;exact any_ok h2 rfl
  ·obtain⟨_,_,h1⟩:=zk h0;exact any_ok (QF h1) rfl
  ·cases h0
 ·obtain⟨_,_,h2⟩:=zk h0;exact any_ok h2 rfl
 ·cases h0
theorem A7{i:TI}{a x:ET I.C}(h0:Gw i h a x q K=some r0):AnyR q K r0:=by
 unfold Gw at h0;split at h0
 ·split at h0
  ·exact⟨_,(zl h0).2, .inl rfl⟩
  ·obtain⟨_,_,h1⟩:=Ca.1 h0;obtain⟨_,h2⟩:=zl h1;cases c:x.cells.all EG with
   |true=> rw[c]at h2;obtain⟨_,_,h3⟩:=Ca.1 h2;exact⟨_,h3, .inl rfl⟩
   |false=> rw[c]at h2;exact⟨_,h2, .inl rfl⟩
  ·exact⟨_,(zY (zl h0).2).2, .inl rfl⟩
  ·cases h0
 ·cases h0
theorem zmL{t f:Nat}{x:ET I.C}(h0:bz T h t x f K=some r0):AnyR q K r0:=by
 unfold bz at h0;split at h0
 ·split at h0
  ·split at h0
   ·split at h0
    ·exact any_ok (zl h0).2 rfl
    ·exact any_ok (zl h0).2 rfl
    ·exact any_ok (zl h0).2 rfl
    ·cases h0
   ·exact any_ok (zl h0).2 rfl
   ·cases h0
  ·cases h0
 ·cases h0
theorem U8{t f:Nat}{x:ET I.C}(h0:Nw T t x f K=some r0):AnyR q K r0:=by
 unfold Nw at h0;split at h0
 ·split at h0
  ·split at h0
   ·obtain⟨_,_,h2⟩:=zk h0;exact any_ok h2 rfl
   ·cases h0
  ·cases h0
 ·cases h0
theorem zmO{t:Nat}{x i:ET I.C}(h0:Wz T h t x i q g K=some r0):AnyR q K r0:=by
 unfold Wz at h0;split at h0
 ·split at h0
  ·obtain⟨_,h1⟩:=zl h0;obtain⟨_,h2⟩:=PD h1;exact any_ok h2 rfl
  ·split at h0
   ·exact any_ok (QF (zl h0).2) rfl
   ·exact any_ok (QF (zl h0).2) rfl
   ·cases h0
  ·split at h0
   ·exact any_ok (QF (zl h0).2) rfl
   ·cases h0
  ·cases h0
 ·cases h0
theorem O6{t:Nat}{x i:ET I.C}(h0:Tw T t x i q g K=some r0):AnyR q K r0:=by
 unfold Tw at h0;split at h0
 ·split at h0
  ·obtain⟨_,h2⟩:=PD h0;exact any_ok h2 rfl
  ·split at h0
   ·obtain⟨_,h1⟩:=zl h0;obtain⟨_,h2⟩:=PD h1;exact any_ok h2 rfl
   ·cases h0
  ·cases h0
 ·cases h0
theorem H7{t:Nat}{x:ET I.C}{lo hi mx:Option Int}(h0:Hw T h t x lo hi mx q g K=some r0):AnyR q K r0:=by
 unfold Hw at h0;split at h0
 ·split at h0
  ·exact any_ok (QF h0) rfl
  ·cases h0
 ·obtain⟨_,h1⟩:=zl h0;split at h1
  ·exact any_ok (QF h1) rfl
  ·split at h1
   ·exact any_ok (QF h1) rfl
   ·cases h1
 ·exact any_ok (QF (zl h0).2) rfl
 ·split at h0
  ·exact any_ok (QF (zl h0).2) rfl
  ·cases h0
 ·cases h0
theorem SY{kd:Kd}{x:ET I.C}(h0:lenE kd h x K=some r0):AnyR q K r0:=by
 unfold lenE at h0;split at h0<;>first|exact any_ok h0 rfl|skip
 ·split at h0
  ·exact any_ok h0 rfl
  ·exact any_ok h0 rfl
  ·cases h0
 ·split at h0
  ·exact any_ok h0 rfl
  ·cases h0
 ·cases h0
theorem PU{mx:Bool}{k:IntKind}: ∀(as:List (ET I.C)) (m:Int),Vu mx k K m as=some r0->AnyR q K r0
 |[],m,h0=>any_ok h0 rfl
 | .agg xs::r,m,h0=>by cases h0
 | .c x::r,m,h0=>by cases x<;>first|(cases h0;done)|skip;simp only[Vu]at h0;exact PU r _ (zl h0).2
theorem aS{mx:Bool}{as:List (ET I.C)}(h0:Wt mx as K=some r0):AnyR q K r0:=by
 unfold Wt at h0;split at h0
 ·exact PU _ _ h0
 ·cases h0
theorem V9{n e:Nat}{s:ET I.C}{z:Nat×List (I.C e)×List (EV I.C)×List (I.C e)}(h0:yx T h n e s z K=some r0): ∃res,K res=some r0:=by
 unfold yx at h0;split at h0
 ·exact⟨_,(zY h0).2⟩
 ·split at h0
  ·split at h0
   ·exact⟨_,(zY h0).2⟩
   ·cases h0
  ·cases h0
 ·cases h0
theorem zr9{n ts tx:Nat}{s x:ET I.C}(h0:Ay T h n ts tx s x q K=some r0):AnyR q K r0:=by
 unfold Ay at h0;split at h0
 ·split at h0
  ·obtain⟨res,h1⟩:=V9 (zl h0).2;exact⟨res,h1, .inl rfl⟩
  obtain⟨_,h1⟩:=zl h0;split at h1
  ·split at h1
   ·exact⟨_,(zY (zY h1).2).2, .inl rfl⟩
   ·split at h1
    ·split at h1
     ·exact⟨_,(zY (zY h1).2).2, .inl rfl⟩
     ·cases h1
    ·cases h1
   ·split at h1
    ·exact⟨_,(zY (zY h1).2).2, .inl rfl⟩
    ·cases h1
   ·cases h1
  ·cases h1
 ·cases h0
theorem G5{ts tx:Nat}{s x:ET I.C}(h0:lv T h ts tx s x q K=some r0):AnyR q K r0:=by
 unfold lv at h0;split at h0
 ·obtain⟨_,h1⟩:=zl h0;split at h1
  ·split at h1
   ·split at h1
    ·split at h1
     ·exact⟨_,(zY (zY h1).2).2, .inl rfl⟩
     ·cases h1
    ·cases h1
   ·split at h1
    ·split at h1
     ·exact⟨_,(zY (zY h1).2).2, .inl rfl⟩
     ·cases h1
    ·cases h1
   ·cases h1
  ·cases h1
 ·cases h0
theorem J5{n src dst:Nat}{x:ET I.C}(h0:Xv T h n src dst x q g K=some r0):AnyR q K r0:=by
 unfold Xv at h0;split at h0
 ·split at h0
  ·cases h0
  ·exact any_ok h0 rfl
 ·split at h0
  ·cases h0
  ·exact any_ok h0 rfl
 ·split at h0
  ·exact⟨_,(zY (zl h0).2).2, .inl rfl⟩
  ·cases h0
 ·split at h0
  ·exact⟨_,(zl h0).2, .inl rfl⟩
  ·cases h0
 ·split at h0
  ·obtain⟨_,h1⟩:=zl h0;split at h1
   ·exact any_ok (QF h1) rfl
   ·cases h1
  ·cases h0
 ·cases h0
theorem cZ{n t:Nat}{l c:ET I.C}(h0:Jv T n t l c q K=some r0):AnyR q K r0:=by
 unfold Jv at h0;split at h0
 ·obtain⟨_,h1⟩:=zl h0;obtain⟨_,h2⟩:=zY h1;obtain⟨_,_,h3⟩:=Ca.1 h2;exact⟨_,h3, .inl rfl⟩
 ·cases h0
theorem zsH{t:TypeId}{m k x:ET I.C}(h0:Rx T h t m k x q K=some r0):AnyR q K r0:=by
 unfold Rx at h0;split at h0
 case h_2=>cases h0
 split at h0
 ·exact⟨_,(zl h0).2, .inl rfl⟩
 ·cases h0
theorem zsO{t:TypeId}{m k:ET I.C}{ok:Bool}(h0:Yx T h t m k ok q K=some r0):AnyR q K r0:=by
 unfold Yx at h0;split at h0
 case h_2=>cases h0
 split at h0
 ·exact any_ok (zl h0).2 rfl
 ·cases h0
theorem zo0{x:ET I.C}(h0:ny h x K=some r0):AnyR q K r0:=by
 unfold ny at h0;split at h0
 ·split at h0
  ·exact any_ok h0 rfl
  ·exact any_ok h0 rfl
  ·exact any_ok h0 rfl
  ·cases h0
 ·exact any_ok h0 rfl
 ·exact any_ok h0 rfl
 ·cases h0
theorem R3{con:Con I}{n:Nat}{x:(con.inS.sl I).T}{m:Mp}(h0:UA con h n x m q g K=some r0)(c:q=[]\/g=false):AnyR q K r0:=by
 unfold UA at h0;split at h0
 case h_2=>cases h0
 split at h0
 ·obtain⟨_,_,h1⟩:=Ca.1 h0;exact⟨_,h1, .inl rfl⟩
 ·rename_i p ho d f;obtain⟨_,h1⟩:=zl h0;obtain⟨y,_,h2⟩:=Ca.1 h1;refine⟨_,h2, .inr ?_⟩;simp only[oh,d,f,Ab,ic,List.map_eq_nil_iff];have i: ∀(s:StSh) (y:(s.sl I).T),s.objs=[]->((s.sl I).enc y).2=[]:=by intro s y j;obtain⟨vals,objs⟩:=s;simp only at j;subst j;revert y;unfold StSh.sl;cases (vlOf I vals).u<;>intro y<;>rfl
  exact i _ y ho
 ·rcases c with c|c
  ·simp_all
  ·subst c;exact any_ok h0 rfl
theorem yI{n f:Nat}{as:List (ET I.C)}(c:q=[]\/g=false): ∀{S:List (Con I)},wm h n f as q g K S=some r0->AnyR q K r0
 |[],h0=>by cases h0
 |con::r,h0=>by
  simp only[wm]at h0;cases hb:Nat.beq con.f f with
  |false=>rw[hb]at h0;exact yI c h0
  |true=>
   rw[hb]at h0;simp only[Ka]at h0;split at h0
   ·exact R3 h0 c
   ·exact yI c h0
theorem zCE{X:Cx I}{S:List (Con I)}{fz:Nat}{st:ES I.C}{op:Op}(d:q=[]\/g=false)(h0:opE X S fz st q g op K=some r0):AnyR q K r0:=by
 cases op<;>simp only[opE]at h0<;>(try (cases h0;done))
 case move x=>obtain⟨_,_,h1⟩:=zk h0;exact any_ok h1 rfl
 case assign x=>obtain⟨_,_,h1⟩:=zk h0;exact any_ok h1 rfl
 case pick=>exact I1 h0
 case alloc=>
  split at h0
  ·exact⟨_,(zl h0).2, .inl rfl⟩
  ·cases h0
 case box=>
  split at h0
  ·obtain⟨_,_,h1⟩:=zk h0;exact⟨_,(zl h1).2, .inl rfl⟩
  ·cases h0
 case build=>exact K8 h0
 case buildSlice=>exact zkL h0
 case load=>obtain⟨_,_,h1⟩:=zk h0;exact jZ h1
 case store=>obtain⟨_,_,h1⟩:=zk h0;obtain⟨_,_,h2⟩:=zk h1;exact A7 h2
 case nilCheck=>obtain⟨_,_,h1⟩:=zk h0;exact zo0 h1
 case binOp=>obtain⟨_,_,h1⟩:=zk h0;obtain⟨_,_,h2⟩:=zk h1;exact JY h2
 case unOp=>obtain⟨_,_,h1⟩:=zk h0;exact zC6 h1
 case convert=>obtain⟨_,_,h1⟩:=zk h0;exact J5 h1
 case makeFunc fn first caps=>
  cases fn<;>simp only[opE]at h0<;>(try (cases h0;done));split at h0
  ·obtain⟨_,_,h1⟩:=zk h0;exact any_ok h1 rfl
  ·cases h0
 case makeMap t r=>
  cases r with
  |some _=>simp only at h0;cases h0
  |none=>
   simp only at h0;split at h0
   ·split at h0
    ·exact⟨_,h0, .inl rfl⟩
    ·cases h0
   ·cases h0
 case insert=>obtain⟨_,_,h1⟩:=zk h0;obtain⟨_,_,h2⟩:=zk h1;obtain⟨_,_,h3⟩:=zk h2;exact zsH h3
 case lookup=>obtain⟨_,_,h1⟩:=zk h0;obtain⟨_,_,h2⟩:=zk h1;exact zsO h2
 case makeSlice=>obtain⟨_,_,h1⟩:=zk h0;obtain⟨_,_,h2⟩:=zk h1;exact cZ h2
 case slice=>obtain⟨_,_,h1⟩:=zk h0;obtain⟨_,_,h2⟩:=zk h1;obtain⟨_,_,h3⟩:=zk h2;obtain⟨_,_,h4⟩:=zk h3;exact H7 h4
 case fieldAddr=>obtain⟨_,_,h1⟩:=zk h0;exact zmL h1
 case field=>obtain⟨_,_,h1⟩:=zk h0;exact U8 h1
 case indexAddr=>obtain⟨_,_,h1⟩:=zk h0;obtain⟨_,_,h2⟩:=zk h1;exact zmO h2
 case index=>obtain⟨_,_,h1⟩:=zk h0;obtain⟨_,_,h2⟩:=zk h1;exact O6 h2
 case extract=>
  split at h0
  ·obtain⟨_,_,h1⟩:=zk h0;exact any_ok h1 rfl
  ·cases h0
 case call c=>
  split at h0
  ·obtain⟨_,_,h1⟩:=zk h0;obtain⟨_,_,h2⟩:=zk h1;exact yI d h2
  ·split at h0
   ·obtain⟨_,_,h1⟩:=zk h0;exact SY h1
   ·cases h0
  ·split at h0
   ·obtain⟨_,_,h1⟩:=zk h0;obtain⟨_,_,h2⟩:=zk h1;exact zr9 h2
   ·cases h0
  ·split at h0
   ·obtain⟨_,_,h1⟩:=zk h0;obtain⟨_,_,h2⟩:=zk h1;exact G5 h2
   ·cases h0
  ·obtain⟨_,_,h1⟩:=zk h0;exact aS h1
  ·obtain⟨_,_,h1⟩:=zk h0;exact aS h1
  ·cases h0
end
section
variable {P:Program} {nt:Nat} {ops:List Oper}
theorem eP {o:Oper} {s:TS} {g:Option Bool} {val:LV} {up:List (Nat×Option OB)} {rd:List Nat} {k:Nat} (p:qL ops s.e o.guard=some g) (hd: ∀d,o.dst=some d->d<nt)
  (hp:g≠some false->(opR P [] (opd (Zl s.e)) s.get s.next o.op).pre/\
   (∀(ι:Asg) (w:World) (get':Get) v w',(∀j,j<k->get' (s.next+j)=none)->Good ι w get' s.next k (opR P [] (opd (Zl s.e)) s.get s.next o.op).val (opR P [] (opd (Zl s.e)) s.get s.next o.op).up v w'->Good ι w get' s.next k val up v w')/\
   (∀id∈(opR P [] (opd (Zl s.e)) s.get s.next o.op).rd,id∈rd\/id∈up.map (·.1))/\Zr [] (opd (Zl s.e)) o.op<=k):
  OpOK P nt ops o ⟨g,val,up,rd,s.next,k⟩ s:=by
 refine⟨hd,rfl,fun ι a w e' get' N V hN W ha hb u=> ?_⟩;have hop: ∀x∈o.op.operands,opd (Zl e') x=opd (Zl s.e) x:=by
  intro x hx;cases x with
  |a6 t=> simp only[opd,Sq];rw[ha t ?_];simp only[Wi,Gf,Bc,Cc];exact .inl (je.2 ⟨.tmp t,by simpa using hx,rfl⟩)
  |A v=>rfl
  |z g=>rfl
  |Y f=>rfl
 have B:qL ops e' o.guard=qL ops s.e o.guard:=xz fun t ht=>ha t (by
  simp only[Wi,Gf,Bc,Cc]at ht ⊢;exact .inr ht)
 refine⟨fun h=> ?_,fun b h=> ?_,fun h=> ?_⟩
 ·simp only at h;subst h;unfold qL at p;split at p
  ·assumption
  ·split at p
   ·split at p<;>cases p
   ·cases p
 ·simp only at h;subst h;exact Xz W (by rw[B];exact p)
 ·obtain⟨y,J,L,a7⟩:=hp h;have c:Zr [] (opd (Zl e')) o.op=Zr [] (opd (Zl s.e)) o.op:=(fD (P:=P) (F:=[]) (get:=get') (nx:=s.next) o.op hop).2;have m:opR P [] (opd (Zl e')) get' s.next o.op=opR P [] (opd (Zl s.e)) s.get s.next o.op:=by rw[(fD (P:=P) (F:=[]) (get:=get') (nx:=s.next) o.op hop).1];exact xM (Gj.nil P) o.op y (fun id hid=>hb id (L id hid))
  have Z:=dP (Gj.nil P) V hN (Bz W) o (nx:=s.next) (fun i hi=>by rw[c]at hi;exact u i (by simp only;omega)) (by rw[m];exact y);rw[m,c]at Z;have r: ∀j,j<k->get' (s.next+j)=none:=by
   intro j hj;cases O:get' (s.next+j)with
   |none=>rfl
   |some ob=> obtain⟨b,hl,_⟩:=V.live _ _ O;have:=u j hj;rw[a3]at hl;cases hl
  have mono: ∀v w',Good ι w get' s.next (Zr [] (opd (Zl s.e)) o.op) (opR P [] (opd (Zl s.e)) s.get s.next o.op).val (opR P [] (opd (Zl s.e)) s.get s.next o.op).up v w'->Good ι w get' s.next k val up v w':=by intro v w' ⟨ι',g1,g2,g3,g4⟩;exact J ι w get' v w' r ⟨ι',g1,g2,g3,fun id hf a5=>g4 id hf (by omega)⟩
  rcases Z with⟨v,w',h1,h2⟩|⟨w',h1,h2⟩|⟨f,vs,h1,h2⟩
  ·exact .inl ⟨v,w',h1,mono _ _ h2⟩
  ·exact .inr (.inl ⟨w',h1,mono _ _ h2⟩)
  ·exact .inr (.inr ⟨f,vs,h1,h2.mono fun e w' ⟨v,he,U⟩=>⟨v,he,mono _ _ U⟩⟩)
theorem zpg {o:Oper} {s:TS} {g:Option Bool} {c:Call} {cf:Operand} {f:FuncId} {caps:List (Nat×Nat×Nat)} {as:List TV} {rd:List (Nat×OB)} {k:Nat} {val:LV} {up:List (Nat×Option OB)}
  (r:qL ops s.e o.guard=some g) (hd: ∀d,o.dst=some d->d<nt) (ho:o.op= .call c) (hc:c.callee= .value cf) (L:opd (Zl s.e) cf= .v (.c (.clo f caps)))
  (z:allT (c.args.toList.map (opd (Zl s.e)))=some (true,as)) (i:zdf P f (as++caps.map capT) rd s.next k val up) (O: ∀p∈rd,s.get p.1=some p.2):
  OpOK P nt ops o ⟨g,val,up,rd.map (·.1),s.next,k⟩ s:=by
 refine⟨hd,rfl,fun ι a w e' get' N hR hN hE ha hb U=> ?_⟩;have hop: ∀x∈o.op.operands,opd (Zl e') x=opd (Zl s.e) x:=by
  intro x V;cases x with
  |a5 t=> simp only[opd,Sq];rw[ha t ?_];simp only[Wi,Gf,Bc,Cc];exact .inl (je.2 ⟨.tmp t,by simpa using V,rfl⟩)
  |W v=>rfl
  |J g=>rfl
  |a3 f=>rfl
 have Y:qL ops e' o.guard=qL ops s.e o.guard:=xz fun t ht=>ha t (by
  simp only[Wi,Gf,Bc,Cc]at ht ⊢;exact .inr ht)
 refine⟨fun h=> ?_,fun b h=> ?_,fun h=> ?_⟩
 ·simp only at h;subst h;unfold qL at r;split at r
  ·assumption
  ·split at r
   ·split at r<;>cases r
   ·cases r
 ·simp only at h;subst h;exact Xz hE (by rw[Y];exact r)
 ·have A:=Bz hE;have B:opd (Zl e') cf=opd (Zl s.e) cf:=hop cf (by simp[ho,Op.operands,Call.operands,hc]);have m:c.args.toList.map (opd (Zl e'))=c.args.toList.map (opd (Zl s.e)):=Ya fun x V=>hop x (by
   simp only[ho,Op.operands,Call.operands,hc,Array.mem_append];exact .inr (by simpa using V))
  have hv:repT ι w (.c (.clo f caps)) (a.eval cf):=by have hr:=zR A cf;rw[B,L]at hr;exact hr
  obtain⟨vs,Z,y⟩:=xI hv;obtain⟨a1,a2⟩:=TD A _ _ _ (by rw[m];exact z) rfl;obtain⟨fn,f1,f2,f3⟩:=i.fn;refine .inr (.inr ⟨f,c.args.map a.eval++vs,?_,i.ok ι get' w N _ hR hN U (yJ ⟨by simp[a1],fun j t hj=> ?_⟩ y) (fun p hp=> ?_)⟩)
  ·simp only[execOp,ho,resolve,hc,Z,Deferred.ofValue,Sem.run_bind,Sem.run_pure,Result.andThen_ok,invoke,Array.empty_append];exact lH f1 f2 f3
  ·obtain⟨u,h1,h2⟩:=a2 j t hj;refine⟨u,?_,h2⟩;rw[<-h1,<-Fe,mg]
  ·rw[hb p.1 (.inl (Oa.2 ⟨p,hp,rfl⟩))];exact O p hp
end
section
variable {P:Program} {I:Ip} {X:Cx I} {ρ:Nat->Nat} {G:Get} {st:ES I.C} {e:Env} {lh:LH} {q:Path} {R:Type} {r0:R} {K:Kt I R}
def RR(P:Program)(ρ:Nat->Nat)(X:Cx I)(st:ES I.C)(e:Env)(lh:LH)(op:Op)(res:OR I.C):Prop:=
 zob P ρ (lkO X st) (lkE X st) lh.get lh.next res.k (opR P [] (opd (Zl e)) lh.get lh.next op) res/\Zr [] (opd (Zl e)) op<=res.k
theorem og{op:Op}{res:OR I.C}{r:Res}(c:opR P [] (opd (Zl e)) lh.get lh.next op=r)(hn:Zr [] (opd (Zl e)) op<=res.k)(h:RRel P ρ (lkO X st) (lkE X st) r res):RR P ρ X st e lh op res:=
 ⟨by rw[c];exact h.w,hn⟩
theorem Jw{op:Op}{res:OR I.C}{r:Res}{k:Nat}(c:opR P [] (opd (Zl e)) lh.get lh.next op=r)(hk:res.k=k)(hn:Zr [] (opd (Zl e)) op<=k)(h:zob P ρ (lkO X st) (lkE X st) lh.get lh.next k r res):RR P ρ X st e lh op res:=by subst hk;exact⟨by rw[c];exact h,hn⟩
theorem sH{h:Nat->Option (EO I.C)}{c:Operand->EL I.C}{d:Operand->LV}(f: ∀x t,useE q (c x)=some t->d x= .v (trT ρ h t)): ∀(xs:List Operand) (as:List (ET I.C)),allE q (xs.map c)=some as->xs.map d=as.map fun t=> .v (trT ρ h t)
 |[],as,h0=>by cases h0;rfl
 |x::r,as,h0=>by
  simp only[aa,allE]at h0;split at h0
  ·rename_i t l h1 h2;cases h0;simp only[aa,f x t h1,sH f r l h2]
  ·cases h0
theorem zEJ(hI:IpOK P I)(J:TOK P X.T X.fk)(hv:Vw P X ρ G st e lh)(V:q=[]\/qB (lkE X st) q=true){S:List (Con I)}{fz:Nat}{op:Op}(ab: ∀c f,op= .call c->c.callee≠ .value f)(h0:opE X S fz st q (qB (lkE X st) q) op K=some r0):
  ∃res,K res=some r0/\RR P ρ X st e lh op res:=by
 have j: ∀x t,useE q (opdE X st x)=some t->opd (Zl e) x= .v (trT ρ (lkO X st) t):=fun x t hu=>Tt hv V x t hu;have L:ρ st.next=lh.next:=by have:=hv.up st.next (Va _);simpa using O
 have U:lkO X st st.next=none:=by
  cases hl:lkO X st st.next with
  |none=>rfl
  |some o=>exact absurd (hv.wfh _ _ hl).1 (by omega)
 cases op<;>simp only[opE]at h0<;>(try (cases h0;done))
 case move x=>
  obtain⟨v,h1,h2⟩:=zk h0;refine⟨_,h2,og rfl (Pb _) ⟨trivial,?_,upN,by intro id hid;cases hid⟩⟩;split at h1
  ·rename_i ts W;injection h1 with h1;subst h1;exact KH hv x ts W
  ·obtain⟨t,hu,h3⟩:=Lb.1 h1;subst h3;exact j x t hu
 case assign x=>
  obtain⟨v,h1,h2⟩:=zk h0;refine⟨_,h2,og rfl (Pb _) ⟨trivial,?_,upN,by intro id hid;cases hid⟩⟩;split at h1
  ·rename_i ts W;injection h1 with h1;subst h1;exact KH hv x ts W
  ·obtain⟨t,hu,h3⟩:=Lb.1 h1;subst h3;exact j x t hu
 case pick c a b=>
  unfold WF at h0;split at h0
  ·rename_i t x ka ba kb bb ha hb hc;obtain⟨h1,h2⟩:=zl h0;rw[Da]at h1;refine⟨_,h2,og rfl (Pb _) ?_⟩;have a6:=j (.tmp t) _ hc;have hx:Ci (lkE X st) t=x:=by
    simp only[opdE]at hc;cases hl:lkE X st t with
    |none=>rw[hl]at hc;cases hc
    |some y=>
     rw[hl]at hc;simp only at hc;rcases VI V hc with h3|⟨ks,h3,_⟩
     ·cases y with
      |v t0=>
       cases t0 with
       |c z=>
        cases z<;>simp only[nrmL,nrmT,nrmV,EL.v.injEq,ET.c.injEq]at h3<;>first|(cases h3;done)|(split at h3<;>cases h3;done)|skip;rename_i b0;injection h3 with h3;subst h3;simp[Ci,hl]
       |agg zs=>simp[nrmL,nrmT]at h3
      |any=>simp[nrmL]at h3
      |opt ks t0=>simp[nrmL]at h3
      |tup ts=>simp[nrmL]at h3
     ·cases y with
      |opt aq t0=>
       cases t0 with
       |c z=>
        cases z<;>simp only[nrmL,nrmT,nrmV,EL.opt.injEq,ET.c.injEq]at h3<;>first|(cases h3.2;done)|(obtain⟨_,h3⟩:=h3;split at h3<;>cases h3;done)|skip;rename_i b0;obtain⟨_,h3⟩:=h3;injection h3 with h3;subst h3;simp[Ci,hl]
       |agg zs=>simp[nrmL,nrmT]at h3
      |any=>simp[nrmL]at h3
      |v t0=>simp[nrmL]at h3
      |tup ts=>simp[nrmL]at h3
   have Y: ∀w,litB w x=true->qB (lkE X st) ((t,w)::q)=true:=by
    intro w hw;have:qB (lkE X st) q=true:=by
     rcases V with rfl|V
     ·rfl
     ·exact V
    cases q with
    |nil=>simp only[qB,hx,hw]
    |cons c r=>simp only[qB,hx,hw,Vb];exact O
   have hR:Ul (opd (Zl e) (.tmp t)) (opd (Zl e) a) (opd (Zl e) b)=preC ((x=true->qB (lkE X st) ka=true)/\(x=false->qB (lkE X st) kb=true)) (.p (.at (.bool (cond x ba bb)))):=by unfold Ul;rw[a6];simp only[Zj,trT,trV,pvE,isBool,oC hv a ha,oC hv b hb]
   simp only[opR,hR];refine Z8 ⟨fun a7=>aD (Y true (by rw[a7];rfl)) h1.1,fun a7=>aD (Y false (by rw[a7];rfl)) h1.2⟩ rfl rfl rfl
  ·rename_i c c' x0 x1 x2 x ba bb ar ha hb hc;refine⟨_,h0,og rfl (Pb _) ?_⟩;have a6:=j c _ hc;have hR:Ul (opd (Zl e) c) (opd (Zl e) a) (opd (Zl e) b)=preC ((x=true->qB (lkE X st) []=true)/\(x=false->qB (lkE X st) []=true)) (.p (.at (.bool (cond x ba bb)))):=by unfold Ul;rw[a6];simp only[Zj,trT,trV,pvE,isBool,oC hv a ha,oC hv b hb]
   simp only[opR,hR];exact Z8 ⟨fun _=>rfl,fun _=>rfl⟩ rfl rfl rfl
  ·cases h0
 case alloc t=>
  split at h0
  ·obtain⟨h1,h2⟩:=zl h0;refine⟨_,h2,og rfl (Va _) ?_⟩;have:=X7 (P:=P) (ρ:=ρ) (h:=lkO X st) (e:=lkE X st) (n:=st.next) (t:=t) J U h1;rw[L]at O;exact O
  ·cases h0
 case box t x=>
  split at h0
  ·obtain⟨v,h1,h2⟩:=zk h0;obtain⟨h3,h4⟩:=zl h2;rw[Da]at h3;have hl:=Bb h3.1;refine⟨_,h4,?_⟩;have al:v.cells.length=P.cellsOf t:=by rw[hl];exact(Mi J h3.2).1
   have:=zBJ (P:=P) (ρ:=ρ) (h:=lkO X st) (e:=lkE X st) (n:=st.next) (t:=t) (x:=v) U (zD0 hv x v h1) al;rw[L]at O;refine og ?_ (Va _) O;simp only[opR,j x v h1,Zj]
  ·cases h0
 case build t ps=> obtain⟨res,h1,h2⟩:=J8 (P:=P) (e:=lkE X st) J j h0;exact⟨res,h1,og rfl (Pb _) h2⟩
 case buildSlice t len ps=> obtain⟨res,h1,h2,h3⟩:=zkM (P:=P) (e:=lkE X st) (get:=lh.get) hI J j U L h0;exact⟨res,h1,Jw rfl h2 (Va _) h3⟩
 case load t a=> obtain⟨v,h1,h2⟩:=zk h0;obtain⟨hk,res,h3,h4⟩:=iZ (P:=P) (e:=lkE X st) (get:=lh.get) hI hv.heap V h2;refine⟨res,h3,og ?_ (Pb _) h4⟩;rw[Si J hk];simp only[opR,j a v h1,Zj]
 case store t a x=> obtain⟨v,h1,h2⟩:=zk h0;obtain⟨u,h3,h4⟩:=zk h2;obtain⟨_,hk,res,A,Z,B⟩:=u6 (P:=P) (e:=lkE X st) (get:=lh.get) (nx:=lh.next) (kk:=0) hI hv.heap h4;refine⟨res,A,Jw ?_ Z (Pb _) B⟩;rw[Si J hk];simp only[opR,j a v h1,j x u h3,Zj]
 case nilCheck x=> obtain⟨v,h1,h2⟩:=zk h0;obtain⟨res,h3,h4⟩:=zo1 (P:=P) (e:=lkE X st) (get:=lh.get) hv.heap h2;refine⟨res,h3,og ?_ (Pb _) h4⟩;simp only[opR,j x v h1,Zj]
 case binOp op t x y t2=>
  obtain⟨v,h1,h2⟩:=zk h0;obtain⟨u,h3,h4⟩:=zk h2;obtain⟨res,A,B⟩:=IY (P:=P) (ρ:=ρ) (h:=lkO X st) (e:=lkE X st) (fk':=Ll P t) (kd':=kdOf P t) (fun ks am=>J.fk t ks am) (by
   by_cases hb:(X.T.at t).kd= .bad
   ·exact .inl hb
   ·exact .inr (by rw[Si J hb];rfl)) V h4
  refine⟨res,A,og ?_ (Pb _) B⟩;simp only[opR,j x v h1,j y u h3,Zj]
 case unOp op t x=> obtain⟨v,h1,h2⟩:=zk h0;obtain⟨res,h3,h4⟩:=zC7 (P:=P) (ρ:=ρ) (h:=lkO X st) (e:=lkE X st) h2;refine⟨res,h3,og ?_ (Pb _) h4⟩;simp only[opR,j x v h1,Zj]
 case convert s d x=> obtain⟨v,h1,h2⟩:=zk h0;obtain⟨res,h3,an,h4⟩:=I5 (P:=P) (e:=lkE X st) (get:=lh.get) hI J hv.heap U L V h2;refine⟨res,h3,og ?_ (by rw[an];exact Va _) h4⟩;simp only[opR,j x v h1,Zj]
 case makeFunc fn first caps=>
  cases fn<;>simp only[opE]at h0<;>(try (cases h0;done));split at h0
  ·rename_i hf;obtain⟨l,h1,h2⟩:=zk h0;refine⟨_,h2,og rfl (Pb _) ?_⟩;have a5:first= #[]:=by rw[<-Me (xs:=first),hf]
   simp only[opR,a5,Td,xQ (fun x t hx=>j x t (zAU hx)) h1];exact Z8 trivial rfl rfl rfl
  ·cases h0
 case makeMap t r=>
  cases r with
  |some _=>simp only at h0;cases h0
  |none=>
   simp only at h0;split at h0
   ·rename_i kt et hk;split at h0
    ·rename_i kd av;refine⟨_,h0,og rfl (Va _) ⟨trivial,?_,⟨?_,fun p hp=> .inl (by simp at hp;subst hp;exact U)⟩,(by intro id hid;cases hid)⟩⟩
     ·simp only[opR,Wy,trL,trT,trV,L]
     ·simp only[opR,Wy,trU,aa,ic,trO,L];rfl
    ·cases h0
   ·cases h0
 case insert t m k x=> obtain⟨v,h1,h2⟩:=zk h0;obtain⟨u,h3,h4⟩:=zk h2;obtain⟨y,A,B⟩:=zk h4;obtain⟨res,h7,ao,h8⟩:=zsI (P:=P) (e:=lkE X st) (get:=lh.get) (nx:=lh.next) (kk:=0) J hv.heap B;refine⟨res,h7,Jw ?_ ao (Pb _) h8⟩;simp only[opR,j m v h1,j k u h3,j x y A,Zj]
 case lookup t m k ok=> obtain⟨v,h1,h2⟩:=zk h0;obtain⟨u,h3,h4⟩:=zk h2;obtain⟨res,A,B⟩:=r9 (P:=P) (e:=lkE X st) (get:=lh.get) J hv.heap h4;refine⟨res,A,og ?_ (Pb _) B⟩;simp only[opR,j m v h1,j k u h3,Zj]
 case makeSlice t l c=> obtain⟨v,h1,h2⟩:=zk h0;obtain⟨u,h3,h4⟩:=zk h2;obtain⟨res,A,Z,B⟩:=bZ (P:=P) (h:=lkO X st) (e:=lkE X st) (get:=lh.get) hI J U L h4;refine⟨res,A,Jw ?_ Z (Va _) B⟩;simp only[opR,j l v h1,j c u h3,Zj]
 case slice t x lo hi mx=>
  obtain⟨v,h1,h2⟩:=zk h0;obtain⟨ad,h3,h4⟩:=zk h2;obtain⟨a8,A,B⟩:=zk h4;obtain⟨a9,h7,h8⟩:=zk B;obtain⟨res,h9,ap,a3⟩:=G7 (P:=P) (e:=lkE X st) (get:=lh.get) hI J hv.heap V h8;have hb: ∀{y:Option Operand} {n:Option Int},bndE q (opdE X st) y=some n->bndR (opd (Zl e)) y=some (true,n):=by
   intro y n hy;unfold bndE at hy;split at hy
   ·cases hy;rfl
   ·rename_i z;split at hy
    ·rename_i k m hz;cases hy;simp only[bndR,j z _ hz,trT,trV,pvE]
    ·cases hy
  have hop:opR P [] (opd (Zl e)) lh.get lh.next (.slice t x lo hi mx)=(match Mh P lh.get t (trT ρ (lkO X st) v) ad a8 a9 with|⟨q,v,r,u⟩=>⟨(true&&true&&true)=true/\(a9≠none->a8≠none)/\q,v,r,u⟩):=by simp only[opR,j x v h1,Zj,hb h3,hb A,hb h7]
  refine⟨res,h9,og hop (Pb _) ?_⟩;cases hs:Mh P lh.get t (trT ρ (lkO X st) v) ad a8 a9 with
  |mk a b c d=> rw[hs]at a3;exact⟨⟨rfl,ap,a3.pre⟩,a3.val,a3.up,a3.rd⟩
 case fieldAddr t x f=> obtain⟨v,h1,h2⟩:=zk h0;obtain⟨res,h3,h4⟩:=zmM (P:=P) (e:=lkE X st) (get:=lh.get) hI J hv.heap h2;refine⟨res,h3,og ?_ (Pb _) h4⟩;simp only[opR,j x v h1,Zj]
 case field t x f=> obtain⟨v,h1,h2⟩:=zk h0;obtain⟨res,h3,h4⟩:=R8 (P:=P) (ρ:=ρ) (h:=lkO X st) (e:=lkE X st) J h2;refine⟨res,h3,og ?_ (Pb _) h4⟩;simp only[opR,j x v h1,Zj]
 case indexAddr t x i=> obtain⟨v,h1,h2⟩:=zk h0;obtain⟨u,h3,h4⟩:=zk h2;obtain⟨res,A,B⟩:=zmP (P:=P) (e:=lkE X st) (get:=lh.get) hI J hv.heap V h4;refine⟨res,A,og ?_ (Pb _) B⟩;simp only[opR,j x v h1,j i u h3,Zj]
 case index t x i=> obtain⟨v,h1,h2⟩:=zk h0;obtain⟨u,h3,h4⟩:=zk h2;obtain⟨res,A,B⟩:=M6 (P:=P) (ρ:=ρ) (h:=lkO X st) (e:=lkE X st) J V h4;refine⟨res,A,og ?_ (Pb _) B⟩;simp only[opR,j x v h1,j i u h3,Zj]
 case extract x i=>
  split at h0
  ·rename_i ts W;obtain⟨t,h1,h2⟩:=zk h0;refine⟨_,h2,og ?_ (Pb _) (Iw (r:=⟨True, .v (trT ρ (lkO X st) t),[],[]⟩) trivial rfl rfl rfl)⟩;simp only[opR,KH hv x ts W,Ta,h1,Kb]
  ·cases h0
 case call c=>
  obtain⟨callee,args,aw⟩:=c;simp only at h0 ab;cases callee with
  |value f=>exact absurd rfl (ab _ f rfl)
  |invoke r m=>cases h0
  |builtin b=>
   cases b<;>simp only at h0<;>(try (cases h0;done))
   case len=>
    split at h0
    ·rename_i t x ht hx;obtain⟨v,h1,h2⟩:=zk h0;obtain⟨res,h3,h4⟩:=RY (P:=P) (e:=lkE X st) (get:=lh.get) J hv.heap h2;refine⟨res,h3,og ?_ (Pb _) h4⟩;simp only[opR,ht,hx,j x v h1,Zj]
    ·cases h0
   case append=>
    split at h0
    ·rename_i t u s x ht hx;obtain⟨v,h1,h2⟩:=zk h0;obtain⟨v2,h3,h4⟩:=zk h2;obtain⟨_,res,A,Z,B⟩:=W9 (P:=P) (e:=lkE X st) (get:=lh.get) hI J hv.heap U L (fun id o ho=>(hv.wfh id o ho).2) h4;refine⟨res,A,Jw ?_ Z (Va _) B⟩;simp only[opR,ht,hx,j s v h1,j x v2 h3,Zj]
    ·cases h0
   case copy=>
    split at h0
    ·rename_i t u s x ht hx;obtain⟨v,h1,h2⟩:=zk h0;obtain⟨v2,h3,h4⟩:=zk h2;obtain⟨_,res,A,B⟩:=E5 (P:=P) (e:=lkE X st) (get:=lh.get) hI J hv.heap h4;refine⟨res,A,og ?_ (Pb _) B⟩;simp only[opR,ht,hx,j s v h1,j x v2 h3,Zj]
    ·cases h0
   case min=> obtain⟨as,h1,h2⟩:=zk h0;obtain⟨res,A,B⟩:=YS (P:=P) (ρ:=ρ) (h:=lkO X st) (e:=lkE X st) h2;refine⟨res,A,og ?_ (Pb _) B⟩;simp only[opR,sH j _ _ h1]
   case max=> obtain⟨as,h1,h2⟩:=zk h0;obtain⟨res,A,B⟩:=YS (P:=P) (ρ:=ρ) (h:=lkO X st) (e:=lkE X st) h2;refine⟨res,A,og ?_ (Pb _) B⟩;simp only[opR,sH j _ _ h1]
end
def WkZ(Z:Nat->Prop)(x y:CV):Prop:=WkC x y\/ ∃z,Z z/\x= .p (.at (.slice none 0 0))/\y= .osl z 0 0
inductive WkT (Z:Nat->Prop):TV->TV->Prop where
 |c (x y:CV) (h:WkZ Z x y):WkT Z (.c x) (.c y)
 |agg (xs ys:List CV) (hl:ys.length=xs.length) (h: ∀(j:Nat) x y,xs[j]? =some x->ys[j]? =some y->WkZ Z x y):WkT Z (.agg xs) (.agg ys)
theorem WkZ.refl{Z:Nat->Prop}(x:CV):WkZ Z x x:= .inl (.inl rfl)
theorem WkT.refl{Z:Nat->Prop}(t:TV):WkT Z t t:=by
 cases t with
 |c x=>exact .c _ _ (WkZ.refl x)
 |agg xs=>exact .agg _ _ rfl fun j x y h1 h2=>by rw[h1]at h2;cases h2;exact WkZ.refl x
theorem WkZ.rep{Z:Nat->Prop}{ι:Asg}{w:World}{x y:CV}{v:Value}(d: ∀z,Z z-> ∃k,ι z= .live none k)(c:WkZ Z x y)(h:repC ι w x v):repC ι w y v:=by
 rcases c with c|⟨z,f,rfl,rfl⟩
 ·exact XM c h
 ·obtain⟨k,hk⟩:=d z f;cases h;refine⟨by rw[hk];simp,fun b k' hb=> .inl ?_⟩;rw[hk]at hb;cases hb;exact⟨rfl,rfl,rfl⟩
theorem WkT.rep{Z:Nat->Prop}{ι:Asg}{w:World}{x y:TV}{v:Value}(i: ∀z,Z z-> ∃k,ι z= .live none k)(d:WkT Z x y)(h:repT ι w x v):repT ι w y v:=by
 cases d with
 |c x y d=>exact⟨h.1,d.rep i h.2⟩
 |agg xs ys hl hc=>
  obtain⟨vs,h1,h2,h3⟩:=h;refine⟨vs,h1,by rw[h2,hl],fun j y m=> ?_⟩;have f:j<xs.length:=by rw[<-hl];exact(Fa.1 m).1
  have p:xs[j]? =some xs[j]:=Ma f;obtain⟨u,a1,a2,r⟩:=h3 j _ p;exact⟨u,a1,a2,(hc j _ y p m).rep i r⟩
section
variable {I:Ip}
def InjM(m:Mp):Prop:= ∀i j a,lk m i=some (some a)->lk m j=some (some a)->i=j
def SubM(m m':Mp):Prop:= ∀i b,lk m i=some b->lk m' i=some b
theorem SubM.refl(m:Mp):SubM m m:=fun _ _ h=>h
theorem SubM.trans{a b c:Mp}(h:SubM a b)(g:SubM b c):SubM a c:=fun i x d=>g i x (h i x d)
theorem Zk{α:Type}(j:Nat)(x:α)(r:List (Nat×α))(i:Nat):lk ((j,x)::r) i=if i=j then some x else lk r i:=by
 simp only[lk];by_cases hi:i=j
 ·subst hi;rw[La rfl,Yf];rfl
 ·rw[Ha hi];have:Nat.beq i j=false:=by
   cases hb:Nat.beq i j with
   |false=>rfl
   |true=>exact absurd (Bb hb) hi
  rw[c];rfl
theorem Zg{α:Type}: ∀{l:List (Nat×α)} {i:Nat} {x:α},lk l i=some x->(i,x)∈l
 |[],i,x,h=>by cases h
 |(j,y)::r,i,x,h=>by
  rw[Zk]at h;split at h
  ·rename_i hi;subst hi;cases h;exact Jb ..
  ·exact Eb _ (Zg h)
theorem UI: ∀{m:Mp} {i a:Nat},(i,some a)∈m->Ko m a=true
 |[],i,a,h=>by cases h
 |(j,some b)::r,i,a,h=>by
  simp only[Ko];rcases ma.1 h with h|h
  ·cases h;rw[Yf];rfl
  ·rw[UI h];cases Nat.beq a b<;>rfl
 |(j,none)::r,i,a,h=>by
  simp only[Ko];rcases ma.1 h with h|h
  ·cases h
  ·exact UI h
theorem ND{m m':Mp}{i:Nat}{a:Option Nat}(h:bndM m i a=some m'):SubM m m'/\lk m' i=some a/\(InjM m->InjM m'):=by
 unfold bndM at h;split at h
 ·rename_i b hb;split at h
  ·rename_i a;obtain⟨h1,h2⟩:=zl h;have:=Bb h1;subst d;injection h2 with h2;subst h2;exact⟨SubM.refl _,hb,fun h=>h⟩
  ·cases h
 ·cases h
 ·rename_i hn;have sub: ∀x,SubM m ((i,x)::m):=by
   intro x j b f;rw[Zk];split
   ·rename_i hi;subst hi;rw[hn]at f;cases f
   ·exact f
  have at_: ∀x,lk ((i,x)::m) i=some x:=fun x=>by rw[Zk,La rfl]
  split at h
  ·rename_i a;cases c:Ko m a with
   |true=>rw[c]at h;cases h
   |false=>
    rw[c]at h;injection h with h;subst h;refine⟨sub _,at_ _,fun hi r u b h1 h2=> ?_⟩;have p: ∀j,lk m j≠some (some a):=by intro j f;have:=UI (Zg f);rw[c]at d;cases d
    rw[Zk]at h1 h2;split at h1<;>split at h2
    ·rename_i e1 e2;rw[e1,e2]
    ·rename_i e1 e2;cases h1;exact absurd h2 (p _)
    ·rename_i e1 e2;cases h2;exact absurd h1 (p _)
    ·exact hi r u b h1 h2
  ·injection h with h;subst h;refine⟨sub _,at_ _,fun hi r u b h1 h2=> ?_⟩;rw[Zk]at h1 h2;split at h1<;>split at h2
   ·cases h1
   ·cases h1
   ·cases h2
   ·exact hi r u b h1 h2
def Cmp(ρ ρ':Nat->Nat)(h h':Nat->Option (EO I.C))(Z:Nat->Prop)(m:Mp):Prop:= ∀i x,lk m i=some x->
 match x with
 |some a=>ρ' i=ρ a/\infO h' i=infO h a
 |none=>Z (ρ' i)/\infO h' i=some (.inl 0)
theorem Cmp.sub{ρ ρ':Nat->Nat}{h h':Nat->Option (EO I.C)}{Z:Nat->Prop}{m m':Mp}(c:SubM m m')(hc:Cmp ρ ρ' h h' Z m'):Cmp ρ ρ' h h' Z m:=fun i x d=>hc i x (c i x d)
theorem Sj{ρ:Nat->Nat}{h:Nat->Option (EO I.C)}(id:Nat):trV ρ h (.own id)=(match infO h id with|some (.inr rows)=> .p (.sl rows)|some (.inl n)=> .osl (ρ id) 0 n|none=> .osl (ρ id) 0 0):=by
 simp only[trV,infO];cases h id with
 |none=>rfl
 |some o=>cases o<;>rfl
structure zv5 (P:Program) (s:Shp I):Prop where
 unit:s.u=true-> ∀x y,s.enc x=s.enc y
 mat: ∀a m x m',s.mat a m=some (x,m')->SubM m m'/\(InjM m->InjM m')/\ ∀ρ ρ' h h' Z,Cmp ρ ρ' h h' Z m'->WkT Z (trT ρ h a) (trT ρ' h' (s.enc x))
theorem Cz{P:Program}{x:ET I.C}{mat:ET I.C->Mp->Option Mp}(h: ∀a m m',mat a m=some m'->SubM m m'/\(InjM m->InjM m')/\ ∀ρ ρ' h h' Z,Cmp ρ ρ' h h' Z m'->WkT Z (trT ρ h a) (trT ρ' h' x)):zv5 P (Vj I x mat):=by
 refine⟨fun _ _ _=>rfl,fun a m y m' c=> ?_⟩;simp only[Vj]at c;split at c
 ·rename_i d hm;cases c;exact h a m _ hm
 ·cases c
theorem jT: ∀{l:List Nat} {caps:List (Nat×Nat×Nat)} {m m':Mp},Hm l caps m=some m'->SubM m m'/\(InjM m->InjM m')/\caps.length=l.length/\ ∀(j:Nat) i,l[j]? =some i-> ∃a,caps[j]? =some (a,0,0)/\lk m' i=some (some a)
 |[],[],m,m',h=>by simp only[Hm,Option.some.injEq]at h;subst h;exact⟨SubM.refl _,fun h=>h,rfl,fun j i d=>by simp at d⟩
 |i::r,(a,0,0)::s,m,m',h=>by
  simp only[Hm]at h;split at h
  ·rename_i v hm;obtain⟨b1,b2,p⟩:=ND hm;obtain⟨c1,c2,c3,c4⟩:=jT h;refine⟨b1.trans c1,fun hi=>c2 (p hi),by simp[c3],fun j u d=> ?_⟩;cases j with
   |zero=>simp at d;subst d;exact⟨a,rfl,c1 _ _ b2⟩
   |f j=>simpa using c4 j u (by simpa using d)
  ·cases h
 |i::r,(a,0,n+1)::s,m,m',h=>by simp[Hm]at h
 |i::r,(a,n+1,c)::s,m,m',h=>by simp[Hm]at h
 |[],_::_,m,m',h=>by simp[Hm]at h
 |_::_,[],m,m',h=>by simp[Hm]at h
theorem zDD{P:Program}(hI:IpOK P I){ρ:Nat->Nat}{h:Nat->Option (EO I.C)}(t:Nat)(x:I.C t):(I.exp t x).map (trV ρ h)=(I.full t x).map CV.p:=(JC hI t x).symm
theorem pW{P:Program}(hI:IpOK P I){ρ ρ':Nat->Nat}{h h':Nat->Option (EO I.C)}{Z:Nat->Prop}{t:Nat}{cs:List (EV I.C)}{x:I.C t}(h1:I.made t cs=some x):WkT Z (trT ρ h (.agg cs)) (trT ρ' h' (.agg (I.exp t x))):=by
 refine .agg _ _ ?_ fun j a b ha hb=> ?_
 ·rw[Ra,Ra];have:=(hI.made t cs x h1).2.1;rw[hI.exp,Ra]at c;exact c.symm
 ·rw[zDD hI]at hb;exact .inl (Wx hI h1 j a b ha hb)
theorem zC1{P:Program}(hI:IpOK P I): ∀s:Sh,zv5 P (s.shp I)
 | .int k=>⟨fun h=>(by cases h),fun a m x m' d=>by
   simp only[Sh.shp]at d;split at d
   ·obtain⟨h1,h2⟩:=zl d;have:=Bq h1;subst p;cases h2;exact⟨SubM.refl _,fun h=>h,fun ρ ρ' h h' Z _=>WkT.refl _⟩
   ·cases d⟩
 | .bool=>⟨fun h=>(by cases h),fun a m x m' d=>by
   simp only[Sh.shp]at d;split at d
   ·cases d;exact⟨SubM.refl _,fun h=>h,fun ρ ρ' h h' Z _=>WkT.refl _⟩
   ·cases d⟩
 | .str=>⟨fun h=>(by cases h),fun a m x m' d=>by
   simp only[Sh.shp]at d;split at d
   ·cases d;exact⟨SubM.refl _,fun h=>h,fun ρ ρ' h h' Z _=>WkT.refl _⟩
   ·cases d⟩
 | .sl t=>⟨fun h=>(by cases h),fun a m x m' d=>by
   simp only[Sh.shp]at d;split at d
   ·split at d
    ·rename_i l hc;obtain⟨rfl,u⟩:=ZC hc;cases u;cases d;exact⟨SubM.refl _,fun h=>h,fun ρ ρ' h h' Z _=>WkT.refl _⟩
    ·cases d
   ·cases d;exact⟨SubM.refl _,fun h=>h,fun ρ ρ' h h' Z _=> .c _ _ (.inl (.inr ⟨_,_,rfl,rfl, .nil⟩))⟩
   ·cases d⟩
 | .val t=>⟨fun h=>(by cases h),fun a m x m' d=>by
   simp only[Sh.shp]at d;split at d
   ·rename_i cs;obtain⟨y,h1,h2⟩:=Ca.1 d;cases h2;refine⟨SubM.refl _,fun h=>h,fun ρ ρ' h h' Z _=> ?_⟩;exact pW hI h1
   ·cases d⟩
 | .ptr t=>⟨fun h=>(by cases h),fun a m x m' d=>by
   simp only[Sh.shp]at d;split at d
   ·split at d
    ·rename_i y hc;obtain⟨rfl,u⟩:=K3 hc;cases u;cases d;exact⟨SubM.refl _,fun h=>h,fun ρ ρ' h h' Z _=>WkT.refl _⟩
    ·cases d
   ·cases d⟩
 | .nilp=>Cz fun a m m' d=>by
   split at d
   ·cases d;exact⟨SubM.refl _,fun h=>h,fun ρ ρ' h h' Z _=>WkT.refl _⟩
   ·cases d
 | .nilv=>Cz fun a m m' d=>by
   split at d
   ·cases d;exact⟨SubM.refl _,fun h=>h,fun ρ ρ' h h' Z _=>WkT.refl _⟩
   ·cases d
 | .own i=>Cz fun a m m' d=>by
   split at d
   ·rename_i b;obtain⟨b1,b2,r⟩:=ND d;refine⟨b1,r,fun ρ ρ' h h' Z hc=> ?_⟩;obtain⟨c1,c2⟩:=hc i _ b2;simp only[trT];rw[Sj,Sj,c1,c2];exact WkT.refl _
   ·obtain⟨b1,b2,r⟩:=ND d;refine⟨b1,r,fun ρ ρ' h h' Z hc=> ?_⟩;obtain⟨c1,c2⟩:=hc i _ b2;simp only[trT];rw[Sj,c2];exact .c _ _ (.inr ⟨_,c1,rfl,rfl⟩)
   ·cases d
 | .optr i=>Cz fun a m m' d=>by
   split at d
   ·rename_i b;obtain⟨b1,b2,r⟩:=ND d;refine⟨b1,r,fun ρ ρ' h h' Z hc=> ?_⟩;obtain⟨c1,c2⟩:=hc i _ b2;simp only[trT,trV,c1];exact WkT.refl _
   ·cases d
 | .clo f caps=>Cz fun a m m' d=>by
   split at d
   ·rename_i g l;obtain⟨h1,h2⟩:=zl d;have:=Bb h1;subst p;obtain⟨b1,b2,r,b4⟩:=jT h2;refine⟨b1,b2,fun ρ ρ' h h' Z hc=> ?_⟩;have:l.map (fun q=>(ρ q.1,q.2))=(caps.map fun i=>(i,0,0)).map fun q:Nat×Nat×Nat=>(ρ' q.1,q.2):=by
     apply Yi;intro j;simp only[Ta];cases v:caps[j]? with
     |none=>
      have:l[j]? =none:=by rw[List.getElem?_eq_none_iff]at v ⊢;omega
      rw[p];rfl
     |some i=> obtain⟨a,e1,e2⟩:=b4 j i v;rw[e1];simp only[Kb,(hc i _ e2).1]
    simp only[trT,trV,p];exact WkT.refl _
   ·cases d
structure zmG (P:Program) (s:VL I):Prop where
 unit:s.u=true-> ∀x y,s.enc x=s.enc y
 mat: ∀l m x m',s.mat l m=some (x,m')->SubM m m'/\(InjM m->InjM m')/\(s.enc x).length=l.length/\ ∀ρ ρ' h h' Z,Cmp ρ ρ' h h' Z m'-> ∀(j:Nat) a b,l[j]? =some a->(s.enc x)[j]? =some b->WkT Z (trT ρ h a) (trT ρ' h' b)
theorem zmG.nil(P:Program):zmG P (VL.nil I):=by
 refine⟨fun _ _ _=>rfl,fun l m x m' c=> ?_⟩;simp only[VL.nil]at c;split at c
 ·cases c;exact⟨SubM.refl _,fun h=>h,rfl,fun ρ ρ' h h' Z _ j a b ha=>by simp at ha⟩
 ·cases c
theorem zmG.cons{P:Program}{s:Shp I}{r:VL I}(A:zv5 P s)(hr:zmG P r):zmG P (VL.cons s r):=by
 have d: ∀(l:List (ET I.C)) (m:Mp) (x:s.T) (y:r.T) (i m':Mp) (a:ET I.C),s.mat a m=some (x,i)->r.mat l i=some (y,m')->SubM m m'/\(InjM m->InjM m')/\(s.enc x::r.enc y).length=(a::l).length/\
   ∀ρ ρ' h h' Z,Cmp ρ ρ' h h' Z m'-> ∀(j:Nat) u b,(a::l)[j]? =some u->(s.enc x::r.enc y)[j]? =some b->WkT Z (trT ρ h u) (trT ρ' h' b):=by
  intro l m x y i m' a h1 h2;obtain⟨L,O,U⟩:=A.mat a m x i h1;obtain⟨r1,r2,r3,V⟩:=hr.mat l i y m' h2;refine⟨L.trans r1,fun hi=>r2 (O hi),by simp[r3],fun ρ ρ' h h' Z hc j u b ha hb=> ?_⟩;cases j with
  |zero=>simp at ha hb;subst ha;subst hb;exact U ρ ρ' h h' Z (hc.sub r1)
  |B j=>exact V ρ ρ' h h' Z hc j u b (by simpa using ha) (by simpa using hb)
 unfold VL.cons;split
 ·rename_i hu;refine⟨fun h x y=>congrArg (s.enc s.dflt:: ·) (hr.unit h x y),fun l m x m' c=> ?_⟩;simp only at c;split at c
  ·cases c
  ·rename_i a l;obtain⟨p,h1,h2⟩:=Ca.1 c;obtain⟨v,i⟩:=p;have:=d l m v x i m' a h1 h2;rw[A.unit hu v s.dflt]at f;exact f
 ·rename_i W z;refine⟨fun h=>(by cases h),fun l m x m' c=> ?_⟩;simp only at c;split at c
  ·cases c
  ·rename_i a l;obtain⟨p,h1,h2⟩:=Ca.1 c;obtain⟨p2,h3,h4⟩:=Ca.1 h2;cases h4;obtain⟨v,i⟩:=p;obtain⟨J,Y⟩:=p2;have:=d l m v J i Y a h1 h3;rw[hr.unit z J r.dflt]at f;exact f
 ·refine⟨fun h=>(by cases h),fun l m x m' c=> ?_⟩;simp only at c;split at c
  ·cases c
  ·rename_i a l;obtain⟨p,h1,h2⟩:=Ca.1 c;obtain⟨p2,h3,h4⟩:=Ca.1 h2;cases h4;exact d l m _ _ _ _ a h1 h3
theorem Mw{P:Program}(hI:IpOK P I): ∀l:List Sh,zmG P (vlOf I l)
 |[]=>zmG.nil P
 |s::r=>zmG.cons (zC1 hI s) (Mw hI r)
end
structure WkOZ (Z:Nat->Prop) (o o2:OB):Prop where
 ty:o2.ty=o.ty
 k:o2.k=o.k
 len:o2.rows.length=o.rows.length
 row: ∀(i:Nat) row row2,o.rows[i]? =some row->o2.rows[i]? =some row2->row2.length=row.length/\ ∀(j:Nat) x y,row[j]? =some x->row2[j]? =some y->WkZ Z x y
 raw:o2.raw=o.raw
theorem WkOZ.refl{Z:Nat->Prop}(o:OB):WkOZ Z o o:=⟨rfl,rfl,rfl,fun i row row2 h1 h2=>by
 rw[h1]at h2;cases h2;exact⟨rfl,fun j x y h3 h4=>by rw[h3]at h4;cases h4;exact WkZ.refl x⟩,rfl⟩
theorem Holds.wkZ{Z:Nat->Prop}{ι:Asg}{w:World}{o o2:OB}{b:Option Nat}(B: ∀z,Z z-> ∃k,ι z= .live none k)(c:WkOZ Z o o2)(h:Holds ι w o b):Holds ι w o2 b:=by
 obtain⟨h1,h2⟩:=h;have rowAt: ∀(i:Nat) (row2:List CV),o2.rows[i]? =some row2-> ∃row,o.rows[i]? =some row:=by intro i row2 hi;have:=(Fa.1 hi).1;exact⟨_,Ma (by rw[<-c.len];exact r)⟩
 refine⟨fun row2 hr=> ?_,?_⟩
 ·obtain⟨i,hi,rfl⟩:=Oh hr;have d:o2.rows[i]? =some o2.rows[i]:=Ma hi;obtain⟨row,hrow⟩:=rowAt i _ d;rw[(c.row i row _ hrow d).1,c.k];exact h1 row (Ua hrow)
 ·rcases h2 with⟨h0,h2,h3⟩|⟨h0,b',cur,fr,e,h3,h4,f,m⟩|⟨h3,b',J,n,h4,f,m⟩
  ·exact .inl ⟨by rw[c.raw,h0],h2,Xb (by rw[c.len,h3];rfl)⟩
  rotate_left
  ·exact .inr (.inr ⟨Xb (by rw[c.len,h3];rfl),b',J,n,by rw[c.raw,h4],f,m⟩)
  ·refine .inr (.inl ⟨by rw[c.raw,h0],b',cur,fr,e,by rw[c.ty];exact h3,h4,by rw[c.len,c.k];exact f,fun i row2 j y hi u=> ?_⟩);obtain⟨row,hrow⟩:=rowAt i row2 hi;obtain⟨l1,l2⟩:=c.row i row row2 hrow hi;have p:j<row.length:=by rw[<-l1];exact(Fa.1 u).1
   have A:row[j]? =some row[j]:=Ma p;obtain⟨v,a1,a2,L⟩:=m i row j _ hrow A;exact⟨v,by rw[c.k];exact a1,a2,(l2 j _ y A u).rep B L⟩
section
variable {I:Ip} {P:Program}
theorem Zc{h:Nat->Option (EO I.C)}{id:Nat}{o:EO I.C}(ho:h id=some o):infO h id=infE o:=by simp only[infO,ho];cases o<;>rfl
structure zr6 (P:Program) (s:OShp I):Prop where
 unit:s.u=true-> ∀x y,s.enc x=s.enc y
 mat: ∀a m x m',s.mat a m=some (x,m')->SubM m m'/\(InjM m->InjM m')/\
  (∀o,a=some o->infE o=infE (s.enc x)/\ ∀ρ ρ' h h' Z,Cmp ρ ρ' h h' Z m'-> ∃ob ob',trO P ρ h o=some ob/\trO P ρ' h' (s.enc x)=some ob'/\WkOZ Z ob ob')/\
  (a=none-> ∃t,s.enc x= .sl t [])/\(∀t l,a=some (.sl t l)->s.enc x= .sl t l)/\((∀ty cs,a=some (.cells ty cs)-> ∃ty' cs',s.enc x= .cells ty' cs')/\ ∀t l1 cs l2,a=some (.slo t l1 cs l2)-> ∃cs',s.enc x= .slo t l1 cs' l2)
theorem IM{v:VL I}(hv:zmG P v){t:Nat}{l1 l2:List (I.C t)}{cs:List (EV I.C)}{y:v.T}{m m':Mp}(J:v.mat (cs.map .c) m=some (y,m')):
  SubM m m'/\(InjM m->InjM m')/\ ∀ρ ρ' h h' Z,Cmp ρ ρ' h h' Z m'-> ∃ob ob',trO P ρ h (.slo t l1 cs l2)=some ob/\trO P ρ' h' (.slo t l1 ((v.enc y).map (evOf I)) l2)=some ob'/\WkOZ Z ob ob':=by
 obtain⟨L,O,B,U⟩:=hv.mat _ _ _ _ J;refine⟨L,O,fun ρ ρ' h h' Z hc=>⟨_,_,rfl,rfl,?_⟩⟩;rw[Ra]at B;refine⟨rfl,rfl,by simp,fun i row row2 hr f=> ?_,rfl⟩;by_cases hi:i=l1.length
 ·rw[Dx hi]at hr f;cases hr;cases f;refine⟨by simp only[Ra];exact B,fun j a b ha hb=> ?_⟩;simp only[Ta]at ha hb;cases z:cs[j]? with
  |none=>rw[z]at ha;cases ha
  |some c=>
   cases p:(v.enc y)[j]? with
   |none=>rw[p]at hb;cases hb
   |some d=>
    rw[z]at ha;rw[p]at hb;cases ha;cases hb;have:=U ρ ρ' h h' Z hc j (.c c) d (by rw[Ta,z];rfl) p;cases d with
    |c d=>cases u with|c _ _ V=>exact V
    |agg W=>cases u
 ·have r:row2=row:=by
   by_cases A:i<l1.length
   ·rw[Fb (by rw[Ra];exact A)]at hr f;rw[hr]at f;cases f;rfl
   ·obtain⟨k,hk⟩: ∃k,i=l1.length+(k+1):=⟨i - l1.length - 1,by omega⟩;subst hk;rw[Xc (by rw[Ra];omega),Ra]at hr f;have e:l1.length+(k+1) - l1.length=k+1:=by omega
    rw[e]at hr f;rw[Ef]at hr f;rw[hr]at f;cases f;rfl
  subst r;exact⟨rfl,fun j a b ha hb=>by rw[ha]at hb;cases hb;exact WkZ.refl _⟩
theorem u7{v:VL I}(hv:zmG P v)(t:Nat):zr6 P (ll t v):=by
 unfold ll;split
 ·refine⟨fun h=>(by cases h),fun a m x m' c=> ?_⟩;rename_i hu;simp only at c;split at c
  ·rename_i u l1 cs l2;split at c
   ·rename_i k1 k2 d f;obtain⟨rfl,i⟩:=ZC d;cases i;obtain⟨_,i⟩:=ZC f;cases i;obtain⟨⟨y,p⟩,h1,h2⟩:=Ca.1 c;cases h2;obtain⟨r,z,A⟩:=IM hv (l1:=l1) (l2:=l2) h1;refine⟨r,z,fun o ho=> ?_,fun h=>(by cases h),fun t l h=>(by cases h),fun ty cs h=>(by cases h),fun t p cs B h=>(by cases h;exact⟨_,rfl⟩)⟩;cases ho;refine⟨rfl,fun ρ ρ' h h' Z hc=> ?_⟩;have:=A ρ ρ' h h' Z hc;rw[hv.unit hu y v.dflt]at j;exact j
   ·cases c
  ·cases c
 ·refine⟨fun h=>(by cases h),fun a m x m' c=> ?_⟩;simp only at c;split at c
  ·rename_i u l1 cs l2;split at c
   ·rename_i k1 k2 d f;obtain⟨rfl,i⟩:=ZC d;cases i;obtain⟨_,i⟩:=ZC f;cases i;obtain⟨⟨y,p⟩,h1,h2⟩:=Ca.1 c;cases h2;obtain⟨r,z,A⟩:=IM hv (l1:=l1) (l2:=l2) h1;refine⟨r,z,fun o ho=> ?_,fun h=>(by cases h),fun t l h=>(by cases h),fun ty cs h=>(by cases h),fun t p cs B h=>(by cases h;exact⟨_,rfl⟩)⟩;cases ho;exact⟨rfl,fun ρ ρ' h h' Z hc=>A ρ ρ' h h' Z hc⟩
   ·cases c
  ·cases c
theorem zAk(hI:IpOK P I): ∀s:OSh,zr6 P (s.shp I)
 | .slo t shs=>u7 (Mw hI shs) t
 | .sl t=>⟨fun h=>(by cases h),fun a m x m' f=>by
   simp only[OSh.shp]at f;split at f
   ·split at f
    ·rename_i l hc;obtain⟨rfl,Y⟩:=ZC hc;cases Y;cases f;refine⟨SubM.refl _,fun h=>h,fun o ho=> ?_,fun h=>(by cases h),fun t l h=>(by cases h;rfl),fun ty cs h=>(by cases h),fun t L cs O h=>(by cases h)⟩;cases ho;exact⟨rfl,fun ρ ρ' h h' Z _=>⟨_,_,rfl,rfl,WkOZ.refl _⟩⟩
    ·cases f
   ·cases f;exact⟨SubM.refl _,fun h=>h,fun o ho=>(by cases ho),fun _=>⟨t,rfl⟩,fun t l h=>(by cases h),fun ty cs h=>(by cases h),fun t L cs O h=>(by cases h)⟩
   ·cases f⟩
 | .row t=>⟨fun h=>(by cases h),fun a m x m' f=>by
   simp only[OSh.shp]at f;split at f
   ·rename_i ty cs;obtain⟨h1,h2⟩:=zl f;have:=Bb h1;subst p;obtain⟨y,h3,h4⟩:=Ca.1 h2;cases h4;refine⟨SubM.refl _,fun h=>h,fun o ho=> ?_,fun h=>(by cases h),fun t l h=>(by cases h),fun ty cs h=>⟨_,_,rfl⟩,fun t L cs O h=>(by cases h)⟩;cases ho;refine⟨rfl,fun ρ ρ' h h' Z _=>⟨_,_,rfl,rfl,?_⟩⟩;have J:=pW (ρ:=ρ) (ρ':=ρ') (h:=h) (h':=h') (Z:=Z) hI h3;simp only[trT]at J;generalize hA:cs.map (trV ρ h)=A at J;generalize hB:(I.exp ty x).map (trV ρ' h')=B at J;cases J with
    |agg _ _ hl hc=>
     refine⟨rfl,?_,rfl,fun i row row2 hr r=> ?_,rfl⟩
     ·have e1:B.length=(I.exp ty x).length:=by rw[<-hB,Ra]
      have e2:A.length=cs.length:=by rw[<-hA,Ra]
      show(I.exp ty x).length=cs.length;omega
     ·have v:[A][i]? =some row:=hr;have u:[B][i]? =some row2:=r;cases i with
      |zero=>simp at v u;subst v;subst u;exact⟨hl,hc⟩
      |U i=>simp at v
   ·cases f⟩
 | .cells ty shs=>⟨fun h x y=>by
   have:=(Mw hI shs).unit h x y;exact congrArg (fun l=>EO.cells ty (l.map (evOf I))) p,fun a m x m' f=>by
   simp only[OSh.shp]at f;split at f
   ·rename_i ty' cs;obtain⟨h1,h2⟩:=zl f;have:=Bb h1;subst p;obtain⟨L,O,V,m4⟩:=(Mw hI shs).mat _ _ _ _ h2;refine⟨L,O,fun o ho=> ?_,fun h=>(by cases h),fun t l h=>(by cases h),fun ty cs h=>⟨_,_,rfl⟩,fun t L cs O h=>(by cases h)⟩;cases ho;refine⟨rfl,fun ρ ρ' h h' Z hc=>⟨_,_,rfl,rfl,?_⟩⟩;rw[Ra]at V;refine⟨rfl,?_,rfl,fun i row row2 hr r=> ?_,rfl⟩
    ·show(((vlOf I shs).enc x).map (evOf I)).length=cs.length;rw[Ra];exact V
    ·cases i with
     |U i=>simp at hr
     |zero=>
      simp only[De,Option.some.injEq]at hr r;subst hr;subst r;refine⟨by simp only[Ra];exact V,fun j a b ha hb=> ?_⟩;simp only[Ta]at ha hb;cases W:cs[j]? with
      |none=>rw[W]at ha;cases ha
      |some c=>
       cases z:((vlOf I shs).enc x)[j]? with
       |none=>rw[z]at hb;cases hb
       |some d=>
        rw[W]at ha;rw[z]at hb;cases ha;cases hb;have:=m4 ρ ρ' h h' Z hc j (.c c) d (by rw[Ta,W];rfl) z;cases d with
        |c d=>cases p with|c _ _ J=>exact J
        |agg ds=>cases p
   ·cases f⟩
structure OLLaw (P:Program) (ids:List Nat) (s:OL I):Prop where
 unit:s.u=true-> ∀x y,s.enc x=s.enc y
 keys: ∀x,(s.enc x).map (·.1)=ids
 mat: ∀hp m x m',s.mat hp m=some (x,m')->SubM m m'/\(InjM m->InjM m')/\ ∀i o',(i,o')∈s.enc x->
  (∃a o,lk m' i=some (some a)/\hp a=some o/\infE o=infE o'/\(∀t l,o= .sl t l->o'= .sl t l)/\((∀ty cs,o= .cells ty cs-> ∃ty' cs',o'= .cells ty' cs')/\ ∀t l1 cs l2,o= .slo t l1 cs l2-> ∃cs',o'= .slo t l1 cs' l2)/\ ∀ρ ρ' h h' Z,Cmp ρ ρ' h h' Z m'-> ∃ob ob',trO P ρ h o=some ob/\trO P ρ' h' o'=some ob'/\WkOZ Z ob ob')\/
  (lk m' i=some none/\ ∃t,o'= .sl t [])
theorem OLLaw.nil:OLLaw P [] (OL.nil I):=
 ⟨fun _ _ _=>rfl,fun _=>rfl,fun hp m x m' c=>by
  cases c;exact⟨SubM.refl _,fun h=>h,fun i o' hm=>by cases hm⟩⟩
theorem OLLaw.cons{i:Nat}{ids:List Nat}{s:OShp I}{r:OL I}(J:zr6 P s)(hr:OLLaw P ids r):OLLaw P (i::ids) (OL.cons i s r):=by
 have d: ∀(hp:Nat->Option (EO I.C)) (m:Mp) (a:Option (EO I.C)) (x:s.T) (y:r.T) (f m':Mp),Rv hp m i=some a->s.mat a m=some (x,f)->r.mat hp f=some (y,m')->SubM m m'/\(InjM m->InjM m')/\
   ∀j o',(j,o')∈(i,s.enc x)::r.enc y->(∃a o,lk m' j=some (some a)/\hp a=some o/\infE o=infE o'/\(∀t l,o= .sl t l->o'= .sl t l)/\((∀ty cs,o= .cells ty cs-> ∃ty' cs',o'= .cells ty' cs')/\ ∀t l1 cs l2,o= .slo t l1 cs l2-> ∃cs',o'= .slo t l1 cs' l2)/\ ∀ρ ρ' h h' Z,Cmp ρ ρ' h h' Z m'-> ∃ob ob',trO P ρ h o=some ob/\trO P ρ' h' o'=some ob'/\WkOZ Z ob ob')\/(lk m' j=some none/\ ∃t,o'= .sl t []):=by
  intro hp m a x y f m' ha h1 h2;obtain⟨z,O,U,V,W,L⟩:=J.mat a m x f h1;obtain⟨r1,r2,r3⟩:=hr.mat hp f y m' h2;refine⟨z.trans r1,fun hi=>r2 (O hi),fun j o' hm=> ?_⟩;rcases ma.1 hm with hm|hm
  ·cases hm;unfold Rv at ha;split at ha
   ·rename_i b hb;split at ha
    ·rename_i o ho;cases ha;obtain⟨Y,q2⟩:=U o rfl;exact .inl ⟨b,o,r1 _ _ (z _ _ hb),ho,Y,fun t l e=>W t l (congrArg some e),⟨fun ty cs e=>L.1 ty cs (congrArg some e),fun t l1 cs l2 e=>L.2 t l1 cs l2 (congrArg some e)⟩,fun ρ ρ' h h' Z hc=>q2 ρ ρ' h h' Z (hc.sub r1)⟩
    ·cases ha
   ·rename_i hb;cases ha;exact .inr ⟨r1 _ _ (z _ _ hb),V rfl⟩
   ·cases ha
  ·exact r3 j o' hm
 unfold OL.cons;split
 ·rename_i hu;refine⟨fun h x y=>congrArg ((i,s.enc s.dflt):: ·) (hr.unit h x y),fun x=>congrArg (i:: ·) (hr.keys x),fun hp m x m' c=> ?_⟩;simp only at c;split at c
  ·cases c
  ·rename_i a ha;obtain⟨⟨u,f⟩,h1,h2⟩:=Ca.1 c;have:=d hp m a u x f m' ha h1 h2;rw[J.unit hu u s.dflt]at p;exact p
 ·rename_i a3 A;refine⟨fun h=>(by cases h),fun x=>congrArg (i:: ·) (hr.keys r.dflt),fun hp m x m' c=> ?_⟩;simp only at c;split at c
  ·cases c
  ·rename_i a ha;obtain⟨⟨u,f⟩,h1,h2⟩:=Ca.1 c;obtain⟨⟨v,B⟩,h3,h4⟩:=Ca.1 h2;cases h4;have:=d hp m a u v f B ha h1 h3;rw[hr.unit A v r.dflt]at p;exact p
 ·refine⟨fun h=>(by cases h),fun x=>congrArg (i:: ·) (hr.keys x.2),fun hp m x m' c=> ?_⟩;simp only at c;split at c
  ·cases c
  ·rename_i a ha;obtain⟨⟨u,f⟩,h1,h2⟩:=Ca.1 c;obtain⟨⟨v,B⟩,h3,h4⟩:=Ca.1 h2;cases h4;exact d hp m a u v f B ha h1 h3
theorem BX(hI:IpOK P I): ∀l:List (Nat×OSh),OLLaw P (l.map (·.1)) (olOf I l)
 |[]=>OLLaw.nil
 |(i,s)::r=>OLLaw.cons (zAk hI s) (BX hI r)
structure SLLaw (P:Program) (sh:StSh):Prop where
 keys: ∀x,((sh.sl I).enc x).2.map (·.1)=sh.objs.map (·.1)
 mat: ∀l hp m x m',(sh.sl I).mat l hp m=some (x,m')->SubM m m'/\(InjM m->InjM m')/\((sh.sl I).enc x).1.length=l.length/\
  (∀ρ ρ' h h' Z,Cmp ρ ρ' h h' Z m'-> ∀(j:Nat) a b,l[j]? =some a->((sh.sl I).enc x).1[j]? =some b->WkT Z (trT ρ h a) (trT ρ' h' b))/\
  ∀i o',(i,o')∈((sh.sl I).enc x).2->(∃a o,lk m' i=some (some a)/\hp a=some o/\infE o=infE o'/\(∀t l,o= .sl t l->o'= .sl t l)/\((∀ty cs,o= .cells ty cs-> ∃ty' cs',o'= .cells ty' cs')/\ ∀t l1 cs l2,o= .slo t l1 cs l2-> ∃cs',o'= .slo t l1 cs' l2)/\ ∀ρ ρ' h h' Z,Cmp ρ ρ' h h' Z m'-> ∃ob ob',trO P ρ h o=some ob/\trO P ρ' h' o'=some ob'/\WkOZ Z ob ob')\/
   (lk m' i=some none/\ ∃t,o'= .sl t [])
theorem mo(hI:IpOK P I)(sh:StSh):SLLaw (I:=I) P sh:=by
 have A:=Mw hI sh.vals;have hO:=BX hI sh.objs;have c: ∀(l:List (ET I.C)) (hp:Nat->Option (EO I.C)) (m d m':Mp) (x:(vlOf I sh.vals).T) (y:(olOf I sh.objs).T),(vlOf I sh.vals).mat l m=some (x,d)->(olOf I sh.objs).mat hp d=some (y,m')->SubM m m'/\(InjM m->InjM m')/\((vlOf I sh.vals).enc x).length=l.length/\
   (∀ρ ρ' h h' Z,Cmp ρ ρ' h h' Z m'-> ∀(j:Nat) a b,l[j]? =some a->((vlOf I sh.vals).enc x)[j]? =some b->WkT Z (trT ρ h a) (trT ρ' h' b))/\
   ∀i o',(i,o')∈(olOf I sh.objs).enc y->(∃a o,lk m' i=some (some a)/\hp a=some o/\infE o=infE o'/\(∀t l,o= .sl t l->o'= .sl t l)/\((∀ty cs,o= .cells ty cs-> ∃ty' cs',o'= .cells ty' cs')/\ ∀t l1 cs l2,o= .slo t l1 cs l2-> ∃cs',o'= .slo t l1 cs' l2)/\ ∀ρ ρ' h h' Z,Cmp ρ ρ' h h' Z m'-> ∃ob ob',trO P ρ h o=some ob/\trO P ρ' h' o'=some ob'/\WkOZ Z ob ob')\/
    (lk m' i=some none/\ ∃t,o'= .sl t []):=by
  intro l hp m d m' x y h1 h2;obtain⟨v1,v2,B,J⟩:=A.mat l m x d h1;obtain⟨o1,o2,o3⟩:=hO.mat hp d y m' h2;exact⟨v1.trans o1,fun hi=>o2 (v2 hi),B,fun ρ ρ' h h' Z hc=>J ρ ρ' h h' Z (hc.sub o1),o3⟩
 constructor
 ·unfold StSh.sl;split
  ·exact fun x=>hO.keys x
  ·exact fun x=>hO.keys (olOf I sh.objs).dflt
  ·exact fun x=>hO.keys x.2
 ·unfold StSh.sl;split
  ·rename_i hu;intro l hp m x m' r;obtain⟨⟨p,d⟩,h1,h2⟩:=Ca.1 r;have:=c l hp m d m' p x h1 h2;rw[A.unit hu p (vlOf I sh.vals).dflt]at f;exact f
  ·rename_i L v;intro l hp m x m' r;obtain⟨⟨p,d⟩,h1,h2⟩:=Ca.1 r;obtain⟨⟨u,z⟩,h3,h4⟩:=Ca.1 h2;cases h4;have:=c l hp m d z p u h1 h3;rw[hO.unit v u (olOf I sh.objs).dflt]at f;exact f
  ·intro l hp m x m' r;obtain⟨⟨p,d⟩,h1,h2⟩:=Ca.1 r;obtain⟨⟨u,z⟩,h3,h4⟩:=Ca.1 h2;cases h4;exact c l hp m d z p u h1 h3
end
section
variable {P:Program}
theorem zdf.wk {f:FuncId} {args c:List TV} {rd r:List (Nat×OB)} {nx k:Nat} {val:LV} {up y:List (Nat×Option OB)} (h:zdf P f args rd nx k val up)
  (hl:c.length=args.length) (ha: ∀(j:Nat) a b,c[j]? =some a->args[j]? =some b->WkT (fun _=>False) a b)
  (B: ∀get:Get,(∀p∈r,get p.1=some p.2)-> ∃d:Get,(∀p∈rd,d p.1=some p.2)/\(∀id,(get id=none/\d id=none)\/ ∃o o2,get id=some o/\d id=some o2/\WkOZ (fun _=>False) o o2)/\upd d up=upd get y):
  zdf P f c r nx k val y:=by
 refine⟨h.fn,fun ι get w N vs A Y J i hr=> ?_⟩;obtain⟨d,g1,V,Z⟩:=B get hr;have W: ∀z,(fun _:Nat=>False) z-> ∃k,ι z= .live none k:=fun z hz=>hz.elim;have L:Rel ι d w:=by
  refine⟨fun id o2 ho=> ?_,fun id ho=> ?_,A.inj,A.glob⟩
  ·rcases V id with⟨_,h2⟩|⟨o,O,h1,h2,h3⟩
   ·rw[h2]at ho;cases ho
   ·rw[h2]at ho;cases ho;obtain⟨b,k1,k2⟩:=A.live id o h1;exact⟨b,by rw[h3.k];exact k1,k2.wkZ W h3⟩
  ·rcases V id with⟨h1,_⟩|⟨o,O,_,h2,_⟩
   ·exact A.gone id h1
   ·rw[h2]at ho;cases ho
 have m:Ej ι w args vs:=by
  refine⟨by rw[i.1,hl],fun j t ht=> ?_⟩;have U:j<c.length:=by rw[hl];exact(Fa.1 ht).1
  have h0:c[j]? =some c[j]:=Ma U;obtain⟨u,k1,k2⟩:=i.2 j _ h0;exact⟨u,k1,(ha j _ t h0 ht).rep W k2⟩
 refine(h.ok ι d w N vs L Y J m g1).mono fun e w' ⟨v,he,ι',q1,q2,q3,q4⟩=>⟨v,he,ι',?_,q2,q3,q4⟩;rw[<-Z];exact q1
end
section
variable {I:Ip}
def hOut(con:Con I)(a b:EHeap I.C):Nat->Option (EO I.C):=fun id=>match lk b id with
 |some o=>some o
 |none=>match lk a id with
  |some o=>cond (memN id con.cst) (some o) (some (Ri (some o)))
  |none=>none
structure zn (P:Program) (con:Con I):Prop where
 wf:Fj con=true
 ok: ∀x y,con.F x=some y-> ∀(ρ:Nat->Nat) (nx:Nat),(∀i j,i<con.inS.objs.length->j<con.inS.objs.length->ρ i=ρ j->i=j)->(∀i,i<con.inS.objs.length->ρ i<nx\/nx+con.k<=ρ i)->(∀j,ρ (con.inS.objs.length+j)=nx+j)->
  zdf P con.f (((con.inS.sl I).enc x).1.map (trT ρ (lk ((con.inS.sl I).enc x).2))) (((con.inS.sl I).enc x).2.filterMap fun o=>(trO P ρ (lk ((con.inS.sl I).enc x).2) o.2).map fun ob=>(ρ o.1,ob)) nx con.k
   (valOf (((con.outS.sl I).enc y).1.map (trT ρ (hOut con ((con.inS.sl I).enc x).2 ((con.outS.sl I).enc y).2))))
   ((((con.outS.sl I).enc y).2.map fun o=>(ρ o.1,trO P ρ (hOut con ((con.inS.sl I).enc x).2 ((con.outS.sl I).enc y).2) o.2))++
    ((con.inS.objs.filter fun o=> !(memN o.1 con.cst||memN o.1 (con.outS.objs.map (·.1)))).map fun o=>(ρ o.1,none)))
theorem ZG{i:Nat}: ∀{l:List Nat},memN i l=true↔i∈l
 |[]=>by simp[memN]
 |j::r=>by
  simp only[memN,ma];by_cases c:i=j
  ·subst c;simp[Yf]
  ·have:Nat.beq i j=false:=by
    cases hb:Nat.beq i j with
    |false=>rfl
    |true=>exact absurd (Bb hb) c
   rw[d];simp only[Ia,c,false_or];exact ZG
theorem nR{i:Nat}{l:List Nat}(h:memN i l=false):i ∉ l:=fun hm=>by rw[ZG.2 hm]at h;cases h
theorem ut: ∀{a b:List Nat},eqN a b=true->a=b
 |[],[],_=>rfl
 |[],_::_,h=>by cases h
 |_::_,[],h=>by cases h
 |i::r,j::s,h=>by simp only[eqN,Da]at h;rw[Bb h.1,ut h.2]
theorem QD{a b:List Nat}:subN a b=true↔ ∀i∈a,i∈b:=by simp only[subN,Xa,ZG]
theorem zC0{P:Program}(hI:IpOK P I)(s:Sh)(x:(s.shp I).T): ∀i∈Qp ((s.shp I).enc x),i∈Xj s:=by
 have pur: ∀(l:List (EV I.C)),(∀v∈l,Sm v=true)-> ∀i,i ∉ l.flatMap Ze:=by intro l hl i hi;obtain⟨v,hv,hi⟩:=Ub.1 hi;have:=hl v hv;cases v<;>first|(simp[Ze]at hi;done)|(cases c;done)
 cases s<;>intro i hi
 case int=>simp[Sh.shp,Qp,Ze]at hi
 case bool=>simp[Sh.shp,Qp,Ze]at hi
 case str=>simp[Sh.shp,Qp,Ze]at hi
 case sl=>simp[Sh.shp,Qp,Ze]at hi
 case val t=>exact absurd hi (pur _ (hI.pur t x) i)
 case ptr=>simp[Sh.shp,Qp,Ze]at hi
 case nilp=>simp[Sh.shp,Vj,Qp,Ze]at hi
 case nilv=>simp[Sh.shp,Vj,Qp,Ze]at hi
 case own=>simpa [Sh.shp,Vj,Qp,Ze,Xj] using hi
 case optr=>simpa [Sh.shp,Vj,Qp,Ze,Xj] using hi
 case clo f caps=>simpa [Sh.shp,Vj,Qp,Ze,Xj] using hi
theorem Mx{P:Program}(hI:IpOK P I): ∀(l:List Sh) (x:(vlOf I l).T),∀t∈(vlOf I l).enc x,∀i∈Qp t,i∈l.flatMap Xj
 |[],x,t,ht,i,hi=>by cases ht
 |s::r,x,t,ht,i,hi=>by
  have d:=zC0 hI s;have hr:=Mx hI r;have c: ∀(a:(s.shp I).T) (b:(vlOf I r).T),t∈(s.shp I).enc a::(vlOf I r).enc b->i∈(s::r).flatMap Xj:=by
   intro a b hm;rw[List.flatMap_cons];rcases ma.1 hm with hm|hm
   ·subst hm;exact Ae _ (d a i hi)
   ·exact Af _ (hr b t hm i hi)
  revert x;show∀x:(VL.cons (s.shp I) (vlOf I r)).T,t∈(VL.cons (s.shp I) (vlOf I r)).enc x->_;unfold VL.cons;split
  ·exact fun x ht=>c _ _ ht
  ·exact fun x ht=>c _ _ ht
  ·exact fun x ht=>c _ _ ht
theorem FR(t:ET I.C): ∀i∈Ze (evOf I t),i∈Qp t:=by
 cases t with
 |c x=>exact fun i hi=>hi
 |agg xs=>intro i hi;simp[evOf,Ze]at hi
theorem wZ{P:Program}(hI:IpOK P I)(s:OSh)(x:(s.shp I).T): ∀i∈Aj ((s.shp I).enc x),i∈dx s:=by
 cases s with
 |slo t shs=>
  intro i hi;have c: ∀(l:List (ET I.C)),(∀t∈l,∀j∈Qp t,j∈shs.flatMap Xj)->i∈(l.map (evOf I)).flatMap Ze->i∈shs.flatMap Xj:=by intro l hl hi;obtain⟨v,hv,hi⟩:=Ub.1 hi;obtain⟨t,ht,rfl⟩:=Oa.1 hv;exact hl t ht i (FR t i hi)
  revert x;show∀x:(ll t (vlOf I shs)).T,i∈Aj ((ll t (vlOf I shs)).enc x)->_;unfold ll;split
  ·exact fun x hi=>c _ (fun t ht=>Mx hI shs _ t ht) hi
  ·exact fun x hi=>c _ (fun t ht=>Mx hI shs _ t ht) hi
 |sl t=>intro i hi;simp[OSh.shp,Aj]at hi
 |row t=>
  intro i hi;exfalso;obtain⟨v,hv,hi⟩:=Ub.1 (show i∈(I.exp t x).flatMap Ze from hi);have:=hI.pur t x v hv;cases v<;>first|(simp[Ze]at hi;done)|(cases d;done)
 |cells ty shs=> intro i hi;obtain⟨v,hv,hi⟩:=Ub.1 (show i∈(((vlOf I shs).enc x).map (evOf I)).flatMap Ze from hi);obtain⟨t,ht,rfl⟩:=Oa.1 hv;exact Mx hI shs x t ht i (FR t i hi)
theorem yM{P:Program}(hI:IpOK P I): ∀(l:List (Nat×OSh)) (x:(olOf I l).T),∀o∈(olOf I l).enc x,∀i∈Aj o.2,i∈l.flatMap fun o=>dx o.2
 |[],x,t,ht,i,hi=>by cases ht
 |(n,s)::r,x,t,ht,i,hi=>by
  have d:=wZ hI s;have hr:=yM hI r;have c: ∀(a:(s.shp I).T) (b:(olOf I r).T),t∈(n,(s.shp I).enc a)::(olOf I r).enc b->i∈((n,s)::r).flatMap fun o=>dx o.2:=by
   intro a b hm;rw[List.flatMap_cons];rcases ma.1 hm with hm|hm
   ·subst hm;exact Ae _ (d a i hi)
   ·exact Af _ (hr b t hm i hi)
  revert x;show∀x:(OL.cons n (s.shp I) (olOf I r)).T,t∈(OL.cons n (s.shp I) (olOf I r)).enc x->_;unfold OL.cons;split
  ·exact fun x ht=>c _ _ ht
  ·exact fun x ht=>c _ _ ht
  ·exact fun x ht=>c _ _ ht
theorem UB{P:Program}(hI:IpOK P I)(sh:StSh)(x:(sh.sl I).T):(∀t∈((sh.sl I).enc x).1,∀i∈Qp t,i∈sh.vals.flatMap Xj)/\(∀o∈((sh.sl I).enc x).2,∀i∈Aj o.2,i∈sh.objs.flatMap fun o=>dx o.2):=by
 have c:=Mx hI sh.vals;have hO:=yM hI sh.objs;revert x;unfold StSh.sl;split
 ·exact fun x=>⟨c _,hO x⟩
 ·exact fun x=>⟨c x,hO _⟩
 ·exact fun x=>⟨c x.1,hO x.2⟩
theorem Y8(v:VL I)(t:Nat): ∀a:(ll t v).T,∃l1 cs l2,(ll t v).enc a= .slo t l1 cs l2:=by
 unfold ll;split
 ·exact fun a=>⟨_,_,_,rfl⟩
 ·exact fun a=>⟨_,_,_,rfl⟩
theorem BN: ∀(l:List (Nat×OSh)) (x:(olOf I l).T),∀o∈(olOf I l).enc x,∃s,(o.1,s)∈l/\((∃t c,o.2= .sl t c/\Ui s=true)\/(∃ty cs,o.2= .cells ty cs/\Ui s=false)\/(∃t l1 cs l2 shs,s= .slo t shs/\o.2= .slo t l1 cs l2))
 |[],x,o,ho=>by cases ho
 |(n,s)::r,x,o,ho=>by
  have hr:=BN r;have d: ∀(a:(s.shp I).T) (b:(olOf I r).T),o∈(n,(s.shp I).enc a)::(olOf I r).enc b-> ∃f,(o.1,f)∈(n,s)::r/\((∃t c,o.2= .sl t c/\Ui f=true)\/(∃ty cs,o.2= .cells ty cs/\Ui f=false)\/(∃t l1 cs l2 shs,f= .slo t shs/\o.2= .slo t l1 cs l2)):=by
   intro a b hm;rcases ma.1 hm with hm|hm
   ·subst hm;refine⟨s,Jb ..,?_⟩;cases s with
    |sl t=>exact .inl ⟨_,_,rfl,rfl⟩
    |row t=>exact .inr (.inl ⟨_,_,rfl,rfl⟩)
    |cells ty shs=>exact .inr (.inl ⟨_,_,rfl,rfl⟩)
    |slo t shs=> obtain⟨l1,cs,l2,e⟩:=Y8 (vlOf I shs) t a;exact .inr (.inr ⟨t,l1,cs,l2,shs,rfl,e⟩)
   ·obtain⟨f,h1,h2⟩:=hr b o hm;exact⟨f,Eb _ h1,h2⟩
  revert x;show∀x:(OL.cons n (s.shp I) (olOf I r)).T,o∈(OL.cons n (s.shp I) (olOf I r)).enc x->_;unfold OL.cons;split
  ·exact fun x ht=>d _ _ ht
  ·exact fun x ht=>d _ _ ht
  ·exact fun x ht=>d _ _ ht
theorem Un(sh:StSh)(x:(sh.sl I).T): ∀o∈((sh.sl I).enc x).2,∃s,(o.1,s)∈sh.objs/\((∃t c,o.2= .sl t c/\Ui s=true)\/(∃ty cs,o.2= .cells ty cs/\Ui s=false)\/(∃t l1 cs l2 shs,s= .slo t shs/\o.2= .slo t l1 cs l2)):=by
 have hO:=BN (I:=I) sh.objs;revert x;unfold StSh.sl;split
 ·exact fun x=>hO x
 ·exact fun x=>hO _
 ·exact fun x=>hO x.2
end
section
variable {I:Ip} {P:Program}
def El(a b:Option (Nat ⊕ List (List PV))):Prop:=b=a\/(a=none/\b=some (.inl 0))
theorem cB{ρ ρ' f:Nat->Nat}{h h':Nat->Option (EO I.C)}{x:EV I.C}(d: ∀i∈Ze x,ρ' i=ρ (f i))(hi: ∀i∈Ze x,El (infO h' i) (infO h (f i))):trV ρ h (rnV f x)=trV ρ' h' x:=by
 cases x with
 |own id=>
  have h1:=d id (by simp[Ze]);have h2:=hi id (by simp[Ze]);simp only[rnV];rw[Sj,Sj,h1];rcases h2 with h2|⟨h2,h3⟩
  ·rw[h2]
  ·rw[h2,h3]
 |osl id off n=>simp only[rnV,trV,d id (by simp[Ze])]
 |optr id r c=>simp only[rnV,trV,d id (by simp[Ze])]
 |mref id=>simp only[rnV,trV,d id (by simp[Ze])]
 |clo g caps=> simp only[rnV,trV,Ac];congr 1;refine Ya fun q m=> ?_;have:=d q.1 (by simp only[Ze,Oa];exact⟨q,m,rfl⟩);simp[j]
 |_=>rfl
theorem zC5{ρ ρ' f:Nat->Nat}{h h':Nat->Option (EO I.C)}{x:ET I.C}(j: ∀i∈Qp x,ρ' i=ρ (f i))(hi: ∀i∈Qp x,El (infO h' i) (infO h (f i))):trT ρ h (rnET f x)=trT ρ' h' x:=by
 cases x with
 |c x=>exact congrArg TV.c (cB j hi)
 |agg xs=> simp only[rnET,trT,Ac];congr 1;exact Ya fun v hv=>cB (fun i d=>j i (Ub.2 ⟨v,hv,d⟩)) (fun i d=>hi i (Ub.2 ⟨v,hv,d⟩))
theorem jM{ρ ρ' f:Nat->Nat}{h h':Nat->Option (EO I.C)}{o:EO I.C}(d: ∀i∈Aj o,ρ' i=ρ (f i))(hi: ∀i∈Aj o,El (infO h' i) (infO h (f i))):trO P ρ h (rnEO f o)=trO P ρ' h' o:=by
 cases o with
 |cells ty cs=> simp only[rnEO,trO,Ra,Ac];have:cs.map (trV ρ h∘rnV f)=cs.map (trV ρ' h'):=Ya fun v hv=>cB (fun i c=>d i (Ub.2 ⟨v,hv,c⟩)) (fun i c=>hi i (Ub.2 ⟨v,hv,c⟩));rw[j]
 |slo t l1 cs l2=> simp only[rnEO,trO,Ac];have:cs.map (trV ρ h∘rnV f)=cs.map (trV ρ' h'):=Ya fun v hv=>cB (fun i c=>d i (Ub.2 ⟨v,hv,c⟩)) (fun i c=>hi i (Ub.2 ⟨v,hv,c⟩));rw[j]
 |_=>rfl
theorem EC(f:Nat->Nat)(o:EO I.C):infE (rnEO f o)=infE o:=by cases o<;>rfl
theorem gN{ρ:Nat->Nat}{h:Nat->Option (EO I.C)}{t:Nat}{l1 l2:List (I.C t)}{cs:List (EV I.C)}:trO P ρ h (.slo t l1 (cs.map (nrmV h)) l2)=trO P ρ h (.slo t l1 cs l2):=by simp only[trO,Ac];have:cs.map (trV ρ h∘nrmV h)=cs.map (trV ρ h):=Ya fun v _=>uw v;rw[c]
theorem lM{ρ:Nat->Nat}{h:Nat->Option (EO I.C)}{ty:Nat}{cs:List (EV I.C)}:trO P ρ h (.cells ty (cs.map (nrmV h)))=trO P ρ h (.cells ty cs):=by simp only[trO,Ra,Ac];have:cs.map (trV ρ h∘nrmV h)=cs.map (trV ρ h):=Ya fun v _=>uw v;rw[c]
theorem EB{α β:Type}{f:Nat->Nat}{g:α->β}: ∀{l:List (Nat×α)} {i:Nat},(∀o∈l,f o.1=f i->o.1=i)->lk (l.map fun o=>(f o.1,g o.2)) (f i)=(lk l i).map g
 |[],i,_=>rfl
 |(j,x)::r,i,h=>by
  simp only[aa];rw[Zk,Zk];by_cases c:i=j
  ·subst c;rw[La rfl,La rfl];rfl
  ·rw[Ha c,Ha (fun e=>c (h (j,x) (Jb ..) e.symm).symm)];exact EB (fun o ho=>h o (Eb _ ho))
theorem Px{α:Type}: ∀{l:List (Nat×α)} {i:Nat},(∀o∈l,o.1≠i)->lk l i=none
 |[],i,_=>rfl
 |(j,x)::r,i,h=>by rw[Zk,Ha (fun e=>h (j,x) (Jb ..) e.symm)];exact Px (fun o ho=>h o (Eb _ ho))
theorem qg{α:Type}: ∀(l m:List (Nat×α)) (i:Nat),lk (l++m) i=(match lk l i with|some x=>some x|none=>lk m i)
 |[],m,i=>rfl
 |(j,x)::r,m,i=>by
  simp only[ja];rw[Zk,Zk];by_cases c:i=j
  ·rw[La c,La c]
  ·rw[Ha c,Ha c];exact qg r m i
theorem Zf{α:Type}: ∀{l:List (Nat×α)} {i:Nat},i∈l.map (·.1)-> ∃x,lk l i=some x
 |[],i,h=>by cases h
 |(j,x)::r,i,h=>by
  rw[Zk];by_cases c:i=j
  ·exact⟨x,La c⟩
  ·rw[Ha c];simp only[aa,ma]at h;exact Zf (h.resolve_left c)
theorem Nz(get:Get): ∀(a b:List (Nat×Option OB)),upd get (a++b)=upd (upd get b) a
 |[],b=>rfl
 |(i,o)::r,b=>by funext j;simp only[ja,upd];rw[Nz get r b]
theorem bM{get get':Get}: ∀{a:List (Nat×Option OB)} {j:Nat},j∈a.map (·.1)->upd get a j=upd get' a j
 |[],j,h=>by cases h
 |(i,o)::r,j,h=>by
  simp only[upd];by_cases c:j=i
  ·rw[La c,La c]
  ·rw[Ha c,Ha c];simp only[aa,ma]at h;exact bM (h.resolve_left c)
theorem zAb{x y:CV}(hn:x≠ .p (.at (.slice none 0 0)))(c:WkZ (fun _=>False) x y):y=x:=by
 rcases c with c|⟨z,d,_⟩
 ·rcases c with rfl|⟨a,b,rfl,rfl,c⟩
  ·rfl
  ·cases c with
   |refl=>rfl
   |nil=>exact absurd rfl hn
 ·exact d.elim
theorem zAc{ρ:Nat->Nat}{h:Nat->Option (EO I.C)}{x:EV I.C}(d:Js x=false):trV ρ h x≠ .p (.at (.slice none 0 0)):=by
 intro c;cases x with
 |nil=>cases d
 |raw v=>
  simp only[trV,pvE,CV.p.injEq,PV.at.injEq]at c;subst c;cases d
 |own id=>rw[Sj]at c;split at c<;>cases c
 |_=>cases c
theorem zEI{o o2:OB}(v:WkOZ (fun _=>False) o o2)(hn: ∀row∈o.rows,∀x∈row,x≠ .p (.at (.slice none 0 0))):o2=o:=by
 obtain⟨ty,k,rows⟩:=o;obtain⟨y,k2,c⟩:=o2;obtain⟨h1,h2,h3,h4⟩:=v;simp only at h1 h2 h3 h4 hn;subst h1;subst h2;congr 1;apply Yi;intro i;cases hr:rows[i]? with
 |none=> rw[List.getElem?_eq_none_iff]at hr ⊢;omega
 |some row=>
  have m:i<c.length:=by rw[h3];exact(Fa.1 hr).1
  have d:c[i]? =some c[i]:=Ma m;rw[d];obtain⟨l1,l2⟩:=h4 i row _ hr d;congr 1;apply Yi;intro j;cases f:row[j]? with
  |none=> rw[List.getElem?_eq_none_iff]at f ⊢;omega
  |some x=>
   have r:j<(c[i]).length:=by rw[l1];exact(Fa.1 f).1
   have u:(c[i])[j]? =some (c[i])[j]:=Ma r;rw[u];exact congrArg some (zAb (hn row (Ua hr) x (Ua f)) (l2 j x _ f u))
end
section
variable {P:Program} {I:Ip} {X:Cx I} {ρ:Nat->Nat} {G:Get} {st:ES I.C} {e:Env} {lh:LH}
theorem Zm{a b:Nat}:Nat.blt a b=true↔a<b:=by simp[Nat.blt_eq]
theorem Mm{α:Type}: ∀{l:List (Nat×α)} {i:Nat} {x:α},(l.map (·.1)).Nodup->(i,x)∈l->lk l i=some x
 |[],i,x,_,h=>by cases h
 |(j,y)::r,i,x,hn,h=>by
  rw[Zk];simp only[aa,Ie]at hn;rcases ma.1 h with h|h
  ·cases h;exact La rfl
  ·rw[Ha (fun e=>hn.1 (Oa.2 ⟨(i,x),h,e⟩))];exact Mm hn.2 h
theorem iO{α β:Type}{F:Nat->β}: ∀{l:List (Nat×α)} {i:Nat},i∈l.map (·.1)->lk (l.map fun o=>(o.1,F o.1)) i=some (F i)
 |[],i,h=>by cases h
 |(j,y)::r,i,h=>by
  simp only[aa];rw[Zk];by_cases c:i=j
  ·subst c;exact La rfl
  ·rw[Ha c];simp only[aa,ma]at h;exact iO (h.resolve_left c)
theorem dM{get:Get}{d:Nat->Nat}{v:Nat->Option OB}: ∀{l:List Nat} {i:Nat},i∈l->(∀j∈l,d j=d i->j=i)->upd get (l.map fun i=>(d i,v i)) (d i)=v i
 |[],i,h,_=>by cases h
 |j::r,i,h,hn=>by
  simp only[aa,upd];by_cases c:d i=d j
  ·rw[La c,hn j (Jb ..) c.symm]
  ·rw[Ha c];rcases ma.1 h with h|h
   ·subst h;exact absurd rfl c
   ·exact dM h (fun j f=>hn j (Eb _ f))
theorem oQ: ∀{m:Mp},pg m=[]-> ∀i,lk m i≠some none
 |[],_,i,h=>by cases h
 |(j,none)::r,hn,i,h=>by simp[pg]at hn
 |(j,some a)::r,hn,i,h=>by
  rw[Zk]at h;split at h
  ·cases h
  ·exact oQ (m:=r) (by simpa [pg] using hn) i h
theorem O3 (hI:IpOK P I) (hv:Vw P X ρ G st e lh) {con:Con I} (hc:zn P con) {as:List (ET I.C)} {x:(con.inS.sl I).T} {m:Mp} (hm:(con.inS.sl I).mat as (nrmH (lkO X st)) []=some (x,m))
  (hb:(m.all fun z=>Nat.blt z.1 con.inS.objs.length)=true) (hn:pg m=[]) {y:(con.outS.sl I).T} (hF:con.F x=some y):
  ∃cd,zdf P con.f (as.map (trT ρ (lkO X st))) cd lh.next con.k (trL ρ (aft (lkO X st) (oh con (lkO X st) st.next m x y).up) (lkE X st) (oh con (lkO X st) st.next m x y).val) (trU P ρ (aft (lkO X st) (oh con (lkO X st) st.next m x y).up) (oh con (lkO X st) st.next m x y).up)/\
   (∀p∈cd,lh.get p.1=some p.2)/\(∀p∈cd,p.1∈(oh con (lkO X st) st.next m x y).rd.map ρ)/\Hr (lkO X st) (oh con (lkO X st) st.next m x y).up:=by
 generalize hh:lkO X st=h at*;obtain⟨L0,L1⟩:=mo (P:=P) hI con.inS;obtain⟨l1,l2,l3,l4,l5⟩:=L1 as (nrmH h) [] x m hm;have cp:InjM m:=l2 (fun i j a h=>by cases h);have V:=L0 x;obtain⟨cq,_⟩:=mo (P:=P) hI con.outS;have W:=cq y;have wf:=hc.wf;simp only[Fj,Da,Cc]at wf;obtain⟨⟨⟨⟨⟨⟨⟨w1,w2⟩,w3⟩,w4⟩,w5⟩,w6⟩,w7⟩,w8⟩:=wf;have w1:=ut w1;have w6:=ut w6;have w4:=QD.1 w4;simp only[wfSt,Da]at w2 w3;have ef:=QD.1 w2.1;have dj:=QD.1 w2.2;have dk:=QD.1 w3.1;have dl:=QD.1 w3.2;generalize hp:con.inS.objs.length=p at*;generalize ha:(con.inS.sl I).enc x=a at*;generalize b8:(con.outS.sl I).enc y=b at*
 -- the objects that came in
 have b9: ∀i,i<p-> ∃o',lk a.2 i=some o'/\(i,o')∈a.2:=by
  intro i hi;have:i∈a.2.map (·.1):=by rw[V,w1];exact Oc.2 hi
  obtain⟨o',ho⟩:=Zf d;exact⟨o',ho,Zg ho⟩
 have a3: ∀i,i<p-> ∃c o o',lk a.2 i=some o'/\lk m i=some (some c)/\h c=some o/\infE o=infE o'/\(∀t l,o= .sl t l->o'= .sl t l)/\((∀ty cs,o= .cells ty cs-> ∃ty' cs',o'= .cells ty' cs')/\ ∀t l1 cs l2,o= .slo t l1 cs l2-> ∃cs',o'= .slo t l1 cs' l2)/\
   (∀ρ' h',Cmp ρ ρ' h h' (fun _=>False) m-> ∃ob ob',trO P ρ h o=some ob/\trO P ρ' h' o'=some ob'/\WkOZ (fun _=>False) ob ob'):=by
  intro i hi;obtain⟨o',h1,h2⟩:=b9 i hi;rcases l5 i o' h2 with⟨c,on,k1,k2,k3,k4,k5,k6⟩|⟨k1,_⟩
  ·unfold nrmH at k2;cases am:h c with
   |none=>rw[am]at k2;cases k2
   |some o=>
    rw[am]at k2;cases o with
    |cells ty cs=>
     simp only[Option.some.injEq]at k2;subst k2;refine⟨c,_,o',h1,k1,am,k3,fun t l e=>(by cases e),⟨fun ap aq e=>k5.1 _ _ rfl,fun t l1 cs l2 e=>(by cases e)⟩,fun ρ' h' Y=> ?_⟩;obtain⟨ob,ob',q1,O,q3⟩:=k6 ρ ρ' h h' (fun _=>False) Y;exact⟨ob,ob',by rw[<-lM];exact q1,O,q3⟩
    |sl t l=>
     simp only[Option.some.injEq]at k2;subst k2;exact⟨c,_,o',h1,k1,am,k3,k4,⟨fun ap aq e=>(by cases e),fun t l1 cs l2 e=>(by cases e)⟩,fun ρ' h' Y=>k6 ρ ρ' h h' _ Y⟩
    |dead n=>
     simp only[Option.some.injEq]at k2;subst k2;exact⟨c,_,o',h1,k1,am,k3,k4,⟨fun ap aq e=>(by cases e),fun t l1 cs l2 e=>(by cases e)⟩,fun ρ' h' Y=>k6 ρ ρ' h h' _ Y⟩
    |mp kd l=>
     simp only[Option.some.injEq]at k2;subst k2;exact⟨c,_,o',h1,k1,am,k3,k4,⟨fun ap aq e=>(by cases e),fun t l1 cs l2 e=>(by cases e)⟩,fun ρ' h' Y=>k6 ρ ρ' h h' _ Y⟩
    |slo t l1 cs l2=>
     simp only[Option.some.injEq]at k2;subst k2;refine⟨c,_,o',h1,k1,am,k3,fun t l e=>(by cases e),⟨fun ap aq e=>(by cases e),fun t l1 cs l2 e=>(by cases e;exact k5.2 _ _ _ _ rfl)⟩,fun ρ' h' Y=> ?_⟩;obtain⟨ob,ob',q1,O,q3⟩:=k6 ρ ρ' h h' (fun _=>False) Y;exact⟨ob,ob',by rw[<-gN];exact q1,O,q3⟩
    |frz t l=> simp only[Option.some.injEq]at k2;subst k2;exact⟨c,_,o',h1,k1,am,k3,fun t l e=>(by cases e),⟨fun ap aq e=>(by cases e),fun t l1 cs l2 e=>(by cases e)⟩,fun ρ' h' Y=>k6 ρ ρ' h h' _ Y⟩
  ·exact absurd k1 (oQ hn i)
 generalize hf:(fun i=>cond (Nat.blt i p) (rnM m 0 i) (st.next+(i - p)))=f at*;have fin: ∀i c,i<p->lk m i=some (some c)->f i=c:=by intro i c hi hl;rw[<-hf];simp only[Zm.2 hi,Ka,rnM,hl]
 have a6: ∀i,p<=i->f i=st.next+(i - p):=by
  intro i hi;rw[<-hf];have:Nat.blt i p=false:=by
   cases hb:Nat.blt i p with
   |false=>rfl
   |true=>have:=Zm.1 hb;omega
  simp only[d,Ia]
 have a9: ∀i,i<p->f i<st.next/\ ∃o,h (f i)=some o:=by intro i hi;obtain⟨c,o,o',k1,k2,k3,_⟩:=a3 i hi;rw[fin i c hi k2];exact⟨(hv.wfh c o (by rw[hh];exact k3)).1,o,k3⟩
 have cr: ∀i j,f i=f j->i<p\/p<=i->i=j:=by
  intro i j e _;rcases Yc i p with hi|hi<;>rcases Yc j p with hj|hj
  ·obtain⟨c,o,o',k1,k2,k3,_⟩:=a3 i hi;obtain⟨c2,o2,eg,q1,O,q3,_⟩:=a3 j hj;rw[fin i c hi k2,fin j c2 hj O]at e;subst e;exact cp i j c k2 O
  ·have:=(a9 i hi).1;rw[e,a6 j hj]at d;omega
  ·have:=(a9 j hj).1;rw[<-e,a6 i hi]at d;omega
  ·rw[a6 i hi,a6 j hj]at e;omega
 have ab: ∀i j,f i=f j->i=j:=fun i j e=>cr i j e (Yc i p);have ar: ∀i j,i<p->j<p->ρ (f i)=ρ (f j)->i=j:=by intro i j hi hj e;obtain⟨_,o,ho⟩:=a9 i hi;obtain⟨_,o2,dp⟩:=a9 j hj;exact ab i j (hv.inj _ _ o o2 (by rw[hh];exact ho) (by rw[hh];exact dp) e)
 have ba:Cmp ρ (fun i=>ρ (f i)) h (lk a.2) (fun _=>False) m:=by
  intro i z J;have hi:i<p:=by have:=Xa.1 hb _ (Zg J);exact Zm.1 d
  obtain⟨c,o,o',k1,k2,k3,k4,_⟩:=a3 i hi;rw[k2]at J;cases J;refine⟨by show ρ (f i)=ρ c;rw[fin i c hi k2],?_⟩;rw[Zc k1,Zc k3,k4]
 have bb:=hc.ok x y hF (fun i=>ρ (f i)) lh.next (by rw[hp];exact ar) (by
  rw[hp];intro i hi;exact .inl (hv.lt _ (a9 i hi).1)) (by
  rw[hp];intro j;show ρ (f (p+j))=lh.next+j;rw[a6 _ (Sd _ _),hv.up _ (Sd _ _)];omega)
 rw[ha,b8]at bb
 -- the parts of what changes
 have ce: ∀(l:List (Nat×OSh)),(∀o∈l,o.1<p)->Mo h m con.cst con.outS.objs l=(l.filter fun o=> !(memN o.1 con.cst||memN o.1 (con.outS.objs.map (·.1)))).map fun o=>(f o.1,Ri (h (f o.1))):=by
  intro l
  induction l with
  |nil=>intro _;rfl
  |cons o r ih=>
   intro hl;obtain⟨i,s⟩:=o;have hi:=hl (i,s) (Jb ..);obtain⟨c,_,_,_,k2,_⟩:=a3 i hi;simp only[Mo,k2];rw[ih (fun o ho=>hl o (Eb _ ho))];cases bq:(memN i con.cst||memN i (con.outS.objs.map (·.1)))with
   |true=> rw[List.filter_cons_of_neg (by show¬(!(memN i con.cst||memN i (con.outS.objs.map (·.1))))=true;rw[bq];simp)];rfl
   |false=> rw[List.filter_cons_of_pos (by show(!(memN i con.cst||memN i (con.outS.objs.map (·.1))))=true;rw[bq];rfl),aa];simp only[fin i c hi k2];rfl
 have c8: ∀o∈con.inS.objs,o.1<p:=by intro o ho;have:o.1∈con.inS.objs.map (·.1):=Oa.2 ⟨o,ho,rfl⟩;rw[w1]at d;exact Oc.1 d
 have Z: ∀(l:EHeap I.C),∀o∈Eh h m con.cst l,o∈l/\memN o.1 con.cst=true:=by
  intro l
  induction l with
  |nil=>intro o ho;cases ho
  |cons q r ih=>
   obtain⟨i,ob⟩:=q;intro o ho;simp only[Eh]at ho;have step:o∈Eh h m con.cst r->o∈(i,ob)::r/\memN o.1 con.cst=true:=fun h=>⟨Eb _ (ih o h).1,(ih o h).2⟩;cases bc:memN i con.cst with
   |false=>rw[bc]at ho;exact step ho
   |true=>
    rw[bc]at ho;simp only[Ka]at ho;split at ho
    ·split at ho
     ·rename_i cs _;cases c9:cs.any Js with
      |false=>rw[c9]at ho;exact step ho
      |true=>
       rw[c9]at ho;rcases ma.1 ho with rfl|ho
       ·exact⟨Jb ..,bc⟩
       ·exact step ho
     ·exact step ho
    ·exact step ho
 have br: ∀(l:EHeap I.C) (i:Nat) (o':EO I.C),(i,o')∈l->memN i con.cst=true->i<p->(∃ty cs,h (f i)=some (.cells ty cs)/\cs.any Js=true)->i∈(Eh h m con.cst l).map (·.1):=by
  intro l
  induction l with
  |nil=>intro i o' h1;cases h1
  |cons q r ih=>
   obtain⟨j,oj⟩:=q;intro i o' h1 h2 hi h3;simp only[Eh];rcases ma.1 h1 with h1|h1
   ·injection h1 with e1 e2;subst e1;obtain⟨ty,cs,g1,g2⟩:=h3;obtain⟨c,_,_,_,k2,_⟩:=a3 i hi;rw[fin i c hi k2]at g1;simp only[h2,Ka,k2,g1,g2,aa];exact Jb ..
   ·have:=ih i o' h1 h2 hi h3;cases memN j con.cst with
    |false=>exact d
    |true=>
     simp only[Ka];split
     ·split
      ·rename_i cs _;cases cs.any Js with
       |false=>exact d
       |true=>exact Eb _ d
      ·exact d
     ·exact d
 have av:(a.2.map (·.1)).Nodup:=by rw[V,w1];exact List.nodup_range
 have ed:(b.2.map (·.1)).Nodup:=by rw[W];exact w7
 have b6:(oh con h st.next m x y).up=b.2.map (fun o=>(f o.1,rnEO f o.2))++(((con.inS.objs.filter fun o=> !(memN o.1 con.cst||memN o.1 (con.outS.objs.map (·.1)))).map fun o=>(o.1,Ri (h (f o.1)))).map (fun o=>(f o.1,o.2))++(Eh h m con.cst a.2).map (fun o=>(f o.1,rnEO f o.2))):=by subst hf;have hg:=ce con.inS.objs c8;simp only[oh,ha,b8,hp,hg,Ac];rfl
 have ct:(oh con h st.next m x y).rd=m.filterMap (·.2):=rfl;have cg:(oh con h st.next m x y).val=resE (b.1.map (rnET f)):=by subst hf;simp only[oh,b8,hp]
 generalize ee:(oh con h st.next m x y)=res at*
 -- what the objects behind the call are
 have U: ∀i∈b.2.map (·.1),i<p->memN i con.cst=false/\(∃s,(i,s)∈con.outS.objs/\Ui s=false)/\ ∃s,lk con.inS.objs i=some s/\Ui s=false:=by
  intro i hi bt;rw[W]at hi;obtain⟨o,ho,rfl⟩:=Oa.1 hi;have:=Xa.1 w5 o ho;rw[Zm.2 bt]at d;simp only[Ka,Da,xe]at d;refine⟨d.1.1,⟨o.2,ho,d.1.2⟩,?_⟩;have h3:=d.2;cases hl:lk con.inS.objs o.1 with
  |none=>rw[hl]at h3;cases h3
  |some s=>rw[hl]at h3;exact⟨s,rfl,by simpa using h3⟩
 have an: ∀i,i<p-> ∀s,lk con.inS.objs i=some s->Ui s=false-> ∃ty cs,lk a.2 i=some (.cells ty cs):=by
  intro i hi s hs ch;obtain⟨o',k1,k2⟩:=b9 i hi;have hk:=Un (I:=I) con.inS x;rw[ha]at hk;obtain⟨s',g1,g2⟩:=hk (i,o') k2;have dq:(con.inS.objs.map (·.1)).Nodup:=by rw[w1];exact List.nodup_range
  have:=Mm dq g1;rw[hs]at d;cases d;rcases g2 with⟨t,c,g3,g4⟩|⟨ty,cs,g3,g4⟩|⟨_,_,_,_,_,g5,_⟩
  ·rw[ch]at g4;cases g4
  ·exact⟨ty,cs,by rw[k1];exact congrArg some g3⟩
  ·rw[g5]at ch;cases ch
 have a7: ∀i o,(i,o)∈b.2->i<p-> ∃ty cs,o= .cells ty cs:=by
  intro i o ho hi;obtain⟨_,⟨s,g1,g2⟩,_⟩:=U i (Oa.2 ⟨_,ho,rfl⟩) hi;have hk:=Un (I:=I) con.outS y;rw[b8]at hk;obtain⟨s',q1,O⟩:=hk (i,o) ho;have h1:=Mm w7 g1;have h2:=Mm w7 q1;rw[h1]at h2;cases h2;rcases O with⟨t,c,q3,q4⟩|⟨ty,cs,q3,q4⟩|⟨_,_,_,_,_,q5,_⟩
  ·rw[g2]at q4;cases q4
  ·exact⟨ty,cs,q3⟩
  ·rw[q5]at g2;cases g2
 have bw: ∀i,lk (b.2.map fun o=>(f o.1,rnEO f o.2)) (f i)=(lk b.2 i).map (rnEO f):=fun i=>EB (fun o _ e=>ab _ _ e);have ci: ∀i,lk (((con.inS.objs.filter fun o=> !(memN o.1 con.cst||memN o.1 (con.outS.objs.map (·.1)))).map fun o=>(o.1,Ri (h (f o.1)))).map (fun o=>(f o.1,o.2))) (f i)=lk ((con.inS.objs.filter fun o=> !(memN o.1 con.cst||memN o.1 (con.outS.objs.map (·.1)))).map fun o=>(o.1,Ri (h (f o.1)))) i:=fun i=>by have:=EB (f:=f) (g:=fun z:EO I.C=>z) (l:=(con.inS.objs.filter fun o=> !(memN o.1 con.cst||memN o.1 (con.outS.objs.map (·.1)))).map fun o=>(o.1,Ri (h (f o.1)))) (i:=i) (fun o _ e=>ab _ _ e);rw[d];simp
 have cv: ∀i,lk ((Eh h m con.cst a.2).map fun o=>(f o.1,rnEO f o.2)) (f i)=(lk (Eh h m con.cst a.2) i).map (rnEO f):=fun i=>EB (fun o _ e=>ab _ _ e);have aw: ∀i o,lk (Eh h m con.cst a.2) i=some o->lk a.2 i=some o/\memN i con.cst=true:=by intro i o ho;obtain⟨q1,O⟩:=Z a.2 (i,o) (Zg ho);exact⟨Mm av q1,O⟩
 have ad: ∀i,i<p->infO h (f i)=infO (lk a.2) i:=by intro i hi;obtain⟨c,o,o',k1,k2,k3,k4,_⟩:=a3 i hi;rw[fin i c hi k2,Zc k3,Zc k1,k4]
 have ca: ∀i o,lk b.2 i=some o->infO (aft h res.up) (f i)=infE o:=by
  intro i o ho;have:aft h res.up (f i)=some (rnEO f o):=by simp only[aft,b6,qg,bw,ho,Kb]
  rw[Zc d,EC]
 have cb: ∀i,i<p->memN i con.cst=true->infO (aft h res.up) (f i)=infO (lk a.2) i:=by
  intro i hi B;have cw:lk b.2 i=none:=by
   cases hl:lk b.2 i with
   |none=>rfl
   |some o=> have:=(U i (Oa.2 ⟨_,Zg hl,rfl⟩) hi).1;rw[B]at d;cases d
  have bx:lk ((con.inS.objs.filter fun o=> !(memN o.1 con.cst||memN o.1 (con.outS.objs.map (·.1)))).map fun o=>(o.1,Ri (h (f o.1)))) i=none:=by refine Px fun o ho e=> ?_;obtain⟨z,J,rfl⟩:=Oa.1 ho;have:=(Je.1 J).2;simp only at e;rw[e,B]at d;simp at d
  cases hs:lk (Eh h m con.cst a.2) i with
  |some o=>
   have be:aft h res.up (f i)=some (rnEO f o):=by simp only[aft,b6,qg,bw,cw,Option.map_none,ci,bx,cv,hs,Kb]
   rw[Zc be,EC,Zc (aw i o hs).1]
  |none=>
   have be:aft h res.up (f i)=h (f i):=by simp only[aft,b6,qg,bw,cw,Option.map_none,ci,bx,cv,hs]
   rw[<-ad i hi];simp only[infO,be]
 have cj: ∀i o,i<p->h (f i)=some o->(∃t l,o= .sl t l)\/ ∃ty cs,o= .cells ty cs:=by
  intro i o hi ho;obtain⟨c,o2,o',k1,k2,k3,k4,k5,k6,k7⟩:=a3 i hi;rw[fin i c hi k2,k3]at ho;cases ho;obtain⟨ob,ob',q1,O,q3⟩:=k7 (fun i=>ρ (f i)) (lk a.2) ba;cases o with
  |mp kd l=>
   have hk:=Un (I:=I) con.inS x;rw[ha]at hk;obtain⟨s',_,g2⟩:=hk (i,o') (Zg k1);have cc:=q3.raw;simp only[trO,Option.some.injEq]at q1;subst q1;rcases g2 with⟨_,_,g3,_⟩|⟨_,_,g3,_⟩|⟨_,_,_,_,_,_,g3⟩<;>
    (simp only at g3;rw[g3]at O;simp only[trO,Option.some.injEq]at O;rw[<-O]at cc;cases cc)
  |sl t l=>exact .inl ⟨t,l,rfl⟩
  |cells ty cs=>exact .inr ⟨ty,cs,rfl⟩
  |dead n=>cases q1
  |frz t l=>cases q1
  |slo t l1 cs l2=>
   obtain⟨cs',e⟩:=k6.2 _ _ _ _ rfl;have hk:=Un (I:=I) con.inS x;rw[ha]at hk;obtain⟨s',g1,g2⟩:=hk (i,o') (Zg k1);have ck:=Xa.1 w8 _ g1;subst e;rcases g2 with⟨_,_,g3,_⟩|⟨_,_,g3,_⟩|⟨_,_,_,_,_,g3,_⟩
   ·cases g3
   ·cases g3
   ·simp only at ck;rw[g3]at ck;cases ck
 have cx: ∀i,i<p->El (infO (lk a.2) i) (infO (aft h res.up) (f i)):=by
  intro i hi;cases B:memN i con.cst with
  |true=>exact .inl (cb i hi B)
  |false=>
   cases a5:lk b.2 i with
   |some o=> obtain⟨_,_,s,g1,g2⟩:=U i (Oa.2 ⟨_,Zg a5,rfl⟩) hi;obtain⟨ty,cs,g3⟩:=an i hi s g1 g2;obtain⟨ap,aq,g4⟩:=a7 i o (Zg a5) hi;refine .inl ?_;rw[ca i o a5,Zc g3,g4];rfl
   |none=>
    obtain⟨_,ob,A⟩:=a9 i hi;have bx:lk ((con.inS.objs.filter fun o=> !(memN o.1 con.cst||memN o.1 (con.outS.objs.map (·.1)))).map fun o=>(o.1,Ri (h (f o.1)))) i=some (Ri (h (f i))):=by
     refine iO (F:=fun i=>Ri (h (f i))) ?_;have cm:i∈con.inS.objs.map (·.1):=by rw[w1];exact Oc.2 hi
     obtain⟨z,J,rfl⟩:=Oa.1 cm;refine Oa.2 ⟨z,Je.2 ⟨J,?_⟩,rfl⟩;have c6:memN z.1 (con.outS.objs.map (·.1))=false:=by
      cases bq:memN z.1 (con.outS.objs.map (·.1))with
      |false=>rfl
      |true=> have:=ZG.1 bq;rw[<-W]at d;obtain⟨w,hw⟩:=Zf d;rw[a5]at hw;cases hw
     simp[B,c6]
    have be:aft h res.up (f i)=some (Ri (h (f i))):=by simp only[aft,b6,qg,bw,a5,Option.map_none,ci,bx]
    rw[Zc be,<-ad i hi];rcases cj i ob hi A with⟨t,l,rfl⟩|⟨ty,cs,rfl⟩
    ·exact .inl (by rw[A,Zc A];rfl)
    ·exact .inr ⟨by rw[Zc A];rfl,by rw[A];rfl⟩
 have b3: ∀i,i∈con.outS.objs.map (·.1)++con.cst->El (infO (hOut con a.2 b.2) i) (infO (aft h res.up) (f i)):=by
  intro i hi;cases a5:lk b.2 i with
  |some o=>
   have:hOut con a.2 b.2 i=some o:=by simp only[hOut,a5]
   exact .inl (by rw[ca i o a5,Zc d])
  |none=>
   rcases Bc.1 hi with hi|hi
   ·rw[<-W]at hi;obtain⟨w,hw⟩:=Zf hi;rw[a5]at hw;cases hw
   ·have bt:i<p:=Oc.1 (w4 i hi);obtain⟨o',k1,_⟩:=b9 i bt;have B:=ZG.2 hi;have:hOut con a.2 b.2 i=some o':=by simp only[hOut,a5,k1,B,Ka]
    exact .inl (by rw[cb i bt B,Zc d,Zc k1])
 obtain⟨cy,d3⟩:=UB (P:=P) hI con.outS y;rw[b8]at cy d3;obtain⟨dr,d5⟩:=UB (P:=P) hI con.inS x;rw[ha]at dr d5;have d6:trL ρ (aft h res.up) (lkE X st) res.val=valOf (b.1.map (trT (fun i=>ρ (f i)) (hOut con a.2 b.2))):=by
  rw[cg];have a8:b.1.map (fun t=>trT ρ (aft h res.up) (rnET f t))=b.1.map (trT (fun i=>ρ (f i)) (hOut con a.2 b.2)):=Ya fun t ht=>zC5 (fun i _=>rfl) (fun i hi=>b3 i (dk i (cy t ht i hi)));cases d7:b.1 with
  |nil=>rfl
  |cons t r=>
   cases r with
   |nil=> rw[d7]at a8;simp only[aa,ic,List.cons.injEq,Ag]at a8;simp only[aa,ic,resE,trL,valOf,a8]
   |cons t2 r=> rw[d7]at a8;simp only[aa,resE,trL,valOf,Ac]at a8 ⊢;simp only[ai,a8]
 have d8:(b.2.map fun o=>(ρ (f o.1),trO P ρ (aft h res.up) (rnEO f o.2)))=b.2.map fun o=>(ρ (f o.1),trO P (fun i=>ρ (f i)) (hOut con a.2 b.2) o.2):=Ya fun o ho=>by rw[jM (P:=P) (ρ:=ρ) (ρ':=fun i=>ρ (f i)) (h':=hOut con a.2 b.2) (fun i _=>rfl) (fun i hi=>b3 i (dl i (d3 o ho i hi)))]
 have da: ∀i o',lk a.2 i=some o'->trO P ρ (aft h res.up) (rnEO f o')=trO P (fun i=>ρ (f i)) (lk a.2) o':=by intro i o' ds;refine jM (fun i _=>rfl) (fun j hj=>cx j ?_);have:=dj j (d5 (i,o') (Zg ds) j hj);rw[w1,Ab]at d;exact Oc.1 d
 generalize hL:(con.inS.objs.filter fun o=> !(memN o.1 con.cst||memN o.1 (con.outS.objs.map (·.1))))=L at*;have db:trU P ρ (aft h res.up) res.up=(b.2.map fun o=>(ρ (f o.1),trO P (fun i=>ρ (f i)) (hOut con a.2 b.2) o.2))++((L.map fun o=>(ρ (f o.1),none))++(Eh h m con.cst a.2).map fun o=>(ρ (f o.1),trO P ρ (aft h res.up) (rnEO f o.2))):=by
  have:trU P ρ (aft h res.up) res.up=trU P ρ (aft h res.up) (b.2.map (fun o=>(f o.1,rnEO f o.2))++((L.map fun o=>(o.1,Ri (h (f o.1)))).map (fun o=>(f o.1,o.2))++(Eh h m con.cst a.2).map (fun o=>(f o.1,rnEO f o.2)))):=by rw[<-b6]
  rw[d];simp only[trU,yc,Ac];rw[<-d8];have hd: ∀o,trO P ρ (aft h res.up) (Ri o)=none:=by intro o;unfold Ri;split<;>rfl
  simp only[ai,hd]
 have dt: ∀o∈L,o.1<p:=by intro o ho;rw[<-hL]at ho;exact c8 o (Je.1 ho).1
 refine⟨(List.range p).filterMap fun i=>((h (f i)).bind (trO P ρ h)).map fun ob=>(ρ (f i),ob),?_,fun q hq=> ?_,fun q hq=> ?_,fun q hq=> ?_⟩
 ·rw[d6,db];refine bb.wk (by rw[Ra,Ra];exact l3.symm) (fun j u v hu bh=> ?_) (fun get dc=> ?_)
  ·rw[Ta]at hu bh;cases hj:as[j]? with
   |none=>rw[hj]at hu;cases hu
   |some u0=>
    cases co:a.1[j]? with
    |none=>rw[co]at bh;cases bh
    |some v0=> rw[hj]at hu;rw[co]at bh;cases hu;cases bh;exact l4 ρ (fun i=>ρ (f i)) h (lk a.2) (fun _=>False) ba j u0 v0 hj co
  ·-- the objects as the contract sees them
   have dd: ∀i,i<p-> ∃o o' ob ob',h (f i)=some o/\lk a.2 i=some o'/\trO P ρ h o=some ob/\trO P (fun i=>ρ (f i)) (lk a.2) o'=some ob'/\WkOZ (fun _=>False) ob ob'/\get (ρ (f i))=some ob/\(∀t l,o= .sl t l->o'= .sl t l):=by intro i hi;obtain⟨c,o,o',k1,k2,k3,k4,k5,k6,k7⟩:=a3 i hi;obtain⟨ob,ob',q1,O,q3⟩:=k7 (fun i=>ρ (f i)) (lk a.2) ba;have c7:=fin i c hi k2;refine⟨o,o',ob,ob',by rw[c7];exact k3,k1,q1,O,q3,?_,k5⟩;refine dc (ρ (f i),ob) (je.2 ⟨i,Oc.2 hi,?_⟩);rw[c7,k3];simp only[Aa,q1,Kb]
   let F1:Nat->Option OB:=fun i=>(lk a.2 i).bind (trO P (fun i=>ρ (f i)) (lk a.2))
   have bj: ∀i o' ob',lk a.2 i=some o'->trO P (fun i=>ρ (f i)) (lk a.2) o'=some ob'->F1 i=some ob':=fun i o' ob' h1 h2=>by simp only[F1,h1,Aa,h2]
   have bl: ∀i,i<p->upd get ((List.range p).map fun i=>(ρ (f i),F1 i)) (ρ (f i))=F1 i:=fun i hi=>dM (v:=F1) (Oc.2 hi) (fun j hj e=>ar j i (Oc.1 hj) hi e);have bm: ∀id,(∀i,i<p->ρ (f i)≠id)->upd get ((List.range p).map fun i=>(ρ (f i),F1 i)) id=get id:=fun id hid=>yj (by
    intro hm;simp only[Ac,Oa,Oc,Function.comp]at hm;obtain⟨i,hi,e⟩:=hm;exact hid i hi e)
   refine⟨upd get ((List.range p).map fun i=>(ρ (f i),F1 i)),fun q hq=> ?_,fun id=> ?_,?_⟩
   ·obtain⟨⟨i,o'⟩,h1,h2⟩:=je.1 hq;have hi:i<p:=by have:i∈a.2.map (·.1):=Oa.2 ⟨_,h1,rfl⟩;rw[V,w1]at d;exact Oc.1 d
    cases A:trO P (fun i=>ρ (f i)) (lk a.2) o' with
    |none=>simp only[A]at h2;cases h2
    |some ob'=> simp only[A,Kb,Option.some.injEq]at h2;subst h2;show upd get _ (ρ (f i))=some ob';rw[bl i hi];exact bj i o' ob' (Mm av h1) A
   ·by_cases b7: ∃i,i<p/\ρ (f i)=id
    ·obtain⟨i,hi,rfl⟩:=b7;obtain⟨o,o',ob,ob',q1,O,q3,q4,q5,q6,_⟩:=dd i hi;exact .inr ⟨ob,ob',q6,by rw[bl i hi];exact bj i o' ob' O q4,q5⟩
    ·rw[bm id (fun i hi e=>b7 ⟨i,hi,e⟩)];cases hg:get id with
     |none=>exact .inl ⟨rfl,rfl⟩
     |some o=>exact .inr ⟨o,o,rfl,rfl,WkOZ.refl o⟩
   ·funext id;rw[<-Na,Nz get];by_cases b5:id∈((b.2.map fun o=>(ρ (f o.1),trO P (fun i=>ρ (f i)) (hOut con a.2 b.2) o.2))++(L.map fun o=>(ρ (f o.1),(none:Option OB)))).map (·.1)
    ·exact bM b5
    ·rw[yj b5,yj b5];by_cases b7: ∃i,i<p/\ρ (f i)=id
     ·obtain⟨i,hi,rfl⟩:=b7;obtain⟨o,o',ob,ob',q1,O,q3,q4,q5,q6,q7⟩:=dd i hi;have B:memN i con.cst=true:=by
       cases B:memN i con.cst with
       |true=>rfl
       |false=>
        exfalso;apply b5;rw[yc];cases c6:memN i (con.outS.objs.map (·.1))with
        |true=> have:=ZG.1 c6;rw[<-W]at d;obtain⟨z,J,e⟩:=Oa.1 d;refine Ae _ (Oa.2 ⟨_,Oa.2 ⟨z,J,rfl⟩,?_⟩);simp only[e]
        |false=>
         have cm:i∈con.inS.objs.map (·.1):=by rw[w1];exact Oc.2 hi
         obtain⟨z,J,e⟩:=Oa.1 cm;refine Af _ (Oa.2 ⟨_,Oa.2 ⟨z,?_,rfl⟩,?_⟩)
         ·rw[<-hL];refine Je.2 ⟨J,?_⟩;simp only[e,B,c6];rfl
         ·simp only[e]
      rw[bl i hi,bj i o' ob' O q4];by_cases hs:i∈(Eh h m con.cst a.2).map (·.1)
      ·obtain⟨os,du⟩:=Zf hs;have de:=(aw i os du).1;rw[O]at de;cases de
       -- the first entry of that number
       have: ∀(l:EHeap I.C),(∀z∈l,lk a.2 z.1=some z.2)->i∈l.map (·.1)->upd get (l.map fun o=>(ρ (f o.1),trO P ρ (aft h res.up) (rnEO f o.2))) (ρ (f i))=some ob':=by
        intro l
        induction l with
        |nil=>intro _ hm;cases hm
        |cons z r ih=>
         intro J hm;simp only[aa,upd];by_cases e:ρ (f i)=ρ (f z.1)
         ·rw[La e];have ao:z.1<p:=by have:=J z (Jb ..);have hk:z.1∈a.2.map (·.1):=Oa.2 ⟨_,Zg d,rfl⟩;rw[V,w1]at hk;exact Oc.1 hk
          have e2:=ar i z.1 hi ao e;have al:=J z (Jb ..);rw[<-e2,O]at al;cases al;rw[da i _ O];exact q4
         ·rw[Ha e];refine ih (fun z dv=>J z (Eb _ dv)) ?_;simp only[aa,ma]at hm;exact hm.resolve_left (fun e3=>e (by rw[e3]))
       rw[d _ (fun z J=>Mm av (Z a.2 z J).1) hs]
      ·have bo:ρ (f i) ∉ ((Eh h m con.cst a.2).map fun o=>(ρ (f o.1),trO P ρ (aft h res.up) (rnEO f o.2))).map (·.1):=by
        intro hm;rw[Ac]at hm;obtain⟨z,J,e⟩:=Oa.1 hm;have al:=(Z a.2 z J).1;have ao:z.1<p:=by have hk:z.1∈a.2.map (·.1):=Oa.2 ⟨_,al,rfl⟩;rw[V,w1]at hk;exact Oc.1 hk
        have:=ar z.1 i ao hi e;exact hs (Oa.2 ⟨z,J,d⟩)
       rw[yj bo,q6];congr 1;rcases cj i o hi q1 with⟨t,l,rfl⟩|⟨ty,cs,rfl⟩
       ·rw[q7 t l rfl]at q4;have:some ob=some ob':=by rw[<-q3,<-q4];rfl
        injection d with d;exact d.symm
       ·refine zEI q5 ?_;simp only[trO,Option.some.injEq]at q3;subst q3;intro row hrow z J;simp only[Sa]at hrow;subst hrow;obtain⟨v,dy,rfl⟩:=Oa.1 J;refine zAc ?_;cases ea:Js v with
        |false=>rfl
        |true=> exfalso;exact hs (br a.2 i o' (Zg O) B hi ⟨ty,cs,q1,List.any_eq_true.2 ⟨v,dy,ea⟩⟩)
     ·rw[bm id (fun i hi e=>b7 ⟨i,hi,e⟩)];have bo:id ∉ ((Eh h m con.cst a.2).map fun o=>(ρ (f o.1),trO P ρ (aft h res.up) (rnEO f o.2))).map (·.1):=by
       intro hm;rw[Ac]at hm;obtain⟨z,J,e⟩:=Oa.1 hm;have al:=(Z a.2 z J).1;have ao:z.1<p:=by have hk:z.1∈a.2.map (·.1):=Oa.2 ⟨_,al,rfl⟩;rw[V,w1]at hk;exact Oc.1 hk
       exact b7 ⟨z.1,ao,e⟩
      rw[yj bo]
 ·obtain⟨i,hi,h2⟩:=je.1 hq;cases ho:h (f i)with
  |none=>rw[ho]at h2;cases h2
  |some o=>
   rw[ho]at h2;cases A:trO P ρ h o with
   |none=>simp only[Aa,A]at h2;cases h2
   |some ob=> simp only[Aa,A,Kb,Option.some.injEq]at h2;subst h2;have:=hv.heap (f i) o (by rw[hh];exact ho);rw[hh,A]at d;exact d
 ·obtain⟨i,hi,h2⟩:=je.1 hq;have hi:=Oc.1 hi;obtain⟨c,o,o',k1,k2,k3,_⟩:=a3 i hi;have c7:=fin i c hi k2;have eb:q.1=ρ c:=by
   rw[c7]at h2;cases A:(h c).bind (trO P ρ h)with
   |none=>rw[A]at h2;cases h2
   |some ob=>rw[A]at h2;simp only[Kb,Option.some.injEq]at h2;rw[<-h2]
  rw[eb,ct];exact Oa.2 ⟨c,je.2 ⟨(i,some c),Zg k2,rfl⟩,rfl⟩
 ·rw[b6]at hq;have bp: ∀i,p<=i->h (f i)=none:=by
   intro i hi;cases ec:h (f i)with
   |none=>rfl
   |some o=> have:=(hv.wfh _ o (by rw[hh];exact ec)).1;rw[a6 i hi]at d;omega
  rcases Bc.1 hq with hq|hq
  ·obtain⟨⟨i,o⟩,ho,rfl⟩:=Oa.1 hq;rcases Yc i p with hi|hi
   ·obtain⟨_,_,s,g1,g2⟩:=U i (Oa.2 ⟨_,ho,rfl⟩) hi;obtain⟨ty,cs,g3⟩:=an i hi s g1 g2;obtain⟨ap,aq,g4⟩:=a7 i o ho hi;obtain⟨_,ob,A⟩:=a9 i hi;refine .inr ⟨ob,A, .inl ?_⟩;have h1:=ad i hi;rw[Zc A,Zc g3]at h1;simp only[EC,h1,g4];rfl
   ·exact .inl (bp i hi)
  ·rcases Bc.1 hq with hq|hq
   ·obtain⟨z,J,rfl⟩:=Oa.1 hq;obtain⟨w,hw,rfl⟩:=Oa.1 J;have hi:=dt w hw;obtain⟨_,ob,A⟩:=a9 w.1 hi;refine .inr ⟨ob,A,?_⟩;simp only[A];rcases cj w.1 ob hi A with⟨t,l,rfl⟩|⟨ty,cs,rfl⟩
    ·exact .inl rfl
    ·exact .inr ⟨rfl,rfl⟩
   ·obtain⟨z,J,rfl⟩:=Oa.1 hq;have al:=(Z a.2 z J).1;have hi:z.1<p:=by have hk:z.1∈a.2.map (·.1):=Oa.2 ⟨_,al,rfl⟩;rw[V,w1]at hk;exact Oc.1 hk
    obtain⟨_,ob,A⟩:=a9 z.1 hi;refine .inr ⟨ob,A, .inl ?_⟩;have h1:=ad z.1 hi;rw[Zc A,Zc (Mm av al)]at h1;simp only[EC,h1]
end
section
variable {P:Program} {I:Ip} {X:Cx I} {ρ:Nat->Nat} {G:Get} {st:ES I.C} {e:Env} {lh:LH} {q:Path} {R:Type} {r0:R} {K:Kt I R} {nt:Nat} {ops:List Oper}
def gOf(X:Cx I)(st:ES I.C)(q:Path):Option Bool:=match q with|[]=>none|q=>some (qB (lkE X st) q)
theorem DD{c:Nat×Bool}{r:Path}:gOf X st (c::r)=some (qB (lkE X st) (c::r)):=rfl
theorem N8(hv:Vw P X ρ G st e lh){g:Option (Nat×Bool)}(i:guardE X ops st g=some q):qL ops e g=some (gOf X st q):=by
 unfold guardE at i;split at i
 ·cases i;rfl
 ·rename_i j f;split at i
  ·rename_i o ho;split at i
   ·rename_i d p;simp only[qL,ho,Aa,p];rw[hv.env d];split at i
    ·rename_i b hl;cases i;simp only[hl,trL,trT,trV,pvE,DD,qB,Ci];cases f<;>cases b<;>rfl
    ·rename_i ks b hl;cases i;simp only[hl,trL,trT,trV,pvE,DD];cases ks with
     |nil=>simp only[qB,Ci,hl];cases f<;>cases b<;>rfl
     |cons c r=>
      have:qB (lkE X st) ((d,f)::c::r)=(litB f b&&qB (lkE X st) (c::r)):=by simp only[qB,Ci,hl]
      rw[m];cases qB (lkE X st) (c::r)<;>cases f<;>cases b<;>rfl
    ·cases i
   ·cases i
  ·cases i
theorem OpOK.rd_mono{o:Oper}{s:TS}{g:Option Bool}{val:LV}{up:List (Nat×Option OB)}{rd c:List Nat}{nx k:Nat}(h:OpOK P nt ops o ⟨g,val,up,rd,nx,k⟩ s)(hr: ∀i∈rd,i∈c):OpOK P nt ops o ⟨g,val,up,c,nx,k⟩ s:=
 ⟨h.dst,h.nx,fun ι a w e' get' N f j m ha hb d=>h.run ι a w e' get' N f j m ha (fun id hid=>hb id (hid.imp (hr id) (fun h=>h))) d⟩
theorem dO(hv:Vw P X ρ G st e lh)(c:q=[]\/qB (lkE X st) q=true): ∀(xs:List Operand) (as:List (ET I.C)),allE q (xs.map (opdE X st))=some as->allT (xs.map (opd (Zl e)))=some (true,as.map (trT ρ (lkO X st)))
 |[],as,h=>by simp only[ic,allE,Option.some.injEq]at h;subst h;rfl
 |x::r,as,h=>by
  simp only[aa,allE]at h;split at h
  ·rename_i t l h1 h2;cases h;simp only[aa,allT,Tt hv c x t h1,dO hv c r l h2,Vb]
  ·cases h
theorem zdf.full {f:FuncId} {as bs:List TV} {rd:List (Nat×OB)} {nx k:Nat} {val:LV} {up:List (Nat×Option OB)} (h:zdf P f bs rd nx k val up) (hl:as.length=bs.length)
  (r: ∀(j:Nat) (t:TV),as[j]? =some t-> ∃d,bs[j]? =some d/\ ∀ι w u,repT ι w t u->repT ι w d u):zdf P f as rd nx k val up:=
 ⟨h.fn,fun ι get w N vs v y hf ha hr=>h.ok ι get w N vs v y hf ⟨ha.1.trans hl,fun j d c=>by
  have p:j<as.length:=by rw[hl];exact(Fa.1 c).1
  obtain⟨t2,h2,h3⟩:=r j _ (Ma p);rw[c]at h2;cases h2;obtain⟨u,i,m⟩:=ha.2 j _ (Ma p);exact⟨u,i,h3 _ _ _ m⟩⟩ hr⟩
theorem zC8{ρ:Nat->Nat}{h:Nat->Option (EO I.C)}{a:ET I.C}{ι:Asg}{w:World}{u:Value}(hu:repT ι w (trT ρ h a) u):repT ι w (trT ρ h (unF a)) u:=by
 unfold unF;split
 ·exact⟨hu.1,hu.2.1⟩
 ·exact hu
theorem AR{h:Nat->Option (EO I.C)}{n f:Nat}{as:List (ET I.C)}{g:Bool}(i:q=[]\/g=true): ∀{S:List (Con I)},wm h n f as q g K S=some r0-> ∃con∈S,con.f=f/\ ∃x m y,(con.inS.sl I).mat as (nrmH h) []=some (x,m)/\(m.all fun z=>Nat.blt z.1 con.inS.objs.length)=true/\pg m=[]/\con.F x=some y/\K (oh con h n m x y)=some r0
 |[],h0=>by cases h0
 |con::r,h0=>by
  simp only[wm]at h0;have j:wm h n f as q g K r=some r0-> ∃d∈con::r,d.f=f/\ ∃x m y,(d.inS.sl I).mat as (nrmH h) []=some (x,m)/\(m.all fun z=>Nat.blt z.1 d.inS.objs.length)=true/\pg m=[]/\d.F x=some y/\K (oh d h n m x y)=some r0:=by intro h1;obtain⟨c,h2,h3⟩:=AR i h1;exact⟨c,Eb _ h2,h3⟩
  cases hb:Nat.beq con.f f with
  |false=>rw[hb]at h0;exact j h0
  |true=>
   rw[hb]at h0;simp only[Ka]at h0;split at h0
   ·rename_i x m hm;refine⟨con,Jb ..,Bb hb,x,m,?_⟩;unfold UA at h0;cases ha:m.all fun z=>Nat.blt z.1 con.inS.objs.length with
    |false=>rw[ha]at h0;cases h0
    |true=>
     rw[ha]at h0;simp only[Ka]at h0;split at h0
     case h_2=>cases h0
     rename_i hn;split at h0
     ·obtain⟨y,h1,h2⟩:=Ca.1 h0;exact⟨y,hm,rfl,hn,h1,h2⟩
     ·obtain⟨_,h1⟩:=zl h0;obtain⟨y,h2,h3⟩:=Ca.1 h1;rcases i with i|i
      ·simp_all
      ·subst i;exact⟨y,hm,rfl,hn,h2,h3⟩
     ·rcases i with i|i
      ·simp_all
      ·subst i;simp only[Ka]at h0;obtain⟨y,h2,h3⟩:=Ca.1 h0;exact⟨y,hm,rfl,hn,h2,h3⟩
   ·exact j h0
def roOf(P:Program)(X:Cx I)(ρ:Nat->Nat)(st:ES I.C)(lh:LH)(q:Path)(res:OR I.C):RO:=
 ⟨gOf X st q,trL ρ (aft (lkO X st) res.up) (lkE X st) res.val,trU P ρ (aft (lkO X st) res.up) res.up,res.rd.map ρ,lh.next,res.k⟩
theorem aH(h:Nat->Option (EO I.C))(up:EHeap I.C):(trU P ρ h up).map (·.1)=up.map fun p=>ρ p.1:=by simp[trU,Ac]
theorem wF(hI:IpOK P I)(hT:TOK P X.T X.fk){S:List (Con I)}(hS: ∀c∈S,zn P c)(hv:Vw P X ρ G st e lh){fz:Nat}{o:Oper}(hg:guardE X ops st o.guard=some q)(h0:opE X S fz st q (qB (lkE X st) q) o.op K=some r0):
  ∃res,K res=some r0/\((∀d,o.dst=some d->d<nt)->OpOK P nt ops o (roOf P X ρ st lh q res) ⟨e,lh.get,lh.next⟩)/\Hr (lkO X st) res.up/\(gOf X st q=some false->res.up=[]):=by
 have A:=N8 hv hg;by_cases z:q=[]\/qB (lkE X st) q=true
 ·have B:gOf X st q≠some false:=by
   cases q with
   |nil=>simp[gOf]
   |cons c r=>
    rcases z with z|z
    ·cases z
    ·rw[DD,z];simp
  by_cases L: ∀c f,o.op= .call c->c.callee≠ .value f
  ·obtain⟨res,h1,h2,h3⟩:=zEJ hI hT hv z L h0;refine⟨res,h1,fun O=> ?_,h2.inf,fun hf=>absurd hf B⟩;unfold roOf;refine eP (s:=⟨e,lh.get,lh.next⟩) (k:=res.k) A O fun _=>⟨h2.pre,fun ι w get' v w' hn a5=>h2.good ι w get' v w' hn a5,fun id hid=> ?_,h3⟩;rcases h2.rd id hid with h|h
   ·exact .inl h
   ·exact .inr (by rw[aH];exact h)
  ·have: ∃c cf,o.op= .call c/\c.callee= .value cf:=by apply Li;intro a6;exact L fun c f h1 h2=>a6 ⟨c,f,h1,h2⟩
   obtain⟨c,cf,ho,U⟩:=ab;rw[ho]at h0;simp only[opE,U]at h0;obtain⟨fc,h1,h2⟩:=zk h0;obtain⟨as,h3,h4⟩:=zk h2;obtain⟨con,c1,c2,x,m,y,d1,d2,d3,d4,d5⟩:=AR z h4;obtain⟨a7,k1,k2,k3,k4⟩:=O3 hI hv (hS con c1) d1 d2 d3 d4;refine⟨_,d5,fun O=> ?_,k4,fun hf=>absurd hf B⟩;obtain⟨f,caps⟩:=fc;have hcl:useE q (opdE X st cf)=some (.c (.clo f caps)):=by
    unfold cloE at h1;split at h1
    ·rename_i f' a8 hu;cases h1;exact hu
    ·cases h1
   -- at the place, by values that are there
   have a9:=Tt hv z cf _ hcl;have V:=dO hv z _ _ h3;have k1:=k1.full (as:=(as++caps.map capE).map (trT ρ (lkO X st))) (by simp) (fun j t ht=>by
    rw[yc]at ht ⊢;by_cases hj:j<as.length
    ·rw[Fb (by simpa using hj)]at ht;rw[Fb (by simpa using hj),Ac,Ta];rw[Ta]at ht;obtain⟨a,ha,rfl⟩:=Lb.1 ht;exact⟨_,by rw[ha];rfl,fun ι w u hu=>zC8 hu⟩
    ·rw[Xc (by simpa using hj)]at ht;rw[Xc (by simpa using hj)];exact⟨t,by simpa using ht,fun _ _ _ h=>h⟩)
   have W:(as++caps.map capE).map (trT ρ (lkO X st))=as.map (trT ρ (lkO X st))++(caps.map fun q=>(ρ q.1,q.2)).map capT:=by rw[yc,Ac,Ac];rfl
   rw[W]at k1;simp only at c2;rw[c2]at k1;have J:=zpg (nt:=nt) (ops:=ops) (o:=o) (s:=⟨e,lh.get,lh.next⟩) (g:=gOf X st q) (c:=c) (cf:=cf) (f:=f) (caps:=caps.map fun q=>(ρ q.1,q.2)) (as:=as.map (trT ρ (lkO X st))) (rd:=a7) A O ho U (by simpa [trT,trV] using a9) V k1 k2;refine J.rd_mono fun i hi=> ?_;obtain⟨p,hp,rfl⟩:=Oa.1 hi;exact k3 p hp
 ·have Y:q≠[]:=fun h=>z (.inl h);have Z:qB (lkE X st) q=false:=by
   cases hb:qB (lkE X st) q with
   |false=>rfl
   |true=>exact absurd (.inr hb) z
  have a3:gOf X st q=some false:=by
   cases q with
   |nil=>exact absurd rfl Y
   |cons c r=>rw[DD,Z]
  obtain⟨res,h1,h2⟩:=zCE (.inr Z) h0;have hu:res.up=[]:=h2.resolve_left Y;refine⟨res,h1,fun O=> ?_,fun p hp=>(by rw[hu]at hp;cases hp),fun _=>hu⟩;rw[a3]at A;unfold roOf;rw[a3];exact eP (s:=⟨e,lh.get,lh.next⟩) A O fun h=>absurd rfl h
end
section
variable {P:Program} {I:Ip} {X:Cx I} {ρ:Nat->Nat} {G:Get} {st:ES I.C} {e:Env} {lh:LH} {q:Path} {nt:Nat} {ops:List Oper}
theorem ED{n m:Nat}(h:n<=m){x:EV I.C}(c:wfV n x=true):wfV m x=true:=by
 cases x<;>simp only[wfV]at c ⊢
 case own id=>exact Zm.2 (Mc (Zm.1 c) h)
 case osl id _ _=>exact Zm.2 (Mc (Zm.1 c) h)
 case optr id _ _=>exact Zm.2 (Mc (Zm.1 c) h)
 case mref id=>exact Zm.2 (Mc (Zm.1 c) h)
 case clo f caps=> rw[Xa]at c ⊢;exact fun q d=>Zm.2 (Mc (Zm.1 (c q d)) h)
theorem UH{n m:Nat}(h:n<=m){x:ET I.C}(d:wfT n x=true):wfT m x=true:=by
 cases x with
 |c x=>exact ED h d
 |agg xs=> simp only[wfT,Xa]at d ⊢;exact fun v hv=>ED h (d v hv)
theorem MO{n m:Nat}(h:n<=m){x:EL I.C}(c:wfL n x=true):wfL m x=true:=by
 cases x with
 |any=>rfl
 |v t=>exact UH h c
 |opt ks t=>exact UH (x:=t) h c
 |tup ts=> simp only[wfL,Xa]at c ⊢;exact fun t ht=>UH h (c t ht)
theorem VH{n m:Nat}(h:n<=m){x:EO I.C}(c:wfO n x=true):wfO m x=true:=by
 cases x with
 |cells ty cs=> simp only[wfO,Xa]at c ⊢;exact fun v hv=>ED h (c v hv)
 |slo t l1 cs l2=> simp only[wfO,Xa]at c ⊢;exact fun v hv=>ED h (c v hv)
 |_=>rfl
theorem bB{h h':Nat->Option (EO I.C)}{n:Nat}(hi: ∀id,id<n->El (infO h id) (infO h' id)){x:EV I.C}(c:wfV n x=true):trV ρ h' x=trV ρ h x:=by
 refine VD (n:=n) (fun _ _=>rfl) (fun id hid=> ?_) c;rcases hi id hid with h1|⟨h1,h2⟩
 ·rw[h1];cases infO h id with
  |some i=>rfl
  |none=>exact .inl rfl
 ·rw[h1,h2];exact .inr rfl
theorem bH{h h':Nat->Option (EO I.C)}{n:Nat}(hi: ∀id,id<n->El (infO h id) (infO h' id)){x:ET I.C}(d:wfT n x=true):trT ρ h' x=trT ρ h x:=by
 cases x with
 |c x=>exact congrArg TV.c (bB hi d)
 |agg xs=> simp only[wfT,Xa]at d;simp only[trT];congr 1;exact Ya fun v hv=>bB hi (d v hv)
theorem zAM{h h':Nat->Option (EO I.C)}{n:Nat}(hi: ∀id,id<n->El (infO h id) (infO h' id)){o:EO I.C}(c:wfO n o=true):trO P ρ h' o=trO P ρ h o:=by
 cases o with
 |cells ty cs=> simp only[wfO,Xa]at c;simp only[trO];rw[Ya fun v hv=>bB hi (c v hv)]
 |slo t l1 cs l2=> simp only[wfO,Xa]at c;simp only[trO];rw[Ya fun v hv=>bB hi (c v hv)]
 |_=>rfl
theorem DK{E d:Nat->Option (EL I.C)}: ∀{ks:Path},(∀k∈ks,Ci d k.1=Ci E k.1)->qB d ks=qB E ks
 |[],_=>rfl
 |[(t,w)],h=>by simp only[qB,h (t,w) (Jb ..)]
 |(t,w)::c::r,h=>by simp only[qB,h (t,w) (Jb ..)];rw[DK (fun k hk=>h k (Eb _ hk))]
theorem zAL{h h':Nat->Option (EO I.C)}{E d:Nat->Option (EL I.C)}{n:Nat}(hi: ∀id,id<n->El (infO h id) (infO h' id)){x:EL I.C}(c:wfL n x=true)(hk: ∀ks t,x= .opt ks t-> ∀k∈ks,Ci d k.1=Ci E k.1):trL ρ h' d x=trL ρ h E x:=by
 cases x with
 |any=>rfl
 |v t=>exact congrArg LV.v (bH hi c)
 |opt ks t=> simp only[trL];rw[DK (hk ks t rfl),bH hi (x:=t) c]
 |tup ts=> simp only[wfL,Xa]at c;simp only[trL];congr 1;exact Ya fun t ht=>bH hi (c t ht)
theorem RJ{d:Nat}: ∀{l:EEnv I.C},Ep d l=true-> ∀t ks x,(t,EL.opt ks x)∈l-> ∀k∈ks,k.1≠d
 |[],_,t,ks,x,h=>by cases h
 |p::r,hn,t,ks,x,h=>by
  obtain⟨t0,y⟩:=p;rcases ma.1 h with h|h
  ·cases h;simp only[Ep]at hn;intro k hk e;have:(ks.any fun k=>Nat.beq k.1 d)=true:=List.any_eq_true.2 ⟨k,hk,by rw[e];exact Yf d⟩;rw[f]at hn;cases hn
  ·refine RJ (l:=r) ?_ t ks x h;cases y<;>simp only[Ep]at hn<;>first|exact hn|skip;rename_i c i;cases hb:(c.any fun k=>Nat.beq k.1 d)with
   |true=>rw[hb]at hn;cases hn
   |false=>rw[hb]at hn;exact hn
def PN(X:Cx I)(st:ES I.C)(id:Nat):Prop:=(∃o,lkO X st id=some o)\/st.next<=id
theorem Vw.pinj(hv:Vw P X ρ G st e lh){i j:Nat}(hi:PN X st i)(d:PN X st j)(f:ρ i=ρ j):i=j:=by
 rcases hi with⟨o,ho⟩|hi<;>rcases d with⟨o2,c⟩|d
 ·exact hv.inj i j o o2 ho c f
 ·have h1:=hv.lt i (hv.wfh i o ho).1;have h2:=hv.up j d;omega
 ·have h1:=hv.lt j (hv.wfh j o2 c).1;have h2:=hv.up i hi;omega
 ·have h1:=hv.up i hi;have h2:=hv.up j d;omega
theorem gp{o:Oper}{res:OR I.C}:lkO X (ui o q st res)=aft (lkO X st) res.up:=by funext id;simp only[lkO,ui,aft,qg];cases lk res.up id<;>rfl
theorem vC{o:Oper}{res:OR I.C}(t:Nat):lkE X (ui o q st res) t=if o.dst=some t then some (putL q res.val)else lkE X st t:=by
 simp only[lkE,ui];cases c:o.dst with
 |none=>simp
 |some d=>
  simp only[Option.some.injEq];rw[Zk];by_cases ht:t=d
  ·subst ht;simp
  ·rw[Ha ht,Ha (Ne.symm ht)]
theorem eB(hv:Vw P X ρ G st e lh){o:Oper}{res:OR I.C}(Z:Vk X nt o q st res=true)(a5:Hr (lkO X st) res.up)(a9:gOf X st q=some false->res.up=[]):
  Vw P X ρ G (ui o q st res) (put e o.dst (roOf P X ρ st lh q res).v) ⟨lh.next+res.k,upd lh.get (roOf P X ρ st lh q res).u⟩:=by
 simp only[Vk,Da]at Z;obtain⟨⟨⟨⟨k1,k2⟩,k3⟩,k4⟩,k5⟩:=Z;have z: ∀p∈res.up,p.1<st.next+res.k/\wfO (st.next+res.k) p.2=true/\lk X.frh p.1=none/\PN X st p.1:=by
  intro p hp;have:=Xa.1 k4 p hp;simp only[Da]at f;obtain⟨⟨⟨a1,a2⟩,a3⟩,a4⟩:=f;refine⟨Zm.1 a1,a2,?_,?_⟩
  ·cases hl:lk X.frh p.1 with
   |none=>rfl
   |some o=>rw[hl]at a3;cases a3
  ·cases hl:lkO X st p.1 with
   |some o=>exact .inl ⟨o,hl⟩
   |none=>rw[hl]at a4;exact .inr (Rc a4)
 have B: ∀id,id<st.next->El (infO (lkO X st) id) (infO (aft (lkO X st) res.up) id):=by
  intro id hid;cases hl:lk res.up id with
  |none=> refine .inl ?_;simp only[infO,aft,hl]
  |some o'=>
   have hm:=Zg hl;have V:aft (lkO X st) res.up id=some o':=by simp only[aft,hl]
   rw[Zc V];rcases a5 _ hm with h1|⟨o0,h1,h2⟩
   ·rcases(z _ hm).2.2.2 with⟨o,ho⟩|ab
    ·rw[h1]at ho;cases ho
    ·simp only at ab;omega
   ·rw[Zc h1];exact h2
 have A: ∀k,(∀d,o.dst=some d->k≠d)->Ci (lkE X (ui o q st res)) k=Ci (lkE X st) k:=by intro k hk;simp only[Ci,vC];rw[Ha (fun h=>hk k h rfl)]
 have hu:upd lh.get (roOf P X ρ st lh q res).u=upd lh.get (trU P ρ (aft (lkO X st) res.up) res.up):=by
  unfold RO.u roOf;simp only;cases hg:gOf X st q with
  |none=>rfl
  |some b=>
   cases b with
   |true=>rfl
   |false=>rw[a9 hg];rfl
 have V: ∀id,PN X st id->upd lh.get (trU P ρ (aft (lkO X st) res.up) res.up) (ρ id)=(match lk res.up id with|some o=>trO P ρ (aft (lkO X st) res.up) o|none=>lh.get (ρ id)):=by
  intro id hid;have: ∀(l:EHeap I.C),(∀p∈l,PN X st p.1)->upd lh.get (trU P ρ (aft (lkO X st) res.up) l) (ρ id)=(match lk l id with|some o=>trO P ρ (aft (lkO X st) res.up) o|none=>lh.get (ρ id)):=by
   intro l
   induction l with
   |nil=>intro _;rfl
   |cons p r ih=>
    intro hp;obtain⟨j,o⟩:=p;simp only[trU,aa,upd];rw[Zk];by_cases W:id=j
    ·subst W;rw[La rfl,La rfl]
    ·rw[Ha W,Ha (fun e=>W (hv.pinj hid (hp (j,o) (Jb ..)) e))];exact ih (fun p ad=>hp p (Eb _ ad))
  exact f res.up (fun p hp=>(z p hp).2.2.2)
 have m: ∀id o,aft (lkO X st) res.up id=some o->PN X st id:=by
  intro id o ho;simp only[aft]at ho;cases hl:lk res.up id with
  |some o'=>exact(z _ (Zg hl)).2.2.2
  |none=>rw[hl]at ho;exact .inl ⟨o,ho⟩
 refine⟨fun t=> ?_,fun id ob ho=> ?_,fun i hi=> ?_,fun i j o1 o2 h1 h2 he=> ?_,fun id hid=> ?_,fun id hid=> ?_,fun t x L=> ?_,fun i ob ho=> ?_,fun i hi=> ?_,fun t x L=> ?_,fun id ob ho=> ?_⟩
 ·rw[uC,vC,gp];by_cases O:o.dst=some t
  ·rw[La O,La O];simp only;rw[O]at k1;simp only[Da]at k1;obtain⟨_,al⟩:=k1;have am:qB (lkE X (ui o q st res)) q=qB (lkE X st) q:=DK fun k hk=>A k.1 fun d U=>by rw[O]at U;cases U;have:=Xa.1 al k hk;intro e;rw[e,Yf]at f;cases f
   have a6: ∀E,trL ρ (aft (lkO X st) res.up) E res.val=trL ρ (aft (lkO X st) res.up) (lkE X st) res.val:=by
    intro E;cases J:res.val with
    |opt ks t=>rw[J]at k2;cases k2
    |_=>rfl
   cases q with
   |nil=>exact(a6 _).symm
   |cons c r=>
    show optV (qB (lkE X st) (c::r)) (trL ρ (aft (lkO X st) res.up) (lkE X st) res.val)=trL ρ _ _ (putL (c::r) res.val);cases J:res.val with
    |any=>rfl
    |v t=> simp only[trL,optV,putL];rw[am]
    |opt ks t=>rw[J]at k2;cases k2
    |tup ts=>rfl
  ·rw[Ha O,Ha O,hv.env t];cases hl:lkE X st t with
   |none=>rfl
   |some x=>
    simp only;refine(zAL (n:=st.next) B (hv.wfe t x hl) fun ks t0 L k hk=>A k.1 fun d U=> ?_).symm;rw[U]at k1;simp only[Da]at k1;obtain⟨⟨⟨⟨_,n1⟩,n2⟩,_⟩,_⟩:=k1;subst L;simp only[lkE]at hl;cases Y:lk st.env t with
    |some y=>rw[Y]at hl;cases hl;exact RJ n1 t ks t0 (Zg Y) k hk
    |none=>rw[Y]at hl;exact RJ n2 t ks t0 (Zg hl) k hk
 ·rw[gp]at ho ⊢;simp only[hu];rw[V id (m id ob ho)];simp only[aft]at ho;cases hl:lk res.up id with
  |some o'=>rw[hl]at ho;cases ho;rfl
  |none=> rw[hl]at ho;simp only;rw[hv.heap id ob ho];exact(zAM (n:=st.next) B (hv.wfh id ob ho).2).symm
 ·obtain⟨g1,g2⟩:=hv.oth i hi;have a7: ∀id,PN X st id->ρ id≠i:=by
   intro id hid e;rcases hid with⟨o,ho⟩|hid
   ·exact g2 id o ho e
   ·have:=hv.up id hid;have:=hv.glt i hi;omega
  refine⟨?_,fun id ob ho=> ?_⟩
  ·simp only[hu];rw[yj,g1];rw[aH];intro hm;obtain⟨p,hp,e⟩:=Oa.1 hm;exact a7 p.1 (z p hp).2.2.2 e
  ·rw[gp]at ho;exact a7 id (m id ob ho)
 ·rw[gp]at h1 h2;exact hv.pinj (m i o1 h1) (m j o2 h2) he
 ·have a8:id<st.next+res.k:=hid;show ρ id<lh.next+res.k;rcases Yc id st.next with h|h
  ·have:=hv.lt id h;omega
  ·have:=hv.up id h;omega
 ·have a8:st.next+res.k<=id:=hid;show ρ id=lh.next+res.k+(id - (st.next+res.k));have:=hv.up id (by omega);omega
 ·obtain⟨f1,f2⟩:=hv.fre t x L;refine⟨?_,f2⟩;rw[vC];by_cases O:o.dst=some t
  ·exfalso;rw[O]at k1;simp only[Da]at k1;have:=k1.1.2;rw[L]at f;cases f
  ·rw[Ha O];exact f1
 ·rw[gp];simp only[aft];cases hl:lk res.up i with
  |some o'=>
   have:=(z _ (Zg hl)).2.2.1;simp only at f;rw[ho]at f;cases f
  |none=>exact hv.fro i ob ho
 ·exact Mc (hv.glt i hi) (Sd _ _)
 ·rw[vC]at L;show wfL (st.next+res.k) x=true;split at L
  ·cases L;cases q with
   |nil=>exact k3
   |cons c r=>
    cases J:res.val with
    |v t=>rw[J]at k3;exact k3
    |_=>rfl
  ·exact MO (Sd _ _) (hv.wfe t x L)
 ·rw[gp]at ho;show id<st.next+res.k/\wfO (st.next+res.k) ob=true;simp only[aft]at ho;cases hl:lk res.up id with
  |some o'=>rw[hl]at ho;cases ho;exact⟨(z _ (Zg hl)).1,(z _ (Zg hl)).2.1⟩
  |none=> rw[hl]at ho;obtain⟨h1,h2⟩:=hv.wfh id ob ho;exact⟨Mc h1 (Sd _ _),VH (Sd _ _) h2⟩
end
section
variable {P:Program} {I:Ip} {X:Cx I} {ρ:Nat->Nat} {G:Get} {nt:Nat} {ops:List Oper} {R:Type} {r0:R}
theorem zBA{st:ES I.C}{o:Oper}{q:Path}{res:OR I.C}(c: ∀p∈res.up,PN X st p.1){id:Nat}(h:PN X (ui o q st res) id):PN X st id:=by
 rcases h with⟨ob,ho⟩|h
 ·rw[gp]at ho;simp only[aft]at ho;cases hl:lk res.up id with
  |some o'=>exact c _ (Zg hl)
  |none=>rw[hl]at ho;exact .inl ⟨ob,ho⟩
 ·exact .inr (Sb (Sd _ _) h)
theorem oJ(hI:IpOK P I)(W:TOK P X.T X.fk){S:List (Con I)}(Y: ∀c∈S,zn P c){fz:List Nat}{K:ES I.C->List Fp->Option R}: ∀(r:List Oper) (j:Nat) (st:ES I.C) (e:Env) (lh:LH) (fps:List Fp),Vw P X ρ G st e lh->opsE X S fz nt ops j r st fps K=some r0->
  ∃(zs:List (Oper×RO)) (v:ES I.C) (f:List Fp),zs.map (·.1)=r/\(∀(i:Nat) (o:Oper) (m:RO),zs[i]? =some (o,m)->OpOK P nt ops o m (runA (zs.take i) ⟨e,lh.get,lh.next⟩))/\
   Vw P X ρ G v (runA zs ⟨e,lh.get,lh.next⟩).e ⟨(runA zs ⟨e,lh.get,lh.next⟩).next,(runA zs ⟨e,lh.get,lh.next⟩).get⟩/\K v (fps++f)=some r0/\f.length=r.length/\
   (∀(i:Nat) (o:Oper) (m:RO) (u:Fp),zs[i]? =some (o,m)->f[i]? =some u->m.rd=u.1.map ρ/\m.up.map (·.1)=u.2.map ρ)/\(∀u∈f,∀id,(id∈u.1\/id∈u.2)->PN X st id)
 |[],j,st,e,lh,fps,hv,h0=>by
  refine⟨[],st,[],rfl,fun i o m h=>by simp at h,?_,?_,rfl,fun i o m u h=>by simp at h,fun u h=>by simp at h⟩
  ·exact hv
  ·simp only[opsE]at h0;rw[Ab];exact h0
 |o::r,j,st,e,lh,fps,hv,h0=>by
  simp only[opsE]at h0;split at h0
  ·cases h0
  ·rename_i q Z;obtain⟨res,h1,h2,h3,h4⟩:=wF (nt:=nt) (ops:=ops) hI W Y hv Z h0;obtain⟨A,h5⟩:=zl h1;have O:=eB hv A h3 h4;have hk:=A;simp only[Vk,Da]at hk;obtain⟨⟨⟨⟨k1,k2⟩,k3⟩,k4⟩,k5⟩:=hk;have U: ∀d,o.dst=some d->d<nt:=by intro d U;rw[U]at k1;simp only[Da]at k1;exact Zm.1 k1.1.1.1.1
   have B: ∀p∈res.up,PN X st p.1:=by
    intro p hp;have:=Xa.1 k4 p hp;simp only[Da]at J;have a4:=J.2;cases hl:lkO X st p.1 with
    |some o=>exact .inl ⟨o,hl⟩
    |none=>rw[hl]at a4;exact .inr (Rc a4)
   have V: ∀i∈res.rd,PN X st i:=by
    intro i hi;have a4:=Xa.1 k5 i hi;cases hl:lkO X st i with
    |some o=>exact .inl ⟨o,hl⟩
    |none=>rw[hl]at a4;exact .inr (Rc a4)
   obtain⟨zs,v,f,z1,z2,z3,z4,z5,z6,z7⟩:=oJ hI W Y r (j+1) (ui o q st res) _ _ _ O h5;refine⟨(o,roOf P X ρ st lh q res)::zs,v,(res.rd,res.up.map (·.1))::f,by simp[z1],fun i o' m y=> ?_,z3,?_,by simp[z5],fun i o' m u y hf=> ?_,fun u z id hid=> ?_⟩
   ·cases i with
    |zero=> simp only[De,Option.some.injEq,Prod.mk.injEq]at y;obtain⟨rfl,rfl⟩:=y;exact h2 U
    |L i=>exact z2 i o' m (by simpa using y)
   ·rw[Na]at z4;exact z4
   ·cases i with
    |zero=> simp only[De,Option.some.injEq,Prod.mk.injEq]at y hf;obtain⟨rfl,rfl⟩:=y;subst hf;refine⟨rfl,?_⟩;simp only[roOf,aH,Ac];rfl
    |L i=>exact z6 i o' m u (by simpa using y) (by simpa using hf)
   ·rcases ma.1 z with rfl|z
    ·rcases hid with hid|hid
     ·exact V id hid
     ·obtain⟨p,hp,rfl⟩:=Oa.1 hid;exact B p hp
    ·exact zBA B (z7 u z id hid)
theorem oP{x y:Oper}(h:dA ops x y=false):tconf ops x y=false:=by
 have c: ∀d l,memN d l=false->l.contains d=false:=by intro d l hm;have:=nR hm;simpa using f
 simp only[dA,Ke]at h;obtain⟨h1,h2⟩:=h;simp only[tconf,Ke];constructor
 ·cases j:x.dst with
  |none=>rfl
  |some d=>
   rw[j]at h1;simp only[Ke]at h1 ⊢;refine⟨c _ _ h1.1,?_⟩;cases i:y.dst with
   |none=>rfl
   |some e=>
    rw[i]at h1;have h3:=h1.2;simp only at h3;have:e≠d:=fun m=>by rw[m,Yf]at h3;cases h3
    simpa using f
 ·cases i:y.dst with
  |none=>rfl
  |some d=> rw[i]at h2;exact c _ _ h2
theorem jQ{a b:List Nat}(h:wo a b=false): ∀i∈a,i ∉ b:=by intro i hi hb;have:wo a b=true:=List.any_eq_true.2 ⟨i,hi,ZG.2 hb⟩;rw[h]at c;cases c
theorem uJ{fps:List Fp}: ∀(r:List Oper) (j:Nat) (acc:List (List Nat)),acc.length=j->(∀k,r[k]? =ops[j+k]?)->(∀m i,i∈acc.getD m []->Rch ops i m)->Lr ops fps j r acc=true->
  ∀i k x y a b,ops[i]? =some x->ops[k]? =some y->fps[i]? =some a->fps[k]? =some b->i<k->j<=k->Rch ops i k\/(dA ops x y=false/\fpB a b=false)
 |[],j,acc,_,hr,_,_,i,k,x,y,a,b,_,d,_,_,_,f=>by have:=hr (k - j);rw[show j+(k - j)=k by omega,d]at c;simp at c
 |o::r,j,acc,hl,hr,ha,h,i,k,x,y,a,b,A,d,p,u,v,f=>by
  have ho:ops[j]? =some o:=by have:=hr 0;simpa using c.symm
  simp only[Lr,Da,Xa,Oc]at h;obtain⟨h1,h2⟩:=h;have hcl: ∀i,i∈direct o++(direct o).flatMap (fun i=>acc.getD i [])->Rch ops i j:=by
   intro i hi;rcases Bc.1 hi with hi|hi
   ·exact .dir i j o ho hi
   ·obtain⟨m,hm,hi⟩:=Ub.1 hi;exact .tr i m j o ho hm (ha m i hi)
  rcases wh f with e|e
  ·subst e;rw[ho]at d;cases d;have:=h1 i v;rw[Ld]at c;rcases c with c|c
   ·exact .inl (hcl i (ZG.1 c))
   ·rw[A,p,u]at c;simp only[Da,xe]at c;exact .inr c
  ·refine uJ r (j+1) _ (by simp[hl]) (fun k=> ?_) (fun m i hi=> ?_) h2 i k x y a b A d p u v e
   ·have:=hr (k+1);rw[Ef]at c;rw[c];congr 1;omega
   ·rw[jc,ve]at hi;split at hi
    ·exact ha m i (by rw[jc];exact hi)
    ·rename_i hm;cases z:m - acc.length with
     |zero=>
      rw[z]at hi;have:m=j:=by omega
      subst c;exact hcl i (by simpa using hi)
     |B n=>rw[z]at hi;simp at hi
theorem XZ (hv: ∀d:Fp,True) {st:ES I.C} {e:Env} {lh:LH} (hV:Vw P X ρ G st e lh) {zs:List (Oper×RO)} {fps:List Fp} (c:zs.map (·.1)=ops) (hl:fps.length=ops.length)
  (Z: ∀(i:Nat) (o:Oper) (J:RO) (d:Fp),zs[i]? =some (o,J)->fps[i]? =some d->J.rd=d.1.map ρ/\J.up.map (·.1)=d.2.map ρ) (h7: ∀d∈fps,∀id,(id∈d.1\/id∈d.2)->PN X st id) (hd:Lr ops fps 0 ops []=true):fw ops zs:=by
 intro i k x y r q hi hk L;have hx:=Ns c hi;have hy:=Ns c hk;have O:i<fps.length:=by rw[hl];exact(Fa.1 hx).1
 have U:k<fps.length:=by rw[hl];exact(Fa.1 hy).1
 have f:fps[i]? =some fps[i]:=Ma O;have j:fps[k]? =some fps[k]:=Ma U;rcases uJ ops 0 [] rfl (fun k=>by simp) (fun m i h=>by simp at h) hd i k x y _ _ hx hy f j L (Pb _)with h|⟨h1,h2⟩
 ·exact .inl h
 ·refine .inr ⟨oP h1,?_⟩;obtain⟨a1,a2⟩:=Z i x r _ hi f;obtain⟨b1,b2⟩:=Z k y q _ hk j;have pa:=h7 _ (Ua f);have V:=h7 _ (Ua j);simp only[fpB,Ke]at h2;obtain⟨⟨c1,c2⟩,c3⟩:=h2;have p: ∀{u v:List Nat},wo u v=false->(∀id∈u,PN X st id)->(∀id∈v,PN X st id)-> ∀z∈u.map ρ,z ∉ v.map ρ:=by intro u v W hu hv z c Y;obtain⟨i1,A,rfl⟩:=Oa.1 c;obtain⟨i2,B,e⟩:=Oa.1 Y;have:=hV.pinj (hv i2 B) (hu i1 A) e;subst a3;exact jQ W i2 A B
  refine⟨fun z c=>⟨?_,?_⟩,fun z c=> ?_⟩
  ·rw[b1];rw[a2]at c;exact p c1 (fun id h=>pa id (.inr h)) (fun id h=>V id (.inl h)) z c
  ·rw[b2];rw[a2]at c;exact p c2 (fun id h=>pa id (.inr h)) (fun id h=>V id (.inr h)) z c
  ·rw[a1];rw[b2]at c;exact p c3 (fun id h=>V id (.inr h)) (fun id h=>pa id (.inl h)) z c
theorem zpq (hI:IpOK P I) (p:TOK P X.T X.fk) {S:List (Con I)} (r: ∀c∈S,zn P c) {fz:List Nat} {st:ES I.C} {e:Env} {lh:LH} (hv:Vw P X ρ G st e lh) {id:Nat} {d:Array Oper} {K:ES I.C->Option R} {Q:Post}
  (h0:opsE X S fz nt d.toList 0 d.toList st [] (fun f _=>K f)=some r0)
  (u: ∀f e' i,K f=some r0->Vw P X ρ G f e' i->Q .normal e' i):SW P nt (.region id d false) Q e lh:=by
 obtain⟨zs,f,j,m,v,y,z4,_⟩:=oJ (nt:=nt) (ops:=d.toList) hI p r d.toList 0 st e lh [] hv h0;exact VE (s0:=⟨e,lh.get,lh.next⟩) m ⟨m,v⟩ (u _ _ _ z4 y)
theorem zrx (i:P.follows .mixedOrders=true) (hI:IpOK P I) (u:TOK P X.T X.fk) {S:List (Con I)} (v: ∀c∈S,zn P c) {fz:List Nat} {st:ES I.C} {e:Env} {lh:LH} (hv:Vw P X ρ G st e lh) {id:Nat} {d:Array Oper} {K:ES I.C->Option R} {Q:Post}
  (h0:opsE X S fz nt d.toList 0 d.toList st [] (fun f fps=>cond (PG d.toList fps) (K f) none)=some r0)
  (y: ∀f e' j,K f=some r0->Vw P X ρ G f e' j->Q .normal e' j):SW P nt (.region id d true) Q e lh:=by
 obtain⟨zs,f,p,r,z,A,z4,B,z6,J⟩:=oJ (nt:=nt) (ops:=d.toList) hI u v d.toList 0 st e lh [] hv h0;obtain⟨m,L⟩:=zl z4;simp only[PG,Da,Kc]at m;exact KS (s0:=⟨e,lh.get,lh.next⟩) i ⟨r,z⟩ (XZ (fun _=>trivial) hv r B z6 J m.2) m.1 (y _ _ _ L A)
end
theorem DR{R:Type}{x y:Option R}{r:R}(h:both x y=some r):x=some r/\y=some r:=by
 unfold both at h;split at h
 ·rename_i c;exact⟨h,c▸h⟩
 ·cases h
theorem wQ{R:Type}{r:R}: ∀{l:List (Option R)},allB l=some r-> ∀x∈l,x=some r
 |[],h=>by cases h
 |[x],h=>fun y c=>by rw[Sa.1 c];exact h
 |x::z::l,h=>by
  obtain⟨h1,h2⟩:=DR h;intro y c;rcases ma.1 c with e|e
  ·subst e;exact h1
  ·exact wQ h2 y e
section
variable {P:Program} {nt:Nat} {ops:List Oper}
theorem OpOK.step {o:Oper} {r:RO} {s:TS} (h0:OpOK P nt ops o r s) {ι:Asg} {a:Act} {w:World} (f:Now ι nt s.e ⟨s.next,s.get⟩ a w) {K:Act->World->Prop} {Q:Exit->Act->World->Prop}
  (p: ∀ι' y w',Now ι' nt (Zi o r s).e ⟨(Zi o r s).next,(Zi o r s).get⟩ y w'->StK s.next ι w ι' w'->K y w'):if Region.wanted o (yielded ops.toArray a.tmps)=true then o.wp P a w K Q else K (a.put o.dst undef) w:=by
 obtain⟨c0,c1,c2⟩:=h0.run ι a w s.e s.get s.next f.rel f.free f.env (fun _ _=>rfl) (fun _ _=>rfl) (fun j _=>f.free _ (by rw[h0.nx];exact Sd _ _));have u:=h0.nx;have d:=h0.dst;have c: ∀{ι':Asg},(∀id,ι id= .free->(id<s.next\/s.next+r.k<=id)->ι' id= .free)->Qx ι' (s.next+r.k):=fun A id hid=>A id (f.free id (Sb (Sd _ _) hid)) (.inr hid);clear h0;obtain⟨g,val,up,rd,nx,k⟩:=r;simp only at*;subst u;cases g with
 |none=> rw[La (by simp[Region.wanted,c0])];exact(c2 (by simp)).wp fun B w' ⟨ι',g1,v,i,m⟩=>p ι' _ w' ⟨g1,c m,Jl (f.env.step i) d v⟩ ⟨i,fun id hid hf=>m id hf (.inl hid)⟩
 |some g=>
  have z:=c1 g rfl;cases g with
  |true=> rw[La z];exact(c2 (by simp)).wp fun B w' ⟨ι',g1,v,i,m⟩=>p ι' _ w' ⟨g1,c m,Jl (f.env.step i) d (wI v)⟩ ⟨i,fun id hid hf=>m id hf (.inl hid)⟩
  |false=> rw[Ha (by rw[z];simp)];exact p ι _ w ⟨f.rel,c (fun id h _=>h),Jl f.env d (nJ _)⟩ (StK.refl _ ι w)
variable {I:Ip} {X:Cx I} {ρ:Nat->Nat} {G:Get} {R:Type} {r0:R}
theorem zBD(hI:IpOK P I)(hT:TOK P X.T X.fk){S:List (Con I)}(hS: ∀c∈S,zn P c){fz:List Nat}{K:ES I.C->Option R}{Q:Post}(hQ: ∀a5 e' m,K a5=some r0->Vw P X ρ G a5 e' m->Q .normal e' m){ι0:Asg}{w0:World}{lh0:LH}:
  ∀(r:Nat) (f:Array Bool) (done:List Nat) (st:ES I.C) (e:Env) (lh:LH) (ι:Asg) (a:Act) (w:World),f.size=ops.length->(∀j,f.getD j false=memN j done)->(List.range ops.length).countP (fun j=> !listed.getD j false)<=r->
   Vw P X ρ G st e lh->anyE X S fz nt ops K r done st=some r0->Now ι nt e lh a w->StK lh0.next ι0 w0 ι w->lh0.next<=lh.next->
   wpAny P .any ops.toArray (fun x W w'=> ∃ι' e' m,Q x e' m/\Now ι' nt e' m W w'/\StK lh0.next ι0 w0 ι' w'/\lh0.next<=m.next) r f a w:=by
 intro r
 induction r with
 |zero=>
  intro f done st e lh ι a w Y O U hv h hN hst A;refine⟨?_,?_⟩
  ·rw[lg];intro j V;rw[mem_ready]at V;obtain⟨h1,o,ho,_⟩:=V;have u:j<ops.length:=by
    have:ops[j]? =some o:=by simpa using ho
    exact(Fa.1 B).1
   have h0:=List.countP_eq_zero.1 (Nat.le_zero.1 U) j (Oc.2 u);rw[Jd,Oe (by omega)]at h1 h0;simp at h1 h0;rw[h1]at h0;cases h0
  ·exact⟨ι,e,lh,hQ _ _ _ h hv,hN,hst,A⟩
 |ap r ih=>
  intro f done st e lh ι a w Y O U hv h hN hst A;have z: ∀j,j∈Region.ready .any ops.toArray f↔j∈jA ops done:=by
   intro j;unfold jA;rw[mem_ready,Je,Oc];constructor
   ·intro ⟨h1,o,ho,hr⟩;have v:ops[j]? =some o:=by simpa using ho
    have u:j<ops.length:=(Fa.1 v).1;refine⟨u,?_⟩;have hS:f.getD j false=false:=by rw[Jd,Oe (by omega)]at h1 ⊢;simpa using h1
    rw[v,<-O,hS];simp only[Ec,Vb,Xa];intro i hi;simp only[direct,Oa,Je]at hi;obtain⟨ed,⟨a9,ab⟩,rfl⟩:=hi;rw[<-O];exact hr ed (by simpa using a9) ab
   ·intro ⟨u,h1⟩;have v:ops[j]? =some ops[j]:=Ma u;rw[v,Da]at h1;obtain⟨h1,h2⟩:=h1;simp only[Xa]at h2;refine⟨?_,ops[j],by simp,fun ed ad hb=> ?_⟩
    ·have hS:f.getD j false=false:=by rw[O];simpa using h1
     rw[Jd,Oe (by omega)]at hS ⊢;simpa using hS
    ·rw[O];refine h2 ed.on ?_;simp only[direct,Oa,Je];exact⟨ed,⟨by simpa using ad,hb⟩,rfl⟩
  simp only[anyE]at h;refine⟨fun a6=> ?_,fun j V=> ?_⟩
  ·have hz:jA ops done=[]:=by rw[lg];intro j V;have:=(z j).2 V;rw[a6]at B;simp at B
   rw[hz]at h;exact⟨ι,e,lh,hQ _ _ _ h hv,hN,hst,A⟩
  ·have Z:=(z j).1 V;rw[mem_ready]at V;obtain⟨h1,o,ho,_⟩:=V;have v:ops[j]? =some o:=by simpa using ho
   have u:j<ops.length:=(Fa.1 v).1;have al:f.getD j false=false:=by rw[Jd,Oe (by omega)]at h1 ⊢;simpa using h1
   have a3: ∀i,(f.setIfInBounds j true).getD i false=(f.getD i false||i==j):=by
    intro i;by_cases y:i=j
    ·subst y;simp[Y,u]
    ·rw[getD_set_ne false (Ne.symm y)];simp[y]
   split at h
   ·rename_i hz;rw[hz]at Z;cases Z
   ·have J:=wQ h _ (Oa.2 ⟨j,Z,rfl⟩);rw[v]at J;simp only at J;split at J
    ·cases J
    ·rename_i q hg;obtain⟨res,r1,r2,r3,r4⟩:=wF (nt:=nt) (ops:=ops) hI hT hS hv hg J;obtain⟨a7,r5⟩:=zl r1;have am:=eB hv a7 r3 r4;have hk:=a7;simp only[Vk,Da]at hk;have an: ∀d,o.dst=some d->d<nt:=by intro d O;have k1:=hk.1.1.1.1;rw[O]at k1;simp only[Da]at k1;exact Zm.1 k1.1.1.1.1
     have L:=(r2 an).step (s:=⟨e,lh.get,lh.next⟩) hN (K:=wpAny P .any ops.toArray (fun x W w'=> ∃ι' e' m,Q x e' m/\Now ι' nt e' m W w'/\StK lh0.next ι0 w0 ι' w'/\lh0.next<=m.next) r (f.setIfInBounds j true)) (Q:=fun x W w'=> ∃ι' e' m,Q x e' m/\Now ι' nt e' m W w'/\StK lh0.next ι0 w0 ι' w'/\lh0.next<=m.next)
      (fun ι' W w' ao a8=>ih (f.setIfInBounds j true) (j::done) _ _ _ ι' W w' (by simpa using Y) (fun i=>by
        rw[a3,O];simp only[memN];by_cases y:i=j
        ·subst y;simp
        ·have:Nat.beq i j=false:=by
          cases hb:Nat.beq i j with
          |false=>rfl
          |true=>exact absurd (Bb hb) y
         simp[B,y]) (by
       have:=cnt_lt (l:=List.range ops.length) (p:=fun j=> !listed.getD j false) (q:=fun i=> !(f.setIfInBounds j true).getD i false) (fun x hx=>by
        simp only[a3]at hx ⊢;cases hb:f.getD x false<;>simp_all) (Oc.2 u) (by simp only[al];rfl) (by simp only[a3];simp)
       omega) am r5 ao (hst.trans a8 A) (Sb A (Sd _ _)))
     unfold wpOp;simp only[ho];split at L
     ·rename_i hw;rw[La hw];exact .inl L
     ·rename_i hw;rw[Ha hw];exact L
theorem C9 (m:P.follows .mixedOrders=true) (hI:IpOK P I) (z:TOK P X.T X.fk) {S:List (Con I)} (A: ∀c∈S,zn P c) {fz:List Nat} {st:ES I.C} {e:Env} {lh:LH} (hv:Vw P X ρ G st e lh) {id:Nat} {d:Array Oper} {K:ES I.C->Option R} {Q:Post}
  (h0:anyE X S fz nt d.toList K d.toList.length [] st=some r0)
  (B: ∀f e' r,K f=some r0->Vw P X ρ G f e' r->Q .normal e' r):SW P nt (.region id d true) Q e lh:=by
 intro ι a w i;refine wp_region_any m ?_;have f:Stp ι w ι {w with drawn:=w.drawn+1}:=⟨rfl,rfl,rfl,Va _,fun _ _ h=>h,fun _ h=>h,fun _ _=>rfl,fun _ _=> .inl rfl⟩;have v: ∀j,(Array.replicate d.size false).getD j false=false:=by intro j;rw[Jd,Array.getElem?_replicate];split<;>rfl
 have y:Now ι nt e lh a {w with drawn:=w.drawn+1}:=
  ⟨⟨fun id o ho=>let⟨b,h1,h2⟩:=i.rel.live id o ho;⟨b,h1,h2.step f (fun _ _=>rfl)⟩,i.rel.gone,i.rel.inj,i.rel.glob.step f⟩,i.free,i.env.step f⟩
 have:=zBD (ops:=d.toList) hI z A B (ι0:=ι) (w0:=w) (lh0:=lh) d.toList.length (Array.replicate d.size false) [] st e lh ι a {w with drawn:=w.drawn+1} (by simp) (fun j=>by rw[v];rfl)
  (by have:=List.countP_le_length (l:=List.range d.toList.length) (p:=fun j=> !(Array.replicate d.size false).getD j false);rwa [List.length_range]at u) hv h0 y ⟨f,fun id _ h=>h⟩ (Va _)
 simpa using u
end
section
variable {P:Program} {nt:Nat} {ops:List Oper} {I:Ip} {X:Cx I} {ρ:Nat->Nat} {G:Get} {R:Type} {r0:R}
theorem pQ{o:Oper}{w:Bool}{t:TypeId}{x:Operand}(h:Uv o=some (w,t,x)):(∃d,o.dst=some d)/\o.guard=none/\ ∃u,o.op= .binOp (cond w .eql .neq) t x (.const (.slice none 0 0)) u:=by
 unfold Uv at h;split at h
 ·rename_i d h1 h2 h3;cases h;exact⟨⟨_,h1⟩,h2,_,h3⟩
 ·rename_i d h1 h2 h3;cases h;exact⟨⟨_,h1⟩,h2,_,h3⟩
 ·cases h
theorem KP{ι:Asg}{w0:World}{get:Get}{a:Act}{o:Oper}{w:Bool}{t:TypeId}{x:Operand}{v:Value}{e:TypeId}(m:Rel ι get w0)(h:Uv o=some (w,t,x))(hk:kdOf P t= .sl e)(hv:a.eval x=v){f:Option Addr}{n c:Nat}(r:v= .slice f n c)(nx:Nat):
  Runs P a o w0 (Good ι w0 get nx 0 (.v (.c (.p (.at (.bool (cond w f.isNone !ad.isNone)))))) []):=by
 obtain⟨⟨d,h1⟩,h2,u,h3⟩:=pQ h;subst r;have i:=bg hk;refine .inl ⟨.bool (cond w f.isNone !ad.isNone),w0,?_,Qh m (Rj _)⟩;have hc:a.eval (.const (.slice none 0 0))= .slice none 0 0:=rfl;cases w with
 |true=> have j:=sO (P:=P) (w:=w0) .eql t x (.const (.slice none 0 0)) f none n c 0 0;have hb:=Lib.run_eql_slice_nil (P:=P) w0 t e f n c 0 0 i;simp[execOp,h3,hv,hc,Sem.run_bind,j,hb]
 |false=> have j:=sO (P:=P) (w:=w0) .neq t x (.const (.slice none 0 0)) f none n c 0 0;have hb:=run_neq_slice_nil_any (P:=P) w0 t e f n c 0 0 i;simp[execOp,h3,hv,hc,Sem.run_bind,j,hb]
theorem dG(hI:IpOK P I)(hT:TOK P X.T X.fk){S:List (Con I)}(hS: ∀c∈S,zn P c){fz:List Nat}{K:ES I.C->Option R}{Q:Post}(hQ: ∀a6 e' f,K a6=some r0->Vw P X ρ G a6 e' f->Q .normal e' f){ι0:Asg}{w0:World}{lh0:LH}:
  ∀(l:List Oper) (j:Nat) (st:ES I.C) (e:Env) (lh:LH) (ι:Asg) (a:Act) (w:World),Vw P X ρ G st e lh->seqN X S fz nt ops K j l st=some r0->Now ι nt e lh a w->StK lh0.next ι0 w0 ι w->lh0.next<=lh.next->
   wpList P ops.toArray (fun x V w'=> ∃ι' e' f,Q x e' f/\Now ι' nt e' f V w'/\StK lh0.next ι0 w0 ι' w'/\lh0.next<=f.next) l a w
 |[],j,st,e,lh,ι,a,w,hv,h,O,hst,B=>⟨ι,e,lh,hQ _ _ _ h hv,O,hst,B⟩
 |o::r,j,st,e,lh,ι,a,w,hv,h,O,hst,B=>by
  refine wpList_step fun K' a7=> ?_;simp only[seqN]at h;split at h
  ·rename_i wb t x W;obtain⟨⟨d,ao⟩,ab,u,hop⟩:=pQ W;rw[La (by simp[Region.wanted,ab])]
   -- whatever the test says, the rest is well
   have A: ∀b:Bool,cond (Vk X nt o [] st (okV (.bool b))) (seqN X S fz nt ops K (j+1) r (ui o [] st (okV (.bool b)))) none=some r0->Runs P a o w (Good ι w lh.get lh.next 0 (.v (.c (.p (.at (.bool b))))) [])->o.wp P a w K' (fun x V w'=> ∃ι' e' f,Q x e' f/\Now ι' nt e' f V w'/\StK lh0.next ι0 w0 ι' w'/\lh0.next<=f.next):=by
    intro b hb a8;obtain⟨J,r5⟩:=zl hb;have U:=eB (P:=P) (q:=[]) (res:=okV (.bool b)) hv J (fun p hp=>by cases hp) (fun hf=>by cases hf);have hk:=J;simp only[Vk,Da]at hk;have Y: ∀d,o.dst=some d->d<nt:=by intro d hd;have k1:=hk.1.1.1.1;rw[hd]at k1;simp only[Da]at k1;exact Zm.1 k1.1.1.1.1
    refine a8.wp fun v' w' ⟨ι',g1,g2,g3,g4⟩=>a7 _ _ ?_;have al:Qx ι' lh.next:=fun id hid=>g4 id (O.free id hid) (.inr (by simpa using hid));have Z:=Jl (O.env.step g3) Y g2;exact dG hI hT hS hQ r (j+1) _ _ _ ι' _ w' U r5 ⟨g1,al,Z⟩ (hst.trans ⟨g3,fun id hid hf=>g4 id hf (.inl hid)⟩ B) B
   unfold nilE at h;split at h
   ·rename_i e' u' l hk hx;have a3:=qf hT hk (by simp);have y:=zR (Bz O.env) x;have L:opd (Zl e) x= .v (.c (.p (.sl (l.map (I.full u'))))):=Tt (q:=[]) hv (.inl rfl) x (.c (.sl u' l)) (by rw[hx];rfl);rw[L]at y;have i:RepP (Dom ι w) w (.sl (l.map (I.full u'))) (a.eval x):=y.2;generalize a5:a.eval x=av at i;cases i with
    |sl rows ad n c k b o' val hn hc ha hD ap U hr=>
     have m:=KP (P:=P) (nx:=lh.next) O.rel W a3 a5 rfl;cases hl:l with
     |nil=>
      rw[hl]at h;simp only[List.isEmpty_nil,Ka]at h;obtain⟨h1,h2⟩:=DR h;cases ad with
      |none=>exact A wb h1 (by simpa using m)
      |some ad=>exact A (!wb) h2 (by cases wb<;>simpa using m)
     |cons z l'=>
      rw[hl]at h;simp only[List.isEmpty_cons,Ia]at h;have am:0<n:=by rw[hn,hl];simp
      have:=ha am;subst an;exact A (!wb) h (by cases wb<;>simpa using m)
   ·rename_i e' hk hx;have a3:=qf hT hk (by simp);have y:=zR (Bz O.env) x;have L:opd (Zl e) x= .v (.c (.p (.at (.slice none 0 0)))):=Tt (q:=[]) hv (.inl rfl) x (.c .nil) (by rw[hx];rfl);rw[L]at y;have i:RepP (Dom ι w) w (.at (.slice none 0 0)) (a.eval x):=y.2;generalize a5:a.eval x=av at i;cases i;have m:=KP (P:=P) (nx:=lh.next) O.rel W a3 a5 rfl;exact A wb h (by simpa using m)
   ·cases h
  ·split at h
   ·cases h
   ·rename_i q hg;obtain⟨res,r1,r2,r3,r4⟩:=wF (nt:=nt) (ops:=ops) hI hT hS hv hg h;obtain⟨J,r5⟩:=zl r1;have U:=eB hv J r3 r4;have hk:=J;simp only[Vk,Da]at hk;have Y: ∀d,o.dst=some d->d<nt:=by intro d hd;have k1:=hk.1.1.1.1;rw[hd]at k1;simp only[Da]at k1;exact Zm.1 k1.1.1.1.1
    exact(r2 Y).step (s:=⟨e,lh.get,lh.next⟩) O (K:=K') (Q:=fun x V w'=> ∃ι' e' f,Q x e' f/\Now ι' nt e' f V w'/\StK lh0.next ι0 w0 ι' w'/\lh0.next<=f.next)
     (fun ι' V w' Z a9=>a7 _ _ (dG hI hT hS hQ r (j+1) _ _ _ ι' V w' U r5 Z (hst.trans a9 B) (Sb B (Sd _ _))))
theorem A9 (hI:IpOK P I) (m:TOK P X.T X.fk) {S:List (Con I)} (p: ∀c∈S,zn P c) {fz:List Nat} {st:ES I.C} {e:Env} {lh:LH} (hv:Vw P X ρ G st e lh) {id:Nat} {d:Array Oper} {K:ES I.C->Option R} {Q:Post}
  (h0:seqN X S fz nt d.toList K 0 d.toList st=some r0)
  (r: ∀f e' i,K f=some r0->Vw P X ρ G f e' i->Q .normal e' i):SW P nt (.region id d false) Q e lh:=by
 intro ι a w u;refine wp_region_list ?_;have:=dG (ops:=d.toList) hI m p r (ι0:=ι) (w0:=w) (lh0:=lh) d.toList 0 st e lh ι a w hv h0 u (StK.refl _ ι w) (Va _);rw[Me]at j;exact j
end
end Go.Lv
