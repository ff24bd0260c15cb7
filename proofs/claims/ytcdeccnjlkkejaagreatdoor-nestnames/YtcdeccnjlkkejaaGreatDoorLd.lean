/- That the evaluator is right: an operation at its place in a region. -/
import Derived.Test.YtcdeccnjlkkejaaGreatDoorLc
import Derived.WalkSpells
import Derived.Lib.SliceRun
set_option linter.unusedSimpArgs false
set_option linter.unusedVariables false
namespace Go.Lv
structure Vw {I:Ip} (P:Program) (X:Cx I) (ρ:Nat->Nat) (G:Get) (st:ES I.C) (e:Env) (lh:LH):Prop where
 env: ∀t,look e t=(match lkE X st t with|some x=>trL ρ (lkO X st) (lkE X st) x|none=> .any)
 heap: ∀id o,lkO X st id=some o->lh.get (ρ id)=trO P ρ (lkO X st) o
 oth: ∀i,G i≠none->lh.get i=G i/\ ∀id o,lkO X st id=some o->ρ id≠i
 inj: ∀i j o o',lkO X st i=some o->lkO X st j=some o'->ρ i=ρ j->i=j
 lt: ∀id,id<st.next->ρ id<lh.next
 up: ∀id,st.next<=id->ρ id=lh.next+(id - st.next)
 fre: ∀t x,lk X.frm t=some x->lkE X st t=some x/\Nq x=true
 fro: ∀i o,lk X.frh i=some o->lkO X st i=some o
 glt: ∀i,G i≠none->i<lh.next
 wfe: ∀t x,lkE X st t=some x->wfL st.next x=true
 wfh: ∀id o,lkO X st id=some o->id<st.next/\wfO st.next o=true
def unopt:LV->LV
 | .opt true t=> .v t
 |x=>x
def zS(e:Env):Env:=e.map fun p=>(p.1,unopt p.2)
theorem Vj: ∀(e:Env) (t:Nat),look (zS e) t=unopt (look e t)
 |[],t=>rfl
 |(j,x)::r,t=>by
  simp only[zS,Na,look];split
  ·rfl
  ·exact Vj r t
theorem oJ{ι:Asg}{w:World}{x:LV}{v:Value}(h:repL ι w x v):repL ι w (unopt x) v:=by
 unfold unopt;split
 ·exact h.1 rfl
 ·exact h
theorem Uo{ι:Asg}{w:World}{nt:Nat}{e:Env}{a:Act}(h:qE ι w nt e a):qE ι w nt (zS e) a:=
 ⟨h.size,h.defers,fun i=>by rw[Vj];exact oJ (h.rep i)⟩
section
variable {P:Program} {I:Ip} {X:Cx I} {ρ:Nat->Nat} {G:Get} {st:ES I.C} {e:Env} {lh:LH} {q:Path}
theorem UD{E:Nat->Option (EL I.C)}{a:Nat×Bool}: ∀{q:Path},ZK E q=true->memK a q=true->litB a.2 (mf E a.1)=true
 |[],_,h=>by cases h
 |b::r,hp,h=>by
  have hb:litB b.2 (mf E b.1)=true/\(r=[]\/ZK E r=true):=by
   obtain⟨t,w⟩:=b;cases r with
   |nil=>exact⟨hp, .inl rfl⟩
   |cons c r=>simp only[ZK,Ca]at hp;grind
  simp only[memK]at h;cases hk:beqK a b with
  |true=>
   simp only[beqK,Ca]at hk;have h1:=Ta hk.1
   grind
  |false=>
   rw[hk]at h;rcases hb.2 with hr|hr
   ·subst hr;cases h
   ·exact UD hr h
theorem Ut{E:Nat->Option (EL I.C)}: ∀{p q:Path},ZK E q=true->subK p q=true->ZK E p=true
 |[],q,_,_=>rfl
 |a::r,q,hq,h=>by
  simp only[subK]at h;obtain⟨h1,h2⟩:=zk (R:=Unit) (x:=some ()) (r0:=()) (b:=memK a q&&subK r q) (by
   grind)
  rw[Ca]at h1;have ha:=UD hq h1.1;have hr:=Ut hq h1.2;obtain⟨t,w⟩:=a;cases r with
  |nil=>exact ha
  |cons c r=>simp only[ZK,Ca];grind
theorem jB{ks:Path}(h:subK ks []=true):ks=[]:=by
 cases ks with
 |nil=>rfl
 |cons a r=>cases h
theorem dI{I:Ip}{q:Path}{x:EL I.C}{t:ET I.C}(h:useE [] x=some t):useE q x=some t:=by
 cases x with
 |v u=>exact h
 |opt ks u=>
  simp only[useE]at h ⊢;cases hk:subK ks []with
  |true=>rw[hk]at h;rw[jB hk];exact h
  |false=>grind
 |any=>cases h
 |tup ts=>cases h
theorem yw{E:Nat->Option (EL I.C)}{x:EL I.C}{t:ET I.C}(hq:q=[]\/ZK E q=true)(hu:useE q x=some t):x= .v t\/ ∃ks,x= .opt ks t/\ZK E ks=true:=by
 unfold useE at hu;split at hu
 ·grind
 ·rename_i ks t';obtain⟨h1,h2⟩:=zk hu;injection h2 with h2;subst h2;refine .inr ⟨ks,rfl,?_⟩;rcases hq with rfl|hq
  ·rw[jB h1];rfl
  ·exact Ut hq h1
 ·cases hu
theorem UE{E:Nat->Option (EL I.C)}{h:Nat->Option (EO I.C)}(v:Value)(hv:(Bh v:EL I.C)≠ .any):Ni v=trL ρ h E (Bh v):=by
 cases v with
 |agg vs=>
  simp only[Bh]at hv ⊢;cases hc:vs.all (·.oneCell')with
  |false=>grind
  |true=> simp only[Bc,Ni,hc,Ae,trL,trT,ma];congr 2;exact Ha fun u _=>(Jy (ρ:=ρ) (h:=h) u).symm
 |tuple vs=>exact absurd rfl hv
 |_=>exact congrArg (fun x=>LV.v (TV.c x)) (Jy (ρ:=ρ) (h:=h) _).symm
theorem Al(hv:Vw P X ρ G st e lh)(hq:q=[]\/ZK (lkE X st) q=true)(x:Operand)(t:ET I.C)(hu:useE q (opdE X st x)=some t):opd (zS e) x= .v (trT ρ (lkO X st) t):=by
 cases x with
 |tmp i=>
  simp only[opd,Vj,hv.env i];simp only[opdE]at hu;cases hl:lkE X st i with
  |none=>rw[hl]at hu;cases hu
  |some y=>
   rw[hl]at hu;simp only at hu;rcases yw hq hu with h1|⟨ks,h1,h2⟩
   ·have:=Kr (ρ:=ρ) (h:=lkO X st) (e:=lkE X st) y;rw[h1]at this;simp only;rw[<-this];rfl
   ·have:=Kr (ρ:=ρ) (h:=lkO X st) (e:=lkE X st) y;rw[h1]at this;simp only;rw[<-this];simp[trL,h2,unopt]
 |const v=>
  simp only[opdE]at hu;have hne:(Bh v:EL I.C)≠ .any:=fun h=>by rw[h]at hu;cases hu
  rw[show opd (zS e) (.const v)=Ni v from rfl,UE (ρ:=ρ) (E:=lkE X st) (h:=lkO X st) v hne];rcases yw hq hu with h1|⟨ks,h1,h2⟩
  ·rw[h1];rfl
  ·exfalso;cases v<;>first|(simp[Bh]at h1;done)|skip;simp only[Bh]at h1
   grind
 |global g=>cases hu
 |func f=> simp only[opdE,useE,Option.some.injEq]at hu;subst hu;rfl
theorem Nv(hv:Vw P X ρ G st e lh)(x:Operand)(ts:List (ET I.C))(hu:opdE X st x= .tup ts):opd (zS e) x= .tup (ts.map (trT ρ (lkO X st))):=by
 cases x with
 |tmp i=>
  simp only[opd,Vj,hv.env i];simp only[opdE]at hu;cases hl:lkE X st i with
  |none=>grind
  |some y=> rw[hl]at hu;simp only at hu ⊢;rw[<-Kr (ρ:=ρ) (h:=lkO X st) (e:=lkE X st) y,hu];rfl
 |const v=>
  exfalso;simp only[opdE]at hu;cases v<;>first|(simp[Bh]at hu;done)|skip;simp only[Bh]at hu
  grind
 |global g=>cases hu
 |func f=>cases hu
theorem kr(hv:Vw P X ρ G st e lh)(x:Operand){ks:Path}{b:Bool}(hb:Mm (opdE X st x)=some (ks,b)):Fh (opd (zS e) x)=(ZK (lkE X st) ks,some b):=by
 have hun: ∀y:LV,∀c d,Fh y=(c,some d)->Fh (unopt y)=(c,some d):=by
  intro y c d h;cases y with
  |opt g t=>
   cases g with
   |true=>exact h
   |false=>exact h
  |_=>exact h
 cases x with
 |tmp i=>
  simp only[opd,Vj,hv.env i];simp only[opdE]at hb;cases hl:lkE X st i with
  |none=>rw[hl]at hb;cases hb
  |some y=> rw[hl]at hb;refine hun _ _ _ ?_;simp only;rw[<-Kr (ρ:=ρ) (h:=lkO X st) (e:=lkE X st) y];exact PD hb
 |const v=>
  simp only[opdE]at hb;have hne:(Bh v:EL I.C)≠ .any:=fun h=>by rw[h]at hb;cases hb
  rw[show opd (zS e) (.const v)=Ni v from rfl,UE (ρ:=ρ) (E:=lkE X st) (h:=lkO X st) v hne];exact PD hb
 |global g=>cases hb
 |func f=>cases hb
theorem UB{h:Nat->Option (EO I.C)}{n:Nat}{x:EV I.C}(hw:wfV n x=true):wfV n (nrmV h x)=true:=by
 cases x<;>simp only[nrmV]<;>first|exact hw|skip;split
 ·rfl
 ·exact hw
theorem Ov{h:Nat->Option (EO I.C)}{n:Nat}{x:ET I.C}(hw:wfT n x=true):wfT n (nrmT h x)=true:=by
 cases x with
 |c x=>exact UB hw
 |agg xs=> simp only[nrmT,wfT,La,Da]at hw ⊢;rintro _ ⟨y,hy,rfl⟩;exact UB (hw y hy)
theorem TE(n:Nat)(v:Value):wfV n (Lj v:EV I.C)=true:=by unfold Lj;split<;>rfl
theorem OI(hv:Vw P X ρ G st e lh)(x:Operand)(t:ET I.C)(hu:useE q (opdE X st x)=some t):wfT st.next t=true:=by
 have key: ∀y:EL I.C,wfL st.next y=true->useE q y=some t->wfT st.next t=true:=by
  intro y hy hu;unfold useE at hu;split at hu
  ·injection hu with hu;subst hu;exact hy
  ·obtain⟨h1,h2⟩:=zk hu;injection h2 with h2;subst h2;exact hy
  ·cases hu
 cases x with
 |tmp i=>
  simp only[opdE]at hu;cases hl:lkE X st i with
  |none=>rw[hl]at hu;cases hu
  |some y=>
   rw[hl]at hu;have hw:=hv.wfe i y hl;refine key _ ?_ hu;cases y with
   |any=>rfl
   |v t=>exact Ov hw
   |opt ks t=>exact Ov (x:=t) hw
   |tup ts=> simp only[nrmL,wfL,La,Da]at hw ⊢;rintro _ ⟨y,hy,rfl⟩;exact Ov (hw y hy)
 |const v=>
  refine key _ ?_ hu;cases v<;>simp only[opdE,Bh]<;>first|rfl|exact TE _ _|skip;rename_i vs;cases hc:vs.all (·.oneCell')
  ·rfl
  ·simp only[Bc,wfL,wfT,La,Da];rintro _ ⟨y,hy,rfl⟩;exact TE _ _
 |global g=>cases hu
 |func f=> refine key (.v (.c (.clo f []))) rfl hu
end
section
variable {P:Program} {I:Ip} {T:TT} {fk:List (Nat×List Kd)} {ρ:Nat->Nat} {h:Nat->Option (EO I.C)} {e:Nat->Option (EL I.C)} {get:Get} {nx:Nat} {R:Type} {r0:R} {q:Path} {g:Bool} {K:Kt I R}
theorem qP{b:Bool}{x:Option R}(h:Yf q g b x=some r0):x=some r0:=by
 unfold Yf at h;split at h
 ·exact(zD h).2
 ·exact(zD h).2
theorem Vs{α:Type}{c:Option α}{d:α}{f:α->Option R}(h:bndG q g c d f=some r0): ∃x,f x=some r0:=by
 unfold bndG at h;split at h
 ·obtain⟨x,_,h2⟩:=Aa.1 h;exact⟨x,h2⟩
 ·obtain⟨x,_,h2⟩:=Aa.1 h;exact⟨x,h2⟩
def AnyR(q:Path)(K:Kt I R)(r0:R):Prop:= ∃res,K res=some r0/\(q=[]\/res.up=[])
theorem any_ok{res:OR I.C}(h:K res=some r0)(hu:res.up=[]):AnyR q K r0:=⟨res,h, .inr hu⟩
theorem DK{op:BinOp}{k:IntKind}{x y:Int}(h0:intE op k x y q g K=some r0):AnyR q K r0:=by cases op<;>simp only[intE]at h0<;>first|exact any_ok h0 rfl|exact any_ok (qP h0) rfl
theorem mI{op:BinOp}{l m:List UInt8}(h0:strE op l m q g K=some r0):AnyR q K r0:=by cases op<;>simp only[strE]at h0<;>first|(cases h0;done)|exact any_ok h0 rfl|exact any_ok (qP h0) rfl
theorem gJ{fk:Option (List Kd)}{kd:Kd}{op:BinOp}{a b:ET I.C}(h0:binE fk kd op a b q g K=some r0):AnyR q K r0:=by
 unfold binE at h0;split at h0
 ·exact DK (zk h0).2
 ·exact mI h0
 ·split at h0<;>first|(cases h0;done)|exact any_ok h0 rfl
 ·split at h0<;>first|(cases h0;done)|(obtain⟨_,_,h1⟩:=zh h0;exact any_ok h1 rfl)
 ·split at h0<;>first|(cases h0;done)|exact any_ok h0 rfl
 ·split at h0<;>first|(cases h0;done)|exact any_ok h0 rfl
 ·cases h0
theorem lH{op:UnOp}{a:ET I.C}(h0:unE op a K=some r0):AnyR q K r0:=by unfold unE at h0;split at h0<;>first|(cases h0;done)|exact any_ok h0 rfl
theorem KL{c:Operand}{vc a b:EL I.C}(h0:Mq c vc a b q K=some r0):AnyR q K r0:=by
 unfold Mq at h0;split at h0
 ·exact any_ok (zk h0).2 rfl
 ·exact any_ok h0 rfl
 ·cases h0
theorem EN{E:Operand->EL I.C}{t:Nat}{ps:List (Nat×Operand)}(h0:om T E q t ps K=some r0):AnyR q K r0:=by
 unfold om at h0;split at h0
 ·cases h0
 ·split at h0
  ·obtain⟨_,_,h1⟩:=zh h0;exact any_ok (zk h1).2 rfl
  ·obtain⟨_,_,h1⟩:=zh h0;exact any_ok (zk h1).2 rfl
  ·cases h0
theorem xQ{E:Operand->EL I.C}{fz:Nat}{n t len:Nat}{ps:List (Nat×Operand)}(h0:Np T E q fz n t len ps K=some r0):AnyR q K r0:=by
 unfold Np at h0;split at h0
 ·split at h0
  ·obtain⟨_,h1⟩:=zk h0;rw[Dy]at h1;obtain⟨_,_,h2⟩:=Aa.1 h1;split at h2
   ·exact any_ok h2 rfl
   ·exact⟨_,h2, .inl rfl⟩
   ·exact⟨_,(zk h2).2, .inl rfl⟩
   ·cases h2
  ·cases h0
 ·cases h0
theorem sK{i:TI}{a:ET I.C}(h0:Cm i h a q g K=some r0):AnyR q K r0:=by
 unfold Cm at h0;split at h0
 ·split at h0
  ·obtain⟨_,h1⟩:=zk h0;obtain⟨_,_,h2⟩:=zh h1;exact any_ok h2 rfl
  ·obtain⟨_,h1⟩:=Vs h0;obtain⟨_,_,h2⟩:=zh h1;exact any_ok h2 rfl
  ·obtain⟨_,_,h1⟩:=zh h0;exact any_ok (qP h1) rfl
  ·cases h0
 ·obtain⟨_,_,h2⟩:=zh h0;exact any_ok h2 rfl
 ·cases h0
theorem NM{i:TI}{a x:ET I.C}(h0:dm i h a x q K=some r0):AnyR q K r0:=by
 unfold dm at h0;split at h0
 ·split at h0
  ·exact⟨_,(zk h0).2, .inl rfl⟩
  ·obtain⟨_,_,h1⟩:=Aa.1 h0;obtain⟨_,h2⟩:=zk h1;cases hpl:x.cells.all wu with
   |true=> rw[hpl]at h2;obtain⟨_,_,h3⟩:=Aa.1 h2;exact⟨_,h3, .inl rfl⟩
   |false=> rw[hpl]at h2;exact⟨_,h2, .inl rfl⟩
  ·exact⟨_,(zD (zk h0).2).2, .inl rfl⟩
  ·cases h0
 ·cases h0
theorem sQ{t f:Nat}{x:ET I.C}(h0:Vp T h t x f K=some r0):AnyR q K r0:=by
 unfold Vp at h0;split at h0
 ·split at h0
  ·split at h0
   ·split at h0
    ·exact any_ok (zk h0).2 rfl
    ·exact any_ok (zk h0).2 rfl
    ·exact any_ok (zk h0).2 rfl
    ·cases h0
   ·exact any_ok (zk h0).2 rfl
   ·cases h0
  ·cases h0
 ·cases h0
theorem iN{t f:Nat}{x:ET I.C}(h0:gm T t x f K=some r0):AnyR q K r0:=by
 unfold gm at h0;split at h0
 ·split at h0
  ·split at h0
   ·obtain⟨_,_,h2⟩:=zh h0;exact any_ok h2 rfl
   ·cases h0
  ·cases h0
 ·cases h0
theorem oQ{t:Nat}{x i:ET I.C}(h0:Xp T h t x i q g K=some r0):AnyR q K r0:=by
 unfold Xp at h0;split at h0
 ·split at h0
  ·obtain⟨_,h1⟩:=zk h0;obtain⟨_,h2⟩:=Vs h1;exact any_ok h2 rfl
  ·split at h0
   ·exact any_ok (qP (zk h0).2) rfl
   ·exact any_ok (qP (zk h0).2) rfl
   ·cases h0
  ·split at h0
   ·exact any_ok (qP (zk h0).2) rfl
   ·cases h0
  ·cases h0
 ·cases h0
theorem UN{t:Nat}{x i:ET I.C}(h0:Bn T t x i q g K=some r0):AnyR q K r0:=by
 unfold Bn at h0;split at h0
 ·split at h0
  ·obtain⟨_,h2⟩:=Vs h0;exact any_ok h2 rfl
  ·split at h0
   ·obtain⟨_,h1⟩:=zk h0;obtain⟨_,h2⟩:=Vs h1;exact any_ok h2 rfl
   ·cases h0
  ·cases h0
 ·cases h0
theorem TM{t:Nat}{x:ET I.C}{lo hi mx:Option Int}(h0:Tm T h t x lo hi mx q g K=some r0):AnyR q K r0:=by
 unfold Tm at h0;split at h0
 ·split at h0
  ·exact any_ok (qP h0) rfl
  ·cases h0
 ·obtain⟨_,h1⟩:=zk h0;split at h1
  ·exact any_ok (qP h1) rfl
  ·split at h1
   ·exact any_ok (qP h1) rfl
   ·cases h1
 ·exact any_ok (qP (zk h0).2) rfl
 ·split at h0
  ·exact any_ok (qP (zk h0).2) rfl
  ·cases h0
 ·cases h0
theorem wJ{kd:Kd}{x:ET I.C}(h0:lenE kd h x K=some r0):AnyR q K r0:=by
 unfold lenE at h0;split at h0<;>first|exact any_ok h0 rfl|skip
 ·split at h0
  ·exact any_ok h0 rfl
  ·exact any_ok h0 rfl
  ·cases h0
 ·split at h0
  ·exact any_ok h0 rfl
  ·cases h0
 ·cases h0
theorem vF{mx:Bool}{k:IntKind}: ∀(as:List (ET I.C)) (m:Int),Vl mx k K m as=some r0->AnyR q K r0
 |[],m,h0=>any_ok h0 rfl
 | .agg xs::r,m,h0=>by cases h0
 | .c x::r,m,h0=>by cases x<;>first|(cases h0;done)|skip;simp only[Vl]at h0;exact vF r _ (zk h0).2
theorem fE{mx:Bool}{as:List (ET I.C)}(h0:Dl mx as K=some r0):AnyR q K r0:=by
 unfold Dl at h0;split at h0
 ·exact vF _ _ h0
 ·cases h0
theorem IP{n e:Nat}{s:ET I.C}{z:Nat×List (I.C e)×List (EV I.C)×List (I.C e)}(h0:dn T h n e s z K=some r0): ∃res,K res=some r0:=by
 unfold dn at h0;split at h0
 ·exact⟨_,(zD h0).2⟩
 ·split at h0
  ·split at h0
   ·exact⟨_,(zD h0).2⟩
   ·cases h0
  ·cases h0
 ·cases h0
theorem KP{n ts tx:Nat}{s x:ET I.C}(h0:Xn T h n ts tx s x q K=some r0):AnyR q K r0:=by
 unfold Xn at h0;split at h0
 ·split at h0
  ·obtain⟨res,h1⟩:=IP (zk h0).2;exact⟨res,h1, .inl rfl⟩
  obtain⟨_,h1⟩:=zk h0;split at h1
  ·split at h1
   ·exact⟨_,(zD (zD h1).2).2, .inl rfl⟩
   ·split at h1
    ·split at h1
     ·exact⟨_,(zD (zD h1).2).2, .inl rfl⟩
     ·cases h1
    ·cases h1
   ·split at h1
    ·exact⟨_,(zD (zD h1).2).2, .inl rfl⟩
    ·cases h1
   ·cases h1
  ·cases h1
 ·cases h0
theorem bM{ts tx:Nat}{s x:ET I.C}(h0:Pm T h ts tx s x q K=some r0):AnyR q K r0:=by
 unfold Pm at h0;split at h0
 ·obtain⟨_,h1⟩:=zk h0;split at h1
  ·split at h1
   ·split at h1
    ·split at h1
     ·exact⟨_,(zD (zD h1).2).2, .inl rfl⟩
     ·cases h1
    ·cases h1
   ·split at h1
    ·split at h1
     ·exact⟨_,(zD (zD h1).2).2, .inl rfl⟩
     ·cases h1
    ·cases h1
   ·cases h1
  ·cases h1
 ·cases h0
theorem gM{n src dst:Nat}{x:ET I.C}(h0:Rm T h n src dst x q g K=some r0):AnyR q K r0:=by
 unfold Rm at h0;split at h0
 ·split at h0
  ·cases h0
  ·exact any_ok h0 rfl
 ·split at h0
  ·cases h0
  ·exact any_ok h0 rfl
 ·split at h0
  ·exact⟨_,(zD (zk h0).2).2, .inl rfl⟩
  ·cases h0
 ·split at h0
  ·exact⟨_,(zk h0).2, .inl rfl⟩
  ·cases h0
 ·split at h0
  ·obtain⟨_,h1⟩:=zk h0;split at h1
   ·exact any_ok (qP h1) rfl
   ·cases h1
  ·cases h0
 ·cases h0
theorem jK{n t:Nat}{l c:ET I.C}(h0:Am T n t l c q K=some r0):AnyR q K r0:=by
 unfold Am at h0;split at h0
 ·obtain⟨_,h1⟩:=zk h0;obtain⟨_,h2⟩:=zD h1;obtain⟨_,_,h3⟩:=Aa.1 h2;exact⟨_,h3, .inl rfl⟩
 ·cases h0
theorem mO{t:TypeId}{m k x:ET I.C}(h0:xn T h t m k x q K=some r0):AnyR q K r0:=by
 unfold xn at h0;split at h0
 case h_2=>cases h0
 split at h0
 ·exact⟨_,(zk h0).2, .inl rfl⟩
 ·cases h0
theorem eO{t:TypeId}{m k:ET I.C}{ok:Bool}(h0:Gn T h t m k ok q K=some r0):AnyR q K r0:=by
 unfold Gn at h0;split at h0
 case h_2=>cases h0
 split at h0
 ·exact any_ok (zk h0).2 rfl
 ·cases h0
theorem MQ{x:ET I.C}(h0:Ep h x K=some r0):AnyR q K r0:=by
 unfold Ep at h0;split at h0
 ·split at h0
  ·exact any_ok h0 rfl
  ·exact any_ok h0 rfl
  ·exact any_ok h0 rfl
  ·cases h0
 ·exact any_ok h0 rfl
 ·exact any_ok h0 rfl
 ·cases h0
theorem lL{con:Con I}{n:Nat}{x:(con.inS.sl I).T}{m:Mp}(h0:Fq con h n x m q g K=some r0)(hg:q=[]\/g=false):AnyR q K r0:=by
 unfold Fq at h0;split at h0
 case h_2=>cases h0
 split at h0
 ·obtain⟨_,_,h1⟩:=Aa.1 h0;exact⟨_,h1, .inl rfl⟩
 ·rename_i hne ho hgo hse;obtain⟨_,h1⟩:=zk h0;obtain⟨y,_,h2⟩:=Aa.1 h1;refine⟨_,h2, .inr ?_⟩;simp only[bf,hgo,hse,Ic,Rb,List.map_eq_nil_iff];have key: ∀(s:StSh) (y:(s.sl I).T),s.objs=[]->((s.sl I).enc y).2=[]:=by intro s y hs;obtain⟨vals,objs⟩:=s;simp only at hs;subst hs;revert y;unfold StSh.sl;cases (vlOf I vals).u<;>intro y<;>rfl
  exact key _ y ho
 ·rcases hg with hg|hg
  ·simp_all
  ·subst hg;exact any_ok h0 rfl
theorem Yx{n f:Nat}{as:List (ET I.C)}(hg:q=[]\/g=false): ∀{S:List (Con I)},Di h n f as q g K S=some r0->AnyR q K r0
 |[],h0=>by cases h0
 |con::r,h0=>by
  simp only[Di]at h0;cases hb:Nat.beq con.f f with
  |false=>rw[hb]at h0;exact Yx hg h0
  |true=>
   rw[hb]at h0;simp only[Bc]at h0;split at h0
   ·exact lL h0 hg
   ·exact Yx hg h0
theorem RJ{X:Cx I}{S:List (Con I)}{fz:Nat}{st:ES I.C}{op:Op}(hg:q=[]\/g=false)(h0:opE X S fz st q g op K=some r0):AnyR q K r0:=by
 cases op<;>simp only[opE]at h0<;>(try (cases h0;done))
 case move x=>obtain⟨_,_,h1⟩:=zh h0;exact any_ok h1 rfl
 case assign x=>obtain⟨_,_,h1⟩:=zh h0;exact any_ok h1 rfl
 case pick=>exact KL h0
 case alloc=>
  split at h0
  ·exact⟨_,(zk h0).2, .inl rfl⟩
  ·cases h0
 case box=>
  split at h0
  ·obtain⟨_,_,h1⟩:=zh h0;exact⟨_,(zk h1).2, .inl rfl⟩
  ·cases h0
 case build=>exact EN h0
 case buildSlice=>exact xQ h0
 case load=>obtain⟨_,_,h1⟩:=zh h0;exact sK h1
 case store=>obtain⟨_,_,h1⟩:=zh h0;obtain⟨_,_,h2⟩:=zh h1;exact NM h2
 case nilCheck=>obtain⟨_,_,h1⟩:=zh h0;exact MQ h1
 case binOp=>obtain⟨_,_,h1⟩:=zh h0;obtain⟨_,_,h2⟩:=zh h1;exact gJ h2
 case unOp=>obtain⟨_,_,h1⟩:=zh h0;exact lH h1
 case convert=>obtain⟨_,_,h1⟩:=zh h0;exact gM h1
 case makeFunc fn first caps=>
  cases fn<;>simp only[opE]at h0<;>(try (cases h0;done));split at h0
  ·obtain⟨_,_,h1⟩:=zh h0;exact any_ok h1 rfl
  ·cases h0
 case makeMap t r=>
  cases r with
  |some _=>grind
  |none=>
   simp only at h0;split at h0
   ·split at h0
    ·exact⟨_,h0, .inl rfl⟩
    ·cases h0
   ·cases h0
 case insert=>obtain⟨_,_,h1⟩:=zh h0;obtain⟨_,_,h2⟩:=zh h1;obtain⟨_,_,h3⟩:=zh h2;exact mO h3
 case lookup=>obtain⟨_,_,h1⟩:=zh h0;obtain⟨_,_,h2⟩:=zh h1;exact eO h2
 case makeSlice=>obtain⟨_,_,h1⟩:=zh h0;obtain⟨_,_,h2⟩:=zh h1;exact jK h2
 case slice=>obtain⟨_,_,h1⟩:=zh h0;obtain⟨_,_,h2⟩:=zh h1;obtain⟨_,_,h3⟩:=zh h2;obtain⟨_,_,h4⟩:=zh h3;exact TM h4
 case fieldAddr=>obtain⟨_,_,h1⟩:=zh h0;exact sQ h1
 case field=>obtain⟨_,_,h1⟩:=zh h0;exact iN h1
 case indexAddr=>obtain⟨_,_,h1⟩:=zh h0;obtain⟨_,_,h2⟩:=zh h1;exact oQ h2
 case index=>obtain⟨_,_,h1⟩:=zh h0;obtain⟨_,_,h2⟩:=zh h1;exact UN h2
 case extract=>
  split at h0
  ·obtain⟨_,_,h1⟩:=zh h0;exact any_ok h1 rfl
  ·cases h0
 case call c=>
  split at h0
  ·obtain⟨_,_,h1⟩:=zh h0;obtain⟨_,_,h2⟩:=zh h1;exact Yx hg h2
  ·split at h0
   ·obtain⟨_,_,h1⟩:=zh h0;exact wJ h1
   ·cases h0
  ·split at h0
   ·obtain⟨_,_,h1⟩:=zh h0;obtain⟨_,_,h2⟩:=zh h1;exact KP h2
   ·cases h0
  ·split at h0
   ·obtain⟨_,_,h1⟩:=zh h0;obtain⟨_,_,h2⟩:=zh h1;exact bM h2
   ·cases h0
  ·obtain⟨_,_,h1⟩:=zh h0;exact fE h1
  ·obtain⟨_,_,h1⟩:=zh h0;exact fE h1
  ·cases h0
end
section
variable {P:Program} {nt:Nat} {ops:List Oper}
theorem nC {o:Oper} {s:TS} {g:Option Bool} {val:LV} {up:List (Nat×Option OB)} {rd:List Nat} {k:Nat} (hg:ZV ops s.e o.guard=some g) (hd: ∀d,o.dst=some d->d<nt)
  (hp:g≠some false->(opR P [] (opd (zS s.e)) s.get s.next o.op).pre/\
   (∀(ι:Asg) (w:World) (get':Get) v w',(∀j,j<k->get' (s.next+j)=none)->Good ι w get' s.next k (opR P [] (opd (zS s.e)) s.get s.next o.op).val (opR P [] (opd (zS s.e)) s.get s.next o.op).up v w'->Good ι w get' s.next k val up v w')/\
   (∀id∈(opR P [] (opd (zS s.e)) s.get s.next o.op).rd,id∈rd\/id∈up.map (·.1))/\zZ [] (opd (zS s.e)) o.op<=k):
  OpOK P nt ops o ⟨g,val,up,rd,s.next,k⟩ s:=by
 refine⟨hd,rfl,fun ι a w e' get' N hR hN hE ha hb hfr=> ?_⟩;have hop: ∀x∈o.op.operands,opd (zS e') x=opd (zS s.e) x:=by
  intro x hx;cases x with
  |tmp t=> simp only[opd,Vj];rw[ha t ?_];simp only[Kg,Ld,Eb,Lb];exact .inl (yc.2 ⟨.tmp t,by simpa using hx,rfl⟩)
  |const v=>rfl
  |global g=>rfl
  |func f=>rfl
 have hg':ZV ops e' o.guard=ZV ops s.e o.guard:=Aq fun t ht=>ha t (by
  simp only[Kg,Ld,Eb,Lb]at ht ⊢;exact .inr ht)
 refine⟨fun h=> ?_,fun b h=> ?_,fun h=> ?_⟩
 ·simp only at h;subst h;unfold ZV at hg
  grind
 ·simp only at h;subst h;exact Pp hE (by grind)
 ·obtain⟨hp1,hp2,hp3,hp4⟩:=hp h;have hnews:zZ [] (opd (zS e')) o.op=zZ [] (opd (zS s.e)) o.op:=(Lt (P:=P) (F:=[]) (get:=get') (nx:=s.next) o.op hop).2;have hloc:opR P [] (opd (zS e')) get' s.next o.op=opR P [] (opd (zS s.e)) s.get s.next o.op:=by rw[(Lt (P:=P) (F:=[]) (get:=get') (nx:=s.next) o.op hop).1];exact RB (Ug.nil P) o.op hp1 (fun id hid=>hb id (hp3 id hid))
  have hs:=lC (Ug.nil P) hR hN (Uo hE) o (nx:=s.next) (fun i hi=>by grind) (by grind);rw[hloc,hnews]at hs;have hnone: ∀j,j<k->get' (s.next+j)=none:=by
   intro j hj;cases hgj:get' (s.next+j)with
   |none=>rfl
   |some ob=>
    obtain⟨b,hl,_⟩:=hR.live _ _ hgj
    grind
  have mono: ∀v w',Good ι w get' s.next (zZ [] (opd (zS s.e)) o.op) (opR P [] (opd (zS s.e)) s.get s.next o.op).val (opR P [] (opd (zS s.e)) s.get s.next o.op).up v w'->Good ι w get' s.next k val up v w':=by intro v w' ⟨ι',g1,g2,g3,g4⟩;exact hp2 ι w get' v w' hnone ⟨ι',g1,g2,g3,fun id hf hout=>g4 id hf (by omega)⟩
  rcases hs with⟨v,w',h1,h2⟩|⟨w',h1,h2⟩|⟨f,vs,h1,h2⟩
  ·exact .inl ⟨v,w',h1,mono _ _ h2⟩
  ·exact .inr (.inl ⟨w',h1,mono _ _ h2⟩)
  ·exact .inr (.inr ⟨f,vs,h1,h2.mono fun e w' ⟨v,he,hgd⟩=>⟨v,he,mono _ _ hgd⟩⟩)
theorem CQ {o:Oper} {s:TS} {g:Option Bool} {c:Call} {cf:Operand} {f:FuncId} {caps:List (Nat×Nat×Nat)} {as:List TV} {rd:List (Nat×OB)} {k:Nat} {val:LV} {up:List (Nat×Option OB)}
  (hg:ZV ops s.e o.guard=some g) (hd: ∀d,o.dst=some d->d<nt) (ho:o.op= .call c) (hc:c.callee= .value cf) (hcf:opd (zS s.e) cf= .v (.c (.clo f caps)))
  (hall:allT (c.args.toList.map (opd (zS s.e)))=some (true,as)) (hcall:zbA P f (as++caps.map capT) rd s.next k val up) (hrd: ∀p∈rd,s.get p.1=some p.2):
  OpOK P nt ops o ⟨g,val,up,rd.map (·.1),s.next,k⟩ s:=by
 refine⟨hd,rfl,fun ι a w e' get' N hR hN hE ha hb hfr=> ?_⟩;have hop: ∀x∈o.op.operands,opd (zS e') x=opd (zS s.e) x:=by
  intro x hx;cases x with
  |tmp t=> simp only[opd,Vj];rw[ha t ?_];simp only[Kg,Ld,Eb,Lb];exact .inl (yc.2 ⟨.tmp t,by simpa using hx,rfl⟩)
  |const v=>rfl
  |global g=>rfl
  |func f=>rfl
 have hg':ZV ops e' o.guard=ZV ops s.e o.guard:=Aq fun t ht=>ha t (by
  simp only[Kg,Ld,Eb,Lb]at ht ⊢;exact .inr ht)
 refine⟨fun h=> ?_,fun b h=> ?_,fun h=> ?_⟩
 ·simp only at h;subst h;unfold ZV at hg
  grind
 ·simp only at h;subst h;exact Pp hE (by grind)
 ·have hE1:=Uo hE;have hcf':opd (zS e') cf=opd (zS s.e) cf:=hop cf (by simp[ho,Op.operands,Call.operands,hc]);have hargs':c.args.toList.map (opd (zS e'))=c.args.toList.map (opd (zS s.e)):=Ha fun x hx=>hop x (by
   simp only[ho,Op.operands,Call.operands,hc,Array.mem_append]
   grind)
  have hv:repT ι w (.c (.clo f caps)) (a.eval cf):=by have hr:=zA hE1 cf;rw[hcf',hcf]at hr;exact hr
  obtain⟨vs,hve,hcaps⟩:=Xx hv;obtain⟨a1,a2⟩:=Et hE1 _ _ _ (by rw[hargs'];exact hall) rfl;obtain⟨fn,f1,f2,f3⟩:=hcall.fn;refine .inr (.inr ⟨f,c.args.map a.eval++vs,?_,hcall.ok ι get' w N _ hR hN hfr (Ez ⟨by simp[a1],fun j t hj=> ?_⟩ hcaps) (fun p hp=> ?_)⟩)
  ·simp only[execOp,ho,resolve,hc,hve,Deferred.ofValue,Sem.run_bind,Sem.run_pure,Result.andThen_ok,invoke,Array.empty_append];exact Hw f1 f2 f3
  ·grind
  grind
end
section
variable {P:Program} {I:Ip} {X:Cx I} {ρ:Nat->Nat} {G:Get} {st:ES I.C} {e:Env} {lh:LH} {q:Path} {R:Type} {r0:R} {K:Kt I R}
def RR(P:Program)(ρ:Nat->Nat)(X:Cx I)(st:ES I.C)(e:Env)(lh:LH)(op:Op)(res:OR I.C):Prop:=
 zi1 P ρ (lkO X st) (lkE X st) lh.get lh.next res.k (opR P [] (opd (zS e)) lh.get lh.next op) res/\zZ [] (opd (zS e)) op<=res.k
theorem Hf{op:Op}{res:OR I.C}{r:Res}(he:opR P [] (opd (zS e)) lh.get lh.next op=r)(hn:zZ [] (opd (zS e)) op<=res.k)(h:RRel P ρ (lkO X st) (lkE X st) r res):RR P ρ X st e lh op res:=
 ⟨by rw[he];exact h.w,hn⟩
theorem Vm{op:Op}{res:OR I.C}{r:Res}{k:Nat}(he:opR P [] (opd (zS e)) lh.get lh.next op=r)(hk:res.k=k)(hn:zZ [] (opd (zS e)) op<=k)(h:zi1 P ρ (lkO X st) (lkE X st) lh.get lh.next k r res):RR P ρ X st e lh op res:=by subst hk;exact⟨by rw[he];exact h,hn⟩
theorem fw{h:Nat->Option (EO I.C)}{E0:Operand->EL I.C}{E1:Operand->LV}(hE: ∀x t,useE q (E0 x)=some t->E1 x= .v (trT ρ h t)): ∀(xs:List Operand) (as:List (ET I.C)),allE q (xs.map E0)=some as->xs.map E1=as.map fun t=> .v (trT ρ h t)
 |[],as,h0=>by cases h0;rfl
 |x::r,as,h0=>by
  simp only[Na,allE]at h0;split at h0
  ·rename_i t l h1 h2;cases h0;simp only[Na,hE x t h1,fw hE r l h2]
  ·cases h0
theorem JH(hI:IpOK P I)(hT:TOK P X.T X.fk)(hv:Vw P X ρ G st e lh)(hq:q=[]\/ZK (lkE X st) q=true){S:List (Con I)}{fz:Nat}{op:Op}(hnc: ∀c f,op= .call c->c.callee≠ .value f)(h0:opE X S fz st q (ZK (lkE X st) q) op K=some r0):
  ∃res,K res=some r0/\RR P ρ X st e lh op res:=by
 have hE: ∀x t,useE q (opdE X st x)=some t->opd (zS e) x= .v (trT ρ (lkO X st) t):=fun x t hu=>Al hv hq x t hu;have hρ:ρ st.next=lh.next:=by have:=hv.up st.next (Ma _);simpa using this
 have hnn:lkO X st st.next=none:=by
  cases hl:lkO X st st.next with
  |none=>rfl
  |some o=>exact absurd (hv.wfh _ _ hl).1 (by omega)
 cases op<;>simp only[opE]at h0<;>(try (cases h0;done))
 case move x=>
  obtain⟨v,h1,h2⟩:=zh h0;refine⟨_,h2,Hf rfl (Nb _) ⟨trivial,?_,upN,by intro id hid;cases hid⟩⟩;split at h1
  ·rename_i ts hts;injection h1 with h1;subst h1;exact Nv hv x ts hts
  ·obtain⟨t,hu,h3⟩:=Jb.1 h1;subst h3;exact hE x t hu
 case assign x=>
  obtain⟨v,h1,h2⟩:=zh h0;refine⟨_,h2,Hf rfl (Nb _) ⟨trivial,?_,upN,by intro id hid;cases hid⟩⟩;split at h1
  ·rename_i ts hts;injection h1 with h1;subst h1;exact Nv hv x ts hts
  ·obtain⟨t,hu,h3⟩:=Jb.1 h1;subst h3;exact hE x t hu
 case pick c a b=>
  unfold Mq at h0;split at h0
  ·rename_i t x ka ba kb bb ha hb hc;obtain⟨h1,h2⟩:=zk h0;rw[Ca]at h1;refine⟨_,h2,Hf rfl (Nb _) ?_⟩;have hcv:=hE (.tmp t) _ hc;have hx:mf (lkE X st) t=x:=by
    simp only[opdE]at hc;cases hl:lkE X st t with
    |none=>rw[hl]at hc;cases hc
    |some y=>
     rw[hl]at hc;simp only at hc;rcases yw hq hc with h3|⟨ks,h3,_⟩
     ·cases y with
      |v t0=>
       cases t0 with
       |c z=>
        cases z<;>simp only[nrmL,nrmT,nrmV,EL.v.injEq,ET.c.injEq]at h3<;>first|(cases h3;done)|(split at h3<;>cases h3;done)|skip;rename_i b0;injection h3 with h3;subst h3;simp[mf,hl]
       |agg zs=>simp[nrmL,nrmT]at h3
      |any=>simp[nrmL]at h3
      |opt ks t0=>simp[nrmL]at h3
      |tup ts=>simp[nrmL]at h3
     ·cases y with
      |opt ks0 t0=>
       cases t0 with
       |c z=>
        cases z<;>simp only[nrmL,nrmT,nrmV,EL.opt.injEq,ET.c.injEq]at h3<;>first|grind|(obtain⟨_,h3⟩:=h3;split at h3<;>cases h3;done)|skip;rename_i b0;obtain⟨_,h3⟩:=h3;injection h3 with h3;subst h3;simp[mf,hl]
       |agg zs=>simp[nrmL,nrmT]at h3
      |any=>simp[nrmL]at h3
      |v t0=>simp[nrmL]at h3
      |tup ts=>simp[nrmL]at h3
   have hpath: ∀w,litB w x=true->ZK (lkE X st) ((t,w)::q)=true:=by
    intro w hw;have:ZK (lkE X st) q=true:=by
     rcases hq with rfl|hq
     ·rfl
     ·exact hq
    cases q with
    |nil=>simp only[ZK,hx,hw]
    |cons c r=>simp only[ZK,hx,hw,Me];exact this
   have hR:Uh (opd (zS e) (.tmp t)) (opd (zS e) a) (opd (zS e) b)=preC ((x=true->ZK (lkE X st) ka=true)/\(x=false->ZK (lkE X st) kb=true)) (.p (.at (.bool (cond x ba bb)))):=by unfold Uh;rw[hcv];simp only[zP,trT,trV,pvE,isBool,kr hv a ha,kr hv b hb]
   simp only[opR,hR];refine ZA ⟨fun hx1=>Ut (hpath true (by rw[hx1];rfl)) h1.1,fun hx1=>Ut (hpath false (by rw[hx1];rfl)) h1.2⟩ rfl rfl rfl
  ·rename_i c c' x0 x1 x2 x ba bb hnt ha hb hc;refine⟨_,h0,Hf rfl (Nb _) ?_⟩;have hcv:=hE c _ hc;have hR:Uh (opd (zS e) c) (opd (zS e) a) (opd (zS e) b)=preC ((x=true->ZK (lkE X st) []=true)/\(x=false->ZK (lkE X st) []=true)) (.p (.at (.bool (cond x ba bb)))):=by unfold Uh;rw[hcv];simp only[zP,trT,trV,pvE,isBool,kr hv a ha,kr hv b hb]
   simp only[opR,hR];exact ZA ⟨fun _=>rfl,fun _=>rfl⟩ rfl rfl rfl
  ·cases h0
 case alloc t=>
  split at h0
  ·obtain⟨h1,h2⟩:=zk h0;refine⟨_,h2,Hf rfl (Ma _) ?_⟩;have:=xL (P:=P) (ρ:=ρ) (h:=lkO X st) (e:=lkE X st) (n:=st.next) (t:=t) hT hnn h1;rw[hρ]at this;exact this
  ·cases h0
 case box t x=>
  split at h0
  ·obtain⟨v,h1,h2⟩:=zh h0;obtain⟨h3,h4⟩:=zk h2;rw[Ca]at h3;have hl:=Ta h3.1;refine⟨_,h4,?_⟩;have hsz:v.cells.length=P.cellsOf t:=by rw[hl];exact(Eg hT h3.2).1
   have:=KJ (P:=P) (ρ:=ρ) (h:=lkO X st) (e:=lkE X st) (n:=st.next) (t:=t) (x:=v) hnn (OI hv x v h1) hsz;rw[hρ]at this;refine Hf ?_ (Ma _) this;simp only[opR,hE x v h1,zP]
  ·cases h0
 case build t ps=> obtain⟨res,h1,h2⟩:=DN (P:=P) (e:=lkE X st) hT hE h0;exact⟨res,h1,Hf rfl (Nb _) h2⟩
 case buildSlice t len ps=> obtain⟨res,h1,h2,h3⟩:=wQ (P:=P) (e:=lkE X st) (get:=lh.get) hI hT hE hnn hρ h0;exact⟨res,h1,Vm rfl h2 (Ma _) h3⟩
 case load t a=> obtain⟨v,h1,h2⟩:=zh h0;obtain⟨hk,res,h3,h4⟩:=pK (P:=P) (e:=lkE X st) (get:=lh.get) hI hv.heap hq h2;refine⟨res,h3,Hf ?_ (Nb _) h4⟩;rw[Jg hT hk];simp only[opR,hE a v h1,zP]
 case store t a x=> obtain⟨v,h1,h2⟩:=zh h0;obtain⟨u,h3,h4⟩:=zh h2;obtain⟨_,hk,res,h5,h5',h6⟩:=MM (P:=P) (e:=lkE X st) (get:=lh.get) (nx:=lh.next) (kk:=0) hI hv.heap h4;refine⟨res,h5,Vm ?_ h5' (Nb _) h6⟩;rw[Jg hT hk];simp only[opR,hE a v h1,hE x u h3,zP]
 case nilCheck x=> obtain⟨v,h1,h2⟩:=zh h0;obtain⟨res,h3,h4⟩:=LQ (P:=P) (e:=lkE X st) (get:=lh.get) hv.heap h2;refine⟨res,h3,Hf ?_ (Nb _) h4⟩;simp only[opR,hE x v h1,zP]
 case binOp op t x y t2=>
  obtain⟨v,h1,h2⟩:=zh h0;obtain⟨u,h3,h4⟩:=zh h2;obtain⟨res,h5,h6⟩:=fJ (P:=P) (ρ:=ρ) (h:=lkO X st) (e:=lkE X st) (fk':=Nh P t) (kd':=kdOf P t) (fun ks hks=>hT.fk t ks hks) (by
   by_cases hb:(X.T.at t).kd= .bad
   ·exact .inl hb
   ·exact .inr (by rw[Jg hT hb];rfl)) hq h4
  refine⟨res,h5,Hf ?_ (Nb _) h6⟩;simp only[opR,hE x v h1,hE y u h3,zP]
 case unOp op t x=> obtain⟨v,h1,h2⟩:=zh h0;obtain⟨res,h3,h4⟩:=kH (P:=P) (ρ:=ρ) (h:=lkO X st) (e:=lkE X st) h2;refine⟨res,h3,Hf ?_ (Nb _) h4⟩;simp only[opR,hE x v h1,zP]
 case convert s d x=> obtain⟨v,h1,h2⟩:=zh h0;obtain⟨res,h3,h3',h4⟩:=fM (P:=P) (e:=lkE X st) (get:=lh.get) hI hT hv.heap hnn hρ hq h2;refine⟨res,h3,Hf ?_ (by rw[h3'];exact Ma _) h4⟩;simp only[opR,hE x v h1,zP]
 case makeFunc fn first caps=>
  cases fn<;>simp only[opE]at h0<;>(try (cases h0;done));split at h0
  ·rename_i hf;obtain⟨l,h1,h2⟩:=zh h0;refine⟨_,h2,Hf rfl (Nb _) ?_⟩;have hfirst:first= #[]:=by rw[<-Md (xs:=first),hf]
   simp only[opR,hfirst,Ae,FD (fun x t hx=>hE x t (dI hx)) h1];exact ZA trivial rfl rfl rfl
  ·cases h0
 case makeMap t r=>
  cases r with
  |some _=>grind
  |none=>
   simp only at h0;split at h0
   ·rename_i kt et hk;split at h0
    ·rename_i kd hke;refine⟨_,h0,Hf rfl (Ma _) ⟨trivial,?_,⟨?_,fun p hp=> .inl (by grind)⟩,(by intro id hid;cases hid)⟩⟩
     ·simp only[opR,Jo,trL,trT,trV,hρ]
     ·simp only[opR,Jo,trU,Na,Rb,trO,hρ];rfl
    ·cases h0
   ·cases h0
 case insert t m k x=> obtain⟨v,h1,h2⟩:=zh h0;obtain⟨u,h3,h4⟩:=zh h2;obtain⟨y,h5,h6⟩:=zh h4;obtain⟨res,h7,h7',h8⟩:=jO (P:=P) (e:=lkE X st) (get:=lh.get) (nx:=lh.next) (kk:=0) hT hv.heap h6;refine⟨res,h7,Vm ?_ h7' (Nb _) h8⟩;simp only[opR,hE m v h1,hE k u h3,hE x y h5,zP]
 case lookup t m k ok=> obtain⟨v,h1,h2⟩:=zh h0;obtain⟨u,h3,h4⟩:=zh h2;obtain⟨res,h5,h6⟩:=dO (P:=P) (e:=lkE X st) (get:=lh.get) hT hv.heap h4;refine⟨res,h5,Hf ?_ (Nb _) h6⟩;simp only[opR,hE m v h1,hE k u h3,zP]
 case makeSlice t l c=> obtain⟨v,h1,h2⟩:=zh h0;obtain⟨u,h3,h4⟩:=zh h2;obtain⟨res,h5,h5',h6⟩:=iK (P:=P) (h:=lkO X st) (e:=lkE X st) (get:=lh.get) hI hT hnn hρ h4;refine⟨res,h5,Vm ?_ h5' (Ma _) h6⟩;simp only[opR,hE l v h1,hE c u h3,zP]
 case slice t x lo hi mx=>
  obtain⟨v,h1,h2⟩:=zh h0;obtain⟨lo',h3,h4⟩:=zh h2;obtain⟨hi',h5,h6⟩:=zh h4;obtain⟨mx',h7,h8⟩:=zh h6;obtain⟨res,h9,h10,h11⟩:=PM (P:=P) (e:=lkE X st) (get:=lh.get) hI hT hv.heap hq h8;have hb: ∀{y:Option Operand} {n:Option Int},bndE q (opdE X st) y=some n->bndR (opd (zS e)) y=some (true,n):=by
   intro y n hy;unfold bndE at hy;split at hy
   ·cases hy;rfl
   ·rename_i z;split at hy
    ·rename_i k m hz;cases hy;simp only[bndR,hE z _ hz,trT,trV,pvE]
    ·cases hy
  have hop:opR P [] (opd (zS e)) lh.get lh.next (.slice t x lo hi mx)=(match af P lh.get t (trT ρ (lkO X st) v) lo' hi' mx' with|⟨q,v,r,u⟩=>⟨(true&&true&&true)=true/\(mx'≠none->hi'≠none)/\q,v,r,u⟩):=by simp only[opR,hE x v h1,zP,hb h3,hb h5,hb h7]
  refine⟨res,h9,Hf hop (Nb _) ?_⟩;simp_all
 case fieldAddr t x f=> obtain⟨v,h1,h2⟩:=zh h0;obtain⟨res,h3,h4⟩:=rQ (P:=P) (e:=lkE X st) (get:=lh.get) hI hT hv.heap h2;refine⟨res,h3,Hf ?_ (Nb _) h4⟩;simp only[opR,hE x v h1,zP]
 case field t x f=> obtain⟨v,h1,h2⟩:=zh h0;obtain⟨res,h3,h4⟩:=gN (P:=P) (ρ:=ρ) (h:=lkO X st) (e:=lkE X st) hT h2;refine⟨res,h3,Hf ?_ (Nb _) h4⟩;simp only[opR,hE x v h1,zP]
 case indexAddr t x i=> obtain⟨v,h1,h2⟩:=zh h0;obtain⟨u,h3,h4⟩:=zh h2;obtain⟨res,h5,h6⟩:=nQ (P:=P) (e:=lkE X st) (get:=lh.get) hI hT hv.heap hq h4;refine⟨res,h5,Hf ?_ (Nb _) h6⟩;simp only[opR,hE x v h1,hE i u h3,zP]
 case index t x i=> obtain⟨v,h1,h2⟩:=zh h0;obtain⟨u,h3,h4⟩:=zh h2;obtain⟨res,h5,h6⟩:=TN (P:=P) (ρ:=ρ) (h:=lkO X st) (e:=lkE X st) hT hq h4;refine⟨res,h5,Hf ?_ (Nb _) h6⟩;simp only[opR,hE x v h1,hE i u h3,zP]
 case extract x i=>
  split at h0
  ·rename_i ts hts;obtain⟨t,h1,h2⟩:=zh h0;refine⟨_,h2,Hf ?_ (Nb _) (Um (r:=⟨True, .v (trT ρ (lkO X st) t),[],[]⟩) trivial rfl rfl rfl)⟩;simp only[opR,Nv hv x ts hts,Ka,h1,Db]
  ·cases h0
 case call c=>
  obtain⟨callee,args,tys⟩:=c;simp only at h0 hnc;cases callee with
  |value f=>grind
  |invoke r m=>cases h0
  |builtin b=>
   cases b<;>simp only at h0<;>(try (cases h0;done))
   case len=>
    split at h0
    ·rename_i t x ht hx;obtain⟨v,h1,h2⟩:=zh h0;obtain⟨res,h3,h4⟩:=vJ (P:=P) (e:=lkE X st) (get:=lh.get) hT hv.heap h2;refine⟨res,h3,Hf ?_ (Nb _) h4⟩;simp only[opR,ht,hx,hE x v h1,zP]
    ·cases h0
   case append=>
    split at h0
    ·rename_i t u s x ht hx;obtain⟨v,h1,h2⟩:=zh h0;obtain⟨v2,h3,h4⟩:=zh h2;obtain⟨_,res,h5,h5',h6⟩:=JP (P:=P) (e:=lkE X st) (get:=lh.get) hI hT hv.heap hnn hρ (fun id o ho=>(hv.wfh id o ho).2) h4;refine⟨res,h5,Vm ?_ h5' (Ma _) h6⟩;simp only[opR,ht,hx,hE s v h1,hE x v2 h3,zP]
    ·cases h0
   case copy=>
    split at h0
    ·rename_i t u s x ht hx;obtain⟨v,h1,h2⟩:=zh h0;obtain⟨v2,h3,h4⟩:=zh h2;obtain⟨_,res,h5,h6⟩:=aM (P:=P) (e:=lkE X st) (get:=lh.get) hI hT hv.heap h4;refine⟨res,h5,Hf ?_ (Nb _) h6⟩;simp only[opR,ht,hx,hE s v h1,hE x v2 h3,zP]
    ·cases h0
   case min=> obtain⟨as,h1,h2⟩:=zh h0;obtain⟨res,h5,h6⟩:=dE (P:=P) (ρ:=ρ) (h:=lkO X st) (e:=lkE X st) h2;refine⟨res,h5,Hf ?_ (Nb _) h6⟩;simp only[opR,fw hE _ _ h1]
   case max=> obtain⟨as,h1,h2⟩:=zh h0;obtain⟨res,h5,h6⟩:=dE (P:=P) (ρ:=ρ) (h:=lkO X st) (e:=lkE X st) h2;refine⟨res,h5,Hf ?_ (Nb _) h6⟩;simp only[opR,fw hE _ _ h1]
end
def WkZ(Z:Nat->Prop)(x y:CV):Prop:=WkC x y\/ ∃z,Z z/\x= .p (.at (.slice none 0 0))/\y= .osl z 0 0
inductive WkT (Z:Nat->Prop):TV->TV->Prop where
 |c (x y:CV) (h:WkZ Z x y):WkT Z (.c x) (.c y)
 |agg (xs ys:List CV) (hl:ys.length=xs.length) (h: ∀(j:Nat) x y,xs[j]? =some x->ys[j]? =some y->WkZ Z x y):WkT Z (.agg xs) (.agg ys)
theorem WkZ.refl{Z:Nat->Prop}(x:CV):WkZ Z x x:= .inl (.inl rfl)
theorem WkT.refl{Z:Nat->Prop}(t:TV):WkT Z t t:=by
 cases t with
 |c x=>exact .c _ _ (WkZ.refl x)
 |agg xs=>exact .agg _ _ rfl fun j x y h1 h2=>by rw[h1]at h2;cases h2;exact WkZ.refl x
theorem WkZ.rep{Z:Nat->Prop}{ι:Asg}{w:World}{x y:CV}{v:Value}(hZ: ∀z,Z z-> ∃k,ι z= .live none k)(hw:WkZ Z x y)(h:repC ι w x v):repC ι w y v:=by
 rcases hw with hw|⟨z,hz,rfl,rfl⟩
 ·exact rA hw h
 ·obtain⟨k,hk⟩:=hZ z hz;cases h;refine⟨by rw[hk];simp,fun b k' hb=> .inl ?_⟩
  grind
theorem WkT.rep{Z:Nat->Prop}{ι:Asg}{w:World}{x y:TV}{v:Value}(hZ: ∀z,Z z-> ∃k,ι z= .live none k)(hw:WkT Z x y)(h:repT ι w x v):repT ι w y v:=by
 cases hw with
 |c x y hw=>exact⟨h.1,hw.rep hZ h.2⟩
 |agg xs ys hl hc=>
  obtain⟨vs,h1,h2,h3⟩:=h;refine⟨vs,h1,by rw[h2,hl],fun j y hj=> ?_⟩;have hjl:j<xs.length:=by rw[<-hl];exact(Ba.1 hj).1
  have hx:xs[j]? =some xs[j]:=Ea hjl;obtain⟨u,a1,a2,a3⟩:=h3 j _ hx;exact⟨u,a1,a2,(hc j _ y hx hj).rep hZ a3⟩
section
variable {I:Ip}
def InjM(m:Mp):Prop:= ∀i j a,lk m i=some (some a)->lk m j=some (some a)->i=j
def SubM(m m':Mp):Prop:= ∀i b,lk m i=some b->lk m' i=some b
theorem SubM.refl(m:Mp):SubM m m:=fun _ _ h=>h
theorem SubM.trans{a b c:Mp}(h:SubM a b)(g:SubM b c):SubM a c:=fun i x hx=>g i x (h i x hx)
theorem zQ{α:Type}(j:Nat)(x:α)(r:List (Nat×α))(i:Nat):lk ((j,x)::r) i=if i=j then some x else lk r i:=by simp only[lk];simp_all
theorem zN{α:Type}: ∀{l:List (Nat×α)} {i:Nat} {x:α},lk l i=some x->(i,x)∈l
 |[],i,x,h=>by cases h
 |(j,y)::r,i,x,h=>by
  rw[zQ]at h;split at h
  ·grind
  ·exact Fb _ (zN h)
theorem xw: ∀{m:Mp} {i a:Nat},(i,some a)∈m->Xi m a=true
 |[],i,a,h=>by cases h
 |(j,some b)::r,i,a,h=>by
  simp only[Xi];rcases Ra.1 h with h|h
  ·simp_all
  ·rw[xw h];grind
 |(j,none)::r,i,a,h=>by
  simp only[Xi];rcases Ra.1 h with h|h
  ·cases h
  ·exact xw h
theorem Rs{m m':Mp}{i:Nat}{a:Option Nat}(h:bndM m i a=some m'):SubM m m'/\lk m' i=some a/\(InjM m->InjM m'):=by
 unfold bndM at h;split at h
 ·rename_i b hb;split at h
  ·rename_i a;obtain⟨h1,h2⟩:=zk h;have:=Ta h1;subst this;injection h2 with h2;subst h2;exact⟨SubM.refl _,hb,fun h=>h⟩
  ·cases h
 ·cases h
 ·rename_i hn;have sub: ∀x,SubM m ((i,x)::m):=by
   intro x j b hj;rw[zQ];split
   ·grind
   ·exact hj
  have at_: ∀x,lk ((i,x)::m) i=some x:=fun x=>by rw[zQ,Va rfl]
  split at h
  ·rename_i a;cases hany:Xi m a with
   |true=>grind
   |false=>
    rw[hany]at h;injection h with h;subst h;refine⟨sub _,at_ _,fun hi j1 j2 b h1 h2=> ?_⟩;have hno: ∀j,lk m j≠some (some a):=by intro j hj;have:=xw (zN hj);rw[hany]at this;cases this
    rw[zQ]at h1 h2;split at h1<;>split at h2
    ·grind
    ·grind
    ·grind
    ·exact hi j1 j2 b h1 h2
  ·injection h with h;subst h;refine⟨sub _,at_ _,fun hi j1 j2 b h1 h2=> ?_⟩;rw[zQ]at h1 h2;split at h1<;>split at h2
   ·cases h1
   ·cases h1
   ·cases h2
   ·exact hi j1 j2 b h1 h2
def Cmp(ρ ρ':Nat->Nat)(h h':Nat->Option (EO I.C))(Z:Nat->Prop)(m:Mp):Prop:= ∀i x,lk m i=some x->
 match x with
 |some a=>ρ' i=ρ a/\infO h' i=infO h a
 |none=>Z (ρ' i)/\infO h' i=some (.inl 0)
theorem Cmp.sub{ρ ρ':Nat->Nat}{h h':Nat->Option (EO I.C)}{Z:Nat->Prop}{m m':Mp}(hs:SubM m m')(hc:Cmp ρ ρ' h h' Z m'):Cmp ρ ρ' h h' Z m:=fun i x hx=>hc i x (hs i x hx)
theorem Qr{ρ:Nat->Nat}{h:Nat->Option (EO I.C)}(id:Nat):trV ρ h (.own id)=(match infO h id with|some (.inr rows)=> .p (.sl rows)|some (.inl n)=> .osl (ρ id) 0 n|none=> .osl (ρ id) 0 0):=by
 simp only[trV,infO]
 grind
structure zop (P:Program) (s:Shp I):Prop where
 unit:s.u=true-> ∀x y,s.enc x=s.enc y
 mat: ∀a m x m',s.mat a m=some (x,m')->SubM m m'/\(InjM m->InjM m')/\ ∀ρ ρ' h h' Z,Cmp ρ ρ' h h' Z m'->WkT Z (trT ρ h a) (trT ρ' h' (s.enc x))
theorem Vo{P:Program}{x:ET I.C}{mat:ET I.C->Mp->Option Mp}(h: ∀a m m',mat a m=some m'->SubM m m'/\(InjM m->InjM m')/\ ∀ρ ρ' h h' Z,Cmp ρ ρ' h h' Z m'->WkT Z (trT ρ h a) (trT ρ' h' x)):zop P (jg I x mat):=by
 refine⟨fun _ _ _=>rfl,fun a m y m' he=> ?_⟩;simp only[jg]at he;split at he
 ·rename_i m1 hm;cases he;exact h a m _ hm
 ·cases he
theorem eF: ∀{l:List Nat} {caps:List (Nat×Nat×Nat)} {m m':Mp},mh l caps m=some m'->SubM m m'/\(InjM m->InjM m')/\caps.length=l.length/\ ∀(j:Nat) i,l[j]? =some i-> ∃a,caps[j]? =some (a,0,0)/\lk m' i=some (some a)
 |[],[],m,m',h=>by simp only[mh,Option.some.injEq]at h;subst h;exact⟨SubM.refl _,fun h=>h,rfl,fun j i hj=>by simp at hj⟩
 |i::r,(a,0,0)::s,m,m',h=>by
  simp only[mh]at h;split at h
  ·rename_i m1 hm;obtain⟨b1,b2,b3⟩:=Rs hm;obtain⟨c1,c2,c3,c4⟩:=eF h;refine⟨b1.trans c1,fun hi=>c2 (b3 hi),by simp[c3],fun j i' hj=> ?_⟩;cases j with
   |zero=>simp at hj;subst hj;exact⟨a,rfl,c1 _ _ b2⟩
   |succ j=>grind
  ·cases h
 |i::r,(a,0,n+1)::s,m,m',h=>by simp[mh]at h
 |i::r,(a,n+1,c)::s,m,m',h=>by simp[mh]at h
 |[],_::_,m,m',h=>by simp[mh]at h
 |_::_,[],m,m',h=>by simp[mh]at h
theorem XH{P:Program}(hI:IpOK P I){ρ:Nat->Nat}{h:Nat->Option (EO I.C)}(t:Nat)(x:I.C t):(I.exp t x).map (trV ρ h)=(I.full t x).map CV.p:=(rq hI t x).symm
theorem bA{P:Program}(hI:IpOK P I){ρ ρ':Nat->Nat}{h h':Nat->Option (EO I.C)}{Z:Nat->Prop}{t:Nat}{cs:List (EV I.C)}{x:I.C t}(h1:I.made t cs=some x):WkT Z (trT ρ h (.agg cs)) (trT ρ' h' (.agg (I.exp t x))):=by
 refine .agg _ _ ?_ fun j a b ha hb=> ?_
 ·rw[Ga,Ga];have:=(hI.made t cs x h1).2.1;rw[hI.exp,Ga]at this;exact this.symm
 ·rw[XH hI]at hb;exact .inl (En hI h1 j a b ha hb)
theorem nH{P:Program}(hI:IpOK P I): ∀s:Sh,zop P (s.shp I)
 | .int k=>⟨fun h=>(by cases h),fun a m x m' he=>by
   simp only[Sh.shp]at he;split at he
   ·obtain⟨h1,h2⟩:=zk he;have:=Pj h1;subst this;cases h2;exact⟨SubM.refl _,fun h=>h,fun ρ ρ' h h' Z _=>WkT.refl _⟩
   ·cases he⟩
 | .bool=>⟨fun h=>(by cases h),fun a m x m' he=>by
   simp only[Sh.shp]at he;split at he
   ·cases he;exact⟨SubM.refl _,fun h=>h,fun ρ ρ' h h' Z _=>WkT.refl _⟩
   ·cases he⟩
 | .str=>⟨fun h=>(by cases h),fun a m x m' he=>by
   simp only[Sh.shp]at he;split at he
   ·cases he;exact⟨SubM.refl _,fun h=>h,fun ρ ρ' h h' Z _=>WkT.refl _⟩
   ·cases he⟩
 | .sl t=>⟨fun h=>(by cases h),fun a m x m' he=>by
   simp only[Sh.shp]at he;split at he
   ·split at he
    ·rename_i l hc;obtain⟨rfl,hh⟩:=Zj hc;cases hh;cases he;exact⟨SubM.refl _,fun h=>h,fun ρ ρ' h h' Z _=>WkT.refl _⟩
    ·cases he
   ·cases he;exact⟨SubM.refl _,fun h=>h,fun ρ ρ' h h' Z _=> .c _ _ (.inl (.inr ⟨_,_,rfl,rfl, .nil⟩))⟩
   ·cases he⟩
 | .val t=>⟨fun h=>(by cases h),fun a m x m' he=>by
   simp only[Sh.shp]at he;split at he
   ·rename_i cs;obtain⟨y,h1,h2⟩:=Aa.1 he;cases h2;refine⟨SubM.refl _,fun h=>h,fun ρ ρ' h h' Z _=> ?_⟩;exact bA hI h1
   ·cases he⟩
 | .ptr t=>⟨fun h=>(by cases h),fun a m x m' he=>by
   simp only[Sh.shp]at he;split at he
   ·split at he
    ·rename_i y hc;obtain⟨rfl,hh⟩:=pM hc;cases hh;cases he;exact⟨SubM.refl _,fun h=>h,fun ρ ρ' h h' Z _=>WkT.refl _⟩
    ·cases he
   ·cases he⟩
 | .nilp=>Vo fun a m m' he=>by
   split at he
   ·cases he;exact⟨SubM.refl _,fun h=>h,fun ρ ρ' h h' Z _=>WkT.refl _⟩
   ·cases he
 | .nilv=>Vo fun a m m' he=>by
   split at he
   ·cases he;exact⟨SubM.refl _,fun h=>h,fun ρ ρ' h h' Z _=>WkT.refl _⟩
   ·cases he
 | .own i=>Vo fun a m m' he=>by
   split at he
   ·rename_i b;obtain⟨b1,b2,b3⟩:=Rs he;refine⟨b1,b3,fun ρ ρ' h h' Z hc=> ?_⟩;obtain⟨c1,c2⟩:=hc i _ b2;simp only[trT];rw[Qr,Qr,c1,c2];exact WkT.refl _
   ·obtain⟨b1,b2,b3⟩:=Rs he;refine⟨b1,b3,fun ρ ρ' h h' Z hc=> ?_⟩;obtain⟨c1,c2⟩:=hc i _ b2;simp only[trT];rw[Qr,c2];exact .c _ _ (.inr ⟨_,c1,rfl,rfl⟩)
   ·cases he
 | .optr i=>Vo fun a m m' he=>by
   split at he
   ·rename_i b;obtain⟨b1,b2,b3⟩:=Rs he;refine⟨b1,b3,fun ρ ρ' h h' Z hc=> ?_⟩;obtain⟨c1,c2⟩:=hc i _ b2;simp only[trT,trV,c1];exact WkT.refl _
   ·cases he
 | .clo f caps=>Vo fun a m m' he=>by
   split at he
   ·rename_i g l;obtain⟨h1,h2⟩:=zk he;have:=Ta h1;subst this;obtain⟨b1,b2,b3,b4⟩:=eF h2;refine⟨b1,b2,fun ρ ρ' h h' Z hc=> ?_⟩;have:l.map (fun q=>(ρ q.1,q.2))=(caps.map fun i=>(i,0,0)).map fun q:Nat×Nat×Nat=>(ρ' q.1,q.2):=by
     apply List.ext_getElem?;intro j;simp only[Ka];cases hj:caps[j]? with
     |none=>
      grind
     |some i=> obtain⟨a,e1,e2⟩:=b4 j i hj;rw[e1];simp only[Db,(hc i _ e2).1]
    simp only[trT,trV,this];exact WkT.refl _
   ·cases he
structure zh0 (P:Program) (s:VL I):Prop where
 unit:s.u=true-> ∀x y,s.enc x=s.enc y
 mat: ∀l m x m',s.mat l m=some (x,m')->SubM m m'/\(InjM m->InjM m')/\(s.enc x).length=l.length/\ ∀ρ ρ' h h' Z,Cmp ρ ρ' h h' Z m'-> ∀(j:Nat) a b,l[j]? =some a->(s.enc x)[j]? =some b->WkT Z (trT ρ h a) (trT ρ' h' b)
theorem zh0.nil(P:Program):zh0 P (VL.nil I):=by
 refine⟨fun _ _ _=>rfl,fun l m x m' he=> ?_⟩;simp only[VL.nil]at he;split at he
 ·cases he;exact⟨SubM.refl _,fun h=>h,rfl,fun ρ ρ' h h' Z _ j a b ha=>by simp at ha⟩
 ·cases he
theorem zh0.cons{P:Program}{s:Shp I}{r:VL I}(hs:zop P s)(hr:zh0 P r):zh0 P (VL.cons s r):=by
 have main: ∀(l:List (ET I.C)) (m:Mp) (x:s.T) (y:r.T) (m1 m':Mp) (a:ET I.C),s.mat a m=some (x,m1)->r.mat l m1=some (y,m')->SubM m m'/\(InjM m->InjM m')/\(s.enc x::r.enc y).length=(a::l).length/\
   ∀ρ ρ' h h' Z,Cmp ρ ρ' h h' Z m'-> ∀(j:Nat) a' b,(a::l)[j]? =some a'->(s.enc x::r.enc y)[j]? =some b->WkT Z (trT ρ h a') (trT ρ' h' b):=by
  intro l m x y m1 m' a h1 h2;obtain⟨s1,s2,s3⟩:=hs.mat a m x m1 h1;obtain⟨r1,r2,r3,r4⟩:=hr.mat l m1 y m' h2;refine⟨s1.trans r1,fun hi=>r2 (s2 hi),by simp[r3],fun ρ ρ' h h' Z hc j a' b ha hb=> ?_⟩;cases j with
  |zero=>simp at ha hb;subst ha;subst hb;exact s3 ρ ρ' h h' Z (hc.sub r1)
  |succ j=>grind
 unfold VL.cons;split
 ·rename_i hu;refine⟨fun h x y=>congrArg (s.enc s.dflt:: ·) (hr.unit h x y),fun l m x m' he=> ?_⟩;simp only at he;split at he
  ·cases he
  ·rename_i a l;obtain⟨p,h1,h2⟩:=Aa.1 he;obtain⟨x0,m1⟩:=p;have:=main l m x0 x m1 m' a h1 h2;rw[hs.unit hu x0 s.dflt]at this;exact this
 ·rename_i hu1 hu2;refine⟨fun h=>(by cases h),fun l m x m' he=> ?_⟩;simp only at he;split at he
  ·cases he
  ·rename_i a l;obtain⟨p,h1,h2⟩:=Aa.1 he;obtain⟨p2,h3,h4⟩:=Aa.1 h2;cases h4;obtain⟨x0,m1⟩:=p;obtain⟨y0,m2⟩:=p2;have:=main l m x0 y0 m1 m2 a h1 h3;rw[hr.unit hu2 y0 r.dflt]at this;exact this
 ·refine⟨fun h=>(by cases h),fun l m x m' he=> ?_⟩;simp only at he;split at he
  ·cases he
  ·rename_i a l;obtain⟨p,h1,h2⟩:=Aa.1 he;obtain⟨p2,h3,h4⟩:=Aa.1 h2
   grind
theorem Ym{P:Program}(hI:IpOK P I): ∀l:List Sh,zh0 P (vlOf I l)
 |[]=>zh0.nil P
 |s::r=>zh0.cons (nH hI s) (Ym hI r)
end
structure WkOZ (Z:Nat->Prop) (o o2:OB):Prop where
 ty:o2.ty=o.ty
 k:o2.k=o.k
 len:o2.rows.length=o.rows.length
 row: ∀(i:Nat) row row2,o.rows[i]? =some row->o2.rows[i]? =some row2->row2.length=row.length/\ ∀(j:Nat) x y,row[j]? =some x->row2[j]? =some y->WkZ Z x y
 raw:o2.raw=o.raw
theorem WkOZ.refl{Z:Nat->Prop}(o:OB):WkOZ Z o o:=⟨rfl,rfl,rfl,fun i row row2 h1 h2=>by
 rw[h1]at h2;cases h2;exact⟨rfl,fun j x y h3 h4=>by rw[h3]at h4;cases h4;exact WkZ.refl x⟩,rfl⟩
theorem Holds.wkZ{Z:Nat->Prop}{ι:Asg}{w:World}{o o2:OB}{b:Option Nat}(hZ: ∀z,Z z-> ∃k,ι z= .live none k)(hw:WkOZ Z o o2)(h:Holds ι w o b):Holds ι w o2 b:=by
 obtain⟨h1,h2⟩:=h;have rowAt: ∀(i:Nat) (row2:List CV),o2.rows[i]? =some row2-> ∃row,o.rows[i]? =some row:=by intro i row2 hi;have:=(Ba.1 hi).1;exact⟨_,Ea (by rw[<-hw.len];exact this)⟩
 refine⟨fun row2 hr=> ?_,?_⟩
 ·obtain⟨i,hi,rfl⟩:=Vf hr;have hi2:o2.rows[i]? =some o2.rows[i]:=Ea hi;obtain⟨row,hrow⟩:=rowAt i _ hi2;rw[(hw.row i row _ hrow hi2).1,hw.k]
  grind
 ·rcases h2 with⟨h0,h2,h3⟩|⟨h0,b',cur,fr,e,h3,h4,h5,h6⟩|⟨h3,b',es,n,h4,h5,h6⟩
  ·exact .inl ⟨by rw[hw.raw,h0],h2,Ab (by rw[hw.len,h3];rfl)⟩
  rotate_left
  ·exact .inr (.inr ⟨Ab (by rw[hw.len,h3];rfl),b',es,n,by rw[hw.raw,h4],h5,h6⟩)
  ·refine .inr (.inl ⟨by rw[hw.raw,h0],b',cur,fr,e,by rw[hw.ty];exact h3,h4,by rw[hw.len,hw.k];exact h5,fun i row2 j y hi hj=> ?_⟩);obtain⟨row,hrow⟩:=rowAt i row2 hi;obtain⟨l1,l2⟩:=hw.row i row row2 hrow hi;have hjl:j<row.length:=by rw[<-l1];exact(Ba.1 hj).1
   have hx:row[j]? =some row[j]:=Ea hjl;obtain⟨v,a1,a2,a3⟩:=h6 i row j _ hrow hx;exact⟨v,by rw[hw.k];exact a1,a2,(l2 j _ y hx hj).rep hZ a3⟩
section
variable {I:Ip} {P:Program}
theorem zJ{h:Nat->Option (EO I.C)}{id:Nat}{o:EO I.C}(ho:h id=some o):infO h id=infE o:=by simp only[infO,ho];cases o<;>rfl
structure zlJ (P:Program) (s:OShp I):Prop where
 unit:s.u=true-> ∀x y,s.enc x=s.enc y
 mat: ∀a m x m',s.mat a m=some (x,m')->SubM m m'/\(InjM m->InjM m')/\
  (∀o,a=some o->infE o=infE (s.enc x)/\ ∀ρ ρ' h h' Z,Cmp ρ ρ' h h' Z m'-> ∃ob ob',trO P ρ h o=some ob/\trO P ρ' h' (s.enc x)=some ob'/\WkOZ Z ob ob')/\
  (a=none-> ∃t,s.enc x= .sl t [])/\(∀t l,a=some (.sl t l)->s.enc x= .sl t l)/\((∀ty cs,a=some (.cells ty cs)-> ∃ty' cs',s.enc x= .cells ty' cs')/\ ∀t l1 cs l2,a=some (.slo t l1 cs l2)-> ∃cs',s.enc x= .slo t l1 cs' l2)
theorem WB{v:VL I}(hv:zh0 P v){t:Nat}{l1 l2:List (I.C t)}{cs:List (EV I.C)}{y:v.T}{m m':Mp}(he:v.mat (cs.map .c) m=some (y,m')):
  SubM m m'/\(InjM m->InjM m')/\ ∀ρ ρ' h h' Z,Cmp ρ ρ' h h' Z m'-> ∃ob ob',trO P ρ h (.slo t l1 cs l2)=some ob/\trO P ρ' h' (.slo t l1 ((v.enc y).map (evOf I)) l2)=some ob'/\WkOZ Z ob ob':=by
 obtain⟨m1,m2,m3,m4⟩:=hv.mat _ _ _ _ he;refine⟨m1,m2,fun ρ ρ' h h' Z hc=>⟨_,_,rfl,rfl,?_⟩⟩;rw[Ga]at m3;refine⟨rfl,rfl,by simp,fun i row row2 hr hr2=> ?_,rfl⟩;by_cases hi:i=l1.length
 ·rw[Dr hi]at hr hr2;cases hr;cases hr2;refine⟨by grind,fun j a b ha hb=> ?_⟩;simp only[Ka]at ha hb;cases hj:cs[j]? with
  |none=>grind
  |some c=>
   cases hj2:(v.enc y)[j]? with
   |none=>grind
   |some d=>
    rw[hj]at ha;rw[hj2]at hb;cases ha;cases hb;have:=m4 ρ ρ' h h' Z hc j (.c c) d (by grind) hj2;cases d with
    |c d=>cases this with|c _ _ hw=>exact hw
    |agg ds=>cases this
 ·have hsame:row2=row:=by
   by_cases hlt:i<l1.length
   ·grind
   ·grind
  subst hsame;exact⟨rfl,fun j a b ha hb=>by rw[ha]at hb;cases hb;exact WkZ.refl _⟩
theorem BM{v:VL I}(hv:zh0 P v)(t:Nat):zlJ P (ah t v):=by
 unfold ah;split
 ·refine⟨fun h=>(by cases h),fun a m x m' he=> ?_⟩;rename_i hu;simp only at he;split at he
  ·rename_i u l1 cs l2;split at he
   ·rename_i k1 k2 hc1 hc2;obtain⟨rfl,hh⟩:=Zj hc1;cases hh;obtain⟨_,hh⟩:=Zj hc2;cases hh;obtain⟨⟨y,m1⟩,h1,h2⟩:=Aa.1 he;cases h2;obtain⟨q1,q2,q3⟩:=WB hv (l1:=l1) (l2:=l2) h1;refine⟨q1,q2,fun o ho=> ?_,fun h=>(by cases h),fun t l h=>(by cases h),fun ty cs h=>(by cases h),fun t m1 cs m2 h=>(by grind)⟩;cases ho;refine⟨rfl,fun ρ ρ' h h' Z hc=> ?_⟩;have:=q3 ρ ρ' h h' Z hc;rw[hv.unit hu y v.dflt]at this;exact this
   ·cases he
  ·cases he
 ·refine⟨fun h=>(by cases h),fun a m x m' he=> ?_⟩;simp only at he;split at he
  ·rename_i u l1 cs l2;split at he
   ·rename_i k1 k2 hc1 hc2;obtain⟨rfl,hh⟩:=Zj hc1;cases hh;obtain⟨_,hh⟩:=Zj hc2;cases hh;obtain⟨⟨y,m1⟩,h1,h2⟩:=Aa.1 he;cases h2;obtain⟨q1,q2,q3⟩:=WB hv (l1:=l1) (l2:=l2) h1;refine⟨q1,q2,fun o ho=> ?_,fun h=>(by cases h),fun t l h=>(by cases h),fun ty cs h=>(by cases h),fun t m1 cs m2 h=>(by grind)⟩;cases ho;exact⟨rfl,fun ρ ρ' h h' Z hc=>q3 ρ ρ' h h' Z hc⟩
   ·cases he
  ·cases he
theorem aK(hI:IpOK P I): ∀s:OSh,zlJ P (s.shp I)
 | .slo t shs=>BM (Ym hI shs) t
 | .sl t=>⟨fun h=>(by cases h),fun a m x m' he=>by
   simp only[OSh.shp]at he;split at he
   ·split at he
    ·rename_i l hc;obtain⟨rfl,hh⟩:=Zj hc;cases hh;cases he;refine⟨SubM.refl _,fun h=>h,fun o ho=> ?_,fun h=>(by cases h),fun t l h=>(by cases h;rfl),fun ty cs h=>(by cases h),fun t m1 cs m2 h=>(by cases h)⟩;cases ho;exact⟨rfl,fun ρ ρ' h h' Z _=>⟨_,_,rfl,rfl,WkOZ.refl _⟩⟩
    ·cases he
   ·cases he;exact⟨SubM.refl _,fun h=>h,fun o ho=>(by cases ho),fun _=>⟨t,rfl⟩,fun t l h=>(by cases h),fun ty cs h=>(by cases h),fun t m1 cs m2 h=>(by cases h)⟩
   ·cases he⟩
 | .row t=>⟨fun h=>(by cases h),fun a m x m' he=>by
   simp only[OSh.shp]at he;split at he
   ·rename_i ty cs;obtain⟨h1,h2⟩:=zk he;have:=Ta h1;subst this;obtain⟨y,h3,h4⟩:=Aa.1 h2;cases h4;refine⟨SubM.refl _,fun h=>h,fun o ho=> ?_,fun h=>(by cases h),fun t l h=>(by cases h),fun ty cs h=>⟨_,_,rfl⟩,fun t m1 cs m2 h=>(by cases h)⟩;cases ho;refine⟨rfl,fun ρ ρ' h h' Z _=>⟨_,_,rfl,rfl,?_⟩⟩;have hw:=bA (ρ:=ρ) (ρ':=ρ') (h:=h) (h':=h') (Z:=Z) hI h3;simp only[trT]at hw;generalize hA:cs.map (trV ρ h)=A at hw;generalize hB:(I.exp ty x).map (trV ρ' h')=B at hw;cases hw with
    |agg _ _ hl hc=>
     refine⟨rfl,?_,rfl,fun i row row2 hr hr2=> ?_,rfl⟩
     ·grind
     grind
   ·cases he⟩
 | .cells ty shs=>⟨fun h x y=>by
   have:=(Ym hI shs).unit h x y;exact congrArg (fun l=>EO.cells ty (l.map (evOf I))) this,fun a m x m' he=>by
   simp only[OSh.shp]at he;split at he
   ·rename_i ty' cs;obtain⟨h1,h2⟩:=zk he;have:=Ta h1;subst this;obtain⟨m1,m2,m3,m4⟩:=(Ym hI shs).mat _ _ _ _ h2;refine⟨m1,m2,fun o ho=> ?_,fun h=>(by cases h),fun t l h=>(by cases h),fun ty cs h=>⟨_,_,rfl⟩,fun t m1 cs m2 h=>(by cases h)⟩;cases ho;refine⟨rfl,fun ρ ρ' h h' Z hc=>⟨_,_,rfl,rfl,?_⟩⟩;rw[Ga]at m3;refine⟨rfl,?_,rfl,fun i row row2 hr hr2=> ?_,rfl⟩
    ·grind
    ·cases i with
     |succ i=>simp at hr
     |zero=>
      simp only[Uc,Option.some.injEq]at hr hr2;subst hr;subst hr2;refine⟨by grind,fun j a b ha hb=> ?_⟩;simp only[Ka]at ha hb;cases hj:cs[j]? with
      |none=>grind
      |some c=>
       cases hj2:((vlOf I shs).enc x)[j]? with
       |none=>grind
       |some d=>
        rw[hj]at ha;rw[hj2]at hb;cases ha;cases hb;have:=m4 ρ ρ' h h' Z hc j (.c c) d (by grind) hj2;cases d with
        |c d=>cases this with|c _ _ hw=>exact hw
        |agg ds=>cases this
   ·cases he⟩
structure OLLaw (P:Program) (ids:List Nat) (s:OL I):Prop where
 unit:s.u=true-> ∀x y,s.enc x=s.enc y
 keys: ∀x,(s.enc x).map (·.1)=ids
 mat: ∀hp m x m',s.mat hp m=some (x,m')->SubM m m'/\(InjM m->InjM m')/\ ∀i o',(i,o')∈s.enc x->
  (∃a o,lk m' i=some (some a)/\hp a=some o/\infE o=infE o'/\(∀t l,o= .sl t l->o'= .sl t l)/\((∀ty cs,o= .cells ty cs-> ∃ty' cs',o'= .cells ty' cs')/\ ∀t l1 cs l2,o= .slo t l1 cs l2-> ∃cs',o'= .slo t l1 cs' l2)/\ ∀ρ ρ' h h' Z,Cmp ρ ρ' h h' Z m'-> ∃ob ob',trO P ρ h o=some ob/\trO P ρ' h' o'=some ob'/\WkOZ Z ob ob')\/
  (lk m' i=some none/\ ∃t,o'= .sl t [])
theorem OLLaw.nil:OLLaw P [] (OL.nil I):=
 ⟨fun _ _ _=>rfl,fun _=>rfl,fun hp m x m' he=>by
  cases he;exact⟨SubM.refl _,fun h=>h,fun i o' hm=>by cases hm⟩⟩
theorem OLLaw.cons{i:Nat}{ids:List Nat}{s:OShp I}{r:OL I}(hs:zlJ P s)(hr:OLLaw P ids r):OLLaw P (i::ids) (OL.cons i s r):=by
 have main: ∀(hp:Nat->Option (EO I.C)) (m:Mp) (a:Option (EO I.C)) (x:s.T) (y:r.T) (m1 m':Mp),Gm hp m i=some a->s.mat a m=some (x,m1)->r.mat hp m1=some (y,m')->SubM m m'/\(InjM m->InjM m')/\
   ∀j o',(j,o')∈(i,s.enc x)::r.enc y->(∃a o,lk m' j=some (some a)/\hp a=some o/\infE o=infE o'/\(∀t l,o= .sl t l->o'= .sl t l)/\((∀ty cs,o= .cells ty cs-> ∃ty' cs',o'= .cells ty' cs')/\ ∀t l1 cs l2,o= .slo t l1 cs l2-> ∃cs',o'= .slo t l1 cs' l2)/\ ∀ρ ρ' h h' Z,Cmp ρ ρ' h h' Z m'-> ∃ob ob',trO P ρ h o=some ob/\trO P ρ' h' o'=some ob'/\WkOZ Z ob ob')\/(lk m' j=some none/\ ∃t,o'= .sl t []):=by
  intro hp m a x y m1 m' ha h1 h2;obtain⟨s1,s2,s3,s4,s5,s6⟩:=hs.mat a m x m1 h1;obtain⟨r1,r2,r3⟩:=hr.mat hp m1 y m' h2;refine⟨s1.trans r1,fun hi=>r2 (s2 hi),fun j o' hm=> ?_⟩;rcases Ra.1 hm with hm|hm
  ·cases hm;unfold Gm at ha;split at ha
   ·rename_i b hb;split at ha
    ·rename_i o ho;cases ha;obtain⟨q1,q2⟩:=s3 o rfl;exact .inl ⟨b,o,r1 _ _ (s1 _ _ hb),ho,q1,fun t l e=>s5 t l (congrArg some e),⟨fun ty cs e=>s6.1 ty cs (congrArg some e),fun t l1 cs l2 e=>s6.2 t l1 cs l2 (congrArg some e)⟩,fun ρ ρ' h h' Z hc=>q2 ρ ρ' h h' Z (hc.sub r1)⟩
    ·cases ha
   ·rename_i hb;cases ha;exact .inr ⟨r1 _ _ (s1 _ _ hb),s4 rfl⟩
   ·cases ha
  ·exact r3 j o' hm
 unfold OL.cons;split
 ·rename_i hu;refine⟨fun h x y=>congrArg ((i,s.enc s.dflt):: ·) (hr.unit h x y),fun x=>congrArg (i:: ·) (hr.keys x),fun hp m x m' he=> ?_⟩;simp only at he;split at he
  ·cases he
  ·rename_i a ha;obtain⟨⟨x0,m1⟩,h1,h2⟩:=Aa.1 he;have:=main hp m a x0 x m1 m' ha h1 h2;rw[hs.unit hu x0 s.dflt]at this;exact this
 ·rename_i hu1 hu2;refine⟨fun h=>(by cases h),fun x=>congrArg (i:: ·) (hr.keys r.dflt),fun hp m x m' he=> ?_⟩;simp only at he;split at he
  ·cases he
  ·rename_i a ha;obtain⟨⟨x0,m1⟩,h1,h2⟩:=Aa.1 he;obtain⟨⟨y0,m2⟩,h3,h4⟩:=Aa.1 h2;cases h4;have:=main hp m a x0 y0 m1 m2 ha h1 h3;rw[hr.unit hu2 y0 r.dflt]at this;exact this
 ·refine⟨fun h=>(by cases h),fun x=>congrArg (i:: ·) (hr.keys x.2),fun hp m x m' he=> ?_⟩;simp only at he;split at he
  ·cases he
  ·rename_i a ha;obtain⟨⟨x0,m1⟩,h1,h2⟩:=Aa.1 he;obtain⟨⟨y0,m2⟩,h3,h4⟩:=Aa.1 h2
   grind
theorem OA(hI:IpOK P I): ∀l:List (Nat×OSh),OLLaw P (l.map (·.1)) (olOf I l)
 |[]=>OLLaw.nil
 |(i,s)::r=>OLLaw.cons (aK hI s) (OA hI r)
structure SLLaw (P:Program) (sh:StSh):Prop where
 keys: ∀x,((sh.sl I).enc x).2.map (·.1)=sh.objs.map (·.1)
 mat: ∀l hp m x m',(sh.sl I).mat l hp m=some (x,m')->SubM m m'/\(InjM m->InjM m')/\((sh.sl I).enc x).1.length=l.length/\
  (∀ρ ρ' h h' Z,Cmp ρ ρ' h h' Z m'-> ∀(j:Nat) a b,l[j]? =some a->((sh.sl I).enc x).1[j]? =some b->WkT Z (trT ρ h a) (trT ρ' h' b))/\
  ∀i o',(i,o')∈((sh.sl I).enc x).2->(∃a o,lk m' i=some (some a)/\hp a=some o/\infE o=infE o'/\(∀t l,o= .sl t l->o'= .sl t l)/\((∀ty cs,o= .cells ty cs-> ∃ty' cs',o'= .cells ty' cs')/\ ∀t l1 cs l2,o= .slo t l1 cs l2-> ∃cs',o'= .slo t l1 cs' l2)/\ ∀ρ ρ' h h' Z,Cmp ρ ρ' h h' Z m'-> ∃ob ob',trO P ρ h o=some ob/\trO P ρ' h' o'=some ob'/\WkOZ Z ob ob')\/
   (lk m' i=some none/\ ∃t,o'= .sl t [])
theorem Aj(hI:IpOK P I)(sh:StSh):SLLaw (I:=I) P sh:=by
 have hV:=Ym hI sh.vals;have hO:=OA hI sh.objs;have main: ∀(l:List (ET I.C)) (hp:Nat->Option (EO I.C)) (m m1 m':Mp) (x:(vlOf I sh.vals).T) (y:(olOf I sh.objs).T),(vlOf I sh.vals).mat l m=some (x,m1)->(olOf I sh.objs).mat hp m1=some (y,m')->SubM m m'/\(InjM m->InjM m')/\((vlOf I sh.vals).enc x).length=l.length/\
   (∀ρ ρ' h h' Z,Cmp ρ ρ' h h' Z m'-> ∀(j:Nat) a b,l[j]? =some a->((vlOf I sh.vals).enc x)[j]? =some b->WkT Z (trT ρ h a) (trT ρ' h' b))/\
   ∀i o',(i,o')∈(olOf I sh.objs).enc y->(∃a o,lk m' i=some (some a)/\hp a=some o/\infE o=infE o'/\(∀t l,o= .sl t l->o'= .sl t l)/\((∀ty cs,o= .cells ty cs-> ∃ty' cs',o'= .cells ty' cs')/\ ∀t l1 cs l2,o= .slo t l1 cs l2-> ∃cs',o'= .slo t l1 cs' l2)/\ ∀ρ ρ' h h' Z,Cmp ρ ρ' h h' Z m'-> ∃ob ob',trO P ρ h o=some ob/\trO P ρ' h' o'=some ob'/\WkOZ Z ob ob')\/
    (lk m' i=some none/\ ∃t,o'= .sl t []):=by
  intro l hp m m1 m' x y h1 h2;obtain⟨v1,v2,v3,v4⟩:=hV.mat l m x m1 h1;obtain⟨o1,o2,o3⟩:=hO.mat hp m1 y m' h2;exact⟨v1.trans o1,fun hi=>o2 (v2 hi),v3,fun ρ ρ' h h' Z hc=>v4 ρ ρ' h h' Z (hc.sub o1),o3⟩
 constructor
 ·unfold StSh.sl;split
  ·exact fun x=>hO.keys x
  ·exact fun x=>hO.keys (olOf I sh.objs).dflt
  ·exact fun x=>hO.keys x.2
 ·unfold StSh.sl;split
  ·rename_i hu;intro l hp m x m' he;obtain⟨⟨x0,m1⟩,h1,h2⟩:=Aa.1 he;have:=main l hp m m1 m' x0 x h1 h2;rw[hV.unit hu x0 (vlOf I sh.vals).dflt]at this;exact this
  ·rename_i hu1 hu2;intro l hp m x m' he;obtain⟨⟨x0,m1⟩,h1,h2⟩:=Aa.1 he;obtain⟨⟨y0,m2⟩,h3,h4⟩:=Aa.1 h2;cases h4;have:=main l hp m m1 m2 x0 y0 h1 h3;rw[hO.unit hu2 y0 (olOf I sh.objs).dflt]at this;exact this
  ·intro l hp m x m' he;obtain⟨⟨x0,m1⟩,h1,h2⟩:=Aa.1 he;obtain⟨⟨y0,m2⟩,h3,h4⟩:=Aa.1 h2
   grind
end
section
variable {P:Program}
theorem zbA.wk {f:FuncId} {args args0:List TV} {rd rd0:List (Nat×OB)} {nx k:Nat} {val:LV} {up up0:List (Nat×Option OB)} (h:zbA P f args rd nx k val up)
  (hl:args0.length=args.length) (ha: ∀(j:Nat) a b,args0[j]? =some a->args[j]? =some b->WkT (fun _=>False) a b)
  (hrd: ∀get:Get,(∀p∈rd0,get p.1=some p.2)-> ∃get1:Get,(∀p∈rd,get1 p.1=some p.2)/\(∀id,(get id=none/\get1 id=none)\/ ∃o o2,get id=some o/\get1 id=some o2/\WkOZ (fun _=>False) o o2)/\upd get1 up=upd get up0):
  zbA P f args0 rd0 nx k val up0:=by
 refine⟨h.fn,fun ι get w N vs hR hN hfr hargs hr=> ?_⟩;obtain⟨get1,g1,g2,g3⟩:=hrd get hr;have hZ: ∀z,(fun _:Nat=>False) z-> ∃k,ι z= .live none k:=fun z hz=>hz.elim;have hR1:Rel ι get1 w:=by
  refine⟨fun id o2 ho=> ?_,fun id ho=> ?_,hR.inj,hR.glob⟩
  ·rcases g2 id with⟨_,h2⟩|⟨o,o2',h1,h2,h3⟩
   ·grind
   ·rw[h2]at ho;cases ho;obtain⟨b,k1,k2⟩:=hR.live id o h1;exact⟨b,by rw[h3.k];exact k1,k2.wkZ hZ h3⟩
  ·rcases g2 id with⟨h1,_⟩|⟨o,o2',_,h2,_⟩
   ·exact hR.gone id h1
   grind
 have hargs1:bg ι w args vs:=by
  refine⟨by rw[hargs.1,hl],fun j t ht=> ?_⟩;have hjl:j<args0.length:=by rw[hl];exact(Ba.1 ht).1
  have h0:args0[j]? =some args0[j]:=Ea hjl;obtain⟨u,k1,k2⟩:=hargs.2 j _ h0;exact⟨u,k1,(ha j _ t h0 ht).rep hZ k2⟩
 refine(h.ok ι get1 w N vs hR1 hN hfr hargs1 g1).mono fun e w' ⟨v,he,ι',q1,q2,q3,q4⟩=>⟨v,he,ι',?_,q2,q3,q4⟩
 grind
end
section
variable {I:Ip}
def hOut(con:Con I)(a b:EHeap I.C):Nat->Option (EO I.C):=fun id=>match lk b id with
 |some o=>some o
 |none=>match lk a id with
  |some o=>cond (memN id con.cst) (some o) (some (Ig (some o)))
  |none=>none
structure zm (P:Program) (con:Con I):Prop where
 wf:Og con=true
 ok: ∀x y,con.F x=some y-> ∀(ρ:Nat->Nat) (nx:Nat),(∀i j,i<con.inS.objs.length->j<con.inS.objs.length->ρ i=ρ j->i=j)->(∀i,i<con.inS.objs.length->ρ i<nx\/nx+con.k<=ρ i)->(∀j,ρ (con.inS.objs.length+j)=nx+j)->
  zbA P con.f (((con.inS.sl I).enc x).1.map (trT ρ (lk ((con.inS.sl I).enc x).2))) (((con.inS.sl I).enc x).2.filterMap fun o=>(trO P ρ (lk ((con.inS.sl I).enc x).2) o.2).map fun ob=>(ρ o.1,ob)) nx con.k
   (valOf (((con.outS.sl I).enc y).1.map (trT ρ (hOut con ((con.inS.sl I).enc x).2 ((con.outS.sl I).enc y).2))))
   ((((con.outS.sl I).enc y).2.map fun o=>(ρ o.1,trO P ρ (hOut con ((con.inS.sl I).enc x).2 ((con.outS.sl I).enc y).2) o.2))++
    ((con.inS.objs.filter fun o=> !(memN o.1 con.cst||memN o.1 (con.outS.objs.map (·.1)))).map fun o=>(ρ o.1,none)))
theorem Zm{i:Nat}: ∀{l:List Nat},memN i l=true↔i∈l
 |[]=>by simp[memN]
 |j::r=>by
  simp only[memN,Ra];by_cases hij:i=j
  ·simp_all
  ·have:Nat.beq i j=false:=by
    cases hb:Nat.beq i j with
    |false=>rfl
    |true=>simp_all
   rw[this];simp only[Ed,hij,false_or];exact Zm
theorem FE{i:Nat}{l:List Nat}(h:memN i l=false):i ∉ l:=fun hm=>by rw[Zm.2 hm]at h;cases h
theorem Gl: ∀{a b:List Nat},eqN a b=true->a=b
 |[],[],_=>rfl
 |[],_::_,h=>by cases h
 |_::_,[],h=>by cases h
 |i::r,j::s,h=>by simp only[eqN,Ca]at h;rw[Ta h.1,Gl h.2]
theorem qM{a b:List Nat}:subN a b=true↔ ∀i∈a,i∈b:=by simp only[subN,La,Zm]
theorem oH{P:Program}(hI:IpOK P I)(s:Sh)(x:(s.shp I).T): ∀i∈qA ((s.shp I).enc x),i∈mg s:=by
 have pur: ∀(l:List (EV I.C)),(∀v∈l,xh v=true)-> ∀i,i ∉ l.flatMap zM:=by intro l hl i hi;obtain⟨v,hv,hi⟩:=Xa.1 hi;have:=hl v hv;cases v<;>first|(simp[zM]at hi;done)|(cases this;done)
 cases s<;>intro i hi
 case int=>simp[Sh.shp,qA,zM]at hi
 case bool=>simp[Sh.shp,qA,zM]at hi
 case str=>simp[Sh.shp,qA,zM]at hi
 case sl=>simp[Sh.shp,qA,zM]at hi
 case val t=>exact absurd hi (pur _ (hI.pur t x) i)
 case ptr=>simp[Sh.shp,qA,zM]at hi
 case nilp=>simp[Sh.shp,jg,qA,zM]at hi
 case nilv=>simp[Sh.shp,jg,qA,zM]at hi
 case own=>simpa [Sh.shp,jg,qA,zM,mg] using hi
 case optr=>simpa [Sh.shp,jg,qA,zM,mg] using hi
 case clo f caps=>simpa [Sh.shp,jg,qA,zM,mg] using hi
theorem Nn{P:Program}(hI:IpOK P I): ∀(l:List Sh) (x:(vlOf I l).T),∀t∈(vlOf I l).enc x,∀i∈qA t,i∈l.flatMap mg
 |[],x,t,ht,i,hi=>by cases ht
 |s::r,x,t,ht,i,hi=>by
  have hs:=oH hI s;have hr:=Nn hI r;have key: ∀(a:(s.shp I).T) (b:(vlOf I r).T),t∈(s.shp I).enc a::(vlOf I r).enc b->i∈(s::r).flatMap mg:=by
   intro a b hm;rw[List.flatMap_cons];rcases Ra.1 hm with hm|hm
   ·grind
   ·grind
  revert x;show∀x:(VL.cons (s.shp I) (vlOf I r)).T,t∈(VL.cons (s.shp I) (vlOf I r)).enc x->_;unfold VL.cons;split
  ·grind
  ·grind
  ·grind
theorem NE(t:ET I.C): ∀i∈zM (evOf I t),i∈qA t:=by
 cases t with
 |c x=>exact fun i hi=>hi
 |agg xs=>intro i hi;simp[evOf,zM]at hi
theorem TL{P:Program}(hI:IpOK P I)(s:OSh)(x:(s.shp I).T): ∀i∈Sg ((s.shp I).enc x),i∈Wn s:=by
 cases s with
 |slo t shs=>
  intro i hi;have key: ∀(l:List (ET I.C)),(∀t∈l,∀j∈qA t,j∈shs.flatMap mg)->i∈(l.map (evOf I)).flatMap zM->i∈shs.flatMap mg:=by intro l hl hi;obtain⟨v,hv,hi⟩:=Xa.1 hi;obtain⟨t,ht,rfl⟩:=Da.1 hv;exact hl t ht i (NE t i hi)
  revert x;show∀x:(ah t (vlOf I shs)).T,i∈Sg ((ah t (vlOf I shs)).enc x)->_;unfold ah;split
  ·exact fun x hi=>key _ (fun t ht=>Nn hI shs _ t ht) hi
  ·exact fun x hi=>key _ (fun t ht=>Nn hI shs _ t ht) hi
 |sl t=>intro i hi;simp[OSh.shp,Sg]at hi
 |row t=>
  intro i hi;exfalso;obtain⟨v,hv,hi⟩:=Xa.1 (show i∈(I.exp t x).flatMap zM from hi);have:=hI.pur t x v hv;cases v<;>first|(simp[zM]at hi;done)|(cases this;done)
 |cells ty shs=> intro i hi;obtain⟨v,hv,hi⟩:=Xa.1 (show i∈(((vlOf I shs).enc x).map (evOf I)).flatMap zM from hi);obtain⟨t,ht,rfl⟩:=Da.1 hv;exact Nn hI shs x t ht i (NE t i hi)
theorem SB{P:Program}(hI:IpOK P I): ∀(l:List (Nat×OSh)) (x:(olOf I l).T),∀o∈(olOf I l).enc x,∀i∈Sg o.2,i∈l.flatMap fun o=>Wn o.2
 |[],x,t,ht,i,hi=>by cases ht
 |(n,s)::r,x,t,ht,i,hi=>by
  have hs:=TL hI s;have hr:=SB hI r;have key: ∀(a:(s.shp I).T) (b:(olOf I r).T),t∈(n,(s.shp I).enc a)::(olOf I r).enc b->i∈((n,s)::r).flatMap fun o=>Wn o.2:=by
   intro a b hm;rw[List.flatMap_cons];rcases Ra.1 hm with hm|hm
   ·grind
   ·grind
  revert x;show∀x:(OL.cons n (s.shp I) (olOf I r)).T,t∈(OL.cons n (s.shp I) (olOf I r)).enc x->_;unfold OL.cons;split
  ·grind
  ·grind
  ·grind
theorem Er{P:Program}(hI:IpOK P I)(sh:StSh)(x:(sh.sl I).T):(∀t∈((sh.sl I).enc x).1,∀i∈qA t,i∈sh.vals.flatMap mg)/\(∀o∈((sh.sl I).enc x).2,∀i∈Sg o.2,i∈sh.objs.flatMap fun o=>Wn o.2):=by
 have hV:=Nn hI sh.vals;have hO:=SB hI sh.objs;revert x;unfold StSh.sl;split
 ·exact fun x=>⟨hV _,hO x⟩
 ·exact fun x=>⟨hV x,hO _⟩
 ·exact fun x=>⟨hV x.1,hO x.2⟩
theorem oO(v:VL I)(t:Nat): ∀a:(ah t v).T,∃l1 cs l2,(ah t v).enc a= .slo t l1 cs l2:=by
 unfold ah;split
 ·grind
 grind
theorem TB: ∀(l:List (Nat×OSh)) (x:(olOf I l).T),∀o∈(olOf I l).enc x,∃s,(o.1,s)∈l/\((∃t c,o.2= .sl t c/\Hg s=true)\/(∃ty cs,o.2= .cells ty cs/\Hg s=false)\/(∃t l1 cs l2 shs,s= .slo t shs/\o.2= .slo t l1 cs l2))
 |[],x,o,ho=>by cases ho
 |(n,s)::r,x,o,ho=>by
  have hr:=TB r;have key: ∀(a:(s.shp I).T) (b:(olOf I r).T),o∈(n,(s.shp I).enc a)::(olOf I r).enc b-> ∃s',(o.1,s')∈(n,s)::r/\((∃t c,o.2= .sl t c/\Hg s'=true)\/(∃ty cs,o.2= .cells ty cs/\Hg s'=false)\/(∃t l1 cs l2 shs,s'= .slo t shs/\o.2= .slo t l1 cs l2)):=by
   intro a b hm;rcases Ra.1 hm with hm|hm
   ·subst hm;refine⟨s,Ib ..,?_⟩;cases s with
    |sl t=>exact .inl ⟨_,_,rfl,rfl⟩
    |row t=>exact .inr (.inl ⟨_,_,rfl,rfl⟩)
    |cells ty shs=>exact .inr (.inl ⟨_,_,rfl,rfl⟩)
    |slo t shs=> obtain⟨l1,cs,l2,e⟩:=oO (vlOf I shs) t a;exact .inr (.inr ⟨t,l1,cs,l2,shs,rfl,e⟩)
   ·grind
  revert x;show∀x:(OL.cons n (s.shp I) (olOf I r)).T,o∈(OL.cons n (s.shp I) (olOf I r)).enc x->_;unfold OL.cons;split
  ·grind
  ·grind
  grind
theorem Ri(sh:StSh)(x:(sh.sl I).T): ∀o∈((sh.sl I).enc x).2,∃s,(o.1,s)∈sh.objs/\((∃t c,o.2= .sl t c/\Hg s=true)\/(∃ty cs,o.2= .cells ty cs/\Hg s=false)\/(∃t l1 cs l2 shs,s= .slo t shs/\o.2= .slo t l1 cs l2)):=by
 have hO:=TB (I:=I) sh.objs;revert x;unfold StSh.sl;split
 ·grind
 ·grind
 grind
end
section
variable {I:Ip} {P:Program}
def Jh(a b:Option (Nat ⊕ List (List PV))):Prop:=b=a\/(a=none/\b=some (.inl 0))
theorem Jr{ρ ρ' f:Nat->Nat}{h h':Nat->Option (EO I.C)}{x:EV I.C}(hρ: ∀i∈zM x,ρ' i=ρ (f i))(hi: ∀i∈zM x,Jh (infO h' i) (infO h (f i))):trV ρ h (rnV f x)=trV ρ' h' x:=by
 cases x with
 |own id=>
  have h1:=hρ id (by simp[zM]);have h2:=hi id (by simp[zM]);simp only[rnV];rw[Qr,Qr,h1];rcases h2 with h2|⟨h2,h3⟩
  ·rw[h2]
  ·rw[h2,h3]
 |osl id off n=>simp only[rnV,trV,hρ id (by simp[zM])]
 |optr id r c=>simp only[rnV,trV,hρ id (by simp[zM])]
 |mref id=>simp only[rnV,trV,hρ id (by simp[zM])]
 |clo g caps=> simp only[rnV,trV,ma];congr 1;refine Ha fun q hq=> ?_;have:=hρ q.1 (by simp only[zM,Da];grind);simp[this]
 |_=>rfl
theorem mH{ρ ρ' f:Nat->Nat}{h h':Nat->Option (EO I.C)}{x:ET I.C}(hρ: ∀i∈qA x,ρ' i=ρ (f i))(hi: ∀i∈qA x,Jh (infO h' i) (infO h (f i))):trT ρ h (rnET f x)=trT ρ' h' x:=by
 cases x with
 |c x=>exact congrArg TV.c (Jr hρ hi)
 |agg xs=> simp only[rnET,trT,ma];congr 1;exact Ha fun v hv=>Jr (fun i hi'=>hρ i (Xa.2 ⟨v,hv,hi'⟩)) (fun i hi'=>hi i (Xa.2 ⟨v,hv,hi'⟩))
theorem CB{ρ ρ' f:Nat->Nat}{h h':Nat->Option (EO I.C)}{o:EO I.C}(hρ: ∀i∈Sg o,ρ' i=ρ (f i))(hi: ∀i∈Sg o,Jh (infO h' i) (infO h (f i))):trO P ρ h (rnEO f o)=trO P ρ' h' o:=by
 cases o with
 |cells ty cs=> simp only[rnEO,trO,Ga,ma];have:cs.map (trV ρ h∘rnV f)=cs.map (trV ρ' h'):=Ha fun v hv=>Jr (fun i hi'=>hρ i (Xa.2 ⟨v,hv,hi'⟩)) (fun i hi'=>hi i (Xa.2 ⟨v,hv,hi'⟩));rw[this]
 |slo t l1 cs l2=> simp only[rnEO,trO,ma];have:cs.map (trV ρ h∘rnV f)=cs.map (trV ρ' h'):=Ha fun v hv=>Jr (fun i hi'=>hρ i (Xa.2 ⟨v,hv,hi'⟩)) (fun i hi'=>hi i (Xa.2 ⟨v,hv,hi'⟩));rw[this]
 |_=>rfl
theorem oq(f:Nat->Nat)(o:EO I.C):infE (rnEO f o)=infE o:=by cases o<;>rfl
theorem gB{ρ:Nat->Nat}{h:Nat->Option (EO I.C)}{t:Nat}{l1 l2:List (I.C t)}{cs:List (EV I.C)}:trO P ρ h (.slo t l1 (cs.map (nrmV h)) l2)=trO P ρ h (.slo t l1 cs l2):=by simp only[trO,ma];have:cs.map (trV ρ h∘nrmV h)=cs.map (trV ρ h):=Ha fun v _=>Rn v;rw[this]
theorem VB{ρ:Nat->Nat}{h:Nat->Option (EO I.C)}{ty:Nat}{cs:List (EV I.C)}:trO P ρ h (.cells ty (cs.map (nrmV h)))=trO P ρ h (.cells ty cs):=by simp only[trO,Ga,ma];have:cs.map (trV ρ h∘nrmV h)=cs.map (trV ρ h):=Ha fun v _=>Rn v;rw[this]
theorem iq{α β:Type}{f:Nat->Nat}{g:α->β}: ∀{l:List (Nat×α)} {i:Nat},(∀o∈l,f o.1=f i->o.1=i)->lk (l.map fun o=>(f o.1,g o.2)) (f i)=(lk l i).map g
 |[],i,_=>rfl
 |(j,x)::r,i,h=>by
  simp only[Na];rw[zQ,zQ];by_cases hij:i=j
  ·grind
  ·rw[Oa hij,Oa (fun e=>hij (h (j,x) (Ib ..) e.symm).symm)];exact iq (fun o ho=>h o (Fb _ ho))
theorem Kn{α:Type}: ∀{l:List (Nat×α)} {i:Nat},(∀o∈l,o.1≠i)->lk l i=none
 |[],i,_=>rfl
 |(j,x)::r,i,h=>by rw[zQ,Oa (fun e=>h (j,x) (Ib ..) e.symm)];exact Kn (fun o ho=>h o (Fb _ ho))
theorem ZF{α:Type}: ∀(l m:List (Nat×α)) (i:Nat),lk (l++m) i=(match lk l i with|some x=>some x|none=>lk m i)
 |[],m,i=>rfl
 |(j,x)::r,m,i=>by
  simp only[Xc];rw[zQ,zQ];by_cases hij:i=j
  ·grind
  ·rw[Oa hij,Oa hij];exact ZF r m i
theorem zW{α:Type}: ∀{l:List (Nat×α)} {i:Nat},i∈l.map (·.1)-> ∃x,lk l i=some x
 |[],i,h=>by cases h
 |(j,x)::r,i,h=>by
  rw[zQ];by_cases hij:i=j
  ·simp_all
  ·rw[Oa hij];simp only[Na,Ra]at h;exact zW (h.resolve_left hij)
theorem jo(get:Get): ∀(a b:List (Nat×Option OB)),upd get (a++b)=upd (upd get b) a
 |[],b=>rfl
 |(i,o)::r,b=>by funext j;simp only[Xc,upd];rw[jo get r b]
theorem xA{get get':Get}: ∀{a:List (Nat×Option OB)} {j:Nat},j∈a.map (·.1)->upd get a j=upd get' a j
 |[],j,h=>by cases h
 |(i,o)::r,j,h=>by
  simp only[upd];by_cases hij:j=i
  ·grind
  ·rw[Oa hij,Oa hij];simp only[Na,Ra]at h;exact xA (h.resolve_left hij)
theorem cK{x y:CV}(hn:x≠ .p (.at (.slice none 0 0)))(hw:WkZ (fun _=>False) x y):y=x:=by
 rcases hw with hw|⟨z,hz,_⟩
 ·rcases hw with rfl|⟨a,b,rfl,rfl,hw⟩
  ·rfl
  ·cases hw with
   |refl=>rfl
   |nil=>grind
 ·exact hz.elim
theorem bK{ρ:Nat->Nat}{h:Nat->Option (EO I.C)}{x:EV I.C}(hx:Yk x=false):trV ρ h x≠ .p (.at (.slice none 0 0)):=by
 intro he;cases x with
 |nil=>cases hx
 |raw v=>
  simp only[trV,pvE,CV.p.injEq,PV.at.injEq]at he;subst he;cases hx
 |own id=>rw[Qr]at he;grind
 |_=>cases he
theorem KH{o o2:OB}(hw:WkOZ (fun _=>False) o o2)(hn: ∀row∈o.rows,∀x∈row,x≠ .p (.at (.slice none 0 0))):o2=o:=by
 obtain⟨ty,k,rows⟩:=o;obtain⟨ty2,k2,rows2⟩:=o2;obtain⟨h1,h2,h3,h4⟩:=hw;simp only at h1 h2 h3 h4 hn;subst h1;subst h2;congr 1;apply List.ext_getElem?;intro i;cases hr:rows[i]? with
 |none=>
  grind
 |some row=>
  have hil:i<rows2.length:=by rw[h3];exact(Ba.1 hr).1
  have hr2:rows2[i]? =some rows2[i]:=Ea hil;rw[hr2];obtain⟨l1,l2⟩:=h4 i row _ hr hr2;congr 1;apply List.ext_getElem?;intro j;cases hx:row[j]? with
  |none=>
   grind
  |some x=>
   have hjl:j<(rows2[i]).length:=by rw[l1];exact(Ba.1 hx).1
   have hy:(rows2[i])[j]? =some (rows2[i])[j]:=Ea hjl;rw[hy];exact congrArg some (cK (hn row (Ia hr) x (Ia hx)) (l2 j x _ hx hy))
end
section
variable {P:Program} {I:Ip} {X:Cx I} {ρ:Nat->Nat} {G:Get} {st:ES I.C} {e:Env} {lh:LH}
theorem zU{a b:Nat}:Nat.blt a b=true↔a<b:=by simp[Nat.blt_eq]
theorem Q7{α:Type}: ∀{l:List (Nat×α)} {i:Nat} {x:α},(l.map (·.1)).Nodup->(i,x)∈l->lk l i=some x
 |[],i,x,_,h=>by cases h
 |(j,y)::r,i,x,hn,h=>by
  rw[zQ];simp only[Na,Rc]at hn;rcases Ra.1 h with h|h
  ·grind
  ·rw[Oa (fun e=>hn.1 (Da.2 ⟨(i,x),h,e⟩))];exact Q7 hn.2 h
theorem UC{α β:Type}{F:Nat->β}: ∀{l:List (Nat×α)} {i:Nat},i∈l.map (·.1)->lk (l.map fun o=>(o.1,F o.1)) i=some (F i)
 |[],i,h=>by cases h
 |(j,y)::r,i,h=>by
  simp only[Na];rw[zQ];by_cases hij:i=j
  ·grind
  ·rw[Oa hij];simp only[Na,Ra]at h;exact UC (h.resolve_left hij)
theorem yA{get:Get}{gk:Nat->Nat}{v:Nat->Option OB}: ∀{l:List Nat} {i:Nat},i∈l->(∀j∈l,gk j=gk i->j=i)->upd get (l.map fun i=>(gk i,v i)) (gk i)=v i
 |[],i,h,_=>by cases h
 |j::r,i,h,hn=>by
  simp only[Na,upd];by_cases hij:gk i=gk j
  ·grind
  ·rw[Oa hij];rcases Ra.1 h with h|h
   ·grind
   ·exact yA h (fun j hj=>hn j (Fb _ hj))
theorem mD: ∀{m:Mp},Jf m=[]-> ∀i,lk m i≠some none
 |[],_,i,h=>by cases h
 |(j,none)::r,hn,i,h=>by simp[Jf]at hn
 |(j,some a)::r,hn,i,h=>by
  rw[zQ]at h;split at h
  ·cases h
  ·exact mD (m:=r) (by simpa [Jf] using hn) i h
theorem kL (hI:IpOK P I) (hv:Vw P X ρ G st e lh) {con:Con I} (hc:zm P con) {as:List (ET I.C)} {x:(con.inS.sl I).T} {m:Mp} (hm:(con.inS.sl I).mat as (nrmH (lkO X st)) []=some (x,m))
  (hb:(m.all fun z=>Nat.blt z.1 con.inS.objs.length)=true) (hn:Jf m=[]) {y:(con.outS.sl I).T} (hF:con.F x=some y):
  ∃rd0,zbA P con.f (as.map (trT ρ (lkO X st))) rd0 lh.next con.k (trL ρ (aft (lkO X st) (bf con (lkO X st) st.next m x y).up) (lkE X st) (bf con (lkO X st) st.next m x y).val) (trU P ρ (aft (lkO X st) (bf con (lkO X st) st.next m x y).up) (bf con (lkO X st) st.next m x y).up)/\
   (∀p∈rd0,lh.get p.1=some p.2)/\(∀p∈rd0,p.1∈(bf con (lkO X st) st.next m x y).rd.map ρ)/\Yj (lkO X st) (bf con (lkO X st) st.next m x y).up:=by
 generalize hh:lkO X st=h at*;obtain⟨L0,L1⟩:=Aj (P:=P) hI con.inS;obtain⟨l1,l2,l3,l4,l5⟩:=L1 as (nrmH h) [] x m hm;have hinj:InjM m:=l2 (fun i j a h=>by cases h);have hkin:=L0 x;obtain⟨kout,_⟩:=Aj (P:=P) hI con.outS;have hkout:=kout y;have wf:=hc.wf;simp only[Og,Ca,Lb]at wf;obtain⟨⟨⟨⟨⟨⟨⟨w1,w2⟩,w3⟩,w4⟩,w5⟩,w6⟩,w7⟩,w8⟩:=wf;have w1:=Gl w1;have w6:=Gl w6;have w4:=qM.1 w4;simp only[wfSt,Ca]at w2 w3;have w2a:=qM.1 w2.1;have w2b:=qM.1 w2.2;have w3a:=qM.1 w3.1;have w3b:=qM.1 w3.2;generalize hp:con.inS.objs.length=p at*;generalize ha:(con.inS.sl I).enc x=a at*;generalize hbb:(con.outS.sl I).enc y=b at*
 -- the objects that came in
 have inAt: ∀i,i<p-> ∃o',lk a.2 i=some o'/\(i,o')∈a.2:=by
  intro i hi;have:i∈a.2.map (·.1):=by rw[hkin,w1];exact Pb.2 hi
  obtain⟨o',ho⟩:=zW this;exact⟨o',ho,zN ho⟩
 have act: ∀i,i<p-> ∃c o o',lk a.2 i=some o'/\lk m i=some (some c)/\h c=some o/\infE o=infE o'/\(∀t l,o= .sl t l->o'= .sl t l)/\((∀ty cs,o= .cells ty cs-> ∃ty' cs',o'= .cells ty' cs')/\ ∀t l1 cs l2,o= .slo t l1 cs l2-> ∃cs',o'= .slo t l1 cs' l2)/\
   (∀ρ' h',Cmp ρ ρ' h h' (fun _=>False) m-> ∃ob ob',trO P ρ h o=some ob/\trO P ρ' h' o'=some ob'/\WkOZ (fun _=>False) ob ob'):=by
  intro i hi;obtain⟨o',h1,h2⟩:=inAt i hi;rcases l5 i o' h2 with⟨c,on,k1,k2,k3,k4,k5,k6⟩|⟨k1,_⟩
  ·unfold nrmH at k2;cases hhc:h c with
   |none=>rw[hhc]at k2;cases k2
   |some o=>
    rw[hhc]at k2;cases o with
    |cells ty cs=>
     simp only[Option.some.injEq]at k2;subst k2;refine⟨c,_,o',h1,k1,hhc,k3,fun t l e=>(by cases e),⟨fun ty2 cs2 e=>k5.1 _ _ rfl,fun t l1 cs l2 e=>(by cases e)⟩,fun ρ' h' hcm=> ?_⟩;obtain⟨ob,ob',q1,q2,q3⟩:=k6 ρ ρ' h h' (fun _=>False) hcm;exact⟨ob,ob',by rw[<-VB];exact q1,q2,q3⟩
    |sl t l=>
     simp only[Option.some.injEq]at k2;subst k2;exact⟨c,_,o',h1,k1,hhc,k3,k4,⟨fun ty2 cs2 e=>(by cases e),fun t l1 cs l2 e=>(by cases e)⟩,fun ρ' h' hcm=>k6 ρ ρ' h h' _ hcm⟩
    |dead n=>
     simp only[Option.some.injEq]at k2;subst k2;exact⟨c,_,o',h1,k1,hhc,k3,k4,⟨fun ty2 cs2 e=>(by cases e),fun t l1 cs l2 e=>(by cases e)⟩,fun ρ' h' hcm=>k6 ρ ρ' h h' _ hcm⟩
    |mp kd l=>
     simp only[Option.some.injEq]at k2;subst k2;exact⟨c,_,o',h1,k1,hhc,k3,k4,⟨fun ty2 cs2 e=>(by cases e),fun t l1 cs l2 e=>(by cases e)⟩,fun ρ' h' hcm=>k6 ρ ρ' h h' _ hcm⟩
    |slo t l1 cs l2=>
     simp only[Option.some.injEq]at k2;subst k2;refine⟨c,_,o',h1,k1,hhc,k3,fun t l e=>(by cases e),⟨fun ty2 cs2 e=>(by cases e),fun t l1 cs l2 e=>(by cases e;exact k5.2 _ _ _ _ rfl)⟩,fun ρ' h' hcm=> ?_⟩;obtain⟨ob,ob',q1,q2,q3⟩:=k6 ρ ρ' h h' (fun _=>False) hcm;exact⟨ob,ob',by rw[<-gB];exact q1,q2,q3⟩
    |frz t l=> simp only[Option.some.injEq]at k2;subst k2;exact⟨c,_,o',h1,k1,hhc,k3,fun t l e=>(by cases e),⟨fun ty2 cs2 e=>(by cases e),fun t l1 cs l2 e=>(by cases e)⟩,fun ρ' h' hcm=>k6 ρ ρ' h h' _ hcm⟩
  ·exact absurd k1 (mD hn i)
 generalize hf:(fun i=>cond (Nat.blt i p) (rnM m 0 i) (st.next+(i - p)))=f at*;have fin: ∀i c,i<p->lk m i=some (some c)->f i=c:=by intro i c hi hl;rw[<-hf];simp only[zU.2 hi,Bc,rnM,hl]
 have fout: ∀i,p<=i->f i=st.next+(i - p):=by
  intro i hi;rw[<-hf];have:Nat.blt i p=false:=by
   cases hb:Nat.blt i p with
   |false=>rfl
   |true=>have:=zU.1 hb;omega
  simp only[this,Ed]
 have flt: ∀i,i<p->f i<st.next/\ ∃o,h (f i)=some o:=by intro i hi;obtain⟨c,o,o',k1,k2,k3,_⟩:=act i hi;rw[fin i c hi k2];exact⟨(hv.wfh c o (by rw[hh];exact k3)).1,o,k3⟩
 have finj: ∀i j,f i=f j->i<p\/p<=i->i=j:=by
  intro i j e _;rcases Jc i p with hi|hi<;>rcases Jc j p with hj|hj
  ·obtain⟨c,o,o',k1,k2,k3,_⟩:=act i hi;obtain⟨c2,o2,o2',q1,q2,q3,_⟩:=act j hj;rw[fin i c hi k2,fin j c2 hj q2]at e;subst e;exact hinj i j c k2 q2
  ·have:=(flt i hi).1;rw[e,fout j hj]at this;omega
  ·have:=(flt j hj).1;rw[<-e,fout i hi]at this;omega
  ·rw[fout i hi,fout j hj]at e;omega
 have finj': ∀i j,f i=f j->i=j:=fun i j e=>finj i j e (Jc i p);have hρf: ∀i j,i<p->j<p->ρ (f i)=ρ (f j)->i=j:=by intro i j hi hj e;obtain⟨_,o,ho⟩:=flt i hi;obtain⟨_,o2,ho2⟩:=flt j hj;exact finj' i j (hv.inj _ _ o o2 (by rw[hh];exact ho) (by rw[hh];exact ho2) e)
 have hcmp:Cmp ρ (fun i=>ρ (f i)) h (lk a.2) (fun _=>False) m:=by
  intro i z hz;have hi:i<p:=by have:=La.1 hb _ (zN hz);exact zU.1 this
  obtain⟨c,o,o',k1,k2,k3,k4,_⟩:=act i hi;rw[k2]at hz;cases hz;refine⟨by show ρ (f i)=ρ c;rw[fin i c hi k2],?_⟩;rw[zJ k1,zJ k3,k4]
 have hcall:=hc.ok x y hF (fun i=>ρ (f i)) lh.next (by rw[hp];exact hρf) (by
  rw[hp];intro i hi;exact .inl (hv.lt _ (flt i hi).1)) (by
  rw[hp];intro j;show ρ (f (p+j))=lh.next+j;rw[fout _ (Dc _ _),hv.up _ (Dc _ _)];omega)
 rw[ha,hbb]at hcall
 -- the parts of what changes
 have hgone: ∀(l:List (Nat×OSh)),(∀o∈l,o.1<p)->di h m con.cst con.outS.objs l=(l.filter fun o=> !(memN o.1 con.cst||memN o.1 (con.outS.objs.map (·.1)))).map fun o=>(f o.1,Ig (h (f o.1))):=by
  intro l
  induction l with
  |nil=>intro _;rfl
  |cons o r ih=>
   intro hl;obtain⟨i,s⟩:=o;have hi:=hl (i,s) (Ib ..);obtain⟨c,_,_,_,k2,_⟩:=act i hi;simp only[di,k2];rw[ih (fun o ho=>hl o (Fb _ ho))];cases hmm:(memN i con.cst||memN i (con.outS.objs.map (·.1)))with
   |true=> rw[List.filter_cons_of_neg (by show¬(!(memN i con.cst||memN i (con.outS.objs.map (·.1))))=true;rw[hmm];simp)];rfl
   |false=> rw[List.filter_cons_of_pos (by show(!(memN i con.cst||memN i (con.outS.objs.map (·.1))))=true;rw[hmm];rfl),Na];simp only[fin i c hi k2];rfl
 have hids: ∀o∈con.inS.objs,o.1<p:=by intro o ho;have:o.1∈con.inS.objs.map (·.1):=Da.2 ⟨o,ho,rfl⟩;rw[w1]at this;exact Pb.1 this
 have hseen: ∀(l:EHeap I.C),∀o∈Mf h m con.cst l,o∈l/\memN o.1 con.cst=true:=by
  intro l
  induction l with
  |nil=>intro o ho;cases ho
  |cons q r ih=>
   obtain⟨i,ob⟩:=q;intro o ho;simp only[Mf]at ho;have step:o∈Mf h m con.cst r->o∈(i,ob)::r/\memN o.1 con.cst=true:=fun h=>⟨Fb _ (ih o h).1,(ih o h).2⟩;cases hmem:memN i con.cst with
   |false=>rw[hmem]at ho;exact step ho
   |true=>
    rw[hmem]at ho;simp only[Bc]at ho;split at ho
    ·split at ho
     ·rename_i cs _;cases hany:cs.any Yk with
      |false=>rw[hany]at ho;exact step ho
      |true=>
       rw[hany]at ho;rcases Ra.1 ho with rfl|ho
       ·exact⟨Ib ..,hmem⟩
       ·exact step ho
     ·exact step ho
    ·exact step ho
 have hseen2: ∀(l:EHeap I.C) (i:Nat) (o':EO I.C),(i,o')∈l->memN i con.cst=true->i<p->(∃ty cs,h (f i)=some (.cells ty cs)/\cs.any Yk=true)->i∈(Mf h m con.cst l).map (·.1):=by
  intro l
  induction l with
  |nil=>intro i o' h1;cases h1
  |cons q r ih=>
   obtain⟨j,oj⟩:=q;intro i o' h1 h2 hi h3;simp only[Mf];rcases Ra.1 h1 with h1|h1
   ·injection h1 with e1 e2;subst e1;obtain⟨ty,cs,g1,g2⟩:=h3;obtain⟨c,_,_,_,k2,_⟩:=act i hi;rw[fin i c hi k2]at g1;simp only[h2,Bc,k2,g1,g2,Na];exact Ib ..
   ·have:=ih i o' h1 h2 hi h3;cases memN j con.cst with
    |false=>exact this
    |true=>
     simp only[Bc];split
     ·split
      ·rename_i cs _;cases cs.any Yk with
       |false=>exact this
       |true=>exact Fb _ this
      ·exact this
     ·exact this
 have hknd:(a.2.map (·.1)).Nodup:=by rw[hkin,w1];exact List.nodup_range
 have hbnd:(b.2.map (·.1)).Nodup:=by rw[hkout];exact w7
 have hup:(bf con h st.next m x y).up=b.2.map (fun o=>(f o.1,rnEO f o.2))++(((con.inS.objs.filter fun o=> !(memN o.1 con.cst||memN o.1 (con.outS.objs.map (·.1)))).map fun o=>(o.1,Ig (h (f o.1)))).map (fun o=>(f o.1,o.2))++(Mf h m con.cst a.2).map (fun o=>(f o.1,rnEO f o.2))):=by subst hf;have hg:=hgone con.inS.objs hids;simp only[bf,ha,hbb,hp,hg,ma];rfl
 have hrdE:(bf con h st.next m x y).rd=m.filterMap (·.2):=rfl;have hvalE:(bf con h st.next m x y).val=resE (b.1.map (rnET f)):=by subst hf;simp only[bf,hbb,hp]
 generalize hres:(bf con h st.next m x y)=res at*
 -- what the objects behind the call are
 have outCst: ∀i∈b.2.map (·.1),i<p->memN i con.cst=false/\(∃s,(i,s)∈con.outS.objs/\Hg s=false)/\ ∃s,lk con.inS.objs i=some s/\Hg s=false:=by
  intro i hi hip;rw[hkout]at hi;obtain⟨o,ho,rfl⟩:=Da.1 hi;have:=La.1 w5 o ho;rw[zU.2 hip]at this;simp only[Bc,Ca,Bool.not_eq_true']at this;refine⟨this.1.1,⟨o.2,ho,this.1.2⟩,?_⟩;have h3:=this.2;cases hl:lk con.inS.objs o.1 with
  |none=>rw[hl]at h3;cases h3
  |some s=>rw[hl]at h3;exact⟨s,rfl,by simpa using h3⟩
 have inCells: ∀i,i<p-> ∀s,lk con.inS.objs i=some s->Hg s=false-> ∃ty cs,lk a.2 i=some (.cells ty cs):=by
  intro i hi s hs hsl;obtain⟨o',k1,k2⟩:=inAt i hi;have hk:=Ri (I:=I) con.inS x;rw[ha]at hk;obtain⟨s',g1,g2⟩:=hk (i,o') k2;have hnd:(con.inS.objs.map (·.1)).Nodup:=by rw[w1];exact List.nodup_range
  have:=Q7 hnd g1;rw[hs]at this;cases this;rcases g2 with⟨t,c,g3,g4⟩|⟨ty,cs,g3,g4⟩|⟨_,_,_,_,_,g5,_⟩
  ·rw[hsl]at g4;cases g4
  ·exact⟨ty,cs,by rw[k1];exact congrArg some g3⟩
  ·rw[g5]at hsl;cases hsl
 have outCells: ∀i o,(i,o)∈b.2->i<p-> ∃ty cs,o= .cells ty cs:=by
  intro i o ho hi;obtain⟨_,⟨s,g1,g2⟩,_⟩:=outCst i (Da.2 ⟨_,ho,rfl⟩) hi;have hk:=Ri (I:=I) con.outS y;rw[hbb]at hk;obtain⟨s',q1,q2⟩:=hk (i,o) ho;have h1:=Q7 w7 g1;have h2:=Q7 w7 q1;rw[h1]at h2;cases h2;rcases q2 with⟨t,c,q3,q4⟩|⟨ty,cs,q3,q4⟩|⟨_,_,_,_,_,q5,_⟩
  ·rw[g2]at q4;cases q4
  ·exact⟨ty,cs,q3⟩
  ·rw[q5]at g2;cases g2
 have lkB: ∀i,lk (b.2.map fun o=>(f o.1,rnEO f o.2)) (f i)=(lk b.2 i).map (rnEO f):=fun i=>iq (fun o _ e=>finj' _ _ e);have lkG: ∀i,lk (((con.inS.objs.filter fun o=> !(memN o.1 con.cst||memN o.1 (con.outS.objs.map (·.1)))).map fun o=>(o.1,Ig (h (f o.1)))).map (fun o=>(f o.1,o.2))) (f i)=lk ((con.inS.objs.filter fun o=> !(memN o.1 con.cst||memN o.1 (con.outS.objs.map (·.1)))).map fun o=>(o.1,Ig (h (f o.1)))) i:=fun i=>by have:=iq (f:=f) (g:=fun z:EO I.C=>z) (l:=(con.inS.objs.filter fun o=> !(memN o.1 con.cst||memN o.1 (con.outS.objs.map (·.1)))).map fun o=>(o.1,Ig (h (f o.1)))) (i:=i) (fun o _ e=>finj' _ _ e);rw[this];simp
 have lkS: ∀i,lk ((Mf h m con.cst a.2).map fun o=>(f o.1,rnEO f o.2)) (f i)=(lk (Mf h m con.cst a.2) i).map (rnEO f):=fun i=>iq (fun o _ e=>finj' _ _ e);have seenAt: ∀i o,lk (Mf h m con.cst a.2) i=some o->lk a.2 i=some o/\memN i con.cst=true:=by intro i o ho;obtain⟨q1,q2⟩:=hseen a.2 (i,o) (zN ho);exact⟨Q7 hknd q1,q2⟩
 have infIn: ∀i,i<p->infO h (f i)=infO (lk a.2) i:=by intro i hi;obtain⟨c,o,o',k1,k2,k3,k4,_⟩:=act i hi;rw[fin i c hi k2,zJ k3,zJ k1,k4]
 have infB: ∀i o,lk b.2 i=some o->infO (aft h res.up) (f i)=infE o:=by
  intro i o ho;have:aft h res.up (f i)=some (rnEO f o):=by simp only[aft,hup,ZF,lkB,ho,Db]
  rw[zJ this,oq]
 have infC: ∀i,i<p->memN i con.cst=true->infO (aft h res.up) (f i)=infO (lk a.2) i:=by
  intro i hi hcst;have hnb:lk b.2 i=none:=by
   cases hl:lk b.2 i with
   |none=>rfl
   |some o=> have:=(outCst i (Da.2 ⟨_,zN hl,rfl⟩) hi).1;rw[hcst]at this;cases this
  have hng:lk ((con.inS.objs.filter fun o=> !(memN o.1 con.cst||memN o.1 (con.outS.objs.map (·.1)))).map fun o=>(o.1,Ig (h (f o.1)))) i=none:=by refine Kn fun o ho e=> ?_;obtain⟨z,hz,rfl⟩:=Da.1 ho;have:=(Sc.1 hz).2;simp only at e;rw[e,hcst]at this;simp at this
  cases hs:lk (Mf h m con.cst a.2) i with
  |some o=>
   have hat:aft h res.up (f i)=some (rnEO f o):=by simp only[aft,hup,ZF,lkB,hnb,Option.map_none,lkG,hng,lkS,hs,Db]
   rw[zJ hat,oq,zJ (seenAt i o hs).1]
  |none=>
   have hat:aft h res.up (f i)=h (f i):=by simp only[aft,hup,ZF,lkB,hnb,Option.map_none,lkG,hng,lkS,hs]
   rw[<-infIn i hi];simp only[infO,hat]
 have trk: ∀i o,i<p->h (f i)=some o->(∃t l,o= .sl t l)\/ ∃ty cs,o= .cells ty cs:=by
  intro i o hi ho;obtain⟨c,o2,o',k1,k2,k3,k4,k5,k6,k7⟩:=act i hi;rw[fin i c hi k2,k3]at ho;cases ho;obtain⟨ob,ob',q1,q2,q3⟩:=k7 (fun i=>ρ (f i)) (lk a.2) hcmp;cases o with
  |mp kd l=>
   have hk:=Ri (I:=I) con.inS x;rw[ha]at hk;obtain⟨s',_,g2⟩:=hk (i,o') (zN k1);have hraw:=q3.raw;simp only[trO,Option.some.injEq]at q1;subst q1;rcases g2 with⟨_,_,g3,_⟩|⟨_,_,g3,_⟩|⟨_,_,_,_,_,_,g3⟩<;>
    (simp only at g3;rw[g3]at q2;simp only[trO,Option.some.injEq]at q2;rw[<-q2]at hraw;cases hraw)
  |sl t l=>exact .inl ⟨t,l,rfl⟩
  |cells ty cs=>exact .inr ⟨ty,cs,rfl⟩
  |dead n=>cases q1
  |frz t l=>cases q1
  |slo t l1 cs l2=>
   obtain⟨cs',e⟩:=k6.2 _ _ _ _ rfl;have hk:=Ri (I:=I) con.inS x;rw[ha]at hk;obtain⟨s',g1,g2⟩:=hk (i,o') (zN k1);have hns:=La.1 w8 _ g1;subst e;rcases g2 with⟨_,_,g3,_⟩|⟨_,_,g3,_⟩|⟨_,_,_,_,_,g3,_⟩
   ·cases g3
   ·cases g3
   ·simp only at hns;rw[g3]at hns;cases hns
 have infL: ∀i,i<p->Jh (infO (lk a.2) i) (infO (aft h res.up) (f i)):=by
  intro i hi;cases hcst:memN i con.cst with
  |true=>exact .inl (infC i hi hcst)
  |false=>
   cases hb2:lk b.2 i with
   |some o=> obtain⟨_,_,s,g1,g2⟩:=outCst i (Da.2 ⟨_,zN hb2,rfl⟩) hi;obtain⟨ty,cs,g3⟩:=inCells i hi s g1 g2;obtain⟨ty2,cs2,g4⟩:=outCells i o (zN hb2) hi;refine .inl ?_;rw[infB i o hb2,zJ g3,g4];rfl
   |none=>
    obtain⟨_,ob,hob⟩:=flt i hi;have hng:lk ((con.inS.objs.filter fun o=> !(memN o.1 con.cst||memN o.1 (con.outS.objs.map (·.1)))).map fun o=>(o.1,Ig (h (f o.1)))) i=some (Ig (h (f i))):=by
     refine UC (F:=fun i=>Ig (h (f i))) ?_;have hmi:i∈con.inS.objs.map (·.1):=by rw[w1];exact Pb.2 hi
     obtain⟨z,hz,rfl⟩:=Da.1 hmi;refine Da.2 ⟨z,Sc.2 ⟨hz,?_⟩,rfl⟩;have hno:memN z.1 (con.outS.objs.map (·.1))=false:=by
      cases hmm:memN z.1 (con.outS.objs.map (·.1))with
      |false=>rfl
      |true=> have:=Zm.1 hmm;rw[<-hkout]at this;obtain⟨w,hw⟩:=zW this;rw[hb2]at hw;cases hw
     simp[hcst,hno]
    have hat:aft h res.up (f i)=some (Ig (h (f i))):=by simp only[aft,hup,ZF,lkB,hb2,Option.map_none,lkG,hng]
    rw[zJ hat,<-infIn i hi];rcases trk i ob hi hob with⟨t,l,rfl⟩|⟨ty,cs,rfl⟩
    ·exact .inl (by rw[hob,zJ hob];rfl)
    ·exact .inr ⟨by rw[zJ hob];rfl,by rw[hob];rfl⟩
 have infOut: ∀i,i∈con.outS.objs.map (·.1)++con.cst->Jh (infO (hOut con a.2 b.2) i) (infO (aft h res.up) (f i)):=by
  intro i hi;cases hb2:lk b.2 i with
  |some o=>
   have:hOut con a.2 b.2 i=some o:=by simp only[hOut,hb2]
   exact .inl (by rw[infB i o hb2,zJ this])
  |none=>
   rcases Eb.1 hi with hi|hi
   ·rw[<-hkout]at hi;obtain⟨w,hw⟩:=zW hi;rw[hb2]at hw;cases hw
   ·have hip:i<p:=Pb.1 (w4 i hi);obtain⟨o',k1,_⟩:=inAt i hip;have hcst:=Zm.2 hi;have:hOut con a.2 b.2 i=some o':=by simp only[hOut,hb2,k1,hcst,Bc]
    exact .inl (by rw[infC i hip hcst,zJ this,zJ k1])
 obtain⟨rf1,rf2⟩:=Er (P:=P) hI con.outS y;rw[hbb]at rf1 rf2;obtain⟨ri1,ri2⟩:=Er (P:=P) hI con.inS x;rw[ha]at ri1 ri2;have hval:trL ρ (aft h res.up) (lkE X st) res.val=valOf (b.1.map (trT (fun i=>ρ (f i)) (hOut con a.2 b.2))):=by
  rw[hvalE];have hmap:b.1.map (fun t=>trT ρ (aft h res.up) (rnET f t))=b.1.map (trT (fun i=>ρ (f i)) (hOut con a.2 b.2)):=Ha fun t ht=>mH (fun i _=>rfl) (fun i hi=>infOut i (w3a i (rf1 t ht i hi)));cases hb1:b.1 with
  |nil=>rfl
  |cons t r=>
   cases r with
   |nil=> rw[hb1]at hmap;simp only[Na,Rb,List.cons.injEq,Ce]at hmap;simp only[Na,Rb,resE,trL,valOf,hmap]
   |cons t2 r=> rw[hb1]at hmap;simp only[Na,resE,trL,valOf,ma]at hmap ⊢;simp only[Lg,hmap]
 have hBup:(b.2.map fun o=>(ρ (f o.1),trO P ρ (aft h res.up) (rnEO f o.2)))=b.2.map fun o=>(ρ (f o.1),trO P (fun i=>ρ (f i)) (hOut con a.2 b.2) o.2):=Ha fun o ho=>by rw[CB (P:=P) (ρ:=ρ) (ρ':=fun i=>ρ (f i)) (h':=hOut con a.2 b.2) (fun i _=>rfl) (fun i hi=>infOut i (w3b i (rf2 o ho i hi)))]
 have hSup: ∀i o',lk a.2 i=some o'->trO P ρ (aft h res.up) (rnEO f o')=trO P (fun i=>ρ (f i)) (lk a.2) o':=by intro i o' ho';refine CB (fun i _=>rfl) (fun j hj=>infL j ?_);have:=w2b j (ri2 (i,o') (zN ho') j hj);rw[w1,Ic]at this;exact Pb.1 this
 generalize hL:(con.inS.objs.filter fun o=> !(memN o.1 con.cst||memN o.1 (con.outS.objs.map (·.1))))=L at*;have htrU:trU P ρ (aft h res.up) res.up=(b.2.map fun o=>(ρ (f o.1),trO P (fun i=>ρ (f i)) (hOut con a.2 b.2) o.2))++((L.map fun o=>(ρ (f o.1),none))++(Mf h m con.cst a.2).map fun o=>(ρ (f o.1),trO P ρ (aft h res.up) (rnEO f o.2))):=by
  have:trU P ρ (aft h res.up) res.up=trU P ρ (aft h res.up) (b.2.map (fun o=>(f o.1,rnEO f o.2))++((L.map fun o=>(o.1,Ig (h (f o.1)))).map (fun o=>(f o.1,o.2))++(Mf h m con.cst a.2).map (fun o=>(f o.1,rnEO f o.2)))):=by rw[<-hup]
  rw[this];simp only[trU,Vb,ma];rw[<-hBup];have hd: ∀o,trO P ρ (aft h res.up) (Ig o)=none:=by intro o;unfold Ig;split<;>rfl
  simp only[Lg,hd]
 have hLp: ∀o∈L,o.1<p:=by intro o ho;rw[<-hL]at ho;exact hids o (Sc.1 ho).1
 refine⟨(List.range p).filterMap fun i=>((h (f i)).bind (trO P ρ h)).map fun ob=>(ρ (f i),ob),?_,fun q hq=> ?_,fun q hq=> ?_,fun q hq=> ?_⟩
 ·rw[hval,htrU];refine hcall.wk (by rw[Ga,Ga];exact l3.symm) (fun j u v hu hv'=> ?_) (fun get hget=> ?_)
  ·rw[Ka]at hu hv';cases hj:as[j]? with
   |none=>rw[hj]at hu;cases hu
   |some u0=>
    cases hj2:a.1[j]? with
    |none=>rw[hj2]at hv';cases hv'
    |some v0=> rw[hj]at hu;rw[hj2]at hv';cases hu;cases hv';exact l4 ρ (fun i=>ρ (f i)) h (lk a.2) (fun _=>False) hcmp j u0 v0 hj hj2
  ·-- the objects as the contract sees them
   have obs: ∀i,i<p-> ∃o o' ob ob',h (f i)=some o/\lk a.2 i=some o'/\trO P ρ h o=some ob/\trO P (fun i=>ρ (f i)) (lk a.2) o'=some ob'/\WkOZ (fun _=>False) ob ob'/\get (ρ (f i))=some ob/\(∀t l,o= .sl t l->o'= .sl t l):=by intro i hi;obtain⟨c,o,o',k1,k2,k3,k4,k5,k6,k7⟩:=act i hi;obtain⟨ob,ob',q1,q2,q3⟩:=k7 (fun i=>ρ (f i)) (lk a.2) hcmp;have hfc:=fin i c hi k2;refine⟨o,o',ob,ob',by rw[hfc];exact k3,k1,q1,q2,q3,?_,k5⟩;refine hget (ρ (f i),ob) (yc.2 ⟨i,Pb.2 hi,?_⟩);rw[hfc,k3];simp only[aa,q1,Db]
   let F1:Nat->Option OB:=fun i=>(lk a.2 i).bind (trO P (fun i=>ρ (f i)) (lk a.2))
   have F1at: ∀i o' ob',lk a.2 i=some o'->trO P (fun i=>ρ (f i)) (lk a.2) o'=some ob'->F1 i=some ob':=fun i o' ob' h1 h2=>by simp only[F1,h1,aa,h2]
   have g1at: ∀i,i<p->upd get ((List.range p).map fun i=>(ρ (f i),F1 i)) (ρ (f i))=F1 i:=fun i hi=>yA (v:=F1) (Pb.2 hi) (fun j hj e=>hρf j i (Pb.1 hj) hi e);have g1out: ∀id,(∀i,i<p->ρ (f i)≠id)->upd get ((List.range p).map fun i=>(ρ (f i),F1 i)) id=get id:=fun id hid=>og (by
    intro hm;simp only[ma,Da,Pb,Function.comp]at hm;obtain⟨i,hi,e⟩:=hm;exact hid i hi e)
   refine⟨upd get ((List.range p).map fun i=>(ρ (f i),F1 i)),fun q hq=> ?_,fun id=> ?_,?_⟩
   ·obtain⟨⟨i,o'⟩,h1,h2⟩:=yc.1 hq;have hi:i<p:=by have:i∈a.2.map (·.1):=Da.2 ⟨_,h1,rfl⟩;rw[hkin,w1]at this;exact Pb.1 this
    cases hob:trO P (fun i=>ρ (f i)) (lk a.2) o' with
    |none=>simp only[hob]at h2;cases h2
    |some ob'=> simp only[hob,Db,Option.some.injEq]at h2;subst h2;show upd get _ (ρ (f i))=some ob';rw[g1at i hi];exact F1at i o' ob' (Q7 hknd h1) hob
   ·by_cases hex: ∃i,i<p/\ρ (f i)=id
    ·obtain⟨i,hi,rfl⟩:=hex;obtain⟨o,o',ob,ob',q1,q2,q3,q4,q5,q6,_⟩:=obs i hi;exact .inr ⟨ob,ob',q6,by rw[g1at i hi];exact F1at i o' ob' q2 q4,q5⟩
    ·rw[g1out id (fun i hi e=>hex ⟨i,hi,e⟩)];cases hg:get id with
     |none=>exact .inl ⟨rfl,rfl⟩
     |some o=>exact .inr ⟨o,o,rfl,rfl,WkOZ.refl o⟩
   ·funext id;rw[<-Lc,jo get];by_cases hkey:id∈((b.2.map fun o=>(ρ (f o.1),trO P (fun i=>ρ (f i)) (hOut con a.2 b.2) o.2))++(L.map fun o=>(ρ (f o.1),(none:Option OB)))).map (·.1)
    ·exact xA hkey
    ·rw[og hkey,og hkey];by_cases hex: ∃i,i<p/\ρ (f i)=id
     ·obtain⟨i,hi,rfl⟩:=hex;obtain⟨o,o',ob,ob',q1,q2,q3,q4,q5,q6,q7⟩:=obs i hi;have hcst:memN i con.cst=true:=by
       cases hcst:memN i con.cst with
       |true=>rfl
       |false=>
        exfalso;apply hkey;rw[Vb];cases hno:memN i (con.outS.objs.map (·.1))with
        |true=> have:=Zm.1 hno;rw[<-hkout]at this;obtain⟨z,hz,e⟩:=Da.1 this;refine Hd _ (Da.2 ⟨_,Da.2 ⟨z,hz,rfl⟩,?_⟩);simp only[e]
        |false=>
         have hmi:i∈con.inS.objs.map (·.1):=by rw[w1];exact Pb.2 hi
         obtain⟨z,hz,e⟩:=Da.1 hmi;refine Af _ (Da.2 ⟨_,Da.2 ⟨z,?_,rfl⟩,?_⟩)
         ·rw[<-hL];refine Sc.2 ⟨hz,?_⟩;simp only[e,hcst,hno];rfl
         ·simp only[e]
      rw[g1at i hi,F1at i o' ob' q2 q4];by_cases hs:i∈(Mf h m con.cst a.2).map (·.1)
      ·obtain⟨os,hos⟩:=zW hs;have hoa:=(seenAt i os hos).1;rw[q2]at hoa;cases hoa
       -- the first entry of that number
       have: ∀(l:EHeap I.C),(∀z∈l,lk a.2 z.1=some z.2)->i∈l.map (·.1)->upd get (l.map fun o=>(ρ (f o.1),trO P ρ (aft h res.up) (rnEO f o.2))) (ρ (f i))=some ob':=by
        intro l
        induction l with
        |nil=>intro _ hm;cases hm
        |cons z r ih=>
         intro hz hm;simp only[Na,upd];by_cases e:ρ (f i)=ρ (f z.1)
         ·rw[Va e];have hzlt:z.1<p:=by have:=hz z (Ib ..);have hk:z.1∈a.2.map (·.1):=Da.2 ⟨_,zN this,rfl⟩;rw[hkin,w1]at hk;exact Pb.1 hk
          have e2:=hρf i z.1 hi hzlt e;have hz1:=hz z (Ib ..);rw[<-e2,q2]at hz1;cases hz1;rw[hSup i _ q2];exact q4
         ·rw[Oa e];refine ih (fun z hz'=>hz z (Fb _ hz')) ?_;simp only[Na,Ra]at hm;exact hm.resolve_left (fun e3=>e (by rw[e3]))
       rw[this _ (fun z hz=>Q7 hknd (hseen a.2 z hz).1) hs]
      ·have hnot:ρ (f i) ∉ ((Mf h m con.cst a.2).map fun o=>(ρ (f o.1),trO P ρ (aft h res.up) (rnEO f o.2))).map (·.1):=by
        intro hm;rw[ma]at hm;obtain⟨z,hz,e⟩:=Da.1 hm;have hz1:=(hseen a.2 z hz).1;have hzlt:z.1<p:=by have hk:z.1∈a.2.map (·.1):=Da.2 ⟨_,hz1,rfl⟩;rw[hkin,w1]at hk;exact Pb.1 hk
        have:=hρf z.1 i hzlt hi e;exact hs (Da.2 ⟨z,hz,this⟩)
       rw[og hnot,q6];congr 1;rcases trk i o hi q1 with⟨t,l,rfl⟩|⟨ty,cs,rfl⟩
       ·rw[q7 t l rfl]at q4;have:some ob=some ob':=by rw[<-q3,<-q4];rfl
        injection this with this;exact this.symm
       ·refine KH q5 ?_;simp only[trO,Option.some.injEq]at q3;subst q3;intro row hrow z hz;simp only[Fa]at hrow;subst hrow;obtain⟨v,hv1,rfl⟩:=Da.1 hz;refine bK ?_;cases hnv:Yk v with
        |false=>rfl
        |true=> exfalso;exact hs (hseen2 a.2 i o' (zN q2) hcst hi ⟨ty,cs,q1,List.any_eq_true.2 ⟨v,hv1,hnv⟩⟩)
     ·rw[g1out id (fun i hi e=>hex ⟨i,hi,e⟩)];have hnot:id ∉ ((Mf h m con.cst a.2).map fun o=>(ρ (f o.1),trO P ρ (aft h res.up) (rnEO f o.2))).map (·.1):=by
       intro hm;rw[ma]at hm;obtain⟨z,hz,e⟩:=Da.1 hm;have hz1:=(hseen a.2 z hz).1;have hzlt:z.1<p:=by have hk:z.1∈a.2.map (·.1):=Da.2 ⟨_,hz1,rfl⟩;rw[hkin,w1]at hk;exact Pb.1 hk
       exact hex ⟨z.1,hzlt,e⟩
      rw[og hnot]
 ·obtain⟨i,hi,h2⟩:=yc.1 hq;cases ho:h (f i)with
  |none=>rw[ho]at h2;cases h2
  |some o=>
   rw[ho]at h2;cases hob:trO P ρ h o with
   |none=>simp only[aa,hob]at h2;cases h2
   |some ob=> simp only[aa,hob,Db,Option.some.injEq]at h2;subst h2;have:=hv.heap (f i) o (by rw[hh];exact ho);rw[hh,hob]at this;exact this
 ·obtain⟨i,hi,h2⟩:=yc.1 hq;have hi:=Pb.1 hi;obtain⟨c,o,o',k1,k2,k3,_⟩:=act i hi;have hfc:=fin i c hi k2;have hq1:q.1=ρ c:=by
   rw[hfc]at h2;cases hob:(h c).bind (trO P ρ h)with
   |none=>rw[hob]at h2;cases h2
   |some ob=>rw[hob]at h2;simp only[Db,Option.some.injEq]at h2;rw[<-h2]
  rw[hq1,hrdE];exact Da.2 ⟨c,yc.2 ⟨(i,some c),zN k2,rfl⟩,rfl⟩
 ·rw[hup]at hq;have newNone: ∀i,p<=i->h (f i)=none:=by
   intro i hi;cases hn1:h (f i)with
   |none=>rfl
   |some o=> have:=(hv.wfh _ o (by rw[hh];exact hn1)).1;rw[fout i hi]at this;omega
  rcases Eb.1 hq with hq|hq
  ·obtain⟨⟨i,o⟩,ho,rfl⟩:=Da.1 hq;rcases Jc i p with hi|hi
   ·obtain⟨_,_,s,g1,g2⟩:=outCst i (Da.2 ⟨_,ho,rfl⟩) hi;obtain⟨ty,cs,g3⟩:=inCells i hi s g1 g2;obtain⟨ty2,cs2,g4⟩:=outCells i o ho hi;obtain⟨_,ob,hob⟩:=flt i hi;refine .inr ⟨ob,hob, .inl ?_⟩;have h1:=infIn i hi;rw[zJ hob,zJ g3]at h1;simp only[oq,h1,g4];rfl
   ·exact .inl (newNone i hi)
  ·rcases Eb.1 hq with hq|hq
   ·obtain⟨z,hz,rfl⟩:=Da.1 hq;obtain⟨w,hw,rfl⟩:=Da.1 hz;have hi:=hLp w hw;obtain⟨_,ob,hob⟩:=flt w.1 hi;refine .inr ⟨ob,hob,?_⟩;simp only[hob];rcases trk w.1 ob hi hob with⟨t,l,rfl⟩|⟨ty,cs,rfl⟩
    ·exact .inl rfl
    ·exact .inr ⟨rfl,rfl⟩
   ·obtain⟨z,hz,rfl⟩:=Da.1 hq;have hz1:=(hseen a.2 z hz).1;have hi:z.1<p:=by have hk:z.1∈a.2.map (·.1):=Da.2 ⟨_,hz1,rfl⟩;rw[hkin,w1]at hk;exact Pb.1 hk
    obtain⟨_,ob,hob⟩:=flt z.1 hi;refine .inr ⟨ob,hob, .inl ?_⟩;have h1:=infIn z.1 hi;rw[zJ hob,zJ (Q7 hknd hz1)]at h1;simp only[oq,h1]
end
section
variable {P:Program} {I:Ip} {X:Cx I} {ρ:Nat->Nat} {G:Get} {st:ES I.C} {e:Env} {lh:LH} {q:Path} {R:Type} {r0:R} {K:Kt I R} {nt:Nat} {ops:List Oper}
def gOf(X:Cx I)(st:ES I.C)(q:Path):Option Bool:=match q with|[]=>none|q=>some (ZK (lkE X st) q)
theorem Ms{c:Nat×Bool}{r:Path}:gOf X st (c::r)=some (ZK (lkE X st) (c::r)):=rfl
theorem aN(hv:Vw P X ρ G st e lh){g:Option (Nat×Bool)}(hg:guardE X ops st g=some q):ZV ops e g=some (gOf X st q):=by
 unfold guardE at hg;split at hg
 ·cases hg;rfl
 ·rename_i j want;split at hg
  ·rename_i o ho;split at hg
   ·rename_i d hd;simp only[ZV,ho,aa,hd];rw[hv.env d];split at hg
    ·rename_i b hl;cases hg;simp only[hl,trL,trT,trV,pvE,Ms,ZK,mf];cases want<;>cases b<;>rfl
    ·rename_i ks b hl;cases hg;simp only[hl,trL,trT,trV,pvE,Ms];cases ks with
     |nil=>simp only[ZK,mf,hl];cases want<;>cases b<;>rfl
     |cons c r=>
      have:ZK (lkE X st) ((d,want)::c::r)=(litB want b&&ZK (lkE X st) (c::r)):=by simp only[ZK,mf,hl]
      rw[this];cases ZK (lkE X st) (c::r)<;>cases want<;>cases b<;>rfl
    ·cases hg
   ·cases hg
  ·cases hg
theorem OpOK.rd_mono{o:Oper}{s:TS}{g:Option Bool}{val:LV}{up:List (Nat×Option OB)}{rd rd':List Nat}{nx k:Nat}(h:OpOK P nt ops o ⟨g,val,up,rd,nx,k⟩ s)(hr: ∀i∈rd,i∈rd'):OpOK P nt ops o ⟨g,val,up,rd',nx,k⟩ s:=
 ⟨h.dst,h.nx,fun ι a w e' get' N hR hN hE ha hb hfr=>h.run ι a w e' get' N hR hN hE ha (fun id hid=>hb id (hid.imp (hr id) (fun h=>h))) hfr⟩
theorem KC(hv:Vw P X ρ G st e lh)(hq:q=[]\/ZK (lkE X st) q=true): ∀(xs:List Operand) (as:List (ET I.C)),allE q (xs.map (opdE X st))=some as->allT (xs.map (opd (zS e)))=some (true,as.map (trT ρ (lkO X st)))
 |[],as,h=>by simp only[Rb,allE,Option.some.injEq]at h;subst h;rfl
 |x::r,as,h=>by
  simp only[Na,allE]at h;split at h
  ·rename_i t l h1 h2;cases h;simp only[Na,allT,Al hv hq x t h1,KC hv hq r l h2,Me]
  ·cases h
theorem zbA.full {f:FuncId} {as bs:List TV} {rd:List (Nat×OB)} {nx k:Nat} {val:LV} {up:List (Nat×Option OB)} (h:zbA P f bs rd nx k val up) (hl:as.length=bs.length)
  (hw: ∀(j:Nat) (t:TV),as[j]? =some t-> ∃t',bs[j]? =some t'/\ ∀ι w u,repT ι w t u->repT ι w t' u):zbA P f as rd nx k val up:=
 ⟨h.fn,fun ι get w N vs hR hN hf ha hr=>h.ok ι get w N vs hR hN hf ⟨ha.1.trans hl,fun j t' ht'=>by
  have hj:j<as.length:=by rw[hl];exact(Ba.1 ht').1
  obtain⟨t2,h2,h3⟩:=hw j _ (Ea hj);rw[ht']at h2;cases h2;obtain⟨u,hu1,hu2⟩:=ha.2 j _ (Ea hj)
  grind⟩ hr⟩
theorem jH{ρ:Nat->Nat}{h:Nat->Option (EO I.C)}{a:ET I.C}{ι:Asg}{w:World}{u:Value}(hu:repT ι w (trT ρ h a) u):repT ι w (trT ρ h (unF a)) u:=by
 unfold unF;split
 ·exact⟨hu.1,hu.2.1⟩
 ·exact hu
theorem GD{h:Nat->Option (EO I.C)}{n f:Nat}{as:List (ET I.C)}{g:Bool}(hg:q=[]\/g=true): ∀{S:List (Con I)},Di h n f as q g K S=some r0-> ∃con∈S,con.f=f/\ ∃x m y,(con.inS.sl I).mat as (nrmH h) []=some (x,m)/\(m.all fun z=>Nat.blt z.1 con.inS.objs.length)=true/\Jf m=[]/\con.F x=some y/\K (bf con h n m x y)=some r0
 |[],h0=>by cases h0
 |con::r,h0=>by
  simp only[Di]at h0;have tail:Di h n f as q g K r=some r0-> ∃con'∈con::r,con'.f=f/\ ∃x m y,(con'.inS.sl I).mat as (nrmH h) []=some (x,m)/\(m.all fun z=>Nat.blt z.1 con'.inS.objs.length)=true/\Jf m=[]/\con'.F x=some y/\K (bf con' h n m x y)=some r0:=by intro h1;obtain⟨c,h2,h3⟩:=GD hg h1;exact⟨c,Fb _ h2,h3⟩
  cases hb:Nat.beq con.f f with
  |false=>grind
  |true=>
   rw[hb]at h0;simp only[Bc]at h0;split at h0
   ·rename_i x m hm;refine⟨con,Ib ..,Ta hb,x,m,?_⟩;unfold Fq at h0;cases ha:m.all fun z=>Nat.blt z.1 con.inS.objs.length with
    |false=>grind
    |true=>
     rw[ha]at h0;simp only[Bc]at h0;split at h0
     case h_2=>cases h0
     rename_i hn;split at h0
     ·obtain⟨y,h1,h2⟩:=Aa.1 h0
      grind
     ·obtain⟨_,h1⟩:=zk h0;obtain⟨y,h2,h3⟩:=Aa.1 h1;rcases hg with hg|hg
      ·simp_all
      ·subst hg;exact⟨y,hm,rfl,hn,h2,h3⟩
     ·rcases hg with hg|hg
      ·simp_all
      ·subst hg;simp only[Bc]at h0;obtain⟨y,h2,h3⟩:=Aa.1 h0
       grind
   ·exact tail h0
def roOf(P:Program)(X:Cx I)(ρ:Nat->Nat)(st:ES I.C)(lh:LH)(q:Path)(res:OR I.C):RO:=
 ⟨gOf X st q,trL ρ (aft (lkO X st) res.up) (lkE X st) res.val,trU P ρ (aft (lkO X st) res.up) res.up,res.rd.map ρ,lh.next,res.k⟩
theorem Uw(h:Nat->Option (EO I.C))(up:EHeap I.C):(trU P ρ h up).map (·.1)=up.map fun p=>ρ p.1:=by simp[trU,ma]
theorem xu(hI:IpOK P I)(hT:TOK P X.T X.fk){S:List (Con I)}(hS: ∀c∈S,zm P c)(hv:Vw P X ρ G st e lh){fz:Nat}{o:Oper}(hg:guardE X ops st o.guard=some q)(h0:opE X S fz st q (ZK (lkE X st) q) o.op K=some r0):
  ∃res,K res=some r0/\((∀d,o.dst=some d->d<nt)->OpOK P nt ops o (roOf P X ρ st lh q res) ⟨e,lh.get,lh.next⟩)/\Yj (lkO X st) res.up/\(gOf X st q=some false->res.up=[]):=by
 have hgv:=aN hv hg;by_cases hq:q=[]\/ZK (lkE X st) q=true
 ·have hgne:gOf X st q≠some false:=by
   cases q with
   |nil=>simp[gOf]
   |cons c r=>
    rcases hq with hq|hq
    ·cases hq
    ·rw[Ms,hq];simp
  by_cases hnc: ∀c f,o.op= .call c->c.callee≠ .value f
  ·obtain⟨res,h1,h2,h3⟩:=JH hI hT hv hq hnc h0;refine⟨res,h1,fun hd=> ?_,h2.inf,fun hf=>absurd hf hgne⟩;unfold roOf;refine nC (s:=⟨e,lh.get,lh.next⟩) (k:=res.k) hgv hd fun _=>⟨h2.pre,fun ι w get' v w' hn hgd=>h2.good ι w get' v w' hn hgd,fun id hid=> ?_,h3⟩;rcases h2.rd id hid with h|h
   ·exact .inl h
   ·exact .inr (by rw[Uw];exact h)
  ·have: ∃c cf,o.op= .call c/\c.callee= .value cf:=by apply Classical.byContradiction;intro hno;exact hnc fun c f h1 h2=>hno ⟨c,f,h1,h2⟩
   obtain⟨c,cf,ho,hcc⟩:=this;rw[ho]at h0;simp only[opE,hcc]at h0;obtain⟨fc,h1,h2⟩:=zh h0;obtain⟨as,h3,h4⟩:=zh h2;obtain⟨con,c1,c2,x,m,y,d1,d2,d3,d4,d5⟩:=GD hq h4;obtain⟨rd0,k1,k2,k3,k4⟩:=kL hI hv (hS con c1) d1 d2 d3 d4;refine⟨_,d5,fun hd=> ?_,k4,fun hf=>absurd hf hgne⟩;obtain⟨f,caps⟩:=fc;have hcl:useE q (opdE X st cf)=some (.c (.clo f caps)):=by
    unfold cloE at h1;split at h1
    ·grind
    ·cases h1
   -- at the place, by values that are there
   have hun:=Al hv hq cf _ hcl;have hall:=KC hv hq _ _ h3;have k1:=k1.full (as:=(as++caps.map capE).map (trT ρ (lkO X st))) (by simp) (fun j t ht=>by
    rw[Vb]at ht ⊢;by_cases hj:j<as.length
    ·rw[Ua (by simpa using hj)]at ht;rw[Ua (by simpa using hj),ma,Ka];rw[Ka]at ht;obtain⟨a,ha,rfl⟩:=Jb.1 ht;exact⟨_,by rw[ha];rfl,fun ι w u hu=>jH hu⟩
    grind)
   have hmap:(as++caps.map capE).map (trT ρ (lkO X st))=as.map (trT ρ (lkO X st))++(caps.map fun q=>(ρ q.1,q.2)).map capT:=by rw[Vb,ma,ma];rfl
   rw[hmap]at k1;simp only at c2;rw[c2]at k1;have hcall:=CQ (nt:=nt) (ops:=ops) (o:=o) (s:=⟨e,lh.get,lh.next⟩) (g:=gOf X st q) (c:=c) (cf:=cf) (f:=f) (caps:=caps.map fun q=>(ρ q.1,q.2)) (as:=as.map (trT ρ (lkO X st))) (rd:=rd0) hgv hd ho hcc (by simpa [trT,trV] using hun) hall k1 k2;refine hcall.rd_mono fun i hi=> ?_
   grind
 ·have hq1:q≠[]:=fun h=>hq (.inl h);have hq2:ZK (lkE X st) q=false:=by
   cases hb:ZK (lkE X st) q with
   |false=>rfl
   |true=>grind
  have hgf:gOf X st q=some false:=by
   cases q with
   |nil=>grind
   |cons c r=>rw[Ms,hq2]
  obtain⟨res,h1,h2⟩:=RJ (.inr hq2) h0;have hu:res.up=[]:=h2.resolve_left hq1;refine⟨res,h1,fun hd=> ?_,fun p hp=>(by grind),fun _=>hu⟩;rw[hgf]at hgv;unfold roOf;rw[hgf];exact nC (s:=⟨e,lh.get,lh.next⟩) hgv hd fun h=>absurd rfl h
end
section
variable {P:Program} {I:Ip} {X:Cx I} {ρ:Nat->Nat} {G:Get} {st:ES I.C} {e:Env} {lh:LH} {q:Path} {nt:Nat} {ops:List Oper}
theorem Mr{n m:Nat}(h:n<=m){x:EV I.C}(hw:wfV n x=true):wfV m x=true:=by
 cases x<;>simp only[wfV]at hw ⊢
 case own id=>exact zU.2 (Kb (zU.1 hw) h)
 case osl id _ _=>exact zU.2 (Kb (zU.1 hw) h)
 case optr id _ _=>exact zU.2 (Kb (zU.1 hw) h)
 case mref id=>exact zU.2 (Kb (zU.1 hw) h)
 case clo f caps=> rw[La]at hw ⊢;exact fun q hq=>zU.2 (Kb (zU.1 (hw q hq)) h)
theorem Pw{n m:Nat}(h:n<=m){x:ET I.C}(hw:wfT n x=true):wfT m x=true:=by
 cases x with
 |c x=>exact Mr h hw
 |agg xs=> simp only[wfT,La]at hw ⊢;exact fun v hv=>Mr h (hw v hv)
theorem cB{n m:Nat}(h:n<=m){x:EL I.C}(hw:wfL n x=true):wfL m x=true:=by
 cases x with
 |any=>rfl
 |v t=>exact Pw h hw
 |opt ks t=>exact Pw (x:=t) h hw
 |tup ts=> simp only[wfL,La]at hw ⊢;exact fun t ht=>Pw h (hw t ht)
theorem Rw{n m:Nat}(h:n<=m){x:EO I.C}(hw:wfO n x=true):wfO m x=true:=by
 cases x with
 |cells ty cs=> simp only[wfO,La]at hw ⊢;exact fun v hv=>Mr h (hw v hv)
 |slo t l1 cs l2=> simp only[wfO,La]at hw ⊢;exact fun v hv=>Mr h (hw v hv)
 |_=>rfl
theorem Ir{h h':Nat->Option (EO I.C)}{n:Nat}(hi: ∀id,id<n->Jh (infO h id) (infO h' id)){x:EV I.C}(hw:wfV n x=true):trV ρ h' x=trV ρ h x:=by
 refine Rt (n:=n) (fun _ _=>rfl) (fun id hid=> ?_) hw;rcases hi id hid with h1|⟨h1,h2⟩
 ·grind
 grind
theorem Ww{h h':Nat->Option (EO I.C)}{n:Nat}(hi: ∀id,id<n->Jh (infO h id) (infO h' id)){x:ET I.C}(hw:wfT n x=true):trT ρ h' x=trT ρ h x:=by
 cases x with
 |c x=>exact congrArg TV.c (Ir hi hw)
 |agg xs=> simp only[wfT,La]at hw;simp only[trT];congr 1;exact Ha fun v hv=>Ir hi (hw v hv)
theorem jI{h h':Nat->Option (EO I.C)}{n:Nat}(hi: ∀id,id<n->Jh (infO h id) (infO h' id)){o:EO I.C}(hw:wfO n o=true):trO P ρ h' o=trO P ρ h o:=by
 cases o with
 |cells ty cs=> simp only[wfO,La]at hw;simp only[trO];rw[Ha fun v hv=>Ir hi (hw v hv)]
 |slo t l1 cs l2=> simp only[wfO,La]at hw;simp only[trO];rw[Ha fun v hv=>Ir hi (hw v hv)]
 |_=>rfl
theorem iy{E E':Nat->Option (EL I.C)}: ∀{ks:Path},(∀k∈ks,mf E' k.1=mf E k.1)->ZK E' ks=ZK E ks
 |[],_=>rfl
 |[(t,w)],h=>by simp only[ZK,h (t,w) (Ib ..)]
 |(t,w)::c::r,h=>by simp only[ZK,h (t,w) (Ib ..)];rw[iy (fun k hk=>h k (Fb _ hk))]
theorem kI{h h':Nat->Option (EO I.C)}{E E':Nat->Option (EL I.C)}{n:Nat}(hi: ∀id,id<n->Jh (infO h id) (infO h' id)){x:EL I.C}(hw:wfL n x=true)(hk: ∀ks t,x= .opt ks t-> ∀k∈ks,mf E' k.1=mf E k.1):trL ρ h' E' x=trL ρ h E x:=by
 cases x with
 |any=>rfl
 |v t=>exact congrArg LV.v (Ww hi hw)
 |opt ks t=> simp only[trL];rw[iy (hk ks t rfl),Ww hi (x:=t) hw]
 |tup ts=> simp only[wfL,La]at hw;simp only[trL];congr 1;exact Ha fun t ht=>Ww hi (hw t ht)
theorem Ay{d:Nat}: ∀{l:EEnv I.C},mi d l=true-> ∀t ks x,(t,EL.opt ks x)∈l-> ∀k∈ks,k.1≠d
 |[],_,t,ks,x,h=>by cases h
 |p::r,hn,t,ks,x,h=>by
  obtain⟨t0,y⟩:=p;rcases Ra.1 h with h|h
  ·cases h;simp only[mi]at hn;simp_all
  ·refine Ay (l:=r) ?_ t ks x h;cases y<;>simp only[mi]at hn<;>first|exact hn|skip
   grind
def PN(X:Cx I)(st:ES I.C)(id:Nat):Prop:=(∃o,lkO X st id=some o)\/st.next<=id
theorem Vw.pinj(hv:Vw P X ρ G st e lh){i j:Nat}(hi:PN X st i)(hj:PN X st j)(he:ρ i=ρ j):i=j:=by
 rcases hi with⟨o,ho⟩|hi<;>rcases hj with⟨o2,ho2⟩|hj
 ·exact hv.inj i j o o2 ho ho2 he
 ·have h1:=hv.lt i (hv.wfh i o ho).1;have h2:=hv.up j hj;omega
 ·have h1:=hv.lt j (hv.wfh j o2 ho2).1;have h2:=hv.up i hi;omega
 ·have h1:=hv.up i hi;have h2:=hv.up j hj;omega
theorem Nj{o:Oper}{res:OR I.C}:lkO X (Pg o q st res)=aft (lkO X st) res.up:=by
 funext id;simp only[lkO,Pg,aft,ZF]
 grind
theorem Gs{o:Oper}{res:OR I.C}(t:Nat):lkE X (Pg o q st res) t=if o.dst=some t then some (putL q res.val)else lkE X st t:=by
 simp only[lkE,Pg];cases hd:o.dst with
 |none=>simp
 |some d=>
  simp only[Option.some.injEq];rw[zQ]
  grind
theorem Br(hv:Vw P X ρ G st e lh){o:Oper}{res:OR I.C}(hok:xg X nt o q st res=true)(hinf:Yj (lkO X st) res.up)(hgf:gOf X st q=some false->res.up=[]):
  Vw P X ρ G (Pg o q st res) (put e o.dst (roOf P X ρ st lh q res).v) ⟨lh.next+res.k,upd lh.get (roOf P X ρ st lh q res).u⟩:=by
 simp only[xg,Ca]at hok;obtain⟨⟨⟨⟨k1,k2⟩,k3⟩,k4⟩,k5⟩:=hok;have hup: ∀p∈res.up,p.1<st.next+res.k/\wfO (st.next+res.k) p.2=true/\lk X.frh p.1=none/\PN X st p.1:=by
  intro p hp;have:=La.1 k4 p hp;simp only[Ca]at this;obtain⟨⟨⟨a1,a2⟩,a3⟩,a4⟩:=this;refine⟨zU.1 a1,a2,?_,?_⟩
  ·grind
  ·cases hl:lkO X st p.1 with
   |some o=>exact .inl ⟨o,hl⟩
   |none=>rw[hl]at a4;exact .inr (Bb a4)
 have hkeep: ∀id,id<st.next->Jh (infO (lkO X st) id) (infO (aft (lkO X st) res.up) id):=by
  intro id hid;cases hl:lk res.up id with
  |none=> refine .inl ?_;simp only[infO,aft,hl]
  |some o'=>
   have hm:=zN hl;have hat:aft (lkO X st) res.up id=some o':=by simp only[aft,hl]
   rw[zJ hat];rcases hinf _ hm with h1|⟨o0,h1,h2⟩
   ·rcases(hup _ hm).2.2.2 with⟨o,ho⟩|hle
    ·grind
    grind
   ·rw[zJ h1];exact h2
 have hboolE: ∀k,(∀d,o.dst=some d->k≠d)->mf (lkE X (Pg o q st res)) k=mf (lkE X st) k:=by intro k hk;simp only[mf,Gs];rw[Oa (fun h=>hk k h rfl)]
 have hu:upd lh.get (roOf P X ρ st lh q res).u=upd lh.get (trU P ρ (aft (lkO X st) res.up) res.up):=by
  unfold RO.u roOf;simp only;cases hg:gOf X st q with
  |none=>rfl
  |some b=>
   cases b with
   |true=>rfl
   |false=>rw[hgf hg];rfl
 have hat: ∀id,PN X st id->upd lh.get (trU P ρ (aft (lkO X st) res.up) res.up) (ρ id)=(match lk res.up id with|some o=>trO P ρ (aft (lkO X st) res.up) o|none=>lh.get (ρ id)):=by
  intro id hid;have: ∀(l:EHeap I.C),(∀p∈l,PN X st p.1)->upd lh.get (trU P ρ (aft (lkO X st) res.up) l) (ρ id)=(match lk l id with|some o=>trO P ρ (aft (lkO X st) res.up) o|none=>lh.get (ρ id)):=by
   intro l
   induction l with
   |nil=>intro _;rfl
   |cons p r ih=>
    intro hp;obtain⟨j,o⟩:=p;simp only[trU,Na,upd];rw[zQ];by_cases hij:id=j
    ·grind
    ·rw[Oa hij,Oa (fun e=>hij (hv.pinj hid (hp (j,o) (Ib ..)) e))];exact ih (fun p hp'=>hp p (Fb _ hp'))
  exact this res.up (fun p hp=>(hup p hp).2.2.2)
 have hpres: ∀id o,aft (lkO X st) res.up id=some o->PN X st id:=by
  intro id o ho;simp only[aft]at ho;cases hl:lk res.up id with
  |some o'=>exact(hup _ (zN hl)).2.2.2
  |none=>rw[hl]at ho;exact .inl ⟨o,ho⟩
 refine⟨fun t=> ?_,fun id ob ho=> ?_,fun i hi=> ?_,fun i j o1 o2 h1 h2 he=> ?_,fun id hid=> ?_,fun id hid=> ?_,fun t x hx=> ?_,fun i ob ho=> ?_,fun i hi=> ?_,fun t x hx=> ?_,fun id ob ho=> ?_⟩
 ·rw[Fs,Gs,Nj];by_cases hd:o.dst=some t
  ·rw[Va hd,Va hd];simp only;rw[hd]at k1;simp only[Ca]at k1;obtain⟨_,k1e⟩:=k1;have hpq:ZK (lkE X (Pg o q st res)) q=ZK (lkE X st) q:=iy fun k hk=>hboolE k.1 fun d hd'=>by rw[hd]at hd';cases hd';have:=La.1 k1e k hk;intro e;simp_all
   have hval: ∀E,trL ρ (aft (lkO X st) res.up) E res.val=trL ρ (aft (lkO X st) res.up) (lkE X st) res.val:=by
    intro E;cases hrv:res.val with
    |opt ks t=>rw[hrv]at k2;cases k2
    |_=>rfl
   cases q with
   |nil=>exact(hval _).symm
   |cons c r=>
    show optV (ZK (lkE X st) (c::r)) (trL ρ (aft (lkO X st) res.up) (lkE X st) res.val)=trL ρ _ _ (putL (c::r) res.val);cases hrv:res.val with
    |any=>rfl
    |v t=> simp only[trL,optV,putL];rw[hpq]
    |opt ks t=>rw[hrv]at k2;cases k2
    |tup ts=>rfl
  ·rw[Oa hd,Oa hd,hv.env t];cases hl:lkE X st t with
   |none=>rfl
   |some x=>
    simp only;refine(kI (n:=st.next) hkeep (hv.wfe t x hl) fun ks t0 hx k hk=>hboolE k.1 fun d hd'=> ?_).symm;rw[hd']at k1;simp only[Ca]at k1;obtain⟨⟨⟨⟨_,n1⟩,n2⟩,_⟩,_⟩:=k1;subst hx;simp only[lkE]at hl;cases hl1:lk st.env t with
    |some y=>rw[hl1]at hl;cases hl;exact Ay n1 t ks t0 (zN hl1) k hk
    |none=>rw[hl1]at hl;exact Ay n2 t ks t0 (zN hl) k hk
 ·rw[Nj]at ho ⊢;simp only[hu];rw[hat id (hpres id ob ho)];simp only[aft]at ho;cases hl:lk res.up id with
  |some o'=>grind
  |none=> rw[hl]at ho;simp only;rw[hv.heap id ob ho];exact(jI (n:=st.next) hkeep (hv.wfh id ob ho).2).symm
 ·obtain⟨g1,g2⟩:=hv.oth i hi;have hne: ∀id,PN X st id->ρ id≠i:=by
   intro id hid e;rcases hid with⟨o,ho⟩|hid
   ·grind
   ·have:=hv.up id hid;have:=hv.glt i hi;omega
  refine⟨?_,fun id ob ho=> ?_⟩
  ·simp only[hu];rw[og,g1];rw[Uw]
   grind
  ·rw[Nj]at ho
   grind
 ·rw[Nj]at h1 h2;exact hv.pinj (hpres i o1 h1) (hpres j o2 h2) he
 ·have hid':id<st.next+res.k:=hid;show ρ id<lh.next+res.k;rcases Jc id st.next with h|h
  ·have:=hv.lt id h;omega
  ·have:=hv.up id h;omega
 ·have hid':st.next+res.k<=id:=hid;show ρ id=lh.next+res.k+(id - (st.next+res.k));have:=hv.up id (by omega);omega
 ·obtain⟨f1,f2⟩:=hv.fre t x hx;refine⟨?_,f2⟩;rw[Gs]
  grind
 ·rw[Nj];simp only[aft];cases hl:lk res.up i with
  |some o'=>
   have:=(hup _ (zN hl)).2.2.1
   grind
  |none=>exact hv.fro i ob ho
 ·exact Kb (hv.glt i hi) (Dc _ _)
 ·rw[Gs]at hx;show wfL (st.next+res.k) x=true;split at hx
  ·cases hx;cases q with
   |nil=>exact k3
   |cons c r=>
    cases hrv:res.val with
    |v t=>rw[hrv]at k3;exact k3
    |_=>rfl
  ·exact cB (Dc _ _) (hv.wfe t x hx)
 ·rw[Nj]at ho;show id<st.next+res.k/\wfO (st.next+res.k) ob=true;simp only[aft]at ho;cases hl:lk res.up id with
  |some o'=>rw[hl]at ho;cases ho;exact⟨(hup _ (zN hl)).1,(hup _ (zN hl)).2.1⟩
  |none=> rw[hl]at ho;obtain⟨h1,h2⟩:=hv.wfh id ob ho;exact⟨Kb h1 (Dc _ _),Rw (Dc _ _) h2⟩
end
section
variable {P:Program} {I:Ip} {X:Cx I} {ρ:Nat->Nat} {G:Get} {nt:Nat} {ops:List Oper} {R:Type} {r0:R}
theorem OJ{st:ES I.C}{o:Oper}{q:Path}{res:OR I.C}(hup: ∀p∈res.up,PN X st p.1){id:Nat}(h:PN X (Pg o q st res) id):PN X st id:=by
 rcases h with⟨ob,ho⟩|h
 ·rw[Nj]at ho;simp only[aft]at ho;cases hl:lk res.up id with
  |some o'=>exact hup _ (zN hl)
  |none=>rw[hl]at ho;exact .inl ⟨ob,ho⟩
 ·exact .inr (ja (Dc _ _) h)
theorem Yy(hI:IpOK P I)(hT:TOK P X.T X.fk){S:List (Con I)}(hS: ∀c∈S,zm P c){fz:List Nat}{K:ES I.C->List Fp->Option R}: ∀(r:List Oper) (j:Nat) (st:ES I.C) (e:Env) (lh:LH) (fps:List Fp),Vw P X ρ G st e lh->opsE X S fz nt ops j r st fps K=some r0->
  ∃(zs:List (Oper×RO)) (st':ES I.C) (fps':List Fp),zs.map (·.1)=r/\(∀(i:Nat) (o:Oper) (ro:RO),zs[i]? =some (o,ro)->OpOK P nt ops o ro (runA (zs.take i) ⟨e,lh.get,lh.next⟩))/\
   Vw P X ρ G st' (runA zs ⟨e,lh.get,lh.next⟩).e ⟨(runA zs ⟨e,lh.get,lh.next⟩).next,(runA zs ⟨e,lh.get,lh.next⟩).get⟩/\K st' (fps++fps')=some r0/\fps'.length=r.length/\
   (∀(i:Nat) (o:Oper) (ro:RO) (fp:Fp),zs[i]? =some (o,ro)->fps'[i]? =some fp->ro.rd=fp.1.map ρ/\ro.up.map (·.1)=fp.2.map ρ)/\(∀fp∈fps',∀id,(id∈fp.1\/id∈fp.2)->PN X st id)
 |[],j,st,e,lh,fps,hv,h0=>by
  refine⟨[],st,[],rfl,fun i o ro h=>by simp at h,?_,?_,rfl,fun i o ro fp h=>by simp at h,fun fp h=>by simp at h⟩
  ·exact hv
  ·simp only[opsE]at h0
   grind
 |o::r,j,st,e,lh,fps,hv,h0=>by
  simp only[opsE]at h0;split at h0
  ·cases h0
  ·rename_i q hg;obtain⟨res,h1,h2,h3,h4⟩:=xu (nt:=nt) (ops:=ops) hI hT hS hv hg h0;obtain⟨hok,h5⟩:=zk h1;have hv':=Br hv hok h3 h4;have hk:=hok;simp only[xg,Ca]at hk;obtain⟨⟨⟨⟨k1,k2⟩,k3⟩,k4⟩,k5⟩:=hk;have hd: ∀d,o.dst=some d->d<nt:=by intro d hd;rw[hd]at k1;simp only[Ca]at k1;exact zU.1 k1.1.1.1.1
   have hpn: ∀p∈res.up,PN X st p.1:=by
    intro p hp;have:=La.1 k4 p hp;simp only[Ca]at this;have a4:=this.2;cases hl:lkO X st p.1 with
    |some o=>exact .inl ⟨o,hl⟩
    |none=>rw[hl]at a4;exact .inr (Bb a4)
   have hpr: ∀i∈res.rd,PN X st i:=by
    intro i hi;have a4:=La.1 k5 i hi;cases hl:lkO X st i with
    |some o=>exact .inl ⟨o,hl⟩
    |none=>rw[hl]at a4;exact .inr (Bb a4)
   obtain⟨zs,st',fps',z1,z2,z3,z4,z5,z6,z7⟩:=Yy hI hT hS r (j+1) (Pg o q st res) _ _ _ hv' h5;refine⟨(o,roOf P X ρ st lh q res)::zs,st',(res.rd,res.up.map (·.1))::fps',by simp[z1],fun i o' ro hz=> ?_,z3,?_,by simp[z5],fun i o' ro fp hz hf=> ?_,fun fp hfp id hid=> ?_⟩
   ·cases i with
    |zero=> simp only[Uc,Option.some.injEq,Prod.mk.injEq]at hz;obtain⟨rfl,rfl⟩:=hz;exact h2 hd
    |succ i=>exact z2 i o' ro (by simpa using hz)
   ·grind
   ·cases i with
    |zero=> simp only[Uc,Option.some.injEq,Prod.mk.injEq]at hz hf;obtain⟨rfl,rfl⟩:=hz;subst hf;refine⟨rfl,?_⟩;simp only[roOf,Uw,ma];rfl
    |succ i=>grind
   ·rcases Ra.1 hfp with rfl|hfp
    ·grind
    ·exact OJ hpn (z7 fp hfp id hid)
theorem uC{x y:Oper}(h:Sq ops x y=false):tconf ops x y=false:=by
 have mem: ∀d l,memN d l=false->l.contains d=false:=by intro d l hm;have:=FE hm;simpa using this
 simp only[Sq,Ie]at h;obtain⟨h1,h2⟩:=h;simp only[tconf,Ie];constructor
 ·cases hx:x.dst with
  |none=>rfl
  |some d=>
   rw[hx]at h1;simp only[Ie]at h1 ⊢;refine⟨mem _ _ h1.1,?_⟩;cases hy:y.dst with
   |none=>rfl
   |some e=>
    rw[hy]at h1;have h3:=h1.2;simp only at h3;have:e≠d:=fun he=>by simp_all
    simpa using this
 grind
theorem aD{a b:List Nat}(h:Gj a b=false): ∀i∈a,i ∉ b:=by
 intro i hi hb;have:Gj a b=true:=List.any_eq_true.2 ⟨i,hi,Zm.2 hb⟩
 grind
theorem Az{fps:List Fp}: ∀(r:List Oper) (j:Nat) (acc:List (List Nat)),acc.length=j->(∀k,r[k]? =ops[j+k]?)->(∀m i,i∈acc.getD m []->Rch ops i m)->nk ops fps j r acc=true->
  ∀i k x y a b,ops[i]? =some x->ops[k]? =some y->fps[i]? =some a->fps[k]? =some b->i<k->j<=k->Rch ops i k\/(Sq ops x y=false/\fpB a b=false)
 |[],j,acc,_,hr,_,_,i,k,x,y,a,b,_,hy,_,_,_,hjk=>by
  have:=hr (k - j)
  grind
 |o::r,j,acc,hl,hr,ha,h,i,k,x,y,a,b,hx,hy,hfa,hfb,hik,hjk=>by
  have ho:ops[j]? =some o:=by have:=hr 0;simpa using this.symm
  simp only[nk,Ca,La,Pb]at h;obtain⟨h1,h2⟩:=h;have hcl: ∀i,i∈direct o++(direct o).flatMap (fun i=>acc.getD i [])->Rch ops i j:=by
   intro i hi;rcases Eb.1 hi with hi|hi
   ·exact .dir i j o ho hi
   ·obtain⟨m,hm,hi⟩:=Xa.1 hi;exact .tr i m j o ho hm (ha m i hi)
  rcases df hjk with e|e
  ·subst e;rw[ho]at hy;cases hy;have:=h1 i hik;rw[Re]at this;rcases this with this|this
   ·exact .inl (hcl i (Zm.1 this))
   ·grind
  ·refine Az r (j+1) _ (by simp[hl]) (fun k=> ?_) (fun m i hi=> ?_) h2 i k x y a b hx hy hfa hfb hik e
   ·have:=hr (k+1)
    grind
   ·rw[Sd,Fe]at hi;split at hi
    ·grind
    ·rename_i hm;cases hmj:m - acc.length with
     |zero=>
      rw[hmj]at hi;have:m=j:=by omega
      grind
     |succ n=>grind
theorem lJ (hv: ∀fp:Fp,True) {st:ES I.C} {e:Env} {lh:LH} (hV:Vw P X ρ G st e lh) {zs:List (Oper×RO)} {fps:List Fp} (hz:zs.map (·.1)=ops) (hl:fps.length=ops.length)
  (h6: ∀(i:Nat) (o:Oper) (ro:RO) (fp:Fp),zs[i]? =some (o,ro)->fps[i]? =some fp->ro.rd=fp.1.map ρ/\ro.up.map (·.1)=fp.2.map ρ) (h7: ∀fp∈fps,∀id,(id∈fp.1\/id∈fp.2)->PN X st id) (hd:nk ops fps 0 ops []=true):Dn ops zs:=by
 intro i k x y r q hi hk hik;have hx:=xk hz hi;have hy:=xk hz hk;have hil:i<fps.length:=by rw[hl];exact(Ba.1 hx).1
 have hkl:k<fps.length:=by rw[hl];exact(Ba.1 hy).1
 have hfa:fps[i]? =some fps[i]:=Ea hil;have hfb:fps[k]? =some fps[k]:=Ea hkl;rcases Az ops 0 [] rfl (fun k=>by simp) (fun m i h=>by simp at h) hd i k x y _ _ hx hy hfa hfb hik (Nb _)with h|⟨h1,h2⟩
 ·exact .inl h
 ·refine .inr ⟨uC h1,?_⟩;obtain⟨a1,a2⟩:=h6 i x r _ hi hfa;obtain⟨b1,b2⟩:=h6 k y q _ hk hfb;have pa:=h7 _ (Ia hfa);have pb:=h7 _ (Ia hfb);simp only[fpB,Ie]at h2;obtain⟨⟨c1,c2⟩,c3⟩:=h2;have dis: ∀{u v:List Nat},Gj u v=false->(∀id∈u,PN X st id)->(∀id∈v,PN X st id)-> ∀z∈u.map ρ,z ∉ v.map ρ:=by intro u v huv hu hv z hz hz2;obtain⟨i1,hi1,rfl⟩:=Da.1 hz;obtain⟨i2,hi2,e⟩:=Da.1 hz2;have:=hV.pinj (hv i2 hi2) (hu i1 hi1) e;subst this;exact aD huv i2 hi1 hi2
  refine⟨fun z hz=>⟨?_,?_⟩,fun z hz=> ?_⟩
  ·grind
  ·grind
  ·grind
theorem BQ (hI:IpOK P I) (hT:TOK P X.T X.fk) {S:List (Con I)} (hS: ∀c∈S,zm P c) {fz:List Nat} {st:ES I.C} {e:Env} {lh:LH} (hv:Vw P X ρ G st e lh) {id:Nat} {opa:Array Oper} {K:ES I.C->Option R} {Q:Post}
  (h0:opsE X S fz nt opa.toList 0 opa.toList st [] (fun st' _=>K st')=some r0)
  (hQ: ∀st' e' lh',K st'=some r0->Vw P X ρ G st' e' lh'->Q .normal e' lh'):SW P nt (.region id opa false) Q e lh:=by
 obtain⟨zs,st',fps',z1,z2,z3,z4,_⟩:=Yy (nt:=nt) (ops:=opa.toList) hI hT hS opa.toList 0 st e lh [] hv h0;exact Iu (s0:=⟨e,lh.get,lh.next⟩) z1 ⟨z1,z2⟩ (hQ _ _ _ z4 z3)
theorem vO (hmix:P.follows .mixedOrders=true) (hI:IpOK P I) (hT:TOK P X.T X.fk) {S:List (Con I)} (hS: ∀c∈S,zm P c) {fz:List Nat} {st:ES I.C} {e:Env} {lh:LH} (hv:Vw P X ρ G st e lh) {id:Nat} {opa:Array Oper} {K:ES I.C->Option R} {Q:Post}
  (h0:opsE X S fz nt opa.toList 0 opa.toList st [] (fun st' fps=>cond (Kv opa.toList fps) (K st') none)=some r0)
  (hQ: ∀st' e' lh',K st'=some r0->Vw P X ρ G st' e' lh'->Q .normal e' lh'):SW P nt (.region id opa true) Q e lh:=by
 obtain⟨zs,st',fps',z1,z2,z3,z4,z5,z6,z7⟩:=Yy (nt:=nt) (ops:=opa.toList) hI hT hS opa.toList 0 st e lh [] hv h0;obtain⟨hd,z8⟩:=zk z4;simp only[Kv,Ca,Vd]at hd;exact pE (s0:=⟨e,lh.get,lh.next⟩) hmix ⟨z1,z2⟩ (lJ (fun _=>trivial) hv z1 z5 z6 z7 hd.2) hd.1 (hQ _ _ _ z8 z3)
end
theorem ND{R:Type}{x y:Option R}{r:R}(h:both x y=some r):x=some r/\y=some r:=by
 unfold both at h
 grind
theorem TD{R:Type}{r:R}: ∀{l:List (Option R)},allB l=some r-> ∀x∈l,x=some r
 |[],h=>by cases h
 |[x],h=>fun y hy=>by rw[Fa.1 hy];exact h
 |x::z::l,h=>by
  obtain⟨h1,h2⟩:=ND h;intro y hy;rcases Ra.1 hy with e|e
  ·subst e;exact h1
  ·exact TD h2 y e
section
variable {P:Program} {nt:Nat} {ops:List Oper}
theorem OpOK.step {o:Oper} {r:RO} {s:TS} (h0:OpOK P nt ops o r s) {ι:Asg} {a:Act} {w:World} (hN:Now ι nt s.e ⟨s.next,s.get⟩ a w) {K:Act->World->Prop} {Q:Exit->Act->World->Prop}
  (hK: ∀ι' a' w',Now ι' nt (zO o r s).e ⟨(zO o r s).next,(zO o r s).get⟩ a' w'->StK s.next ι w ι' w'->K a' w'):if Region.wanted o (yielded ops.toArray a.tmps)=true then o.wp P a w K Q else K (a.put o.dst undef) w:=by
 obtain⟨c0,c1,c2⟩:=h0.run ι a w s.e s.get s.next hN.rel hN.free hN.env (fun _ _=>rfl) (fun _ _=>rfl) (fun j _=>hN.free _ (by rw[h0.nx];grind));have hnx:=h0.nx;have hdst:=h0.dst;have hfree: ∀{ι':Asg},(∀id,ι id= .free->(id<s.next\/s.next+r.k<=id)->ι' id= .free)->qH ι' (s.next+r.k):=fun hg id hid=>hg id (hN.free id (ja (Dc _ _) hid)) (.inr hid);clear h0;obtain⟨g,val,up,rd,nx,k⟩:=r;simp only at*;subst hnx;cases g with
 |none=> rw[Va (by simp[Region.wanted,c0])];exact(c2 (by simp)).wp fun v' w' ⟨ι',g1,g2,g3,g4⟩=>hK ι' _ w' ⟨g1,hfree g4,Mh (hN.env.step g3) hdst g2⟩ ⟨g3,fun id hid hf=>g4 id hf (.inl hid)⟩
 |some g=>
  have hw:=c1 g rfl;cases g with
  |true=> rw[Va hw];exact(c2 (by simp)).wp fun v' w' ⟨ι',g1,g2,g3,g4⟩=>hK ι' _ w' ⟨g1,hfree g4,Mh (hN.env.step g3) hdst (Rx g2)⟩ ⟨g3,fun id hid hf=>g4 id hf (.inl hid)⟩
  |false=> rw[Oa (by rw[hw];simp)];exact hK ι _ w ⟨hN.rel,hfree (fun id h _=>h),Mh hN.env hdst (Xy _)⟩ (StK.refl _ ι w)
variable {I:Ip} {X:Cx I} {ρ:Nat->Nat} {G:Get} {R:Type} {r0:R}
theorem MJ(hI:IpOK P I)(hT:TOK P X.T X.fk){S:List (Con I)}(hS: ∀c∈S,zm P c){fz:List Nat}{K:ES I.C->Option R}{Q:Post}(hQ: ∀st' e' lh',K st'=some r0->Vw P X ρ G st' e' lh'->Q .normal e' lh'){ι0:Asg}{w0:World}{lh0:LH}:
  ∀(fuel:Nat) (listed:Array Bool) (done:List Nat) (st:ES I.C) (e:Env) (lh:LH) (ι:Asg) (a:Act) (w:World),listed.size=ops.length->(∀j,listed.getD j false=memN j done)->(List.range ops.length).countP (fun j=> !listed.getD j false)<=fuel->
   Vw P X ρ G st e lh->anyE X S fz nt ops K fuel done st=some r0->Now ι nt e lh a w->StK lh0.next ι0 w0 ι w->lh0.next<=lh.next->
   wpAny P .any ops.toArray (fun x a' w'=> ∃ι' e' lh',Q x e' lh'/\Now ι' nt e' lh' a' w'/\StK lh0.next ι0 w0 ι' w'/\lh0.next<=lh'.next) fuel listed a w:=by
 intro fuel
 induction fuel with
 |zero=>
  intro listed done st e lh ι a w hsz hd hcnt hv h hN hst hle;refine⟨?_,?_⟩
  ·rw[Gf];intro j hj;rw[mem_ready]at hj;obtain⟨h1,o,ho,_⟩:=hj;have hjl:j<ops.length:=by
    have:ops[j]? =some o:=by simpa using ho
    exact(Ba.1 this).1
   have h0:=List.countP_eq_zero.1 (Nat.le_zero.1 hcnt) j (Pb.2 hjl)
   grind
  ·exact⟨ι,e,lh,hQ _ _ _ h hv,hN,hst,hle⟩
 |succ fuel ih=>
  intro listed done st e lh ι a w hsz hd hcnt hv h hN hst hle;have hready: ∀j,j∈Region.ready .any ops.toArray listed↔j∈Vq ops done:=by
   intro j;unfold Vq;rw[mem_ready,Sc,Pb];constructor
   ·intro ⟨h1,o,ho,hr⟩;have ho':ops[j]? =some o:=by simpa using ho
    have hjl:j<ops.length:=(Ba.1 ho').1;refine⟨hjl,?_⟩;have hS:listed.getD j false=false:=by rw[Oc,Dg (by omega)]at h1 ⊢;simpa using h1
    rw[ho',<-hd,hS];simp only[Bool.not_false,Me,La];intro i hi;simp only[direct,Da,Sc]at hi;obtain⟨ed,⟨he1,he2⟩,rfl⟩:=hi
    grind
   ·intro ⟨hjl,h1⟩;have ho':ops[j]? =some ops[j]:=Ea hjl;rw[ho',Ca]at h1;obtain⟨h1,h2⟩:=h1;simp only[La]at h2;refine⟨?_,ops[j],by simp,fun ed hed hb=> ?_⟩
    ·grind
    ·rw[hd];refine h2 ed.on ?_;simp only[direct,Da,Sc]
     grind
  simp only[anyE]at h;refine⟨fun hnil=> ?_,fun j hj=> ?_⟩
  ·have hz:Vq ops done=[]:=by rw[Gf];intro j hj;have:=(hready j).2 hj;rw[hnil]at this;simp at this
   grind
  ·have hj':=(hready j).1 hj;rw[mem_ready]at hj;obtain⟨h1,o,ho,_⟩:=hj;have ho':ops[j]? =some o:=by simpa using ho
   have hjl:j<ops.length:=(Ba.1 ho').1;have hS0:listed.getD j false=false:=by rw[Oc,Dg (by omega)]at h1 ⊢;simpa using h1
   have hS': ∀i,(listed.setIfInBounds j true).getD i false=(listed.getD i false||i==j):=by
    intro i;by_cases hij:i=j
    ·simp_all
    ·rw[getD_set_ne false (Ne.symm hij)];simp[hij]
   split at h
   ·grind
   ·have hjj:=TD h _ (Da.2 ⟨j,hj',rfl⟩);rw[ho']at hjj;simp only at hjj;split at hjj
    ·cases hjj
    ·rename_i q hg;obtain⟨res,r1,r2,r3,r4⟩:=xu (nt:=nt) (ops:=ops) hI hT hS hv hg hjj;obtain⟨hok,r5⟩:=zk r1;have hv':=Br hv hok r3 r4;have hk:=hok;simp only[xg,Ca]at hk;have hdn: ∀d,o.dst=some d->d<nt:=by intro d hd;have k1:=hk.1.1.1.1;rw[hd]at k1;simp only[Ca]at k1;exact zU.1 k1.1.1.1.1
     have hstp:=(r2 hdn).step (s:=⟨e,lh.get,lh.next⟩) hN (K:=wpAny P .any ops.toArray (fun x a' w'=> ∃ι' e' lh',Q x e' lh'/\Now ι' nt e' lh' a' w'/\StK lh0.next ι0 w0 ι' w'/\lh0.next<=lh'.next) fuel (listed.setIfInBounds j true)) (Q:=fun x a' w'=> ∃ι' e' lh',Q x e' lh'/\Now ι' nt e' lh' a' w'/\StK lh0.next ι0 w0 ι' w'/\lh0.next<=lh'.next)
      (fun ι' a' w' hN' hst'=>ih (listed.setIfInBounds j true) (j::done) _ _ _ ι' a' w' (by simpa using hsz) (fun i=>by
        rw[hS',hd];simp only[memN];by_cases hij:i=j
        ·subst hij;simp
        ·have:Nat.beq i j=false:=by
          cases hb:Nat.beq i j with
          |false=>rfl
          |true=>simp_all
         simp[this,hij]) (by
       have:=cnt_lt (l:=List.range ops.length) (p:=fun j=> !listed.getD j false) (q:=fun i=> !(listed.setIfInBounds j true).getD i false) (fun x hx=>by
        grind) (Pb.2 hjl) (by grind) (by grind)
       omega) hv' r5 hN' (hst.trans hst' hle) (ja hle (Dc _ _)))
     unfold wpOp
     grind
theorem AO (hmix:P.follows .mixedOrders=true) (hI:IpOK P I) (hT:TOK P X.T X.fk) {S:List (Con I)} (hS: ∀c∈S,zm P c) {fz:List Nat} {st:ES I.C} {e:Env} {lh:LH} (hv:Vw P X ρ G st e lh) {id:Nat} {opa:Array Oper} {K:ES I.C->Option R} {Q:Post}
  (h0:anyE X S fz nt opa.toList K opa.toList.length [] st=some r0)
  (hQ: ∀st' e' lh',K st'=some r0->Vw P X ρ G st' e' lh'->Q .normal e' lh'):SW P nt (.region id opa true) Q e lh:=by
 intro ι a w hN;refine wp_region_any hmix ?_;have st':Stp ι w ι {w with drawn:=w.drawn+1}:=⟨rfl,rfl,rfl,Ma _,fun _ _ h=>h,fun _ h=>h,fun _ _=>rfl,fun _ _=> .inl rfl⟩;have hS0: ∀j,(Array.replicate opa.size false).getD j false=false:=by intro j;rw[Oc,Array.getElem?_replicate];split<;>rfl
 have hN1:Now ι nt e lh a {w with drawn:=w.drawn+1}:=
  ⟨⟨fun id o ho=>let⟨b,h1,h2⟩:=hN.rel.live id o ho;⟨b,h1,h2.step st' (fun _ _=>rfl)⟩,hN.rel.gone,hN.rel.inj,hN.rel.glob.step st'⟩,hN.free,hN.env.step st'⟩
 have:=MJ (ops:=opa.toList) hI hT hS hQ (ι0:=ι) (w0:=w) (lh0:=lh) opa.toList.length (Array.replicate opa.size false) [] st e lh ι a {w with drawn:=w.drawn+1} (by simp) (fun j=>by rw[hS0];rfl)
  (by simp_all) hv h0 hN1 ⟨st',fun id _ h=>h⟩ (Ma _)
 simpa using this
end
section
variable {P:Program} {nt:Nat} {ops:List Oper} {I:Ip} {X:Cx I} {ρ:Nat->Nat} {G:Get} {R:Type} {r0:R}
theorem nD{o:Oper}{w:Bool}{t:TypeId}{x:Operand}(h:Hm o=some (w,t,x)):(∃d,o.dst=some d)/\o.guard=none/\ ∃u,o.op= .binOp (cond w .eql .neq) t x (.const (.slice none 0 0)) u:=by
 unfold Hm at h
 grind
theorem MC{ι:Asg}{w0:World}{get:Get}{a:Act}{o:Oper}{w:Bool}{t:TypeId}{x:Operand}{v:Value}{e:TypeId}(hR:Rel ι get w0)(h:Hm o=some (w,t,x))(hk:kdOf P t= .sl e)(hv:a.eval x=v){ad:Option Addr}{n c:Nat}(hs:v= .slice ad n c)(nx:Nat):
  Runs P a o w0 (Good ι w0 get nx 0 (.v (.c (.p (.at (.bool (cond w ad.isNone !ad.isNone)))))) []):=by
 obtain⟨⟨d,h1⟩,h2,u,h3⟩:=nD h;subst hs;have hun:=Ye hk;refine .inl ⟨.bool (cond w ad.isNone !ad.isNone),w0,?_,qw hR (Qs _)⟩;have hc:a.eval (.const (.slice none 0 0))= .slice none 0 0:=rfl;cases w with
 |true=> have hg:=wB (P:=P) (w:=w0) .eql t x (.const (.slice none 0 0)) ad none n c 0 0;have hb:=Lib.run_eql_slice_nil (P:=P) w0 t e ad n c 0 0 hun;simp[execOp,h3,hv,hc,Sem.run_bind,hg,hb]
 |false=> have hg:=wB (P:=P) (w:=w0) .neq t x (.const (.slice none 0 0)) ad none n c 0 0;have hb:=run_neq_slice_nil_any (P:=P) w0 t e ad n c 0 0 hun;simp[execOp,h3,hv,hc,Sem.run_bind,hg,hb]
theorem Wv(hI:IpOK P I)(hT:TOK P X.T X.fk){S:List (Con I)}(hS: ∀c∈S,zm P c){fz:List Nat}{K:ES I.C->Option R}{Q:Post}(hQ: ∀st' e' lh',K st'=some r0->Vw P X ρ G st' e' lh'->Q .normal e' lh'){ι0:Asg}{w0:World}{lh0:LH}:
  ∀(l:List Oper) (j:Nat) (st:ES I.C) (e:Env) (lh:LH) (ι:Asg) (a:Act) (w:World),Vw P X ρ G st e lh->seqN X S fz nt ops K j l st=some r0->Now ι nt e lh a w->StK lh0.next ι0 w0 ι w->lh0.next<=lh.next->
   wpList P ops.toArray (fun x a' w'=> ∃ι' e' lh',Q x e' lh'/\Now ι' nt e' lh' a' w'/\StK lh0.next ι0 w0 ι' w'/\lh0.next<=lh'.next) l a w
 |[],j,st,e,lh,ι,a,w,hv,h,hN,hst,hle=>⟨ι,e,lh,hQ _ _ _ h hv,hN,hst,hle⟩
 |o::r,j,st,e,lh,ι,a,w,hv,h,hN,hst,hle=>by
  refine wpList_step fun K' hKK=> ?_;simp only[seqN]at h;split at h
  ·rename_i wb t x hno;obtain⟨⟨d,hd1⟩,hg1,u,hop⟩:=nD hno;rw[Va (by simp[Region.wanted,hg1])]
   -- whatever the test says, the rest is well
   have main: ∀b:Bool,cond (xg X nt o [] st (okV (.bool b))) (seqN X S fz nt ops K (j+1) r (Pg o [] st (okV (.bool b)))) none=some r0->Runs P a o w (Good ι w lh.get lh.next 0 (.v (.c (.p (.at (.bool b))))) [])->o.wp P a w K' (fun x a' w'=> ∃ι' e' lh',Q x e' lh'/\Now ι' nt e' lh' a' w'/\StK lh0.next ι0 w0 ι' w'/\lh0.next<=lh'.next):=by
    intro b hb hrun;obtain⟨hok,r5⟩:=zk hb;have hv':=Br (P:=P) (q:=[]) (res:=okV (.bool b)) hv hok (fun p hp=>by cases hp) (fun hf=>by cases hf);have hk:=hok;simp only[xg,Ca]at hk;have hdn: ∀d,o.dst=some d->d<nt:=by intro d hd;have k1:=hk.1.1.1.1;rw[hd]at k1;simp only[Ca]at k1;exact zU.1 k1.1.1.1.1
    refine hrun.wp fun v' w' ⟨ι',g1,g2,g3,g4⟩=>hKK _ _ ?_;have hfr:qH ι' lh.next:=fun id hid=>g4 id (hN.free id hid) (.inr (by simpa using hid));have hN':=Mh (hN.env.step g3) hdn g2;exact Wv hI hT hS hQ r (j+1) _ _ _ ι' _ w' hv' r5 ⟨g1,hfr,hN'⟩ (hst.trans ⟨g3,fun id hid hf=>g4 id hf (.inl hid)⟩ hle) hle
   unfold nilE at h;split at h
   ·rename_i e' u' l hk hx;have hkd:=ZE hT hk (by simp);have hrep:=zA (Uo hN.env) x;have hop2:opd (zS e) x= .v (.c (.p (.sl (l.map (I.full u'))))):=Al (q:=[]) hv (.inl rfl) x (.c (.sl u' l)) (by rw[hx];rfl);rw[hop2]at hrep;have hrep':RepP (Dom ι w) w (.sl (l.map (I.full u'))) (a.eval x):=hrep.2;generalize hav:a.eval x=av at hrep';cases hrep' with
    |sl rows ad n c k b o' val hn hc ha hD hk' hv' hr=>
     have hruns:=MC (P:=P) (nx:=lh.next) hN.rel hno hkd hav rfl;cases hl:l with
     |nil=>
      rw[hl]at h;simp only[List.isEmpty_nil,Bc]at h;obtain⟨h1,h2⟩:=ND h;cases ad with
      |none=>grind
      |some ad=>grind
     |cons z l'=>
      grind
   ·rename_i e' hk hx;have hkd:=ZE hT hk (by simp);have hrep:=zA (Uo hN.env) x;have hop2:opd (zS e) x= .v (.c (.p (.at (.slice none 0 0)))):=Al (q:=[]) hv (.inl rfl) x (.c .nil) (by rw[hx];rfl);rw[hop2]at hrep;have hrep':RepP (Dom ι w) w (.at (.slice none 0 0)) (a.eval x):=hrep.2;generalize hav:a.eval x=av at hrep';cases hrep';have hruns:=MC (P:=P) (nx:=lh.next) hN.rel hno hkd hav rfl;exact main wb h (by simpa using hruns)
   ·cases h
  ·split at h
   ·cases h
   ·rename_i q hg;obtain⟨res,r1,r2,r3,r4⟩:=xu (nt:=nt) (ops:=ops) hI hT hS hv hg h;obtain⟨hok,r5⟩:=zk r1;have hv':=Br hv hok r3 r4;have hk:=hok;simp only[xg,Ca]at hk;have hdn: ∀d,o.dst=some d->d<nt:=by intro d hd;have k1:=hk.1.1.1.1;rw[hd]at k1;simp only[Ca]at k1;exact zU.1 k1.1.1.1.1
    exact(r2 hdn).step (s:=⟨e,lh.get,lh.next⟩) hN (K:=K') (Q:=fun x a' w'=> ∃ι' e' lh',Q x e' lh'/\Now ι' nt e' lh' a' w'/\StK lh0.next ι0 w0 ι' w'/\lh0.next<=lh'.next)
     (fun ι' a' w' hN' hst'=>hKK _ _ (Wv hI hT hS hQ r (j+1) _ _ _ ι' a' w' hv' r5 hN' (hst.trans hst' hle) (ja hle (Dc _ _))))
theorem yN (hI:IpOK P I) (hT:TOK P X.T X.fk) {S:List (Con I)} (hS: ∀c∈S,zm P c) {fz:List Nat} {st:ES I.C} {e:Env} {lh:LH} (hv:Vw P X ρ G st e lh) {id:Nat} {opa:Array Oper} {K:ES I.C->Option R} {Q:Post}
  (h0:seqN X S fz nt opa.toList K 0 opa.toList st=some r0)
  (hQ: ∀st' e' lh',K st'=some r0->Vw P X ρ G st' e' lh'->Q .normal e' lh'):SW P nt (.region id opa false) Q e lh:=by
 intro ι a w hN;refine wp_region_list ?_;have:=Wv (ops:=opa.toList) hI hT hS hQ (ι0:=ι) (w0:=w) (lh0:=lh) opa.toList 0 st e lh ι a w hv h0 hN (StK.refl _ ι w) (Ma _);simp_all
end
end Go.Lv
