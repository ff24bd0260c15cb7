/- That the evaluator is right: an operation at its place in a region. -/
import Derived.Test.YtcdeccnjlkkejaaGreatDoorLc
import Derived.WalkSpells
import Derived.Lib.SliceRun
set_option linter.unusedSimpArgs false
set_option linter.unusedVariables false
namespace Go.Lv
structure Vw {I:Ip} (P:Program) (X:Cx I) (ρ:Nat->Nat) (G:Get) (st:ES I.C) (e:Env) (lh:LH):Prop where
 env: ∀t,look e t=(match lkE X st t with|some x=>trL ρ (lkO X st) (lkE X st) x|none=> .any)
 heap: ∀id o,lkO X st id=some o->lh.get (ρ id)=trO P ρ (lkO X st) o
 oth: ∀i,G i≠none->lh.get i=G i/\ ∀id o,lkO X st id=some o->ρ id≠i
 inj: ∀i j o o',lkO X st i=some o->lkO X st j=some o'->ρ i=ρ j->i=j
 lt: ∀id,id<st.next->ρ id<lh.next
 up: ∀id,st.next<=id->ρ id=lh.next+(id - st.next)
 fre: ∀t x,lk X.frm t=some x->lkE X st t=some x/\Dz x=true
 fro: ∀i o,lk X.frh i=some o->lkO X st i=some o
 glt: ∀i,G i≠none->i<lh.next
 wfe: ∀t x,lkE X st t=some x->wfL st.next x=true
 wfh: ∀id o,lkO X st id=some o->id<st.next/\wfO st.next o=true
def unopt:LV->LV
 | .opt true t=> .v t
 |x=>x
def Zh(e:Env):Env:=e.map fun p=>(p.1,unopt p.2)
theorem Vo: ∀(e:Env) (t:Nat),look (Zh e) t=unopt (look e t)
 |[],t=>rfl
 |(j,x)::r,t=>by
  simp only[Zh,ja,look];split
  ·rfl
  ·exact Vo r t
theorem jX{ι:Asg}{w:World}{x:LV}{v:Value}(h:repL ι w x v):repL ι w (unopt x) v:=by
 unfold unopt;split
 ·exact h.1 rfl
 ·exact h
theorem ww{ι:Asg}{w:World}{nt:Nat}{e:Env}{a:Act}(h:Qo ι w nt e a):Qo ι w nt (Zh e) a:=
 ⟨h.size,h.defers,fun i=>by rw[Vo];exact jX (h.rep i)⟩
section
variable {P:Program} {I:Ip} {X:Cx I} {ρ:Nat->Nat} {G:Get} {st:ES I.C} {e:Env} {lh:LH} {q:Path}
theorem VO{E:Nat->Option (EL I.C)}{a:Nat×Bool}: ∀{q:Path},qx E q=true->memK a q=true->litB a.2 (Dh E a.1)=true
 |[],_,h=>by cases h
 |b::r,g,h=>by
  have i:litB b.2 (Dh E b.1)=true/\(r=[]\/qx E r=true):=by
   obtain⟨t,w⟩:=b;cases r with
   |nil=>exact⟨g, .inl rfl⟩
   |cons c r=>simp only[qx,Ca]at g;grind
  simp only[memK]at h;cases f:beqK a b with
  |true=>
   simp only[beqK,Ca]at f;have j:=Cb f.1
   grind
  |false=>
   rw[f]at h;rcases i.2 with d|d
   ·subst d;cases h
   ·exact VO d h
theorem XC{E:Nat->Option (EL I.C)}: ∀{p q:Path},qx E q=true->subK p q=true->qx E p=true
 |[],q,_,_=>rfl
 |a::r,q,f,h=>by
  simp only[subK]at h;obtain⟨d,j⟩:=zk (R:=Unit) (x:=some ()) (r0:=()) (b:=memK a q&&subK r q) (by
   grind)
  rw[Ca]at d;have g:=VO f d.1;have i:=XC f d.2;obtain⟨t,w⟩:=a;cases r with
  |nil=>exact g
  |cons c r=>simp only[qx,Ca];grind
theorem rM{b:Path}(h:subK b []=true):b=[]:=by
 cases b with
 |nil=>rfl
 |cons a r=>cases h
theorem zAo{I:Ip}{q:Path}{x:EL I.C}{t:ET I.C}(h:useE [] x=some t):useE q x=some t:=by
 cases x with
 |v u=>exact h
 |opt b u=>
  simp only[useE]at h ⊢;cases a:subK b []with
  |true=>rw[a]at h;rw[rM a];exact h
  |false=>grind
 |any=>cases h
 |tup c=>cases h
theorem BH{E:Nat->Option (EL I.C)}{x:EL I.C}{t:ET I.C}(b:q=[]\/qx E q=true)(hu:useE q x=some t):x= .v t\/ ∃a,x= .opt a t/\qx E a=true:=by
 unfold useE at hu;split at hu
 ·grind
 ·rename_i a f;obtain⟨d,c⟩:=zk hu;injection c with c;subst c;refine .inr ⟨a,rfl,?_⟩;rcases b with rfl|b
  ·rw[rM d];rfl
  ·exact XC b d
 ·cases hu
theorem bQ{E:Nat->Option (EL I.C)}{h:Nat->Option (EO I.C)}(v:Value)(a:(Mj v:EL I.C)≠ .any):ll v=trL ρ h E (Mj v):=by
 cases v with
 |agg b=>
  simp only[Mj]at a ⊢;cases d:b.all (·.oneCell')with
  |false=>grind
  |true=> simp only[Ea,ll,d,yc,trL,trT,Ob];congr 2;exact Na fun u _=>(vH (ρ:=ρ) (h:=h) u).symm
 |tuple b=>exact absurd rfl a
 |_=>exact congrArg (fun x=>LV.v (TV.c x)) (vH (ρ:=ρ) (h:=h) _).symm
theorem Hr(hv:Vw P X ρ G st e lh)(hq:q=[]\/qx (lkE X st) q=true)(x:Operand)(t:ET I.C)(hu:useE q (opdE X st x)=some t):opd (Zh e) x= .v (trT ρ (lkO X st) t):=by
 cases x with
 |tmp i=>
  simp only[opd,Vo,hv.env i];simp only[opdE]at hu;cases hl:lkE X st i with
  |none=>rw[hl]at hu;cases hu
  |some y=>
   rw[hl]at hu;simp only at hu;rcases BH hq hu with h1|⟨ks,h1,h2⟩
   ·have:=yz (ρ:=ρ) (h:=lkO X st) (e:=lkE X st) y;rw[h1]at this;simp only;rw[<-this];rfl
   ·have:=yz (ρ:=ρ) (h:=lkO X st) (e:=lkE X st) y;rw[h1]at this;simp only;rw[<-this];simp[trL,h2,unopt]
 |const v=>
  simp only[opdE]at hu;have hne:(Mj v:EL I.C)≠ .any:=fun h=>by rw[h]at hu;cases hu
  rw[show opd (Zh e) (.const v)=ll v from rfl,bQ (ρ:=ρ) (E:=lkE X st) (h:=lkO X st) v hne];rcases BH hq hu with h1|⟨ks,h1,h2⟩
  ·rw[h1];rfl
  ·exfalso;cases v<;>first|(simp[Mj]at h1;done)|skip
   simp only[Mj]at h1
   grind
 |global g=>cases hu
 |func f=> simp only[opdE,useE,Option.some.injEq]at hu;subst hu;rfl
theorem RF(b:Vw P X ρ G st e lh)(x:Operand)(ts:List (ET I.C))(hu:opdE X st x= .tup ts):opd (Zh e) x= .tup (ts.map (trT ρ (lkO X st))):=by
 cases x with
 |tmp i=>
  simp only[opd,Vo,b.env i];simp only[opdE]at hu;cases a:lkE X st i with
  |none=>grind
  |some y=> rw[a]at hu;simp only at hu ⊢;rw[<-yz (ρ:=ρ) (h:=lkO X st) (e:=lkE X st) y,hu];rfl
 |const v=>
  exfalso;simp only[opdE]at hu;cases v<;>first|(simp[Mj]at hu;done)|skip
  simp only[Mj]at hu
  grind
 |global g=>cases hu
 |func f=>cases hu
theorem xB(n:Vw P X ρ G st e lh)(x:Operand){l:Path}{b:Bool}(a:Uu (opdE X st x)=some (l,b)):Pj (opd (Zh e) x)=(qx (lkE X st) l,some b):=by
 have k: ∀y:LV,∀c d,Pj y=(c,some d)->Pj (unopt y)=(c,some d):=by
  intro y c d h;cases y with
  |opt g t=>
   cases g with
   |true=>exact h
   |false=>exact h
  |_=>exact h
 cases x with
 |tmp i=>
  simp only[opd,Vo,n.env i];simp only[opdE]at a;cases m:lkE X st i with
  |none=>rw[m]at a;cases a
  |some y=> rw[m]at a;refine k _ _ _ ?_;simp only;rw[<-yz (ρ:=ρ) (h:=lkO X st) (e:=lkE X st) y];exact fP a
 |const v=>
  simp only[opdE]at a;have j:(Mj v:EL I.C)≠ .any:=fun h=>by rw[h]at a;cases a
  rw[show opd (Zh e) (.const v)=ll v from rfl,bQ (ρ:=ρ) (E:=lkE X st) (h:=lkO X st) v j];exact fP a
 |global g=>cases a
 |func f=>cases a
theorem nL{h:Nat->Option (EO I.C)}{n:Nat}{x:EV I.C}(a:wfV n x=true):wfV n (nrmV h x)=true:=by
 cases x<;>simp only[nrmV]<;>first|exact a|skip
 split
 ·rfl
 ·exact a
theorem TF{h:Nat->Option (EO I.C)}{n:Nat}{x:ET I.C}(a:wfT n x=true):wfT n (nrmT h x)=true:=by
 cases x with
 |c x=>exact nL a
 |agg d=> simp only[nrmT,wfT,Ta,Ka]at a ⊢;rintro _ ⟨y,b,rfl⟩;exact nL (a y b)
theorem aQ(n:Nat)(v:Value):wfV n (dn v:EV I.C)=true:=by unfold dn;split<;>rfl
theorem zDq(k:Vw P X ρ G st e lh)(x:Operand)(t:ET I.C)(hu:useE q (opdE X st x)=some t):wfT st.next t=true:=by
 have a: ∀y:EL I.C,wfL st.next y=true->useE q y=some t->wfT st.next t=true:=by
  intro y b hu;unfold useE at hu;split at hu
  ·injection hu with hu;subst hu;exact b
  ·obtain⟨n,j⟩:=zk hu;injection j with j;subst j;exact b
  ·cases hu
 cases x with
 |tmp i=>
  simp only[opdE]at hu;cases h:lkE X st i with
  |none=>rw[h]at hu;cases hu
  |some y=>
   rw[h]at hu;have d:=k.wfe i y h;refine a _ ?_ hu;cases y with
   |any=>rfl
   |v t=>exact TF d
   |opt m t=>exact TF (x:=t) d
   |tup o=> simp only[nrmL,wfL,Ta,Ka]at d ⊢;rintro _ ⟨y,b,rfl⟩;exact TF (d y b)
 |const v=>
  refine a _ ?_ hu;cases v<;>simp only[opdE,Mj]<;>first|rfl|exact aQ _ _|skip
  rename_i l;cases p:l.all (·.oneCell')
  ·rfl
  ·simp only[Ea,wfL,wfT,Ta,Ka];rintro _ ⟨y,b,rfl⟩;exact aQ _ _
 |global g=>cases hu
 |func f=> refine a (.v (.c (.clo f []))) rfl hu
end
section
variable {P:Program} {I:Ip} {T:TT} {fk:List (Nat×List Kd)} {ρ:Nat->Nat} {h:Nat->Option (EO I.C)} {e:Nat->Option (EL I.C)} {get:Get} {nx:Nat} {R:Type} {r0:R} {q:Path} {g:Bool} {K:Kt I R}
theorem QC{b:Bool}{x:Option R}(h:Yg q g b x=some r0):x=some r0:=by
 unfold Yg at h;split at h
 ·exact(Zk h).2
 ·exact(Zk h).2
theorem fB{α:Type}{c:Option α}{d:α}{f:α->Option R}(h:bndG q g c d f=some r0): ∃x,f x=some r0:=by
 unfold bndG at h;split at h
 ·obtain⟨x,_,h2⟩:=Ba.1 h;exact⟨x,h2⟩
 ·obtain⟨x,_,h2⟩:=Ba.1 h;exact⟨x,h2⟩
def AnyR(q:Path)(K:Kt I R)(r0:R):Prop:= ∃res,K res=some r0/\(q=[]\/res.up=[])
theorem any_ok{res:OR I.C}(h:K res=some r0)(hu:res.up=[]):AnyR q K r0:=⟨res,h, .inr hu⟩
theorem kW{op:BinOp}{k:IntKind}{x y:Int}(h0:intE op k x y q g K=some r0):AnyR q K r0:=by cases op<;>simp only[intE]at h0<;>first|exact any_ok h0 rfl|exact any_ok (QC h0) rfl
theorem UX{op:BinOp}{l m:List UInt8}(h0:strE op l m q g K=some r0):AnyR q K r0:=by cases op<;>simp only[strE]at h0<;>first|(cases h0;done)|exact any_ok h0 rfl|exact any_ok (QC h0) rfl
theorem IY{fk:Option (List Kd)}{kd:Kd}{op:BinOp}{a b:ET I.C}(h0:binE fk kd op a b q g K=some r0):AnyR q K r0:=by
 unfold binE at h0;split at h0
 ·exact kW (zk h0).2
 ·exact UX h0
 ·split at h0<;>first|(cases h0;done)|exact any_ok h0 rfl
 ·split at h0<;>first|(cases h0;done)|(obtain⟨_,_,h1⟩:=zl h0;exact any_ok h1 rfl)
 ·split at h0<;>first|(cases h0;done)|exact any_ok h0 rfl
 ·split at h0<;>first|(cases h0;done)|exact any_ok h0 rfl
 ·cases h0
theorem zCw{op:UnOp}{a:ET I.C}(h0:unE op a K=some r0):AnyR q K r0:=by unfold unE at h0;split at h0<;>first|(cases h0;done)|exact any_ok h0 rfl
theorem eY{c:Operand}{vc a b:EL I.C}(h0:uy c vc a b q K=some r0):AnyR q K r0:=by
 unfold uy at h0;split at h0
 ·exact any_ok (zk h0).2 rfl
 ·exact any_ok h0 rfl
 ·cases h0
theorem J5{E:Operand->EL I.C}{t:Nat}{ps:List (Nat×Operand)}(h0:Bv T E q t ps K=some r0):AnyR q K r0:=by
 unfold Bv at h0;split at h0
 ·cases h0
 ·split at h0
  ·obtain⟨_,_,h1⟩:=zl h0;exact any_ok (zk h1).2 rfl
  ·obtain⟨_,_,h1⟩:=zl h0;exact any_ok (zk h1).2 rfl
  ·cases h0
theorem zky{E:Operand->EL I.C}{fz:Nat}{n t len:Nat}{ps:List (Nat×Operand)}(h0:Ey T E q fz n t len ps K=some r0):AnyR q K r0:=by
 unfold Ey at h0;split at h0
 ·split at h0
  ·obtain⟨_,h1⟩:=zk h0;rw[SI]at h1;obtain⟨_,_,h2⟩:=Ba.1 h1;split at h2
   ·exact any_ok h2 rfl
   ·exact⟨_,h2, .inl rfl⟩
   ·exact⟨_,(zk h2).2, .inl rfl⟩
   ·cases h2
  ·cases h0
 ·cases h0
theorem XZ{i:TI}{a:ET I.C}(h0:Ju i h a q g K=some r0):AnyR q K r0:=by
 unfold Ju at h0;split at h0
 ·split at h0
  ·obtain⟨_,h1⟩:=zk h0;obtain⟨_,_,h2⟩:=zl h1;exact any_ok h2 rfl
  ·obtain⟨_,h1⟩:=fB h0;obtain⟨_,_,h2⟩:=zl h1;exact any_ok h2 rfl
  ·obtain⟨_,_,h1⟩:=zl h0;exact any_ok (QC h1) rfl
  ·cases h0
 ·obtain⟨_,_,h2⟩:=zl h0;exact any_ok h2 rfl
 ·cases h0
theorem uZ{i:TI}{a x:ET I.C}(h0:bu i h a x q K=some r0):AnyR q K r0:=by
 unfold bu at h0;split at h0
 ·split at h0
  ·exact⟨_,(zk h0).2, .inl rfl⟩
  ·obtain⟨_,_,h1⟩:=Ba.1 h0;obtain⟨_,h2⟩:=zk h1;cases hpl:x.cells.all kE with
   |true=> rw[hpl]at h2;obtain⟨_,_,h3⟩:=Ba.1 h2;exact⟨_,h3, .inl rfl⟩
   |false=> rw[hpl]at h2;exact⟨_,h2, .inl rfl⟩
  ·exact⟨_,(Zk (zk h0).2).2, .inl rfl⟩
  ·cases h0
 ·cases h0
theorem zmq{t f:Nat}{x:ET I.C}(h0:Vx T h t x f K=some r0):AnyR q K r0:=by
 unfold Vx at h0;split at h0
 ·split at h0
  ·split at h0
   ·split at h0
    ·exact any_ok (zk h0).2 rfl
    ·exact any_ok (zk h0).2 rfl
    ·exact any_ok (zk h0).2 rfl
    ·cases h0
   ·exact any_ok (zk h0).2 rfl
   ·cases h0
  ·cases h0
 ·cases h0
theorem U4{t f:Nat}{x:ET I.C}(h0:Dv T t x f K=some r0):AnyR q K r0:=by
 unfold Dv at h0;split at h0
 ·split at h0
  ·split at h0
   ·obtain⟨_,_,h2⟩:=zl h0;exact any_ok h2 rfl
   ·cases h0
  ·cases h0
 ·cases h0
theorem zmt{t:Nat}{x i:ET I.C}(h0:Px T h t x i q g K=some r0):AnyR q K r0:=by
 unfold Px at h0;split at h0
 ·split at h0
  ·obtain⟨_,h1⟩:=zk h0;obtain⟨_,h2⟩:=fB h1;exact any_ok h2 rfl
  ·split at h0
   ·exact any_ok (QC (zk h0).2) rfl
   ·exact any_ok (QC (zk h0).2) rfl
   ·cases h0
  ·split at h0
   ·exact any_ok (QC (zk h0).2) rfl
   ·cases h0
  ·cases h0
 ·cases h0
theorem I6{t:Nat}{x i:ET I.C}(h0:nu T t x i q g K=some r0):AnyR q K r0:=by
 unfold nu at h0;split at h0
 ·split at h0
  ·obtain⟨_,h2⟩:=fB h0;exact any_ok h2 rfl
  ·split at h0
   ·obtain⟨_,h1⟩:=zk h0;obtain⟨_,h2⟩:=fB h1;exact any_ok h2 rfl
   ·cases h0
  ·cases h0
 ·cases h0
theorem yZ{t:Nat}{x:ET I.C}{lo hi mx:Option Int}(h0:cu T h t x lo hi mx q g K=some r0):AnyR q K r0:=by
 unfold cu at h0;split at h0
 ·split at h0
  ·exact any_ok (QC h0) rfl
  ·cases h0
 ·obtain⟨_,h1⟩:=zk h0;split at h1
  ·exact any_ok (QC h1) rfl
  ·split at h1
   ·exact any_ok (QC h1) rfl
   ·cases h1
 ·exact any_ok (QC (zk h0).2) rfl
 ·split at h0
  ·exact any_ok (QC (zk h0).2) rfl
  ·cases h0
 ·cases h0
theorem YW{kd:Kd}{x:ET I.C}(h0:lenE kd h x K=some r0):AnyR q K r0:=by
 unfold lenE at h0;split at h0<;>first|exact any_ok h0 rfl|skip
 ·split at h0
  ·exact any_ok h0 rfl
  ·exact any_ok h0 rfl
  ·cases h0
 ·split at h0
  ·exact any_ok h0 rfl
  ·cases h0
 ·cases h0
theorem uS{mx:Bool}{k:IntKind}: ∀(as:List (ET I.C)) (m:Int),Js mx k K m as=some r0->AnyR q K r0
 |[],m,h0=>any_ok h0 rfl
 | .agg xs::r,m,h0=>by cases h0
 | .c x::r,m,h0=>by
  cases x<;>first|(cases h0;done)|skip
  simp only[Js]at h0;exact uS r _ (zk h0).2
theorem kQ{mx:Bool}{as:List (ET I.C)}(h0:Kr mx as K=some r0):AnyR q K r0:=by
 unfold Kr at h0;split at h0
 ·exact uS _ _ h0
 ·cases h0
theorem O8{n e:Nat}{s:ET I.C}{z:Nat×List (I.C e)×List (EV I.C)×List (I.C e)}(h0:jv T h n e s z K=some r0): ∃res,K res=some r0:=by
 unfold jv at h0;split at h0
 ·exact⟨_,(Zk h0).2⟩
 ·split at h0
  ·split at h0
   ·exact⟨_,(Zk h0).2⟩
   ·cases h0
  ·cases h0
 ·cases h0
theorem R8{n ts tx:Nat}{s x:ET I.C}(h0:lv T h n ts tx s x q K=some r0):AnyR q K r0:=by
 unfold lv at h0;split at h0
 ·split at h0
  ·obtain⟨res,h1⟩:=O8 (zk h0).2;exact⟨res,h1, .inl rfl⟩
  obtain⟨_,h1⟩:=zk h0;split at h1
  ·split at h1
   ·exact⟨_,(Zk (Zk h1).2).2, .inl rfl⟩
   ·split at h1
    ·split at h1
     ·exact⟨_,(Zk (Zk h1).2).2, .inl rfl⟩
     ·cases h1
    ·cases h1
   ·split at h1
    ·exact⟨_,(Zk (Zk h1).2).2, .inl rfl⟩
    ·cases h1
   ·cases h1
  ·cases h1
 ·cases h0
theorem I4{n src dst:Nat}{x:ET I.C}(h0:Wu T h n src dst x q g K=some r0):AnyR q K r0:=by
 unfold Wu at h0;split at h0
 ·split at h0
  ·cases h0
  ·exact any_ok h0 rfl
 ·split at h0
  ·cases h0
  ·exact any_ok h0 rfl
 ·split at h0
  ·exact⟨_,(Zk (zk h0).2).2, .inl rfl⟩
  ·cases h0
 ·split at h0
  ·exact⟨_,(zk h0).2, .inl rfl⟩
  ·cases h0
 ·split at h0
  ·obtain⟨_,h1⟩:=zk h0;split at h1
   ·exact any_ok (QC h1) rfl
   ·cases h1
  ·cases h0
 ·cases h0
theorem PZ{n t:Nat}{l c:ET I.C}(h0:Iu T n t l c q K=some r0):AnyR q K r0:=by
 unfold Iu at h0;split at h0
 ·obtain⟨_,h1⟩:=zk h0;obtain⟨_,h2⟩:=Zk h1;obtain⟨_,_,h3⟩:=Ba.1 h2;exact⟨_,h3, .inl rfl⟩
 ·cases h0
theorem zoC{x:ET I.C}(h0:sw h x K=some r0):AnyR q K r0:=by
 unfold sw at h0;split at h0
 ·split at h0
  ·exact any_ok h0 rfl
  ·exact any_ok h0 rfl
  ·exact any_ok h0 rfl
  ·cases h0
 ·exact any_ok h0 rfl
 ·exact any_ok h0 rfl
 ·cases h0
theorem Y1{con:Con I}{n:Nat}{x:(con.inS.sl I).T}{m:Mp}(h0:Nz con h n x m q g K=some r0)(hg:q=[]\/g=false):AnyR q K r0:=by
 unfold Nz at h0;split at h0
 case h_2=>cases h0
 split at h0
 ·obtain⟨_,_,h1⟩:=Ba.1 h0;exact⟨_,h1, .inl rfl⟩
 ·rename_i hne ho hgo hse;obtain⟨_,h1⟩:=zk h0;obtain⟨y,_,h2⟩:=Ba.1 h1;refine⟨_,h2, .inr ?_⟩;simp only[lg,hgo,hse,Bb,Oc,List.map_eq_nil_iff];have key: ∀(s:StSh) (y:(s.sl I).T),s.objs=[]->((s.sl I).enc y).2=[]:=by intro s y hs;obtain⟨vals,objs⟩:=s;simp only at hs;subst hs;revert y;unfold StSh.sl;cases (vlOf I vals).u<;>intro y<;>rfl
  exact key _ y ho
 ·rcases hg with hg|hg
  ·simp_all
  ·subst hg;exact any_ok h0 rfl
theorem kH{n f:Nat}{as:List (ET I.C)}(hg:q=[]\/g=false): ∀{S:List (Con I)},Vl h n f as q g K S=some r0->AnyR q K r0
 |[],h0=>by cases h0
 |con::r,h0=>by
  simp only[Vl]at h0;cases hb:Nat.beq con.f f with
  |false=>rw[hb]at h0;exact kH hg h0
  |true=>
   rw[hb]at h0;simp only[Ea]at h0;split at h0
   ·exact Y1 h0 hg
   ·exact kH hg h0
theorem zB4{X:Cx I}{S:List (Con I)}{fz:Nat}{st:ES I.C}{op:Op}(hg:q=[]\/g=false)(h0:opE X S fz st q g op K=some r0):AnyR q K r0:=by
 cases op<;>simp only[opE]at h0<;>(try (cases h0;done))
 case move x=>obtain⟨_,_,h1⟩:=zl h0;exact any_ok h1 rfl
 case assign x=>obtain⟨_,_,h1⟩:=zl h0;exact any_ok h1 rfl
 case pick=>exact eY h0
 case alloc=>
  split at h0
  ·exact⟨_,(zk h0).2, .inl rfl⟩
  ·cases h0
 case box=>
  split at h0
  ·obtain⟨_,_,h1⟩:=zl h0;exact⟨_,(zk h1).2, .inl rfl⟩
  ·cases h0
 case build=>exact J5 h0
 case buildSlice=>exact zky h0
 case load=>obtain⟨_,_,h1⟩:=zl h0;exact XZ h1
 case store=>obtain⟨_,_,h1⟩:=zl h0;obtain⟨_,_,h2⟩:=zl h1;exact uZ h2
 case nilCheck=>obtain⟨_,_,h1⟩:=zl h0;exact zoC h1
 case binOp=>obtain⟨_,_,h1⟩:=zl h0;obtain⟨_,_,h2⟩:=zl h1;exact IY h2
 case unOp=>obtain⟨_,_,h1⟩:=zl h0;exact zCw h1
 case convert=>obtain⟨_,_,h1⟩:=zl h0;exact I4 h1
 case makeFunc fn first caps=>
  cases fn<;>simp only[opE]at h0<;>(try (cases h0;done));split at h0
  ·obtain⟨_,_,h1⟩:=zl h0;exact any_ok h1 rfl
  ·cases h0
 case makeSlice=>obtain⟨_,_,h1⟩:=zl h0;obtain⟨_,_,h2⟩:=zl h1;exact PZ h2
 case slice=>obtain⟨_,_,h1⟩:=zl h0;obtain⟨_,_,h2⟩:=zl h1;obtain⟨_,_,h3⟩:=zl h2;obtain⟨_,_,h4⟩:=zl h3;exact yZ h4
 case fieldAddr=>obtain⟨_,_,h1⟩:=zl h0;exact zmq h1
 case field=>obtain⟨_,_,h1⟩:=zl h0;exact U4 h1
 case indexAddr=>obtain⟨_,_,h1⟩:=zl h0;obtain⟨_,_,h2⟩:=zl h1;exact zmt h2
 case index=>obtain⟨_,_,h1⟩:=zl h0;obtain⟨_,_,h2⟩:=zl h1;exact I6 h2
 case extract=>
  split at h0
  ·obtain⟨_,_,h1⟩:=zl h0;exact any_ok h1 rfl
  ·cases h0
 case call c=>
  split at h0
  ·obtain⟨_,_,h1⟩:=zl h0;obtain⟨_,_,h2⟩:=zl h1;exact kH hg h2
  ·split at h0
   ·obtain⟨_,_,h1⟩:=zl h0;exact YW h1
   ·cases h0
  ·split at h0
   ·obtain⟨_,_,h1⟩:=zl h0;obtain⟨_,_,h2⟩:=zl h1;exact R8 h2
   ·cases h0
  ·obtain⟨_,_,h1⟩:=zl h0;exact kQ h1
  ·obtain⟨_,_,h1⟩:=zl h0;exact kQ h1
  ·cases h0
end
section
variable {P:Program} {nt:Nat} {ops:List Oper}
theorem sO {o:Oper} {s:TS} {g:Option Bool} {val:LV} {up:List (Nat×Option OB)} {rd:List Nat} {k:Nat} (hg:qH ops s.e o.guard=some g) (hd: ∀d,o.dst=some d->d<nt)
  (hp:g≠some false->(opR P [] (opd (Zh s.e)) s.get s.next o.op).pre/\
   (∀(ι:Asg) (w:World) (get':Get) v w',(∀j,j<k->get' (s.next+j)=none)->Good ι w get' s.next k (opR P [] (opd (Zh s.e)) s.get s.next o.op).val (opR P [] (opd (Zh s.e)) s.get s.next o.op).up v w'->Good ι w get' s.next k val up v w')/\
   (∀id∈(opR P [] (opd (Zh s.e)) s.get s.next o.op).rd,id∈rd\/id∈up.map (·.1))/\Zz [] (opd (Zh s.e)) o.op<=k):
  OpOK P nt ops o ⟨g,val,up,rd,s.next,k⟩ s:=by
 refine⟨hd,rfl,fun ι a w e' get' N hR hN hE ha hb hfr=> ?_⟩;have hop: ∀x∈o.op.operands,opd (Zh e') x=opd (Zh s.e) x:=by
  intro x hx;cases x with
  |tmp t=> simp only[opd,Vo];rw[ha t ?_];simp only[Uh,Fe,Vb,jb];exact .inl (Xd.2 ⟨.tmp t,by simpa using hx,rfl⟩)
  |const v=>rfl
  |global g=>rfl
  |func f=>rfl
 have hg':qH ops e' o.guard=qH ops s.e o.guard:=Ky fun t ht=>ha t (by
  simp only[Uh,Fe,Vb,jb]at ht ⊢;exact .inr ht)
 refine⟨fun h=> ?_,fun b h=> ?_,fun h=> ?_⟩
 ·simp only at h;subst h;unfold qH at hg;split at hg
  ·assumption
  ·split at hg
   ·split at hg<;>cases hg
   ·cases hg
 ·simp only at h;subst h;exact Rx hE (by rw[hg'];exact hg)
 ·obtain⟨hp1,hp2,hp3,hp4⟩:=hp h;have hnews:Zz [] (opd (Zh e')) o.op=Zz [] (opd (Zh s.e)) o.op:=(jC (P:=P) (F:=[]) (get:=get') (nx:=s.next) o.op hop).2;have hloc:opR P [] (opd (Zh e')) get' s.next o.op=opR P [] (opd (Zh s.e)) s.get s.next o.op:=by rw[(jC (P:=P) (F:=[]) (get:=get') (nx:=s.next) o.op hop).1];exact sK (Di.nil P) o.op hp1 (fun id hid=>hb id (hp3 id hid))
  have hs:=rO (Di.nil P) hR hN (ww hE) o (nx:=s.next) (fun i hi=>by rw[hnews]at hi;exact hfr i (by simp only;omega)) (by rw[hloc];exact hp1);rw[hloc,hnews]at hs;have hnone: ∀j,j<k->get' (s.next+j)=none:=by
   intro j hj;cases hgj:get' (s.next+j)with
   |none=>rfl
   |some ob=> obtain⟨b,hl,_⟩:=hR.live _ _ hgj;have:=hfr j hj;rw[this]at hl;cases hl
  have mono: ∀v w',Good ι w get' s.next (Zz [] (opd (Zh s.e)) o.op) (opR P [] (opd (Zh s.e)) s.get s.next o.op).val (opR P [] (opd (Zh s.e)) s.get s.next o.op).up v w'->Good ι w get' s.next k val up v w':=by intro v w' ⟨ι',g1,g2,g3,g4⟩;exact hp2 ι w get' v w' hnone ⟨ι',g1,g2,g3,fun id hf hout=>g4 id hf (by omega)⟩
  rcases hs with⟨v,w',h1,h2⟩|⟨w',h1,h2⟩|⟨f,vs,h1,h2⟩
  ·exact .inl ⟨v,w',h1,mono _ _ h2⟩
  ·exact .inr (.inl ⟨w',h1,mono _ _ h2⟩)
  ·exact .inr (.inr ⟨f,vs,h1,h2.mono fun e w' ⟨v,he,hgd⟩=>⟨v,he,mono _ _ hgd⟩⟩)
theorem zoR {o:Oper} {s:TS} {g:Option Bool} {c:Call} {cf:Operand} {f:FuncId} {caps:List (Nat×Nat×Nat)} {as:List TV} {rd:List (Nat×OB)} {k:Nat} {val:LV} {up:List (Nat×Option OB)}
  (hg:qH ops s.e o.guard=some g) (hd: ∀d,o.dst=some d->d<nt) (ho:o.op= .call c) (hc:c.callee= .value cf) (hcf:opd (Zh s.e) cf= .v (.c (.clo f caps)))
  (hall:allT (c.args.toList.map (opd (Zh s.e)))=some (true,as)) (hcall:zc8 P f (as++caps.map capT) rd s.next k val up) (hrd: ∀p∈rd,s.get p.1=some p.2):
  OpOK P nt ops o ⟨g,val,up,rd.map (·.1),s.next,k⟩ s:=by
 refine⟨hd,rfl,fun ι a w e' get' N hR hN hE ha hb hfr=> ?_⟩;have hop: ∀x∈o.op.operands,opd (Zh e') x=opd (Zh s.e) x:=by
  intro x hx;cases x with
  |tmp t=> simp only[opd,Vo];rw[ha t ?_];simp only[Uh,Fe,Vb,jb];exact .inl (Xd.2 ⟨.tmp t,by simpa using hx,rfl⟩)
  |const v=>rfl
  |global g=>rfl
  |func f=>rfl
 have hg':qH ops e' o.guard=qH ops s.e o.guard:=Ky fun t ht=>ha t (by
  simp only[Uh,Fe,Vb,jb]at ht ⊢;exact .inr ht)
 refine⟨fun h=> ?_,fun b h=> ?_,fun h=> ?_⟩
 ·simp only at h;subst h;unfold qH at hg;split at hg
  ·assumption
  ·split at hg
   ·split at hg<;>cases hg
   ·cases hg
 ·simp only at h;subst h;exact Rx hE (by rw[hg'];exact hg)
 ·have hE1:=ww hE;have hcf':opd (Zh e') cf=opd (Zh s.e) cf:=hop cf (by simp[ho,Op.operands,Call.operands,hc]);have hargs':c.args.toList.map (opd (Zh e'))=c.args.toList.map (opd (Zh s.e)):=Na fun x hx=>hop x (by
   simp only[ho,Op.operands,Call.operands,hc,Array.mem_append];exact .inr (by simpa using hx))
  have hv:repT ι w (.c (.clo f caps)) (a.eval cf):=by have hr:=zZ hE1 cf;rw[hcf',hcf]at hr;exact hr
  obtain⟨vs,hve,hcaps⟩:=jH hv;obtain⟨a1,a2⟩:=iB hE1 _ _ _ (by rw[hargs'];exact hall) rfl;obtain⟨fn,f1,f2,f3⟩:=hcall.fn;refine .inr (.inr ⟨f,c.args.map a.eval++vs,?_,hcall.ok ι get' w N _ hR hN hfr (oI ⟨by simp[a1],fun j t hj=> ?_⟩ hcaps) (fun p hp=> ?_)⟩)
  ·simp only[execOp,ho,resolve,hc,hve,Deferred.ofValue,Sem.run_bind,Sem.run_pure,Result.andThen_ok,invoke,Array.empty_append];exact wG f1 f2 f3
  ·obtain⟨u,h1,h2⟩:=a2 j t hj;refine⟨u,?_,h2⟩;rw[<-h1,<-Td,Ag]
  ·rw[hb p.1 (.inl (Ka.2 ⟨p,hp,rfl⟩))];exact hrd p hp
end
section
variable {P:Program} {I:Ip} {X:Cx I} {ρ:Nat->Nat} {G:Get} {st:ES I.C} {e:Env} {lh:LH} {q:Path} {R:Type} {r0:R} {K:Kt I R}
def RR(P:Program)(ρ:Nat->Nat)(X:Cx I)(st:ES I.C)(e:Env)(lh:LH)(op:Op)(res:OR I.C):Prop:=
 zpy P ρ (lkO X st) (lkE X st) lh.get lh.next res.k (opR P [] (opd (Zh e)) lh.get lh.next op) res/\Zz [] (opd (Zh e)) op<=res.k
theorem Mg{op:Op}{res:OR I.C}{r:Res}(he:opR P [] (opd (Zh e)) lh.get lh.next op=r)(hn:Zz [] (opd (Zh e)) op<=res.k)(h:RRel P ρ (lkO X st) (lkE X st) r res):RR P ρ X st e lh op res:=
 ⟨by rw[he];exact h.w,hn⟩
theorem az{op:Op}{res:OR I.C}{r:Res}{k:Nat}(he:opR P [] (opd (Zh e)) lh.get lh.next op=r)(hk:res.k=k)(hn:Zz [] (opd (Zh e)) op<=k)(h:zpy P ρ (lkO X st) (lkE X st) lh.get lh.next k r res):RR P ρ X st e lh op res:=by subst hk;exact⟨by rw[he];exact h,hn⟩
theorem rG{h:Nat->Option (EO I.C)}{E0:Operand->EL I.C}{E1:Operand->LV}(hE: ∀x t,useE q (E0 x)=some t->E1 x= .v (trT ρ h t)): ∀(xs:List Operand) (as:List (ET I.C)),allE q (xs.map E0)=some as->xs.map E1=as.map fun t=> .v (trT ρ h t)
 |[],as,h0=>by cases h0;rfl
 |x::r,as,h0=>by
  simp only[ja,allE]at h0;split at h0
  ·rename_i t l h1 h2;cases h0;simp only[ja,hE x t h1,rG hE r l h2]
  ·cases h0
theorem zEa(hI:IpOK P I)(hT:TOK P X.T X.fk)(hv:Vw P X ρ G st e lh)(hq:q=[]\/qx (lkE X st) q=true){S:List (Con I)}{fz:Nat}{op:Op}(hnc: ∀c f,op= .call c->c.callee≠ .value f)(h0:opE X S fz st q (qx (lkE X st) q) op K=some r0):
  ∃res,K res=some r0/\RR P ρ X st e lh op res:=by
 have hE: ∀x t,useE q (opdE X st x)=some t->opd (Zh e) x= .v (trT ρ (lkO X st) t):=fun x t hu=>Hr hv hq x t hu;have hρ:ρ st.next=lh.next:=by have:=hv.up st.next (Ya _);simpa using this
 have hnn:lkO X st st.next=none:=by
  cases hl:lkO X st st.next with
  |none=>rfl
  |some o=>exact absurd (hv.wfh _ _ hl).1 (by omega)
 cases op<;>simp only[opE]at h0<;>(try (cases h0;done))
 case move x=>
  obtain⟨v,h1,h2⟩:=zl h0;refine⟨_,h2,Mg rfl (Bc _) ⟨trivial,?_,upN,by intro id hid;cases hid⟩⟩;split at h1
  ·rename_i ts hts;injection h1 with h1;subst h1;exact RF hv x ts hts
  ·obtain⟨t,hu,h3⟩:=Yb.1 h1;subst h3;exact hE x t hu
 case assign x=>
  obtain⟨v,h1,h2⟩:=zl h0;refine⟨_,h2,Mg rfl (Bc _) ⟨trivial,?_,upN,by intro id hid;cases hid⟩⟩;split at h1
  ·rename_i ts hts;injection h1 with h1;subst h1;exact RF hv x ts hts
  ·obtain⟨t,hu,h3⟩:=Yb.1 h1;subst h3;exact hE x t hu
 case pick c a b=>
  unfold uy at h0;split at h0
  ·rename_i t x ka ba kb bb ha hb hc;obtain⟨h1,h2⟩:=zk h0;rw[Ca]at h1;refine⟨_,h2,Mg rfl (Bc _) ?_⟩;have hcv:=hE (.tmp t) _ hc;have hx:Dh (lkE X st) t=x:=by
    simp only[opdE]at hc;cases hl:lkE X st t with
    |none=>rw[hl]at hc;cases hc
    |some y=>
     rw[hl]at hc;simp only at hc;rcases BH hq hc with h3|⟨ks,h3,_⟩
     ·cases y with
      |v t0=>
       cases t0 with
       |c z=>
        cases z<;>simp only[nrmL,nrmT,nrmV,EL.v.injEq,ET.c.injEq]at h3<;>first|(cases h3;done)|(split at h3<;>cases h3;done)|skip
        rename_i b0;injection h3 with h3;subst h3;simp[Dh,hl]
       |agg zs=>simp[nrmL,nrmT]at h3
      |any=>simp[nrmL]at h3
      |opt ks t0=>simp[nrmL]at h3
      |tup ts=>simp[nrmL]at h3
     ·cases y with
      |opt ks0 t0=>
       cases t0 with
       |c z=>
        cases z<;>simp only[nrmL,nrmT,nrmV,EL.opt.injEq,ET.c.injEq]at h3<;>first|(cases h3.2;done)|(obtain⟨_,h3⟩:=h3;split at h3<;>cases h3;done)|skip
        rename_i b0;obtain⟨_,h3⟩:=h3;injection h3 with h3;subst h3;simp[Dh,hl]
       |agg zs=>simp[nrmL,nrmT]at h3
      |any=>simp[nrmL]at h3
      |v t0=>simp[nrmL]at h3
      |tup ts=>simp[nrmL]at h3
   have hpath: ∀w,litB w x=true->qx (lkE X st) ((t,w)::q)=true:=by
    intro w hw;have:qx (lkE X st) q=true:=by
     rcases hq with rfl|hq
     ·rfl
     ·exact hq
    cases q with
    |nil=>simp only[qx,hx,hw]
    |cons c r=>simp only[qx,hx,hw,Sb];exact this
   have hR:Jk (opd (Zh e) (.tmp t)) (opd (Zh e) a) (opd (Zh e) b)=preC ((x=true->qx (lkE X st) ka=true)/\(x=false->qx (lkE X st) kb=true)) (.p (.at (.bool (cond x ba bb)))):=by unfold Jk;rw[hcv];simp only[Zu,trT,trV,pvE,isBool,xB hv a ha,xB hv b hb]
   simp only[opR,hR];refine Z5 ⟨fun hx1=>XC (hpath true (by rw[hx1];rfl)) h1.1,fun hx1=>XC (hpath false (by rw[hx1];rfl)) h1.2⟩ rfl rfl rfl
  ·rename_i c c' x0 x1 x2 x ba bb hnt ha hb hc;refine⟨_,h0,Mg rfl (Bc _) ?_⟩;have hcv:=hE c _ hc;have hR:Jk (opd (Zh e) c) (opd (Zh e) a) (opd (Zh e) b)=preC ((x=true->qx (lkE X st) []=true)/\(x=false->qx (lkE X st) []=true)) (.p (.at (.bool (cond x ba bb)))):=by unfold Jk;rw[hcv];simp only[Zu,trT,trV,pvE,isBool,xB hv a ha,xB hv b hb]
   simp only[opR,hR];exact Z5 ⟨fun _=>rfl,fun _=>rfl⟩ rfl rfl rfl
  ·cases h0
 case alloc t=>
  split at h0
  ·obtain⟨h1,h2⟩:=zk h0;refine⟨_,h2,Mg rfl (Ya _) ?_⟩;have:=R3 (P:=P) (ρ:=ρ) (h:=lkO X st) (e:=lkE X st) (n:=st.next) (t:=t) hT hnn h1;rw[hρ]at this;exact this
  ·cases h0
 case box t x=>
  split at h0
  ·obtain⟨v,h1,h2⟩:=zl h0;obtain⟨h3,h4⟩:=zk h2;rw[Ca]at h3;have hl:=Cb h3.1;refine⟨_,h4,?_⟩;have hsz:v.cells.length=P.cellsOf t:=by rw[hl];exact(Oh hT h3.2).1
   have:=zBb (P:=P) (ρ:=ρ) (h:=lkO X st) (e:=lkE X st) (n:=st.next) (t:=t) (x:=v) hnn (zDq hv x v h1) hsz;rw[hρ]at this;refine Mg ?_ (Ya _) this;simp only[opR,hE x v h1,Zu]
  ·cases h0
 case build t ps=> obtain⟨res,h1,h2⟩:=I5 (P:=P) (e:=lkE X st) hT hE h0;exact⟨res,h1,Mg rfl (Bc _) h2⟩
 case buildSlice t len ps=> obtain⟨res,h1,h2,h3⟩:=zkz (P:=P) (e:=lkE X st) (get:=lh.get) hI hT hE hnn hρ h0;exact⟨res,h1,az rfl h2 (Ya _) h3⟩
 case load t a=> obtain⟨v,h1,h2⟩:=zl h0;obtain⟨hk,res,h3,h4⟩:=WZ (P:=P) (e:=lkE X st) (get:=lh.get) hI hv.heap hq h2;refine⟨res,h3,Mg ?_ (Bc _) h4⟩;rw[wh hT hk];simp only[opR,hE a v h1,Zu]
 case store t a x=> obtain⟨v,h1,h2⟩:=zl h0;obtain⟨u,h3,h4⟩:=zl h2;obtain⟨_,hk,res,h5,h5',h6⟩:=tZ (P:=P) (e:=lkE X st) (get:=lh.get) (nx:=lh.next) (kk:=0) hI hv.heap h4;refine⟨res,h5,az ?_ h5' (Bc _) h6⟩;rw[wh hT hk];simp only[opR,hE a v h1,hE x u h3,Zu]
 case nilCheck x=> obtain⟨v,h1,h2⟩:=zl h0;obtain⟨res,h3,h4⟩:=zoD (P:=P) (e:=lkE X st) (get:=lh.get) hv.heap h2;refine⟨res,h3,Mg ?_ (Bc _) h4⟩;simp only[opR,hE x v h1,Zu]
 case binOp op t x y t2=>
  obtain⟨v,h1,h2⟩:=zl h0;obtain⟨u,h3,h4⟩:=zl h2;obtain⟨res,h5,h6⟩:=HY (P:=P) (ρ:=ρ) (h:=lkO X st) (e:=lkE X st) (fk':=Uj P t) (kd':=kdOf P t) (fun ks hks=>hT.fk t ks hks) (by
   by_cases hb:(X.T.at t).kd= .bad
   ·exact .inl hb
   ·exact .inr (by rw[wh hT hb];rfl)) hq h4
  refine⟨res,h5,Mg ?_ (Bc _) h6⟩;simp only[opR,hE x v h1,hE y u h3,Zu]
 case unOp op t x=> obtain⟨v,h1,h2⟩:=zl h0;obtain⟨res,h3,h4⟩:=zCx (P:=P) (ρ:=ρ) (h:=lkO X st) (e:=lkE X st) h2;refine⟨res,h3,Mg ?_ (Bc _) h4⟩;simp only[opR,hE x v h1,Zu]
 case convert s d x=> obtain⟨v,h1,h2⟩:=zl h0;obtain⟨res,h3,h3',h4⟩:=Y3 (P:=P) (e:=lkE X st) (get:=lh.get) hI hT hv.heap hnn hρ hq h2;refine⟨res,h3,Mg ?_ (by rw[h3'];exact Ya _) h4⟩;simp only[opR,hE x v h1,Zu]
 case makeFunc fn first caps=>
  cases fn<;>simp only[opE]at h0<;>(try (cases h0;done));split at h0
  ·rename_i hf;obtain⟨l,h1,h2⟩:=zl h0;refine⟨_,h2,Mg rfl (Bc _) ?_⟩;have hfirst:first= #[]:=by rw[<-Jf (xs:=first),hf]
   simp only[opR,hfirst,yc,WP (fun x t hx=>hE x t (zAo hx)) h1];exact Z5 trivial rfl rfl rfl
  ·cases h0
 case makeSlice t l c=> obtain⟨v,h1,h2⟩:=zl h0;obtain⟨u,h3,h4⟩:=zl h2;obtain⟨res,h5,h5',h6⟩:=OZ (P:=P) (h:=lkO X st) (e:=lkE X st) (get:=lh.get) hI hT hnn hρ h4;refine⟨res,h5,az ?_ h5' (Ya _) h6⟩;simp only[opR,hE l v h1,hE c u h3,Zu]
 case slice t x lo hi mx=>
  obtain⟨v,h1,h2⟩:=zl h0;obtain⟨lo',h3,h4⟩:=zl h2;obtain⟨hi',h5,h6⟩:=zl h4;obtain⟨mx',h7,h8⟩:=zl h6;obtain⟨res,h9,h10,h11⟩:=xZ (P:=P) (e:=lkE X st) (get:=lh.get) hI hT hv.heap hq h8;have hb: ∀{y:Option Operand} {n:Option Int},bndE q (opdE X st) y=some n->bndR (opd (Zh e)) y=some (true,n):=by
   intro y n hy;unfold bndE at hy;split at hy
   ·cases hy;rfl
   ·rename_i z;split at hy
    ·rename_i k m hz;cases hy;simp only[bndR,hE z _ hz,trT,trV,pvE]
    ·cases hy
  have hop:opR P [] (opd (Zh e)) lh.get lh.next (.slice t x lo hi mx)=(match Pg P lh.get t (trT ρ (lkO X st) v) lo' hi' mx' with|⟨q,v,r,u⟩=>⟨(true&&true&&true)=true/\(mx'≠none->hi'≠none)/\q,v,r,u⟩):=by simp only[opR,hE x v h1,Zu,hb h3,hb h5,hb h7]
  refine⟨res,h9,Mg hop (Bc _) ?_⟩;cases hs:Pg P lh.get t (trT ρ (lkO X st) v) lo' hi' mx' with
  |mk a b c d=> rw[hs]at h11;exact⟨⟨rfl,h10,h11.pre⟩,h11.val,h11.up,h11.rd⟩
 case fieldAddr t x f=> obtain⟨v,h1,h2⟩:=zl h0;obtain⟨res,h3,h4⟩:=zmr (P:=P) (e:=lkE X st) (get:=lh.get) hI hT hv.heap h2;refine⟨res,h3,Mg ?_ (Bc _) h4⟩;simp only[opR,hE x v h1,Zu]
 case field t x f=> obtain⟨v,h1,h2⟩:=zl h0;obtain⟨res,h3,h4⟩:=R4 (P:=P) (ρ:=ρ) (h:=lkO X st) (e:=lkE X st) hT h2;refine⟨res,h3,Mg ?_ (Bc _) h4⟩;simp only[opR,hE x v h1,Zu]
 case indexAddr t x i=> obtain⟨v,h1,h2⟩:=zl h0;obtain⟨u,h3,h4⟩:=zl h2;obtain⟨res,h5,h6⟩:=zmu (P:=P) (e:=lkE X st) (get:=lh.get) hI hT hv.heap hq h4;refine⟨res,h5,Mg ?_ (Bc _) h6⟩;simp only[opR,hE x v h1,hE i u h3,Zu]
 case index t x i=> obtain⟨v,h1,h2⟩:=zl h0;obtain⟨u,h3,h4⟩:=zl h2;obtain⟨res,h5,h6⟩:=H6 (P:=P) (ρ:=ρ) (h:=lkO X st) (e:=lkE X st) hT hq h4;refine⟨res,h5,Mg ?_ (Bc _) h6⟩;simp only[opR,hE x v h1,hE i u h3,Zu]
 case extract x i=>
  split at h0
  ·rename_i ts hts;obtain⟨t,h1,h2⟩:=zl h0;refine⟨_,h2,Mg ?_ (Bc _) (eu (r:=⟨True, .v (trT ρ (lkO X st) t),[],[]⟩) trivial rfl rfl rfl)⟩;simp only[opR,RF hv x ts hts,Ua,h1,Pb]
  ·cases h0
 case call c=>
  obtain⟨callee,args,tys⟩:=c;simp only at h0 hnc;cases callee with
  |value f=>exact absurd rfl (hnc _ f rfl)
  |invoke r m=>cases h0
  |builtin b=>
   cases b<;>simp only at h0<;>(try (cases h0;done))
   case len=>
    split at h0
    ·rename_i t x ht hx;obtain⟨v,h1,h2⟩:=zl h0;obtain⟨res,h3,h4⟩:=XW (P:=P) (e:=lkE X st) (get:=lh.get) hT hv.heap h2;refine⟨res,h3,Mg ?_ (Bc _) h4⟩;simp only[opR,ht,hx,hE x v h1,Zu]
    ·cases h0
   case append=>
    split at h0
    ·rename_i t u s x ht hx;obtain⟨v,h1,h2⟩:=zl h0;obtain⟨v2,h3,h4⟩:=zl h2;obtain⟨_,res,h5,h5',h6⟩:=P8 (P:=P) (e:=lkE X st) (get:=lh.get) hI hT hv.heap hnn hρ (fun id o ho=>(hv.wfh id o ho).2) h4;refine⟨res,h5,az ?_ h5' (Ya _) h6⟩;simp only[opR,ht,hx,hE s v h1,hE x v2 h3,Zu]
    ·cases h0
   case min=> obtain⟨as,h1,h2⟩:=zl h0;obtain⟨res,h5,h6⟩:=jQ (P:=P) (ρ:=ρ) (h:=lkO X st) (e:=lkE X st) h2;refine⟨res,h5,Mg ?_ (Bc _) h6⟩;simp only[opR,rG hE _ _ h1]
   case max=> obtain⟨as,h1,h2⟩:=zl h0;obtain⟨res,h5,h6⟩:=jQ (P:=P) (ρ:=ρ) (h:=lkO X st) (e:=lkE X st) h2;refine⟨res,h5,Mg ?_ (Bc _) h6⟩;simp only[opR,rG hE _ _ h1]
end
def WkZ(Z:Nat->Prop)(x y:CV):Prop:=WkC x y\/ ∃z,Z z/\x= .p (.at (.slice none 0 0))/\y= .osl z 0 0
inductive WkT (Z:Nat->Prop):TV->TV->Prop where
 |c (x y:CV) (h:WkZ Z x y):WkT Z (.c x) (.c y)
 |agg (xs ys:List CV) (hl:ys.length=xs.length) (h: ∀(j:Nat) x y,xs[j]? =some x->ys[j]? =some y->WkZ Z x y):WkT Z (.agg xs) (.agg ys)
theorem WkZ.refl{Z:Nat->Prop}(x:CV):WkZ Z x x:= .inl (.inl rfl)
theorem WkT.refl{Z:Nat->Prop}(t:TV):WkT Z t t:=by
 cases t with
 |c x=>exact .c _ _ (WkZ.refl x)
 |agg d=>exact .agg _ _ rfl fun j x y b a=>by rw[b]at a;cases a;exact WkZ.refl x
theorem WkZ.rep{Z:Nat->Prop}{ι:Asg}{w:World}{x y:CV}{v:Value}(e: ∀z,Z z-> ∃k,ι z= .live none k)(a:WkZ Z x y)(h:repC ι w x v):repC ι w y v:=by
 rcases a with a|⟨z,c,rfl,rfl⟩
 ·exact cK a h
 ·obtain⟨k,d⟩:=e z c;cases h;refine⟨by rw[d];simp,fun b f g=> .inl ?_⟩
  grind
theorem WkT.rep{Z:Nat->Prop}{ι:Asg}{w:World}{x y:TV}{v:Value}(i: ∀z,Z z-> ∃k,ι z= .live none k)(b:WkT Z x y)(h:repT ι w x v):repT ι w y v:=by
 cases b with
 |c x y b=>exact⟨h.1,b.rep i h.2⟩
 |agg d t g r=>
  obtain⟨q,l,o,n⟩:=h;refine⟨q,l,by rw[o,g],fun j y e=> ?_⟩;have a:j<d.length:=by rw[<-g];exact(Da.1 e).1
  have f:d[j]? =some d[j]:=Ja a;obtain⟨u,s,m,p⟩:=n j _ f;exact⟨u,s,m,(r j _ y f e).rep i p⟩
section
variable {I:Ip}
def InjM(m:Mp):Prop:= ∀i j a,lk m i=some (some a)->lk m j=some (some a)->i=j
def SubM(m a:Mp):Prop:= ∀i b,lk m i=some b->lk a i=some b
theorem SubM.refl(m:Mp):SubM m m:=fun _ _ h=>h
theorem SubM.trans{a b c:Mp}(h:SubM a b)(g:SubM b c):SubM a c:=fun i x d=>g i x (h i x d)
theorem Zg{α:Type}(j:Nat)(x:α)(r:List (Nat×α))(i:Nat):lk ((j,x)::r) i=if i=j then some x else lk r i:=by simp only[lk];simp_all
theorem Zc{α:Type}: ∀{l:List (Nat×α)} {i:Nat} {x:α},lk l i=some x->(i,x)∈l
 |[],i,x,h=>by cases h
 |(j,y)::r,i,x,h=>by
  rw[Zg]at h;split at h
  ·grind
  ·exact Eb _ (Zc h)
theorem yG: ∀{m:Mp} {i a:Nat},(i,some a)∈m->jm m a=true
 |[],i,a,h=>by cases h
 |(j,some b)::r,i,a,h=>by
  simp only[jm];rcases Ab.1 h with h|h
  ·simp_all
  ·rw[yG h];grind
 |(j,none)::r,i,a,h=>by
  simp only[jm];rcases Ab.1 h with h|h
  ·cases h
  ·exact yG h
theorem dB{m m':Mp}{i:Nat}{a:Option Nat}(h:bndM m i a=some m'):SubM m m'/\lk m' i=some a/\(InjM m->InjM m'):=by
 unfold bndM at h;split at h
 ·rename_i b hb;split at h
  ·rename_i a;obtain⟨h1,h2⟩:=zk h;have:=Cb h1;subst this;injection h2 with h2;subst h2;exact⟨SubM.refl _,hb,fun h=>h⟩
  ·cases h
 ·cases h
 ·rename_i hn;have sub: ∀x,SubM m ((i,x)::m):=by
   intro x j b hj;rw[Zg];split
   ·grind
   ·exact hj
  have at_: ∀x,lk ((i,x)::m) i=some x:=fun x=>by rw[Zg,La rfl]
  split at h
  ·rename_i a;cases hany:jm m a with
   |true=>grind
   |false=>
    rw[hany]at h;injection h with h;subst h;refine⟨sub _,at_ _,fun hi j1 j2 b h1 h2=> ?_⟩;have hno: ∀j,lk m j≠some (some a):=by intro j hj;have:=yG (Zc hj);rw[hany]at this;cases this
    rw[Zg]at h1 h2;split at h1<;>split at h2
    ·grind
    ·grind
    ·grind
    ·exact hi j1 j2 b h1 h2
  ·injection h with h;subst h;refine⟨sub _,at_ _,fun hi j1 j2 b h1 h2=> ?_⟩;rw[Zg]at h1 h2;split at h1<;>split at h2
   ·cases h1
   ·cases h1
   ·cases h2
   ·exact hi j1 j2 b h1 h2
def Cmp(ρ ρ':Nat->Nat)(h h':Nat->Option (EO I.C))(Z:Nat->Prop)(m:Mp):Prop:= ∀i x,lk m i=some x->
 match x with
 |some a=>ρ' i=ρ a/\infO h' i=infO h a
 |none=>Z (ρ' i)/\infO h' i=some (.inl 0)
theorem Cmp.sub{ρ ρ':Nat->Nat}{h h':Nat->Option (EO I.C)}{Z:Nat->Prop}{m a:Mp}(d:SubM m a)(c:Cmp ρ ρ' h h' Z a):Cmp ρ ρ' h h' Z m:=fun i x b=>c i x (d i x b)
theorem Oi{ρ:Nat->Nat}{h:Nat->Option (EO I.C)}(id:Nat):trV ρ h (.own id)=(match infO h id with|some (.inr rows)=> .p (.sl rows)|some (.inl n)=> .osl (ρ id) 0 n|none=> .osl (ρ id) 0 0):=by
 simp only[trV,infO]
 grind
structure zvy (P:Program) (s:Shp I):Prop where
 unit:s.u=true-> ∀x y,s.enc x=s.enc y
 mat: ∀a m x m',s.mat a m=some (x,m')->SubM m m'/\(InjM m->InjM m')/\ ∀ρ ρ' h h' Z,Cmp ρ ρ' h h' Z m'->WkT Z (trT ρ h a) (trT ρ' h' (s.enc x))
theorem xw{P:Program}{x:ET I.C}{b:ET I.C->Mp->Option Mp}(h: ∀a m c,b a m=some c->SubM m c/\(InjM m->InjM c)/\ ∀ρ ρ' h h' Z,Cmp ρ ρ' h h' Z c->WkT Z (trT ρ h a) (trT ρ' h' x)):zvy P (Pi I x b):=by
 refine⟨fun _ _ _=>rfl,fun a m y c d=> ?_⟩;simp only[Pi]at d;split at d
 ·rename_i f e;cases d;exact h a m _ e
 ·cases d
theorem yR: ∀{l:List Nat} {caps:List (Nat×Nat×Nat)} {m b:Mp},vk l caps m=some b->SubM m b/\(InjM m->InjM b)/\caps.length=l.length/\ ∀(j:Nat) i,l[j]? =some i-> ∃a,caps[j]? =some (a,0,0)/\lk b i=some (some a)
 |[],[],m,b,h=>by simp only[vk,Option.some.injEq]at h;subst h;exact⟨SubM.refl _,fun h=>h,rfl,fun j i d=>by simp at d⟩
 |i::r,(a,0,0)::s,m,b,h=>by
  simp only[vk]at h;split at h
  ·rename_i u o;obtain⟨g,k,p⟩:=dB o;obtain⟨e,f,t,v⟩:=yR h;refine⟨g.trans e,fun q=>f (p q),by simp[t],fun j w d=> ?_⟩;cases j with
   |zero=>simp at d;subst d;exact⟨a,rfl,e _ _ k⟩
   |succ j=>grind
  ·cases h
 |i::r,(a,0,n+1)::s,m,b,h=>by simp[vk]at h
 |i::r,(a,n+1,c)::s,m,b,h=>by simp[vk]at h
 |[],_::_,m,b,h=>by simp[vk]at h
 |_::_,[],m,b,h=>by simp[vk]at h
theorem zC3{P:Program}(a:IpOK P I){ρ:Nat->Nat}{h:Nat->Option (EO I.C)}(t:Nat)(x:I.C t):(I.exp t x).map (trV ρ h)=(I.full t x).map CV.p:=(RA a t x).symm
theorem dV{P:Program}(hI:IpOK P I){ρ ρ':Nat->Nat}{h h':Nat->Option (EO I.C)}{Z:Nat->Prop}{t:Nat}{cs:List (EV I.C)}{x:I.C t}(h1:I.made t cs=some x):WkT Z (trT ρ h (.agg cs)) (trT ρ' h' (.agg (I.exp t x))):=by
 refine .agg _ _ ?_ fun j a b ha hb=> ?_
 ·rw[Xa,Xa];have:=(hI.made t cs x h1).2.1;rw[hI.exp,Xa]at this;exact this.symm
 ·rw[zC3 hI]at hb;exact .inl (Ov hI h1 j a b ha hb)
theorem zCr{P:Program}(hI:IpOK P I): ∀s:Sh,zvy P (s.shp I)
 | .int k=>⟨fun h=>(by cases h),fun a m x m' he=>by
   simp only[Sh.shp]at he;split at he
   ·obtain⟨h1,h2⟩:=zk he;have:=Kw h1;subst this;cases h2;exact⟨SubM.refl _,fun h=>h,fun ρ ρ' h h' Z _=>WkT.refl _⟩
   ·cases he⟩
 | .bool=>⟨fun h=>(by cases h),fun a m x m' he=>by
   simp only[Sh.shp]at he;split at he
   ·cases he;exact⟨SubM.refl _,fun h=>h,fun ρ ρ' h h' Z _=>WkT.refl _⟩
   ·cases he⟩
 | .str=>⟨fun h=>(by cases h),fun a m x m' he=>by
   simp only[Sh.shp]at he;split at he
   ·cases he;exact⟨SubM.refl _,fun h=>h,fun ρ ρ' h h' Z _=>WkT.refl _⟩
   ·cases he⟩
 | .sl t=>⟨fun h=>(by cases h),fun a m x m' he=>by
   simp only[Sh.shp]at he;split at he
   ·split at he
    ·rename_i l hc;obtain⟨rfl,hh⟩:=ZK hc;cases hh;cases he;exact⟨SubM.refl _,fun h=>h,fun ρ ρ' h h' Z _=>WkT.refl _⟩
    ·cases he
   ·cases he;exact⟨SubM.refl _,fun h=>h,fun ρ ρ' h h' Z _=> .c _ _ (.inl (.inr ⟨_,_,rfl,rfl, .nil⟩))⟩
   ·cases he⟩
 | .val t=>⟨fun h=>(by cases h),fun a m x m' he=>by
   simp only[Sh.shp]at he;split at he
   ·rename_i cs;obtain⟨y,h1,h2⟩:=Ba.1 he;cases h2;refine⟨SubM.refl _,fun h=>h,fun ρ ρ' h h' Z _=> ?_⟩;exact dV hI h1
   ·cases he⟩
 | .ptr t=>⟨fun h=>(by cases h),fun a m x m' he=>by
   simp only[Sh.shp]at he;split at he
   ·split at he
    ·rename_i y hc;obtain⟨rfl,hh⟩:=I1 hc;cases hh;cases he;exact⟨SubM.refl _,fun h=>h,fun ρ ρ' h h' Z _=>WkT.refl _⟩
    ·cases he
   ·cases he⟩
 | .nilp=>xw fun a m m' he=>by
   split at he
   ·cases he;exact⟨SubM.refl _,fun h=>h,fun ρ ρ' h h' Z _=>WkT.refl _⟩
   ·cases he
 | .nilv=>xw fun a m m' he=>by
   split at he
   ·cases he;exact⟨SubM.refl _,fun h=>h,fun ρ ρ' h h' Z _=>WkT.refl _⟩
   ·cases he
 | .own i=>xw fun a m m' he=>by
   split at he
   ·rename_i b;obtain⟨b1,b2,b3⟩:=dB he;refine⟨b1,b3,fun ρ ρ' h h' Z hc=> ?_⟩;obtain⟨c1,c2⟩:=hc i _ b2;simp only[trT];rw[Oi,Oi,c1,c2];exact WkT.refl _
   ·obtain⟨b1,b2,b3⟩:=dB he;refine⟨b1,b3,fun ρ ρ' h h' Z hc=> ?_⟩;obtain⟨c1,c2⟩:=hc i _ b2;simp only[trT];rw[Oi,c2];exact .c _ _ (.inr ⟨_,c1,rfl,rfl⟩)
   ·cases he
 | .optr i=>xw fun a m m' he=>by
   split at he
   ·rename_i b;obtain⟨b1,b2,b3⟩:=dB he;refine⟨b1,b3,fun ρ ρ' h h' Z hc=> ?_⟩;obtain⟨c1,c2⟩:=hc i _ b2;simp only[trT,trV,c1];exact WkT.refl _
   ·cases he
 | .clo f caps=>xw fun a m m' he=>by
   split at he
   ·rename_i g l;obtain⟨h1,h2⟩:=zk he;have:=Cb h1;subst this;obtain⟨b1,b2,b3,b4⟩:=yR h2;refine⟨b1,b2,fun ρ ρ' h h' Z hc=> ?_⟩;have:l.map (fun q=>(ρ q.1,q.2))=(caps.map fun i=>(i,0,0)).map fun q:Nat×Nat×Nat=>(ρ' q.1,q.2):=by
     apply Yh;intro j;simp only[Ua];cases hj:caps[j]? with
     |none=>
      grind
     |some i=> obtain⟨a,e1,e2⟩:=b4 j i hj;rw[e1];simp only[Pb,(hc i _ e2).1]
    simp only[trT,trV,this];exact WkT.refl _
   ·cases he
structure zml (P:Program) (s:VL I):Prop where
 unit:s.u=true-> ∀x y,s.enc x=s.enc y
 mat: ∀l m x m',s.mat l m=some (x,m')->SubM m m'/\(InjM m->InjM m')/\(s.enc x).length=l.length/\ ∀ρ ρ' h h' Z,Cmp ρ ρ' h h' Z m'-> ∀(j:Nat) a b,l[j]? =some a->(s.enc x)[j]? =some b->WkT Z (trT ρ h a) (trT ρ' h' b)
theorem zml.nil(P:Program):zml P (VL.nil I):=by
 refine⟨fun _ _ _=>rfl,fun l m x f c=> ?_⟩;simp only[VL.nil]at c;split at c
 ·cases c;exact⟨SubM.refl _,fun h=>h,rfl,fun i e h g Z _ j a b d=>by simp at d⟩
 ·cases c
theorem zml.cons{P:Program}{s:Shp I}{r:VL I}(hs:zvy P s)(hr:zml P r):zml P (VL.cons s r):=by
 have main: ∀(l:List (ET I.C)) (m:Mp) (x:s.T) (y:r.T) (m1 m':Mp) (a:ET I.C),s.mat a m=some (x,m1)->r.mat l m1=some (y,m')->SubM m m'/\(InjM m->InjM m')/\(s.enc x::r.enc y).length=(a::l).length/\
   ∀ρ ρ' h h' Z,Cmp ρ ρ' h h' Z m'-> ∀(j:Nat) a' b,(a::l)[j]? =some a'->(s.enc x::r.enc y)[j]? =some b->WkT Z (trT ρ h a') (trT ρ' h' b):=by
  intro l m x y m1 m' a h1 h2;obtain⟨s1,s2,s3⟩:=hs.mat a m x m1 h1;obtain⟨r1,r2,r3,r4⟩:=hr.mat l m1 y m' h2;refine⟨s1.trans r1,fun hi=>r2 (s2 hi),by simp[r3],fun ρ ρ' h h' Z hc j a' b ha hb=> ?_⟩;cases j with
  |zero=>simp at ha hb;subst ha;subst hb;exact s3 ρ ρ' h h' Z (hc.sub r1)
  |succ j=>grind
 unfold VL.cons;split
 ·rename_i hu;refine⟨fun h x y=>congrArg (s.enc s.dflt:: ·) (hr.unit h x y),fun l m x m' he=> ?_⟩;simp only at he;split at he
  ·cases he
  ·rename_i a l;obtain⟨p,h1,h2⟩:=Ba.1 he;obtain⟨x0,m1⟩:=p;have:=main l m x0 x m1 m' a h1 h2;rw[hs.unit hu x0 s.dflt]at this;exact this
 ·rename_i hu1 hu2;refine⟨fun h=>(by cases h),fun l m x m' he=> ?_⟩;simp only at he;split at he
  ·cases he
  ·rename_i a l;obtain⟨p,h1,h2⟩:=Ba.1 he;obtain⟨p2,h3,h4⟩:=Ba.1 h2;cases h4;obtain⟨x0,m1⟩:=p;obtain⟨y0,m2⟩:=p2;have:=main l m x0 y0 m1 m2 a h1 h3;rw[hr.unit hu2 y0 r.dflt]at this;exact this
 ·refine⟨fun h=>(by cases h),fun l m x m' he=> ?_⟩;simp only at he;split at he
  ·cases he
  ·rename_i a l;obtain⟨p,h1,h2⟩:=Ba.1 he;obtain⟨p2,h3,h4⟩:=Ba.1 h2
   grind
theorem fu{P:Program}(a:IpOK P I): ∀l:List Sh,zml P (vlOf I l)
 |[]=>zml.nil P
 |s::r=>zml.cons (zCr a s) (fu a r)
end
structure WkOZ (Z:Nat->Prop) (o o2:OB):Prop where
 ty:o2.ty=o.ty
 k:o2.k=o.k
 len:o2.rows.length=o.rows.length
 row: ∀(i:Nat) row row2,o.rows[i]? =some row->o2.rows[i]? =some row2->row2.length=row.length/\ ∀(j:Nat) x y,row[j]? =some x->row2[j]? =some y->WkZ Z x y
 raw:o2.raw=o.raw
theorem WkOZ.refl{Z:Nat->Prop}(o:OB):WkOZ Z o o:=⟨rfl,rfl,rfl,fun i d b e c=>by
 rw[e]at c;cases c;exact⟨rfl,fun j x y f a=>by rw[f]at a;cases a;exact WkZ.refl x⟩,rfl⟩
theorem Holds.wkZ{Z:Nat->Prop}{ι:Asg}{w:World}{o o2:OB}{b:Option Nat}(hZ: ∀z,Z z-> ∃k,ι z= .live none k)(hw:WkOZ Z o o2)(h:Holds ι w o b):Holds ι w o2 b:=by
 obtain⟨h1,h2⟩:=h;have rowAt: ∀(i:Nat) (row2:List CV),o2.rows[i]? =some row2-> ∃row,o.rows[i]? =some row:=by intro i row2 hi;have:=(Da.1 hi).1;exact⟨_,Ja (by rw[<-hw.len];exact this)⟩
 refine⟨fun row2 hr=> ?_,?_⟩
 ·obtain⟨i,hi,rfl⟩:=Sg hr;have hi2:o2.rows[i]? =some o2.rows[i]:=Ja hi;obtain⟨row,hrow⟩:=rowAt i _ hi2;rw[(hw.row i row _ hrow hi2).1,hw.k]
  grind
 ·rcases h2 with⟨h0,h2,h3⟩|⟨h0,b',cur,fr,e,h3,h4,h5,h6⟩|⟨h3,b',es,n,h4,h5,h6⟩
  ·exact .inl ⟨by rw[hw.raw,h0],h2,ib (by rw[hw.len,h3];rfl)⟩
  rotate_left
  ·exact .inr (.inr ⟨ib (by rw[hw.len,h3];rfl),b',es,n,by rw[hw.raw,h4],h5,h6⟩)
  ·refine .inr (.inl ⟨by rw[hw.raw,h0],b',cur,fr,e,by rw[hw.ty];exact h3,h4,by rw[hw.len,hw.k];exact h5,fun i row2 j y hi hj=> ?_⟩);obtain⟨row,hrow⟩:=rowAt i row2 hi;obtain⟨l1,l2⟩:=hw.row i row row2 hrow hi;have hjl:j<row.length:=by rw[<-l1];exact(Da.1 hj).1
   have hx:row[j]? =some row[j]:=Ja hjl;obtain⟨v,a1,a2,a3⟩:=h6 i row j _ hrow hx;exact⟨v,by rw[hw.k];exact a1,a2,(l2 j _ y hx hj).rep hZ a3⟩
section
variable {I:Ip} {P:Program}
theorem zY{h:Nat->Option (EO I.C)}{id:Nat}{o:EO I.C}(a:h id=some o):infO h id=infE o:=by simp only[infO,a];cases o<;>rfl
structure zrF (P:Program) (s:OShp I):Prop where
 unit:s.u=true-> ∀x y,s.enc x=s.enc y
 mat: ∀a m x m',s.mat a m=some (x,m')->SubM m m'/\(InjM m->InjM m')/\
  (∀o,a=some o->infE o=infE (s.enc x)/\ ∀ρ ρ' h h' Z,Cmp ρ ρ' h h' Z m'-> ∃ob ob',trO P ρ h o=some ob/\trO P ρ' h' (s.enc x)=some ob'/\WkOZ Z ob ob')/\
  (a=none-> ∃t,s.enc x= .sl t [])/\(∀t l,a=some (.sl t l)->s.enc x= .sl t l)/\((∀ty cs,a=some (.cells ty cs)-> ∃ty' cs',s.enc x= .cells ty' cs')/\ ∀t l1 cs l2,a=some (.slo t l1 cs l2)-> ∃cs',s.enc x= .slo t l1 cs' l2)
theorem JL{v:VL I}(hv:zml P v){t:Nat}{l1 l2:List (I.C t)}{cs:List (EV I.C)}{y:v.T}{m m':Mp}(he:v.mat (cs.map .c) m=some (y,m')):
  SubM m m'/\(InjM m->InjM m')/\ ∀ρ ρ' h h' Z,Cmp ρ ρ' h h' Z m'-> ∃ob ob',trO P ρ h (.slo t l1 cs l2)=some ob/\trO P ρ' h' (.slo t l1 ((v.enc y).map (evOf I)) l2)=some ob'/\WkOZ Z ob ob':=by
 obtain⟨m1,m2,m3,m4⟩:=hv.mat _ _ _ _ he;refine⟨m1,m2,fun ρ ρ' h h' Z hc=>⟨_,_,rfl,rfl,?_⟩⟩;rw[Xa]at m3;refine⟨rfl,rfl,by simp,fun i row row2 hr hr2=> ?_,rfl⟩;by_cases hi:i=l1.length
 ·rw[EA hi]at hr hr2;cases hr;cases hr2;refine⟨by grind,fun j a b ha hb=> ?_⟩;simp only[Ua]at ha hb;cases hj:cs[j]? with
  |none=>grind
  |some c=>
   cases hj2:(v.enc y)[j]? with
   |none=>grind
   |some d=>
    rw[hj]at ha;rw[hj2]at hb;cases ha;cases hb;have:=m4 ρ ρ' h h' Z hc j (.c c) d (by grind) hj2;cases d with
    |c d=>cases this with|c _ _ hw=>exact hw
    |agg ds=>cases this
 ·have hsame:row2=row:=by
   by_cases hlt:i<l1.length
   ·grind
   ·grind
  subst hsame;exact⟨rfl,fun j a b ha hb=>by rw[ha]at hb;cases hb;exact WkZ.refl _⟩
theorem lZ{v:VL I}(hv:zml P v)(t:Nat):zrF P (Rk t v):=by
 unfold Rk;split
 ·refine⟨fun h=>(by cases h),fun a m x m' he=> ?_⟩;rename_i hu;simp only at he;split at he
  ·rename_i u l1 cs l2;split at he
   ·rename_i k1 k2 hc1 hc2;obtain⟨rfl,hh⟩:=ZK hc1;cases hh;obtain⟨_,hh⟩:=ZK hc2;cases hh;obtain⟨⟨y,m1⟩,h1,h2⟩:=Ba.1 he;cases h2;obtain⟨q1,q2,q3⟩:=JL hv (l1:=l1) (l2:=l2) h1;refine⟨q1,q2,fun o ho=> ?_,fun h=>(by cases h),fun t l h=>(by cases h),fun ty cs h=>(by cases h),fun t m1 cs m2 h=>(by grind)⟩;cases ho;refine⟨rfl,fun ρ ρ' h h' Z hc=> ?_⟩;have:=q3 ρ ρ' h h' Z hc;rw[hv.unit hu y v.dflt]at this;exact this
   ·cases he
  ·cases he
 ·refine⟨fun h=>(by cases h),fun a m x m' he=> ?_⟩;simp only at he;split at he
  ·rename_i u l1 cs l2;split at he
   ·rename_i k1 k2 hc1 hc2;obtain⟨rfl,hh⟩:=ZK hc1;cases hh;obtain⟨_,hh⟩:=ZK hc2;cases hh;obtain⟨⟨y,m1⟩,h1,h2⟩:=Ba.1 he;cases h2;obtain⟨q1,q2,q3⟩:=JL hv (l1:=l1) (l2:=l2) h1;refine⟨q1,q2,fun o ho=> ?_,fun h=>(by cases h),fun t l h=>(by cases h),fun ty cs h=>(by cases h),fun t m1 cs m2 h=>(by grind)⟩;cases ho;exact⟨rfl,fun ρ ρ' h h' Z hc=>q3 ρ ρ' h h' Z hc⟩
   ·cases he
  ·cases he
theorem DX(hI:IpOK P I): ∀s:OSh,zrF P (s.shp I)
 | .slo t shs=>lZ (fu hI shs) t
 | .sl t=>⟨fun h=>(by cases h),fun a m x m' he=>by
   simp only[OSh.shp]at he;split at he
   ·split at he
    ·rename_i l hc;obtain⟨rfl,hh⟩:=ZK hc;cases hh;cases he;refine⟨SubM.refl _,fun h=>h,fun o ho=> ?_,fun h=>(by cases h),fun t l h=>(by cases h;rfl),fun ty cs h=>(by cases h),fun t m1 cs m2 h=>(by cases h)⟩;cases ho;exact⟨rfl,fun ρ ρ' h h' Z _=>⟨_,_,rfl,rfl,WkOZ.refl _⟩⟩
    ·cases he
   ·cases he;exact⟨SubM.refl _,fun h=>h,fun o ho=>(by cases ho),fun _=>⟨t,rfl⟩,fun t l h=>(by cases h),fun ty cs h=>(by cases h),fun t m1 cs m2 h=>(by cases h)⟩
   ·cases he⟩
 | .row t=>⟨fun h=>(by cases h),fun a m x m' he=>by
   simp only[OSh.shp]at he;split at he
   ·rename_i ty cs;obtain⟨h1,h2⟩:=zk he;have:=Cb h1;subst this;obtain⟨y,h3,h4⟩:=Ba.1 h2;cases h4;refine⟨SubM.refl _,fun h=>h,fun o ho=> ?_,fun h=>(by cases h),fun t l h=>(by cases h),fun ty cs h=>⟨_,_,rfl⟩,fun t m1 cs m2 h=>(by cases h)⟩;cases ho;refine⟨rfl,fun ρ ρ' h h' Z _=>⟨_,_,rfl,rfl,?_⟩⟩;have hw:=dV (ρ:=ρ) (ρ':=ρ') (h:=h) (h':=h') (Z:=Z) hI h3;simp only[trT]at hw;generalize hA:cs.map (trV ρ h)=A at hw;generalize hB:(I.exp ty x).map (trV ρ' h')=B at hw;cases hw with
    |agg _ _ hl hc=>
     refine⟨rfl,?_,rfl,fun i row row2 hr hr2=> ?_,rfl⟩
     ·grind
     grind
   ·cases he⟩
 | .cells ty shs=>⟨fun h x y=>by
   have:=(fu hI shs).unit h x y;exact congrArg (fun l=>EO.cells ty (l.map (evOf I))) this,fun a m x m' he=>by
   simp only[OSh.shp]at he;split at he
   ·rename_i ty' cs;obtain⟨h1,h2⟩:=zk he;have:=Cb h1;subst this;obtain⟨m1,m2,m3,m4⟩:=(fu hI shs).mat _ _ _ _ h2;refine⟨m1,m2,fun o ho=> ?_,fun h=>(by cases h),fun t l h=>(by cases h),fun ty cs h=>⟨_,_,rfl⟩,fun t m1 cs m2 h=>(by cases h)⟩;cases ho;refine⟨rfl,fun ρ ρ' h h' Z hc=>⟨_,_,rfl,rfl,?_⟩⟩;rw[Xa]at m3;refine⟨rfl,?_,rfl,fun i row row2 hr hr2=> ?_,rfl⟩
    ·grind
    ·cases i with
     |succ i=>simp at hr
     |zero=>
      simp only[Hd,Option.some.injEq]at hr hr2;subst hr;subst hr2;refine⟨by grind,fun j a b ha hb=> ?_⟩;simp only[Ua]at ha hb;cases hj:cs[j]? with
      |none=>grind
      |some c=>
       cases hj2:((vlOf I shs).enc x)[j]? with
       |none=>grind
       |some d=>
        rw[hj]at ha;rw[hj2]at hb;cases ha;cases hb;have:=m4 ρ ρ' h h' Z hc j (.c c) d (by grind) hj2;cases d with
        |c d=>cases this with|c _ _ hw=>exact hw
        |agg ds=>cases this
   ·cases he⟩
structure OLLaw (P:Program) (ids:List Nat) (s:OL I):Prop where
 unit:s.u=true-> ∀x y,s.enc x=s.enc y
 keys: ∀x,(s.enc x).map (·.1)=ids
 mat: ∀hp m x m',s.mat hp m=some (x,m')->SubM m m'/\(InjM m->InjM m')/\ ∀i o',(i,o')∈s.enc x->
  (∃a o,lk m' i=some (some a)/\hp a=some o/\infE o=infE o'/\(∀t l,o= .sl t l->o'= .sl t l)/\((∀ty cs,o= .cells ty cs-> ∃ty' cs',o'= .cells ty' cs')/\ ∀t l1 cs l2,o= .slo t l1 cs l2-> ∃cs',o'= .slo t l1 cs' l2)/\ ∀ρ ρ' h h' Z,Cmp ρ ρ' h h' Z m'-> ∃ob ob',trO P ρ h o=some ob/\trO P ρ' h' o'=some ob'/\WkOZ Z ob ob')\/
  (lk m' i=some none/\ ∃t,o'= .sl t [])
theorem OLLaw.nil:OLLaw P [] (OL.nil I):=
 ⟨fun _ _ _=>rfl,fun _=>rfl,fun e m x c b=>by
  cases b;exact⟨SubM.refl _,fun h=>h,fun i d a=>by cases a⟩⟩
theorem OLLaw.cons{i:Nat}{ids:List Nat}{s:OShp I}{r:OL I}(hs:zrF P s)(hr:OLLaw P ids r):OLLaw P (i::ids) (OL.cons i s r):=by
 have main: ∀(hp:Nat->Option (EO I.C)) (m:Mp) (a:Option (EO I.C)) (x:s.T) (y:r.T) (m1 m':Mp),Cu hp m i=some a->s.mat a m=some (x,m1)->r.mat hp m1=some (y,m')->SubM m m'/\(InjM m->InjM m')/\
   ∀j o',(j,o')∈(i,s.enc x)::r.enc y->(∃a o,lk m' j=some (some a)/\hp a=some o/\infE o=infE o'/\(∀t l,o= .sl t l->o'= .sl t l)/\((∀ty cs,o= .cells ty cs-> ∃ty' cs',o'= .cells ty' cs')/\ ∀t l1 cs l2,o= .slo t l1 cs l2-> ∃cs',o'= .slo t l1 cs' l2)/\ ∀ρ ρ' h h' Z,Cmp ρ ρ' h h' Z m'-> ∃ob ob',trO P ρ h o=some ob/\trO P ρ' h' o'=some ob'/\WkOZ Z ob ob')\/(lk m' j=some none/\ ∃t,o'= .sl t []):=by
  intro hp m a x y m1 m' ha h1 h2;obtain⟨s1,s2,s3,s4,s5,s6⟩:=hs.mat a m x m1 h1;obtain⟨r1,r2,r3⟩:=hr.mat hp m1 y m' h2;refine⟨s1.trans r1,fun hi=>r2 (s2 hi),fun j o' hm=> ?_⟩;rcases Ab.1 hm with hm|hm
  ·cases hm;unfold Cu at ha;split at ha
   ·rename_i b hb;split at ha
    ·rename_i o ho;cases ha;obtain⟨q1,q2⟩:=s3 o rfl;exact .inl ⟨b,o,r1 _ _ (s1 _ _ hb),ho,q1,fun t l e=>s5 t l (congrArg some e),⟨fun ty cs e=>s6.1 ty cs (congrArg some e),fun t l1 cs l2 e=>s6.2 t l1 cs l2 (congrArg some e)⟩,fun ρ ρ' h h' Z hc=>q2 ρ ρ' h h' Z (hc.sub r1)⟩
    ·cases ha
   ·rename_i hb;cases ha;exact .inr ⟨r1 _ _ (s1 _ _ hb),s4 rfl⟩
   ·cases ha
  ·exact r3 j o' hm
 unfold OL.cons;split
 ·rename_i hu;refine⟨fun h x y=>congrArg ((i,s.enc s.dflt):: ·) (hr.unit h x y),fun x=>congrArg (i:: ·) (hr.keys x),fun hp m x m' he=> ?_⟩;simp only at he;split at he
  ·cases he
  ·rename_i a ha;obtain⟨⟨x0,m1⟩,h1,h2⟩:=Ba.1 he;have:=main hp m a x0 x m1 m' ha h1 h2;rw[hs.unit hu x0 s.dflt]at this;exact this
 ·rename_i hu1 hu2;refine⟨fun h=>(by cases h),fun x=>congrArg (i:: ·) (hr.keys r.dflt),fun hp m x m' he=> ?_⟩;simp only at he;split at he
  ·cases he
  ·rename_i a ha;obtain⟨⟨x0,m1⟩,h1,h2⟩:=Ba.1 he;obtain⟨⟨y0,m2⟩,h3,h4⟩:=Ba.1 h2;cases h4;have:=main hp m a x0 y0 m1 m2 ha h1 h3;rw[hr.unit hu2 y0 r.dflt]at this;exact this
 ·refine⟨fun h=>(by cases h),fun x=>congrArg (i:: ·) (hr.keys x.2),fun hp m x m' he=> ?_⟩;simp only at he;split at he
  ·cases he
  ·rename_i a ha;obtain⟨⟨x0,m1⟩,h1,h2⟩:=Ba.1 he;obtain⟨⟨y0,m2⟩,h3,h4⟩:=Ba.1 h2
   grind
theorem nV(a:IpOK P I): ∀l:List (Nat×OSh),OLLaw P (l.map (·.1)) (olOf I l)
 |[]=>OLLaw.nil
 |(i,s)::r=>OLLaw.cons (DX a s) (nV a r)
structure SLLaw (P:Program) (sh:StSh):Prop where
 keys: ∀x,((sh.sl I).enc x).2.map (·.1)=sh.objs.map (·.1)
 mat: ∀l hp m x m',(sh.sl I).mat l hp m=some (x,m')->SubM m m'/\(InjM m->InjM m')/\((sh.sl I).enc x).1.length=l.length/\
  (∀ρ ρ' h h' Z,Cmp ρ ρ' h h' Z m'-> ∀(j:Nat) a b,l[j]? =some a->((sh.sl I).enc x).1[j]? =some b->WkT Z (trT ρ h a) (trT ρ' h' b))/\
  ∀i o',(i,o')∈((sh.sl I).enc x).2->(∃a o,lk m' i=some (some a)/\hp a=some o/\infE o=infE o'/\(∀t l,o= .sl t l->o'= .sl t l)/\((∀ty cs,o= .cells ty cs-> ∃ty' cs',o'= .cells ty' cs')/\ ∀t l1 cs l2,o= .slo t l1 cs l2-> ∃cs',o'= .slo t l1 cs' l2)/\ ∀ρ ρ' h h' Z,Cmp ρ ρ' h h' Z m'-> ∃ob ob',trO P ρ h o=some ob/\trO P ρ' h' o'=some ob'/\WkOZ Z ob ob')\/
   (lk m' i=some none/\ ∃t,o'= .sl t [])
theorem Sn(hI:IpOK P I)(sh:StSh):SLLaw (I:=I) P sh:=by
 have hV:=fu hI sh.vals;have hO:=nV hI sh.objs;have main: ∀(l:List (ET I.C)) (hp:Nat->Option (EO I.C)) (m m1 m':Mp) (x:(vlOf I sh.vals).T) (y:(olOf I sh.objs).T),(vlOf I sh.vals).mat l m=some (x,m1)->(olOf I sh.objs).mat hp m1=some (y,m')->SubM m m'/\(InjM m->InjM m')/\((vlOf I sh.vals).enc x).length=l.length/\
   (∀ρ ρ' h h' Z,Cmp ρ ρ' h h' Z m'-> ∀(j:Nat) a b,l[j]? =some a->((vlOf I sh.vals).enc x)[j]? =some b->WkT Z (trT ρ h a) (trT ρ' h' b))/\
   ∀i o',(i,o')∈(olOf I sh.objs).enc y->(∃a o,lk m' i=some (some a)/\hp a=some o/\infE o=infE o'/\(∀t l,o= .sl t l->o'= .sl t l)/\((∀ty cs,o= .cells ty cs-> ∃ty' cs',o'= .cells ty' cs')/\ ∀t l1 cs l2,o= .slo t l1 cs l2-> ∃cs',o'= .slo t l1 cs' l2)/\ ∀ρ ρ' h h' Z,Cmp ρ ρ' h h' Z m'-> ∃ob ob',trO P ρ h o=some ob/\trO P ρ' h' o'=some ob'/\WkOZ Z ob ob')\/
    (lk m' i=some none/\ ∃t,o'= .sl t []):=by
  intro l hp m m1 m' x y h1 h2;obtain⟨v1,v2,v3,v4⟩:=hV.mat l m x m1 h1;obtain⟨o1,o2,o3⟩:=hO.mat hp m1 y m' h2;exact⟨v1.trans o1,fun hi=>o2 (v2 hi),v3,fun ρ ρ' h h' Z hc=>v4 ρ ρ' h h' Z (hc.sub o1),o3⟩
 constructor
 ·unfold StSh.sl;split
  ·exact fun x=>hO.keys x
  ·exact fun x=>hO.keys (olOf I sh.objs).dflt
  ·exact fun x=>hO.keys x.2
 ·unfold StSh.sl;split
  ·rename_i hu;intro l hp m x m' he;obtain⟨⟨x0,m1⟩,h1,h2⟩:=Ba.1 he;have:=main l hp m m1 m' x0 x h1 h2;rw[hV.unit hu x0 (vlOf I sh.vals).dflt]at this;exact this
  ·rename_i hu1 hu2;intro l hp m x m' he;obtain⟨⟨x0,m1⟩,h1,h2⟩:=Ba.1 he;obtain⟨⟨y0,m2⟩,h3,h4⟩:=Ba.1 h2;cases h4;have:=main l hp m m1 m2 x0 y0 h1 h3;rw[hO.unit hu2 y0 (olOf I sh.objs).dflt]at this;exact this
  ·intro l hp m x m' he;obtain⟨⟨x0,m1⟩,h1,h2⟩:=Ba.1 he;obtain⟨⟨y0,m2⟩,h3,h4⟩:=Ba.1 h2
   grind
end
section
variable {P:Program}
theorem zc8.wk {f:FuncId} {args c:List TV} {rd l:List (Nat×OB)} {nx k:Nat} {val:LV} {up m:List (Nat×Option OB)} (h:zc8 P f args rd nx k val up)
  (J:c.length=args.length) (ha: ∀(j:Nat) a b,c[j]? =some a->args[j]? =some b->WkT (fun _=>False) a b)
  (G: ∀get:Get,(∀p∈l,get p.1=some p.2)-> ∃d:Get,(∀p∈rd,d p.1=some p.2)/\(∀id,(get id=none/\d id=none)\/ ∃o A,get id=some o/\d id=some A/\WkOZ (fun _=>False) o A)/\upd d up=upd get m):
  zc8 P f c l nx k val m:=by
 refine⟨h.fn,fun q get w N M n W D g V=> ?_⟩;obtain⟨d,S,K,g3⟩:=G get V;have R: ∀z,(fun _:Nat=>False) z-> ∃k,q z= .live none k:=fun z X=>X.elim;have x:Rel q d w:=by
  refine⟨fun id A E=> ?_,fun id E=> ?_,n.inj,n.glob⟩
  ·rcases K id with⟨_,F⟩|⟨o,C,r,F,L⟩
   ·grind
   ·rw[F]at E;cases E;obtain⟨b,y,B⟩:=n.live id o r;exact⟨b,by rw[L.k];exact y,B.wkZ R L⟩
  ·rcases K id with⟨r,_⟩|⟨o,C,_,F,_⟩
   ·exact n.gone id r
   grind
 have i:Ai q w args M:=by
  refine⟨by rw[g.1,J],fun j t O=> ?_⟩;have s:j<c.length:=by rw[J];exact(Da.1 O).1
  have Q:c[j]? =some c[j]:=Ja s;obtain⟨u,y,B⟩:=g.2 j _ Q;exact⟨u,y,(ha j _ t Q O).rep R B⟩
 refine(h.ok q d w N M x W D i S).mono fun e w' ⟨v,Z,H,q1,U,Y,T⟩=>⟨v,Z,H,?_,U,Y,T⟩
 grind
end
section
variable {I:Ip}
def hOut(con:Con I)(a b:EHeap I.C):Nat->Option (EO I.C):=fun id=>match lk b id with
 |some o=>some o
 |none=>match lk a id with
  |some o=>cond (memN id con.cst) (some o) (some (Nh (some o)))
  |none=>none
structure zn (P:Program) (con:Con I):Prop where
 wf:Ei con=true
 ok: ∀x y,con.F x=some y-> ∀(ρ:Nat->Nat) (nx:Nat),(∀i j,i<con.inS.objs.length->j<con.inS.objs.length->ρ i=ρ j->i=j)->(∀i,i<con.inS.objs.length->ρ i<nx\/nx+con.k<=ρ i)->(∀j,ρ (con.inS.objs.length+j)=nx+j)->
  zc8 P con.f (((con.inS.sl I).enc x).1.map (trT ρ (lk ((con.inS.sl I).enc x).2))) (((con.inS.sl I).enc x).2.filterMap fun o=>(trO P ρ (lk ((con.inS.sl I).enc x).2) o.2).map fun ob=>(ρ o.1,ob)) nx con.k
   (valOf (((con.outS.sl I).enc y).1.map (trT ρ (hOut con ((con.inS.sl I).enc x).2 ((con.outS.sl I).enc y).2))))
   ((((con.outS.sl I).enc y).2.map fun o=>(ρ o.1,trO P ρ (hOut con ((con.inS.sl I).enc x).2 ((con.outS.sl I).enc y).2) o.2))++
    ((con.inS.objs.filter fun o=> !(memN o.1 con.cst||memN o.1 (con.outS.objs.map (·.1)))).map fun o=>(ρ o.1,none)))
theorem ZB{i:Nat}: ∀{l:List Nat},memN i l=true↔i∈l
 |[]=>by simp[memN]
 |j::r=>by
  simp only[memN,Ab];by_cases hij:i=j
  ·simp_all
  ·have:Nat.beq i j=false:=by
    cases hb:Nat.beq i j with
    |false=>rfl
    |true=>simp_all
   rw[this];simp only[Ha,hij,false_or];exact ZB
theorem CQ{i:Nat}{l:List Nat}(h:memN i l=false):i ∉ l:=fun a=>by rw[ZB.2 a]at h;cases h
theorem mq: ∀{a b:List Nat},eqN a b=true->a=b
 |[],[],_=>rfl
 |[],_::_,h=>by cases h
 |_::_,[],h=>by cases h
 |i::r,j::s,h=>by simp only[eqN,Ca]at h;rw[Cb h.1,mq h.2]
theorem QA{a b:List Nat}:subN a b=true↔ ∀i∈a,i∈b:=by simp only[subN,Ta,ZB]
theorem zCq{P:Program}(hI:IpOK P I)(s:Sh)(x:(s.shp I).T): ∀i∈Ql ((s.shp I).enc x),i∈Ui s:=by
 have pur: ∀(l:List (EV I.C)),(∀v∈l,Ul v=true)-> ∀i,i ∉ l.flatMap Zb:=by intro l hl i hi;obtain⟨v,hv,hi⟩:=Ib.1 hi;have:=hl v hv;cases v<;>first|(simp[Zb]at hi;done)|(cases this;done)
 cases s<;>intro i hi
 case int=>simp[Sh.shp,Ql,Zb]at hi
 case bool=>simp[Sh.shp,Ql,Zb]at hi
 case str=>simp[Sh.shp,Ql,Zb]at hi
 case sl=>simp[Sh.shp,Ql,Zb]at hi
 case val t=>exact absurd hi (pur _ (hI.pur t x) i)
 case ptr=>simp[Sh.shp,Ql,Zb]at hi
 case nilp=>simp[Sh.shp,Pi,Ql,Zb]at hi
 case nilv=>simp[Sh.shp,Pi,Ql,Zb]at hi
 case own=>simpa [Sh.shp,Pi,Ql,Zb,Ui] using hi
 case optr=>simpa [Sh.shp,Pi,Ql,Zb,Ui] using hi
 case clo f caps=>simpa [Sh.shp,Pi,Ql,Zb,Ui] using hi
theorem Fv{P:Program}(d:IpOK P I): ∀(l:List Sh) (x:(vlOf I l).T),∀t∈(vlOf I l).enc x,∀i∈Ql t,i∈l.flatMap Ui
 |[],x,t,e,i,g=>by cases e
 |s::r,x,t,e,i,g=>by
  have h:=zCq d s;have j:=Fv d r;have f: ∀(a:(s.shp I).T) (b:(vlOf I r).T),t∈(s.shp I).enc a::(vlOf I r).enc b->i∈(s::r).flatMap Ui:=by
   intro a b c;rw[List.flatMap_cons];rcases Ab.1 c with c|c
   ·grind
   ·grind
  revert x;show∀x:(VL.cons (s.shp I) (vlOf I r)).T,t∈(VL.cons (s.shp I) (vlOf I r)).enc x->_;unfold VL.cons;split
  ·grind
  ·grind
  ·grind
theorem MQ(t:ET I.C): ∀i∈Zb (evOf I t),i∈Ql t:=by
 cases t with
 |c x=>exact fun i a=>a
 |agg b=>intro i a;simp[evOf,Zb]at a
theorem lY{P:Program}(hI:IpOK P I)(s:OSh)(x:(s.shp I).T): ∀i∈yh ((s.shp I).enc x),i∈Vv s:=by
 cases s with
 |slo t shs=>
  intro i hi;have key: ∀(l:List (ET I.C)),(∀t∈l,∀j∈Ql t,j∈shs.flatMap Ui)->i∈(l.map (evOf I)).flatMap Zb->i∈shs.flatMap Ui:=by intro l hl hi;obtain⟨v,hv,hi⟩:=Ib.1 hi;obtain⟨t,ht,rfl⟩:=Ka.1 hv;exact hl t ht i (MQ t i hi)
  revert x;show∀x:(Rk t (vlOf I shs)).T,i∈yh ((Rk t (vlOf I shs)).enc x)->_;unfold Rk;split
  ·exact fun x hi=>key _ (fun t ht=>Fv hI shs _ t ht) hi
  ·exact fun x hi=>key _ (fun t ht=>Fv hI shs _ t ht) hi
 |sl t=>intro i hi;simp[OSh.shp,yh]at hi
 |row t=>
  intro i hi;exfalso;obtain⟨v,hv,hi⟩:=Ib.1 (show i∈(I.exp t x).flatMap Zb from hi);have:=hI.pur t x v hv;cases v<;>first|(simp[Zb]at hi;done)|(cases this;done)
 |cells ty shs=> intro i hi;obtain⟨v,hv,hi⟩:=Ib.1 (show i∈(((vlOf I shs).enc x).map (evOf I)).flatMap Zb from hi);obtain⟨t,ht,rfl⟩:=Ka.1 hv;exact Fv hI shs x t ht i (MQ t i hi)
theorem tK{P:Program}(d:IpOK P I): ∀(l:List (Nat×OSh)) (x:(olOf I l).T),∀o∈(olOf I l).enc x,∀i∈yh o.2,i∈l.flatMap fun o=>Vv o.2
 |[],x,t,e,i,g=>by cases e
 |(n,s)::r,x,t,e,i,g=>by
  have h:=lY d s;have j:=tK d r;have f: ∀(a:(s.shp I).T) (b:(olOf I r).T),t∈(n,(s.shp I).enc a)::(olOf I r).enc b->i∈((n,s)::r).flatMap fun o=>Vv o.2:=by
   intro a b c;rw[List.flatMap_cons];rcases Ab.1 c with c|c
   ·grind
   ·grind
  revert x;show∀x:(OL.cons n (s.shp I) (olOf I r)).T,t∈(OL.cons n (s.shp I) (olOf I r)).enc x->_;unfold OL.cons;split
  ·grind
  ·grind
  ·grind
theorem VA{P:Program}(d:IpOK P I)(a:StSh)(x:(a.sl I).T):(∀t∈((a.sl I).enc x).1,∀i∈Ql t,i∈a.vals.flatMap Ui)/\(∀o∈((a.sl I).enc x).2,∀i∈yh o.2,i∈a.objs.flatMap fun o=>Vv o.2):=by
 have c:=Fv d a.vals;have b:=tK d a.objs;revert x;unfold StSh.sl;split
 ·exact fun x=>⟨c _,b x⟩
 ·exact fun x=>⟨c x,b _⟩
 ·exact fun x=>⟨c x.1,b x.2⟩
theorem O7(v:VL I)(t:Nat): ∀a:(Rk t v).T,∃l1 cs l2,(Rk t v).enc a= .slo t l1 cs l2:=by
 unfold Rk;split
 ·grind
 grind
theorem uK: ∀(l:List (Nat×OSh)) (x:(olOf I l).T),∀o∈(olOf I l).enc x,∃s,(o.1,s)∈l/\((∃t c,o.2= .sl t c/\Mh s=true)\/(∃ty cs,o.2= .cells ty cs/\Mh s=false)\/(∃t l1 cs l2 d,s= .slo t d/\o.2= .slo t l1 cs l2))
 |[],x,o,h=>by cases h
 |(n,s)::r,x,o,h=>by
  have j:=uK r;have i: ∀(a:(s.shp I).T) (b:(olOf I r).T),o∈(n,(s.shp I).enc a)::(olOf I r).enc b-> ∃f,(o.1,f)∈(n,s)::r/\((∃t c,o.2= .sl t c/\Mh f=true)\/(∃ty cs,o.2= .cells ty cs/\Mh f=false)\/(∃t l1 cs l2 d,f= .slo t d/\o.2= .slo t l1 cs l2)):=by
   intro a b g;rcases Ab.1 g with g|g
   ·subst g;refine⟨s,Nb ..,?_⟩;cases s with
    |sl t=>exact .inl ⟨_,_,rfl,rfl⟩
    |row t=>exact .inr (.inl ⟨_,_,rfl,rfl⟩)
    |cells ty d=>exact .inr (.inl ⟨_,_,rfl,rfl⟩)
    |slo t d=> obtain⟨l1,cs,l2,e⟩:=O7 (vlOf I d) t a;exact .inr (.inr ⟨t,l1,cs,l2,d,rfl,e⟩)
   ·grind
  revert x;show∀x:(OL.cons n (s.shp I) (olOf I r)).T,o∈(OL.cons n (s.shp I) (olOf I r)).enc x->_;unfold OL.cons;split
  ·grind
  ·grind
  grind
theorem Hm(a:StSh)(x:(a.sl I).T): ∀o∈((a.sl I).enc x).2,∃s,(o.1,s)∈a.objs/\((∃t c,o.2= .sl t c/\Mh s=true)\/(∃ty cs,o.2= .cells ty cs/\Mh s=false)\/(∃t l1 cs l2 b,s= .slo t b/\o.2= .slo t l1 cs l2)):=by
 have d:=uK (I:=I) a.objs;revert x;unfold StSh.sl;split
 ·grind
 ·grind
 grind
end
section
variable {I:Ip} {P:Program}
def Tj(a b:Option (Nat ⊕ List (List PV))):Prop:=b=a\/(a=none/\b=some (.inl 0))
theorem xz{ρ ρ' f:Nat->Nat}{h h':Nat->Option (EO I.C)}{x:EV I.C}(hρ: ∀i∈Zb x,ρ' i=ρ (f i))(hi: ∀i∈Zb x,Tj (infO h' i) (infO h (f i))):trV ρ h (rnV f x)=trV ρ' h' x:=by
 cases x with
 |own id=>
  have h1:=hρ id (by simp[Zb]);have h2:=hi id (by simp[Zb]);simp only[rnV];rw[Oi,Oi,h1];rcases h2 with h2|⟨h2,h3⟩
  ·rw[h2]
  ·rw[h2,h3]
 |osl id off n=>simp only[rnV,trV,hρ id (by simp[Zb])]
 |optr id r c=>simp only[rnV,trV,hρ id (by simp[Zb])]
 |mref id=>simp only[rnV,trV,hρ id (by simp[Zb])]
 |clo g caps=> simp only[rnV,trV,Ob];congr 1;refine Na fun q hq=> ?_;have:=hρ q.1 (by simp only[Zb,Ka];grind);simp[this]
 |_=>rfl
theorem zCv{ρ ρ' f:Nat->Nat}{h h':Nat->Option (EO I.C)}{x:ET I.C}(b: ∀i∈Ql x,ρ' i=ρ (f i))(hi: ∀i∈Ql x,Tj (infO h' i) (infO h (f i))):trT ρ h (rnET f x)=trT ρ' h' x:=by
 cases x with
 |c x=>exact congrArg TV.c (xz b hi)
 |agg g=> simp only[rnET,trT,Ob];congr 1;exact Na fun v d=>xz (fun i a=>b i (Ib.2 ⟨v,d,a⟩)) (fun i a=>hi i (Ib.2 ⟨v,d,a⟩))
theorem mK{ρ ρ' f:Nat->Nat}{h h':Nat->Option (EO I.C)}{o:EO I.C}(hρ: ∀i∈yh o,ρ' i=ρ (f i))(hi: ∀i∈yh o,Tj (infO h' i) (infO h (f i))):trO P ρ h (rnEO f o)=trO P ρ' h' o:=by
 cases o with
 |cells ty cs=> simp only[rnEO,trO,Xa,Ob];have:cs.map (trV ρ h∘rnV f)=cs.map (trV ρ' h'):=Na fun v hv=>xz (fun i hi'=>hρ i (Ib.2 ⟨v,hv,hi'⟩)) (fun i hi'=>hi i (Ib.2 ⟨v,hv,hi'⟩));rw[this]
 |slo t l1 cs l2=> simp only[rnEO,trO,Ob];have:cs.map (trV ρ h∘rnV f)=cs.map (trV ρ' h'):=Na fun v hv=>xz (fun i hi'=>hρ i (Ib.2 ⟨v,hv,hi'⟩)) (fun i hi'=>hi i (Ib.2 ⟨v,hv,hi'⟩));rw[this]
 |_=>rfl
theorem LA(f:Nat->Nat)(o:EO I.C):infE (rnEO f o)=infE o:=by cases o<;>rfl
theorem WN{ρ:Nat->Nat}{h:Nat->Option (EO I.C)}{t:Nat}{l1 l2:List (I.C t)}{cs:List (EV I.C)}:trO P ρ h (.slo t l1 (cs.map (nrmV h)) l2)=trO P ρ h (.slo t l1 cs l2):=by simp only[trO,Ob];have:cs.map (trV ρ h∘nrmV h)=cs.map (trV ρ h):=Na fun v _=>Wv v;rw[this]
theorem nK{ρ:Nat->Nat}{h:Nat->Option (EO I.C)}{ty:Nat}{cs:List (EV I.C)}:trO P ρ h (.cells ty (cs.map (nrmV h)))=trO P ρ h (.cells ty cs):=by simp only[trO,Xa,Ob];have:cs.map (trV ρ h∘nrmV h)=cs.map (trV ρ h):=Na fun v _=>Wv v;rw[this]
theorem Sz{α b:Type}{f:Nat->Nat}{g:α->b}: ∀{l:List (Nat×α)} {i:Nat},(∀o∈l,f o.1=f i->o.1=i)->lk (l.map fun o=>(f o.1,g o.2)) (f i)=(lk l i).map g
 |[],i,_=>rfl
 |(j,x)::r,i,h=>by
  simp only[ja];rw[Zg,Zg];by_cases a:i=j
  ·grind
  ·rw[Ga a,Ga (fun e=>a (h (j,x) (Nb ..) e.symm).symm)];exact Sz (fun o c=>h o (Eb _ c))
theorem Sv{α:Type}: ∀{l:List (Nat×α)} {i:Nat},(∀o∈l,o.1≠i)->lk l i=none
 |[],i,_=>rfl
 |(j,x)::r,i,h=>by rw[Zg,Ga (fun e=>h (j,x) (Nb ..) e.symm)];exact Sv (fun o a=>h o (Eb _ a))
theorem qb{α:Type}: ∀(l m:List (Nat×α)) (i:Nat),lk (l++m) i=(match lk l i with|some x=>some x|none=>lk m i)
 |[],m,i=>rfl
 |(j,x)::r,m,i=>by
  simp only[ma];rw[Zg,Zg];by_cases a:i=j
  ·grind
  ·rw[Ga a,Ga a];exact qb r m i
theorem Zi{α:Type}: ∀{l:List (Nat×α)} {i:Nat},i∈l.map (·.1)-> ∃x,lk l i=some x
 |[],i,h=>by cases h
 |(j,x)::r,i,h=>by
  rw[Zg];by_cases a:i=j
  ·simp_all
  ·rw[Ga a];simp only[ja,Ab]at h;exact Zi (h.resolve_left a)
theorem Xx(get:Get): ∀(a b:List (Nat×Option OB)),upd get (a++b)=upd (upd get b) a
 |[],b=>rfl
 |(i,o)::r,b=>by funext j;simp only[ma,upd];rw[Xx get r b]
theorem gK{get get':Get}: ∀{a:List (Nat×Option OB)} {j:Nat},j∈a.map (·.1)->upd get a j=upd get' a j
 |[],j,h=>by cases h
 |(i,o)::r,j,h=>by
  simp only[upd];by_cases b:j=i
  ·grind
  ·rw[Ga b,Ga b];simp only[ja,Ab]at h;exact gK (h.resolve_left b)
theorem KX{x y:CV}(f:x≠ .p (.at (.slice none 0 0)))(c:WkZ (fun _=>False) x y):y=x:=by
 rcases c with c|⟨z,d,_⟩
 ·rcases c with rfl|⟨a,b,rfl,rfl,c⟩
  ·rfl
  ·cases c with
   |refl=>rfl
   |nil=>grind
 ·exact d.elim
theorem JX{ρ:Nat->Nat}{h:Nat->Option (EO I.C)}{x:EV I.C}(b:Gq x=false):trV ρ h x≠ .p (.at (.slice none 0 0)):=by
 intro a;cases x with
 |nil=>cases b
 |raw v=>
  simp only[trV,pvE,CV.p.injEq,PV.at.injEq]at a;subst a;cases b
 |own id=>rw[Oi]at a;grind
 |_=>cases a
theorem zD9{o d:OB}(v:WkOZ (fun _=>False) o d)(m: ∀row∈o.rows,∀x∈row,x≠ .p (.at (.slice none 0 0))):d=o:=by
 obtain⟨y,k,rows⟩:=o;obtain⟨u,z,a⟩:=d;obtain⟨l,s,r,n⟩:=v;simp only at l s r n m;subst l;subst s;congr 1;apply Yh;intro i;cases g:rows[i]? with
 |none=>
  grind
 |some row=>
  have h:i<a.length:=by rw[r];exact(Da.1 g).1
  have b:a[i]? =some a[i]:=Ja h;rw[b];obtain⟨t,w⟩:=n i row _ g b;congr 1;apply Yh;intro j;cases f:row[j]? with
  |none=>
   grind
  |some x=>
   have c:j<(a[i]).length:=by rw[t];exact(Da.1 f).1
   have q:(a[i])[j]? =some (a[i])[j]:=Ja c;rw[q];exact congrArg some (KX (m row (Va g) x (Va f)) (w j x _ f q))
end
section
variable {P:Program} {I:Ip} {X:Cx I} {ρ:Nat->Nat} {G:Get} {st:ES I.C} {e:Env} {lh:LH}
theorem ZJ{a b:Nat}:Nat.blt a b=true↔a<b:=by simp[Nat.blt_eq]
theorem Dl{α:Type}: ∀{l:List (Nat×α)} {i:Nat} {x:α},(l.map (·.1)).Nodup->(i,x)∈l->lk l i=some x
 |[],i,x,_,h=>by cases h
 |(j,y)::r,i,x,a,h=>by
  rw[Zg];simp only[ja,List.nodup_cons]at a;rcases Ab.1 h with h|h
  ·grind
  ·rw[Ga (fun e=>a.1 (Ka.2 ⟨(i,x),h,e⟩))];exact Dl a.2 h
theorem TM{α b:Type}{F:Nat->b}: ∀{l:List (Nat×α)} {i:Nat},i∈l.map (·.1)->lk (l.map fun o=>(o.1,F o.1)) i=some (F i)
 |[],i,h=>by cases h
 |(j,y)::r,i,h=>by
  simp only[ja];rw[Zg];by_cases a:i=j
  ·grind
  ·rw[Ga a];simp only[ja,Ab]at h;exact TM (h.resolve_left a)
theorem iK{get:Get}{a:Nat->Nat}{v:Nat->Option OB}: ∀{l:List Nat} {i:Nat},i∈l->(∀j∈l,a j=a i->j=i)->upd get (l.map fun i=>(a i,v i)) (a i)=v i
 |[],i,h,_=>by cases h
 |j::r,i,h,c=>by
  simp only[ja,upd];by_cases b:a i=a j
  ·grind
  ·rw[Ga b];rcases Ab.1 h with h|h
   ·grind
   ·exact iK h (fun j d=>c j (Eb _ d))
theorem wO: ∀{m:Mp},Cg m=[]-> ∀i,lk m i≠some none
 |[],_,i,h=>by cases h
 |(j,none)::r,b,i,h=>by simp[Cg]at b
 |(j,some a)::r,b,i,h=>by
  rw[Zg]at h;split at h
  ·cases h
  ·exact wO (m:=r) (by simpa [Cg] using b) i h
theorem U1 (hI:IpOK P I) (hv:Vw P X ρ G st e lh) {con:Con I} (hc:zn P con) {as:List (ET I.C)} {x:(con.inS.sl I).T} {m:Mp} (hm:(con.inS.sl I).mat as (nrmH (lkO X st)) []=some (x,m))
  (hb:(m.all fun z=>Nat.blt z.1 con.inS.objs.length)=true) (hn:Cg m=[]) {y:(con.outS.sl I).T} (hF:con.F x=some y):
  ∃rd0,zc8 P con.f (as.map (trT ρ (lkO X st))) rd0 lh.next con.k (trL ρ (aft (lkO X st) (lg con (lkO X st) st.next m x y).up) (lkE X st) (lg con (lkO X st) st.next m x y).val) (trU P ρ (aft (lkO X st) (lg con (lkO X st) st.next m x y).up) (lg con (lkO X st) st.next m x y).up)/\
   (∀p∈rd0,lh.get p.1=some p.2)/\(∀p∈rd0,p.1∈(lg con (lkO X st) st.next m x y).rd.map ρ)/\Np (lkO X st) (lg con (lkO X st) st.next m x y).up:=by
 generalize hh:lkO X st=h at*;obtain⟨L0,L1⟩:=Sn (P:=P) hI con.inS;obtain⟨l1,l2,l3,l4,l5⟩:=L1 as (nrmH h) [] x m hm;have hinj:InjM m:=l2 (fun i j a h=>by cases h);have hkin:=L0 x;obtain⟨kout,_⟩:=Sn (P:=P) hI con.outS;have hkout:=kout y;have wf:=hc.wf;simp only[Ei,Ca,jb]at wf;obtain⟨⟨⟨⟨⟨⟨⟨w1,w2⟩,w3⟩,w4⟩,w5⟩,w6⟩,w7⟩,w8⟩:=wf;have w1:=mq w1;have w6:=mq w6;have w4:=QA.1 w4;simp only[wfSt,Ca]at w2 w3;have w2a:=QA.1 w2.1;have w2b:=QA.1 w2.2;have w3a:=QA.1 w3.1;have w3b:=QA.1 w3.2;generalize hp:con.inS.objs.length=p at*;generalize ha:(con.inS.sl I).enc x=a at*;generalize hbb:(con.outS.sl I).enc y=b at*
 -- the objects that came in
 have inAt: ∀i,i<p-> ∃o',lk a.2 i=some o'/\(i,o')∈a.2:=by
  intro i hi;have:i∈a.2.map (·.1):=by rw[hkin,w1];exact Kc.2 hi
  obtain⟨o',ho⟩:=Zi this;exact⟨o',ho,Zc ho⟩
 have act: ∀i,i<p-> ∃c o o',lk a.2 i=some o'/\lk m i=some (some c)/\h c=some o/\infE o=infE o'/\(∀t l,o= .sl t l->o'= .sl t l)/\((∀ty cs,o= .cells ty cs-> ∃ty' cs',o'= .cells ty' cs')/\ ∀t l1 cs l2,o= .slo t l1 cs l2-> ∃cs',o'= .slo t l1 cs' l2)/\
   (∀ρ' h',Cmp ρ ρ' h h' (fun _=>False) m-> ∃ob ob',trO P ρ h o=some ob/\trO P ρ' h' o'=some ob'/\WkOZ (fun _=>False) ob ob'):=by
  intro i hi;obtain⟨o',h1,h2⟩:=inAt i hi;rcases l5 i o' h2 with⟨c,on,k1,k2,k3,k4,k5,k6⟩|⟨k1,_⟩
  ·unfold nrmH at k2;cases hhc:h c with
   |none=>rw[hhc]at k2;cases k2
   |some o=>
    rw[hhc]at k2;cases o with
    |cells ty cs=>
     simp only[Option.some.injEq]at k2;subst k2;refine⟨c,_,o',h1,k1,hhc,k3,fun t l e=>(by cases e),⟨fun ty2 cs2 e=>k5.1 _ _ rfl,fun t l1 cs l2 e=>(by cases e)⟩,fun ρ' h' hcm=> ?_⟩;obtain⟨ob,ob',q1,q2,q3⟩:=k6 ρ ρ' h h' (fun _=>False) hcm;exact⟨ob,ob',by rw[<-nK];exact q1,q2,q3⟩
    |sl t l=>
     simp only[Option.some.injEq]at k2;subst k2;exact⟨c,_,o',h1,k1,hhc,k3,k4,⟨fun ty2 cs2 e=>(by cases e),fun t l1 cs l2 e=>(by cases e)⟩,fun ρ' h' hcm=>k6 ρ ρ' h h' _ hcm⟩
    |dead n=>
     simp only[Option.some.injEq]at k2;subst k2;exact⟨c,_,o',h1,k1,hhc,k3,k4,⟨fun ty2 cs2 e=>(by cases e),fun t l1 cs l2 e=>(by cases e)⟩,fun ρ' h' hcm=>k6 ρ ρ' h h' _ hcm⟩
    |mp kd l=>
     simp only[Option.some.injEq]at k2;subst k2;exact⟨c,_,o',h1,k1,hhc,k3,k4,⟨fun ty2 cs2 e=>(by cases e),fun t l1 cs l2 e=>(by cases e)⟩,fun ρ' h' hcm=>k6 ρ ρ' h h' _ hcm⟩
    |slo t l1 cs l2=>
     simp only[Option.some.injEq]at k2;subst k2;refine⟨c,_,o',h1,k1,hhc,k3,fun t l e=>(by cases e),⟨fun ty2 cs2 e=>(by cases e),fun t l1 cs l2 e=>(by cases e;exact k5.2 _ _ _ _ rfl)⟩,fun ρ' h' hcm=> ?_⟩;obtain⟨ob,ob',q1,q2,q3⟩:=k6 ρ ρ' h h' (fun _=>False) hcm;exact⟨ob,ob',by rw[<-WN];exact q1,q2,q3⟩
    |frz t l=> simp only[Option.some.injEq]at k2;subst k2;exact⟨c,_,o',h1,k1,hhc,k3,fun t l e=>(by cases e),⟨fun ty2 cs2 e=>(by cases e),fun t l1 cs l2 e=>(by cases e)⟩,fun ρ' h' hcm=>k6 ρ ρ' h h' _ hcm⟩
  ·exact absurd k1 (wO hn i)
 generalize hf:(fun i=>cond (Nat.blt i p) (rnM m 0 i) (st.next+(i - p)))=f at*;have fin: ∀i c,i<p->lk m i=some (some c)->f i=c:=by intro i c hi hl;rw[<-hf];simp only[ZJ.2 hi,Ea,rnM,hl]
 have fout: ∀i,p<=i->f i=st.next+(i - p):=by
  intro i hi;rw[<-hf];have:Nat.blt i p=false:=by
   cases hb:Nat.blt i p with
   |false=>rfl
   |true=>have:=ZJ.1 hb;omega
  simp only[this,Ha]
 have flt: ∀i,i<p->f i<st.next/\ ∃o,h (f i)=some o:=by intro i hi;obtain⟨c,o,o',k1,k2,k3,_⟩:=act i hi;rw[fin i c hi k2];exact⟨(hv.wfh c o (by rw[hh];exact k3)).1,o,k3⟩
 have finj: ∀i j,f i=f j->i<p\/p<=i->i=j:=by
  intro i j e _;rcases Lc i p with hi|hi<;>rcases Lc j p with hj|hj
  ·obtain⟨c,o,o',k1,k2,k3,_⟩:=act i hi;obtain⟨c2,o2,o2',q1,q2,q3,_⟩:=act j hj;rw[fin i c hi k2,fin j c2 hj q2]at e;subst e;exact hinj i j c k2 q2
  ·have:=(flt i hi).1;rw[e,fout j hj]at this;omega
  ·have:=(flt j hj).1;rw[<-e,fout i hi]at this;omega
  ·rw[fout i hi,fout j hj]at e;omega
 have finj': ∀i j,f i=f j->i=j:=fun i j e=>finj i j e (Lc i p);have hρf: ∀i j,i<p->j<p->ρ (f i)=ρ (f j)->i=j:=by intro i j hi hj e;obtain⟨_,o,ho⟩:=flt i hi;obtain⟨_,o2,ho2⟩:=flt j hj;exact finj' i j (hv.inj _ _ o o2 (by rw[hh];exact ho) (by rw[hh];exact ho2) e)
 have hcmp:Cmp ρ (fun i=>ρ (f i)) h (lk a.2) (fun _=>False) m:=by
  intro i z hz;have hi:i<p:=by have:=Ta.1 hb _ (Zc hz);exact ZJ.1 this
  obtain⟨c,o,o',k1,k2,k3,k4,_⟩:=act i hi;rw[k2]at hz;cases hz;refine⟨by show ρ (f i)=ρ c;rw[fin i c hi k2],?_⟩;rw[zY k1,zY k3,k4]
 have hcall:=hc.ok x y hF (fun i=>ρ (f i)) lh.next (by rw[hp];exact hρf) (by
  rw[hp];intro i hi;exact .inl (hv.lt _ (flt i hi).1)) (by
  rw[hp];intro j;show ρ (f (p+j))=lh.next+j;rw[fout _ (Uc _ _),hv.up _ (Uc _ _)];omega)
 rw[ha,hbb]at hcall
 -- the parts of what changes
 have hgone: ∀(l:List (Nat×OSh)),(∀o∈l,o.1<p)->xm h m con.cst con.outS.objs l=(l.filter fun o=> !(memN o.1 con.cst||memN o.1 (con.outS.objs.map (·.1)))).map fun o=>(f o.1,Nh (h (f o.1))):=by
  intro l
  induction l with
  |nil=>intro _;rfl
  |cons o r ih=>
   intro hl;obtain⟨i,s⟩:=o;have hi:=hl (i,s) (Nb ..);obtain⟨c,_,_,_,k2,_⟩:=act i hi;simp only[xm,k2];rw[ih (fun o ho=>hl o (Eb _ ho))];cases hmm:(memN i con.cst||memN i (con.outS.objs.map (·.1)))with
   |true=> rw[List.filter_cons_of_neg (by show¬(!(memN i con.cst||memN i (con.outS.objs.map (·.1))))=true;rw[hmm];simp)];rfl
   |false=> rw[List.filter_cons_of_pos (by show(!(memN i con.cst||memN i (con.outS.objs.map (·.1))))=true;rw[hmm];rfl),ja];simp only[fin i c hi k2];rfl
 have hids: ∀o∈con.inS.objs,o.1<p:=by intro o ho;have:o.1∈con.inS.objs.map (·.1):=Ka.2 ⟨o,ho,rfl⟩;rw[w1]at this;exact Kc.1 this
 have hseen: ∀(l:EHeap I.C),∀o∈Lg h m con.cst l,o∈l/\memN o.1 con.cst=true:=by
  intro l
  induction l with
  |nil=>intro o ho;cases ho
  |cons q r ih=>
   obtain⟨i,ob⟩:=q;intro o ho;simp only[Lg]at ho;have step:o∈Lg h m con.cst r->o∈(i,ob)::r/\memN o.1 con.cst=true:=fun h=>⟨Eb _ (ih o h).1,(ih o h).2⟩;cases hmem:memN i con.cst with
   |false=>rw[hmem]at ho;exact step ho
   |true=>
    rw[hmem]at ho;simp only[Ea]at ho;split at ho
    ·split at ho
     ·rename_i cs _;cases hany:cs.any Gq with
      |false=>rw[hany]at ho;exact step ho
      |true=>
       rw[hany]at ho;rcases Ab.1 ho with rfl|ho
       ·exact⟨Nb ..,hmem⟩
       ·exact step ho
     ·exact step ho
    ·exact step ho
 have hseen2: ∀(l:EHeap I.C) (i:Nat) (o':EO I.C),(i,o')∈l->memN i con.cst=true->i<p->(∃ty cs,h (f i)=some (.cells ty cs)/\cs.any Gq=true)->i∈(Lg h m con.cst l).map (·.1):=by
  intro l
  induction l with
  |nil=>intro i o' h1;cases h1
  |cons q r ih=>
   obtain⟨j,oj⟩:=q;intro i o' h1 h2 hi h3;simp only[Lg];rcases Ab.1 h1 with h1|h1
   ·injection h1 with e1 e2;subst e1;obtain⟨ty,cs,g1,g2⟩:=h3;obtain⟨c,_,_,_,k2,_⟩:=act i hi;rw[fin i c hi k2]at g1;simp only[h2,Ea,k2,g1,g2,ja];exact Nb ..
   ·have:=ih i o' h1 h2 hi h3;cases memN j con.cst with
    |false=>exact this
    |true=>
     simp only[Ea];split
     ·split
      ·rename_i cs _;cases cs.any Gq with
       |false=>exact this
       |true=>exact Eb _ this
      ·exact this
     ·exact this
 have hknd:(a.2.map (·.1)).Nodup:=by rw[hkin,w1];exact List.nodup_range
 have hbnd:(b.2.map (·.1)).Nodup:=by rw[hkout];exact w7
 have hup:(lg con h st.next m x y).up=b.2.map (fun o=>(f o.1,rnEO f o.2))++(((con.inS.objs.filter fun o=> !(memN o.1 con.cst||memN o.1 (con.outS.objs.map (·.1)))).map fun o=>(o.1,Nh (h (f o.1)))).map (fun o=>(f o.1,o.2))++(Lg h m con.cst a.2).map (fun o=>(f o.1,rnEO f o.2))):=by subst hf;have hg:=hgone con.inS.objs hids;simp only[lg,ha,hbb,hp,hg,Ob];rfl
 have hrdE:(lg con h st.next m x y).rd=m.filterMap (·.2):=rfl;have hvalE:(lg con h st.next m x y).val=resE (b.1.map (rnET f)):=by subst hf;simp only[lg,hbb,hp]
 generalize hres:(lg con h st.next m x y)=res at*
 -- what the objects behind the call are
 have outCst: ∀i∈b.2.map (·.1),i<p->memN i con.cst=false/\(∃s,(i,s)∈con.outS.objs/\Mh s=false)/\ ∃s,lk con.inS.objs i=some s/\Mh s=false:=by
  intro i hi hip;rw[hkout]at hi;obtain⟨o,ho,rfl⟩:=Ka.1 hi;have:=Ta.1 w5 o ho;rw[ZJ.2 hip]at this;simp only[Ea,Ca,He]at this;refine⟨this.1.1,⟨o.2,ho,this.1.2⟩,?_⟩;have h3:=this.2;cases hl:lk con.inS.objs o.1 with
  |none=>rw[hl]at h3;cases h3
  |some s=>rw[hl]at h3;exact⟨s,rfl,by simpa using h3⟩
 have inCells: ∀i,i<p-> ∀s,lk con.inS.objs i=some s->Mh s=false-> ∃ty cs,lk a.2 i=some (.cells ty cs):=by
  intro i hi s hs hsl;obtain⟨o',k1,k2⟩:=inAt i hi;have hk:=Hm (I:=I) con.inS x;rw[ha]at hk;obtain⟨s',g1,g2⟩:=hk (i,o') k2;have hnd:(con.inS.objs.map (·.1)).Nodup:=by rw[w1];exact List.nodup_range
  have:=Dl hnd g1;rw[hs]at this;cases this;rcases g2 with⟨t,c,g3,g4⟩|⟨ty,cs,g3,g4⟩|⟨_,_,_,_,_,g5,_⟩
  ·rw[hsl]at g4;cases g4
  ·exact⟨ty,cs,by rw[k1];exact congrArg some g3⟩
  ·rw[g5]at hsl;cases hsl
 have outCells: ∀i o,(i,o)∈b.2->i<p-> ∃ty cs,o= .cells ty cs:=by
  intro i o ho hi;obtain⟨_,⟨s,g1,g2⟩,_⟩:=outCst i (Ka.2 ⟨_,ho,rfl⟩) hi;have hk:=Hm (I:=I) con.outS y;rw[hbb]at hk;obtain⟨s',q1,q2⟩:=hk (i,o) ho;have h1:=Dl w7 g1;have h2:=Dl w7 q1;rw[h1]at h2;cases h2;rcases q2 with⟨t,c,q3,q4⟩|⟨ty,cs,q3,q4⟩|⟨_,_,_,_,_,q5,_⟩
  ·rw[g2]at q4;cases q4
  ·exact⟨ty,cs,q3⟩
  ·rw[q5]at g2;cases g2
 have lkB: ∀i,lk (b.2.map fun o=>(f o.1,rnEO f o.2)) (f i)=(lk b.2 i).map (rnEO f):=fun i=>Sz (fun o _ e=>finj' _ _ e);have lkG: ∀i,lk (((con.inS.objs.filter fun o=> !(memN o.1 con.cst||memN o.1 (con.outS.objs.map (·.1)))).map fun o=>(o.1,Nh (h (f o.1)))).map (fun o=>(f o.1,o.2))) (f i)=lk ((con.inS.objs.filter fun o=> !(memN o.1 con.cst||memN o.1 (con.outS.objs.map (·.1)))).map fun o=>(o.1,Nh (h (f o.1)))) i:=fun i=>by have:=Sz (f:=f) (g:=fun z:EO I.C=>z) (l:=(con.inS.objs.filter fun o=> !(memN o.1 con.cst||memN o.1 (con.outS.objs.map (·.1)))).map fun o=>(o.1,Nh (h (f o.1)))) (i:=i) (fun o _ e=>finj' _ _ e);rw[this];simp
 have lkS: ∀i,lk ((Lg h m con.cst a.2).map fun o=>(f o.1,rnEO f o.2)) (f i)=(lk (Lg h m con.cst a.2) i).map (rnEO f):=fun i=>Sz (fun o _ e=>finj' _ _ e);have seenAt: ∀i o,lk (Lg h m con.cst a.2) i=some o->lk a.2 i=some o/\memN i con.cst=true:=by intro i o ho;obtain⟨q1,q2⟩:=hseen a.2 (i,o) (Zc ho);exact⟨Dl hknd q1,q2⟩
 have infIn: ∀i,i<p->infO h (f i)=infO (lk a.2) i:=by intro i hi;obtain⟨c,o,o',k1,k2,k3,k4,_⟩:=act i hi;rw[fin i c hi k2,zY k3,zY k1,k4]
 have infB: ∀i o,lk b.2 i=some o->infO (aft h res.up) (f i)=infE o:=by
  intro i o ho;have:aft h res.up (f i)=some (rnEO f o):=by simp only[aft,hup,qb,lkB,ho,Pb]
  rw[zY this,LA]
 have infC: ∀i,i<p->memN i con.cst=true->infO (aft h res.up) (f i)=infO (lk a.2) i:=by
  intro i hi hcst;have hnb:lk b.2 i=none:=by
   cases hl:lk b.2 i with
   |none=>rfl
   |some o=> have:=(outCst i (Ka.2 ⟨_,Zc hl,rfl⟩) hi).1;rw[hcst]at this;cases this
  have hng:lk ((con.inS.objs.filter fun o=> !(memN o.1 con.cst||memN o.1 (con.outS.objs.map (·.1)))).map fun o=>(o.1,Nh (h (f o.1)))) i=none:=by refine Sv fun o ho e=> ?_;obtain⟨z,hz,rfl⟩:=Ka.1 ho;have:=(Gd.1 hz).2;simp only at e;rw[e,hcst]at this;simp at this
  cases hs:lk (Lg h m con.cst a.2) i with
  |some o=>
   have hat:aft h res.up (f i)=some (rnEO f o):=by simp only[aft,hup,qb,lkB,hnb,Option.map_none,lkG,hng,lkS,hs,Pb]
   rw[zY hat,LA,zY (seenAt i o hs).1]
  |none=>
   have hat:aft h res.up (f i)=h (f i):=by simp only[aft,hup,qb,lkB,hnb,Option.map_none,lkG,hng,lkS,hs]
   rw[<-infIn i hi];simp only[infO,hat]
 have trk: ∀i o,i<p->h (f i)=some o->(∃t l,o= .sl t l)\/ ∃ty cs,o= .cells ty cs:=by
  intro i o hi ho;obtain⟨c,o2,o',k1,k2,k3,k4,k5,k6,k7⟩:=act i hi;rw[fin i c hi k2,k3]at ho;cases ho;obtain⟨ob,ob',q1,q2,q3⟩:=k7 (fun i=>ρ (f i)) (lk a.2) hcmp;cases o with
  |mp kd l=>
   have hk:=Hm (I:=I) con.inS x;rw[ha]at hk;obtain⟨s',_,g2⟩:=hk (i,o') (Zc k1);have hraw:=q3.raw;simp only[trO,Option.some.injEq]at q1;subst q1;rcases g2 with⟨_,_,g3,_⟩|⟨_,_,g3,_⟩|⟨_,_,_,_,_,_,g3⟩<;>
    (simp only at g3;rw[g3]at q2;simp only[trO,Option.some.injEq]at q2;rw[<-q2]at hraw;cases hraw)
  |sl t l=>exact .inl ⟨t,l,rfl⟩
  |cells ty cs=>exact .inr ⟨ty,cs,rfl⟩
  |dead n=>cases q1
  |frz t l=>cases q1
  |slo t l1 cs l2=>
   obtain⟨cs',e⟩:=k6.2 _ _ _ _ rfl;have hk:=Hm (I:=I) con.inS x;rw[ha]at hk;obtain⟨s',g1,g2⟩:=hk (i,o') (Zc k1);have hns:=Ta.1 w8 _ g1;subst e;rcases g2 with⟨_,_,g3,_⟩|⟨_,_,g3,_⟩|⟨_,_,_,_,_,g3,_⟩
   ·cases g3
   ·cases g3
   ·simp only at hns;rw[g3]at hns;cases hns
 have infL: ∀i,i<p->Tj (infO (lk a.2) i) (infO (aft h res.up) (f i)):=by
  intro i hi;cases hcst:memN i con.cst with
  |true=>exact .inl (infC i hi hcst)
  |false=>
   cases hb2:lk b.2 i with
   |some o=> obtain⟨_,_,s,g1,g2⟩:=outCst i (Ka.2 ⟨_,Zc hb2,rfl⟩) hi;obtain⟨ty,cs,g3⟩:=inCells i hi s g1 g2;obtain⟨ty2,cs2,g4⟩:=outCells i o (Zc hb2) hi;refine .inl ?_;rw[infB i o hb2,zY g3,g4];rfl
   |none=>
    obtain⟨_,ob,hob⟩:=flt i hi;have hng:lk ((con.inS.objs.filter fun o=> !(memN o.1 con.cst||memN o.1 (con.outS.objs.map (·.1)))).map fun o=>(o.1,Nh (h (f o.1)))) i=some (Nh (h (f i))):=by
     refine TM (F:=fun i=>Nh (h (f i))) ?_;have hmi:i∈con.inS.objs.map (·.1):=by rw[w1];exact Kc.2 hi
     obtain⟨z,hz,rfl⟩:=Ka.1 hmi;refine Ka.2 ⟨z,Gd.2 ⟨hz,?_⟩,rfl⟩;have hno:memN z.1 (con.outS.objs.map (·.1))=false:=by
      cases hmm:memN z.1 (con.outS.objs.map (·.1))with
      |false=>rfl
      |true=> have:=ZB.1 hmm;rw[<-hkout]at this;obtain⟨w,hw⟩:=Zi this;rw[hb2]at hw;cases hw
     simp[hcst,hno]
    have hat:aft h res.up (f i)=some (Nh (h (f i))):=by simp only[aft,hup,qb,lkB,hb2,Option.map_none,lkG,hng]
    rw[zY hat,<-infIn i hi];rcases trk i ob hi hob with⟨t,l,rfl⟩|⟨ty,cs,rfl⟩
    ·exact .inl (by rw[hob,zY hob];rfl)
    ·exact .inr ⟨by rw[zY hob];rfl,by rw[hob];rfl⟩
 have infOut: ∀i,i∈con.outS.objs.map (·.1)++con.cst->Tj (infO (hOut con a.2 b.2) i) (infO (aft h res.up) (f i)):=by
  intro i hi;cases hb2:lk b.2 i with
  |some o=>
   have:hOut con a.2 b.2 i=some o:=by simp only[hOut,hb2]
   exact .inl (by rw[infB i o hb2,zY this])
  |none=>
   rcases Vb.1 hi with hi|hi
   ·rw[<-hkout]at hi;obtain⟨w,hw⟩:=Zi hi;rw[hb2]at hw;cases hw
   ·have hip:i<p:=Kc.1 (w4 i hi);obtain⟨o',k1,_⟩:=inAt i hip;have hcst:=ZB.2 hi;have:hOut con a.2 b.2 i=some o':=by simp only[hOut,hb2,k1,hcst,Ea]
    exact .inl (by rw[infC i hip hcst,zY this,zY k1])
 obtain⟨rf1,rf2⟩:=VA (P:=P) hI con.outS y;rw[hbb]at rf1 rf2;obtain⟨ri1,ri2⟩:=VA (P:=P) hI con.inS x;rw[ha]at ri1 ri2;have hval:trL ρ (aft h res.up) (lkE X st) res.val=valOf (b.1.map (trT (fun i=>ρ (f i)) (hOut con a.2 b.2))):=by
  rw[hvalE];have hmap:b.1.map (fun t=>trT ρ (aft h res.up) (rnET f t))=b.1.map (trT (fun i=>ρ (f i)) (hOut con a.2 b.2)):=Na fun t ht=>zCv (fun i _=>rfl) (fun i hi=>infOut i (w3a i (rf1 t ht i hi)));cases hb1:b.1 with
  |nil=>rfl
  |cons t r=>
   cases r with
   |nil=> rw[hb1]at hmap;simp only[ja,Oc,List.cons.injEq,and_true]at hmap;simp only[ja,Oc,resE,trL,valOf,hmap]
   |cons t2 r=> rw[hb1]at hmap;simp only[ja,resE,trL,valOf,Ob]at hmap ⊢;simp only[ah,hmap]
 have hBup:(b.2.map fun o=>(ρ (f o.1),trO P ρ (aft h res.up) (rnEO f o.2)))=b.2.map fun o=>(ρ (f o.1),trO P (fun i=>ρ (f i)) (hOut con a.2 b.2) o.2):=Na fun o ho=>by rw[mK (P:=P) (ρ:=ρ) (ρ':=fun i=>ρ (f i)) (h':=hOut con a.2 b.2) (fun i _=>rfl) (fun i hi=>infOut i (w3b i (rf2 o ho i hi)))]
 have hSup: ∀i o',lk a.2 i=some o'->trO P ρ (aft h res.up) (rnEO f o')=trO P (fun i=>ρ (f i)) (lk a.2) o':=by intro i o' ho';refine mK (fun i _=>rfl) (fun j hj=>infL j ?_);have:=w2b j (ri2 (i,o') (Zc ho') j hj);rw[w1,Bb]at this;exact Kc.1 this
 generalize hL:(con.inS.objs.filter fun o=> !(memN o.1 con.cst||memN o.1 (con.outS.objs.map (·.1))))=L at*;have htrU:trU P ρ (aft h res.up) res.up=(b.2.map fun o=>(ρ (f o.1),trO P (fun i=>ρ (f i)) (hOut con a.2 b.2) o.2))++((L.map fun o=>(ρ (f o.1),none))++(Lg h m con.cst a.2).map fun o=>(ρ (f o.1),trO P ρ (aft h res.up) (rnEO f o.2))):=by
  have:trU P ρ (aft h res.up) res.up=trU P ρ (aft h res.up) (b.2.map (fun o=>(f o.1,rnEO f o.2))++((L.map fun o=>(o.1,Nh (h (f o.1)))).map (fun o=>(f o.1,o.2))++(Lg h m con.cst a.2).map (fun o=>(f o.1,rnEO f o.2)))):=by rw[<-hup]
  rw[this];simp only[trU,ic,Ob];rw[<-hBup];have hd: ∀o,trO P ρ (aft h res.up) (Nh o)=none:=by intro o;unfold Nh;split<;>rfl
  simp only[ah,hd]
 have hLp: ∀o∈L,o.1<p:=by intro o ho;rw[<-hL]at ho;exact hids o (Gd.1 ho).1
 refine⟨(List.range p).filterMap fun i=>((h (f i)).bind (trO P ρ h)).map fun ob=>(ρ (f i),ob),?_,fun q hq=> ?_,fun q hq=> ?_,fun q hq=> ?_⟩
 ·rw[hval,htrU];refine hcall.wk (by rw[Xa,Xa];exact l3.symm) (fun j u v hu hv'=> ?_) (fun get hget=> ?_)
  ·rw[Ua]at hu hv';cases hj:as[j]? with
   |none=>rw[hj]at hu;cases hu
   |some u0=>
    cases hj2:a.1[j]? with
    |none=>rw[hj2]at hv';cases hv'
    |some v0=> rw[hj]at hu;rw[hj2]at hv';cases hu;cases hv';exact l4 ρ (fun i=>ρ (f i)) h (lk a.2) (fun _=>False) hcmp j u0 v0 hj hj2
  ·-- the objects as the contract sees them
   have obs: ∀i,i<p-> ∃o o' ob ob',h (f i)=some o/\lk a.2 i=some o'/\trO P ρ h o=some ob/\trO P (fun i=>ρ (f i)) (lk a.2) o'=some ob'/\WkOZ (fun _=>False) ob ob'/\get (ρ (f i))=some ob/\(∀t l,o= .sl t l->o'= .sl t l):=by intro i hi;obtain⟨c,o,o',k1,k2,k3,k4,k5,k6,k7⟩:=act i hi;obtain⟨ob,ob',q1,q2,q3⟩:=k7 (fun i=>ρ (f i)) (lk a.2) hcmp;have hfc:=fin i c hi k2;refine⟨o,o',ob,ob',by rw[hfc];exact k3,k1,q1,q2,q3,?_,k5⟩;refine hget (ρ (f i),ob) (Xd.2 ⟨i,Kc.2 hi,?_⟩);rw[hfc,k3];simp only[Aa,q1,Pb]
   let F1:Nat->Option OB:=fun i=>(lk a.2 i).bind (trO P (fun i=>ρ (f i)) (lk a.2))
   have F1at: ∀i o' ob',lk a.2 i=some o'->trO P (fun i=>ρ (f i)) (lk a.2) o'=some ob'->F1 i=some ob':=fun i o' ob' h1 h2=>by simp only[F1,h1,Aa,h2]
   have g1at: ∀i,i<p->upd get ((List.range p).map fun i=>(ρ (f i),F1 i)) (ρ (f i))=F1 i:=fun i hi=>iK (v:=F1) (Kc.2 hi) (fun j hj e=>hρf j i (Kc.1 hj) hi e);have g1out: ∀id,(∀i,i<p->ρ (f i)≠id)->upd get ((List.range p).map fun i=>(ρ (f i),F1 i)) id=get id:=fun id hid=>ai (by
    intro hm;simp only[Ob,Ka,Kc,Function.comp]at hm;obtain⟨i,hi,e⟩:=hm;exact hid i hi e)
   refine⟨upd get ((List.range p).map fun i=>(ρ (f i),F1 i)),fun q hq=> ?_,fun id=> ?_,?_⟩
   ·obtain⟨⟨i,o'⟩,h1,h2⟩:=Xd.1 hq;have hi:i<p:=by have:i∈a.2.map (·.1):=Ka.2 ⟨_,h1,rfl⟩;rw[hkin,w1]at this;exact Kc.1 this
    cases hob:trO P (fun i=>ρ (f i)) (lk a.2) o' with
    |none=>simp only[hob]at h2;cases h2
    |some ob'=> simp only[hob,Pb,Option.some.injEq]at h2;subst h2;show upd get _ (ρ (f i))=some ob';rw[g1at i hi];exact F1at i o' ob' (Dl hknd h1) hob
   ·by_cases hex: ∃i,i<p/\ρ (f i)=id
    ·obtain⟨i,hi,rfl⟩:=hex;obtain⟨o,o',ob,ob',q1,q2,q3,q4,q5,q6,_⟩:=obs i hi;exact .inr ⟨ob,ob',q6,by rw[g1at i hi];exact F1at i o' ob' q2 q4,q5⟩
    ·rw[g1out id (fun i hi e=>hex ⟨i,hi,e⟩)];cases hg:get id with
     |none=>exact .inl ⟨rfl,rfl⟩
     |some o=>exact .inr ⟨o,o,rfl,rfl,WkOZ.refl o⟩
   ·funext id;rw[<-Ra,Xx get];by_cases hkey:id∈((b.2.map fun o=>(ρ (f o.1),trO P (fun i=>ρ (f i)) (hOut con a.2 b.2) o.2))++(L.map fun o=>(ρ (f o.1),(none:Option OB)))).map (·.1)
    ·exact gK hkey
    ·rw[ai hkey,ai hkey];by_cases hex: ∃i,i<p/\ρ (f i)=id
     ·obtain⟨i,hi,rfl⟩:=hex;obtain⟨o,o',ob,ob',q1,q2,q3,q4,q5,q6,q7⟩:=obs i hi;have hcst:memN i con.cst=true:=by
       cases hcst:memN i con.cst with
       |true=>rfl
       |false=>
        exfalso;apply hkey;rw[ic];cases hno:memN i (con.outS.objs.map (·.1))with
        |true=> have:=ZB.1 hno;rw[<-hkout]at this;obtain⟨z,hz,e⟩:=Ka.1 this;refine Md _ (Ka.2 ⟨_,Ka.2 ⟨z,hz,rfl⟩,?_⟩);simp only[e]
        |false=>
         have hmi:i∈con.inS.objs.map (·.1):=by rw[w1];exact Kc.2 hi
         obtain⟨z,hz,e⟩:=Ka.1 hmi;refine Ye _ (Ka.2 ⟨_,Ka.2 ⟨z,?_,rfl⟩,?_⟩)
         ·rw[<-hL];refine Gd.2 ⟨hz,?_⟩;simp only[e,hcst,hno];rfl
         ·simp only[e]
      rw[g1at i hi,F1at i o' ob' q2 q4];by_cases hs:i∈(Lg h m con.cst a.2).map (·.1)
      ·obtain⟨os,hos⟩:=Zi hs;have hoa:=(seenAt i os hos).1;rw[q2]at hoa;cases hoa
       -- the first entry of that number
       have: ∀(l:EHeap I.C),(∀z∈l,lk a.2 z.1=some z.2)->i∈l.map (·.1)->upd get (l.map fun o=>(ρ (f o.1),trO P ρ (aft h res.up) (rnEO f o.2))) (ρ (f i))=some ob':=by
        intro l
        induction l with
        |nil=>intro _ hm;cases hm
        |cons z r ih=>
         intro hz hm;simp only[ja,upd];by_cases e:ρ (f i)=ρ (f z.1)
         ·rw[La e];have hzlt:z.1<p:=by have:=hz z (Nb ..);have hk:z.1∈a.2.map (·.1):=Ka.2 ⟨_,Zc this,rfl⟩;rw[hkin,w1]at hk;exact Kc.1 hk
          have e2:=hρf i z.1 hi hzlt e;have hz1:=hz z (Nb ..);rw[<-e2,q2]at hz1;cases hz1;rw[hSup i _ q2];exact q4
         ·rw[Ga e];refine ih (fun z hz'=>hz z (Eb _ hz')) ?_;simp only[ja,Ab]at hm;exact hm.resolve_left (fun e3=>e (by rw[e3]))
       rw[this _ (fun z hz=>Dl hknd (hseen a.2 z hz).1) hs]
      ·have hnot:ρ (f i) ∉ ((Lg h m con.cst a.2).map fun o=>(ρ (f o.1),trO P ρ (aft h res.up) (rnEO f o.2))).map (·.1):=by
        intro hm;rw[Ob]at hm;obtain⟨z,hz,e⟩:=Ka.1 hm;have hz1:=(hseen a.2 z hz).1;have hzlt:z.1<p:=by have hk:z.1∈a.2.map (·.1):=Ka.2 ⟨_,hz1,rfl⟩;rw[hkin,w1]at hk;exact Kc.1 hk
        have:=hρf z.1 i hzlt hi e;exact hs (Ka.2 ⟨z,hz,this⟩)
       rw[ai hnot,q6];congr 1;rcases trk i o hi q1 with⟨t,l,rfl⟩|⟨ty,cs,rfl⟩
       ·rw[q7 t l rfl]at q4;have:some ob=some ob':=by rw[<-q3,<-q4];rfl
        injection this with this;exact this.symm
       ·refine zD9 q5 ?_;simp only[trO,Option.some.injEq]at q3;subst q3;intro row hrow z hz;simp only[Oa]at hrow;subst hrow;obtain⟨v,hv1,rfl⟩:=Ka.1 hz;refine JX ?_;cases hnv:Gq v with
        |false=>rfl
        |true=> exfalso;exact hs (hseen2 a.2 i o' (Zc q2) hcst hi ⟨ty,cs,q1,List.any_eq_true.2 ⟨v,hv1,hnv⟩⟩)
     ·rw[g1out id (fun i hi e=>hex ⟨i,hi,e⟩)];have hnot:id ∉ ((Lg h m con.cst a.2).map fun o=>(ρ (f o.1),trO P ρ (aft h res.up) (rnEO f o.2))).map (·.1):=by
       intro hm;rw[Ob]at hm;obtain⟨z,hz,e⟩:=Ka.1 hm;have hz1:=(hseen a.2 z hz).1;have hzlt:z.1<p:=by have hk:z.1∈a.2.map (·.1):=Ka.2 ⟨_,hz1,rfl⟩;rw[hkin,w1]at hk;exact Kc.1 hk
       exact hex ⟨z.1,hzlt,e⟩
      rw[ai hnot]
 ·obtain⟨i,hi,h2⟩:=Xd.1 hq;cases ho:h (f i)with
  |none=>rw[ho]at h2;cases h2
  |some o=>
   rw[ho]at h2;cases hob:trO P ρ h o with
   |none=>simp only[Aa,hob]at h2;cases h2
   |some ob=> simp only[Aa,hob,Pb,Option.some.injEq]at h2;subst h2;have:=hv.heap (f i) o (by rw[hh];exact ho);rw[hh,hob]at this;exact this
 ·obtain⟨i,hi,h2⟩:=Xd.1 hq;have hi:=Kc.1 hi;obtain⟨c,o,o',k1,k2,k3,_⟩:=act i hi;have hfc:=fin i c hi k2;have hq1:q.1=ρ c:=by
   rw[hfc]at h2;cases hob:(h c).bind (trO P ρ h)with
   |none=>rw[hob]at h2;cases h2
   |some ob=>rw[hob]at h2;simp only[Pb,Option.some.injEq]at h2;rw[<-h2]
  rw[hq1,hrdE];exact Ka.2 ⟨c,Xd.2 ⟨(i,some c),Zc k2,rfl⟩,rfl⟩
 ·rw[hup]at hq;have newNone: ∀i,p<=i->h (f i)=none:=by
   intro i hi;cases hn1:h (f i)with
   |none=>rfl
   |some o=> have:=(hv.wfh _ o (by rw[hh];exact hn1)).1;rw[fout i hi]at this;omega
  rcases Vb.1 hq with hq|hq
  ·obtain⟨⟨i,o⟩,ho,rfl⟩:=Ka.1 hq;rcases Lc i p with hi|hi
   ·obtain⟨_,_,s,g1,g2⟩:=outCst i (Ka.2 ⟨_,ho,rfl⟩) hi;obtain⟨ty,cs,g3⟩:=inCells i hi s g1 g2;obtain⟨ty2,cs2,g4⟩:=outCells i o ho hi;obtain⟨_,ob,hob⟩:=flt i hi;refine .inr ⟨ob,hob, .inl ?_⟩;have h1:=infIn i hi;rw[zY hob,zY g3]at h1;simp only[LA,h1,g4];rfl
   ·exact .inl (newNone i hi)
  ·rcases Vb.1 hq with hq|hq
   ·obtain⟨z,hz,rfl⟩:=Ka.1 hq;obtain⟨w,hw,rfl⟩:=Ka.1 hz;have hi:=hLp w hw;obtain⟨_,ob,hob⟩:=flt w.1 hi;refine .inr ⟨ob,hob,?_⟩;simp only[hob];rcases trk w.1 ob hi hob with⟨t,l,rfl⟩|⟨ty,cs,rfl⟩
    ·exact .inl rfl
    ·exact .inr ⟨rfl,rfl⟩
   ·obtain⟨z,hz,rfl⟩:=Ka.1 hq;have hz1:=(hseen a.2 z hz).1;have hi:z.1<p:=by have hk:z.1∈a.2.map (·.1):=Ka.2 ⟨_,hz1,rfl⟩;rw[hkin,w1]at hk;exact Kc.1 hk
    obtain⟨_,ob,hob⟩:=flt z.1 hi;refine .inr ⟨ob,hob, .inl ?_⟩;have h1:=infIn z.1 hi;rw[zY hob,zY (Dl hknd hz1)]at h1;simp only[LA,h1]
end
section
variable {P:Program} {I:Ip} {X:Cx I} {ρ:Nat->Nat} {G:Get} {st:ES I.C} {e:Env} {lh:LH} {q:Path} {R:Type} {r0:R} {K:Kt I R} {nt:Nat} {ops:List Oper}
def gOf(X:Cx I)(st:ES I.C)(q:Path):Option Bool:=match q with|[]=>none|q=>some (qx (lkE X st) q)
theorem WB{c:Nat×Bool}{r:Path}:gOf X st (c::r)=some (qx (lkE X st) (c::r)):=rfl
theorem O6(hv:Vw P X ρ G st e lh){g:Option (Nat×Bool)}(hg:guardE X ops st g=some q):qH ops e g=some (gOf X st q):=by
 unfold guardE at hg;split at hg
 ·cases hg;rfl
 ·rename_i j want;split at hg
  ·rename_i o ho;split at hg
   ·rename_i d hd;simp only[qH,ho,Aa,hd];rw[hv.env d];split at hg
    ·rename_i b hl;cases hg;simp only[hl,trL,trT,trV,pvE,WB,qx,Dh];cases want<;>cases b<;>rfl
    ·rename_i ks b hl;cases hg;simp only[hl,trL,trT,trV,pvE,WB];cases ks with
     |nil=>simp only[qx,Dh,hl];cases want<;>cases b<;>rfl
     |cons c r=>
      have:qx (lkE X st) ((d,want)::c::r)=(litB want b&&qx (lkE X st) (c::r)):=by simp only[qx,Dh,hl]
      rw[this];cases qx (lkE X st) (c::r)<;>cases want<;>cases b<;>rfl
    ·cases hg
   ·cases hg
  ·cases hg
theorem OpOK.rd_mono{o:Oper}{s:TS}{g:Option Bool}{val:LV}{up:List (Nat×Option OB)}{rd c:List Nat}{nx k:Nat}(h:OpOK P nt ops o ⟨g,val,up,rd,nx,k⟩ s)(r: ∀i∈rd,i∈c):OpOK P nt ops o ⟨g,val,up,c,nx,k⟩ s:=
 ⟨h.dst,h.nx,fun m a w p b N f l j t n d=>h.run m a w p b N f l j t (fun id hid=>n id (hid.imp (r id) (fun h=>h))) d⟩
theorem YN(b:Vw P X ρ G st e lh)(a:q=[]\/qx (lkE X st) q=true): ∀(xs:List Operand) (as:List (ET I.C)),allE q (xs.map (opdE X st))=some as->allT (xs.map (opd (Zh e)))=some (true,as.map (trT ρ (lkO X st)))
 |[],as,h=>by simp only[Oc,allE,Option.some.injEq]at h;subst h;rfl
 |x::r,as,h=>by
  simp only[ja,allE]at h;split at h
  ·rename_i t l d c;cases h;simp only[ja,allT,Hr b a x t d,YN b a r l c,Sb]
  ·cases h
theorem zc8.full {f:FuncId} {as bs:List TV} {rd:List (Nat×OB)} {nx k:Nat} {val:LV} {up:List (Nat×Option OB)} (h:zc8 P f bs rd nx k val up) (g:as.length=bs.length)
  (x: ∀(j:Nat) (t:TV),as[j]? =some t-> ∃c,bs[j]? =some c/\ ∀ι w u,repT ι w t u->repT ι w c u):zc8 P f as rd nx k val up:=
 ⟨h.fn,fun ι b w N s m p n l v=>h.ok ι b w N s m p n ⟨l.1.trans g,fun j c a=>by
  have d:j<as.length:=by rw[g];exact(Da.1 a).1
  obtain⟨z,i,y⟩:=x j _ (Ja d);rw[a]at i;cases i;obtain⟨u,r,o⟩:=l.2 j _ (Ja d)
  grind⟩ v⟩
theorem zCy{ρ:Nat->Nat}{h:Nat->Option (EO I.C)}{a:ET I.C}{ι:Asg}{w:World}{u:Value}(hu:repT ι w (trT ρ h a) u):repT ι w (trT ρ h (unF a)) u:=by
 unfold unF;split
 ·exact⟨hu.1,hu.2.1⟩
 ·exact hu
theorem YP{h:Nat->Option (EO I.C)}{n f:Nat}{as:List (ET I.C)}{g:Bool}(d:q=[]\/g=true): ∀{S:List (Con I)},Vl h n f as q g K S=some r0-> ∃con∈S,con.f=f/\ ∃x m y,(con.inS.sl I).mat as (nrmH h) []=some (x,m)/\(m.all fun z=>Nat.blt z.1 con.inS.objs.length)=true/\Cg m=[]/\con.F x=some y/\K (lg con h n m x y)=some r0
 |[],b=>by cases b
 |con::r,b=>by
  simp only[Vl]at b;have i:Vl h n f as q g K r=some r0-> ∃a∈con::r,a.f=f/\ ∃x m y,(a.inS.sl I).mat as (nrmH h) []=some (x,m)/\(m.all fun z=>Nat.blt z.1 a.inS.objs.length)=true/\Cg m=[]/\a.F x=some y/\K (lg a h n m x y)=some r0:=by intro k;obtain⟨c,j,l⟩:=YP d k;exact⟨c,Eb _ j,l⟩
  cases o:Nat.beq con.f f with
  |false=>grind
  |true=>
   rw[o]at b;simp only[Ea]at b;split at b
   ·rename_i x m p;refine⟨con,Nb ..,Cb o,x,m,?_⟩;unfold Nz at b;cases t:m.all fun z=>Nat.blt z.1 con.inS.objs.length with
    |false=>grind
    |true=>
     rw[t]at b;simp only[Ea]at b;split at b
     case h_2=>cases b
     rename_i s;split at b
     ·obtain⟨y,k,j⟩:=Ba.1 b
      grind
     ·obtain⟨_,k⟩:=zk b;obtain⟨y,j,l⟩:=Ba.1 k;rcases d with d|d
      ·simp_all
      ·subst d;exact⟨y,p,rfl,s,j,l⟩
     ·rcases d with d|d
      ·simp_all
      ·subst d;simp only[Ea]at b;obtain⟨y,j,l⟩:=Ba.1 b
       grind
   ·exact i b
def roOf(P:Program)(X:Cx I)(ρ:Nat->Nat)(st:ES I.C)(lh:LH)(q:Path)(res:OR I.C):RO:=
 ⟨gOf X st q,trL ρ (aft (lkO X st) res.up) (lkE X st) res.val,trU P ρ (aft (lkO X st) res.up) res.up,res.rd.map ρ,lh.next,res.k⟩
theorem KG(h:Nat->Option (EO I.C))(up:EHeap I.C):(trU P ρ h up).map (·.1)=up.map fun p=>ρ p.1:=by simp[trU,Ob]
theorem VE(hI:IpOK P I)(hT:TOK P X.T X.fk){S:List (Con I)}(hS: ∀c∈S,zn P c)(hv:Vw P X ρ G st e lh){fz:Nat}{o:Oper}(hg:guardE X ops st o.guard=some q)(h0:opE X S fz st q (qx (lkE X st) q) o.op K=some r0):
  ∃res,K res=some r0/\((∀d,o.dst=some d->d<nt)->OpOK P nt ops o (roOf P X ρ st lh q res) ⟨e,lh.get,lh.next⟩)/\Np (lkO X st) res.up/\(gOf X st q=some false->res.up=[]):=by
 have hgv:=O6 hv hg;by_cases hq:q=[]\/qx (lkE X st) q=true
 ·have hgne:gOf X st q≠some false:=by
   cases q with
   |nil=>simp[gOf]
   |cons c r=>
    rcases hq with hq|hq
    ·cases hq
    ·rw[WB,hq];simp
  by_cases hnc: ∀c f,o.op= .call c->c.callee≠ .value f
  ·obtain⟨res,h1,h2,h3⟩:=zEa hI hT hv hq hnc h0;refine⟨res,h1,fun hd=> ?_,h2.inf,fun hf=>absurd hf hgne⟩;unfold roOf;refine sO (s:=⟨e,lh.get,lh.next⟩) (k:=res.k) hgv hd fun _=>⟨h2.pre,fun ι w get' v w' hn hgd=>h2.good ι w get' v w' hn hgd,fun id hid=> ?_,h3⟩;rcases h2.rd id hid with h|h
   ·exact .inl h
   ·exact .inr (by rw[KG];exact h)
  ·have: ∃c cf,o.op= .call c/\c.callee= .value cf:=by apply Classical.byContradiction;intro hno;exact hnc fun c f h1 h2=>hno ⟨c,f,h1,h2⟩
   obtain⟨c,cf,ho,hcc⟩:=this;rw[ho]at h0;simp only[opE,hcc]at h0;obtain⟨fc,h1,h2⟩:=zl h0;obtain⟨as,h3,h4⟩:=zl h2;obtain⟨con,c1,c2,x,m,y,d1,d2,d3,d4,d5⟩:=YP hq h4;obtain⟨rd0,k1,k2,k3,k4⟩:=U1 hI hv (hS con c1) d1 d2 d3 d4;refine⟨_,d5,fun hd=> ?_,k4,fun hf=>absurd hf hgne⟩;obtain⟨f,caps⟩:=fc;have hcl:useE q (opdE X st cf)=some (.c (.clo f caps)):=by
    unfold cloE at h1;split at h1
    ·grind
    ·cases h1
   -- at the place, by values that are there
   have hun:=Hr hv hq cf _ hcl;have hall:=YN hv hq _ _ h3;have k1:=k1.full (as:=(as++caps.map capE).map (trT ρ (lkO X st))) (by simp) (fun j t ht=>by
    rw[ic]at ht ⊢;by_cases hj:j<as.length
    ·rw[Sc (by simpa using hj)]at ht;rw[Sc (by simpa using hj),Ob,Ua];rw[Ua]at ht;obtain⟨a,ha,rfl⟩:=Yb.1 ht;exact⟨_,by rw[ha];rfl,fun ι w u hu=>zCy hu⟩
    grind)
   have hmap:(as++caps.map capE).map (trT ρ (lkO X st))=as.map (trT ρ (lkO X st))++(caps.map fun q=>(ρ q.1,q.2)).map capT:=by rw[ic,Ob,Ob];rfl
   rw[hmap]at k1;simp only at c2;rw[c2]at k1;have hcall:=zoR (nt:=nt) (ops:=ops) (o:=o) (s:=⟨e,lh.get,lh.next⟩) (g:=gOf X st q) (c:=c) (cf:=cf) (f:=f) (caps:=caps.map fun q=>(ρ q.1,q.2)) (as:=as.map (trT ρ (lkO X st))) (rd:=rd0) hgv hd ho hcc (by simpa [trT,trV] using hun) hall k1 k2;refine hcall.rd_mono fun i hi=> ?_
   grind
 ·have hq1:q≠[]:=fun h=>hq (.inl h);have hq2:qx (lkE X st) q=false:=by
   cases hb:qx (lkE X st) q with
   |false=>rfl
   |true=>grind
  have hgf:gOf X st q=some false:=by
   cases q with
   |nil=>grind
   |cons c r=>rw[WB,hq2]
  obtain⟨res,h1,h2⟩:=zB4 (.inr hq2) h0;have hu:res.up=[]:=h2.resolve_left hq1;refine⟨res,h1,fun hd=> ?_,fun p hp=>(by grind),fun _=>hu⟩;rw[hgf]at hgv;unfold roOf;rw[hgf];exact sO (s:=⟨e,lh.get,lh.next⟩) hgv hd fun h=>absurd rfl h
end
section
variable {P:Program} {I:Ip} {X:Cx I} {ρ:Nat->Nat} {G:Get} {st:ES I.C} {e:Env} {lh:LH} {q:Path} {nt:Nat} {ops:List Oper}
theorem xA{n m:Nat}(h:n<=m){x:EV I.C}(a:wfV n x=true):wfV m x=true:=by
 cases x<;>simp only[wfV]at a ⊢
 case own id=>exact ZJ.2 (Xb (ZJ.1 a) h)
 case osl id _ _=>exact ZJ.2 (Xb (ZJ.1 a) h)
 case optr id _ _=>exact ZJ.2 (Xb (ZJ.1 a) h)
 case mref id=>exact ZJ.2 (Xb (ZJ.1 a) h)
 case clo f caps=> rw[Ta]at a ⊢;exact fun q b=>ZJ.2 (Xb (ZJ.1 (a q b)) h)
theorem CG{n m:Nat}(h:n<=m){x:ET I.C}(a:wfT n x=true):wfT m x=true:=by
 cases x with
 |c x=>exact xA h a
 |agg d=> simp only[wfT,Ta]at a ⊢;exact fun v b=>xA h (a v b)
theorem MN{n m:Nat}(h:n<=m){x:EL I.C}(a:wfL n x=true):wfL m x=true:=by
 cases x with
 |any=>rfl
 |v t=>exact CG h a
 |opt c t=>exact CG (x:=t) h a
 |tup d=> simp only[wfL,Ta]at a ⊢;exact fun t b=>CG h (a t b)
theorem EG{n m:Nat}(h:n<=m){x:EO I.C}(a:wfO n x=true):wfO m x=true:=by
 cases x with
 |cells d c=> simp only[wfO,Ta]at a ⊢;exact fun v b=>xA h (a v b)
 |slo t f c g=> simp only[wfO,Ta]at a ⊢;exact fun v b=>xA h (a v b)
 |_=>rfl
theorem wz{h h':Nat->Option (EO I.C)}{n:Nat}(hi: ∀id,id<n->Tj (infO h id) (infO h' id)){x:EV I.C}(a:wfV n x=true):trV ρ h' x=trV ρ h x:=by
 refine IC (n:=n) (fun _ _=>rfl) (fun id hid=> ?_) a;rcases hi id hid with b|⟨b,c⟩
 ·grind
 grind
theorem LG{h h':Nat->Option (EO I.C)}{n:Nat}(hi: ∀id,id<n->Tj (infO h id) (infO h' id)){x:ET I.C}(a:wfT n x=true):trT ρ h' x=trT ρ h x:=by
 cases x with
 |c x=>exact congrArg TV.c (wz hi a)
 |agg d=> simp only[wfT,Ta]at a;simp only[trT];congr 1;exact Na fun v b=>wz hi (a v b)
theorem zAg{h h':Nat->Option (EO I.C)}{n:Nat}(hi: ∀id,id<n->Tj (infO h id) (infO h' id)){o:EO I.C}(a:wfO n o=true):trO P ρ h' o=trO P ρ h o:=by
 cases o with
 |cells d c=> simp only[wfO,Ta]at a;simp only[trO];rw[Na fun v b=>wz hi (a v b)]
 |slo t f c g=> simp only[wfO,Ta]at a;simp only[trO];rw[Na fun v b=>wz hi (a v b)]
 |_=>rfl
theorem dI{E E':Nat->Option (EL I.C)}: ∀{a:Path},(∀k∈a,Dh E' k.1=Dh E k.1)->qx E' a=qx E a
 |[],_=>rfl
 |[(t,w)],h=>by simp only[qx,h (t,w) (Nb ..)]
 |(t,w)::c::r,h=>by simp only[qx,h (t,w) (Nb ..)];rw[dI (fun k b=>h k (Eb _ b))]
theorem zAf{h h':Nat->Option (EO I.C)}{E E':Nat->Option (EL I.C)}{n:Nat}(hi: ∀id,id<n->Tj (infO h id) (infO h' id)){x:EL I.C}(b:wfL n x=true)(c: ∀a t,x= .opt a t-> ∀k∈a,Dh E' k.1=Dh E k.1):trL ρ h' E' x=trL ρ h E x:=by
 cases x with
 |any=>rfl
 |v t=>exact congrArg LV.v (LG hi b)
 |opt a t=> simp only[trL];rw[dI (c a t rfl),LG hi (x:=t) b]
 |tup f=> simp only[wfL,Ta]at b;simp only[trL];congr 1;exact Na fun t d=>LG hi (b t d)
theorem RI{d:Nat}: ∀{l:EEnv I.C},Dn d l=true-> ∀t a x,(t,EL.opt a x)∈l-> ∀k∈a,k.1≠d
 |[],_,t,a,x,h=>by cases h
 |p::r,b,t,a,x,h=>by
  obtain⟨c,y⟩:=p;rcases Ab.1 h with h|h
  ·cases h;simp only[Dn]at b;simp_all
  ·refine RI (l:=r) ?_ t a x h;cases y<;>simp only[Dn]at b<;>first|exact b|skip
   grind
def PN(X:Cx I)(st:ES I.C)(id:Nat):Prop:=(∃o,lkO X st id=some o)\/st.next<=id
theorem Vw.pinj(a:Vw P X ρ G st e lh){i j:Nat}(hi:PN X st i)(c:PN X st j)(k:ρ i=ρ j):i=j:=by
 rcases hi with⟨o,g⟩|hi<;>rcases c with⟨f,b⟩|c
 ·exact a.inj i j o f g b k
 ·have d:=a.lt i (a.wfh i o g).1;have h:=a.up j c;omega
 ·have d:=a.lt j (a.wfh j f b).1;have h:=a.up i hi;omega
 ·have d:=a.up i hi;have h:=a.up j c;omega
theorem Bo{o:Oper}{res:OR I.C}:lkO X (xh o q st res)=aft (lkO X st) res.up:=by
 funext id;simp only[lkO,xh,aft,qb]
 grind
theorem DC{o:Oper}{res:OR I.C}(t:Nat):lkE X (xh o q st res) t=if o.dst=some t then some (putL q res.val)else lkE X st t:=by
 simp only[lkE,xh];cases a:o.dst with
 |none=>simp
 |some d=>
  simp only[Option.some.injEq];rw[Zg]
  grind
theorem AA(hv:Vw P X ρ G st e lh){o:Oper}{res:OR I.C}(hok:Ij X nt o q st res=true)(hinf:Np (lkO X st) res.up)(hgf:gOf X st q=some false->res.up=[]):
  Vw P X ρ G (xh o q st res) (put e o.dst (roOf P X ρ st lh q res).v) ⟨lh.next+res.k,upd lh.get (roOf P X ρ st lh q res).u⟩:=by
 simp only[Ij,Ca]at hok;obtain⟨⟨⟨⟨k1,k2⟩,k3⟩,k4⟩,k5⟩:=hok;have hup: ∀p∈res.up,p.1<st.next+res.k/\wfO (st.next+res.k) p.2=true/\lk X.frh p.1=none/\PN X st p.1:=by
  intro p hp;have:=Ta.1 k4 p hp;simp only[Ca]at this;obtain⟨⟨⟨a1,a2⟩,a3⟩,a4⟩:=this;refine⟨ZJ.1 a1,a2,?_,?_⟩
  ·grind
  ·cases hl:lkO X st p.1 with
   |some o=>exact .inl ⟨o,hl⟩
   |none=>rw[hl]at a4;exact .inr (Ac a4)
 have hkeep: ∀id,id<st.next->Tj (infO (lkO X st) id) (infO (aft (lkO X st) res.up) id):=by
  intro id hid;cases hl:lk res.up id with
  |none=> refine .inl ?_;simp only[infO,aft,hl]
  |some o'=>
   have hm:=Zc hl;have hat:aft (lkO X st) res.up id=some o':=by simp only[aft,hl]
   rw[zY hat];rcases hinf _ hm with h1|⟨o0,h1,h2⟩
   ·rcases(hup _ hm).2.2.2 with⟨o,ho⟩|hle
    ·grind
    grind
   ·rw[zY h1];exact h2
 have hboolE: ∀k,(∀d,o.dst=some d->k≠d)->Dh (lkE X (xh o q st res)) k=Dh (lkE X st) k:=by intro k hk;simp only[Dh,DC];rw[Ga (fun h=>hk k h rfl)]
 have hu:upd lh.get (roOf P X ρ st lh q res).u=upd lh.get (trU P ρ (aft (lkO X st) res.up) res.up):=by
  unfold RO.u roOf;simp only;cases hg:gOf X st q with
  |none=>rfl
  |some b=>
   cases b with
   |true=>rfl
   |false=>rw[hgf hg];rfl
 have hat: ∀id,PN X st id->upd lh.get (trU P ρ (aft (lkO X st) res.up) res.up) (ρ id)=(match lk res.up id with|some o=>trO P ρ (aft (lkO X st) res.up) o|none=>lh.get (ρ id)):=by
  intro id hid;have: ∀(l:EHeap I.C),(∀p∈l,PN X st p.1)->upd lh.get (trU P ρ (aft (lkO X st) res.up) l) (ρ id)=(match lk l id with|some o=>trO P ρ (aft (lkO X st) res.up) o|none=>lh.get (ρ id)):=by
   intro l
   induction l with
   |nil=>intro _;rfl
   |cons p r ih=>
    intro hp;obtain⟨j,o⟩:=p;simp only[trU,ja,upd];rw[Zg];by_cases hij:id=j
    ·grind
    ·rw[Ga hij,Ga (fun e=>hij (hv.pinj hid (hp (j,o) (Nb ..)) e))];exact ih (fun p hp'=>hp p (Eb _ hp'))
  exact this res.up (fun p hp=>(hup p hp).2.2.2)
 have hpres: ∀id o,aft (lkO X st) res.up id=some o->PN X st id:=by
  intro id o ho;simp only[aft]at ho;cases hl:lk res.up id with
  |some o'=>exact(hup _ (Zc hl)).2.2.2
  |none=>rw[hl]at ho;exact .inl ⟨o,ho⟩
 refine⟨fun t=> ?_,fun id ob ho=> ?_,fun i hi=> ?_,fun i j o1 o2 h1 h2 he=> ?_,fun id hid=> ?_,fun id hid=> ?_,fun t x hx=> ?_,fun i ob ho=> ?_,fun i hi=> ?_,fun t x hx=> ?_,fun id ob ho=> ?_⟩
 ·rw[BC,DC,Bo];by_cases hd:o.dst=some t
  ·rw[La hd,La hd];simp only;rw[hd]at k1;simp only[Ca]at k1;obtain⟨_,k1e⟩:=k1;have hpq:qx (lkE X (xh o q st res)) q=qx (lkE X st) q:=dI fun k hk=>hboolE k.1 fun d hd'=>by rw[hd]at hd';cases hd';have:=Ta.1 k1e k hk;intro e;simp_all
   have hval: ∀E,trL ρ (aft (lkO X st) res.up) E res.val=trL ρ (aft (lkO X st) res.up) (lkE X st) res.val:=by
    intro E;cases hrv:res.val with
    |opt ks t=>rw[hrv]at k2;cases k2
    |_=>rfl
   cases q with
   |nil=>exact(hval _).symm
   |cons c r=>
    show optV (qx (lkE X st) (c::r)) (trL ρ (aft (lkO X st) res.up) (lkE X st) res.val)=trL ρ _ _ (putL (c::r) res.val);cases hrv:res.val with
    |any=>rfl
    |v t=> simp only[trL,optV,putL];rw[hpq]
    |opt ks t=>rw[hrv]at k2;cases k2
    |tup ts=>rfl
  ·rw[Ga hd,Ga hd,hv.env t];cases hl:lkE X st t with
   |none=>rfl
   |some x=>
    simp only;refine(zAf (n:=st.next) hkeep (hv.wfe t x hl) fun ks t0 hx k hk=>hboolE k.1 fun d hd'=> ?_).symm;rw[hd']at k1;simp only[Ca]at k1;obtain⟨⟨⟨⟨_,n1⟩,n2⟩,_⟩,_⟩:=k1;subst hx;simp only[lkE]at hl;cases hl1:lk st.env t with
    |some y=>rw[hl1]at hl;cases hl;exact RI n1 t ks t0 (Zc hl1) k hk
    |none=>rw[hl1]at hl;exact RI n2 t ks t0 (Zc hl) k hk
 ·rw[Bo]at ho ⊢;simp only[hu];rw[hat id (hpres id ob ho)];simp only[aft]at ho;cases hl:lk res.up id with
  |some o'=>grind
  |none=> rw[hl]at ho;simp only;rw[hv.heap id ob ho];exact(zAg (n:=st.next) hkeep (hv.wfh id ob ho).2).symm
 ·obtain⟨g1,g2⟩:=hv.oth i hi;have hne: ∀id,PN X st id->ρ id≠i:=by
   intro id hid e;rcases hid with⟨o,ho⟩|hid
   ·grind
   ·have:=hv.up id hid;have:=hv.glt i hi;omega
  refine⟨?_,fun id ob ho=> ?_⟩
  ·simp only[hu];rw[ai,g1];rw[KG]
   grind
  ·rw[Bo]at ho
   grind
 ·rw[Bo]at h1 h2;exact hv.pinj (hpres i o1 h1) (hpres j o2 h2) he
 ·have hid':id<st.next+res.k:=hid;show ρ id<lh.next+res.k;rcases Lc id st.next with h|h
  ·have:=hv.lt id h;omega
  ·have:=hv.up id h;omega
 ·have hid':st.next+res.k<=id:=hid;show ρ id=lh.next+res.k+(id - (st.next+res.k));have:=hv.up id (by omega);omega
 ·obtain⟨f1,f2⟩:=hv.fre t x hx;refine⟨?_,f2⟩;rw[DC]
  grind
 ·rw[Bo];simp only[aft];cases hl:lk res.up i with
  |some o'=>
   have:=(hup _ (Zc hl)).2.2.1
   grind
  |none=>exact hv.fro i ob ho
 ·exact Xb (hv.glt i hi) (Uc _ _)
 ·rw[DC]at hx;show wfL (st.next+res.k) x=true;split at hx
  ·cases hx;cases q with
   |nil=>exact k3
   |cons c r=>
    cases hrv:res.val with
    |v t=>rw[hrv]at k3;exact k3
    |_=>rfl
  ·exact MN (Uc _ _) (hv.wfe t x hx)
 ·rw[Bo]at ho;show id<st.next+res.k/\wfO (st.next+res.k) ob=true;simp only[aft]at ho;cases hl:lk res.up id with
  |some o'=>rw[hl]at ho;cases ho;exact⟨(hup _ (Zc hl)).1,(hup _ (Zc hl)).2.1⟩
  |none=> rw[hl]at ho;obtain⟨h1,h2⟩:=hv.wfh id ob ho;exact⟨Xb h1 (Uc _ _),EG (Uc _ _) h2⟩
end
section
variable {P:Program} {I:Ip} {X:Cx I} {ρ:Nat->Nat} {G:Get} {nt:Nat} {ops:List Oper} {R:Type} {r0:R}
theorem zA2{st:ES I.C}{o:Oper}{q:Path}{res:OR I.C}(b: ∀p∈res.up,PN X st p.1){id:Nat}(h:PN X (xh o q st res) id):PN X st id:=by
 rcases h with⟨d,a⟩|h
 ·rw[Bo]at a;simp only[aft]at a;cases c:lk res.up id with
  |some e=>exact b _ (Zc c)
  |none=>rw[c]at a;exact .inl ⟨d,a⟩
 ·exact .inr (Lb (Uc _ _) h)
theorem MI(hI:IpOK P I)(hT:TOK P X.T X.fk){S:List (Con I)}(hS: ∀c∈S,zn P c){fz:List Nat}{K:ES I.C->List Fp->Option R}: ∀(r:List Oper) (j:Nat) (st:ES I.C) (e:Env) (lh:LH) (fps:List Fp),Vw P X ρ G st e lh->opsE X S fz nt ops j r st fps K=some r0->
  ∃(zs:List (Oper×RO)) (st':ES I.C) (fps':List Fp),zs.map (·.1)=r/\(∀(i:Nat) (o:Oper) (ro:RO),zs[i]? =some (o,ro)->OpOK P nt ops o ro (runA (zs.take i) ⟨e,lh.get,lh.next⟩))/\
   Vw P X ρ G st' (runA zs ⟨e,lh.get,lh.next⟩).e ⟨(runA zs ⟨e,lh.get,lh.next⟩).next,(runA zs ⟨e,lh.get,lh.next⟩).get⟩/\K st' (fps++fps')=some r0/\fps'.length=r.length/\
   (∀(i:Nat) (o:Oper) (ro:RO) (fp:Fp),zs[i]? =some (o,ro)->fps'[i]? =some fp->ro.rd=fp.1.map ρ/\ro.up.map (·.1)=fp.2.map ρ)/\(∀fp∈fps',∀id,(id∈fp.1\/id∈fp.2)->PN X st id)
 |[],j,st,e,lh,fps,hv,h0=>by
  refine⟨[],st,[],rfl,fun i o ro h=>by simp at h,?_,?_,rfl,fun i o ro fp h=>by simp at h,fun fp h=>by simp at h⟩
  ·exact hv
  ·simp only[opsE]at h0
   grind
 |o::r,j,st,e,lh,fps,hv,h0=>by
  simp only[opsE]at h0;split at h0
  ·cases h0
  ·rename_i q hg;obtain⟨res,h1,h2,h3,h4⟩:=VE (nt:=nt) (ops:=ops) hI hT hS hv hg h0;obtain⟨hok,h5⟩:=zk h1;have hv':=AA hv hok h3 h4;have hk:=hok;simp only[Ij,Ca]at hk;obtain⟨⟨⟨⟨k1,k2⟩,k3⟩,k4⟩,k5⟩:=hk;have hd: ∀d,o.dst=some d->d<nt:=by intro d hd;rw[hd]at k1;simp only[Ca]at k1;exact ZJ.1 k1.1.1.1.1
   have hpn: ∀p∈res.up,PN X st p.1:=by
    intro p hp;have:=Ta.1 k4 p hp;simp only[Ca]at this;have a4:=this.2;cases hl:lkO X st p.1 with
    |some o=>exact .inl ⟨o,hl⟩
    |none=>rw[hl]at a4;exact .inr (Ac a4)
   have hpr: ∀i∈res.rd,PN X st i:=by
    intro i hi;have a4:=Ta.1 k5 i hi;cases hl:lkO X st i with
    |some o=>exact .inl ⟨o,hl⟩
    |none=>rw[hl]at a4;exact .inr (Ac a4)
   obtain⟨zs,st',fps',z1,z2,z3,z4,z5,z6,z7⟩:=MI hI hT hS r (j+1) (xh o q st res) _ _ _ hv' h5;refine⟨(o,roOf P X ρ st lh q res)::zs,st',(res.rd,res.up.map (·.1))::fps',by simp[z1],fun i o' ro hz=> ?_,z3,?_,by simp[z5],fun i o' ro fp hz hf=> ?_,fun fp hfp id hid=> ?_⟩
   ·cases i with
    |zero=> simp only[Hd,Option.some.injEq,Prod.mk.injEq]at hz;obtain⟨rfl,rfl⟩:=hz;exact h2 hd
    |succ i=>exact z2 i o' ro (by simpa using hz)
   ·grind
   ·cases i with
    |zero=> simp only[Hd,Option.some.injEq,Prod.mk.injEq]at hz hf;obtain⟨rfl,rfl⟩:=hz;subst hf;refine⟨rfl,?_⟩;simp only[roOf,KG,Ob];rfl
    |succ i=>grind
   ·rcases Ab.1 hfp with rfl|hfp
    ·grind
    ·exact zA2 hpn (z7 fp hfp id hid)
theorem wN{x y:Oper}(h:Yz ops x y=false):tconf ops x y=false:=by
 have mem: ∀d l,memN d l=false->l.contains d=false:=by intro d l hm;have:=CQ hm;simpa using this
 simp only[Yz,jd]at h;obtain⟨h1,h2⟩:=h;simp only[tconf,jd];constructor
 ·cases hx:x.dst with
  |none=>rfl
  |some d=>
   rw[hx]at h1;simp only[jd]at h1 ⊢;refine⟨mem _ _ h1.1,?_⟩;cases hy:y.dst with
   |none=>rfl
   |some e=>
    rw[hy]at h1;have h3:=h1.2;simp only at h3;have:e≠d:=fun he=>by simp_all
    simpa using this
 grind
theorem fO{a b:List Nat}(h:Gn a b=false): ∀i∈a,i ∉ b:=by
 intro i c d;have:Gn a b=true:=List.any_eq_true.2 ⟨i,c,ZB.2 d⟩
 grind
theorem kI{fps:List Fp}: ∀(r:List Oper) (j:Nat) (acc:List (List Nat)),acc.length=j->(∀k,r[k]? =ops[j+k]?)->(∀m i,i∈acc.getD m []->Rch ops i m)->Mq ops fps j r acc=true->
  ∀i k x y a b,ops[i]? =some x->ops[k]? =some y->fps[i]? =some a->fps[k]? =some b->i<k->j<=k->Rch ops i k\/(Yz ops x y=false/\fpB a b=false)
 |[],j,acc,_,hr,_,_,i,k,x,y,a,b,_,hy,_,_,_,hjk=>by
  have:=hr (k - j)
  grind
 |o::r,j,acc,hl,hr,ha,h,i,k,x,y,a,b,hx,hy,hfa,hfb,hik,hjk=>by
  have ho:ops[j]? =some o:=by have:=hr 0;simpa using this.symm
  simp only[Mq,Ca,Ta,Kc]at h;obtain⟨h1,h2⟩:=h;have hcl: ∀i,i∈direct o++(direct o).flatMap (fun i=>acc.getD i [])->Rch ops i j:=by
   intro i hi;rcases Vb.1 hi with hi|hi
   ·exact .dir i j o ho hi
   ·obtain⟨m,hm,hi⟩:=Ib.1 hi;exact .tr i m j o ho hm (ha m i hi)
  rcases pg hjk with e|e
  ·subst e;rw[ho]at hy;cases hy;have:=h1 i hik;rw[Tc]at this;rcases this with this|this
   ·exact .inl (hcl i (ZB.1 this))
   ·grind
  ·refine kI r (j+1) _ (by simp[hl]) (fun k=> ?_) (fun m i hi=> ?_) h2 i k x y a b hx hy hfa hfb hik e
   ·have:=hr (k+1)
    grind
   ·rw[Yd,Hf]at hi;split at hi
    ·grind
    ·rename_i hm;cases hmj:m - acc.length with
     |zero=>
      rw[hmj]at hi;have:m=j:=by omega
      grind
     |succ n=>grind
theorem OY (hv: ∀fp:Fp,True) {st:ES I.C} {e:Env} {lh:LH} (hV:Vw P X ρ G st e lh) {zs:List (Oper×RO)} {fps:List Fp} (hz:zs.map (·.1)=ops) (hl:fps.length=ops.length)
  (h6: ∀(i:Nat) (o:Oper) (ro:RO) (fp:Fp),zs[i]? =some (o,ro)->fps[i]? =some fp->ro.rd=fp.1.map ρ/\ro.up.map (·.1)=fp.2.map ρ) (h7: ∀fp∈fps,∀id,(id∈fp.1\/id∈fp.2)->PN X st id) (hd:Mq ops fps 0 ops []=true):xu ops zs:=by
 intro i k x y r q hi hk hik;have hx:=Nq hz hi;have hy:=Nq hz hk;have hil:i<fps.length:=by rw[hl];exact(Da.1 hx).1
 have hkl:k<fps.length:=by rw[hl];exact(Da.1 hy).1
 have hfa:fps[i]? =some fps[i]:=Ja hil;have hfb:fps[k]? =some fps[k]:=Ja hkl;rcases kI ops 0 [] rfl (fun k=>by simp) (fun m i h=>by simp at h) hd i k x y _ _ hx hy hfa hfb hik (Bc _)with h|⟨h1,h2⟩
 ·exact .inl h
 ·refine .inr ⟨wN h1,?_⟩;obtain⟨a1,a2⟩:=h6 i x r _ hi hfa;obtain⟨b1,b2⟩:=h6 k y q _ hk hfb;have pa:=h7 _ (Va hfa);have pb:=h7 _ (Va hfb);simp only[fpB,jd]at h2;obtain⟨⟨c1,c2⟩,c3⟩:=h2;have dis: ∀{u v:List Nat},Gn u v=false->(∀id∈u,PN X st id)->(∀id∈v,PN X st id)-> ∀z∈u.map ρ,z ∉ v.map ρ:=by intro u v huv hu hv z hz hz2;obtain⟨i1,hi1,rfl⟩:=Ka.1 hz;obtain⟨i2,hi2,e⟩:=Ka.1 hz2;have:=hV.pinj (hv i2 hi2) (hu i1 hi1) e;subst this;exact fO huv i2 hi1 hi2
  refine⟨fun z hz=>⟨?_,?_⟩,fun z hz=> ?_⟩
  ·grind
  ·grind
  ·grind
theorem zo0 (o:IpOK P I) (i:TOK P X.T X.fk) {S:List (Con I)} (k: ∀c∈S,zn P c) {j:List Nat} {st:ES I.C} {e:Env} {lh:LH} (p:Vw P X ρ G st e lh) {id:Nat} {a:Array Oper} {K:ES I.C->Option R} {Q:Post}
  (n:opsE X S j nt a.toList 0 a.toList st [] (fun b _=>K b)=some r0)
  (l: ∀b g d,K b=some r0->Vw P X ρ G b g d->Q .normal g d):SW P nt (.region id a false) Q e lh:=by
 obtain⟨s,b,h,f,q,m,r,_⟩:=MI (nt:=nt) (ops:=a.toList) o i k a.toList 0 st e lh [] p n;exact UD (s0:=⟨e,lh.get,lh.next⟩) f ⟨f,q⟩ (l _ _ _ r m)
theorem R9 (f:P.follows .mixedOrders=true) (p:IpOK P I) (o:TOK P X.T X.fk) {S:List (Con I)} (s: ∀c∈S,zn P c) {r:List Nat} {st:ES I.C} {e:Env} {lh:LH} (i:Vw P X ρ G st e lh) {id:Nat} {a:Array Oper} {K:ES I.C->Option R} {Q:Post}
  (w:opsE X S r nt a.toList 0 a.toList st [] (fun b fps=>cond (yE a.toList fps) (K b) none)=some r0)
  (t: ∀b j d,K b=some r0->Vw P X ρ G b j d->Q .normal j d):SW P nt (.region id a true) Q e lh:=by
 obtain⟨y,b,h,k,q,m,n,x,v,l⟩:=MI (nt:=nt) (ops:=a.toList) p o s a.toList 0 st e lh [] i w;obtain⟨g,u⟩:=zk n;simp only[yE,Ca,Mc]at g;exact sQ (s0:=⟨e,lh.get,lh.next⟩) f ⟨k,q⟩ (OY (fun _=>trivial) i k x v l g.2) g.1 (t _ _ _ u m)
end
theorem dP{R:Type}{x y:Option R}{r:R}(h:both x y=some r):x=some r/\y=some r:=by
 unfold both at h
 grind
theorem iP{R:Type}{r:R}: ∀{l:List (Option R)},allB l=some r-> ∀x∈l,x=some r
 |[],h=>by cases h
 |[x],h=>fun y a=>by rw[Oa.1 a];exact h
 |x::z::l,h=>by
  obtain⟨c,b⟩:=dP h;intro y a;rcases Ab.1 a with e|e
  ·subst e;exact c
  ·exact iP b y e
section
variable {P:Program} {nt:Nat} {ops:List Oper}
theorem OpOK.step {o:Oper} {r:RO} {s:TS} (m:OpOK P nt ops o r s) {ι:Asg} {a:Act} {w:World} (f:Now ι nt s.e ⟨s.next,s.get⟩ a w) {K:Act->World->Prop} {Q:Exit->Act->World->Prop}
  (t: ∀b x w',Now b nt (Ze o r s).e ⟨(Ze o r s).next,(Ze o r s).get⟩ x w'->StK s.next ι w b w'->K x w'):if Region.wanted o (yielded ops.toArray a.tmps)=true then o.wp P a w K Q else K (a.put o.dst undef) w:=by
 obtain⟨B,z,y⟩:=m.run ι a w s.e s.get s.next f.rel f.free f.env (fun _ _=>rfl) (fun _ _=>rfl) (fun j _=>f.free _ (by rw[m.nx];grind));have q:=m.nx;have d:=m.dst;have c: ∀{b:Asg},(∀id,ι id= .free->(id<s.next\/s.next+r.k<=id)->b id= .free)->Qt b (s.next+r.k):=fun C id hid=>C id (f.free id (Lb (Uc _ _) hid)) (.inr hid);clear m;obtain⟨g,D,H,F,E,k⟩:=r;simp only at*;subst q;cases g with
 |none=> rw[La (by simp[Region.wanted,B])];exact(y (by simp)).wp fun A w' ⟨b,n,p,l,i⟩=>t b _ w' ⟨n,c i,Yj (f.env.step l) d p⟩ ⟨l,fun id hid u=>i id u (.inl hid)⟩
 |some g=>
  have v:=z g rfl;cases g with
  |true=> rw[La v];exact(y (by simp)).wp fun A w' ⟨b,n,p,l,i⟩=>t b _ w' ⟨n,c i,Yj (f.env.step l) d (VH p)⟩ ⟨l,fun id hid u=>i id u (.inl hid)⟩
  |false=> rw[Ga (by rw[v];simp)];exact t ι _ w ⟨f.rel,c (fun id h _=>h),Yj f.env d (KI _)⟩ (StK.refl _ ι w)
variable {I:Ip} {X:Cx I} {ρ:Nat->Nat} {G:Get} {R:Type} {r0:R}
theorem zA5(hI:IpOK P I)(hT:TOK P X.T X.fk){S:List (Con I)}(hS: ∀c∈S,zn P c){fz:List Nat}{K:ES I.C->Option R}{Q:Post}(hQ: ∀st' e' lh',K st'=some r0->Vw P X ρ G st' e' lh'->Q .normal e' lh'){ι0:Asg}{w0:World}{lh0:LH}:
  ∀(fuel:Nat) (listed:Array Bool) (done:List Nat) (st:ES I.C) (e:Env) (lh:LH) (ι:Asg) (a:Act) (w:World),listed.size=ops.length->(∀j,listed.getD j false=memN j done)->(List.range ops.length).countP (fun j=> !listed.getD j false)<=fuel->
   Vw P X ρ G st e lh->anyE X S fz nt ops K fuel done st=some r0->Now ι nt e lh a w->StK lh0.next ι0 w0 ι w->lh0.next<=lh.next->
   wpAny P .any ops.toArray (fun x a' w'=> ∃ι' e' lh',Q x e' lh'/\Now ι' nt e' lh' a' w'/\StK lh0.next ι0 w0 ι' w'/\lh0.next<=lh'.next) fuel listed a w:=by
 intro fuel
 induction fuel with
 |zero=>
  intro listed done st e lh ι a w hsz hd hcnt hv h hN hst hle;refine⟨?_,?_⟩
  ·rw[yf];intro j hj;rw[mem_ready]at hj;obtain⟨h1,o,ho,_⟩:=hj;have hjl:j<ops.length:=by
    have:ops[j]? =some o:=by simpa using ho
    exact(Da.1 this).1
   have h0:=List.countP_eq_zero.1 (Nat.le_zero.1 hcnt) j (Kc.2 hjl)
   grind
  ·exact⟨ι,e,lh,hQ _ _ _ h hv,hN,hst,hle⟩
 |succ fuel ih=>
  intro listed done st e lh ι a w hsz hd hcnt hv h hN hst hle;have hready: ∀j,j∈Region.ready .any ops.toArray listed↔j∈dz ops done:=by
   intro j;unfold dz;rw[mem_ready,Gd,Kc];constructor
   ·intro ⟨h1,o,ho,hr⟩;have ho':ops[j]? =some o:=by simpa using ho
    have hjl:j<ops.length:=(Da.1 ho').1;refine⟨hjl,?_⟩;have hS:listed.getD j false=false:=by rw[Ed,Jh (by omega)]at h1 ⊢;simpa using h1
    rw[ho',<-hd,hS];simp only[Cc,Sb,Ta];intro i hi;simp only[direct,Ka,Gd]at hi;obtain⟨ed,⟨he1,he2⟩,rfl⟩:=hi
    grind
   ·intro ⟨hjl,h1⟩;have ho':ops[j]? =some ops[j]:=Ja hjl;rw[ho',Ca]at h1;obtain⟨h1,h2⟩:=h1;simp only[Ta]at h2;refine⟨?_,ops[j],by simp,fun ed hed hb=> ?_⟩
    ·grind
    ·rw[hd];refine h2 ed.on ?_;simp only[direct,Ka,Gd]
     grind
  simp only[anyE]at h;refine⟨fun hnil=> ?_,fun j hj=> ?_⟩
  ·have hz:dz ops done=[]:=by rw[yf];intro j hj;have:=(hready j).2 hj;rw[hnil]at this;simp at this
   grind
  ·have hj':=(hready j).1 hj;rw[mem_ready]at hj;obtain⟨h1,o,ho,_⟩:=hj;have ho':ops[j]? =some o:=by simpa using ho
   have hjl:j<ops.length:=(Da.1 ho').1;have hS0:listed.getD j false=false:=by rw[Ed,Jh (by omega)]at h1 ⊢;simpa using h1
   have hS': ∀i,(listed.setIfInBounds j true).getD i false=(listed.getD i false||i==j):=by
    intro i;by_cases hij:i=j
    ·simp_all
    ·rw[getD_set_ne false (Ne.symm hij)];simp[hij]
   split at h
   ·grind
   ·have hjj:=iP h _ (Ka.2 ⟨j,hj',rfl⟩);rw[ho']at hjj;simp only at hjj;split at hjj
    ·cases hjj
    ·rename_i q hg;obtain⟨res,r1,r2,r3,r4⟩:=VE (nt:=nt) (ops:=ops) hI hT hS hv hg hjj;obtain⟨hok,r5⟩:=zk r1;have hv':=AA hv hok r3 r4;have hk:=hok;simp only[Ij,Ca]at hk;have hdn: ∀d,o.dst=some d->d<nt:=by intro d hd;have k1:=hk.1.1.1.1;rw[hd]at k1;simp only[Ca]at k1;exact ZJ.1 k1.1.1.1.1
     have hstp:=(r2 hdn).step (s:=⟨e,lh.get,lh.next⟩) hN (K:=wpAny P .any ops.toArray (fun x a' w'=> ∃ι' e' lh',Q x e' lh'/\Now ι' nt e' lh' a' w'/\StK lh0.next ι0 w0 ι' w'/\lh0.next<=lh'.next) fuel (listed.setIfInBounds j true)) (Q:=fun x a' w'=> ∃ι' e' lh',Q x e' lh'/\Now ι' nt e' lh' a' w'/\StK lh0.next ι0 w0 ι' w'/\lh0.next<=lh'.next)
      (fun ι' a' w' hN' hst'=>ih (listed.setIfInBounds j true) (j::done) _ _ _ ι' a' w' (by simpa using hsz) (fun i=>by
        rw[hS',hd];simp only[memN];by_cases hij:i=j
        ·subst hij;simp
        ·have:Nat.beq i j=false:=by
          cases hb:Nat.beq i j with
          |false=>rfl
          |true=>simp_all
         simp[this,hij]) (by
       have:=cnt_lt (l:=List.range ops.length) (p:=fun j=> !listed.getD j false) (q:=fun i=> !(listed.setIfInBounds j true).getD i false) (fun x hx=>by
        grind) (Kc.2 hjl) (by grind) (by grind)
       omega) hv' r5 hN' (hst.trans hst' hle) (Lb hle (Uc _ _)))
     unfold wpOp
     grind
theorem U7 (hmix:P.follows .mixedOrders=true) (hI:IpOK P I) (hT:TOK P X.T X.fk) {S:List (Con I)} (hS: ∀c∈S,zn P c) {fz:List Nat} {st:ES I.C} {e:Env} {lh:LH} (hv:Vw P X ρ G st e lh) {id:Nat} {opa:Array Oper} {K:ES I.C->Option R} {Q:Post}
  (h0:anyE X S fz nt opa.toList K opa.toList.length [] st=some r0)
  (hQ: ∀st' e' lh',K st'=some r0->Vw P X ρ G st' e' lh'->Q .normal e' lh'):SW P nt (.region id opa true) Q e lh:=by
 intro ι a w hN;refine wp_region_any hmix ?_;have st':Stp ι w ι {w with drawn:=w.drawn+1}:=⟨rfl,rfl,rfl,Ya _,fun _ _ h=>h,fun _ h=>h,fun _ _=>rfl,fun _ _=> .inl rfl⟩;have hS0: ∀j,(Array.replicate opa.size false).getD j false=false:=by intro j;rw[Ed,Array.getElem?_replicate];split<;>rfl
 have hN1:Now ι nt e lh a {w with drawn:=w.drawn+1}:=
  ⟨⟨fun id o ho=>let⟨b,h1,h2⟩:=hN.rel.live id o ho;⟨b,h1,h2.step st' (fun _ _=>rfl)⟩,hN.rel.gone,hN.rel.inj,hN.rel.glob.step st'⟩,hN.free,hN.env.step st'⟩
 have:=zA5 (ops:=opa.toList) hI hT hS hQ (ι0:=ι) (w0:=w) (lh0:=lh) opa.toList.length (Array.replicate opa.size false) [] st e lh ι a {w with drawn:=w.drawn+1} (by simp) (fun j=>by rw[hS0];rfl)
  (by simp_all) hv h0 hN1 ⟨st',fun id _ h=>h⟩ (Ya _)
 simpa using this
end
section
variable {P:Program} {nt:Nat} {ops:List Oper} {I:Ip} {X:Cx I} {ρ:Nat->Nat} {G:Get} {R:Type} {r0:R}
theorem xO{o:Oper}{w:Bool}{t:TypeId}{x:Operand}(h:Nu o=some (w,t,x)):(∃d,o.dst=some d)/\o.guard=none/\ ∃u,o.op= .binOp (cond w .eql .neq) t x (.const (.slice none 0 0)) u:=by
 unfold Nu at h
 grind
theorem JN{ι:Asg}{w0:World}{get:Get}{a:Act}{o:Oper}{w:Bool}{t:TypeId}{x:Operand}{v:Value}{e:TypeId}(hR:Rel ι get w0)(h:Nu o=some (w,t,x))(hk:kdOf P t= .sl e)(hv:a.eval x=v){ad:Option Addr}{n c:Nat}(hs:v= .slice ad n c)(nx:Nat):
  Runs P a o w0 (Good ι w0 get nx 0 (.v (.c (.p (.at (.bool (cond w ad.isNone !ad.isNone)))))) []):=by
 obtain⟨⟨d,h1⟩,h2,u,h3⟩:=xO h;subst hs;have hun:=Dg hk;refine .inl ⟨.bool (cond w ad.isNone !ad.isNone),w0,?_,Qc hR (Ni _)⟩;have hc:a.eval (.const (.slice none 0 0))= .slice none 0 0:=rfl;cases w with
 |true=> have hg:=aM (P:=P) (w:=w0) .eql t x (.const (.slice none 0 0)) ad none n c 0 0;have hb:=Lib.run_eql_slice_nil (P:=P) w0 t e ad n c 0 0 hun;simp[execOp,h3,hv,hc,Sem.run_bind,hg,hb]
 |false=> have hg:=aM (P:=P) (w:=w0) .neq t x (.const (.slice none 0 0)) ad none n c 0 0;have hb:=run_neq_slice_nil_any (P:=P) w0 t e ad n c 0 0 hun;simp[execOp,h3,hv,hc,Sem.run_bind,hg,hb]
theorem lF(hI:IpOK P I)(hT:TOK P X.T X.fk){S:List (Con I)}(hS: ∀c∈S,zn P c){fz:List Nat}{K:ES I.C->Option R}{Q:Post}(hQ: ∀a4 A f,K a4=some r0->Vw P X ρ G a4 A f->Q .normal A f){ι0:Asg}{w0:World}{lh0:LH}:
  ∀(l:List Oper) (j:Nat) (st:ES I.C) (e:Env) (lh:LH) (ι:Asg) (a:Act) (w:World),Vw P X ρ G st e lh->seqN X S fz nt ops K j l st=some r0->Now ι nt e lh a w->StK lh0.next ι0 w0 ι w->lh0.next<=lh.next->
   wpList P ops.toArray (fun x Y w'=> ∃g A f,Q x A f/\Now g nt A f Y w'/\StK lh0.next ι0 w0 g w'/\lh0.next<=f.next) l a w
 |[],j,st,e,lh,ι,a,w,V,h,H,F,y=>⟨ι,e,lh,hQ _ _ _ h V,H,F,y⟩
 |o::r,j,st,e,lh,ι,a,w,V,h,H,F,y=>by
  refine wpList_step fun K' a2=> ?_;simp only[seqN]at h;split at h
  ·rename_i wb t x O;obtain⟨⟨d,a8⟩,a6,u,ab⟩:=xO O;rw[La (by simp[Region.wanted,a6])]
   -- whatever the test says, the rest is well
   have a0: ∀b:Bool,cond (Ij X nt o [] st (okV (.bool b))) (seqN X S fz nt ops K (j+1) r (xh o [] st (okV (.bool b)))) none=some r0->Runs P a o w (Good ι w lh.get lh.next 0 (.v (.c (.p (.at (.bool b))))) [])->o.wp P a w K' (fun x Y w'=> ∃g A f,Q x A f/\Now g nt A f Y w'/\StK lh0.next ι0 w0 g w'/\lh0.next<=f.next):=by
    intro b hb a1;obtain⟨E,r5⟩:=zk hb;have J:=AA (P:=P) (q:=[]) (res:=okV (.bool b)) V E (fun p hp=>by cases hp) (fun hf=>by cases hf);have L:=E;simp only[Ij,Ca]at L;have W: ∀d,o.dst=some d->d<nt:=by intro d hd;have M:=L.1.1.1.1;rw[hd]at M;simp only[Ca]at M;exact ZJ.1 M.1.1.1.1
    refine a1.wp fun v' w' ⟨g,g1,g2,g3,g4⟩=>a2 _ _ ?_;have a5:Qt g lh.next:=fun id hid=>g4 id (H.free id hid) (.inr (by simpa using hid));have U:=Yj (H.env.step g3) W g2;exact lF hI hT hS hQ r (j+1) _ _ _ g _ w' J r5 ⟨g1,a5,U⟩ (F.trans ⟨g3,fun id hid hf=>g4 id hf (.inl hid)⟩ y) y
   unfold nilE at h;split at h
   ·rename_i A u' l L hx;have N:=qM hT L (by simp);have m:=zZ (ww H.env) x;have D:opd (Zh e) x= .v (.c (.p (.sl (l.map (I.full u'))))):=Hr (q:=[]) V (.inl rfl) x (.c (.sl u' l)) (by rw[hx];rfl);rw[D]at m;have i:RepP (Dom ι w) w (.sl (l.map (I.full u'))) (a.eval x):=m.2;generalize Z:a.eval x=av at i;cases i with
    |sl a7 ad n c k b o' aa hn hc ha hD a9 J hr=>
     have B:=JN (P:=P) (nx:=lh.next) H.rel O N Z rfl;cases hl:l with
     |nil=>
      rw[hl]at h;simp only[List.isEmpty_nil,Ea]at h;obtain⟨h1,h2⟩:=dP h;cases ad with
      |none=>grind
      |some ad=>grind
     |cons z l'=>
      grind
   ·rename_i A L hx;have N:=qM hT L (by simp);have m:=zZ (ww H.env) x;have D:opd (Zh e) x= .v (.c (.p (.at (.slice none 0 0)))):=Hr (q:=[]) V (.inl rfl) x (.c .nil) (by rw[hx];rfl);rw[D]at m;have i:RepP (Dom ι w) w (.at (.slice none 0 0)) (a.eval x):=m.2;generalize Z:a.eval x=av at i;cases i;have B:=JN (P:=P) (nx:=lh.next) H.rel O N Z rfl;exact a0 wb h (by simpa using B)
   ·cases h
  ·split at h
   ·cases h
   ·rename_i q hg;obtain⟨res,r1,r2,r3,r4⟩:=VE (nt:=nt) (ops:=ops) hI hT hS V hg h;obtain⟨E,r5⟩:=zk r1;have J:=AA V E r3 r4;have L:=E;simp only[Ij,Ca]at L;have W: ∀d,o.dst=some d->d<nt:=by intro d hd;have M:=L.1.1.1.1;rw[hd]at M;simp only[Ca]at M;exact ZJ.1 M.1.1.1.1
    exact(r2 W).step (s:=⟨e,lh.get,lh.next⟩) H (K:=K') (Q:=fun x Y w'=> ∃g A f,Q x A f/\Now g nt A f Y w'/\StK lh0.next ι0 w0 g w'/\lh0.next<=f.next)
     (fun g Y w' U a3=>a2 _ _ (lF hI hT hS hQ r (j+1) _ _ _ g Y w' J r5 U (F.trans a3 y) (Lb y (Uc _ _))))
theorem R7 (o:IpOK P I) (i:TOK P X.T X.fk) {S:List (Con I)} (l: ∀c∈S,zn P c) {j:List Nat} {st:ES I.C} {e:Env} {lh:LH} (p:Vw P X ρ G st e lh) {id:Nat} {b:Array Oper} {K:ES I.C->Option R} {Q:Post}
  (n:seqN X S j nt b.toList K 0 b.toList st=some r0)
  (m: ∀f h d,K f=some r0->Vw P X ρ G f h d->Q .normal h d):SW P nt (.region id b false) Q e lh:=by
 intro g a w k;refine wp_region_list ?_;have:=lF (ops:=b.toList) o i l m (ι0:=g) (w0:=w) (lh0:=lh) b.toList 0 st e lh g a w p n k (StK.refl _ g w) (Ya _);simp_all
end
end Go.Lv
