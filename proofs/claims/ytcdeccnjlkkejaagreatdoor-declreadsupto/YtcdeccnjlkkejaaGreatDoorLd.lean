/- That the evaluator is right: an operation at its place in a region. -/
import Derived.Test.YtcdeccnjlkkejaaGreatDoorLc
import Derived.WalkSpells
import Derived.Lib.SliceRun
set_option linter.unusedSimpArgs false
set_option linter.unusedVariables false
namespace Go.Lv
structure Vw {I:Ip} (P:Program) (X:Cx I) (ρ:Nat->Nat) (G:Get) (st:ES I.C) (e:Env) (lh:LH):Prop where
 env: ∀t,look e t=(match lkE X st t with|some x=>trL ρ (lkO X st) (lkE X st) x|none=> .any)
 heap: ∀id o,lkO X st id=some o->lh.get (ρ id)=trO P ρ (lkO X st) o
 oth: ∀i,G i≠none->lh.get i=G i/\ ∀id o,lkO X st id=some o->ρ id≠i
 inj: ∀i j o o',lkO X st i=some o->lkO X st j=some o'->ρ i=ρ j->i=j
 lt: ∀id,id<st.next->ρ id<lh.next
 up: ∀id,st.next<=id->ρ id=lh.next+(id - st.next)
 fre: ∀t x,lk X.frm t=some x->lkE X st t=some x/\wy x=true
 fro: ∀i o,lk X.frh i=some o->lkO X st i=some o
 glt: ∀i,G i≠none->i<lh.next
 wfe: ∀t x,lkE X st t=some x->wfL st.next x=true
 wfh: ∀id o,lkO X st id=some o->id<st.next/\wfO st.next o=true
def unopt:LV->LV
 | .opt true t=> .v t
 |x=>x
def Zn(e:Env):Env:=e.map fun p=>(p.1,unopt p.2)
theorem mo: ∀(e:Env) (t:Nat),look (Zn e) t=unopt (look e t)
 |[],t=>rfl
 |(j,x)::r,t=>by
  simp only[Zn,Va,look];split
  ·rfl
  ·exact mo r t
theorem FW{ι:Asg}{w:World}{x:LV}{v:Value}(h:repL ι w x v):repL ι w (unopt x) v:=by
 unfold unopt;split
 ·exact h.1 rfl
 ·exact h
theorem Yw{ι:Asg}{w:World}{nt:Nat}{e:Env}{a:Act}(h:QF ι w nt e a):QF ι w nt (Zn e) a:=
 ⟨h.size,h.defers,fun i=>by rw[mo];exact FW (h.rep i)⟩
section
variable {P:Program} {I:Ip} {X:Cx I} {ρ:Nat->Nat} {G:Get} {st:ES I.C} {e:Env} {lh:LH} {q:Path}
theorem pM{E:Nat->Option (EL I.C)}{a:Nat×Bool}: ∀{q:Path},qH E q=true->memK a q=true->litB a.2 (xg E a.1)=true
 |[],_,h=>by cases h
 |b::r,g,h=>by
  have i:litB b.2 (xg E b.1)=true/\(r=[]\/qH E r=true):=by
   obtain⟨t,w⟩:=b;cases r with
   |nil=>exact⟨g, .inl rfl⟩
   |cons c r=>simp only[qH,Fa]at g;grind
  simp only[memK]at h;cases f:beqK a b with
  |true=>
   simp only[beqK,Fa]at f;have j:=Fb f.1
   grind
  |false=>
   rw[f]at h;rcases i.2 with d|d
   ·subst d;cases h
   ·exact pM d h
theorem KC{E:Nat->Option (EL I.C)}: ∀{p q:Path},qH E q=true->subK p q=true->qH E p=true
 |[],q,_,_=>rfl
 |a::r,q,f,h=>by
  simp only[subK]at h;obtain⟨d,j⟩:=zm (R:=Unit) (x:=some ()) (r0:=()) (b:=memK a q&&subK r q) (by
   grind)
  rw[Fa]at d;have g:=pM f d.1;have i:=KC f d.2;obtain⟨t,w⟩:=a;cases r with
  |nil=>exact g
  |cons c r=>simp only[qH,Fa];grind
theorem BL{b:Path}(h:subK b []=true):b=[]:=by
 cases b with
 |nil=>rfl
 |cons a r=>cases h
theorem tV{I:Ip}{q:Path}{x:EL I.C}{t:ET I.C}(h:useE [] x=some t):useE q x=some t:=by
 cases x with
 |v u=>exact h
 |opt b u=>
  simp only[useE]at h ⊢;cases a:subK b []with
  |true=>rw[a]at h;rw[BL a];exact h
  |false=>grind
 |any=>cases h
 |tup c=>cases h
theorem PG{E:Nat->Option (EL I.C)}{x:EL I.C}{t:ET I.C}(b:q=[]\/qH E q=true)(hu:useE q x=some t):x= .v t\/ ∃a,x= .opt a t/\qH E a=true:=by
 unfold useE at hu;split at hu
 ·grind
 ·rename_i a f;obtain⟨d,c⟩:=zm hu;injection c with c;subst c;refine .inr ⟨a,rfl,?_⟩;rcases b with rfl|b
  ·rw[BL d];rfl
  ·exact KC b d
 ·cases hu
theorem wO{E:Nat->Option (EL I.C)}{h:Nat->Option (EO I.C)}(v:Value)(a:(Jj v:EL I.C)≠ .any):Am v=trL ρ h E (Jj v):=by
 cases v with
 |agg b=>
  simp only[Jj]at a ⊢;cases d:b.all (·.oneCell')with
  |false=>grind
  |true=> simp only[Ca,Am,d,Od,trL,trT,Sb];congr 2;exact Sa fun u _=>(xH (ρ:=ρ) (h:=h) u).symm
 |tuple b=>exact absurd rfl a
 |_=>exact congrArg (fun x=>LV.v (TV.c x)) (xH (ρ:=ρ) (h:=h) _).symm
theorem Cr(hv:Vw P X ρ G st e lh)(hq:q=[]\/qH (lkE X st) q=true)(x:Operand)(t:ET I.C)(hu:useE q (opdE X st x)=some t):opd (Zn e) x= .v (trT ρ (lkO X st) t):=by
 cases x with
 |tmp i=>
  simp only[opd,mo,hv.env i];simp only[opdE]at hu;cases hl:lkE X st i with
  |none=>rw[hl]at hu;cases hu
  |some y=>
   rw[hl]at hu;simp only at hu;rcases PG hq hu with h1|⟨ks,h1,h2⟩
   ·have:=vz (ρ:=ρ) (h:=lkO X st) (e:=lkE X st) y;rw[h1]at this;simp only;rw[<-this];rfl
   ·have:=vz (ρ:=ρ) (h:=lkO X st) (e:=lkE X st) y;rw[h1]at this;simp only;rw[<-this];simp[trL,h2,unopt]
 |const v=>
  simp only[opdE]at hu;have hne:(Jj v:EL I.C)≠ .any:=fun h=>by rw[h]at hu;cases hu
  rw[show opd (Zn e) (.const v)=Am v from rfl,wO (ρ:=ρ) (E:=lkE X st) (h:=lkO X st) v hne];rcases PG hq hu with h1|⟨ks,h1,h2⟩
  ·rw[h1];rfl
  ·exfalso;cases v<;>first|(simp[Jj]at h1;done)|skip
   simp only[Jj]at h1
   grind
 |global g=>cases hu
 |func f=> simp only[opdE,useE,Option.some.injEq]at hu;subst hu;rfl
theorem wE(b:Vw P X ρ G st e lh)(x:Operand)(ts:List (ET I.C))(hu:opdE X st x= .tup ts):opd (Zn e) x= .tup (ts.map (trT ρ (lkO X st))):=by
 cases x with
 |tmp i=>
  simp only[opd,mo,b.env i];simp only[opdE]at hu;cases a:lkE X st i with
  |none=>grind
  |some y=> rw[a]at hu;simp only at hu ⊢;rw[<-vz (ρ:=ρ) (h:=lkO X st) (e:=lkE X st) y,hu];rfl
 |const v=>
  exfalso;simp only[opdE]at hu;cases v<;>first|(simp[Jj]at hu;done)|skip
  simp only[Jj]at hu
  grind
 |global g=>cases hu
 |func f=>cases hu
theorem fB(n:Vw P X ρ G st e lh)(x:Operand){l:Path}{b:Bool}(a:Ju (opdE X st x)=some (l,b)):Xj (opd (Zn e) x)=(qH (lkE X st) l,some b):=by
 have k: ∀y:LV,∀c d,Xj y=(c,some d)->Xj (unopt y)=(c,some d):=by
  intro y c d h;cases y with
  |opt g t=>
   cases g with
   |true=>exact h
   |false=>exact h
  |_=>exact h
 cases x with
 |tmp i=>
  simp only[opd,mo,n.env i];simp only[opdE]at a;cases m:lkE X st i with
  |none=>rw[m]at a;cases a
  |some y=> rw[m]at a;refine k _ _ _ ?_;simp only;rw[<-vz (ρ:=ρ) (h:=lkO X st) (e:=lkE X st) y];exact nN a
 |const v=>
  simp only[opdE]at a;have j:(Jj v:EL I.C)≠ .any:=fun h=>by rw[h]at a;cases a
  rw[show opd (Zn e) (.const v)=Am v from rfl,wO (ρ:=ρ) (E:=lkE X st) (h:=lkO X st) v j];exact nN a
 |global g=>cases a
 |func f=>cases a
theorem PK{h:Nat->Option (EO I.C)}{n:Nat}{x:EV I.C}(a:wfV n x=true):wfV n (nrmV h x)=true:=by
 cases x<;>simp only[nrmV]<;>first|exact a|skip
 split
 ·rfl
 ·exact a
theorem MF{h:Nat->Option (EO I.C)}{n:Nat}{x:ET I.C}(a:wfT n x=true):wfT n (nrmT h x)=true:=by
 cases x with
 |c x=>exact PK a
 |agg d=> simp only[nrmT,wfT,Ua,Ma]at a ⊢;rintro _ ⟨y,b,rfl⟩;exact PK (a y b)
theorem iO(n:Nat)(v:Value):wfV n (Co v:EV I.C)=true:=by unfold Co;split<;>rfl
theorem zCj(k:Vw P X ρ G st e lh)(x:Operand)(t:ET I.C)(hu:useE q (opdE X st x)=some t):wfT st.next t=true:=by
 have a: ∀y:EL I.C,wfL st.next y=true->useE q y=some t->wfT st.next t=true:=by
  intro y b hu;unfold useE at hu;split at hu
  ·injection hu with hu;subst hu;exact b
  ·obtain⟨n,j⟩:=zm hu;injection j with j;subst j;exact b
  ·cases hu
 cases x with
 |tmp i=>
  simp only[opdE]at hu;cases h:lkE X st i with
  |none=>rw[h]at hu;cases hu
  |some y=>
   rw[h]at hu;have d:=k.wfe i y h;refine a _ ?_ hu;cases y with
   |any=>rfl
   |v t=>exact MF d
   |opt m t=>exact MF (x:=t) d
   |tup o=> simp only[nrmL,wfL,Ua,Ma]at d ⊢;rintro _ ⟨y,b,rfl⟩;exact MF (d y b)
 |const v=>
  refine a _ ?_ hu;cases v<;>simp only[opdE,Jj]<;>first|rfl|exact iO _ _|skip
  rename_i l;cases p:l.all (·.oneCell')
  ·rfl
  ·simp only[Ca,wfL,wfT,Ua,Ma];rintro _ ⟨y,b,rfl⟩;exact iO _ _
 |global g=>cases hu
 |func f=> refine a (.v (.c (.clo f []))) rfl hu
end
section
variable {P:Program} {I:Ip} {T:TT} {fk:List (Nat×List Kd)} {ρ:Nat->Nat} {h:Nat->Option (EO I.C)} {e:Nat->Option (EL I.C)} {get:Get} {nx:Nat} {R:Type} {r0:R} {q:Path} {g:Bool} {K:Kt I R}
theorem QR{b:Bool}{x:Option R}(h:Yg q g b x=some r0):x=some r0:=by
 unfold Yg at h;split at h
 ·exact(zZ h).2
 ·exact(zZ h).2
theorem JB{α:Type}{c:Option α}{d:α}{f:α->Option R}(h:bndG q g c d f=some r0): ∃x,f x=some r0:=by
 unfold bndG at h;split at h
 ·obtain⟨x,_,a⟩:=Da.1 h;exact⟨x,a⟩
 ·obtain⟨x,_,a⟩:=Da.1 h;exact⟨x,a⟩
def AnyR(q:Path)(K:Kt I R)(r0:R):Prop:= ∃a,K a=some r0/\(q=[]\/a.up=[])
theorem any_ok{res:OR I.C}(h:K res=some r0)(hu:res.up=[]):AnyR q K r0:=⟨res,h, .inr hu⟩
theorem wW{op:BinOp}{k:IntKind}{x y:Int}(a:intE op k x y q g K=some r0):AnyR q K r0:=by cases op<;>simp only[intE]at a<;>first|exact any_ok a rfl|exact any_ok (QR a) rfl
theorem XV{op:BinOp}{l m:List UInt8}(a:strE op l m q g K=some r0):AnyR q K r0:=by cases op<;>simp only[strE]at a<;>first|(cases a;done)|exact any_ok a rfl|exact any_ok (QR a) rfl
theorem mW{fk:Option (List Kd)}{d:Kd}{op:BinOp}{a b:ET I.C}(c:binE fk d op a b q g K=some r0):AnyR q K r0:=by
 unfold binE at c;split at c
 ·exact wW (zm c).2
 ·exact XV c
 ·split at c<;>first|(cases c;done)|exact any_ok c rfl
 ·split at c<;>first|(cases c;done)|(obtain⟨_,_,f⟩:=zk c;exact any_ok f rfl)
 ·split at c<;>first|(cases c;done)|exact any_ok c rfl
 ·split at c<;>first|(cases c;done)|exact any_ok c rfl
 ·cases c
theorem zBH{op:UnOp}{a:ET I.C}(b:unE op a K=some r0):AnyR q K r0:=by unfold unE at b;split at b<;>first|(cases b;done)|exact any_ok b rfl
theorem dX{c:Operand}{f a b:EL I.C}(d:ny c f a b q K=some r0):AnyR q K r0:=by
 unfold ny at d;split at d
 ·exact any_ok (zm d).2 rfl
 ·exact any_ok d rfl
 ·cases d
theorem oZ{E:Operand->EL I.C}{t:Nat}{ps:List (Nat×Operand)}(a:nu T E q t ps K=some r0):AnyR q K r0:=by
 unfold nu at a;split at a
 ·cases a
 ·split at a
  ·obtain⟨_,_,b⟩:=zk a;exact any_ok (zm b).2 rfl
  ·obtain⟨_,_,b⟩:=zk a;exact any_ok (zm b).2 rfl
  ·cases a
theorem zk0{E:Operand->EL I.C}{d:Nat}{n t len:Nat}{ps:List (Nat×Operand)}(a:Vx T E q d n t len ps K=some r0):AnyR q K r0:=by
 unfold Vx at a;split at a
 ·split at a
  ·obtain⟨_,c⟩:=zm a;rw[dH]at c;obtain⟨_,_,b⟩:=Da.1 c;split at b
   ·exact any_ok b rfl
   ·exact⟨_,b, .inl rfl⟩
   ·exact⟨_,(zm b).2, .inl rfl⟩
   ·cases b
  ·cases a
 ·cases a
theorem UX{i:TI}{a:ET I.C}(b:Hu i h a q g K=some r0):AnyR q K r0:=by
 unfold Hu at b;split at b
 ·split at b
  ·obtain⟨_,d⟩:=zm b;obtain⟨_,_,c⟩:=zk d;exact any_ok c rfl
  ·obtain⟨_,d⟩:=JB b;obtain⟨_,_,c⟩:=zk d;exact any_ok c rfl
  ·obtain⟨_,_,d⟩:=zk b;exact any_ok (QR d) rfl
  ·cases b
 ·obtain⟨_,_,c⟩:=zk b;exact any_ok c rfl
 ·cases b
theorem NZ{i:TI}{a x:ET I.C}(b:Tu i h a x q K=some r0):AnyR q K r0:=by
 unfold Tu at b;split at b
 ·split at b
  ·exact⟨_,(zm b).2, .inl rfl⟩
  ·obtain⟨_,_,f⟩:=Da.1 b;obtain⟨_,d⟩:=zm f;cases c:x.cells.all JE with
   |true=> rw[c]at d;obtain⟨_,_,j⟩:=Da.1 d;exact⟨_,j, .inl rfl⟩
   |false=> rw[c]at d;exact⟨_,d, .inl rfl⟩
  ·exact⟨_,(zZ (zm b).2).2, .inl rfl⟩
  ·cases b
 ·cases b
theorem R9{t f:Nat}{x:ET I.C}(a:uw T h t x f K=some r0):AnyR q K r0:=by
 unfold uw at a;split at a
 ·split at a
  ·split at a
   ·split at a
    ·exact any_ok (zm a).2 rfl
    ·exact any_ok (zm a).2 rfl
    ·exact any_ok (zm a).2 rfl
    ·cases a
   ·exact any_ok (zm a).2 rfl
   ·cases a
  ·cases a
 ·cases a
theorem O0{t f:Nat}{x:ET I.C}(a:ou T t x f K=some r0):AnyR q K r0:=by
 unfold ou at a;split at a
 ·split at a
  ·split at a
   ·obtain⟨_,_,b⟩:=zk a;exact any_ok b rfl
   ·cases a
  ·cases a
 ·cases a
theorem N9{t:Nat}{x i:ET I.C}(a:kw T h t x i q g K=some r0):AnyR q K r0:=by
 unfold kw at a;split at a
 ·split at a
  ·obtain⟨_,c⟩:=zm a;obtain⟨_,b⟩:=JB c;exact any_ok b rfl
  ·split at a
   ·exact any_ok (QR (zm a).2) rfl
   ·exact any_ok (QR (zm a).2) rfl
   ·cases a
  ·split at a
   ·exact any_ok (QR (zm a).2) rfl
   ·cases a
  ·cases a
 ·cases a
theorem CZ{t:Nat}{x i:ET I.C}(a:Yu T t x i q g K=some r0):AnyR q K r0:=by
 unfold Yu at a;split at a
 ·split at a
  ·obtain⟨_,b⟩:=JB a;exact any_ok b rfl
  ·split at a
   ·obtain⟨_,c⟩:=zm a;obtain⟨_,b⟩:=JB c;exact any_ok b rfl
   ·cases a
  ·cases a
 ·cases a
theorem TZ{t:Nat}{x:ET I.C}{lo hi mx:Option Int}(a:Uu T h t x lo hi mx q g K=some r0):AnyR q K r0:=by
 unfold Uu at a;split at a
 ·split at a
  ·exact any_ok (QR a) rfl
  ·cases a
 ·obtain⟨_,b⟩:=zm a;split at b
  ·exact any_ok (QR b) rfl
  ·split at b
   ·exact any_ok (QR b) rfl
   ·cases b
 ·exact any_ok (QR (zm a).2) rfl
 ·split at a
  ·exact any_ok (QR (zm a).2) rfl
  ·cases a
 ·cases a
theorem KV{b:Kd}{x:ET I.C}(a:lenE b h x K=some r0):AnyR q K r0:=by
 unfold lenE at a;split at a<;>first|exact any_ok a rfl|skip
 ·split at a
  ·exact any_ok a rfl
  ·exact any_ok a rfl
  ·cases a
 ·split at a
  ·exact any_ok a rfl
  ·cases a
 ·cases a
theorem oQ{mx:Bool}{k:IntKind}: ∀(as:List (ET I.C)) (m:Int),Fs mx k K m as=some r0->AnyR q K r0
 |[],m,a=>any_ok a rfl
 | .agg b::r,m,a=>by cases a
 | .c x::r,m,a=>by
  cases x<;>first|(cases a;done)|skip
  simp only[Fs]at a;exact oQ r _ (zm a).2
theorem oP{mx:Bool}{as:List (ET I.C)}(a:Hr mx as K=some r0):AnyR q K r0:=by
 unfold Hr at a;split at a
 ·exact oQ _ _ a
 ·cases a
theorem U3{n e:Nat}{s:ET I.C}{z:Nat×List (I.C e)×List (EV I.C)×List (I.C e)}(a:Tv T h n e s z K=some r0): ∃res,K res=some r0:=by
 unfold Tv at a;split at a
 ·exact⟨_,(zZ a).2⟩
 ·split at a
  ·split at a
   ·exact⟨_,(zZ a).2⟩
   ·cases a
  ·cases a
 ·cases a
theorem X3{n ts tx:Nat}{s x:ET I.C}(b:Uv T h n ts tx s x q K=some r0):AnyR q K r0:=by
 unfold Uv at b;split at b
 ·split at b
  ·obtain⟨c,a⟩:=U3 (zm b).2;exact⟨c,a, .inl rfl⟩
  obtain⟨_,a⟩:=zm b;split at a
  ·split at a
   ·exact⟨_,(zZ (zZ a).2).2, .inl rfl⟩
   ·split at a
    ·split at a
     ·exact⟨_,(zZ (zZ a).2).2, .inl rfl⟩
     ·cases a
    ·cases a
   ·split at a
    ·exact⟨_,(zZ (zZ a).2).2, .inl rfl⟩
    ·cases a
   ·cases a
  ·cases a
 ·cases b
theorem DY{ts tx:Nat}{s x:ET I.C}(b:Du T h ts tx s x q K=some r0):AnyR q K r0:=by
 unfold Du at b;split at b
 ·obtain⟨_,a⟩:=zm b;split at a
  ·split at a
   ·split at a
    ·split at a
     ·exact⟨_,(zZ (zZ a).2).2, .inl rfl⟩
     ·cases a
    ·cases a
   ·split at a
    ·split at a
     ·exact⟨_,(zZ (zZ a).2).2, .inl rfl⟩
     ·cases a
    ·cases a
   ·cases a
  ·cases a
 ·cases b
theorem GY{n src dst:Nat}{x:ET I.C}(a:Eu T h n src dst x q g K=some r0):AnyR q K r0:=by
 unfold Eu at a;split at a
 ·split at a
  ·cases a
  ·exact any_ok a rfl
 ·split at a
  ·cases a
  ·exact any_ok a rfl
 ·split at a
  ·exact⟨_,(zZ (zm a).2).2, .inl rfl⟩
  ·cases a
 ·split at a
  ·exact⟨_,(zm a).2, .inl rfl⟩
  ·cases a
 ·split at a
  ·obtain⟨_,b⟩:=zm a;split at b
   ·exact any_ok (QR b) rfl
   ·cases b
  ·cases a
 ·cases a
theorem KX{n t:Nat}{l c:ET I.C}(a:ut T n t l c q K=some r0):AnyR q K r0:=by
 unfold ut at a;split at a
 ·obtain⟨_,f⟩:=zm a;obtain⟨_,d⟩:=zZ f;obtain⟨_,_,b⟩:=Da.1 d;exact⟨_,b, .inl rfl⟩
 ·cases a
theorem R4{t:TypeId}{m k x:ET I.C}(a:Kv T h t m k x q K=some r0):AnyR q K r0:=by
 unfold Kv at a;split at a
 case h_2=>cases a
 split at a
 ·exact⟨_,(zm a).2, .inl rfl⟩
 ·cases a
theorem K5{t:TypeId}{m k:ET I.C}{ok:Bool}(a:Rv T h t m k ok q K=some r0):AnyR q K r0:=by
 unfold Rv at a;split at a
 case h_2=>cases a
 split at a
 ·exact any_ok (zm a).2 rfl
 ·cases a
theorem R7{x:ET I.C}(a:Nw h x K=some r0):AnyR q K r0:=by
 unfold Nw at a;split at a
 ·split at a
  ·exact any_ok a rfl
  ·exact any_ok a rfl
  ·exact any_ok a rfl
  ·cases a
 ·exact any_ok a rfl
 ·exact any_ok a rfl
 ·cases a
theorem aZ{con:Con I}{n:Nat}{x:(con.inS.sl I).T}{m:Mp}(a:Jz con h n x m q g K=some r0)(c:q=[]\/g=false):AnyR q K r0:=by
 unfold Jz at a;split at a
 case h_2=>cases a
 split at a
 ·obtain⟨_,_,i⟩:=Da.1 a;exact⟨_,i, .inl rfl⟩
 ·rename_i o p j f;obtain⟨_,i⟩:=zm a;obtain⟨y,_,r⟩:=Da.1 i;refine⟨_,r, .inr ?_⟩;simp only[kg,j,f,Lb,Ic,List.map_eq_nil_iff];have d: ∀(s:StSh) (y:(s.sl I).T),s.objs=[]->((s.sl I).enc y).2=[]:=by intro s y l;obtain⟨b,k⟩:=s;simp only at l;subst l;revert y;unfold StSh.sl;cases (vlOf I b).u<;>intro y<;>rfl
  exact d _ y p
 ·rcases c with c|c
  ·simp_all
  ·subst c;exact any_ok a rfl
theorem xG{n f:Nat}{as:List (ET I.C)}(c:q=[]\/g=false): ∀{S:List (Con I)},ll h n f as q g K S=some r0->AnyR q K r0
 |[],a=>by cases a
 |b::r,a=>by
  simp only[ll]at a;cases d:Nat.beq b.f f with
  |false=>rw[d]at a;exact xG c a
  |true=>
   rw[d]at a;simp only[Ca]at a;split at a
   ·exact aZ a c
   ·exact xG c a
theorem zBp{X:Cx I}{S:List (Con I)}{j:Nat}{st:ES I.C}{op:Op}(k:q=[]\/g=false)(a:opE X S j st q g op K=some r0):AnyR q K r0:=by
 cases op<;>simp only[opE]at a<;>(try (cases a;done))
 case move x=>obtain⟨_,_,b⟩:=zk a;exact any_ok b rfl
 case assign x=>obtain⟨_,_,b⟩:=zk a;exact any_ok b rfl
 case pick=>exact dX a
 case alloc=>
  split at a
  ·exact⟨_,(zm a).2, .inl rfl⟩
  ·cases a
 case box=>
  split at a
  ·obtain⟨_,_,b⟩:=zk a;exact⟨_,(zm b).2, .inl rfl⟩
  ·cases a
 case build=>exact oZ a
 case buildSlice=>exact zk0 a
 case load=>obtain⟨_,_,b⟩:=zk a;exact UX b
 case store=>obtain⟨_,_,b⟩:=zk a;obtain⟨_,_,d⟩:=zk b;exact NZ d
 case nilCheck=>obtain⟨_,_,b⟩:=zk a;exact R7 b
 case binOp=>obtain⟨_,_,b⟩:=zk a;obtain⟨_,_,d⟩:=zk b;exact mW d
 case unOp=>obtain⟨_,_,b⟩:=zk a;exact zBH b
 case convert=>obtain⟨_,_,b⟩:=zk a;exact GY b
 case makeFunc fn first caps=>
  cases fn<;>simp only[opE]at a<;>(try (cases a;done));split at a
  ·obtain⟨_,_,b⟩:=zk a;exact any_ok b rfl
  ·cases a
 case makeMap t r=>
  cases r with
  |some _=>grind
  |none=>
   simp only at a;split at a
   ·split at a
    ·exact⟨_,a, .inl rfl⟩
    ·cases a
   ·cases a
 case insert=>obtain⟨_,_,b⟩:=zk a;obtain⟨_,_,d⟩:=zk b;obtain⟨_,_,f⟩:=zk d;exact R4 f
 case lookup=>obtain⟨_,_,b⟩:=zk a;obtain⟨_,_,d⟩:=zk b;exact K5 d
 case makeSlice=>obtain⟨_,_,b⟩:=zk a;obtain⟨_,_,d⟩:=zk b;exact KX d
 case slice=>obtain⟨_,_,b⟩:=zk a;obtain⟨_,_,d⟩:=zk b;obtain⟨_,_,f⟩:=zk d;obtain⟨_,_,i⟩:=zk f;exact TZ i
 case fieldAddr=>obtain⟨_,_,b⟩:=zk a;exact R9 b
 case field=>obtain⟨_,_,b⟩:=zk a;exact O0 b
 case indexAddr=>obtain⟨_,_,b⟩:=zk a;obtain⟨_,_,d⟩:=zk b;exact N9 d
 case index=>obtain⟨_,_,b⟩:=zk a;obtain⟨_,_,d⟩:=zk b;exact CZ d
 case extract=>
  split at a
  ·obtain⟨_,_,b⟩:=zk a;exact any_ok b rfl
  ·cases a
 case call c=>
  split at a
  ·obtain⟨_,_,b⟩:=zk a;obtain⟨_,_,d⟩:=zk b;exact xG k d
  ·split at a
   ·obtain⟨_,_,b⟩:=zk a;exact KV b
   ·cases a
  ·split at a
   ·obtain⟨_,_,b⟩:=zk a;obtain⟨_,_,d⟩:=zk b;exact X3 d
   ·cases a
  ·split at a
   ·obtain⟨_,_,b⟩:=zk a;obtain⟨_,_,d⟩:=zk b;exact DY d
   ·cases a
  ·obtain⟨_,_,b⟩:=zk a;exact oP b
  ·obtain⟨_,_,b⟩:=zk a;exact oP b
  ·cases a
end
section
variable {P:Program} {nt:Nat} {ops:List Oper}
theorem FN {o:Oper} {s:TS} {g:Option Bool} {val:LV} {up:List (Nat×Option OB)} {rd:List Nat} {k:Nat} (hg:qR ops s.e o.guard=some g) (V: ∀d,o.dst=some d->d<nt)
  (X:g≠some false->(opR P [] (opd (Zn s.e)) s.get s.next o.op).pre/\
   (∀(ι:Asg) (w:World) (get':Get) v w',(∀j,j<k->get' (s.next+j)=none)->Good ι w get' s.next k (opR P [] (opd (Zn s.e)) s.get s.next o.op).val (opR P [] (opd (Zn s.e)) s.get s.next o.op).up v w'->Good ι w get' s.next k val up v w')/\
   (∀id∈(opR P [] (opd (Zn s.e)) s.get s.next o.op).rd,id∈rd\/id∈up.map (·.1))/\Zv [] (opd (Zn s.e)) o.op<=k):
  OpOK P nt ops o ⟨g,val,up,rd,s.next,k⟩ s:=by
 refine⟨V,rfl,fun ι a w y get' N H hN J Q hb Z=> ?_⟩;have u: ∀x∈o.op.operands,opd (Zn y) x=opd (Zn s.e) x:=by
  intro x hx;cases x with
  |tmp t=> simp only[opd,mo];rw[Q t ?_];simp only[Xh,Ee,Vb,Ac];exact .inl (Ud.2 ⟨.tmp t,by simpa using hx,rfl⟩)
  |const v=>rfl
  |global g=>rfl
  |func f=>rfl
 have Y:qR ops y o.guard=qR ops s.e o.guard:=Ey fun t O=>Q t (by
  simp only[Xh,Ee,Vb,Ac]at O ⊢;exact .inr O)
 refine⟨fun h=> ?_,fun b h=> ?_,fun h=> ?_⟩
 ·simp only at h;subst h;unfold qR at hg
  grind
 ·simp only at h;subst h;exact lw J (by grind)
 ·obtain⟨z,E,G,a0⟩:=X h;have m:Zv [] (opd (Zn y)) o.op=Zv [] (opd (Zn s.e)) o.op:=(AC (P:=P) (F:=[]) (get:=get') (nx:=s.next) o.op u).2;have p:opR P [] (opd (Zn y)) get' s.next o.op=opR P [] (opd (Zn s.e)) s.get s.next o.op:=by rw[(AC (P:=P) (F:=[]) (get:=get') (nx:=s.next) o.op u).1];exact WK (Ki.nil P) o.op z (fun id hid=>hb id (G id hid))
  have M:=EN (Ki.nil P) H hN (Yw J) o (nx:=s.next) (fun i hi=>by grind) (by grind);rw[p,m]at M;have l: ∀j,j<k->get' (s.next+j)=none:=by
   intro j hj;cases B:get' (s.next+j)with
   |none=>rfl
   |some ob=>
    obtain⟨b,hl,_⟩:=H.live _ _ B
    grind
  have c: ∀v w',Good ι w get' s.next (Zv [] (opd (Zn s.e)) o.op) (opR P [] (opd (Zn s.e)) s.get s.next o.op).val (opR P [] (opd (Zn s.e)) s.get s.next o.op).up v w'->Good ι w get' s.next k val up v w':=by intro v w' ⟨D,U,W,g3,S⟩;exact E ι w get' v w' l ⟨D,U,W,g3,fun id hf L=>S id hf (by omega)⟩
  rcases M with⟨v,w',n,r⟩|⟨w',n,r⟩|⟨f,vs,n,r⟩
  ·exact .inl ⟨v,w',n,c _ _ r⟩
  ·exact .inr (.inl ⟨w',n,c _ _ r⟩)
  ·exact .inr (.inr ⟨f,vs,n,r.mono fun e w' ⟨v,he,A⟩=>⟨v,he,c _ _ A⟩⟩)
theorem C8 {o:Oper} {s:TS} {g:Option Bool} {c:Call} {cf:Operand} {f:FuncId} {caps:List (Nat×Nat×Nat)} {as:List TV} {rd:List (Nat×OB)} {k:Nat} {val:LV} {up:List (Nat×Option OB)}
  (hg:qR ops s.e o.guard=some g) (V: ∀d,o.dst=some d->d<nt) (F:o.op= .call c) (D:c.callee= .value cf) (G:opd (Zn s.e) cf= .v (.c (.clo f caps)))
  (z:allT (c.args.toList.map (opd (Zn s.e)))=some (true,as)) (i:zdN P f (as++caps.map capT) rd s.next k val up) (a0: ∀p∈rd,s.get p.1=some p.2):
  OpOK P nt ops o ⟨g,val,up,rd.map (·.1),s.next,k⟩ s:=by
 refine⟨V,rfl,fun L a w A n N S hN H Q hb E=> ?_⟩;have y: ∀x∈o.op.operands,opd (Zn A) x=opd (Zn s.e) x:=by
  intro x J;cases x with
  |tmp t=> simp only[opd,mo];rw[Q t ?_];simp only[Xh,Ee,Vb,Ac];exact .inl (Ud.2 ⟨.tmp t,by simpa using J,rfl⟩)
  |const v=>rfl
  |global g=>rfl
  |func f=>rfl
 have Z:qR ops A o.guard=qR ops s.e o.guard:=Ey fun t O=>Q t (by
  simp only[Xh,Ee,Vb,Ac]at O ⊢;exact .inr O)
 refine⟨fun h=> ?_,fun b h=> ?_,fun h=> ?_⟩
 ·simp only at h;subst h;unfold qR at hg
  grind
 ·simp only at h;subst h;exact lw H (by grind)
 ·have r:=Yw H;have u:opd (Zn A) cf=opd (Zn s.e) cf:=y cf (by simp[F,Op.operands,Call.operands,D]);have l:c.args.toList.map (opd (Zn A))=c.args.toList.map (opd (Zn s.e)):=Sa fun x J=>y x (by
   simp only[F,Op.operands,Call.operands,D,Array.mem_append]
   grind)
  have W:repT L w (.c (.clo f caps)) (a.eval cf):=by have M:=zU r cf;rw[u,G]at M;exact M
  obtain⟨vs,B,m⟩:=vG W;obtain⟨X,a2⟩:=LB r _ _ _ (by rw[l];exact z) rfl;obtain⟨fn,Y,f2,U⟩:=i.fn;refine .inr (.inr ⟨f,c.args.map a.eval++vs,?_,i.ok L n w N _ S hN E (aI ⟨by simp[X],fun j t hj=> ?_⟩ m) (fun p hp=> ?_)⟩)
  ·simp only[execOp,F,resolve,D,B,Deferred.ofValue,Sem.run_bind,Sem.run_pure,Result.andThen_ok,invoke,Array.empty_append];exact vF Y f2 U
  ·grind
  grind
end
section
variable {P:Program} {I:Ip} {X:Cx I} {ρ:Nat->Nat} {G:Get} {st:ES I.C} {e:Env} {lh:LH} {q:Path} {R:Type} {r0:R} {K:Kt I R}
def RR(P:Program)(ρ:Nat->Nat)(X:Cx I)(st:ES I.C)(e:Env)(lh:LH)(op:Op)(res:OR I.C):Prop:=
 zoO P ρ (lkO X st) (lkE X st) lh.get lh.next res.k (opR P [] (opd (Zn e)) lh.get lh.next op) res/\Zv [] (opd (Zn e)) op<=res.k
theorem Eg{op:Op}{res:OR I.C}{r:Res}(a:opR P [] (opd (Zn e)) lh.get lh.next op=r)(b:Zv [] (opd (Zn e)) op<=res.k)(h:RRel P ρ (lkO X st) (lkE X st) r res):RR P ρ X st e lh op res:=
 ⟨by rw[a];exact h.w,b⟩
theorem cu{op:Op}{res:OR I.C}{r:Res}{k:Nat}(a:opR P [] (opd (Zn e)) lh.get lh.next op=r)(c:res.k=k)(b:Zv [] (opd (Zn e)) op<=k)(h:zoO P ρ (lkO X st) (lkE X st) lh.get lh.next k r res):RR P ρ X st e lh op res:=by subst c;exact⟨by rw[a];exact h,b⟩
theorem EG{h:Nat->Option (EO I.C)}{c:Operand->EL I.C}{d:Operand->LV}(b: ∀x t,useE q (c x)=some t->d x= .v (trT ρ h t)): ∀(xs:List Operand) (as:List (ET I.C)),allE q (xs.map c)=some as->xs.map d=as.map fun t=> .v (trT ρ h t)
 |[],as,a=>by cases a;rfl
 |x::r,as,a=>by
  simp only[Va,allE]at a;split at a
  ·rename_i t l f g;cases a;simp only[Va,b x t f,EG b r l g]
  ·cases a
theorem zDi(hI:IpOK P I)(hT:TOK P X.T X.fk)(hv:Vw P X ρ G st e lh)(hq:q=[]\/qH (lkE X st) q=true){S:List (Con I)}{fz:Nat}{op:Op}(hnc: ∀c f,op= .call c->c.callee≠ .value f)(h0:opE X S fz st q (qH (lkE X st) q) op K=some r0):
  ∃res,K res=some r0/\RR P ρ X st e lh op res:=by
 have hE: ∀x t,useE q (opdE X st x)=some t->opd (Zn e) x= .v (trT ρ (lkO X st) t):=fun x t hu=>Cr hv hq x t hu;have hρ:ρ st.next=lh.next:=by have:=hv.up st.next (ma _);simpa using this
 have hnn:lkO X st st.next=none:=by
  cases hl:lkO X st st.next with
  |none=>rfl
  |some o=>exact absurd (hv.wfh _ _ hl).1 (by omega)
 cases op<;>simp only[opE]at h0<;>(try (cases h0;done))
 case move x=>
  obtain⟨v,h1,h2⟩:=zk h0;refine⟨_,h2,Eg rfl (Kb _) ⟨trivial,?_,upN,by intro id hid;cases hid⟩⟩;split at h1
  ·rename_i ts hts;injection h1 with h1;subst h1;exact wE hv x ts hts
  ·obtain⟨t,hu,h3⟩:=Cc.1 h1;subst h3;exact hE x t hu
 case assign x=>
  obtain⟨v,h1,h2⟩:=zk h0;refine⟨_,h2,Eg rfl (Kb _) ⟨trivial,?_,upN,by intro id hid;cases hid⟩⟩;split at h1
  ·rename_i ts hts;injection h1 with h1;subst h1;exact wE hv x ts hts
  ·obtain⟨t,hu,h3⟩:=Cc.1 h1;subst h3;exact hE x t hu
 case pick c a b=>
  unfold ny at h0;split at h0
  ·rename_i t x ka ba kb bb ha hb hc;obtain⟨h1,h2⟩:=zm h0;rw[Fa]at h1;refine⟨_,h2,Eg rfl (Kb _) ?_⟩;have hcv:=hE (.tmp t) _ hc;have hx:xg (lkE X st) t=x:=by
    simp only[opdE]at hc;cases hl:lkE X st t with
    |none=>rw[hl]at hc;cases hc
    |some y=>
     rw[hl]at hc;simp only at hc;rcases PG hq hc with h3|⟨ks,h3,_⟩
     ·cases y with
      |v t0=>
       cases t0 with
       |c z=>
        cases z<;>simp only[nrmL,nrmT,nrmV,EL.v.injEq,ET.c.injEq]at h3<;>first|(cases h3;done)|(split at h3<;>cases h3;done)|skip
        rename_i b0;injection h3 with h3;subst h3;simp[xg,hl]
       |agg zs=>simp[nrmL,nrmT]at h3
      |any=>simp[nrmL]at h3
      |opt ks t0=>simp[nrmL]at h3
      |tup ts=>simp[nrmL]at h3
     ·cases y with
      |opt ks0 t0=>
       cases t0 with
       |c z=>
        cases z<;>simp only[nrmL,nrmT,nrmV,EL.opt.injEq,ET.c.injEq]at h3<;>first|grind|(obtain⟨_,h3⟩:=h3;split at h3<;>cases h3;done)|skip
        rename_i b0;obtain⟨_,h3⟩:=h3;injection h3 with h3;subst h3;simp[xg,hl]
       |agg zs=>simp[nrmL,nrmT]at h3
      |any=>simp[nrmL]at h3
      |v t0=>simp[nrmL]at h3
      |tup ts=>simp[nrmL]at h3
   have hpath: ∀w,litB w x=true->qH (lkE X st) ((t,w)::q)=true:=by
    intro w hw;have:qH (lkE X st) q=true:=by
     rcases hq with rfl|hq
     ·rfl
     ·exact hq
    cases q with
    |nil=>simp only[qH,hx,hw]
    |cons c r=>simp only[qH,hx,hw,Ob];exact this
   have hR:Yk (opd (Zn e) (.tmp t)) (opd (Zn e) a) (opd (Zn e) b)=preC ((x=true->qH (lkE X st) ka=true)/\(x=false->qH (lkE X st) kb=true)) (.p (.at (.bool (cond x ba bb)))):=by unfold Yk;rw[hcv];simp only[Zl,trT,trV,pvE,isBool,fB hv a ha,fB hv b hb]
   simp only[opR,hR];refine qi ⟨fun hx1=>KC (hpath true (by rw[hx1];rfl)) h1.1,fun hx1=>KC (hpath false (by rw[hx1];rfl)) h1.2⟩ rfl rfl rfl
  ·rename_i c c' x0 x1 x2 x ba bb hnt ha hb hc;refine⟨_,h0,Eg rfl (Kb _) ?_⟩;have hcv:=hE c _ hc;have hR:Yk (opd (Zn e) c) (opd (Zn e) a) (opd (Zn e) b)=preC ((x=true->qH (lkE X st) []=true)/\(x=false->qH (lkE X st) []=true)) (.p (.at (.bool (cond x ba bb)))):=by unfold Yk;rw[hcv];simp only[Zl,trT,trV,pvE,isBool,fB hv a ha,fB hv b hb]
   simp only[opR,hR];exact qi ⟨fun _=>rfl,fun _=>rfl⟩ rfl rfl rfl
  ·cases h0
 case alloc t=>
  split at h0
  ·obtain⟨h1,h2⟩:=zm h0;refine⟨_,h2,Eg rfl (ma _) ?_⟩;have:=DZ (P:=P) (ρ:=ρ) (h:=lkO X st) (e:=lkE X st) (n:=st.next) (t:=t) hT hnn h1;rw[hρ]at this;exact this
  ·cases h0
 case box t x=>
  split at h0
  ·obtain⟨v,h1,h2⟩:=zk h0;obtain⟨h3,h4⟩:=zm h2;rw[Fa]at h3;have hl:=Fb h3.1;refine⟨_,h4,?_⟩;have hsz:v.cells.length=P.cellsOf t:=by rw[hl];exact(Rh hT h3.2).1
   have:=zAK (P:=P) (ρ:=ρ) (h:=lkO X st) (e:=lkE X st) (n:=st.next) (t:=t) (x:=v) hnn (zCj hv x v h1) hsz;rw[hρ]at this;refine Eg ?_ (ma _) this;simp only[opR,hE x v h1,Zl]
  ·cases h0
 case build t ps=> obtain⟨res,h1,h2⟩:=nZ (P:=P) (e:=lkE X st) hT hE h0;exact⟨res,h1,Eg rfl (Kb _) h2⟩
 case buildSlice t len ps=> obtain⟨res,h1,h2,h3⟩:=zk1 (P:=P) (e:=lkE X st) (get:=lh.get) hI hT hE hnn hρ h0;exact⟨res,h1,cu rfl h2 (ma _) h3⟩
 case load t a=> obtain⟨v,h1,h2⟩:=zk h0;obtain⟨hk,res,h3,h4⟩:=SX (P:=P) (e:=lkE X st) (get:=lh.get) hI hv.heap hq h2;refine⟨res,h3,Eg ?_ (Kb _) h4⟩;rw[Wh hT hk];simp only[opR,hE a v h1,Zl]
 case store t a x=> obtain⟨v,h1,h2⟩:=zk h0;obtain⟨u,h3,h4⟩:=zk h2;obtain⟨_,hk,res,h5,h5',h6⟩:=MZ (P:=P) (e:=lkE X st) (get:=lh.get) (nx:=lh.next) (kk:=0) hI hv.heap h4;refine⟨res,h5,cu ?_ h5' (Kb _) h6⟩;rw[Wh hT hk];simp only[opR,hE a v h1,hE x u h3,Zl]
 case nilCheck x=> obtain⟨v,h1,h2⟩:=zk h0;obtain⟨res,h3,h4⟩:=P7 (P:=P) (e:=lkE X st) (get:=lh.get) hv.heap h2;refine⟨res,h3,Eg ?_ (Kb _) h4⟩;simp only[opR,hE x v h1,Zl]
 case binOp op t x y t2=>
  obtain⟨v,h1,h2⟩:=zk h0;obtain⟨u,h3,h4⟩:=zk h2;obtain⟨res,h5,h6⟩:=lW (P:=P) (ρ:=ρ) (h:=lkO X st) (e:=lkE X st) (fk':=Ik P t) (kd':=kdOf P t) (fun ks hks=>hT.fk t ks hks) (by
   by_cases hb:(X.T.at t).kd= .bad
   ·exact .inl hb
   ·exact .inr (by rw[Wh hT hb];rfl)) hq h4
  refine⟨res,h5,Eg ?_ (Kb _) h6⟩;simp only[opR,hE x v h1,hE y u h3,Zl]
 case unOp op t x=> obtain⟨v,h1,h2⟩:=zk h0;obtain⟨res,h3,h4⟩:=zBI (P:=P) (ρ:=ρ) (h:=lkO X st) (e:=lkE X st) h2;refine⟨res,h3,Eg ?_ (Kb _) h4⟩;simp only[opR,hE x v h1,Zl]
 case convert s d x=> obtain⟨v,h1,h2⟩:=zk h0;obtain⟨res,h3,h3',h4⟩:=FY (P:=P) (e:=lkE X st) (get:=lh.get) hI hT hv.heap hnn hρ hq h2;refine⟨res,h3,Eg ?_ (by rw[h3'];exact ma _) h4⟩;simp only[opR,hE x v h1,Zl]
 case makeFunc fn first caps=>
  cases fn<;>simp only[opE]at h0<;>(try (cases h0;done));split at h0
  ·rename_i hf;obtain⟨l,h1,h2⟩:=zk h0;refine⟨_,h2,Eg rfl (Kb _) ?_⟩;have hfirst:first= #[]:=by rw[<-Fe (xs:=first),hf]
   simp only[opR,hfirst,Od,aN (fun x t hx=>hE x t (tV hx)) h1];exact qi trivial rfl rfl rfl
  ·cases h0
 case makeMap t r=>
  cases r with
  |some _=>grind
  |none=>
   simp only at h0;split at h0
   ·rename_i kt et hk;split at h0
    ·rename_i kd hke;refine⟨_,h0,Eg rfl (ma _) ⟨trivial,?_,⟨?_,fun p hp=> .inl (by grind)⟩,(by intro id hid;cases hid)⟩⟩
     ·simp only[opR,Yv,trL,trT,trV,hρ]
     ·simp only[opR,Yv,trU,Va,Ic,trO,hρ];rfl
    ·cases h0
   ·cases h0
 case insert t m k x=> obtain⟨v,h1,h2⟩:=zk h0;obtain⟨u,h3,h4⟩:=zk h2;obtain⟨y,h5,h6⟩:=zk h4;obtain⟨res,h7,h7',h8⟩:=O4 (P:=P) (e:=lkE X st) (get:=lh.get) (nx:=lh.next) (kk:=0) hT hv.heap h6;refine⟨res,h7,cu ?_ h7' (Kb _) h8⟩;simp only[opR,hE m v h1,hE k u h3,hE x y h5,Zl]
 case lookup t m k ok=> obtain⟨v,h1,h2⟩:=zk h0;obtain⟨u,h3,h4⟩:=zk h2;obtain⟨res,h5,h6⟩:=J5 (P:=P) (e:=lkE X st) (get:=lh.get) hT hv.heap h4;refine⟨res,h5,Eg ?_ (Kb _) h6⟩;simp only[opR,hE m v h1,hE k u h3,Zl]
 case makeSlice t l c=> obtain⟨v,h1,h2⟩:=zk h0;obtain⟨u,h3,h4⟩:=zk h2;obtain⟨res,h5,h5',h6⟩:=JX (P:=P) (h:=lkO X st) (e:=lkE X st) (get:=lh.get) hI hT hnn hρ h4;refine⟨res,h5,cu ?_ h5' (ma _) h6⟩;simp only[opR,hE l v h1,hE c u h3,Zl]
 case slice t x lo hi mx=>
  obtain⟨v,h1,h2⟩:=zk h0;obtain⟨lo',h3,h4⟩:=zk h2;obtain⟨hi',h5,h6⟩:=zk h4;obtain⟨mx',h7,h8⟩:=zk h6;obtain⟨res,h9,h10,h11⟩:=RZ (P:=P) (e:=lkE X st) (get:=lh.get) hI hT hv.heap hq h8;have hb: ∀{y:Option Operand} {n:Option Int},bndE q (opdE X st) y=some n->bndR (opd (Zn e)) y=some (true,n):=by
   intro y n hy;unfold bndE at hy;split at hy
   ·cases hy;rfl
   ·rename_i z;split at hy
    ·rename_i k m hz;cases hy;simp only[bndR,hE z _ hz,trT,trV,pvE]
    ·cases hy
  have hop:opR P [] (opd (Zn e)) lh.get lh.next (.slice t x lo hi mx)=(match ig P lh.get t (trT ρ (lkO X st) v) lo' hi' mx' with|⟨q,v,r,u⟩=>⟨(true&&true&&true)=true/\(mx'≠none->hi'≠none)/\q,v,r,u⟩):=by simp only[opR,hE x v h1,Zl,hb h3,hb h5,hb h7]
  refine⟨res,h9,Eg hop (Kb _) ?_⟩;simp_all
 case fieldAddr t x f=> obtain⟨v,h1,h2⟩:=zk h0;obtain⟨res,h3,h4⟩:=P9 (P:=P) (e:=lkE X st) (get:=lh.get) hI hT hv.heap h2;refine⟨res,h3,Eg ?_ (Kb _) h4⟩;simp only[opR,hE x v h1,Zl]
 case field t x f=> obtain⟨v,h1,h2⟩:=zk h0;obtain⟨res,h3,h4⟩:=yZ (P:=P) (ρ:=ρ) (h:=lkO X st) (e:=lkE X st) hT h2;refine⟨res,h3,Eg ?_ (Kb _) h4⟩;simp only[opR,hE x v h1,Zl]
 case indexAddr t x i=> obtain⟨v,h1,h2⟩:=zk h0;obtain⟨u,h3,h4⟩:=zk h2;obtain⟨res,h5,h6⟩:=M9 (P:=P) (e:=lkE X st) (get:=lh.get) hI hT hv.heap hq h4;refine⟨res,h5,Eg ?_ (Kb _) h6⟩;simp only[opR,hE x v h1,hE i u h3,Zl]
 case index t x i=> obtain⟨v,h1,h2⟩:=zk h0;obtain⟨u,h3,h4⟩:=zk h2;obtain⟨res,h5,h6⟩:=BZ (P:=P) (ρ:=ρ) (h:=lkO X st) (e:=lkE X st) hT hq h4;refine⟨res,h5,Eg ?_ (Kb _) h6⟩;simp only[opR,hE x v h1,hE i u h3,Zl]
 case extract x i=>
  split at h0
  ·rename_i ts hts;obtain⟨t,h1,h2⟩:=zk h0;refine⟨_,h2,Eg ?_ (Kb _) (bu (r:=⟨True, .v (trT ρ (lkO X st) t),[],[]⟩) trivial rfl rfl rfl)⟩;simp only[opR,wE hv x ts hts,ja,h1,Bb]
  ·cases h0
 case call c=>
  obtain⟨callee,args,tys⟩:=c;simp only at h0 hnc;cases callee with
  |value f=>grind
  |invoke r m=>cases h0
  |builtin b=>
   cases b<;>simp only at h0<;>(try (cases h0;done))
   case len=>
    split at h0
    ·rename_i t x ht hx;obtain⟨v,h1,h2⟩:=zk h0;obtain⟨res,h3,h4⟩:=JV (P:=P) (e:=lkE X st) (get:=lh.get) hT hv.heap h2;refine⟨res,h3,Eg ?_ (Kb _) h4⟩;simp only[opR,ht,hx,hE x v h1,Zl]
    ·cases h0
   case append=>
    split at h0
    ·rename_i t u s x ht hx;obtain⟨v,h1,h2⟩:=zk h0;obtain⟨v2,h3,h4⟩:=zk h2;obtain⟨_,res,h5,h5',h6⟩:=V3 (P:=P) (e:=lkE X st) (get:=lh.get) hI hT hv.heap hnn hρ (fun id o ho=>(hv.wfh id o ho).2) h4;refine⟨res,h5,cu ?_ h5' (ma _) h6⟩;simp only[opR,ht,hx,hE s v h1,hE x v2 h3,Zl]
    ·cases h0
   case copy=>
    split at h0
    ·rename_i t u s x ht hx;obtain⟨v,h1,h2⟩:=zk h0;obtain⟨v2,h3,h4⟩:=zk h2;obtain⟨_,res,h5,h6⟩:=CY (P:=P) (e:=lkE X st) (get:=lh.get) hI hT hv.heap h4;refine⟨res,h5,Eg ?_ (Kb _) h6⟩;simp only[opR,ht,hx,hE s v h1,hE x v2 h3,Zl]
    ·cases h0
   case min=> obtain⟨as,h1,h2⟩:=zk h0;obtain⟨res,h5,h6⟩:=KP (P:=P) (ρ:=ρ) (h:=lkO X st) (e:=lkE X st) h2;refine⟨res,h5,Eg ?_ (Kb _) h6⟩;simp only[opR,EG hE _ _ h1]
   case max=> obtain⟨as,h1,h2⟩:=zk h0;obtain⟨res,h5,h6⟩:=KP (P:=P) (ρ:=ρ) (h:=lkO X st) (e:=lkE X st) h2;refine⟨res,h5,Eg ?_ (Kb _) h6⟩;simp only[opR,EG hE _ _ h1]
end
def WkZ(Z:Nat->Prop)(x y:CV):Prop:=WkC x y\/ ∃z,Z z/\x= .p (.at (.slice none 0 0))/\y= .osl z 0 0
inductive WkT (Z:Nat->Prop):TV->TV->Prop where
 |c (x y:CV) (h:WkZ Z x y):WkT Z (.c x) (.c y)
 |agg (xs ys:List CV) (hl:ys.length=xs.length) (h: ∀(j:Nat) x y,xs[j]? =some x->ys[j]? =some y->WkZ Z x y):WkT Z (.agg xs) (.agg ys)
theorem WkZ.refl{Z:Nat->Prop}(x:CV):WkZ Z x x:= .inl (.inl rfl)
theorem WkT.refl{Z:Nat->Prop}(t:TV):WkT Z t t:=by
 cases t with
 |c x=>exact .c _ _ (WkZ.refl x)
 |agg d=>exact .agg _ _ rfl fun j x y b a=>by rw[b]at a;cases a;exact WkZ.refl x
theorem WkZ.rep{Z:Nat->Prop}{ι:Asg}{w:World}{x y:CV}{v:Value}(e: ∀z,Z z-> ∃k,ι z= .live none k)(a:WkZ Z x y)(h:repC ι w x v):repC ι w y v:=by
 rcases a with a|⟨z,c,rfl,rfl⟩
 ·exact vJ a h
 ·obtain⟨k,d⟩:=e z c;cases h;refine⟨by rw[d];simp,fun b f g=> .inl ?_⟩
  grind
theorem WkT.rep{Z:Nat->Prop}{ι:Asg}{w:World}{x y:TV}{v:Value}(i: ∀z,Z z-> ∃k,ι z= .live none k)(b:WkT Z x y)(h:repT ι w x v):repT ι w y v:=by
 cases b with
 |c x y b=>exact⟨h.1,b.rep i h.2⟩
 |agg d t g r=>
  obtain⟨q,l,o,n⟩:=h;refine⟨q,l,by rw[o,g],fun j y e=> ?_⟩;have a:j<d.length:=by rw[<-g];exact(Ga.1 e).1
  have f:d[j]? =some d[j]:=Ja a;obtain⟨u,s,m,p⟩:=n j _ f;exact⟨u,s,m,(r j _ y f e).rep i p⟩
section
variable {I:Ip}
def InjM(m:Mp):Prop:= ∀i j a,lk m i=some (some a)->lk m j=some (some a)->i=j
def SubM(m a:Mp):Prop:= ∀i b,lk m i=some b->lk a i=some b
theorem SubM.refl(m:Mp):SubM m m:=fun _ _ h=>h
theorem SubM.trans{a b c:Mp}(h:SubM a b)(g:SubM b c):SubM a c:=fun i x d=>g i x (h i x d)
theorem Zm{α:Type}(j:Nat)(x:α)(r:List (Nat×α))(i:Nat):lk ((j,x)::r) i=if i=j then some x else lk r i:=by simp only[lk];simp_all
theorem Zi{α:Type}: ∀{l:List (Nat×α)} {i:Nat} {x:α},lk l i=some x->(i,x)∈l
 |[],i,x,h=>by cases h
 |(j,y)::r,i,x,h=>by
  rw[Zm]at h;split at h
  ·grind
  ·exact Xb _ (Zi h)
theorem OG: ∀{m:Mp} {i a:Nat},(i,some a)∈m->gm m a=true
 |[],i,a,h=>by cases h
 |(j,some b)::r,i,a,h=>by
  simp only[gm];rcases Jb.1 h with h|h
  ·simp_all
  ·rw[OG h];grind
 |(j,none)::r,i,a,h=>by
  simp only[gm];rcases Jb.1 h with h|h
  ·cases h
  ·exact OG h
theorem FB{m m':Mp}{i:Nat}{a:Option Nat}(h:bndM m i a=some m'):SubM m m'/\lk m' i=some a/\(InjM m->InjM m'):=by
 unfold bndM at h;split at h
 ·rename_i b hb;split at h
  ·rename_i a;obtain⟨h1,h2⟩:=zm h;have:=Fb h1;subst this;injection h2 with h2;subst h2;exact⟨SubM.refl _,hb,fun h=>h⟩
  ·cases h
 ·cases h
 ·rename_i hn;have sub: ∀x,SubM m ((i,x)::m):=by
   intro x j b hj;rw[Zm];split
   ·grind
   ·exact hj
  have at_: ∀x,lk ((i,x)::m) i=some x:=fun x=>by rw[Zm,Na rfl]
  split at h
  ·rename_i a;cases hany:gm m a with
   |true=>grind
   |false=>
    rw[hany]at h;injection h with h;subst h;refine⟨sub _,at_ _,fun hi j1 j2 b h1 h2=> ?_⟩;have hno: ∀j,lk m j≠some (some a):=by intro j hj;have:=OG (Zi hj);rw[hany]at this;cases this
    rw[Zm]at h1 h2;split at h1<;>split at h2
    ·grind
    ·grind
    ·grind
    ·exact hi j1 j2 b h1 h2
  ·injection h with h;subst h;refine⟨sub _,at_ _,fun hi j1 j2 b h1 h2=> ?_⟩;rw[Zm]at h1 h2;split at h1<;>split at h2
   ·cases h1
   ·cases h1
   ·cases h2
   ·exact hi j1 j2 b h1 h2
def Cmp(ρ ρ':Nat->Nat)(h h':Nat->Option (EO I.C))(Z:Nat->Prop)(m:Mp):Prop:= ∀i x,lk m i=some x->
 match x with
 |some a=>ρ' i=ρ a/\infO h' i=infO h a
 |none=>Z (ρ' i)/\infO h' i=some (.inl 0)
theorem Cmp.sub{ρ ρ':Nat->Nat}{h h':Nat->Option (EO I.C)}{Z:Nat->Prop}{m a:Mp}(d:SubM m a)(c:Cmp ρ ρ' h h' Z a):Cmp ρ ρ' h h' Z m:=fun i x b=>c i x (d i x b)
theorem Wi{ρ:Nat->Nat}{h:Nat->Option (EO I.C)}(id:Nat):trV ρ h (.own id)=(match infO h id with|some (.inr rows)=> .p (.sl rows)|some (.inl n)=> .osl (ρ id) 0 n|none=> .osl (ρ id) 0 0):=by
 simp only[trV,infO]
 grind
structure zvU (P:Program) (s:Shp I):Prop where
 unit:s.u=true-> ∀x y,s.enc x=s.enc y
 mat: ∀a m x m',s.mat a m=some (x,m')->SubM m m'/\(InjM m->InjM m')/\ ∀ρ ρ' h h' Z,Cmp ρ ρ' h h' Z m'->WkT Z (trT ρ h a) (trT ρ' h' (s.enc x))
theorem dw{P:Program}{x:ET I.C}{b:ET I.C->Mp->Option Mp}(h: ∀a m c,b a m=some c->SubM m c/\(InjM m->InjM c)/\ ∀ρ ρ' h h' Z,Cmp ρ ρ' h h' Z c->WkT Z (trT ρ h a) (trT ρ' h' x)):zvU P (ai I x b):=by
 refine⟨fun _ _ _=>rfl,fun a m y c d=> ?_⟩;simp only[ai]at d;split at d
 ·rename_i f e;cases d;exact h a m _ e
 ·cases d
theorem aQ: ∀{l:List Nat} {caps:List (Nat×Nat×Nat)} {m b:Mp},El l caps m=some b->SubM m b/\(InjM m->InjM b)/\caps.length=l.length/\ ∀(j:Nat) i,l[j]? =some i-> ∃a,caps[j]? =some (a,0,0)/\lk b i=some (some a)
 |[],[],m,b,h=>by simp only[El,Option.some.injEq]at h;subst h;exact⟨SubM.refl _,fun h=>h,rfl,fun j i d=>by simp at d⟩
 |i::r,(a,0,0)::s,m,b,h=>by
  simp only[El]at h;split at h
  ·rename_i u o;obtain⟨g,k,p⟩:=FB o;obtain⟨e,f,t,v⟩:=aQ h;refine⟨g.trans e,fun q=>f (p q),by simp[t],fun j w d=> ?_⟩;cases j with
   |zero=>simp at d;subst d;exact⟨a,rfl,e _ _ k⟩
   |succ j=>grind
  ·cases h
 |i::r,(a,0,n+1)::s,m,b,h=>by simp[El]at h
 |i::r,(a,n+1,c)::s,m,b,h=>by simp[El]at h
 |[],_::_,m,b,h=>by simp[El]at h
 |_::_,[],m,b,h=>by simp[El]at h
theorem zB2{P:Program}(a:IpOK P I){ρ:Nat->Nat}{h:Nat->Option (EO I.C)}(t:Nat)(x:I.C t):(I.exp t x).map (trV ρ h)=(I.full t x).map CV.p:=(TA a t x).symm
theorem nU{P:Program}(hI:IpOK P I){ρ ρ':Nat->Nat}{h h':Nat->Option (EO I.C)}{Z:Nat->Prop}{t:Nat}{cs:List (EV I.C)}{x:I.C t}(h1:I.made t cs=some x):WkT Z (trT ρ h (.agg cs)) (trT ρ' h' (.agg (I.exp t x))):=by
 refine .agg _ _ ?_ fun j a b ha hb=> ?_
 ·rw[Ab,Ab];have:=(hI.made t cs x h1).2.1;rw[hI.exp,Ab]at this;exact this.symm
 ·rw[zB2 hI]at hb;exact .inl (Pv hI h1 j a b ha hb)
theorem zBD{P:Program}(hI:IpOK P I): ∀s:Sh,zvU P (s.shp I)
 | .int k=>⟨fun h=>(by cases h),fun a m x m' he=>by
   simp only[Sh.shp]at he;split at he
   ·obtain⟨h1,h2⟩:=zm he;have:=Ro h1;subst this;cases h2;exact⟨SubM.refl _,fun h=>h,fun ρ ρ' h h' Z _=>WkT.refl _⟩
   ·cases he⟩
 | .bool=>⟨fun h=>(by cases h),fun a m x m' he=>by
   simp only[Sh.shp]at he;split at he
   ·cases he;exact⟨SubM.refl _,fun h=>h,fun ρ ρ' h h' Z _=>WkT.refl _⟩
   ·cases he⟩
 | .str=>⟨fun h=>(by cases h),fun a m x m' he=>by
   simp only[Sh.shp]at he;split at he
   ·cases he;exact⟨SubM.refl _,fun h=>h,fun ρ ρ' h h' Z _=>WkT.refl _⟩
   ·cases he⟩
 | .sl t=>⟨fun h=>(by cases h),fun a m x m' he=>by
   simp only[Sh.shp]at he;split at he
   ·split at he
    ·rename_i l hc;obtain⟨rfl,hh⟩:=ZJ hc;cases hh;cases he;exact⟨SubM.refl _,fun h=>h,fun ρ ρ' h h' Z _=>WkT.refl _⟩
    ·cases he
   ·cases he;exact⟨SubM.refl _,fun h=>h,fun ρ ρ' h h' Z _=> .c _ _ (.inl (.inr ⟨_,_,rfl,rfl, .nil⟩))⟩
   ·cases he⟩
 | .val t=>⟨fun h=>(by cases h),fun a m x m' he=>by
   simp only[Sh.shp]at he;split at he
   ·rename_i cs;obtain⟨y,h1,h2⟩:=Da.1 he;cases h2;refine⟨SubM.refl _,fun h=>h,fun ρ ρ' h h' Z _=> ?_⟩;exact nU hI h1
   ·cases he⟩
 | .ptr t=>⟨fun h=>(by cases h),fun a m x m' he=>by
   simp only[Sh.shp]at he;split at he
   ·split at he
    ·rename_i y hc;obtain⟨rfl,hh⟩:=LY hc;cases hh;cases he;exact⟨SubM.refl _,fun h=>h,fun ρ ρ' h h' Z _=>WkT.refl _⟩
    ·cases he
   ·cases he⟩
 | .nilp=>dw fun a m m' he=>by
   split at he
   ·cases he;exact⟨SubM.refl _,fun h=>h,fun ρ ρ' h h' Z _=>WkT.refl _⟩
   ·cases he
 | .nilv=>dw fun a m m' he=>by
   split at he
   ·cases he;exact⟨SubM.refl _,fun h=>h,fun ρ ρ' h h' Z _=>WkT.refl _⟩
   ·cases he
 | .own i=>dw fun a m m' he=>by
   split at he
   ·rename_i b;obtain⟨b1,b2,b3⟩:=FB he;refine⟨b1,b3,fun ρ ρ' h h' Z hc=> ?_⟩;obtain⟨c1,c2⟩:=hc i _ b2;simp only[trT];rw[Wi,Wi,c1,c2];exact WkT.refl _
   ·obtain⟨b1,b2,b3⟩:=FB he;refine⟨b1,b3,fun ρ ρ' h h' Z hc=> ?_⟩;obtain⟨c1,c2⟩:=hc i _ b2;simp only[trT];rw[Wi,c2];exact .c _ _ (.inr ⟨_,c1,rfl,rfl⟩)
   ·cases he
 | .optr i=>dw fun a m m' he=>by
   split at he
   ·rename_i b;obtain⟨b1,b2,b3⟩:=FB he;refine⟨b1,b3,fun ρ ρ' h h' Z hc=> ?_⟩;obtain⟨c1,c2⟩:=hc i _ b2;simp only[trT,trV,c1];exact WkT.refl _
   ·cases he
 | .clo f caps=>dw fun a m m' he=>by
   split at he
   ·rename_i g l;obtain⟨h1,h2⟩:=zm he;have:=Fb h1;subst this;obtain⟨b1,b2,b3,b4⟩:=aQ h2;refine⟨b1,b2,fun ρ ρ' h h' Z hc=> ?_⟩;have:l.map (fun q=>(ρ q.1,q.2))=(caps.map fun i=>(i,0,0)).map fun q:Nat×Nat×Nat=>(ρ' q.1,q.2):=by
     apply dh;intro j;simp only[ja];cases hj:caps[j]? with
     |none=>
      grind
     |some i=> obtain⟨a,e1,e2⟩:=b4 j i hj;rw[e1];simp only[Bb,(hc i _ e2).1]
    simp only[trT,trV,this];exact WkT.refl _
   ·cases he
structure znk (P:Program) (s:VL I):Prop where
 unit:s.u=true-> ∀x y,s.enc x=s.enc y
 mat: ∀l m x m',s.mat l m=some (x,m')->SubM m m'/\(InjM m->InjM m')/\(s.enc x).length=l.length/\ ∀ρ ρ' h h' Z,Cmp ρ ρ' h h' Z m'-> ∀(j:Nat) a b,l[j]? =some a->(s.enc x)[j]? =some b->WkT Z (trT ρ h a) (trT ρ' h' b)
theorem znk.nil(P:Program):znk P (VL.nil I):=by
 refine⟨fun _ _ _=>rfl,fun l m x f c=> ?_⟩;simp only[VL.nil]at c;split at c
 ·cases c;exact⟨SubM.refl _,fun h=>h,rfl,fun i e h g Z _ j a b d=>by simp at d⟩
 ·cases c
theorem znk.cons{P:Program}{s:Shp I}{r:VL I}(hs:zvU P s)(hr:znk P r):znk P (VL.cons s r):=by
 have main: ∀(l:List (ET I.C)) (m:Mp) (x:s.T) (y:r.T) (m1 m':Mp) (a:ET I.C),s.mat a m=some (x,m1)->r.mat l m1=some (y,m')->SubM m m'/\(InjM m->InjM m')/\(s.enc x::r.enc y).length=(a::l).length/\
   ∀ρ ρ' h h' Z,Cmp ρ ρ' h h' Z m'-> ∀(j:Nat) a' b,(a::l)[j]? =some a'->(s.enc x::r.enc y)[j]? =some b->WkT Z (trT ρ h a') (trT ρ' h' b):=by
  intro l m x y m1 m' a h1 h2;obtain⟨s1,s2,s3⟩:=hs.mat a m x m1 h1;obtain⟨r1,r2,r3,r4⟩:=hr.mat l m1 y m' h2;refine⟨s1.trans r1,fun hi=>r2 (s2 hi),by simp[r3],fun ρ ρ' h h' Z hc j a' b ha hb=> ?_⟩;cases j with
  |zero=>simp at ha hb;subst ha;subst hb;exact s3 ρ ρ' h h' Z (hc.sub r1)
  |succ j=>grind
 unfold VL.cons;split
 ·rename_i hu;refine⟨fun h x y=>congrArg (s.enc s.dflt:: ·) (hr.unit h x y),fun l m x m' he=> ?_⟩;simp only at he;split at he
  ·cases he
  ·rename_i a l;obtain⟨p,h1,h2⟩:=Da.1 he;obtain⟨x0,m1⟩:=p;have:=main l m x0 x m1 m' a h1 h2;rw[hs.unit hu x0 s.dflt]at this;exact this
 ·rename_i hu1 hu2;refine⟨fun h=>(by cases h),fun l m x m' he=> ?_⟩;simp only at he;split at he
  ·cases he
  ·rename_i a l;obtain⟨p,h1,h2⟩:=Da.1 he;obtain⟨p2,h3,h4⟩:=Da.1 h2;cases h4;obtain⟨x0,m1⟩:=p;obtain⟨y0,m2⟩:=p2;have:=main l m x0 y0 m1 m2 a h1 h3;rw[hr.unit hu2 y0 r.dflt]at this;exact this
 ·refine⟨fun h=>(by cases h),fun l m x m' he=> ?_⟩;simp only at he;split at he
  ·cases he
  ·rename_i a l;obtain⟨p,h1,h2⟩:=Da.1 he;obtain⟨p2,h3,h4⟩:=Da.1 h2
   grind
theorem Nu{P:Program}(a:IpOK P I): ∀l:List Sh,znk P (vlOf I l)
 |[]=>znk.nil P
 |s::r=>znk.cons (zBD a s) (Nu a r)
end
structure WkOZ (Z:Nat->Prop) (o o2:OB):Prop where
 ty:o2.ty=o.ty
 k:o2.k=o.k
 len:o2.rows.length=o.rows.length
 row: ∀(i:Nat) row row2,o.rows[i]? =some row->o2.rows[i]? =some row2->row2.length=row.length/\ ∀(j:Nat) x y,row[j]? =some x->row2[j]? =some y->WkZ Z x y
 raw:o2.raw=o.raw
theorem WkOZ.refl{Z:Nat->Prop}(o:OB):WkOZ Z o o:=⟨rfl,rfl,rfl,fun i d b e c=>by
 rw[e]at c;cases c;exact⟨rfl,fun j x y f a=>by rw[f]at a;cases a;exact WkZ.refl x⟩,rfl⟩
theorem Holds.wkZ{Z:Nat->Prop}{ι:Asg}{w:World}{o o2:OB}{b:Option Nat}(hZ: ∀z,Z z-> ∃k,ι z= .live none k)(hw:WkOZ Z o o2)(h:Holds ι w o b):Holds ι w o2 b:=by
 obtain⟨h1,h2⟩:=h;have rowAt: ∀(i:Nat) (row2:List CV),o2.rows[i]? =some row2-> ∃row,o.rows[i]? =some row:=by intro i row2 hi;have:=(Ga.1 hi).1;exact⟨_,Ja (by rw[<-hw.len];exact this)⟩
 refine⟨fun row2 hr=> ?_,?_⟩
 ·obtain⟨i,hi,rfl⟩:=Sg hr;have hi2:o2.rows[i]? =some o2.rows[i]:=Ja hi;obtain⟨row,hrow⟩:=rowAt i _ hi2;rw[(hw.row i row _ hrow hi2).1,hw.k]
  grind
 ·rcases h2 with⟨h0,h2,h3⟩|⟨h0,b',cur,fr,e,h3,h4,h5,h6⟩|⟨h3,b',es,n,h4,h5,h6⟩
  ·exact .inl ⟨by rw[hw.raw,h0],h2,Yb (by rw[hw.len,h3];rfl)⟩
  rotate_left
  ·exact .inr (.inr ⟨Yb (by rw[hw.len,h3];rfl),b',es,n,by rw[hw.raw,h4],h5,h6⟩)
  ·refine .inr (.inl ⟨by rw[hw.raw,h0],b',cur,fr,e,by rw[hw.ty];exact h3,h4,by rw[hw.len,hw.k];exact h5,fun i row2 j y hi hj=> ?_⟩);obtain⟨row,hrow⟩:=rowAt i row2 hi;obtain⟨l1,l2⟩:=hw.row i row row2 hrow hi;have hjl:j<row.length:=by rw[<-l1];exact(Ga.1 hj).1
   have hx:row[j]? =some row[j]:=Ja hjl;obtain⟨v,a1,a2,a3⟩:=h6 i row j _ hrow hx;exact⟨v,by rw[hw.k];exact a1,a2,(l2 j _ y hx hj).rep hZ a3⟩
section
variable {I:Ip} {P:Program}
theorem Zd{h:Nat->Option (EO I.C)}{id:Nat}{o:EO I.C}(a:h id=some o):infO h id=infE o:=by simp only[infO,a];cases o<;>rfl
structure zsu (P:Program) (s:OShp I):Prop where
 unit:s.u=true-> ∀x y,s.enc x=s.enc y
 mat: ∀a m x m',s.mat a m=some (x,m')->SubM m m'/\(InjM m->InjM m')/\
  (∀o,a=some o->infE o=infE (s.enc x)/\ ∀ρ ρ' h h' Z,Cmp ρ ρ' h h' Z m'-> ∃ob ob',trO P ρ h o=some ob/\trO P ρ' h' (s.enc x)=some ob'/\WkOZ Z ob ob')/\
  (a=none-> ∃t,s.enc x= .sl t [])/\(∀t l,a=some (.sl t l)->s.enc x= .sl t l)/\((∀ty cs,a=some (.cells ty cs)-> ∃ty' cs',s.enc x= .cells ty' cs')/\ ∀t l1 cs l2,a=some (.slo t l1 cs l2)-> ∃cs',s.enc x= .slo t l1 cs' l2)
theorem LK{v:VL I}(hv:znk P v){t:Nat}{l1 l2:List (I.C t)}{cs:List (EV I.C)}{y:v.T}{m m':Mp}(he:v.mat (cs.map .c) m=some (y,m')):
  SubM m m'/\(InjM m->InjM m')/\ ∀ρ ρ' h h' Z,Cmp ρ ρ' h h' Z m'-> ∃ob ob',trO P ρ h (.slo t l1 cs l2)=some ob/\trO P ρ' h' (.slo t l1 ((v.enc y).map (evOf I)) l2)=some ob'/\WkOZ Z ob ob':=by
 obtain⟨m1,m2,m3,m4⟩:=hv.mat _ _ _ _ he;refine⟨m1,m2,fun ρ ρ' h h' Z hc=>⟨_,_,rfl,rfl,?_⟩⟩;rw[Ab]at m3;refine⟨rfl,rfl,by simp,fun i row row2 hr hr2=> ?_,rfl⟩;by_cases hi:i=l1.length
 ·rw[BA hi]at hr hr2;cases hr;cases hr2;refine⟨by grind,fun j a b ha hb=> ?_⟩;simp only[ja]at ha hb;cases hj:cs[j]? with
  |none=>grind
  |some c=>
   cases hj2:(v.enc y)[j]? with
   |none=>grind
   |some d=>
    rw[hj]at ha;rw[hj2]at hb;cases ha;cases hb;have:=m4 ρ ρ' h h' Z hc j (.c c) d (by grind) hj2;cases d with
    |c d=>cases this with|c _ _ hw=>exact hw
    |agg ds=>cases this
 ·have hsame:row2=row:=by
   by_cases hlt:i<l1.length
   ·grind
   ·grind
  subst hsame;exact⟨rfl,fun j a b ha hb=>by rw[ha]at hb;cases hb;exact WkZ.refl _⟩
theorem HZ{v:VL I}(hv:znk P v)(t:Nat):zsu P (uk t v):=by
 unfold uk;split
 ·refine⟨fun h=>(by cases h),fun a m x m' he=> ?_⟩;rename_i hu;simp only at he;split at he
  ·rename_i u l1 cs l2;split at he
   ·rename_i k1 k2 hc1 hc2;obtain⟨rfl,hh⟩:=ZJ hc1;cases hh;obtain⟨_,hh⟩:=ZJ hc2;cases hh;obtain⟨⟨y,m1⟩,h1,h2⟩:=Da.1 he;cases h2;obtain⟨q1,q2,q3⟩:=LK hv (l1:=l1) (l2:=l2) h1;refine⟨q1,q2,fun o ho=> ?_,fun h=>(by cases h),fun t l h=>(by cases h),fun ty cs h=>(by cases h),fun t m1 cs m2 h=>(by grind)⟩;cases ho;refine⟨rfl,fun ρ ρ' h h' Z hc=> ?_⟩;have:=q3 ρ ρ' h h' Z hc;rw[hv.unit hu y v.dflt]at this;exact this
   ·cases he
  ·cases he
 ·refine⟨fun h=>(by cases h),fun a m x m' he=> ?_⟩;simp only at he;split at he
  ·rename_i u l1 cs l2;split at he
   ·rename_i k1 k2 hc1 hc2;obtain⟨rfl,hh⟩:=ZJ hc1;cases hh;obtain⟨_,hh⟩:=ZJ hc2;cases hh;obtain⟨⟨y,m1⟩,h1,h2⟩:=Da.1 he;cases h2;obtain⟨q1,q2,q3⟩:=LK hv (l1:=l1) (l2:=l2) h1;refine⟨q1,q2,fun o ho=> ?_,fun h=>(by cases h),fun t l h=>(by cases h),fun ty cs h=>(by cases h),fun t m1 cs m2 h=>(by grind)⟩;cases ho;exact⟨rfl,fun ρ ρ' h h' Z hc=>q3 ρ ρ' h h' Z hc⟩
   ·cases he
  ·cases he
theorem rU(hI:IpOK P I): ∀s:OSh,zsu P (s.shp I)
 | .slo t shs=>HZ (Nu hI shs) t
 | .sl t=>⟨fun h=>(by cases h),fun a m x m' he=>by
   simp only[OSh.shp]at he;split at he
   ·split at he
    ·rename_i l hc;obtain⟨rfl,hh⟩:=ZJ hc;cases hh;cases he;refine⟨SubM.refl _,fun h=>h,fun o ho=> ?_,fun h=>(by cases h),fun t l h=>(by cases h;rfl),fun ty cs h=>(by cases h),fun t m1 cs m2 h=>(by cases h)⟩;cases ho;exact⟨rfl,fun ρ ρ' h h' Z _=>⟨_,_,rfl,rfl,WkOZ.refl _⟩⟩
    ·cases he
   ·cases he;exact⟨SubM.refl _,fun h=>h,fun o ho=>(by cases ho),fun _=>⟨t,rfl⟩,fun t l h=>(by cases h),fun ty cs h=>(by cases h),fun t m1 cs m2 h=>(by cases h)⟩
   ·cases he⟩
 | .row t=>⟨fun h=>(by cases h),fun a m x m' he=>by
   simp only[OSh.shp]at he;split at he
   ·rename_i ty cs;obtain⟨h1,h2⟩:=zm he;have:=Fb h1;subst this;obtain⟨y,h3,h4⟩:=Da.1 h2;cases h4;refine⟨SubM.refl _,fun h=>h,fun o ho=> ?_,fun h=>(by cases h),fun t l h=>(by cases h),fun ty cs h=>⟨_,_,rfl⟩,fun t m1 cs m2 h=>(by cases h)⟩;cases ho;refine⟨rfl,fun ρ ρ' h h' Z _=>⟨_,_,rfl,rfl,?_⟩⟩;have hw:=nU (ρ:=ρ) (ρ':=ρ') (h:=h) (h':=h') (Z:=Z) hI h3;simp only[trT]at hw;generalize hA:cs.map (trV ρ h)=A at hw;generalize hB:(I.exp ty x).map (trV ρ' h')=B at hw;cases hw with
    |agg _ _ hl hc=>
     refine⟨rfl,?_,rfl,fun i row row2 hr hr2=> ?_,rfl⟩
     ·grind
     grind
   ·cases he⟩
 | .cells ty shs=>⟨fun h x y=>by
   have:=(Nu hI shs).unit h x y;exact congrArg (fun l=>EO.cells ty (l.map (evOf I))) this,fun a m x m' he=>by
   simp only[OSh.shp]at he;split at he
   ·rename_i ty' cs;obtain⟨h1,h2⟩:=zm he;have:=Fb h1;subst this;obtain⟨m1,m2,m3,m4⟩:=(Nu hI shs).mat _ _ _ _ h2;refine⟨m1,m2,fun o ho=> ?_,fun h=>(by cases h),fun t l h=>(by cases h),fun ty cs h=>⟨_,_,rfl⟩,fun t m1 cs m2 h=>(by cases h)⟩;cases ho;refine⟨rfl,fun ρ ρ' h h' Z hc=>⟨_,_,rfl,rfl,?_⟩⟩;rw[Ab]at m3;refine⟨rfl,?_,rfl,fun i row row2 hr hr2=> ?_,rfl⟩
    ·grind
    ·cases i with
     |succ i=>simp at hr
     |zero=>
      simp only[Td,Option.some.injEq]at hr hr2;subst hr;subst hr2;refine⟨by grind,fun j a b ha hb=> ?_⟩;simp only[ja]at ha hb;cases hj:cs[j]? with
      |none=>grind
      |some c=>
       cases hj2:((vlOf I shs).enc x)[j]? with
       |none=>grind
       |some d=>
        rw[hj]at ha;rw[hj2]at hb;cases ha;cases hb;have:=m4 ρ ρ' h h' Z hc j (.c c) d (by grind) hj2;cases d with
        |c d=>cases this with|c _ _ hw=>exact hw
        |agg ds=>cases this
   ·cases he⟩
structure OLLaw (P:Program) (ids:List Nat) (s:OL I):Prop where
 unit:s.u=true-> ∀x y,s.enc x=s.enc y
 keys: ∀x,(s.enc x).map (·.1)=ids
 mat: ∀hp m x m',s.mat hp m=some (x,m')->SubM m m'/\(InjM m->InjM m')/\ ∀i o',(i,o')∈s.enc x->
  (∃a o,lk m' i=some (some a)/\hp a=some o/\infE o=infE o'/\(∀t l,o= .sl t l->o'= .sl t l)/\((∀ty cs,o= .cells ty cs-> ∃ty' cs',o'= .cells ty' cs')/\ ∀t l1 cs l2,o= .slo t l1 cs l2-> ∃cs',o'= .slo t l1 cs' l2)/\ ∀ρ ρ' h h' Z,Cmp ρ ρ' h h' Z m'-> ∃ob ob',trO P ρ h o=some ob/\trO P ρ' h' o'=some ob'/\WkOZ Z ob ob')\/
  (lk m' i=some none/\ ∃t,o'= .sl t [])
theorem OLLaw.nil:OLLaw P [] (OL.nil I):=
 ⟨fun _ _ _=>rfl,fun _=>rfl,fun e m x c b=>by
  cases b;exact⟨SubM.refl _,fun h=>h,fun i d a=>by cases a⟩⟩
theorem OLLaw.cons{i:Nat}{ids:List Nat}{s:OShp I}{r:OL I}(hs:zsu P s)(hr:OLLaw P ids r):OLLaw P (i::ids) (OL.cons i s r):=by
 have main: ∀(hp:Nat->Option (EO I.C)) (m:Mp) (a:Option (EO I.C)) (x:s.T) (y:r.T) (m1 m':Mp),Wt hp m i=some a->s.mat a m=some (x,m1)->r.mat hp m1=some (y,m')->SubM m m'/\(InjM m->InjM m')/\
   ∀j o',(j,o')∈(i,s.enc x)::r.enc y->(∃a o,lk m' j=some (some a)/\hp a=some o/\infE o=infE o'/\(∀t l,o= .sl t l->o'= .sl t l)/\((∀ty cs,o= .cells ty cs-> ∃ty' cs',o'= .cells ty' cs')/\ ∀t l1 cs l2,o= .slo t l1 cs l2-> ∃cs',o'= .slo t l1 cs' l2)/\ ∀ρ ρ' h h' Z,Cmp ρ ρ' h h' Z m'-> ∃ob ob',trO P ρ h o=some ob/\trO P ρ' h' o'=some ob'/\WkOZ Z ob ob')\/(lk m' j=some none/\ ∃t,o'= .sl t []):=by
  intro hp m a x y m1 m' ha h1 h2;obtain⟨s1,s2,s3,s4,s5,s6⟩:=hs.mat a m x m1 h1;obtain⟨r1,r2,r3⟩:=hr.mat hp m1 y m' h2;refine⟨s1.trans r1,fun hi=>r2 (s2 hi),fun j o' hm=> ?_⟩;rcases Jb.1 hm with hm|hm
  ·cases hm;unfold Wt at ha;split at ha
   ·rename_i b hb;split at ha
    ·rename_i o ho;cases ha;obtain⟨q1,q2⟩:=s3 o rfl;exact .inl ⟨b,o,r1 _ _ (s1 _ _ hb),ho,q1,fun t l e=>s5 t l (congrArg some e),⟨fun ty cs e=>s6.1 ty cs (congrArg some e),fun t l1 cs l2 e=>s6.2 t l1 cs l2 (congrArg some e)⟩,fun ρ ρ' h h' Z hc=>q2 ρ ρ' h h' Z (hc.sub r1)⟩
    ·cases ha
   ·rename_i hb;cases ha;exact .inr ⟨r1 _ _ (s1 _ _ hb),s4 rfl⟩
   ·cases ha
  ·exact r3 j o' hm
 unfold OL.cons;split
 ·rename_i hu;refine⟨fun h x y=>congrArg ((i,s.enc s.dflt):: ·) (hr.unit h x y),fun x=>congrArg (i:: ·) (hr.keys x),fun hp m x m' he=> ?_⟩;simp only at he;split at he
  ·cases he
  ·rename_i a ha;obtain⟨⟨x0,m1⟩,h1,h2⟩:=Da.1 he;have:=main hp m a x0 x m1 m' ha h1 h2;rw[hs.unit hu x0 s.dflt]at this;exact this
 ·rename_i hu1 hu2;refine⟨fun h=>(by cases h),fun x=>congrArg (i:: ·) (hr.keys r.dflt),fun hp m x m' he=> ?_⟩;simp only at he;split at he
  ·cases he
  ·rename_i a ha;obtain⟨⟨x0,m1⟩,h1,h2⟩:=Da.1 he;obtain⟨⟨y0,m2⟩,h3,h4⟩:=Da.1 h2;cases h4;have:=main hp m a x0 y0 m1 m2 ha h1 h3;rw[hr.unit hu2 y0 r.dflt]at this;exact this
 ·refine⟨fun h=>(by cases h),fun x=>congrArg (i:: ·) (hr.keys x.2),fun hp m x m' he=> ?_⟩;simp only at he;split at he
  ·cases he
  ·rename_i a ha;obtain⟨⟨x0,m1⟩,h1,h2⟩:=Da.1 he;obtain⟨⟨y0,m2⟩,h3,h4⟩:=Da.1 h2
   grind
theorem UU(a:IpOK P I): ∀l:List (Nat×OSh),OLLaw P (l.map (·.1)) (olOf I l)
 |[]=>OLLaw.nil
 |(i,s)::r=>OLLaw.cons (rU a s) (UU a r)
structure SLLaw (P:Program) (sh:StSh):Prop where
 keys: ∀x,((sh.sl I).enc x).2.map (·.1)=sh.objs.map (·.1)
 mat: ∀l hp m x m',(sh.sl I).mat l hp m=some (x,m')->SubM m m'/\(InjM m->InjM m')/\((sh.sl I).enc x).1.length=l.length/\
  (∀ρ ρ' h h' Z,Cmp ρ ρ' h h' Z m'-> ∀(j:Nat) a b,l[j]? =some a->((sh.sl I).enc x).1[j]? =some b->WkT Z (trT ρ h a) (trT ρ' h' b))/\
  ∀i o',(i,o')∈((sh.sl I).enc x).2->(∃a o,lk m' i=some (some a)/\hp a=some o/\infE o=infE o'/\(∀t l,o= .sl t l->o'= .sl t l)/\((∀ty cs,o= .cells ty cs-> ∃ty' cs',o'= .cells ty' cs')/\ ∀t l1 cs l2,o= .slo t l1 cs l2-> ∃cs',o'= .slo t l1 cs' l2)/\ ∀ρ ρ' h h' Z,Cmp ρ ρ' h h' Z m'-> ∃ob ob',trO P ρ h o=some ob/\trO P ρ' h' o'=some ob'/\WkOZ Z ob ob')\/
   (lk m' i=some none/\ ∃t,o'= .sl t [])
theorem Gn(hI:IpOK P I)(sh:StSh):SLLaw (I:=I) P sh:=by
 have hV:=Nu hI sh.vals;have hO:=UU hI sh.objs;have main: ∀(l:List (ET I.C)) (hp:Nat->Option (EO I.C)) (m m1 m':Mp) (x:(vlOf I sh.vals).T) (y:(olOf I sh.objs).T),(vlOf I sh.vals).mat l m=some (x,m1)->(olOf I sh.objs).mat hp m1=some (y,m')->SubM m m'/\(InjM m->InjM m')/\((vlOf I sh.vals).enc x).length=l.length/\
   (∀ρ ρ' h h' Z,Cmp ρ ρ' h h' Z m'-> ∀(j:Nat) a b,l[j]? =some a->((vlOf I sh.vals).enc x)[j]? =some b->WkT Z (trT ρ h a) (trT ρ' h' b))/\
   ∀i o',(i,o')∈(olOf I sh.objs).enc y->(∃a o,lk m' i=some (some a)/\hp a=some o/\infE o=infE o'/\(∀t l,o= .sl t l->o'= .sl t l)/\((∀ty cs,o= .cells ty cs-> ∃ty' cs',o'= .cells ty' cs')/\ ∀t l1 cs l2,o= .slo t l1 cs l2-> ∃cs',o'= .slo t l1 cs' l2)/\ ∀ρ ρ' h h' Z,Cmp ρ ρ' h h' Z m'-> ∃ob ob',trO P ρ h o=some ob/\trO P ρ' h' o'=some ob'/\WkOZ Z ob ob')\/
    (lk m' i=some none/\ ∃t,o'= .sl t []):=by
  intro l hp m m1 m' x y h1 h2;obtain⟨v1,v2,v3,v4⟩:=hV.mat l m x m1 h1;obtain⟨o1,o2,o3⟩:=hO.mat hp m1 y m' h2;exact⟨v1.trans o1,fun hi=>o2 (v2 hi),v3,fun ρ ρ' h h' Z hc=>v4 ρ ρ' h h' Z (hc.sub o1),o3⟩
 constructor
 ·unfold StSh.sl;split
  ·exact fun x=>hO.keys x
  ·exact fun x=>hO.keys (olOf I sh.objs).dflt
  ·exact fun x=>hO.keys x.2
 ·unfold StSh.sl;split
  ·rename_i hu;intro l hp m x m' he;obtain⟨⟨x0,m1⟩,h1,h2⟩:=Da.1 he;have:=main l hp m m1 m' x0 x h1 h2;rw[hV.unit hu x0 (vlOf I sh.vals).dflt]at this;exact this
  ·rename_i hu1 hu2;intro l hp m x m' he;obtain⟨⟨x0,m1⟩,h1,h2⟩:=Da.1 he;obtain⟨⟨y0,m2⟩,h3,h4⟩:=Da.1 h2;cases h4;have:=main l hp m m1 m2 x0 y0 h1 h3;rw[hO.unit hu2 y0 (olOf I sh.objs).dflt]at this;exact this
  ·intro l hp m x m' he;obtain⟨⟨x0,m1⟩,h1,h2⟩:=Da.1 he;obtain⟨⟨y0,m2⟩,h3,h4⟩:=Da.1 h2
   grind
end
section
variable {P:Program}
theorem zdN.wk {f:FuncId} {args c:List TV} {rd l:List (Nat×OB)} {nx k:Nat} {val:LV} {up m:List (Nat×Option OB)} (h:zdN P f args rd nx k val up)
  (J:c.length=args.length) (ha: ∀(j:Nat) a b,c[j]? =some a->args[j]? =some b->WkT (fun _=>False) a b)
  (G: ∀get:Get,(∀p∈l,get p.1=some p.2)-> ∃d:Get,(∀p∈rd,d p.1=some p.2)/\(∀id,(get id=none/\d id=none)\/ ∃o A,get id=some o/\d id=some A/\WkOZ (fun _=>False) o A)/\upd d up=upd get m):
  zdN P f c l nx k val m:=by
 refine⟨h.fn,fun q get w N M n W D g V=> ?_⟩;obtain⟨d,S,K,g3⟩:=G get V;have R: ∀z,(fun _:Nat=>False) z-> ∃k,q z= .live none k:=fun z X=>X.elim;have x:Rel q d w:=by
  refine⟨fun id A E=> ?_,fun id E=> ?_,n.inj,n.glob⟩
  ·rcases K id with⟨_,F⟩|⟨o,C,r,F,L⟩
   ·grind
   ·rw[F]at E;cases E;obtain⟨b,y,B⟩:=n.live id o r;exact⟨b,by rw[L.k];exact y,B.wkZ R L⟩
  ·rcases K id with⟨r,_⟩|⟨o,C,_,F,_⟩
   ·exact n.gone id r
   grind
 have i:Si q w args M:=by
  refine⟨by rw[g.1,J],fun j t O=> ?_⟩;have s:j<c.length:=by rw[J];exact(Ga.1 O).1
  have Q:c[j]? =some c[j]:=Ja s;obtain⟨u,y,B⟩:=g.2 j _ Q;exact⟨u,y,(ha j _ t Q O).rep R B⟩
 refine(h.ok q d w N M x W D i S).mono fun e w' ⟨v,Z,H,q1,U,Y,T⟩=>⟨v,Z,H,?_,U,Y,T⟩
 grind
end
section
variable {I:Ip}
def hOut(con:Con I)(a b:EHeap I.C):Nat->Option (EO I.C):=fun id=>match lk b id with
 |some o=>some o
 |none=>match lk a id with
  |some o=>cond (memN id con.cst) (some o) (some (Oh (some o)))
  |none=>none
structure zl (P:Program) (con:Con I):Prop where
 wf:Yi con=true
 ok: ∀x y,con.F x=some y-> ∀(ρ:Nat->Nat) (nx:Nat),(∀i j,i<con.inS.objs.length->j<con.inS.objs.length->ρ i=ρ j->i=j)->(∀i,i<con.inS.objs.length->ρ i<nx\/nx+con.k<=ρ i)->(∀j,ρ (con.inS.objs.length+j)=nx+j)->
  zdN P con.f (((con.inS.sl I).enc x).1.map (trT ρ (lk ((con.inS.sl I).enc x).2))) (((con.inS.sl I).enc x).2.filterMap fun o=>(trO P ρ (lk ((con.inS.sl I).enc x).2) o.2).map fun ob=>(ρ o.1,ob)) nx con.k
   (valOf (((con.outS.sl I).enc y).1.map (trT ρ (hOut con ((con.inS.sl I).enc x).2 ((con.outS.sl I).enc y).2))))
   ((((con.outS.sl I).enc y).2.map fun o=>(ρ o.1,trO P ρ (hOut con ((con.inS.sl I).enc x).2 ((con.outS.sl I).enc y).2) o.2))++
    ((con.inS.objs.filter fun o=> !(memN o.1 con.cst||memN o.1 (con.outS.objs.map (·.1)))).map fun o=>(ρ o.1,none)))
theorem ZN{i:Nat}: ∀{l:List Nat},memN i l=true↔i∈l
 |[]=>by simp[memN]
 |j::r=>by
  simp only[memN,Jb];by_cases hij:i=j
  ·simp_all
  ·have:Nat.beq i j=false:=by
    cases hb:Nat.beq i j with
    |false=>rfl
    |true=>simp_all
   rw[this];simp only[Ba,hij,false_or];exact ZN
theorem PO{i:Nat}{l:List Nat}(h:memN i l=false):i ∉ l:=fun a=>by rw[ZN.2 a]at h;cases h
theorem Mr: ∀{a b:List Nat},eqN a b=true->a=b
 |[],[],_=>rfl
 |[],_::_,h=>by cases h
 |_::_,[],h=>by cases h
 |i::r,j::s,h=>by simp only[eqN,Fa]at h;rw[Fb h.1,Mr h.2]
theorem QN{a b:List Nat}:subN a b=true↔ ∀i∈a,i∈b:=by simp only[subN,Ua,ZN]
theorem zBC{P:Program}(hI:IpOK P I)(s:Sh)(x:(s.shp I).T): ∀i∈Qz ((s.shp I).enc x),i∈mi s:=by
 have pur: ∀(l:List (EV I.C)),(∀v∈l,Wl v=true)-> ∀i,i ∉ l.flatMap Zh:=by intro l hl i hi;obtain⟨v,hv,hi⟩:=Nb.1 hi;have:=hl v hv;cases v<;>first|(simp[Zh]at hi;done)|(cases this;done)
 cases s<;>intro i hi
 case int=>simp[Sh.shp,Qz,Zh]at hi
 case bool=>simp[Sh.shp,Qz,Zh]at hi
 case str=>simp[Sh.shp,Qz,Zh]at hi
 case sl=>simp[Sh.shp,Qz,Zh]at hi
 case val t=>exact absurd hi (pur _ (hI.pur t x) i)
 case ptr=>simp[Sh.shp,Qz,Zh]at hi
 case nilp=>simp[Sh.shp,ai,Qz,Zh]at hi
 case nilv=>simp[Sh.shp,ai,Qz,Zh]at hi
 case own=>simpa [Sh.shp,ai,Qz,Zh,mi] using hi
 case optr=>simpa [Sh.shp,ai,Qz,Zh,mi] using hi
 case clo f caps=>simpa [Sh.shp,ai,Qz,Zh,mi] using hi
theorem pu{P:Program}(d:IpOK P I): ∀(l:List Sh) (x:(vlOf I l).T),∀t∈(vlOf I l).enc x,∀i∈Qz t,i∈l.flatMap mi
 |[],x,t,e,i,g=>by cases e
 |s::r,x,t,e,i,g=>by
  have h:=zBC d s;have j:=pu d r;have f: ∀(a:(s.shp I).T) (b:(vlOf I r).T),t∈(s.shp I).enc a::(vlOf I r).enc b->i∈(s::r).flatMap mi:=by
   intro a b c;rw[List.flatMap_cons];rcases Jb.1 c with c|c
   ·grind
   ·grind
  revert x;show∀x:(VL.cons (s.shp I) (vlOf I r)).T,t∈(VL.cons (s.shp I) (vlOf I r)).enc x->_;unfold VL.cons;split
  ·grind
  ·grind
  ·grind
theorem dO(t:ET I.C): ∀i∈Zh (evOf I t),i∈Qz t:=by
 cases t with
 |c x=>exact fun i a=>a
 |agg b=>intro i a;simp[evOf,Zh]at a
theorem jX{P:Program}(hI:IpOK P I)(s:OSh)(x:(s.shp I).T): ∀i∈Ci ((s.shp I).enc x),i∈xu s:=by
 cases s with
 |slo t shs=>
  intro i hi;have key: ∀(l:List (ET I.C)),(∀t∈l,∀j∈Qz t,j∈shs.flatMap mi)->i∈(l.map (evOf I)).flatMap Zh->i∈shs.flatMap mi:=by intro l hl hi;obtain⟨v,hv,hi⟩:=Nb.1 hi;obtain⟨t,ht,rfl⟩:=Ma.1 hv;exact hl t ht i (dO t i hi)
  revert x;show∀x:(uk t (vlOf I shs)).T,i∈Ci ((uk t (vlOf I shs)).enc x)->_;unfold uk;split
  ·exact fun x hi=>key _ (fun t ht=>pu hI shs _ t ht) hi
  ·exact fun x hi=>key _ (fun t ht=>pu hI shs _ t ht) hi
 |sl t=>intro i hi;simp[OSh.shp,Ci]at hi
 |row t=>
  intro i hi;exfalso;obtain⟨v,hv,hi⟩:=Nb.1 (show i∈(I.exp t x).flatMap Zh from hi);have:=hI.pur t x v hv;cases v<;>first|(simp[Zh]at hi;done)|(cases this;done)
 |cells ty shs=> intro i hi;obtain⟨v,hv,hi⟩:=Nb.1 (show i∈(((vlOf I shs).enc x).map (evOf I)).flatMap Zh from hi);obtain⟨t,ht,rfl⟩:=Ma.1 hv;exact pu hI shs x t ht i (dO t i hi)
theorem XK{P:Program}(d:IpOK P I): ∀(l:List (Nat×OSh)) (x:(olOf I l).T),∀o∈(olOf I l).enc x,∀i∈Ci o.2,i∈l.flatMap fun o=>xu o.2
 |[],x,t,e,i,g=>by cases e
 |(n,s)::r,x,t,e,i,g=>by
  have h:=jX d s;have j:=XK d r;have f: ∀(a:(s.shp I).T) (b:(olOf I r).T),t∈(n,(s.shp I).enc a)::(olOf I r).enc b->i∈((n,s)::r).flatMap fun o=>xu o.2:=by
   intro a b c;rw[List.flatMap_cons];rcases Jb.1 c with c|c
   ·grind
   ·grind
  revert x;show∀x:(OL.cons n (s.shp I) (olOf I r)).T,t∈(OL.cons n (s.shp I) (olOf I r)).enc x->_;unfold OL.cons;split
  ·grind
  ·grind
  ·grind
theorem WA{P:Program}(d:IpOK P I)(a:StSh)(x:(a.sl I).T):(∀t∈((a.sl I).enc x).1,∀i∈Qz t,i∈a.vals.flatMap mi)/\(∀o∈((a.sl I).enc x).2,∀i∈Ci o.2,i∈a.objs.flatMap fun o=>xu o.2):=by
 have c:=pu d a.vals;have b:=XK d a.objs;revert x;unfold StSh.sl;split
 ·exact fun x=>⟨c _,b x⟩
 ·exact fun x=>⟨c x,b _⟩
 ·exact fun x=>⟨c x.1,b x.2⟩
theorem O3(v:VL I)(t:Nat): ∀a:(uk t v).T,∃l1 cs l2,(uk t v).enc a= .slo t l1 cs l2:=by
 unfold uk;split
 ·grind
 grind
theorem YK: ∀(l:List (Nat×OSh)) (x:(olOf I l).T),∀o∈(olOf I l).enc x,∃s,(o.1,s)∈l/\((∃t c,o.2= .sl t c/\Nh s=true)\/(∃ty cs,o.2= .cells ty cs/\Nh s=false)\/(∃t l1 cs l2 d,s= .slo t d/\o.2= .slo t l1 cs l2))
 |[],x,o,h=>by cases h
 |(n,s)::r,x,o,h=>by
  have j:=YK r;have i: ∀(a:(s.shp I).T) (b:(olOf I r).T),o∈(n,(s.shp I).enc a)::(olOf I r).enc b-> ∃f,(o.1,f)∈(n,s)::r/\((∃t c,o.2= .sl t c/\Nh f=true)\/(∃ty cs,o.2= .cells ty cs/\Nh f=false)\/(∃t l1 cs l2 d,f= .slo t d/\o.2= .slo t l1 cs l2)):=by
   intro a b g;rcases Jb.1 g with g|g
   ·subst g;refine⟨s,Dc ..,?_⟩;cases s with
    |sl t=>exact .inl ⟨_,_,rfl,rfl⟩
    |row t=>exact .inr (.inl ⟨_,_,rfl,rfl⟩)
    |cells ty d=>exact .inr (.inl ⟨_,_,rfl,rfl⟩)
    |slo t d=> obtain⟨l1,cs,l2,e⟩:=O3 (vlOf I d) t a;exact .inr (.inr ⟨t,l1,cs,l2,d,rfl,e⟩)
   ·grind
  revert x;show∀x:(OL.cons n (s.shp I) (olOf I r)).T,o∈(OL.cons n (s.shp I) (olOf I r)).enc x->_;unfold OL.cons;split
  ·grind
  ·grind
  grind
theorem Km(a:StSh)(x:(a.sl I).T): ∀o∈((a.sl I).enc x).2,∃s,(o.1,s)∈a.objs/\((∃t c,o.2= .sl t c/\Nh s=true)\/(∃ty cs,o.2= .cells ty cs/\Nh s=false)\/(∃t l1 cs l2 b,s= .slo t b/\o.2= .slo t l1 cs l2)):=by
 have d:=YK (I:=I) a.objs;revert x;unfold StSh.sl;split
 ·grind
 ·grind
 grind
end
section
variable {I:Ip} {P:Program}
def uj(a b:Option (Nat ⊕ List (List PV))):Prop:=b=a\/(a=none/\b=some (.inl 0))
theorem uz{ρ ρ' f:Nat->Nat}{h h':Nat->Option (EO I.C)}{x:EV I.C}(hρ: ∀i∈Zh x,ρ' i=ρ (f i))(hi: ∀i∈Zh x,uj (infO h' i) (infO h (f i))):trV ρ h (rnV f x)=trV ρ' h' x:=by
 cases x with
 |own id=>
  have h1:=hρ id (by simp[Zh]);have h2:=hi id (by simp[Zh]);simp only[rnV];rw[Wi,Wi,h1];rcases h2 with h2|⟨h2,h3⟩
  ·rw[h2]
  ·rw[h2,h3]
 |osl id off n=>simp only[rnV,trV,hρ id (by simp[Zh])]
 |optr id r c=>simp only[rnV,trV,hρ id (by simp[Zh])]
 |mref id=>simp only[rnV,trV,hρ id (by simp[Zh])]
 |clo g caps=> simp only[rnV,trV,Sb];congr 1;refine Sa fun q hq=> ?_;have:=hρ q.1 (by simp only[Zh,Ma];grind);simp[this]
 |_=>rfl
theorem zBG{ρ ρ' f:Nat->Nat}{h h':Nat->Option (EO I.C)}{x:ET I.C}(b: ∀i∈Qz x,ρ' i=ρ (f i))(hi: ∀i∈Qz x,uj (infO h' i) (infO h (f i))):trT ρ h (rnET f x)=trT ρ' h' x:=by
 cases x with
 |c x=>exact congrArg TV.c (uz b hi)
 |agg g=> simp only[rnET,trT,Sb];congr 1;exact Sa fun v d=>uz (fun i a=>b i (Nb.2 ⟨v,d,a⟩)) (fun i a=>hi i (Nb.2 ⟨v,d,a⟩))
theorem EK{ρ ρ' f:Nat->Nat}{h h':Nat->Option (EO I.C)}{o:EO I.C}(hρ: ∀i∈Ci o,ρ' i=ρ (f i))(hi: ∀i∈Ci o,uj (infO h' i) (infO h (f i))):trO P ρ h (rnEO f o)=trO P ρ' h' o:=by
 cases o with
 |cells ty cs=> simp only[rnEO,trO,Ab,Sb];have:cs.map (trV ρ h∘rnV f)=cs.map (trV ρ' h'):=Sa fun v hv=>uz (fun i hi'=>hρ i (Nb.2 ⟨v,hv,hi'⟩)) (fun i hi'=>hi i (Nb.2 ⟨v,hv,hi'⟩));rw[this]
 |slo t l1 cs l2=> simp only[rnEO,trO,Sb];have:cs.map (trV ρ h∘rnV f)=cs.map (trV ρ' h'):=Sa fun v hv=>uz (fun i hi'=>hρ i (Nb.2 ⟨v,hv,hi'⟩)) (fun i hi'=>hi i (Nb.2 ⟨v,hv,hi'⟩));rw[this]
 |_=>rfl
theorem OA(f:Nat->Nat)(o:EO I.C):infE (rnEO f o)=infE o:=by cases o<;>rfl
theorem kL{ρ:Nat->Nat}{h:Nat->Option (EO I.C)}{t:Nat}{l1 l2:List (I.C t)}{cs:List (EV I.C)}:trO P ρ h (.slo t l1 (cs.map (nrmV h)) l2)=trO P ρ h (.slo t l1 cs l2):=by simp only[trO,Sb];have:cs.map (trV ρ h∘nrmV h)=cs.map (trV ρ h):=Sa fun v _=>yu v;rw[this]
theorem GK{ρ:Nat->Nat}{h:Nat->Option (EO I.C)}{ty:Nat}{cs:List (EV I.C)}:trO P ρ h (.cells ty (cs.map (nrmV h)))=trO P ρ h (.cells ty cs):=by simp only[trO,Ab,Sb];have:cs.map (trV ρ h∘nrmV h)=cs.map (trV ρ h):=Sa fun v _=>yu v;rw[this]
theorem kz{α b:Type}{f:Nat->Nat}{g:α->b}: ∀{l:List (Nat×α)} {i:Nat},(∀o∈l,f o.1=f i->o.1=i)->lk (l.map fun o=>(f o.1,g o.2)) (f i)=(lk l i).map g
 |[],i,_=>rfl
 |(j,x)::r,i,h=>by
  simp only[Va];rw[Zm,Zm];by_cases a:i=j
  ·grind
  ·rw[Ka a,Ka (fun e=>a (h (j,x) (Dc ..) e.symm).symm)];exact kz (fun o c=>h o (Xb _ c))
theorem Jv{α:Type}: ∀{l:List (Nat×α)} {i:Nat},(∀o∈l,o.1≠i)->lk l i=none
 |[],i,_=>rfl
 |(j,x)::r,i,h=>by rw[Zm,Ka (fun e=>h (j,x) (Dc ..) e.symm)];exact Jv (fun o a=>h o (Xb _ a))
theorem qz{α:Type}: ∀(l m:List (Nat×α)) (i:Nat),lk (l++m) i=(match lk l i with|some x=>some x|none=>lk m i)
 |[],m,i=>rfl
 |(j,x)::r,m,i=>by
  simp only[Tc];rw[Zm,Zm];by_cases a:i=j
  ·grind
  ·rw[Ka a,Ka a];exact qz r m i
theorem Zq{α:Type}: ∀{l:List (Nat×α)} {i:Nat},i∈l.map (·.1)-> ∃x,lk l i=some x
 |[],i,h=>by cases h
 |(j,x)::r,i,h=>by
  rw[Zm];by_cases a:i=j
  ·simp_all
  ·rw[Ka a];simp only[Va,Jb]at h;exact Zq (h.resolve_left a)
theorem yw(get:Get): ∀(a b:List (Nat×Option OB)),upd get (a++b)=upd (upd get b) a
 |[],b=>rfl
 |(i,o)::r,b=>by funext j;simp only[Tc,upd];rw[yw get r b]
theorem xJ{get get':Get}: ∀{a:List (Nat×Option OB)} {j:Nat},j∈a.map (·.1)->upd get a j=upd get' a j
 |[],j,h=>by cases h
 |(i,o)::r,j,h=>by
  simp only[upd];by_cases b:j=i
  ·grind
  ·rw[Ka b,Ka b];simp only[Va,Jb]at h;exact xJ (h.resolve_left b)
theorem wU{x y:CV}(f:x≠ .p (.at (.slice none 0 0)))(c:WkZ (fun _=>False) x y):y=x:=by
 rcases c with c|⟨z,d,_⟩
 ·rcases c with rfl|⟨a,b,rfl,rfl,c⟩
  ·rfl
  ·cases c with
   |refl=>rfl
   |nil=>grind
 ·exact d.elim
theorem vU{ρ:Nat->Nat}{h:Nat->Option (EO I.C)}{x:EV I.C}(b:Rq x=false):trV ρ h x≠ .p (.at (.slice none 0 0)):=by
 intro a;cases x with
 |nil=>cases b
 |raw v=>
  simp only[trV,pvE,CV.p.injEq,PV.at.injEq]at a;subst a;cases b
 |own id=>rw[Wi]at a;grind
 |_=>cases a
theorem zDh{o d:OB}(v:WkOZ (fun _=>False) o d)(m: ∀row∈o.rows,∀x∈row,x≠ .p (.at (.slice none 0 0))):d=o:=by
 obtain⟨y,k,rows⟩:=o;obtain⟨u,z,a⟩:=d;obtain⟨l,s,r,n⟩:=v;simp only at l s r n m;subst l;subst s;congr 1;apply dh;intro i;cases g:rows[i]? with
 |none=>
  grind
 |some row=>
  have h:i<a.length:=by rw[r];exact(Ga.1 g).1
  have b:a[i]? =some a[i]:=Ja h;rw[b];obtain⟨t,w⟩:=n i row _ g b;congr 1;apply dh;intro j;cases f:row[j]? with
  |none=>
   grind
  |some x=>
   have c:j<(a[i]).length:=by rw[t];exact(Ga.1 f).1
   have q:(a[i])[j]? =some (a[i])[j]:=Ja c;rw[q];exact congrArg some (wU (m row (Ra g) x (Ra f)) (w j x _ f q))
end
section
variable {P:Program} {I:Ip} {X:Cx I} {ρ:Nat->Nat} {G:Get} {st:ES I.C} {e:Env} {lh:LH}
theorem ZZ{a b:Nat}:Nat.blt a b=true↔a<b:=by simp[Nat.blt_eq]
theorem Hl{α:Type}: ∀{l:List (Nat×α)} {i:Nat} {x:α},(l.map (·.1)).Nodup->(i,x)∈l->lk l i=some x
 |[],i,x,_,h=>by cases h
 |(j,y)::r,i,x,a,h=>by
  rw[Zm];simp only[Va,List.nodup_cons]at a;rcases Jb.1 h with h|h
  ·grind
  ·rw[Ka (fun e=>a.1 (Ma.2 ⟨(i,x),h,e⟩))];exact Hl a.2 h
theorem TM{α b:Type}{F:Nat->b}: ∀{l:List (Nat×α)} {i:Nat},i∈l.map (·.1)->lk (l.map fun o=>(o.1,F o.1)) i=some (F i)
 |[],i,h=>by cases h
 |(j,y)::r,i,h=>by
  simp only[Va];rw[Zm];by_cases a:i=j
  ·grind
  ·rw[Ka a];simp only[Va,Jb]at h;exact TM (h.resolve_left a)
theorem yJ{get:Get}{a:Nat->Nat}{v:Nat->Option OB}: ∀{l:List Nat} {i:Nat},i∈l->(∀j∈l,a j=a i->j=i)->upd get (l.map fun i=>(a i,v i)) (a i)=v i
 |[],i,h,_=>by cases h
 |j::r,i,h,c=>by
  simp only[Va,upd];by_cases b:a i=a j
  ·grind
  ·rw[Ka b];rcases Jb.1 h with h|h
   ·grind
   ·exact yJ h (fun j d=>c j (Xb _ d))
theorem JN: ∀{m:Mp},Fg m=[]-> ∀i,lk m i≠some none
 |[],_,i,h=>by cases h
 |(j,none)::r,b,i,h=>by simp[Fg]at b
 |(j,some a)::r,b,i,h=>by
  rw[Zm]at h;split at h
  ·cases h
  ·exact JN (m:=r) (by simpa [Fg] using b) i h
theorem YZ (hI:IpOK P I) (hv:Vw P X ρ G st e lh) {con:Con I} (hc:zl P con) {as:List (ET I.C)} {x:(con.inS.sl I).T} {m:Mp} (hm:(con.inS.sl I).mat as (nrmH (lkO X st)) []=some (x,m))
  (hb:(m.all fun z=>Nat.blt z.1 con.inS.objs.length)=true) (hn:Fg m=[]) {y:(con.outS.sl I).T} (hF:con.F x=some y):
  ∃rd0,zdN P con.f (as.map (trT ρ (lkO X st))) rd0 lh.next con.k (trL ρ (aft (lkO X st) (kg con (lkO X st) st.next m x y).up) (lkE X st) (kg con (lkO X st) st.next m x y).val) (trU P ρ (aft (lkO X st) (kg con (lkO X st) st.next m x y).up) (kg con (lkO X st) st.next m x y).up)/\
   (∀p∈rd0,lh.get p.1=some p.2)/\(∀p∈rd0,p.1∈(kg con (lkO X st) st.next m x y).rd.map ρ)/\Jq (lkO X st) (kg con (lkO X st) st.next m x y).up:=by
 generalize hh:lkO X st=h at*;obtain⟨L0,L1⟩:=Gn (P:=P) hI con.inS;obtain⟨l1,l2,l3,l4,l5⟩:=L1 as (nrmH h) [] x m hm;have hinj:InjM m:=l2 (fun i j a h=>by cases h);have hkin:=L0 x;obtain⟨kout,_⟩:=Gn (P:=P) hI con.outS;have hkout:=kout y;have wf:=hc.wf;simp only[Yi,Fa,Ac]at wf;obtain⟨⟨⟨⟨⟨⟨⟨w1,w2⟩,w3⟩,w4⟩,w5⟩,w6⟩,w7⟩,w8⟩:=wf;have w1:=Mr w1;have w6:=Mr w6;have w4:=QN.1 w4;simp only[wfSt,Fa]at w2 w3;have w2a:=QN.1 w2.1;have w2b:=QN.1 w2.2;have w3a:=QN.1 w3.1;have w3b:=QN.1 w3.2;generalize hp:con.inS.objs.length=p at*;generalize ha:(con.inS.sl I).enc x=a at*;generalize hbb:(con.outS.sl I).enc y=b at*
 -- the objects that came in
 have inAt: ∀i,i<p-> ∃o',lk a.2 i=some o'/\(i,o')∈a.2:=by
  intro i hi;have:i∈a.2.map (·.1):=by rw[hkin,w1];exact Jc.2 hi
  obtain⟨o',ho⟩:=Zq this;exact⟨o',ho,Zi ho⟩
 have act: ∀i,i<p-> ∃c o o',lk a.2 i=some o'/\lk m i=some (some c)/\h c=some o/\infE o=infE o'/\(∀t l,o= .sl t l->o'= .sl t l)/\((∀ty cs,o= .cells ty cs-> ∃ty' cs',o'= .cells ty' cs')/\ ∀t l1 cs l2,o= .slo t l1 cs l2-> ∃cs',o'= .slo t l1 cs' l2)/\
   (∀ρ' h',Cmp ρ ρ' h h' (fun _=>False) m-> ∃ob ob',trO P ρ h o=some ob/\trO P ρ' h' o'=some ob'/\WkOZ (fun _=>False) ob ob'):=by
  intro i hi;obtain⟨o',h1,h2⟩:=inAt i hi;rcases l5 i o' h2 with⟨c,on,k1,k2,k3,k4,k5,k6⟩|⟨k1,_⟩
  ·unfold nrmH at k2;cases hhc:h c with
   |none=>rw[hhc]at k2;cases k2
   |some o=>
    rw[hhc]at k2;cases o with
    |cells ty cs=>
     simp only[Option.some.injEq]at k2;subst k2;refine⟨c,_,o',h1,k1,hhc,k3,fun t l e=>(by cases e),⟨fun ty2 cs2 e=>k5.1 _ _ rfl,fun t l1 cs l2 e=>(by cases e)⟩,fun ρ' h' hcm=> ?_⟩;obtain⟨ob,ob',q1,q2,q3⟩:=k6 ρ ρ' h h' (fun _=>False) hcm;exact⟨ob,ob',by rw[<-GK];exact q1,q2,q3⟩
    |sl t l=>
     simp only[Option.some.injEq]at k2;subst k2;exact⟨c,_,o',h1,k1,hhc,k3,k4,⟨fun ty2 cs2 e=>(by cases e),fun t l1 cs l2 e=>(by cases e)⟩,fun ρ' h' hcm=>k6 ρ ρ' h h' _ hcm⟩
    |dead n=>
     simp only[Option.some.injEq]at k2;subst k2;exact⟨c,_,o',h1,k1,hhc,k3,k4,⟨fun ty2 cs2 e=>(by cases e),fun t l1 cs l2 e=>(by cases e)⟩,fun ρ' h' hcm=>k6 ρ ρ' h h' _ hcm⟩
    |mp kd l=>
     simp only[Option.some.injEq]at k2;subst k2;exact⟨c,_,o',h1,k1,hhc,k3,k4,⟨fun ty2 cs2 e=>(by cases e),fun t l1 cs l2 e=>(by cases e)⟩,fun ρ' h' hcm=>k6 ρ ρ' h h' _ hcm⟩
    |slo t l1 cs l2=>
     simp only[Option.some.injEq]at k2;subst k2;refine⟨c,_,o',h1,k1,hhc,k3,fun t l e=>(by cases e),⟨fun ty2 cs2 e=>(by cases e),fun t l1 cs l2 e=>(by cases e;exact k5.2 _ _ _ _ rfl)⟩,fun ρ' h' hcm=> ?_⟩;obtain⟨ob,ob',q1,q2,q3⟩:=k6 ρ ρ' h h' (fun _=>False) hcm;exact⟨ob,ob',by rw[<-kL];exact q1,q2,q3⟩
    |frz t l=> simp only[Option.some.injEq]at k2;subst k2;exact⟨c,_,o',h1,k1,hhc,k3,fun t l e=>(by cases e),⟨fun ty2 cs2 e=>(by cases e),fun t l1 cs l2 e=>(by cases e)⟩,fun ρ' h' hcm=>k6 ρ ρ' h h' _ hcm⟩
  ·exact absurd k1 (JN hn i)
 generalize hf:(fun i=>cond (Nat.blt i p) (rnM m 0 i) (st.next+(i - p)))=f at*;have fin: ∀i c,i<p->lk m i=some (some c)->f i=c:=by intro i c hi hl;rw[<-hf];simp only[ZZ.2 hi,Ca,rnM,hl]
 have fout: ∀i,p<=i->f i=st.next+(i - p):=by
  intro i hi;rw[<-hf];have:Nat.blt i p=false:=by
   cases hb:Nat.blt i p with
   |false=>rfl
   |true=>have:=ZZ.1 hb;omega
  simp only[this,Ba]
 have flt: ∀i,i<p->f i<st.next/\ ∃o,h (f i)=some o:=by intro i hi;obtain⟨c,o,o',k1,k2,k3,_⟩:=act i hi;rw[fin i c hi k2];exact⟨(hv.wfh c o (by rw[hh];exact k3)).1,o,k3⟩
 have finj: ∀i j,f i=f j->i<p\/p<=i->i=j:=by
  intro i j e _;rcases Gc i p with hi|hi<;>rcases Gc j p with hj|hj
  ·obtain⟨c,o,o',k1,k2,k3,_⟩:=act i hi;obtain⟨c2,o2,o2',q1,q2,q3,_⟩:=act j hj;rw[fin i c hi k2,fin j c2 hj q2]at e;subst e;exact hinj i j c k2 q2
  ·have:=(flt i hi).1;rw[e,fout j hj]at this;omega
  ·have:=(flt j hj).1;rw[<-e,fout i hi]at this;omega
  ·rw[fout i hi,fout j hj]at e;omega
 have finj': ∀i j,f i=f j->i=j:=fun i j e=>finj i j e (Gc i p);have hρf: ∀i j,i<p->j<p->ρ (f i)=ρ (f j)->i=j:=by intro i j hi hj e;obtain⟨_,o,ho⟩:=flt i hi;obtain⟨_,o2,ho2⟩:=flt j hj;exact finj' i j (hv.inj _ _ o o2 (by rw[hh];exact ho) (by rw[hh];exact ho2) e)
 have hcmp:Cmp ρ (fun i=>ρ (f i)) h (lk a.2) (fun _=>False) m:=by
  intro i z hz;have hi:i<p:=by have:=Ua.1 hb _ (Zi hz);exact ZZ.1 this
  obtain⟨c,o,o',k1,k2,k3,k4,_⟩:=act i hi;rw[k2]at hz;cases hz;refine⟨by show ρ (f i)=ρ c;rw[fin i c hi k2],?_⟩;rw[Zd k1,Zd k3,k4]
 have hcall:=hc.ok x y hF (fun i=>ρ (f i)) lh.next (by rw[hp];exact hρf) (by
  rw[hp];intro i hi;exact .inl (hv.lt _ (flt i hi).1)) (by
  rw[hp];intro j;show ρ (f (p+j))=lh.next+j;rw[fout _ (jc _ _),hv.up _ (jc _ _)];omega)
 rw[ha,hbb]at hcall
 -- the parts of what changes
 have hgone: ∀(l:List (Nat×OSh)),(∀o∈l,o.1<p)->lm h m con.cst con.outS.objs l=(l.filter fun o=> !(memN o.1 con.cst||memN o.1 (con.outS.objs.map (·.1)))).map fun o=>(f o.1,Oh (h (f o.1))):=by
  intro l
  induction l with
  |nil=>intro _;rfl
  |cons o r ih=>
   intro hl;obtain⟨i,s⟩:=o;have hi:=hl (i,s) (Dc ..);obtain⟨c,_,_,_,k2,_⟩:=act i hi;simp only[lm,k2];rw[ih (fun o ho=>hl o (Xb _ ho))];cases hmm:(memN i con.cst||memN i (con.outS.objs.map (·.1)))with
   |true=> rw[List.filter_cons_of_neg (by show¬(!(memN i con.cst||memN i (con.outS.objs.map (·.1))))=true;rw[hmm];simp)];rfl
   |false=> rw[List.filter_cons_of_pos (by show(!(memN i con.cst||memN i (con.outS.objs.map (·.1))))=true;rw[hmm];rfl),Va];simp only[fin i c hi k2];rfl
 have hids: ∀o∈con.inS.objs,o.1<p:=by intro o ho;have:o.1∈con.inS.objs.map (·.1):=Ma.2 ⟨o,ho,rfl⟩;rw[w1]at this;exact Jc.1 this
 have hseen: ∀(l:EHeap I.C),∀o∈Ig h m con.cst l,o∈l/\memN o.1 con.cst=true:=by
  intro l
  induction l with
  |nil=>intro o ho;cases ho
  |cons q r ih=>
   obtain⟨i,ob⟩:=q;intro o ho;simp only[Ig]at ho;have step:o∈Ig h m con.cst r->o∈(i,ob)::r/\memN o.1 con.cst=true:=fun h=>⟨Xb _ (ih o h).1,(ih o h).2⟩;cases hmem:memN i con.cst with
   |false=>rw[hmem]at ho;exact step ho
   |true=>
    rw[hmem]at ho;simp only[Ca]at ho;split at ho
    ·split at ho
     ·rename_i cs _;cases hany:cs.any Rq with
      |false=>rw[hany]at ho;exact step ho
      |true=>
       rw[hany]at ho;rcases Jb.1 ho with rfl|ho
       ·exact⟨Dc ..,hmem⟩
       ·exact step ho
     ·exact step ho
    ·exact step ho
 have hseen2: ∀(l:EHeap I.C) (i:Nat) (o':EO I.C),(i,o')∈l->memN i con.cst=true->i<p->(∃ty cs,h (f i)=some (.cells ty cs)/\cs.any Rq=true)->i∈(Ig h m con.cst l).map (·.1):=by
  intro l
  induction l with
  |nil=>intro i o' h1;cases h1
  |cons q r ih=>
   obtain⟨j,oj⟩:=q;intro i o' h1 h2 hi h3;simp only[Ig];rcases Jb.1 h1 with h1|h1
   ·injection h1 with e1 e2;subst e1;obtain⟨ty,cs,g1,g2⟩:=h3;obtain⟨c,_,_,_,k2,_⟩:=act i hi;rw[fin i c hi k2]at g1;simp only[h2,Ca,k2,g1,g2,Va];exact Dc ..
   ·have:=ih i o' h1 h2 hi h3;cases memN j con.cst with
    |false=>exact this
    |true=>
     simp only[Ca];split
     ·split
      ·rename_i cs _;cases cs.any Rq with
       |false=>exact this
       |true=>exact Xb _ this
      ·exact this
     ·exact this
 have hknd:(a.2.map (·.1)).Nodup:=by rw[hkin,w1];exact List.nodup_range
 have hbnd:(b.2.map (·.1)).Nodup:=by rw[hkout];exact w7
 have hup:(kg con h st.next m x y).up=b.2.map (fun o=>(f o.1,rnEO f o.2))++(((con.inS.objs.filter fun o=> !(memN o.1 con.cst||memN o.1 (con.outS.objs.map (·.1)))).map fun o=>(o.1,Oh (h (f o.1)))).map (fun o=>(f o.1,o.2))++(Ig h m con.cst a.2).map (fun o=>(f o.1,rnEO f o.2))):=by subst hf;have hg:=hgone con.inS.objs hids;simp only[kg,ha,hbb,hp,hg,Sb];rfl
 have hrdE:(kg con h st.next m x y).rd=m.filterMap (·.2):=rfl;have hvalE:(kg con h st.next m x y).val=resE (b.1.map (rnET f)):=by subst hf;simp only[kg,hbb,hp]
 generalize hres:(kg con h st.next m x y)=res at*
 -- what the objects behind the call are
 have outCst: ∀i∈b.2.map (·.1),i<p->memN i con.cst=false/\(∃s,(i,s)∈con.outS.objs/\Nh s=false)/\ ∃s,lk con.inS.objs i=some s/\Nh s=false:=by
  intro i hi hip;rw[hkout]at hi;obtain⟨o,ho,rfl⟩:=Ma.1 hi;have:=Ua.1 w5 o ho;rw[ZZ.2 hip]at this;simp only[Ca,Fa,Bool.not_eq_true']at this;refine⟨this.1.1,⟨o.2,ho,this.1.2⟩,?_⟩;have h3:=this.2;cases hl:lk con.inS.objs o.1 with
  |none=>rw[hl]at h3;cases h3
  |some s=>rw[hl]at h3;exact⟨s,rfl,by simpa using h3⟩
 have inCells: ∀i,i<p-> ∀s,lk con.inS.objs i=some s->Nh s=false-> ∃ty cs,lk a.2 i=some (.cells ty cs):=by
  intro i hi s hs hsl;obtain⟨o',k1,k2⟩:=inAt i hi;have hk:=Km (I:=I) con.inS x;rw[ha]at hk;obtain⟨s',g1,g2⟩:=hk (i,o') k2;have hnd:(con.inS.objs.map (·.1)).Nodup:=by rw[w1];exact List.nodup_range
  have:=Hl hnd g1;rw[hs]at this;cases this;rcases g2 with⟨t,c,g3,g4⟩|⟨ty,cs,g3,g4⟩|⟨_,_,_,_,_,g5,_⟩
  ·rw[hsl]at g4;cases g4
  ·exact⟨ty,cs,by rw[k1];exact congrArg some g3⟩
  ·rw[g5]at hsl;cases hsl
 have outCells: ∀i o,(i,o)∈b.2->i<p-> ∃ty cs,o= .cells ty cs:=by
  intro i o ho hi;obtain⟨_,⟨s,g1,g2⟩,_⟩:=outCst i (Ma.2 ⟨_,ho,rfl⟩) hi;have hk:=Km (I:=I) con.outS y;rw[hbb]at hk;obtain⟨s',q1,q2⟩:=hk (i,o) ho;have h1:=Hl w7 g1;have h2:=Hl w7 q1;rw[h1]at h2;cases h2;rcases q2 with⟨t,c,q3,q4⟩|⟨ty,cs,q3,q4⟩|⟨_,_,_,_,_,q5,_⟩
  ·rw[g2]at q4;cases q4
  ·exact⟨ty,cs,q3⟩
  ·rw[q5]at g2;cases g2
 have lkB: ∀i,lk (b.2.map fun o=>(f o.1,rnEO f o.2)) (f i)=(lk b.2 i).map (rnEO f):=fun i=>kz (fun o _ e=>finj' _ _ e);have lkG: ∀i,lk (((con.inS.objs.filter fun o=> !(memN o.1 con.cst||memN o.1 (con.outS.objs.map (·.1)))).map fun o=>(o.1,Oh (h (f o.1)))).map (fun o=>(f o.1,o.2))) (f i)=lk ((con.inS.objs.filter fun o=> !(memN o.1 con.cst||memN o.1 (con.outS.objs.map (·.1)))).map fun o=>(o.1,Oh (h (f o.1)))) i:=fun i=>by have:=kz (f:=f) (g:=fun z:EO I.C=>z) (l:=(con.inS.objs.filter fun o=> !(memN o.1 con.cst||memN o.1 (con.outS.objs.map (·.1)))).map fun o=>(o.1,Oh (h (f o.1)))) (i:=i) (fun o _ e=>finj' _ _ e);rw[this];simp
 have lkS: ∀i,lk ((Ig h m con.cst a.2).map fun o=>(f o.1,rnEO f o.2)) (f i)=(lk (Ig h m con.cst a.2) i).map (rnEO f):=fun i=>kz (fun o _ e=>finj' _ _ e);have seenAt: ∀i o,lk (Ig h m con.cst a.2) i=some o->lk a.2 i=some o/\memN i con.cst=true:=by intro i o ho;obtain⟨q1,q2⟩:=hseen a.2 (i,o) (Zi ho);exact⟨Hl hknd q1,q2⟩
 have infIn: ∀i,i<p->infO h (f i)=infO (lk a.2) i:=by intro i hi;obtain⟨c,o,o',k1,k2,k3,k4,_⟩:=act i hi;rw[fin i c hi k2,Zd k3,Zd k1,k4]
 have infB: ∀i o,lk b.2 i=some o->infO (aft h res.up) (f i)=infE o:=by
  intro i o ho;have:aft h res.up (f i)=some (rnEO f o):=by simp only[aft,hup,qz,lkB,ho,Bb]
  rw[Zd this,OA]
 have infC: ∀i,i<p->memN i con.cst=true->infO (aft h res.up) (f i)=infO (lk a.2) i:=by
  intro i hi hcst;have hnb:lk b.2 i=none:=by
   cases hl:lk b.2 i with
   |none=>rfl
   |some o=> have:=(outCst i (Ma.2 ⟨_,Zi hl,rfl⟩) hi).1;rw[hcst]at this;cases this
  have hng:lk ((con.inS.objs.filter fun o=> !(memN o.1 con.cst||memN o.1 (con.outS.objs.map (·.1)))).map fun o=>(o.1,Oh (h (f o.1)))) i=none:=by refine Jv fun o ho e=> ?_;obtain⟨z,hz,rfl⟩:=Ma.1 ho;have:=(Jd.1 hz).2;simp only at e;rw[e,hcst]at this;simp at this
  cases hs:lk (Ig h m con.cst a.2) i with
  |some o=>
   have hat:aft h res.up (f i)=some (rnEO f o):=by simp only[aft,hup,qz,lkB,hnb,Option.map_none,lkG,hng,lkS,hs,Bb]
   rw[Zd hat,OA,Zd (seenAt i o hs).1]
  |none=>
   have hat:aft h res.up (f i)=h (f i):=by simp only[aft,hup,qz,lkB,hnb,Option.map_none,lkG,hng,lkS,hs]
   rw[<-infIn i hi];simp only[infO,hat]
 have trk: ∀i o,i<p->h (f i)=some o->(∃t l,o= .sl t l)\/ ∃ty cs,o= .cells ty cs:=by
  intro i o hi ho;obtain⟨c,o2,o',k1,k2,k3,k4,k5,k6,k7⟩:=act i hi;rw[fin i c hi k2,k3]at ho;cases ho;obtain⟨ob,ob',q1,q2,q3⟩:=k7 (fun i=>ρ (f i)) (lk a.2) hcmp;cases o with
  |mp kd l=>
   have hk:=Km (I:=I) con.inS x;rw[ha]at hk;obtain⟨s',_,g2⟩:=hk (i,o') (Zi k1);have hraw:=q3.raw;simp only[trO,Option.some.injEq]at q1;subst q1;rcases g2 with⟨_,_,g3,_⟩|⟨_,_,g3,_⟩|⟨_,_,_,_,_,_,g3⟩<;>
    (simp only at g3;rw[g3]at q2;simp only[trO,Option.some.injEq]at q2;rw[<-q2]at hraw;cases hraw)
  |sl t l=>exact .inl ⟨t,l,rfl⟩
  |cells ty cs=>exact .inr ⟨ty,cs,rfl⟩
  |dead n=>cases q1
  |frz t l=>cases q1
  |slo t l1 cs l2=>
   obtain⟨cs',e⟩:=k6.2 _ _ _ _ rfl;have hk:=Km (I:=I) con.inS x;rw[ha]at hk;obtain⟨s',g1,g2⟩:=hk (i,o') (Zi k1);have hns:=Ua.1 w8 _ g1;subst e;rcases g2 with⟨_,_,g3,_⟩|⟨_,_,g3,_⟩|⟨_,_,_,_,_,g3,_⟩
   ·cases g3
   ·cases g3
   ·simp only at hns;rw[g3]at hns;cases hns
 have infL: ∀i,i<p->uj (infO (lk a.2) i) (infO (aft h res.up) (f i)):=by
  intro i hi;cases hcst:memN i con.cst with
  |true=>exact .inl (infC i hi hcst)
  |false=>
   cases hb2:lk b.2 i with
   |some o=> obtain⟨_,_,s,g1,g2⟩:=outCst i (Ma.2 ⟨_,Zi hb2,rfl⟩) hi;obtain⟨ty,cs,g3⟩:=inCells i hi s g1 g2;obtain⟨ty2,cs2,g4⟩:=outCells i o (Zi hb2) hi;refine .inl ?_;rw[infB i o hb2,Zd g3,g4];rfl
   |none=>
    obtain⟨_,ob,hob⟩:=flt i hi;have hng:lk ((con.inS.objs.filter fun o=> !(memN o.1 con.cst||memN o.1 (con.outS.objs.map (·.1)))).map fun o=>(o.1,Oh (h (f o.1)))) i=some (Oh (h (f i))):=by
     refine TM (F:=fun i=>Oh (h (f i))) ?_;have hmi:i∈con.inS.objs.map (·.1):=by rw[w1];exact Jc.2 hi
     obtain⟨z,hz,rfl⟩:=Ma.1 hmi;refine Ma.2 ⟨z,Jd.2 ⟨hz,?_⟩,rfl⟩;have hno:memN z.1 (con.outS.objs.map (·.1))=false:=by
      cases hmm:memN z.1 (con.outS.objs.map (·.1))with
      |false=>rfl
      |true=> have:=ZN.1 hmm;rw[<-hkout]at this;obtain⟨w,hw⟩:=Zq this;rw[hb2]at hw;cases hw
     simp[hcst,hno]
    have hat:aft h res.up (f i)=some (Oh (h (f i))):=by simp only[aft,hup,qz,lkB,hb2,Option.map_none,lkG,hng]
    rw[Zd hat,<-infIn i hi];rcases trk i ob hi hob with⟨t,l,rfl⟩|⟨ty,cs,rfl⟩
    ·exact .inl (by rw[hob,Zd hob];rfl)
    ·exact .inr ⟨by rw[Zd hob];rfl,by rw[hob];rfl⟩
 have infOut: ∀i,i∈con.outS.objs.map (·.1)++con.cst->uj (infO (hOut con a.2 b.2) i) (infO (aft h res.up) (f i)):=by
  intro i hi;cases hb2:lk b.2 i with
  |some o=>
   have:hOut con a.2 b.2 i=some o:=by simp only[hOut,hb2]
   exact .inl (by rw[infB i o hb2,Zd this])
  |none=>
   rcases Vb.1 hi with hi|hi
   ·rw[<-hkout]at hi;obtain⟨w,hw⟩:=Zq hi;rw[hb2]at hw;cases hw
   ·have hip:i<p:=Jc.1 (w4 i hi);obtain⟨o',k1,_⟩:=inAt i hip;have hcst:=ZN.2 hi;have:hOut con a.2 b.2 i=some o':=by simp only[hOut,hb2,k1,hcst,Ca]
    exact .inl (by rw[infC i hip hcst,Zd this,Zd k1])
 obtain⟨rf1,rf2⟩:=WA (P:=P) hI con.outS y;rw[hbb]at rf1 rf2;obtain⟨ri1,ri2⟩:=WA (P:=P) hI con.inS x;rw[ha]at ri1 ri2;have hval:trL ρ (aft h res.up) (lkE X st) res.val=valOf (b.1.map (trT (fun i=>ρ (f i)) (hOut con a.2 b.2))):=by
  rw[hvalE];have hmap:b.1.map (fun t=>trT ρ (aft h res.up) (rnET f t))=b.1.map (trT (fun i=>ρ (f i)) (hOut con a.2 b.2)):=Sa fun t ht=>zBG (fun i _=>rfl) (fun i hi=>infOut i (w3a i (rf1 t ht i hi)));cases hb1:b.1 with
  |nil=>rfl
  |cons t r=>
   cases r with
   |nil=> rw[hb1]at hmap;simp only[Va,Ic,List.cons.injEq,and_true]at hmap;simp only[Va,Ic,resE,trL,valOf,hmap]
   |cons t2 r=> rw[hb1]at hmap;simp only[Va,resE,trL,valOf,Sb]at hmap ⊢;simp only[jh,hmap]
 have hBup:(b.2.map fun o=>(ρ (f o.1),trO P ρ (aft h res.up) (rnEO f o.2)))=b.2.map fun o=>(ρ (f o.1),trO P (fun i=>ρ (f i)) (hOut con a.2 b.2) o.2):=Sa fun o ho=>by rw[EK (P:=P) (ρ:=ρ) (ρ':=fun i=>ρ (f i)) (h':=hOut con a.2 b.2) (fun i _=>rfl) (fun i hi=>infOut i (w3b i (rf2 o ho i hi)))]
 have hSup: ∀i o',lk a.2 i=some o'->trO P ρ (aft h res.up) (rnEO f o')=trO P (fun i=>ρ (f i)) (lk a.2) o':=by intro i o' ho';refine EK (fun i _=>rfl) (fun j hj=>infL j ?_);have:=w2b j (ri2 (i,o') (Zi ho') j hj);rw[w1,Lb]at this;exact Jc.1 this
 generalize hL:(con.inS.objs.filter fun o=> !(memN o.1 con.cst||memN o.1 (con.outS.objs.map (·.1))))=L at*;have htrU:trU P ρ (aft h res.up) res.up=(b.2.map fun o=>(ρ (f o.1),trO P (fun i=>ρ (f i)) (hOut con a.2 b.2) o.2))++((L.map fun o=>(ρ (f o.1),none))++(Ig h m con.cst a.2).map fun o=>(ρ (f o.1),trO P ρ (aft h res.up) (rnEO f o.2))):=by
  have:trU P ρ (aft h res.up) res.up=trU P ρ (aft h res.up) (b.2.map (fun o=>(f o.1,rnEO f o.2))++((L.map fun o=>(o.1,Oh (h (f o.1)))).map (fun o=>(f o.1,o.2))++(Ig h m con.cst a.2).map (fun o=>(f o.1,rnEO f o.2)))):=by rw[<-hup]
  rw[this];simp only[trU,lc,Sb];rw[<-hBup];have hd: ∀o,trO P ρ (aft h res.up) (Oh o)=none:=by intro o;unfold Oh;split<;>rfl
  simp only[jh,hd]
 have hLp: ∀o∈L,o.1<p:=by intro o ho;rw[<-hL]at ho;exact hids o (Jd.1 ho).1
 refine⟨(List.range p).filterMap fun i=>((h (f i)).bind (trO P ρ h)).map fun ob=>(ρ (f i),ob),?_,fun q hq=> ?_,fun q hq=> ?_,fun q hq=> ?_⟩
 ·rw[hval,htrU];refine hcall.wk (by rw[Ab,Ab];exact l3.symm) (fun j u v hu hv'=> ?_) (fun get hget=> ?_)
  ·rw[ja]at hu hv';cases hj:as[j]? with
   |none=>rw[hj]at hu;cases hu
   |some u0=>
    cases hj2:a.1[j]? with
    |none=>rw[hj2]at hv';cases hv'
    |some v0=> rw[hj]at hu;rw[hj2]at hv';cases hu;cases hv';exact l4 ρ (fun i=>ρ (f i)) h (lk a.2) (fun _=>False) hcmp j u0 v0 hj hj2
  ·-- the objects as the contract sees them
   have obs: ∀i,i<p-> ∃o o' ob ob',h (f i)=some o/\lk a.2 i=some o'/\trO P ρ h o=some ob/\trO P (fun i=>ρ (f i)) (lk a.2) o'=some ob'/\WkOZ (fun _=>False) ob ob'/\get (ρ (f i))=some ob/\(∀t l,o= .sl t l->o'= .sl t l):=by intro i hi;obtain⟨c,o,o',k1,k2,k3,k4,k5,k6,k7⟩:=act i hi;obtain⟨ob,ob',q1,q2,q3⟩:=k7 (fun i=>ρ (f i)) (lk a.2) hcmp;have hfc:=fin i c hi k2;refine⟨o,o',ob,ob',by rw[hfc];exact k3,k1,q1,q2,q3,?_,k5⟩;refine hget (ρ (f i),ob) (Ud.2 ⟨i,Jc.2 hi,?_⟩);rw[hfc,k3];simp only[Aa,q1,Bb]
   let F1:Nat->Option OB:=fun i=>(lk a.2 i).bind (trO P (fun i=>ρ (f i)) (lk a.2))
   have F1at: ∀i o' ob',lk a.2 i=some o'->trO P (fun i=>ρ (f i)) (lk a.2) o'=some ob'->F1 i=some ob':=fun i o' ob' h1 h2=>by simp only[F1,h1,Aa,h2]
   have g1at: ∀i,i<p->upd get ((List.range p).map fun i=>(ρ (f i),F1 i)) (ρ (f i))=F1 i:=fun i hi=>yJ (v:=F1) (Jc.2 hi) (fun j hj e=>hρf j i (Jc.1 hj) hi e);have g1out: ∀id,(∀i,i<p->ρ (f i)≠id)->upd get ((List.range p).map fun i=>(ρ (f i),F1 i)) id=get id:=fun id hid=>si (by
    intro hm;simp only[Sb,Ma,Jc,Function.comp]at hm;obtain⟨i,hi,e⟩:=hm;exact hid i hi e)
   refine⟨upd get ((List.range p).map fun i=>(ρ (f i),F1 i)),fun q hq=> ?_,fun id=> ?_,?_⟩
   ·obtain⟨⟨i,o'⟩,h1,h2⟩:=Ud.1 hq;have hi:i<p:=by have:i∈a.2.map (·.1):=Ma.2 ⟨_,h1,rfl⟩;rw[hkin,w1]at this;exact Jc.1 this
    cases hob:trO P (fun i=>ρ (f i)) (lk a.2) o' with
    |none=>simp only[hob]at h2;cases h2
    |some ob'=> simp only[hob,Bb,Option.some.injEq]at h2;subst h2;show upd get _ (ρ (f i))=some ob';rw[g1at i hi];exact F1at i o' ob' (Hl hknd h1) hob
   ·by_cases hex: ∃i,i<p/\ρ (f i)=id
    ·obtain⟨i,hi,rfl⟩:=hex;obtain⟨o,o',ob,ob',q1,q2,q3,q4,q5,q6,_⟩:=obs i hi;exact .inr ⟨ob,ob',q6,by rw[g1at i hi];exact F1at i o' ob' q2 q4,q5⟩
    ·rw[g1out id (fun i hi e=>hex ⟨i,hi,e⟩)];cases hg:get id with
     |none=>exact .inl ⟨rfl,rfl⟩
     |some o=>exact .inr ⟨o,o,rfl,rfl,WkOZ.refl o⟩
   ·funext id;rw[<-Ec,yw get];by_cases hkey:id∈((b.2.map fun o=>(ρ (f o.1),trO P (fun i=>ρ (f i)) (hOut con a.2 b.2) o.2))++(L.map fun o=>(ρ (f o.1),(none:Option OB)))).map (·.1)
    ·exact xJ hkey
    ·rw[si hkey,si hkey];by_cases hex: ∃i,i<p/\ρ (f i)=id
     ·obtain⟨i,hi,rfl⟩:=hex;obtain⟨o,o',ob,ob',q1,q2,q3,q4,q5,q6,q7⟩:=obs i hi;have hcst:memN i con.cst=true:=by
       cases hcst:memN i con.cst with
       |true=>rfl
       |false=>
        exfalso;apply hkey;rw[lc];cases hno:memN i (con.outS.objs.map (·.1))with
        |true=> have:=ZN.1 hno;rw[<-hkout]at this;obtain⟨z,hz,e⟩:=Ma.1 this;refine Ld _ (Ma.2 ⟨_,Ma.2 ⟨z,hz,rfl⟩,?_⟩);simp only[e]
        |false=>
         have hmi:i∈con.inS.objs.map (·.1):=by rw[w1];exact Jc.2 hi
         obtain⟨z,hz,e⟩:=Ma.1 hmi;refine je _ (Ma.2 ⟨_,Ma.2 ⟨z,?_,rfl⟩,?_⟩)
         ·rw[<-hL];refine Jd.2 ⟨hz,?_⟩;simp only[e,hcst,hno];rfl
         ·simp only[e]
      rw[g1at i hi,F1at i o' ob' q2 q4];by_cases hs:i∈(Ig h m con.cst a.2).map (·.1)
      ·obtain⟨os,hos⟩:=Zq hs;have hoa:=(seenAt i os hos).1;rw[q2]at hoa;cases hoa
       -- the first entry of that number
       have: ∀(l:EHeap I.C),(∀z∈l,lk a.2 z.1=some z.2)->i∈l.map (·.1)->upd get (l.map fun o=>(ρ (f o.1),trO P ρ (aft h res.up) (rnEO f o.2))) (ρ (f i))=some ob':=by
        intro l
        induction l with
        |nil=>intro _ hm;cases hm
        |cons z r ih=>
         intro hz hm;simp only[Va,upd];by_cases e:ρ (f i)=ρ (f z.1)
         ·rw[Na e];have hzlt:z.1<p:=by have:=hz z (Dc ..);have hk:z.1∈a.2.map (·.1):=Ma.2 ⟨_,Zi this,rfl⟩;rw[hkin,w1]at hk;exact Jc.1 hk
          have e2:=hρf i z.1 hi hzlt e;have hz1:=hz z (Dc ..);rw[<-e2,q2]at hz1;cases hz1;rw[hSup i _ q2];exact q4
         ·rw[Ka e];refine ih (fun z hz'=>hz z (Xb _ hz')) ?_;simp only[Va,Jb]at hm;exact hm.resolve_left (fun e3=>e (by rw[e3]))
       rw[this _ (fun z hz=>Hl hknd (hseen a.2 z hz).1) hs]
      ·have hnot:ρ (f i) ∉ ((Ig h m con.cst a.2).map fun o=>(ρ (f o.1),trO P ρ (aft h res.up) (rnEO f o.2))).map (·.1):=by
        intro hm;rw[Sb]at hm;obtain⟨z,hz,e⟩:=Ma.1 hm;have hz1:=(hseen a.2 z hz).1;have hzlt:z.1<p:=by have hk:z.1∈a.2.map (·.1):=Ma.2 ⟨_,hz1,rfl⟩;rw[hkin,w1]at hk;exact Jc.1 hk
        have:=hρf z.1 i hzlt hi e;exact hs (Ma.2 ⟨z,hz,this⟩)
       rw[si hnot,q6];congr 1;rcases trk i o hi q1 with⟨t,l,rfl⟩|⟨ty,cs,rfl⟩
       ·rw[q7 t l rfl]at q4;have:some ob=some ob':=by rw[<-q3,<-q4];rfl
        injection this with this;exact this.symm
       ·refine zDh q5 ?_;simp only[trO,Option.some.injEq]at q3;subst q3;intro row hrow z hz;simp only[Oa]at hrow;subst hrow;obtain⟨v,hv1,rfl⟩:=Ma.1 hz;refine vU ?_;cases hnv:Rq v with
        |false=>rfl
        |true=> exfalso;exact hs (hseen2 a.2 i o' (Zi q2) hcst hi ⟨ty,cs,q1,List.any_eq_true.2 ⟨v,hv1,hnv⟩⟩)
     ·rw[g1out id (fun i hi e=>hex ⟨i,hi,e⟩)];have hnot:id ∉ ((Ig h m con.cst a.2).map fun o=>(ρ (f o.1),trO P ρ (aft h res.up) (rnEO f o.2))).map (·.1):=by
       intro hm;rw[Sb]at hm;obtain⟨z,hz,e⟩:=Ma.1 hm;have hz1:=(hseen a.2 z hz).1;have hzlt:z.1<p:=by have hk:z.1∈a.2.map (·.1):=Ma.2 ⟨_,hz1,rfl⟩;rw[hkin,w1]at hk;exact Jc.1 hk
       exact hex ⟨z.1,hzlt,e⟩
      rw[si hnot]
 ·obtain⟨i,hi,h2⟩:=Ud.1 hq;cases ho:h (f i)with
  |none=>rw[ho]at h2;cases h2
  |some o=>
   rw[ho]at h2;cases hob:trO P ρ h o with
   |none=>simp only[Aa,hob]at h2;cases h2
   |some ob=> simp only[Aa,hob,Bb,Option.some.injEq]at h2;subst h2;have:=hv.heap (f i) o (by rw[hh];exact ho);rw[hh,hob]at this;exact this
 ·obtain⟨i,hi,h2⟩:=Ud.1 hq;have hi:=Jc.1 hi;obtain⟨c,o,o',k1,k2,k3,_⟩:=act i hi;have hfc:=fin i c hi k2;have hq1:q.1=ρ c:=by
   rw[hfc]at h2;cases hob:(h c).bind (trO P ρ h)with
   |none=>rw[hob]at h2;cases h2
   |some ob=>rw[hob]at h2;simp only[Bb,Option.some.injEq]at h2;rw[<-h2]
  rw[hq1,hrdE];exact Ma.2 ⟨c,Ud.2 ⟨(i,some c),Zi k2,rfl⟩,rfl⟩
 ·rw[hup]at hq;have newNone: ∀i,p<=i->h (f i)=none:=by
   intro i hi;cases hn1:h (f i)with
   |none=>rfl
   |some o=> have:=(hv.wfh _ o (by rw[hh];exact hn1)).1;rw[fout i hi]at this;omega
  rcases Vb.1 hq with hq|hq
  ·obtain⟨⟨i,o⟩,ho,rfl⟩:=Ma.1 hq;rcases Gc i p with hi|hi
   ·obtain⟨_,_,s,g1,g2⟩:=outCst i (Ma.2 ⟨_,ho,rfl⟩) hi;obtain⟨ty,cs,g3⟩:=inCells i hi s g1 g2;obtain⟨ty2,cs2,g4⟩:=outCells i o ho hi;obtain⟨_,ob,hob⟩:=flt i hi;refine .inr ⟨ob,hob, .inl ?_⟩;have h1:=infIn i hi;rw[Zd hob,Zd g3]at h1;simp only[OA,h1,g4];rfl
   ·exact .inl (newNone i hi)
  ·rcases Vb.1 hq with hq|hq
   ·obtain⟨z,hz,rfl⟩:=Ma.1 hq;obtain⟨w,hw,rfl⟩:=Ma.1 hz;have hi:=hLp w hw;obtain⟨_,ob,hob⟩:=flt w.1 hi;refine .inr ⟨ob,hob,?_⟩;simp only[hob];rcases trk w.1 ob hi hob with⟨t,l,rfl⟩|⟨ty,cs,rfl⟩
    ·exact .inl rfl
    ·exact .inr ⟨rfl,rfl⟩
   ·obtain⟨z,hz,rfl⟩:=Ma.1 hq;have hz1:=(hseen a.2 z hz).1;have hi:z.1<p:=by have hk:z.1∈a.2.map (·.1):=Ma.2 ⟨_,hz1,rfl⟩;rw[hkin,w1]at hk;exact Jc.1 hk
    obtain⟨_,ob,hob⟩:=flt z.1 hi;refine .inr ⟨ob,hob, .inl ?_⟩;have h1:=infIn z.1 hi;rw[Zd hob,Zd (Hl hknd hz1)]at h1;simp only[OA,h1]
end
section
variable {P:Program} {I:Ip} {X:Cx I} {ρ:Nat->Nat} {G:Get} {st:ES I.C} {e:Env} {lh:LH} {q:Path} {R:Type} {r0:R} {K:Kt I R} {nt:Nat} {ops:List Oper}
def gOf(X:Cx I)(st:ES I.C)(q:Path):Option Bool:=match q with|[]=>none|q=>some (qH (lkE X st) q)
theorem yA{c:Nat×Bool}{r:Path}:gOf X st (c::r)=some (qH (lkE X st) (c::r)):=rfl
theorem wZ(hv:Vw P X ρ G st e lh){g:Option (Nat×Bool)}(hg:guardE X ops st g=some q):qR ops e g=some (gOf X st q):=by
 unfold guardE at hg;split at hg
 ·cases hg;rfl
 ·rename_i j want;split at hg
  ·rename_i o ho;split at hg
   ·rename_i d hd;simp only[qR,ho,Aa,hd];rw[hv.env d];split at hg
    ·rename_i b hl;cases hg;simp only[hl,trL,trT,trV,pvE,yA,qH,xg];cases want<;>cases b<;>rfl
    ·rename_i ks b hl;cases hg;simp only[hl,trL,trT,trV,pvE,yA];cases ks with
     |nil=>simp only[qH,xg,hl];cases want<;>cases b<;>rfl
     |cons c r=>
      have:qH (lkE X st) ((d,want)::c::r)=(litB want b&&qH (lkE X st) (c::r)):=by simp only[qH,xg,hl]
      rw[this];cases qH (lkE X st) (c::r)<;>cases want<;>cases b<;>rfl
    ·cases hg
   ·cases hg
  ·cases hg
theorem OpOK.rd_mono{o:Oper}{s:TS}{g:Option Bool}{val:LV}{up:List (Nat×Option OB)}{rd c:List Nat}{nx k:Nat}(h:OpOK P nt ops o ⟨g,val,up,rd,nx,k⟩ s)(r: ∀i∈rd,i∈c):OpOK P nt ops o ⟨g,val,up,c,nx,k⟩ s:=
 ⟨h.dst,h.nx,fun m a w p b N f l j t n d=>h.run m a w p b N f l j t (fun id hid=>n id (hid.imp (r id) (fun h=>h))) d⟩
theorem OM(b:Vw P X ρ G st e lh)(a:q=[]\/qH (lkE X st) q=true): ∀(xs:List Operand) (as:List (ET I.C)),allE q (xs.map (opdE X st))=some as->allT (xs.map (opd (Zn e)))=some (true,as.map (trT ρ (lkO X st)))
 |[],as,h=>by simp only[Ic,allE,Option.some.injEq]at h;subst h;rfl
 |x::r,as,h=>by
  simp only[Va,allE]at h;split at h
  ·rename_i t l d c;cases h;simp only[Va,allT,Cr b a x t d,OM b a r l c,Ob]
  ·cases h
theorem zdN.full {f:FuncId} {as bs:List TV} {rd:List (Nat×OB)} {nx k:Nat} {val:LV} {up:List (Nat×Option OB)} (h:zdN P f bs rd nx k val up) (g:as.length=bs.length)
  (x: ∀(j:Nat) (t:TV),as[j]? =some t-> ∃c,bs[j]? =some c/\ ∀ι w u,repT ι w t u->repT ι w c u):zdN P f as rd nx k val up:=
 ⟨h.fn,fun ι b w N s m p n l v=>h.ok ι b w N s m p n ⟨l.1.trans g,fun j c a=>by
  have d:j<as.length:=by rw[g];exact(Ga.1 a).1
  obtain⟨z,i,y⟩:=x j _ (Ja d);rw[a]at i;cases i;obtain⟨u,r,o⟩:=l.2 j _ (Ja d)
  grind⟩ v⟩
theorem zBJ{ρ:Nat->Nat}{h:Nat->Option (EO I.C)}{a:ET I.C}{ι:Asg}{w:World}{u:Value}(hu:repT ι w (trT ρ h a) u):repT ι w (trT ρ h (unF a)) u:=by
 unfold unF;split
 ·exact⟨hu.1,hu.2.1⟩
 ·exact hu
theorem gN{h:Nat->Option (EO I.C)}{n f:Nat}{as:List (ET I.C)}{g:Bool}(d:q=[]\/g=true): ∀{S:List (Con I)},ll h n f as q g K S=some r0-> ∃con∈S,con.f=f/\ ∃x m y,(con.inS.sl I).mat as (nrmH h) []=some (x,m)/\(m.all fun z=>Nat.blt z.1 con.inS.objs.length)=true/\Fg m=[]/\con.F x=some y/\K (kg con h n m x y)=some r0
 |[],b=>by cases b
 |con::r,b=>by
  simp only[ll]at b;have i:ll h n f as q g K r=some r0-> ∃a∈con::r,a.f=f/\ ∃x m y,(a.inS.sl I).mat as (nrmH h) []=some (x,m)/\(m.all fun z=>Nat.blt z.1 a.inS.objs.length)=true/\Fg m=[]/\a.F x=some y/\K (kg a h n m x y)=some r0:=by intro k;obtain⟨c,j,l⟩:=gN d k;exact⟨c,Xb _ j,l⟩
  cases o:Nat.beq con.f f with
  |false=>grind
  |true=>
   rw[o]at b;simp only[Ca]at b;split at b
   ·rename_i x m p;refine⟨con,Dc ..,Fb o,x,m,?_⟩;unfold Jz at b;cases t:m.all fun z=>Nat.blt z.1 con.inS.objs.length with
    |false=>grind
    |true=>
     rw[t]at b;simp only[Ca]at b;split at b
     case h_2=>cases b
     rename_i s;split at b
     ·obtain⟨y,k,j⟩:=Da.1 b
      grind
     ·obtain⟨_,k⟩:=zm b;obtain⟨y,j,l⟩:=Da.1 k;rcases d with d|d
      ·simp_all
      ·subst d;exact⟨y,p,rfl,s,j,l⟩
     ·rcases d with d|d
      ·simp_all
      ·subst d;simp only[Ca]at b;obtain⟨y,j,l⟩:=Da.1 b
       grind
   ·exact i b
def roOf(P:Program)(X:Cx I)(ρ:Nat->Nat)(st:ES I.C)(lh:LH)(q:Path)(res:OR I.C):RO:=
 ⟨gOf X st q,trL ρ (aft (lkO X st) res.up) (lkE X st) res.val,trU P ρ (aft (lkO X st) res.up) res.up,res.rd.map ρ,lh.next,res.k⟩
theorem aF(h:Nat->Option (EO I.C))(up:EHeap I.C):(trU P ρ h up).map (·.1)=up.map fun p=>ρ p.1:=by simp[trU,Sb]
theorem KE(hI:IpOK P I)(hT:TOK P X.T X.fk){S:List (Con I)}(hS: ∀c∈S,zl P c)(hv:Vw P X ρ G st e lh){fz:Nat}{o:Oper}(hg:guardE X ops st o.guard=some q)(h0:opE X S fz st q (qH (lkE X st) q) o.op K=some r0):
  ∃res,K res=some r0/\((∀d,o.dst=some d->d<nt)->OpOK P nt ops o (roOf P X ρ st lh q res) ⟨e,lh.get,lh.next⟩)/\Jq (lkO X st) res.up/\(gOf X st q=some false->res.up=[]):=by
 have hgv:=wZ hv hg;by_cases hq:q=[]\/qH (lkE X st) q=true
 ·have hgne:gOf X st q≠some false:=by
   cases q with
   |nil=>simp[gOf]
   |cons c r=>
    rcases hq with hq|hq
    ·cases hq
    ·rw[yA,hq];simp
  by_cases hnc: ∀c f,o.op= .call c->c.callee≠ .value f
  ·obtain⟨res,h1,h2,h3⟩:=zDi hI hT hv hq hnc h0;refine⟨res,h1,fun hd=> ?_,h2.inf,fun hf=>absurd hf hgne⟩;unfold roOf;refine FN (s:=⟨e,lh.get,lh.next⟩) (k:=res.k) hgv hd fun _=>⟨h2.pre,fun ι w get' v w' hn hgd=>h2.good ι w get' v w' hn hgd,fun id hid=> ?_,h3⟩;rcases h2.rd id hid with h|h
   ·exact .inl h
   ·exact .inr (by rw[aF];exact h)
  ·have: ∃c cf,o.op= .call c/\c.callee= .value cf:=by apply Classical.byContradiction;intro hno;exact hnc fun c f h1 h2=>hno ⟨c,f,h1,h2⟩
   obtain⟨c,cf,ho,hcc⟩:=this;rw[ho]at h0;simp only[opE,hcc]at h0;obtain⟨fc,h1,h2⟩:=zk h0;obtain⟨as,h3,h4⟩:=zk h2;obtain⟨con,c1,c2,x,m,y,d1,d2,d3,d4,d5⟩:=gN hq h4;obtain⟨rd0,k1,k2,k3,k4⟩:=YZ hI hv (hS con c1) d1 d2 d3 d4;refine⟨_,d5,fun hd=> ?_,k4,fun hf=>absurd hf hgne⟩;obtain⟨f,caps⟩:=fc;have hcl:useE q (opdE X st cf)=some (.c (.clo f caps)):=by
    unfold cloE at h1;split at h1
    ·grind
    ·cases h1
   -- at the place, by values that are there
   have hun:=Cr hv hq cf _ hcl;have hall:=OM hv hq _ _ h3;have k1:=k1.full (as:=(as++caps.map capE).map (trT ρ (lkO X st))) (by simp) (fun j t ht=>by
    rw[lc]at ht ⊢;by_cases hj:j<as.length
    ·rw[Kc (by simpa using hj)]at ht;rw[Kc (by simpa using hj),Sb,ja];rw[ja]at ht;obtain⟨a,ha,rfl⟩:=Cc.1 ht;exact⟨_,by rw[ha];rfl,fun ι w u hu=>zBJ hu⟩
    grind)
   have hmap:(as++caps.map capE).map (trT ρ (lkO X st))=as.map (trT ρ (lkO X st))++(caps.map fun q=>(ρ q.1,q.2)).map capT:=by rw[lc,Sb,Sb];rfl
   rw[hmap]at k1;simp only at c2;rw[c2]at k1;have hcall:=C8 (nt:=nt) (ops:=ops) (o:=o) (s:=⟨e,lh.get,lh.next⟩) (g:=gOf X st q) (c:=c) (cf:=cf) (f:=f) (caps:=caps.map fun q=>(ρ q.1,q.2)) (as:=as.map (trT ρ (lkO X st))) (rd:=rd0) hgv hd ho hcc (by simpa [trT,trV] using hun) hall k1 k2;refine hcall.rd_mono fun i hi=> ?_
   grind
 ·have hq1:q≠[]:=fun h=>hq (.inl h);have hq2:qH (lkE X st) q=false:=by
   cases hb:qH (lkE X st) q with
   |false=>rfl
   |true=>grind
  have hgf:gOf X st q=some false:=by
   cases q with
   |nil=>grind
   |cons c r=>rw[yA,hq2]
  obtain⟨res,h1,h2⟩:=zBp (.inr hq2) h0;have hu:res.up=[]:=h2.resolve_left hq1;refine⟨res,h1,fun hd=> ?_,fun p hp=>(by grind),fun _=>hu⟩;rw[hgf]at hgv;unfold roOf;rw[hgf];exact FN (s:=⟨e,lh.get,lh.next⟩) hgv hd fun h=>absurd rfl h
end
section
variable {P:Program} {I:Ip} {X:Cx I} {ρ:Nat->Nat} {G:Get} {st:ES I.C} {e:Env} {lh:LH} {q:Path} {nt:Nat} {ops:List Oper}
theorem MB{n m:Nat}(h:n<=m){x:EV I.C}(a:wfV n x=true):wfV m x=true:=by
 cases x<;>simp only[wfV]at a ⊢
 case own id=>exact ZZ.2 (ib (ZZ.1 a) h)
 case osl id _ _=>exact ZZ.2 (ib (ZZ.1 a) h)
 case optr id _ _=>exact ZZ.2 (ib (ZZ.1 a) h)
 case mref id=>exact ZZ.2 (ib (ZZ.1 a) h)
 case clo f caps=> rw[Ua]at a ⊢;exact fun q b=>ZZ.2 (ib (ZZ.1 (a q b)) h)
theorem TF{n m:Nat}(h:n<=m){x:ET I.C}(a:wfT n x=true):wfT m x=true:=by
 cases x with
 |c x=>exact MB h a
 |agg d=> simp only[wfT,Ua]at a ⊢;exact fun v b=>MB h (a v b)
theorem dL{n m:Nat}(h:n<=m){x:EL I.C}(a:wfL n x=true):wfL m x=true:=by
 cases x with
 |any=>rfl
 |v t=>exact TF h a
 |opt c t=>exact TF (x:=t) h a
 |tup d=> simp only[wfL,Ua]at a ⊢;exact fun t b=>TF h (a t b)
theorem UF{n m:Nat}(h:n<=m){x:EO I.C}(a:wfO n x=true):wfO m x=true:=by
 cases x with
 |cells d c=> simp only[wfO,Ua]at a ⊢;exact fun v b=>MB h (a v b)
 |slo t f c g=> simp only[wfO,Ua]at a ⊢;exact fun v b=>MB h (a v b)
 |_=>rfl
theorem rz{h h':Nat->Option (EO I.C)}{n:Nat}(hi: ∀id,id<n->uj (infO h id) (infO h' id)){x:EV I.C}(a:wfV n x=true):trV ρ h' x=trV ρ h x:=by
 refine FC (n:=n) (fun _ _=>rfl) (fun id hid=> ?_) a;rcases hi id hid with b|⟨b,c⟩
 ·grind
 grind
theorem dF{h h':Nat->Option (EO I.C)}{n:Nat}(hi: ∀id,id<n->uj (infO h id) (infO h' id)){x:ET I.C}(a:wfT n x=true):trT ρ h' x=trT ρ h x:=by
 cases x with
 |c x=>exact congrArg TV.c (rz hi a)
 |agg d=> simp only[wfT,Ua]at a;simp only[trT];congr 1;exact Sa fun v b=>rz hi (a v b)
theorem RV{h h':Nat->Option (EO I.C)}{n:Nat}(hi: ∀id,id<n->uj (infO h id) (infO h' id)){o:EO I.C}(a:wfO n o=true):trO P ρ h' o=trO P ρ h o:=by
 cases o with
 |cells d c=> simp only[wfO,Ua]at a;simp only[trO];rw[Sa fun v b=>rz hi (a v b)]
 |slo t f c g=> simp only[wfO,Ua]at a;simp only[trO];rw[Sa fun v b=>rz hi (a v b)]
 |_=>rfl
theorem BI{E E':Nat->Option (EL I.C)}: ∀{a:Path},(∀k∈a,xg E' k.1=xg E k.1)->qH E' a=qH E a
 |[],_=>rfl
 |[(t,w)],h=>by simp only[qH,h (t,w) (Dc ..)]
 |(t,w)::c::r,h=>by simp only[qH,h (t,w) (Dc ..)];rw[BI (fun k b=>h k (Xb _ b))]
theorem SV{h h':Nat->Option (EO I.C)}{E E':Nat->Option (EL I.C)}{n:Nat}(hi: ∀id,id<n->uj (infO h id) (infO h' id)){x:EL I.C}(b:wfL n x=true)(c: ∀a t,x= .opt a t-> ∀k∈a,xg E' k.1=xg E k.1):trL ρ h' E' x=trL ρ h E x:=by
 cases x with
 |any=>rfl
 |v t=>exact congrArg LV.v (dF hi b)
 |opt a t=> simp only[trL];rw[BI (c a t rfl),dF hi (x:=t) b]
 |tup f=> simp only[wfL,Ua]at b;simp only[trL];congr 1;exact Sa fun t d=>dF hi (b t d)
theorem aH{d:Nat}: ∀{l:EEnv I.C},Dn d l=true-> ∀t a x,(t,EL.opt a x)∈l-> ∀k∈a,k.1≠d
 |[],_,t,a,x,h=>by cases h
 |p::r,b,t,a,x,h=>by
  obtain⟨c,y⟩:=p;rcases Jb.1 h with h|h
  ·cases h;simp only[Dn]at b;simp_all
  ·refine aH (l:=r) ?_ t a x h;cases y<;>simp only[Dn]at b<;>first|exact b|skip
   grind
def PN(X:Cx I)(st:ES I.C)(id:Nat):Prop:=(∃o,lkO X st id=some o)\/st.next<=id
theorem Vw.pinj(a:Vw P X ρ G st e lh){i j:Nat}(hi:PN X st i)(c:PN X st j)(k:ρ i=ρ j):i=j:=by
 rcases hi with⟨o,g⟩|hi<;>rcases c with⟨f,b⟩|c
 ·exact a.inj i j o f g b k
 ·have d:=a.lt i (a.wfh i o g).1;have h:=a.up j c;omega
 ·have d:=a.lt j (a.wfh j f b).1;have h:=a.up i hi;omega
 ·have d:=a.up i hi;have h:=a.up j c;omega
theorem Oo{o:Oper}{res:OR I.C}:lkO X (Bi o q st res)=aft (lkO X st) res.up:=by
 funext id;simp only[lkO,Bi,aft,qz]
 grind
theorem fA{o:Oper}{res:OR I.C}(t:Nat):lkE X (Bi o q st res) t=if o.dst=some t then some (putL q res.val)else lkE X st t:=by
 simp only[lkE,Bi];cases a:o.dst with
 |none=>simp
 |some d=>
  simp only[Option.some.injEq];rw[Zm]
  grind
theorem yz(hv:Vw P X ρ G st e lh){o:Oper}{res:OR I.C}(hok:Ij X nt o q st res=true)(hinf:Jq (lkO X st) res.up)(hgf:gOf X st q=some false->res.up=[]):
  Vw P X ρ G (Bi o q st res) (put e o.dst (roOf P X ρ st lh q res).v) ⟨lh.next+res.k,upd lh.get (roOf P X ρ st lh q res).u⟩:=by
 simp only[Ij,Fa]at hok;obtain⟨⟨⟨⟨k1,k2⟩,k3⟩,k4⟩,k5⟩:=hok;have hup: ∀p∈res.up,p.1<st.next+res.k/\wfO (st.next+res.k) p.2=true/\lk X.frh p.1=none/\PN X st p.1:=by
  intro p hp;have:=Ua.1 k4 p hp;simp only[Fa]at this;obtain⟨⟨⟨a1,a2⟩,a3⟩,a4⟩:=this;refine⟨ZZ.1 a1,a2,?_,?_⟩
  ·grind
  ·cases hl:lkO X st p.1 with
   |some o=>exact .inl ⟨o,hl⟩
   |none=>rw[hl]at a4;exact .inr (Bc a4)
 have hkeep: ∀id,id<st.next->uj (infO (lkO X st) id) (infO (aft (lkO X st) res.up) id):=by
  intro id hid;cases hl:lk res.up id with
  |none=> refine .inl ?_;simp only[infO,aft,hl]
  |some o'=>
   have hm:=Zi hl;have hat:aft (lkO X st) res.up id=some o':=by simp only[aft,hl]
   rw[Zd hat];rcases hinf _ hm with h1|⟨o0,h1,h2⟩
   ·rcases(hup _ hm).2.2.2 with⟨o,ho⟩|hle
    ·grind
    grind
   ·rw[Zd h1];exact h2
 have hboolE: ∀k,(∀d,o.dst=some d->k≠d)->xg (lkE X (Bi o q st res)) k=xg (lkE X st) k:=by intro k hk;simp only[xg,fA];rw[Ka (fun h=>hk k h rfl)]
 have hu:upd lh.get (roOf P X ρ st lh q res).u=upd lh.get (trU P ρ (aft (lkO X st) res.up) res.up):=by
  unfold RO.u roOf;simp only;cases hg:gOf X st q with
  |none=>rfl
  |some b=>
   cases b with
   |true=>rfl
   |false=>rw[hgf hg];rfl
 have hat: ∀id,PN X st id->upd lh.get (trU P ρ (aft (lkO X st) res.up) res.up) (ρ id)=(match lk res.up id with|some o=>trO P ρ (aft (lkO X st) res.up) o|none=>lh.get (ρ id)):=by
  intro id hid;have: ∀(l:EHeap I.C),(∀p∈l,PN X st p.1)->upd lh.get (trU P ρ (aft (lkO X st) res.up) l) (ρ id)=(match lk l id with|some o=>trO P ρ (aft (lkO X st) res.up) o|none=>lh.get (ρ id)):=by
   intro l
   induction l with
   |nil=>intro _;rfl
   |cons p r ih=>
    intro hp;obtain⟨j,o⟩:=p;simp only[trU,Va,upd];rw[Zm];by_cases hij:id=j
    ·grind
    ·rw[Ka hij,Ka (fun e=>hij (hv.pinj hid (hp (j,o) (Dc ..)) e))];exact ih (fun p hp'=>hp p (Xb _ hp'))
  exact this res.up (fun p hp=>(hup p hp).2.2.2)
 have hpres: ∀id o,aft (lkO X st) res.up id=some o->PN X st id:=by
  intro id o ho;simp only[aft]at ho;cases hl:lk res.up id with
  |some o'=>exact(hup _ (Zi hl)).2.2.2
  |none=>rw[hl]at ho;exact .inl ⟨o,ho⟩
 refine⟨fun t=> ?_,fun id ob ho=> ?_,fun i hi=> ?_,fun i j o1 o2 h1 h2 he=> ?_,fun id hid=> ?_,fun id hid=> ?_,fun t x hx=> ?_,fun i ob ho=> ?_,fun i hi=> ?_,fun t x hx=> ?_,fun id ob ho=> ?_⟩
 ·rw[uB,fA,Oo];by_cases hd:o.dst=some t
  ·rw[Na hd,Na hd];simp only;rw[hd]at k1;simp only[Fa]at k1;obtain⟨_,k1e⟩:=k1;have hpq:qH (lkE X (Bi o q st res)) q=qH (lkE X st) q:=BI fun k hk=>hboolE k.1 fun d hd'=>by rw[hd]at hd';cases hd';have:=Ua.1 k1e k hk;intro e;simp_all
   have hval: ∀E,trL ρ (aft (lkO X st) res.up) E res.val=trL ρ (aft (lkO X st) res.up) (lkE X st) res.val:=by
    intro E;cases hrv:res.val with
    |opt ks t=>rw[hrv]at k2;cases k2
    |_=>rfl
   cases q with
   |nil=>exact(hval _).symm
   |cons c r=>
    show optV (qH (lkE X st) (c::r)) (trL ρ (aft (lkO X st) res.up) (lkE X st) res.val)=trL ρ _ _ (putL (c::r) res.val);cases hrv:res.val with
    |any=>rfl
    |v t=> simp only[trL,optV,putL];rw[hpq]
    |opt ks t=>rw[hrv]at k2;cases k2
    |tup ts=>rfl
  ·rw[Ka hd,Ka hd,hv.env t];cases hl:lkE X st t with
   |none=>rfl
   |some x=>
    simp only;refine(SV (n:=st.next) hkeep (hv.wfe t x hl) fun ks t0 hx k hk=>hboolE k.1 fun d hd'=> ?_).symm;rw[hd']at k1;simp only[Fa]at k1;obtain⟨⟨⟨⟨_,n1⟩,n2⟩,_⟩,_⟩:=k1;subst hx;simp only[lkE]at hl;cases hl1:lk st.env t with
    |some y=>rw[hl1]at hl;cases hl;exact aH n1 t ks t0 (Zi hl1) k hk
    |none=>rw[hl1]at hl;exact aH n2 t ks t0 (Zi hl) k hk
 ·rw[Oo]at ho ⊢;simp only[hu];rw[hat id (hpres id ob ho)];simp only[aft]at ho;cases hl:lk res.up id with
  |some o'=>grind
  |none=> rw[hl]at ho;simp only;rw[hv.heap id ob ho];exact(RV (n:=st.next) hkeep (hv.wfh id ob ho).2).symm
 ·obtain⟨g1,g2⟩:=hv.oth i hi;have hne: ∀id,PN X st id->ρ id≠i:=by
   intro id hid e;rcases hid with⟨o,ho⟩|hid
   ·grind
   ·have:=hv.up id hid;have:=hv.glt i hi;omega
  refine⟨?_,fun id ob ho=> ?_⟩
  ·simp only[hu];rw[si,g1];rw[aF]
   grind
  ·rw[Oo]at ho
   grind
 ·rw[Oo]at h1 h2;exact hv.pinj (hpres i o1 h1) (hpres j o2 h2) he
 ·have hid':id<st.next+res.k:=hid;show ρ id<lh.next+res.k;rcases Gc id st.next with h|h
  ·have:=hv.lt id h;omega
  ·have:=hv.up id h;omega
 ·have hid':st.next+res.k<=id:=hid;show ρ id=lh.next+res.k+(id - (st.next+res.k));have:=hv.up id (by omega);omega
 ·obtain⟨f1,f2⟩:=hv.fre t x hx;refine⟨?_,f2⟩;rw[fA]
  grind
 ·rw[Oo];simp only[aft];cases hl:lk res.up i with
  |some o'=>
   have:=(hup _ (Zi hl)).2.2.1
   grind
  |none=>exact hv.fro i ob ho
 ·exact ib (hv.glt i hi) (jc _ _)
 ·rw[fA]at hx;show wfL (st.next+res.k) x=true;split at hx
  ·cases hx;cases q with
   |nil=>exact k3
   |cons c r=>
    cases hrv:res.val with
    |v t=>rw[hrv]at k3;exact k3
    |_=>rfl
  ·exact dL (jc _ _) (hv.wfe t x hx)
 ·rw[Oo]at ho;show id<st.next+res.k/\wfO (st.next+res.k) ob=true;simp only[aft]at ho;cases hl:lk res.up id with
  |some o'=>rw[hl]at ho;cases ho;exact⟨(hup _ (Zi hl)).1,(hup _ (Zi hl)).2.1⟩
  |none=> rw[hl]at ho;obtain⟨h1,h2⟩:=hv.wfh id ob ho;exact⟨ib h1 (jc _ _),UF (jc _ _) h2⟩
end
section
variable {P:Program} {I:Ip} {X:Cx I} {ρ:Nat->Nat} {G:Get} {nt:Nat} {ops:List Oper} {R:Type} {r0:R}
theorem zAD{st:ES I.C}{o:Oper}{q:Path}{res:OR I.C}(b: ∀p∈res.up,PN X st p.1){id:Nat}(h:PN X (Bi o q st res) id):PN X st id:=by
 rcases h with⟨d,a⟩|h
 ·rw[Oo]at a;simp only[aft]at a;cases c:lk res.up id with
  |some e=>exact b _ (Zi c)
  |none=>rw[c]at a;exact .inl ⟨d,a⟩
 ·exact .inr (Eb (jc _ _) h)
theorem XH(hI:IpOK P I)(hT:TOK P X.T X.fk){S:List (Con I)}(hS: ∀c∈S,zl P c){fz:List Nat}{K:ES I.C->List Fp->Option R}: ∀(r:List Oper) (j:Nat) (st:ES I.C) (e:Env) (lh:LH) (fps:List Fp),Vw P X ρ G st e lh->opsE X S fz nt ops j r st fps K=some r0->
  ∃(zs:List (Oper×RO)) (st':ES I.C) (fps':List Fp),zs.map (·.1)=r/\(∀(i:Nat) (o:Oper) (ro:RO),zs[i]? =some (o,ro)->OpOK P nt ops o ro (runA (zs.take i) ⟨e,lh.get,lh.next⟩))/\
   Vw P X ρ G st' (runA zs ⟨e,lh.get,lh.next⟩).e ⟨(runA zs ⟨e,lh.get,lh.next⟩).next,(runA zs ⟨e,lh.get,lh.next⟩).get⟩/\K st' (fps++fps')=some r0/\fps'.length=r.length/\
   (∀(i:Nat) (o:Oper) (ro:RO) (fp:Fp),zs[i]? =some (o,ro)->fps'[i]? =some fp->ro.rd=fp.1.map ρ/\ro.up.map (·.1)=fp.2.map ρ)/\(∀fp∈fps',∀id,(id∈fp.1\/id∈fp.2)->PN X st id)
 |[],j,st,e,lh,fps,hv,h0=>by
  refine⟨[],st,[],rfl,fun i o ro h=>by simp at h,?_,?_,rfl,fun i o ro fp h=>by simp at h,fun fp h=>by simp at h⟩
  ·exact hv
  ·simp only[opsE]at h0
   grind
 |o::r,j,st,e,lh,fps,hv,h0=>by
  simp only[opsE]at h0;split at h0
  ·cases h0
  ·rename_i q hg;obtain⟨res,h1,h2,h3,h4⟩:=KE (nt:=nt) (ops:=ops) hI hT hS hv hg h0;obtain⟨hok,h5⟩:=zm h1;have hv':=yz hv hok h3 h4;have hk:=hok;simp only[Ij,Fa]at hk;obtain⟨⟨⟨⟨k1,k2⟩,k3⟩,k4⟩,k5⟩:=hk;have hd: ∀d,o.dst=some d->d<nt:=by intro d hd;rw[hd]at k1;simp only[Fa]at k1;exact ZZ.1 k1.1.1.1.1
   have hpn: ∀p∈res.up,PN X st p.1:=by
    intro p hp;have:=Ua.1 k4 p hp;simp only[Fa]at this;have a4:=this.2;cases hl:lkO X st p.1 with
    |some o=>exact .inl ⟨o,hl⟩
    |none=>rw[hl]at a4;exact .inr (Bc a4)
   have hpr: ∀i∈res.rd,PN X st i:=by
    intro i hi;have a4:=Ua.1 k5 i hi;cases hl:lkO X st i with
    |some o=>exact .inl ⟨o,hl⟩
    |none=>rw[hl]at a4;exact .inr (Bc a4)
   obtain⟨zs,st',fps',z1,z2,z3,z4,z5,z6,z7⟩:=XH hI hT hS r (j+1) (Bi o q st res) _ _ _ hv' h5;refine⟨(o,roOf P X ρ st lh q res)::zs,st',(res.rd,res.up.map (·.1))::fps',by simp[z1],fun i o' ro hz=> ?_,z3,?_,by simp[z5],fun i o' ro fp hz hf=> ?_,fun fp hfp id hid=> ?_⟩
   ·cases i with
    |zero=> simp only[Td,Option.some.injEq,Prod.mk.injEq]at hz;obtain⟨rfl,rfl⟩:=hz;exact h2 hd
    |succ i=>exact z2 i o' ro (by simpa using hz)
   ·grind
   ·cases i with
    |zero=> simp only[Td,Option.some.injEq,Prod.mk.injEq]at hz hf;obtain⟨rfl,rfl⟩:=hz;subst hf;refine⟨rfl,?_⟩;simp only[roOf,aF,Sb];rfl
    |succ i=>grind
   ·rcases Jb.1 hfp with rfl|hfp
    ·grind
    ·exact zAD hpn (z7 fp hfp id hid)
theorem iM{x y:Oper}(h:Pz ops x y=false):tconf ops x y=false:=by
 have mem: ∀d l,memN d l=false->l.contains d=false:=by intro d l hm;have:=PO hm;simpa using this
 simp only[Pz,Bf]at h;obtain⟨h1,h2⟩:=h;simp only[tconf,Bf];constructor
 ·cases hx:x.dst with
  |none=>rfl
  |some d=>
   rw[hx]at h1;simp only[Bf]at h1 ⊢;refine⟨mem _ _ h1.1,?_⟩;cases hy:y.dst with
   |none=>rfl
   |some e=>
    rw[hy]at h1;have h3:=h1.2;simp only at h3;have:e≠d:=fun he=>by simp_all
    simpa using this
 grind
theorem uM{a b:List Nat}(h:Tn a b=false): ∀i∈a,i ∉ b:=by
 intro i c d;have:Tn a b=true:=List.any_eq_true.2 ⟨i,c,ZN.2 d⟩
 grind
theorem MI{fps:List Fp}: ∀(r:List Oper) (j:Nat) (acc:List (List Nat)),acc.length=j->(∀k,r[k]? =ops[j+k]?)->(∀m i,i∈acc.getD m []->Rch ops i m)->Vq ops fps j r acc=true->
  ∀i k x y a b,ops[i]? =some x->ops[k]? =some y->fps[i]? =some a->fps[k]? =some b->i<k->j<=k->Rch ops i k\/(Pz ops x y=false/\fpB a b=false)
 |[],j,acc,_,hr,_,_,i,k,x,y,a,b,_,hy,_,_,_,hjk=>by
  have:=hr (k - j)
  grind
 |o::r,j,acc,hl,hr,ha,h,i,k,x,y,a,b,hx,hy,hfa,hfb,hik,hjk=>by
  have ho:ops[j]? =some o:=by have:=hr 0;simpa using this.symm
  simp only[Vq,Fa,Ua,Jc]at h;obtain⟨h1,h2⟩:=h;have hcl: ∀i,i∈direct o++(direct o).flatMap (fun i=>acc.getD i [])->Rch ops i j:=by
   intro i hi;rcases Vb.1 hi with hi|hi
   ·exact .dir i j o ho hi
   ·obtain⟨m,hm,hi⟩:=Nb.1 hi;exact .tr i m j o ho hm (ha m i hi)
  rcases og hjk with e|e
  ·subst e;rw[ho]at hy;cases hy;have:=h1 i hik;rw[Me]at this;rcases this with this|this
   ·exact .inl (hcl i (ZN.1 this))
   ·grind
  ·refine MI r (j+1) _ (by simp[hl]) (fun k=> ?_) (fun m i hi=> ?_) h2 i k x y a b hx hy hfa hfb hik e
   ·have:=hr (k+1)
    grind
   ·rw[Wd,Hf]at hi;split at hi
    ·grind
    ·rename_i hm;cases hmj:m - acc.length with
     |zero=>
      rw[hmj]at hi;have:m=j:=by omega
      grind
     |succ n=>grind
theorem sW (hv: ∀fp:Fp,True) {st:ES I.C} {e:Env} {lh:LH} (hV:Vw P X ρ G st e lh) {zs:List (Oper×RO)} {fps:List Fp} (hz:zs.map (·.1)=ops) (hl:fps.length=ops.length)
  (h6: ∀(i:Nat) (o:Oper) (ro:RO) (fp:Fp),zs[i]? =some (o,ro)->fps[i]? =some fp->ro.rd=fp.1.map ρ/\ro.up.map (·.1)=fp.2.map ρ) (h7: ∀fp∈fps,∀id,(id∈fp.1\/id∈fp.2)->PN X st id) (hd:Vq ops fps 0 ops []=true):gu ops zs:=by
 intro i k x y r q hi hk hik;have hx:=Wq hz hi;have hy:=Wq hz hk;have hil:i<fps.length:=by rw[hl];exact(Ga.1 hx).1
 have hkl:k<fps.length:=by rw[hl];exact(Ga.1 hy).1
 have hfa:fps[i]? =some fps[i]:=Ja hil;have hfb:fps[k]? =some fps[k]:=Ja hkl;rcases MI ops 0 [] rfl (fun k=>by simp) (fun m i h=>by simp at h) hd i k x y _ _ hx hy hfa hfb hik (Kb _)with h|⟨h1,h2⟩
 ·exact .inl h
 ·refine .inr ⟨iM h1,?_⟩;obtain⟨a1,a2⟩:=h6 i x r _ hi hfa;obtain⟨b1,b2⟩:=h6 k y q _ hk hfb;have pa:=h7 _ (Ra hfa);have pb:=h7 _ (Ra hfb);simp only[fpB,Bf]at h2;obtain⟨⟨c1,c2⟩,c3⟩:=h2;have dis: ∀{u v:List Nat},Tn u v=false->(∀id∈u,PN X st id)->(∀id∈v,PN X st id)-> ∀z∈u.map ρ,z ∉ v.map ρ:=by intro u v huv hu hv z hz hz2;obtain⟨i1,hi1,rfl⟩:=Ma.1 hz;obtain⟨i2,hi2,e⟩:=Ma.1 hz2;have:=hV.pinj (hv i2 hi2) (hu i1 hi1) e;subst this;exact uM huv i2 hi1 hi2
  refine⟨fun z hz=>⟨?_,?_⟩,fun z hz=> ?_⟩
  ·grind
  ·grind
  ·grind
theorem A9 (o:IpOK P I) (i:TOK P X.T X.fk) {S:List (Con I)} (k: ∀c∈S,zl P c) {j:List Nat} {st:ES I.C} {e:Env} {lh:LH} (p:Vw P X ρ G st e lh) {id:Nat} {a:Array Oper} {K:ES I.C->Option R} {Q:Post}
  (n:opsE X S j nt a.toList 0 a.toList st [] (fun b _=>K b)=some r0)
  (l: ∀b g d,K b=some r0->Vw P X ρ G b g d->Q .normal g d):SW P nt (.region id a false) Q e lh:=by
 obtain⟨s,b,h,f,q,m,r,_⟩:=XH (nt:=nt) (ops:=a.toList) o i k a.toList 0 st e lh [] p n;exact nC (s0:=⟨e,lh.get,lh.next⟩) f ⟨f,q⟩ (l _ _ _ r m)
theorem A7 (f:P.follows .mixedOrders=true) (p:IpOK P I) (o:TOK P X.T X.fk) {S:List (Con I)} (s: ∀c∈S,zl P c) {r:List Nat} {st:ES I.C} {e:Env} {lh:LH} (i:Vw P X ρ G st e lh) {id:Nat} {a:Array Oper} {K:ES I.C->Option R} {Q:Post}
  (w:opsE X S r nt a.toList 0 a.toList st [] (fun b fps=>cond (bE a.toList fps) (K b) none)=some r0)
  (t: ∀b j d,K b=some r0->Vw P X ρ G b j d->Q .normal j d):SW P nt (.region id a true) Q e lh:=by
 obtain⟨y,b,h,k,q,m,n,x,v,l⟩:=XH (nt:=nt) (ops:=a.toList) p o s a.toList 0 st e lh [] i w;obtain⟨g,u⟩:=zm n;simp only[bE,Fa,Ad]at g;exact NP (s0:=⟨e,lh.get,lh.next⟩) f ⟨k,q⟩ (sW (fun _=>trivial) i k x v l g.2) g.1 (t _ _ _ u m)
end
theorem jN{R:Type}{x y:Option R}{r:R}(h:both x y=some r):x=some r/\y=some r:=by
 unfold both at h
 grind
theorem tN{R:Type}{r:R}: ∀{l:List (Option R)},allB l=some r-> ∀x∈l,x=some r
 |[],h=>by cases h
 |[x],h=>fun y a=>by rw[Oa.1 a];exact h
 |x::z::l,h=>by
  obtain⟨c,b⟩:=jN h;intro y a;rcases Jb.1 a with e|e
  ·subst e;exact c
  ·exact tN b y e
section
variable {P:Program} {nt:Nat} {ops:List Oper}
theorem OpOK.step {o:Oper} {r:RO} {s:TS} (m:OpOK P nt ops o r s) {ι:Asg} {a:Act} {w:World} (f:Now ι nt s.e ⟨s.next,s.get⟩ a w) {K:Act->World->Prop} {Q:Exit->Act->World->Prop}
  (t: ∀b x w',Now b nt (Zk o r s).e ⟨(Zk o r s).next,(Zk o r s).get⟩ x w'->StK s.next ι w b w'->K x w'):if Region.wanted o (yielded ops.toArray a.tmps)=true then o.wp P a w K Q else K (a.put o.dst undef) w:=by
 obtain⟨B,z,y⟩:=m.run ι a w s.e s.get s.next f.rel f.free f.env (fun _ _=>rfl) (fun _ _=>rfl) (fun j _=>f.free _ (by rw[m.nx];grind));have q:=m.nx;have d:=m.dst;have c: ∀{b:Asg},(∀id,ι id= .free->(id<s.next\/s.next+r.k<=id)->b id= .free)->QI b (s.next+r.k):=fun C id hid=>C id (f.free id (Eb (jc _ _) hid)) (.inr hid);clear m;obtain⟨g,D,H,F,E,k⟩:=r;simp only at*;subst q;cases g with
 |none=> rw[Na (by simp[Region.wanted,B])];exact(y (by simp)).wp fun A w' ⟨b,n,p,l,i⟩=>t b _ w' ⟨n,c i,Ck (f.env.step l) d p⟩ ⟨l,fun id hid u=>i id u (.inl hid)⟩
 |some g=>
  have v:=z g rfl;cases g with
  |true=> rw[Na v];exact(y (by simp)).wp fun A w' ⟨b,n,p,l,i⟩=>t b _ w' ⟨n,c i,Ck (f.env.step l) d (SG p)⟩ ⟨l,fun id hid u=>i id u (.inl hid)⟩
  |false=> rw[Ka (by rw[v];simp)];exact t ι _ w ⟨f.rel,c (fun id h _=>h),Ck f.env d (WH _)⟩ (StK.refl _ ι w)
variable {I:Ip} {X:Cx I} {ρ:Nat->Nat} {G:Get} {R:Type} {r0:R}
theorem zAF(hI:IpOK P I)(hT:TOK P X.T X.fk){S:List (Con I)}(hS: ∀c∈S,zl P c){fz:List Nat}{K:ES I.C->Option R}{Q:Post}(hQ: ∀st' e' lh',K st'=some r0->Vw P X ρ G st' e' lh'->Q .normal e' lh'){ι0:Asg}{w0:World}{lh0:LH}:
  ∀(fuel:Nat) (listed:Array Bool) (done:List Nat) (st:ES I.C) (e:Env) (lh:LH) (ι:Asg) (a:Act) (w:World),listed.size=ops.length->(∀j,listed.getD j false=memN j done)->(List.range ops.length).countP (fun j=> !listed.getD j false)<=fuel->
   Vw P X ρ G st e lh->anyE X S fz nt ops K fuel done st=some r0->Now ι nt e lh a w->StK lh0.next ι0 w0 ι w->lh0.next<=lh.next->
   wpAny P .any ops.toArray (fun x a' w'=> ∃ι' e' lh',Q x e' lh'/\Now ι' nt e' lh' a' w'/\StK lh0.next ι0 w0 ι' w'/\lh0.next<=lh'.next) fuel listed a w:=by
 intro fuel
 induction fuel with
 |zero=>
  intro listed done st e lh ι a w hsz hd hcnt hv h hN hst hle;refine⟨?_,?_⟩
  ·rw[Dg];intro j hj;rw[mem_ready]at hj;obtain⟨h1,o,ho,_⟩:=hj;have hjl:j<ops.length:=by
    have:ops[j]? =some o:=by simpa using ho
    exact(Ga.1 this).1
   have h0:=List.countP_eq_zero.1 (Nat.le_zero.1 hcnt) j (Jc.2 hjl)
   grind
  ·exact⟨ι,e,lh,hQ _ _ _ h hv,hN,hst,hle⟩
 |succ fuel ih=>
  intro listed done st e lh ι a w hsz hd hcnt hv h hN hst hle;have hready: ∀j,j∈Region.ready .any ops.toArray listed↔j∈Tz ops done:=by
   intro j;unfold Tz;rw[mem_ready,Jd,Jc];constructor
   ·intro ⟨h1,o,ho,hr⟩;have ho':ops[j]? =some o:=by simpa using ho
    have hjl:j<ops.length:=(Ga.1 ho').1;refine⟨hjl,?_⟩;have hS:listed.getD j false=false:=by rw[Gd,Lh (by omega)]at h1 ⊢;simpa using h1
    rw[ho',<-hd,hS];simp only[Ta,Ob,Ua];intro i hi;simp only[direct,Ma,Jd]at hi;obtain⟨ed,⟨he1,he2⟩,rfl⟩:=hi
    grind
   ·intro ⟨hjl,h1⟩;have ho':ops[j]? =some ops[j]:=Ja hjl;rw[ho',Fa]at h1;obtain⟨h1,h2⟩:=h1;simp only[Ua]at h2;refine⟨?_,ops[j],by simp,fun ed hed hb=> ?_⟩
    ·grind
    ·rw[hd];refine h2 ed.on ?_;simp only[direct,Ma,Jd]
     grind
  simp only[anyE]at h;refine⟨fun hnil=> ?_,fun j hj=> ?_⟩
  ·have hz:Tz ops done=[]:=by rw[Dg];intro j hj;have:=(hready j).2 hj;rw[hnil]at this;simp at this
   grind
  ·have hj':=(hready j).1 hj;rw[mem_ready]at hj;obtain⟨h1,o,ho,_⟩:=hj;have ho':ops[j]? =some o:=by simpa using ho
   have hjl:j<ops.length:=(Ga.1 ho').1;have hS0:listed.getD j false=false:=by rw[Gd,Lh (by omega)]at h1 ⊢;simpa using h1
   have hS': ∀i,(listed.setIfInBounds j true).getD i false=(listed.getD i false||i==j):=by
    intro i;by_cases hij:i=j
    ·simp_all
    ·rw[getD_set_ne false (Ne.symm hij)];simp[hij]
   split at h
   ·grind
   ·have hjj:=tN h _ (Ma.2 ⟨j,hj',rfl⟩);rw[ho']at hjj;simp only at hjj;split at hjj
    ·cases hjj
    ·rename_i q hg;obtain⟨res,r1,r2,r3,r4⟩:=KE (nt:=nt) (ops:=ops) hI hT hS hv hg hjj;obtain⟨hok,r5⟩:=zm r1;have hv':=yz hv hok r3 r4;have hk:=hok;simp only[Ij,Fa]at hk;have hdn: ∀d,o.dst=some d->d<nt:=by intro d hd;have k1:=hk.1.1.1.1;rw[hd]at k1;simp only[Fa]at k1;exact ZZ.1 k1.1.1.1.1
     have hstp:=(r2 hdn).step (s:=⟨e,lh.get,lh.next⟩) hN (K:=wpAny P .any ops.toArray (fun x a' w'=> ∃ι' e' lh',Q x e' lh'/\Now ι' nt e' lh' a' w'/\StK lh0.next ι0 w0 ι' w'/\lh0.next<=lh'.next) fuel (listed.setIfInBounds j true)) (Q:=fun x a' w'=> ∃ι' e' lh',Q x e' lh'/\Now ι' nt e' lh' a' w'/\StK lh0.next ι0 w0 ι' w'/\lh0.next<=lh'.next)
      (fun ι' a' w' hN' hst'=>ih (listed.setIfInBounds j true) (j::done) _ _ _ ι' a' w' (by simpa using hsz) (fun i=>by
        rw[hS',hd];simp only[memN];by_cases hij:i=j
        ·subst hij;simp
        ·have:Nat.beq i j=false:=by
          cases hb:Nat.beq i j with
          |false=>rfl
          |true=>simp_all
         simp[this,hij]) (by
       have:=cnt_lt (l:=List.range ops.length) (p:=fun j=> !listed.getD j false) (q:=fun i=> !(listed.setIfInBounds j true).getD i false) (fun x hx=>by
        grind) (Jc.2 hjl) (by grind) (by grind)
       omega) hv' r5 hN' (hst.trans hst' hle) (Eb hle (jc _ _)))
     unfold wpOp
     grind
theorem X0 (hmix:P.follows .mixedOrders=true) (hI:IpOK P I) (hT:TOK P X.T X.fk) {S:List (Con I)} (hS: ∀c∈S,zl P c) {fz:List Nat} {st:ES I.C} {e:Env} {lh:LH} (hv:Vw P X ρ G st e lh) {id:Nat} {opa:Array Oper} {K:ES I.C->Option R} {Q:Post}
  (h0:anyE X S fz nt opa.toList K opa.toList.length [] st=some r0)
  (hQ: ∀st' e' lh',K st'=some r0->Vw P X ρ G st' e' lh'->Q .normal e' lh'):SW P nt (.region id opa true) Q e lh:=by
 intro ι a w hN;refine wp_region_any hmix ?_;have st':Stp ι w ι {w with drawn:=w.drawn+1}:=⟨rfl,rfl,rfl,ma _,fun _ _ h=>h,fun _ h=>h,fun _ _=>rfl,fun _ _=> .inl rfl⟩;have hS0: ∀j,(Array.replicate opa.size false).getD j false=false:=by intro j;rw[Gd,Array.getElem?_replicate];split<;>rfl
 have hN1:Now ι nt e lh a {w with drawn:=w.drawn+1}:=
  ⟨⟨fun id o ho=>let⟨b,h1,h2⟩:=hN.rel.live id o ho;⟨b,h1,h2.step st' (fun _ _=>rfl)⟩,hN.rel.gone,hN.rel.inj,hN.rel.glob.step st'⟩,hN.free,hN.env.step st'⟩
 have:=zAF (ops:=opa.toList) hI hT hS hQ (ι0:=ι) (w0:=w) (lh0:=lh) opa.toList.length (Array.replicate opa.size false) [] st e lh ι a {w with drawn:=w.drawn+1} (by simp) (fun j=>by rw[hS0];rfl)
  (by simp_all) hv h0 hN1 ⟨st',fun id _ h=>h⟩ (ma _)
 simpa using this
end
section
variable {P:Program} {nt:Nat} {ops:List Oper} {I:Ip} {X:Cx I} {ρ:Nat->Nat} {G:Get} {R:Type} {r0:R}
theorem KN{o:Oper}{w:Bool}{t:TypeId}{x:Operand}(h:Xt o=some (w,t,x)):(∃d,o.dst=some d)/\o.guard=none/\ ∃u,o.op= .binOp (cond w .eql .neq) t x (.const (.slice none 0 0)) u:=by
 unfold Xt at h
 grind
theorem PL{ι:Asg}{w0:World}{get:Get}{a:Act}{o:Oper}{w:Bool}{t:TypeId}{x:Operand}{v:Value}{e:TypeId}(hR:Rel ι get w0)(h:Xt o=some (w,t,x))(hk:kdOf P t= .sl e)(hv:a.eval x=v){ad:Option Addr}{n c:Nat}(hs:v= .slice ad n c)(nx:Nat):
  Runs P a o w0 (Good ι w0 get nx 0 (.v (.c (.p (.at (.bool (cond w ad.isNone !ad.isNone)))))) []):=by
 obtain⟨⟨d,h1⟩,h2,u,h3⟩:=KN h;subst hs;have hun:=Bg hk;refine .inl ⟨.bool (cond w ad.isNone !ad.isNone),w0,?_,Qu hR (Vi _)⟩;have hc:a.eval (.const (.slice none 0 0))= .slice none 0 0:=rfl;cases w with
 |true=> have hg:=XM (P:=P) (w:=w0) .eql t x (.const (.slice none 0 0)) ad none n c 0 0;have hb:=Lib.run_eql_slice_nil (P:=P) w0 t e ad n c 0 0 hun;simp[execOp,h3,hv,hc,Sem.run_bind,hg,hb]
 |false=> have hg:=XM (P:=P) (w:=w0) .neq t x (.const (.slice none 0 0)) ad none n c 0 0;have hb:=run_neq_slice_nil_any (P:=P) w0 t e ad n c 0 0 hun;simp[execOp,h3,hv,hc,Sem.run_bind,hg,hb]
theorem kE(hI:IpOK P I)(hT:TOK P X.T X.fk){S:List (Con I)}(hS: ∀c∈S,zl P c){fz:List Nat}{K:ES I.C->Option R}{Q:Post}(hQ: ∀a4 A f,K a4=some r0->Vw P X ρ G a4 A f->Q .normal A f){ι0:Asg}{w0:World}{lh0:LH}:
  ∀(l:List Oper) (j:Nat) (st:ES I.C) (e:Env) (lh:LH) (ι:Asg) (a:Act) (w:World),Vw P X ρ G st e lh->seqN X S fz nt ops K j l st=some r0->Now ι nt e lh a w->StK lh0.next ι0 w0 ι w->lh0.next<=lh.next->
   wpList P ops.toArray (fun x Y w'=> ∃g A f,Q x A f/\Now g nt A f Y w'/\StK lh0.next ι0 w0 g w'/\lh0.next<=f.next) l a w
 |[],j,st,e,lh,ι,a,w,V,h,H,F,y=>⟨ι,e,lh,hQ _ _ _ h V,H,F,y⟩
 |o::r,j,st,e,lh,ι,a,w,V,h,H,F,y=>by
  refine wpList_step fun K' a2=> ?_;simp only[seqN]at h;split at h
  ·rename_i wb t x O;obtain⟨⟨d,a8⟩,a6,u,ab⟩:=KN O;rw[Na (by simp[Region.wanted,a6])]
   -- whatever the test says, the rest is well
   have a0: ∀b:Bool,cond (Ij X nt o [] st (okV (.bool b))) (seqN X S fz nt ops K (j+1) r (Bi o [] st (okV (.bool b)))) none=some r0->Runs P a o w (Good ι w lh.get lh.next 0 (.v (.c (.p (.at (.bool b))))) [])->o.wp P a w K' (fun x Y w'=> ∃g A f,Q x A f/\Now g nt A f Y w'/\StK lh0.next ι0 w0 g w'/\lh0.next<=f.next):=by
    intro b hb a1;obtain⟨E,r5⟩:=zm hb;have J:=yz (P:=P) (q:=[]) (res:=okV (.bool b)) V E (fun p hp=>by cases hp) (fun hf=>by cases hf);have L:=E;simp only[Ij,Fa]at L;have W: ∀d,o.dst=some d->d<nt:=by intro d hd;have M:=L.1.1.1.1;rw[hd]at M;simp only[Fa]at M;exact ZZ.1 M.1.1.1.1
    refine a1.wp fun v' w' ⟨g,g1,g2,g3,g4⟩=>a2 _ _ ?_;have a5:QI g lh.next:=fun id hid=>g4 id (H.free id hid) (.inr (by simpa using hid));have U:=Ck (H.env.step g3) W g2;exact kE hI hT hS hQ r (j+1) _ _ _ g _ w' J r5 ⟨g1,a5,U⟩ (F.trans ⟨g3,fun id hid hf=>g4 id hf (.inl hid)⟩ y) y
   unfold nilE at h;split at h
   ·rename_i A u' l L hx;have N:=qy hT L (by simp);have m:=zU (Yw H.env) x;have D:opd (Zn e) x= .v (.c (.p (.sl (l.map (I.full u'))))):=Cr (q:=[]) V (.inl rfl) x (.c (.sl u' l)) (by rw[hx];rfl);rw[D]at m;have i:RepP (Dom ι w) w (.sl (l.map (I.full u'))) (a.eval x):=m.2;generalize Z:a.eval x=av at i;cases i with
    |sl a7 ad n c k b o' aa hn hc ha hD a9 J hr=>
     have B:=PL (P:=P) (nx:=lh.next) H.rel O N Z rfl;cases hl:l with
     |nil=>
      rw[hl]at h;simp only[List.isEmpty_nil,Ca]at h;obtain⟨h1,h2⟩:=jN h;cases ad with
      |none=>grind
      |some ad=>grind
     |cons z l'=>
      grind
   ·rename_i A L hx;have N:=qy hT L (by simp);have m:=zU (Yw H.env) x;have D:opd (Zn e) x= .v (.c (.p (.at (.slice none 0 0)))):=Cr (q:=[]) V (.inl rfl) x (.c .nil) (by rw[hx];rfl);rw[D]at m;have i:RepP (Dom ι w) w (.at (.slice none 0 0)) (a.eval x):=m.2;generalize Z:a.eval x=av at i;cases i;have B:=PL (P:=P) (nx:=lh.next) H.rel O N Z rfl;exact a0 wb h (by simpa using B)
   ·cases h
  ·split at h
   ·cases h
   ·rename_i q hg;obtain⟨res,r1,r2,r3,r4⟩:=KE (nt:=nt) (ops:=ops) hI hT hS V hg h;obtain⟨E,r5⟩:=zm r1;have J:=yz V E r3 r4;have L:=E;simp only[Ij,Fa]at L;have W: ∀d,o.dst=some d->d<nt:=by intro d hd;have M:=L.1.1.1.1;rw[hd]at M;simp only[Fa]at M;exact ZZ.1 M.1.1.1.1
    exact(r2 W).step (s:=⟨e,lh.get,lh.next⟩) H (K:=K') (Q:=fun x Y w'=> ∃g A f,Q x A f/\Now g nt A f Y w'/\StK lh0.next ι0 w0 g w'/\lh0.next<=f.next)
     (fun g Y w' U a3=>a2 _ _ (kE hI hT hS hQ r (j+1) _ _ _ g Y w' J r5 U (F.trans a3 y) (Eb y (jc _ _))))
theorem U0 (o:IpOK P I) (i:TOK P X.T X.fk) {S:List (Con I)} (l: ∀c∈S,zl P c) {j:List Nat} {st:ES I.C} {e:Env} {lh:LH} (p:Vw P X ρ G st e lh) {id:Nat} {b:Array Oper} {K:ES I.C->Option R} {Q:Post}
  (n:seqN X S j nt b.toList K 0 b.toList st=some r0)
  (m: ∀f h d,K f=some r0->Vw P X ρ G f h d->Q .normal h d):SW P nt (.region id b false) Q e lh:=by
 intro g a w k;refine wp_region_list ?_;have:=kE (ops:=b.toList) o i l m (ι0:=g) (w0:=w) (lh0:=lh) b.toList 0 st e lh g a w p n k (StK.refl _ g w) (ma _);simp_all
end
end Go.Lv
