/- What the evaluator's values stand for in a world, and how this is kept. -/
import Derived.Test.YtagibnnojbolnaaGreatDoorLa
set_option linter.unusedSimpArgs false
set_option linter.unusedVariables false
namespace Go.Lv
inductive Slot where
 |free
 |dead
 |pure (rows:List (List PV))
 |live (b:Option Nat) (k n:Nat)
inductive Own where
 |no
 |far
 |inn (id:Nat)
structure Asg where
 s:Nat->Slot
 X:Nat->Own
def Held(T:Nat->Prop):Own->Prop
 | .no=>False
 | .far=>True
 | .inn id=> ¬T id
theorem Au{T:Nat->Prop}: ∀{x:Own},Held T x->x≠ .no
 | .far,_,e=>by cases e
 | .inn _,_,e=>by cases e
instance:CoeFun Asg (fun _=>Nat->Slot):=⟨Asg.s⟩
theorem gq{T T':Nat->Prop}(h: ∀i,T i->T' i): ∀{x:Own},Held T' x->Held T x
 | .far,_=>trivial
 | .inn id,g=>fun t=>g (h id t)
def Dom(ι:Asg)(w:World)(b:Nat):Prop:=b<w.heap.size/\ι.X b= .no/\ ∀id k n,ι id≠ .live (some b) k n
def Glob(D:Nat->Prop)(w:World):Prop:= ∀q∈tabG,D q.1/\ ∃o,w.heap[q.1]? =some o/\q.2 o
def SlAt(w:World)(b:Option Nat)(k off n:Nat)(v:Value):Prop:=
 (b=none/\n=0/\v= .slice none 0 0)\/ ∃b' c ty sz a,b=some b'/\v= .slice a n c/\(c=0\/a=some ⟨b',off*k,none⟩)/\n<=c/\c<=maxLen/\w.shape? b'=some (ty,sz)/\(off+c)*k<=sz
def PtAt:Slot->Nat->Nat->Value->Prop
 | .live b k _,r,c,v=> ∃b',b=some b'/\v= .pointer (some ⟨b',r*k+c,none⟩)
 | .free,_,_,_=>False
 |_,_,_,_=>True
def MpAt:Slot->Value->Prop
 | .live b _ _,v=> ∃b',b=some b'/\v= .map (some b')
 | .free,_=>False
 |_,_=>True
def mpE(k:IntKind)(l:List (List UInt8×Int)):Array MapEntry:=(l.zipIdx.map fun x=>(⟨Ph x.1.1, .int k x.1.2,x.2⟩:MapEntry)).toArray
section
variable (I:Ip)
def pvE:EV I.C->PV
 | .int k n=> .at (.int k n)
 | .bool b=> .at (.bool b)
 | .str l=> .str l
 | .nil=> .at (.slice none 0 0)
 | .raw v=> .at v
 | .sl t l=> .sl (l.map (I.full t))
 | .ptr t x off=> .ptr ((I.full t x).drop off)
 |_=> .at .nilFunc
end
section
variable {I:Ip} {P:Program} {T:Nat->Prop} {ι ι':Asg} {w w':World}
def Sl:EV I.C->Bool
 | .own _| .osl .. | .optr .. | .clo .. | .fsl .. | .prd _| .mref _| .nop .. | .ifc _=>false
 |_=>true
def SlS(ι:Asg)(w:World):Slot->Option (Nat×Nat)->Value->Prop
 | .live b k n,none,v=>SlAt w b k 0 n v
 | .live b k _,some m,v=>SlAt w b k m.1 m.2 v
 | .pure rows,none,v=>RepP (Dom ι w) w (.sl rows) v
 | .free,_,_=>False
 |_,_,_=>True
def RepV(ι:Asg)(w:World):EV I.C->Value->Prop
 | .own id,v=>SlS ι w (ι id) none v
 | .osl id off n,v=>SlS ι w (ι id) (some (off,n)) v
 | .optr id r c,v=>PtAt (ι id) r c v
 | .fsl t l,v=>RepP (Dom ι w) w (.sl (l.map (I.full t))) v/\ ∃a n,v= .slice a n n
 | .prd p,v=>p v
 | .ifc b,v=>(b=false/\v= .nilIface)\/(b=true/\ ∃u x,v= .iface u x)
 | .mref id,v=>MpAt (ι id) v
 | .nop id ty n,v=>(v= .pointer none\/PtAt (ι id) 0 0 v)/\ι id≠ .free/\ ∀b k m,ι id= .live (some b) k m->w.shape? b=some (ty,n)
 | .clo f caps,v=> ∃vs:Array Value,v= .func (.func f) #[] vs/\vs.size=caps.length/\ ∀(j:Nat) (q:Nat×Nat×Nat),caps[j]? =some q-> ∃u,vs[j]? =some u/\u.oneCell'=true/\PtAt (ι q.1) q.2.1 q.2.2 u
 |x,v=>RepP (Dom ι w) w (pvE I x) v
def Rep1(ι:Asg)(w:World)(x:EV I.C)(v:Value):Prop:=v.oneCell'=true/\RepV ι w x v
def RepA(ι:Asg)(w:World)(xs:List (EV I.C))(vs:Array Value):Prop:=vs.size=xs.length/\ ∀(j:Nat) (x:EV I.C),xs[j]? =some x-> ∃u,vs[j]? =some u/\Rep1 ι w x u
def RepT(ι:Asg)(w:World):ET I.C->Value->Prop
 | .c x,v=>Rep1 ι w x v
 | .agg xs,v=> ∃vs:Array Value,v= .agg vs/\RepA ι w xs vs
def Gh(ι:Asg)(w:World)(ts:List (ET I.C))(vs:Array Value):Prop:=vs.size=ts.length/\ ∀(j:Nat) (t:ET I.C),ts[j]? =some t-> ∃u,vs[j]? =some u/\RepT ι w t u
def RepL(ι:Asg)(w:World):EL I.C->Value->Prop
 | .any,_=>True
 | .v t,v=>RepT ι w t v
 | .opt _ b t,v=>(b=true->RepT ι w t v)/\(b=false->v=undef)
 | .tup ts,v=> ∃vs:Array Value,v= .tuple vs/\Gh ι w ts vs
def Slw(ι:Asg)(ι':Asg)(w w':World)(i j:Nat):Prop:=ι i≠ .free->ι' j=ι i\/ι' j= .dead\/ ∃b k n rows,ι i= .live b k n/\ι' j= .pure rows/\ ∀v,SlAt w b k 0 n v->RepP (Dom ι' w') w' (.sl rows) v
structure Conv (ι:Asg) (w:World) (ι':Asg) (w':World):Prop where
 shape: ∀b s,w.shape? b=some s->w'.shape? b=some s
 dom: ∀b,Dom ι w b->Dom ι' w' b
 keep: ∀b,Dom ι w b->w'.heap[b]? =w.heap[b]?
structure Stp (T:Nat->Prop) (ι:Asg) (w:World) (ι':Asg) (w':World):Prop extends Conv ι w ι' w' where
 os:w'.os=w.os
 tape:w'.tape=w.tape
 output:w'.output=w.output
 size:w.heap.size<=w'.heap.size
 own: ∀id b k n,¬T id->ι id= .live (some b) k n->w'.heap[b]? =w.heap[b]?
 slots: ∀id,Slw ι ι' w w' id id
 fix: ∀id,¬T id->ι id≠ .free->ι' id=ι id
 xs: ∀b,Held T (ι.X b)->ι'.X b=ι.X b
 xn: ∀b,ι'.X b= .far->ι.X b= .far
 xkeep: ∀b,Held T (ι.X b)->w'.heap[b]? =w.heap[b]?
theorem Stp.same(T:Nat->Prop)(ι:Asg)(w:World):Stp T ι w ι w:=⟨⟨fun _ _ h=>h,fun _ h=>h,fun _ _=>rfl⟩,rfl,rfl,rfl,Xa _,fun _ _ _ _ _ _=>rfl,fun _ _=> .inl rfl,fun _ _ _=>rfl,fun _ _=>rfl,fun _ h=>h,fun _ _=>rfl⟩
theorem SlAt.step(hs: ∀b s,w.shape? b=some s->w'.shape? b=some s){b:Option Nat}{k off n:Nat}{v:Value}(h:SlAt w b k off n v):SlAt w' b k off n v:=by
 rcases h with h|⟨b',c,ty,sz,a,h1,h2,h3,h4,h5,h6,h7⟩
 ·exact .inl h
 ·exact .inr ⟨b',c,ty,sz,a,h1,h2,h3,h4,h5,hs _ _ h6,h7⟩
theorem RepP.conv(h:Conv ι w ι' w'){x:PV}{v:Value}(hx:RepP (Dom ι w) w x v):RepP (Dom ι' w') w' x v:=hx.mono h.dom h.keep
theorem SlS.conv(h:Conv ι w ι' w'){i j:Nat}(hs:Slw ι ι' w w' i j){m:Option (Nat×Nat)}{v:Value}(hv:SlS ι w (ι i) m v):SlS ι' w' (ι' j) m v:=by
 have h0:ι i≠ .free:=fun e=>by rw[e]at hv;cases m<;>exact hv
 rcases hs h0 with e|e|⟨b,k,n,rows,e1,e2,e3⟩
 ·rw[e];cases hi:ι i<;>rw[hi]at hv<;>cases m<;>first|exact SlAt.step h.shape hv|exact RepP.conv h hv|exact hv
 ·rw[e];cases m<;>trivial
 ·rw[e2];rw[e1]at hv;cases m<;>first|exact e3 _ hv|trivial
theorem PtAt.conv{i j r c:Nat}(hs:Slw ι ι' w w' i j){v:Value}(hv:PtAt (ι i) r c v):PtAt (ι' j) r c v:=by
 have h0:ι i≠ .free:=fun e=>by rw[e]at hv;exact hv
 rcases hs h0 with e|e|⟨_,_,_,_,_,e,_⟩<;>rw[e]<;>first|exact hv|trivial
theorem MpAt.conv{i j:Nat}(hs:Slw ι ι' w w' i j){v:Value}(hv:MpAt (ι i) v):MpAt (ι' j) v:=by
 have h0:ι i≠ .free:=fun e=>by rw[e]at hv;exact hv
 rcases hs h0 with e|e|⟨_,_,_,_,_,e,_⟩<;>rw[e]<;>first|exact hv|trivial
theorem zNc.conv{i j ty n:Nat}(h: ∀b s,w.shape? b=some s->w'.shape? b=some s)(hs:Slw ι ι' w w' i j){v:Value}(hv:(v= .pointer none\/PtAt (ι i) 0 0 v)/\ι i≠ .free/\ ∀b k m,ι i= .live (some b) k m->w.shape? b=some (ty,n)):
  (v= .pointer none\/PtAt (ι' j) 0 0 v)/\ι' j≠ .free/\ ∀b k m,ι' j= .live (some b) k m->w'.shape? b=some (ty,n):=by
 refine⟨hv.1.imp_right (PtAt.conv hs),?_,fun b k m e=> ?_⟩
 ·rcases hs hv.2.1 with e|e|⟨_,_,_,_,_,e,_⟩<;>rw[e]
  ·exact hv.2.1
  ·intro h;cases h
  ·intro h;cases h
 ·rcases hs hv.2.1 with e'|e'|⟨_,_,_,_,_,e',_⟩<;>rw[e']at e
  ·exact h _ _ (hv.2.2 _ _ _ e)
  ·cases e
  ·cases e
theorem RepV.ren(h:Conv ι w ι' w'){f:Nat->Nat}{x:EV I.C}{v:Value}(hs: ∀i∈oh x,Slw ι ι' w w' i (f i))(hv:RepV ι w x v):RepV ι' w' (rnV f x) v:=by
 cases x with
 |own i=>exact SlS.conv h (hs i (by simp[oh])) hv
 |osl i off n=>exact SlS.conv h (hs i (by simp[oh])) hv
 |optr i r c=>exact PtAt.conv (hs i (by simp[oh])) hv
 |fsl t l=>exact⟨RepP.conv h hv.1,hv.2⟩
 |prd p=>exact hv
 |ifc b=>exact hv
 |mref i=>exact MpAt.conv (hs i (by simp[oh])) hv
 |nop i ty n=>exact zNc.conv (fun b s hb=>h.shape b s hb) (hs i (by simp[oh])) hv
 |clo g caps=> obtain⟨vs,h1,h2,h3⟩:=hv;refine⟨vs,h1,by simpa using h2,fun j q hq=> ?_⟩;simp only[Ra,Ma]at hq;obtain⟨q0,hq,rfl⟩:=hq;obtain⟨u,a,b,c⟩:=h3 j q0 hq;exact⟨u,a,b,PtAt.conv (hs q0.1 (Nb.2 ⟨q0,ma hq,rfl⟩)) c⟩
 |_=>exact RepP.conv h hv
theorem RepA.ren(h:Conv ι w ι' w'){f:Nat->Nat}{xs:List (EV I.C)}{vs:Array Value}(hs: ∀i∈xs.flatMap oh,Slw ι ι' w w' i (f i))(hv:RepA ι w xs vs):RepA ι' w' (xs.map (rnV f)) vs:=by refine⟨by simpa using hv.1,fun j x hx=> ?_⟩;simp only[Ra,Ma]at hx;obtain⟨y,hy,rfl⟩:=hx;obtain⟨u,a,b,c⟩:=hv.2 j y hy;exact⟨u,a,b,c.ren h fun i hi=>hs i (List.mem_flatMap.2 ⟨y,ma hy,hi⟩)⟩
theorem RepT.ren(h:Conv ι w ι' w'){f:Nat->Nat}{x:ET I.C}{v:Value}(hs: ∀i∈RN x,Slw ι ι' w w' i (f i))(hv:RepT ι w x v):RepT ι' w' (rnET f x) v:=by
 cases x with
 |c x=>exact⟨hv.1,hv.2.ren h hs⟩
 |agg xs=> obtain⟨vs,h1,h2⟩:=hv;exact⟨vs,h1,h2.ren h hs⟩
theorem Bt(x:EV I.C):rnV (fun i=>i) x=x:=by cases x<;>simp[rnV]
theorem NN(x:ET I.C):rnET (fun i=>i) x=x:=by cases x<;>simp[rnET,Bt,show(rnV fun i=>i)=(id:EV I.C->EV I.C)from funext Bt]
section
variable (S:Stp T ι w ι' w')
include S
theorem RepV.step{x:EV I.C}{v:Value}(hv:RepV ι w x v):RepV ι' w' x v:=by rw[<-Bt x];exact hv.ren S.toConv fun i _=>S.slots i
theorem RepT.step{x:ET I.C}{v:Value}(hv:RepT ι w x v):RepT ι' w' x v:=by rw[<-NN x];exact hv.ren S.toConv fun i _=>S.slots i
theorem RepL.step{x:EL I.C}{v:Value}(hv:RepL ι w x v):RepL ι' w' x v:=by
 cases x with
 |any=>trivial
 |v t=>exact RepT.step S hv
 |opt ks b t=>exact⟨fun h=>RepT.step S (hv.1 h),hv.2⟩
 |tup ts=> obtain⟨vs,h1,h2,h3⟩:=hv;exact⟨vs,h1,h2,fun j t ht=>let⟨u,a,b⟩:=h3 j t ht;⟨u,a,RepT.step S b⟩⟩
theorem Glob.step(h:Glob (Dom ι w) w):Glob (Dom ι' w') w':=fun q hq=>by obtain⟨h1,v,h2,h3⟩:=h q hq;exact⟨S.dom _ h1,v,by rw[S.keep _ h1];exact h2,h3⟩
end
def TyOK(P:Program)(t t':TypeId)(n:Nat):Prop:=t'=t\/ ∃m,kdOf P t'= .arr m t/\n=P.cellsOf t'/\n=m*P.cellsOf t
def FT(τ:TypeId->Nat->Prop)(ty:TypeId)(fr:Nat×Nat)(n:Nat):Prop:=frOK fr n/\τ ty n
def Blk(w:World)(b:Option Nat)(k:Nat)(τ:TypeId->Nat->Prop)(rows:List (List (Value->Prop))):Prop:=
 (∀row∈rows,row.length=k)/\((b=none/\rows=[])\/ ∃b' cur fr ty',b=some b'/\w.heap[b']? =some (.cells cur ty' fr)/\FT τ ty' fr cur.size/\rows.length*k<=cur.size/\
  ∀(i:Nat) (row:List (Value->Prop)) (j:Nat) (p:Value->Prop),rows[i]? =some row->row[j]? =some p-> ∃v,cur[i*k+j]? =some v/\v.oneCell'=true/\p v)
def Les(R R':List (List (Value->Prop))):Prop:=R'.length=R.length/\ ∀(i:Nat) (r r':List (Value->Prop)),R[i]? =some r->R'[i]? =some r'->r'.length=r.length/\ ∀(j:Nat) (p p':Value->Prop),r[j]? =some p->r'[j]? =some p'-> ∀v,v.oneCell'=true->p v->p' v
theorem Blk.les{b:Option Nat}{k:Nat}{ty:TypeId->Nat->Prop}{R R':List (List (Value->Prop))}(h:Blk w b k ty R)(hb: ∀b',b=some b'->w'.heap[b']? =w.heap[b']?)(hl:Les R R'):Blk w' b k ty R':=by
 have row: ∀(i:Nat) r',R'[i]? =some r'-> ∃r,R[i]? =some r:=fun i r' h'=>⟨_,Ta (by rw[<-hl.1];exact(Ja.1 h').1)⟩;refine⟨fun r' hr'=> ?_,?_⟩
 ·obtain⟨i,hi,rfl⟩:=Je hr';have h':=Ta hi;obtain⟨r,hr⟩:=row i _ h';rw[(hl.2 i r _ hr h').1,h.1 r (ma hr)]
 ·rcases h.2 with⟨e,h2⟩|⟨b',cur,fr,ty',e,h3,h4,h5,h6⟩
  ·exact .inl ⟨e,ib (by rw[hl.1,h2];rfl)⟩
  ·refine .inr ⟨b',cur,fr,ty',e,(hb b' e).trans h3,h4,by rw[hl.1];exact h5,fun i r' j p' hi hj=> ?_⟩;obtain⟨r,hr⟩:=row i r' hi;obtain⟨e1,e2⟩:=hl.2 i r r' hr hi;have hp:=Ta (l:=r) (i:=j) (by rw[<-e1];exact(Ja.1 hj).1);obtain⟨v,a1,a2,a3⟩:=h6 i r j _ hr hp;exact⟨v,a1,a2,e2 j _ p' hp hj v a2 a3⟩
def tyE:EO I.C->Nat
 | .cells ty _=>ty
 | .sl t _=>t
 | .slo t _ _ _=>t
 | .rows t _ _=>t
 |_=>0
def Zd:EO I.C->List (List (EV I.C))
 | .cells _ cs=>[cs]
 | .sl t l=>l.map (I.exp t)
 | .slo t l1 cs l2=>l1.map (I.exp t)++cs::l2.map (I.exp t)
 | .rows _ _ rs=>rs
 |_=>[]
def kE(P:Program):EO I.C->Nat
 | .cells _ cs=>cs.length
 | .sl t _=>P.cellsOf t
 | .slo t _ _ _=>P.cellsOf t
 | .rows _ k _=>k
 |_=>0
def Cg(P:Program)(ι:Asg)(w:World)(id:Nat)(o:EO I.C):Prop:= ∃b,ι id= .live b (kE P o) (Zd o).length/\Blk w b (kE P o) (TyOK P (tyE o)) ((Zd o).map (·.map (RepV ι w)))
def slP(k n:Nat):Option (Nat×Nat)->Value->Prop
 |none,v=>n=0/\v= .slice none 0 0
 |some (b,sz),v=> ∃c a,v= .slice a n c/\(c=0\/a=some ⟨b,0,none⟩)/\n<=c/\c<=maxLen/\c*k<=sz
def Inn(P:Program)(ι:Asg)(w:World)(id e:Nat)(l:List (List (I.C e)))(S:List (Option (Nat×Nat))):Prop:=
 S.length=l.length/\(∀(i j b z z':Nat),S[i]? =some (some (b,z))->S[j]? =some (some (b,z'))->i=j)/\ ∀(j:Nat) m s,l[j]? =some m->S[j]? =some s->
  match s with
  |none=>m=[]
  |some (b,sz)=>ι.X b= .inn id/\(∃ty,w.shape? b=some (ty,sz))/\Blk w (some b) (P.cellsOf e) (TyOK P e) ((m.map (I.full e)).map (·.map (RepP (Dom ι w) w)))
def af(P:Program)(e:Nat)(l:List (List (I.C e)))(S:List (Option (Nat×Nat))):List (List (EV I.C)):=List.zipWith (fun m s=>[EV.prd (slP (P.cellsOf e) m.length s)]) l S
def sM(P:Program)(ι:Asg)(w:World)(id t e:Nat)(l:List (List (I.C e)))(c:EV I.C):Prop:= ∃S,Inn P ι w id e l S/\Cg P ι w id (.rows t 1 (af P e l S++[[c]]))
def Qd(P:Program)(ι:Asg)(w:World)(id:Nat):EO I.C->Prop
 | .dead=>True
 | .frz t l=>ι id= .pure (l.map (I.full t))
 | .slq t e l c=>sM P ι w id t e l c
 | .mp kd l=> ∃b,ι id= .live (some b) 0 0/\w.heap[b]? =some (.map (mpE kd l) l.length)
 |o=>Cg P ι w id o
theorem Les.map{α:Type}{f g:α->Value->Prop}(h: ∀x v,f x v->g x v)(R:List (List α)):Les (R.map (·.map f)) (R.map (·.map g)):=by refine⟨by simp,fun i r r' hr hr'=> ?_⟩;simp only[Ra,Ma]at hr hr';obtain⟨x,hx,rfl⟩:=hr;obtain⟨y,hy,rfl⟩:=hr';rw[hx]at hy;cases hy;refine⟨by simp,fun j p p' hp hp' v _=> ?_⟩;simp only[Ra,Ma]at hp hp';obtain⟨x,hx,rfl⟩:=hp;obtain⟨y,hy,rfl⟩:=hp';rw[hx]at hy;cases hy;exact h _ v
theorem Qd.step(S:Stp T ι w ι' w'){id:Nat}(hT: ¬T id){o:EO I.C}(h:Qd P ι w id o):Qd P ι' w' id o:=by
 have key: ∀{o:EO I.C},Cg P ι w id o->Cg P ι' w' id o:=fun⟨b,h1,h2⟩=>⟨b,by rw[S.fix id hT (by rw[h1];simp),h1],h2.les (fun b' e=>S.own id b' _ _ hT (e▸h1)) (Les.map (fun _ _=>RepV.step S) _)⟩;cases o with
 |dead=>trivial
 |frz t l=>exact(S.fix id hT (by rw[show ι id=_ from h];simp)).trans h
 |slq t e l c=>
  obtain⟨Z,⟨z1,z2,z3⟩,hr⟩:=h;refine⟨Z,⟨z1,z2,fun j m s hm hs=> ?_⟩,key hr⟩;have:=z3 j m s hm hs;cases s with
  |none=>exact this
  |some s=>
   obtain⟨x1,⟨ty,x2⟩,x3⟩:=this;have hh:Held T (ι.X s.1):=by rw[x1];exact hT
   exact⟨(S.xs _ hh).trans x1,⟨ty,S.shape _ _ x2⟩,x3.les (fun b' e=>by cases e;exact S.xkeep _ hh) (Les.map (fun _ _ h=>h.conv S.toConv) _)⟩
 |mp kd l=> obtain⟨b,h1,h2⟩:=h;exact⟨b,(S.fix id hT (by rw[h1];simp)).trans h1,(S.own id b _ _ hT h1).trans h2⟩
 |_=>exact key h
structure Wf (ι:Asg) (w:World):Prop where
 lt: ∀id b k n,ι id= .live (some b) k n->b<w.heap.size/\ι.X b= .no
 inj: ∀i j b k k' n n',ι i= .live (some b) k n->ι j= .live (some b) k' n'->i=j
 glob:Glob (Dom ι w) w
 xlt: ∀b,ι.X b≠ .no->b<w.heap.size
def Done(P:Program)(ι:Asg)(w:World)(nx:Nat)(res:OR I.C)(v:Value)(w':World):Prop:=
 ∃ι',Stp (fun i=>i∈res.up.map (·.1)) ι w ι' w'/\Wf ι' w'/\RepL ι' w' res.val v/\(∀p∈res.up,Qd P ι' w' p.1 p.2)/\ ∀id,ι id= .free->(id<nx\/nx+res.k<=id)->ι' id= .free
theorem Done.same(W:Wf ι w){nx k:Nat}{x:EL I.C}{rd:List Nat}{v:Value}(h:RepL ι w x v):Done P ι w nx ⟨x,[],rd,k⟩ v w:=
 ⟨ι, .same _ _ _,W,h,fun p hp=>by simp at hp,fun _ h _=>h⟩
def setA(ι:Asg)(id:Nat)(s:Slot):Asg:=⟨fun i=>if i=id then s else ι i,ι.X⟩
@[simp] theorem zbR (ι : Asg) (id : Nat) (s : Slot) : setA ι id s id = s := by simp [setA]
theorem ji(ι:Asg)(id:Nat)(s:Slot){i:Nat}(h:i≠id):setA ι id s i=ι i:=by simp[setA,h]
end
structure Wld (B:Nat->Prop) (w w':World):Prop where
 os:w'.os=w.os
 tape:w'.tape=w.tape
 output:w'.output=w.output
 size:w.heap.size<=w'.heap.size
 other: ∀b,b<w.heap.size-> ¬B b->w'.heap[b]? =w.heap[b]?
 shape: ∀b s,w.shape? b=some s->w'.shape? b=some s
theorem Grew.wld{w w':World}{o:Obj}(g:Grew w w' o):Wld (fun _=>False) w w':=
 ⟨g.os,g.tape,g.output,by rw[g.size];omega,fun b hb _=>g.old hb,fun b s hs=>by rw[wK (g.old (dX hs))];exact hs⟩
theorem Chg.wld{w w':World}{b:Nat}(g:Chg w w' b):Wld (· =b) w w':=
 ⟨g.os,g.tape,g.output,by rw[g.size];exact Xa _,fun b' _ h=>g.other b' h,fun b' s hs=>by
  by_cases e:b'=b
  ·subst e;exact g.shape s hs
  ·rw[wK (g.other b' e)];exact hs⟩
theorem Wld.refl(w:World):Wld (fun _=>False) w w:=⟨rfl,rfl,rfl,Xa _,fun _ _ _=>rfl,fun _ _ h=>h⟩
section
variable {I:Ip} {P:Program} {T:Nat->Prop} {ι ι':Asg} {w w':World} {nx:Nat}
theorem RB {B d:Nat->Prop} {b:Option Nat} {k n:Nat} (W:Wf ι w) (hf:ι nx= .free) (h:Wld B w w') (hX:ι'.X=ι.X) (h1:ι' nx= .live b k n) (h2: ∀i,i≠nx->ι' i=ι i\/(d i/\ι' i= .dead)) (hd: ∀i,d i->T i)
  (hb: ∀b',b=some b'->(w.heap.size<=b'/\b'<w'.heap.size)\/ ∃j k n,ι' j= .dead/\ι j= .live (some b') k n) (hB: ∀b',B b'-> ∃j k n,T j/\ι j= .live (some b') k n):Stp T ι w ι' w'/\Wf ι' w':=by
 have own: ∀{id b' k n},ι id= .live (some b') k n-> ¬T id-> ¬B b':=fun e hT hB'=>by obtain⟨j,_,_,h3,h4⟩:=hB _ hB';rw[W.inj _ _ _ _ _ _ _ e h4]at hT;exact hT h3
 have dom: ∀b',Dom ι w b'-> ¬B b':=fun b' hD hB'=>by obtain⟨j,_,_,_,h4⟩:=hB _ hB';exact hD.2.2 _ _ _ h4
 have old: ∀{i b' k' n'},ι' i= .live (some b') k' n'->(i=nx/\b=some b')\/(i≠nx/\ι i= .live (some b') k' n'):=fun {i b' k' n'} e=>by
  by_cases hi:i=nx
  ·subst hi;rw[h1]at e;cases e;exact .inl ⟨rfl,rfl⟩
  ·rcases h2 i hi with e'|⟨_,e'⟩
   ·exact .inr ⟨hi,e'▸e⟩
   ·rw[e']at e;cases e
 -- a block of the new number is nobody else's
 have new: ∀{b' i k' n'},b=some b'->i≠nx->ι' i= .live (some b') k' n'->False:=fun {b' i k' n'} e hi h'=>by
  rcases old h' with⟨h3,_⟩|⟨_,h3⟩
  ·exact hi h3
  ·rcases hb b' e with⟨h4,_⟩|⟨j,_,_,h4,h5⟩
   ·have:=(W.lt _ _ _ _ h3).1;omega
   ·rw[W.inj _ _ _ _ _ _ _ h3 h5,h4]at h';cases h'
 have S:Stp T ι w ι' w':=by
  refine⟨⟨h.shape,fun b' hD=>⟨by have:=hD.1;have:=h.size;omega,by rw[hX];exact hD.2.1,fun i k' n' e=> ?_⟩,fun b' hD=>h.other b' hD.1 (dom b' hD)⟩,h.os,h.tape,h.output,h.size,fun i b' _ _ hT e=>h.other b' (W.lt _ _ _ _ e).1 (own e hT),fun i h0=> ?_,fun i hT h0=> ?_,fun b' _=>by rw[hX],fun b' e=>by rw[hX]at e;exact e,
   fun b' hx=>h.other b' (W.xlt b' (Au hx)) fun hB'=>by obtain⟨j,_,_,_,h4⟩:=hB _ hB';exact Au hx (W.lt _ _ _ _ h4).2⟩
  ·rcases old e with⟨_,h3⟩|⟨_,h3⟩
   ·rcases hb b' h3 with⟨h4,_⟩|⟨j,_,_,_,h5⟩
    ·have:=hD.1;omega
    ·exact hD.2.2 _ _ _ h5
   ·exact hD.2.2 _ _ _ h3
  all_goals rcases h2 i (fun e=>h0 (e▸hf))with e|⟨e,e'⟩
  ·exact .inl e
  ·exact .inr (.inl e')
  ·exact e
  ·exact absurd (hd i e) hT
 refine⟨S,fun i b' k' n' e=> ?_,fun i j b' k' k'' n' n'' e e'=> ?_,W.glob.step S,fun b' hx=>by rw[hX]at hx;have:=W.xlt b' hx;have:=h.size;omega⟩
 ·rw[hX];rcases old e with⟨_,h3⟩|⟨_,h3⟩
  ·rcases hb b' h3 with⟨h4',h4⟩|⟨j,_,_,_,h5⟩
   ·exact⟨h4,Me fun hx=>by have:=W.xlt b' hx;omega⟩
   ·have:=W.lt _ _ _ _ h5;have:=h.size;exact⟨by omega,(W.lt _ _ _ _ h5).2⟩
  ·have:=W.lt _ _ _ _ h3;have:=h.size;exact⟨by omega,(W.lt _ _ _ _ h3).2⟩
 ·rcases old e with⟨h3,h4⟩|⟨h3,h4⟩<;>rcases old e' with⟨g3,g4⟩|⟨g3,g4⟩
  ·rw[h3,g3]
  ·exact(new h4 g3 e').elim
  ·exact(new g4 h3 e).elim
  ·exact W.inj _ _ _ _ _ _ _ h4 g4
theorem Nq{b id k n:Nat}(W:Wf ι w)(hl:ι id= .live (some b) k n)(hT:T id)(h:Chg w w' b):Stp T ι w ι w'/\Wf ι w':=by
 have S:Stp T ι w ι w':=by
  refine⟨⟨h.wld.shape,fun b' hD=>⟨by rw[h.size];exact hD.1,hD.2⟩,fun b' hD=>h.other b' fun e=>hD.2.2 id k n (e▸hl)⟩,h.os,h.tape,h.output,by rw[h.size];exact Xa _,fun i b' _ _ hi e=>h.other b' fun e'=>hi ?_,fun _ _=> .inl rfl,fun _ _ _=>rfl,fun _ _=>rfl,fun _ h=>h,
   fun b' hx=>h.other b' fun e=>Au hx (e▸(W.lt _ _ _ _ hl).2)⟩
  rw[W.inj _ _ _ _ _ _ _ e (e'▸hl)];exact hT
 exact⟨S,fun i b' k' n' e=>by rw[h.size];exact W.lt _ _ _ _ e,W.inj,W.glob.step S,fun b' hx=>by rw[h.size];exact W.xlt b' hx⟩
def qD(ι:Asg)(w:World)(k:Nat)(rows:List (List (EV I.C)))(cur:Array Value):Prop:=
 (∀row∈rows,row.length=k)/\ ∀(i:Nat) (row:List (EV I.C)) (j:Nat) (x:EV I.C),rows[i]? =some row->row[j]? =some x-> ∃v,cur[i*k+j]? =some v/\Rep1 ι w x v
theorem qD.blk(S:Stp T ι w ι' w'){k:Nat}{rows:List (List (EV I.C))}{cur:Array Value}(h:qD ι w k rows cur){b:Nat}{ty:TypeId->Nat->Prop}{ty2:Nat}{fr:Nat×Nat}(h1:w'.heap[b]? =some (.cells cur ty2 fr))(h2:FT ty ty2 fr cur.size)(h3:rows.length*k<=cur.size):
  Blk w' (some b) k ty (rows.map (·.map (RepV ι' w'))):=by
 refine⟨fun row hr=> ?_, .inr ⟨b,cur,fr,_,rfl,h1,h2,by simpa using h3,fun i row j p hi hj=> ?_⟩⟩
 ·obtain⟨r,hr',rfl⟩:=Nb.1 hr;rw[Fb];exact h.1 r hr'
 ·simp only[Ra,Ma]at hi;obtain⟨r,hr,rfl⟩:=hi;simp only[Ra,Ma]at hj;obtain⟨x,hx,rfl⟩:=hj;obtain⟨v,a1,a2,a3⟩:=h.2 i r j x hr hx;exact⟨v,a1,a2,RepV.step S a3⟩
def isR:EO I.C->Bool
 | .cells .. | .sl .. | .slo .. | .rows .. =>true
 |_=>false
def isL:EO I.C->Bool
 | .cells .. | .sl .. | .slo .. | .rows .. | .slq .. =>true
 |_=>false
theorem Zo{id:Nat}{o:EO I.C}(h:isR o=true):Qd P ι w id o↔Cg P ι w id o:=by cases o<;>first|rfl|cases h
def upK(kl:Option Nat)(nx:Nat)(o:EO I.C):EHeap I.C:=(kl.map fun id=>(id,EO.dead)).toList++[(nx,o)]
theorem Done.put {o:EO I.C} {b:Option Nat} {B:Nat->Prop} (W:Wf ι w) (hf:ι nx= .free) (ho:isR o=true) (h:Wld B w w') (kl:Option Nat) (hk: ∀id,kl=some id->ι id≠ .free)
  (hb: ∀b',b=some b'->(w.heap.size<=b'/\b'<w'.heap.size)\/ ∃id k n,kl=some id/\ι id= .live (some b') k n) (hB: ∀b',B b'-> ∃id k n,kl=some id/\ι id= .live (some b') k n)
  (hc: ∀T ι',Stp T ι w ι' w'->Blk w' b (kE P o) (TyOK P (tyE o)) ((Zd o).map (·.map (RepV ι' w')))) {val:EL I.C} {rd:List Nat} {v:Value}
  (hv: ∀T ι',Stp T ι w ι' w'->ι' nx= .live b (kE P o) (Zd o).length->RepL ι' w' val v):Done P ι w nx ⟨val,upK kl nx o,rd,1⟩ v w':=by
 let ι1:Asg:=setA ⟨fun i=>if kl=some i then .dead else ι i,ι.X⟩ nx (.live b (kE P o) (Zd o).length)
 have h1:ι1 nx=_:=zbR ..;have h2: ∀i,i≠nx->ι1 i=ι i\/(kl=some i/\ι1 i= .dead):=fun i hi=>by simp only[ι1,ji _ _ _ hi];split<;>simp_all
 have hd: ∀id,kl=some id->ι1 id= .dead:=fun id e=>by have:id≠nx:=fun e'=>hk id e (e'▸hf);simp[ι1,ji _ _ _ this,e]
 have hT: ∀id,kl=some id->id∈(upK kl nx o).map (·.1):=fun id e=>by simp[upK,e]
 obtain⟨S,W'⟩:=RB (ι':=ι1) (T:=fun i=>i∈(upK kl nx o).map (·.1)) W hf h rfl h1 h2 hT
  (fun b' e=>(hb b' e).imp id fun⟨j,k,n,e1,e2⟩=>⟨j,k,n,hd j e1,e2⟩) (fun b' e=>let⟨j,k,n,e1,e2⟩:=hB b' e;⟨j,k,n,hT j e1,e2⟩)
 refine⟨_,S,W',hv _ _ S h1,fun p hp=> ?_,fun id hi hn=> ?_⟩
 ·have:p=(nx,o)\/p.2= .dead:=by cases kl<;>simp[upK]at hp<;>first|exact .inl hp|(rcases hp with e|e<;>subst e<;>simp)
  rcases this with rfl|e
  ·exact(Zo ho).2 ⟨b,h1,hc _ _ S⟩
  ·rw[e];trivial
 ·rcases h2 id (by simp at hn;omega)with e|⟨e,_⟩
  ·rw[e];exact hi
  ·exact absurd hi (hk id e)
theorem Done.growA {o:EO I.C} {cur:Array Value} {ty2:Nat} {fr:Nat×Nat} (W:Wf ι w) (hf:ι nx= .free) (ho:isR o=true) (g:Grew w w' (.cells cur ty2 fr)) (hfr:FT (TyOK P (tyE o)) ty2 fr cur.size) (hc:qD ι w (kE P o) (Zd o) cur) (hs:(Zd o).length*kE P o<=cur.size)
  (kl:Option Nat) (hk: ∀id,kl=some id->ι id≠ .free) {val:EL I.C} {rd:List Nat} {v:Value}
  (hv: ∀T ι',Stp T ι w ι' w'->ι' nx= .live (some w.heap.size) (kE P o) (Zd o).length->RepL ι' w' val v):Done P ι w nx ⟨val,upK kl nx o,rd,1⟩ v w':=
 .put W hf ho g.wld kl hk (fun b' e=>by cases e;exact .inl ⟨Xa _,by rw[g.size];omega⟩) (fun _ h=>h.elim) (fun _ _ S=>hc.blk S g.new hfr hs) hv
theorem Done.grow {o:EO I.C} {cur:Array Value} {fr:Nat×Nat} (W:Wf ι w) (hf:ι nx= .free) (ho:isR o=true) (g:Grew w w' (.cells cur (tyE o) fr)) (hfr:frOK fr cur.size) (hc:qD ι w (kE P o) (Zd o) cur) (hs:(Zd o).length*kE P o<=cur.size)
  (kl:Option Nat) (hk: ∀id,kl=some id->ι id≠ .free) {val:EL I.C} {rd:List Nat} {v:Value}
  (hv: ∀T ι',Stp T ι w ι' w'->ι' nx= .live (some w.heap.size) (kE P o) (Zd o).length->RepL ι' w' val v):Done P ι w nx ⟨val,upK kl nx o,rd,1⟩ v w':=
 .growA W hf ho g ⟨hfr, .inl rfl⟩ hc hs kl hk hv
theorem EA{cur:Array Value}{t:Nat}{fr:Nat×Nat}{b k n c:Nat}(h:w.heap[b]? =some (.cells cur t fr))(h1:n<=c)(h2:c<=maxLen)(h3:c*k<=cur.size):SlAt w (some b) k 0 n (.slice (some ⟨b,0,none⟩) n c):=
 .inr ⟨b,c,t,cur.size,_,rfl,rfl, .inr (by simp),h1,h2,by simp[World.shape?,h],by simpa using h3⟩
theorem dm{id:Nat}{b:Option Nat}{k n:Nat}{v:Value}(e:ι id= .live b k n)(h:SlAt w b k 0 n v):RepT (I:=I) ι w (.c (.own id)) v:=by refine⟨?_,by show SlS ι w (ι id) none v;rw[e];exact h⟩;rcases h with⟨_,_,rfl⟩|⟨_,_,_,_,_,_,rfl,_⟩<;>rfl
theorem NW{id:Nat}{b k n:Nat}(e:ι id= .live (some b) k n):RepT (I:=I) ι w (.c (.optr id 0 0)) (.pointer (some ⟨b,0,none⟩)):=
 ⟨rfl,by show PtAt (ι id) 0 0 _;rw[e];exact⟨b,rfl,by simp⟩⟩
theorem KN{id t e:Nat}{l:List (List (I.C e))}{c:EV I.C}(h:Qd P ι w id (.slq t e l c)): ∃rs,rs.length=l.length/\Cg P ι w id (.rows t 1 (rs++[[c]])):=by obtain⟨S,z,h⟩:=h;exact⟨_,by simp[af,z.1],h⟩
theorem Mx{i:Nat}{o:EO I.C}(ho:isL o=true)(hh:Qd P ι w i o): ∃b k n,ι i= .live b k n:=by
 cases o with
 |slq t e l c=>obtain⟨_,_,b,e,_⟩:=hh;exact⟨_,_,_,e⟩
 |dead=>cases ho
 |frz t l=>cases ho
 |mp kd l=>cases ho
 |_=>obtain⟨b,e,_⟩:=hh;exact⟨_,_,_,e⟩
end
def InjM(m:Mp):Prop:= ∀i j a,lk m i=some (some a)->lk m j=some (some a)->i=j
def Ext(m m':Mp):Prop:=(∀i z,lk m i=some z->lk m' i=some z)/\(InjM m->InjM m')
theorem Ext.refl(m:Mp):Ext m m:=⟨fun _ _ h=>h,id⟩
theorem Ext.trans{a b c:Mp}(h:Ext a b)(g:Ext b c):Ext a c:=⟨fun i z e=>g.1 i z (h.1 i z e),fun e=>g.2 (h.2 e)⟩
def Cmp(ι ι2:Asg)(ks:Nat->Nat)(m:Mp):Prop:= ∀i z,lk m i=some z->match z with|some a=>ι2 i=ι a/\ ∀b,ι.X b= .inn a->ι2.X b= .inn i|none=>ι2 i= .live none (ks i) 0
theorem Cmp.ext{ι ι2:Asg}{ks:Nat->Nat}{m m':Mp}(h:Cmp ι ι2 ks m')(e:Ext m m'):Cmp ι ι2 ks m:=fun i z hz=>h i z (e.1 i z hz)
theorem Z9{α:Type}{j:Nat}{x:α}{r:List (Nat×α)}{i:Nat}:lk ((j,x)::r) i=if i=j then some x else lk r i:=by
 simp only[lk];by_cases h:i=j
 ·subst h;simp
 ·rw[Oa h];have:Nat.beq i j=false:=by cases hb:Nat.beq i j with|false=>rfl|true=>exact absurd (La hb) h
  rw[this];rfl
theorem GD: ∀{m:Mp} {a:Nat},Xr m a=false-> ∀i,lk m i≠some (some a)
 |[],_,_,i,h=>by cases h
 |(j,z)::r,a,hu,i,h=>by
  rw[Z9]at h;cases z with
  |none=>
   split at h
   ·cases h
   ·exact GD (m:=r) (by simpa [Xr] using hu) i h
  |some b=>
   simp only[Xr]at hu;cases hb:Nat.beq a b with
   |true=>rw[hb]at hu;cases hu
   |false=>
    rw[hb]at hu;split at h
    ·injection h with h;injection h with h;subst h;simp at hb
    ·exact GD (m:=r) hu i h
theorem Hq{m m':Mp}{i:Nat}{a:Option Nat}(h:bndM m i a=some m'):Ext m m'/\lk m' i=some a:=by
 unfold bndM at h;split at h
 ·rename_i b hb;cases a with
  |none=>cases h
  |some a=> cases hab:Nat.beq a b<;>simp only[hab,Ca,Ba,reduceCtorEq,Option.some.injEq]at h;subst h;rw[La hab];exact⟨.refl _,hb⟩
 ·cases h
 ·rename_i hn;have ext: ∀z,m'=(i,z)::m-> ∀j y,lk m j=some y->lk m' j=some y:=fun z e j y hj=>by rw[e,Z9,Oa (fun e=>by rw[e,hn]at hj;cases hj)];exact hj
  cases a with
  |none=>
   cases h;refine⟨⟨ext none rfl,fun hi j k b hj hk=> ?_⟩,by rw[Z9,Sa rfl]⟩;rw[Z9]at hj hk;split at hj<;>split at hk<;>first|(cases hj;done)|(cases hk;done)|exact hi j k b hj hk
  |some a=>
   cases hu:Xr m a<;>simp only[hu,Ca,Ba,reduceCtorEq,Option.some.injEq]at h;subst h;refine⟨⟨ext (some a) rfl,fun hi j k b hj hk=> ?_⟩,by rw[Z9,Sa rfl]⟩;rw[Z9]at hj hk;split at hj<;>split at hk
   ·rename_i e1 e2;rw[e1,e2]
   ·injection hj with hj;injection hj with hj;subst hj;exact absurd hk (GD hu k)
   ·injection hk with hk;injection hk with hk;subst hk;exact absurd hj (GD hu j)
   ·exact hi j k b hj hk
section
variable {I:Ip} {P:Program}
inductive WkP:PV->PV->Prop where
 |refl (x:PV):WkP x x
 |nil:WkP (.at (.slice none 0 0)) (.sl [])
structure IpOK (P:Program) (I:Ip):Prop where
 len: ∀t x,(I.full t x).length=P.cellsOf t
 exp: ∀t x,I.full t x=(I.exp t x).map (pvE I)
 pur: ∀t x,∀v∈I.exp t x,Sl v=true
 made: ∀t cs x,I.made t cs=some x->(∀v∈cs,Sl v=true)/\cs.length=(I.full t x).length/\ ∀(j:Nat) (a b:PV),(cs.map (pvE I))[j]? =some a->(I.full t x)[j]? =some b->WkP a b
 byt: ∀t p,I.byt t=some p->(∀l,(p.1 l).map (I.full t)=l.map fun b=>[.at (.int .u8 b.toNat)])/\(∀l,l.map (I.full t)=(p.2 l).map fun b=>[.at (.int .u8 b.toNat)])/\kdOf P t= .int .u8
theorem WkP.rep{D:Nat->Prop}{w:World}{a b:PV}(h:WkP a b){v:Value}(hv:RepP D w a v):RepP D w b v:=by
 cases h with
 |refl=>exact hv
 |nil=>cases hv;exact .sl [] none 0 0 0 0 0 (fun _ _=>undef) rfl (Xa _) (fun h=>absurd h (by omega)) (fun h=>absurd h (by omega)) (by simp) (by simp) (by simp)
theorem uh{ι:Asg}{w:World}{x:EV I.C}(h:Sl x=true){v:Value}:RepV ι w x v↔RepP (Dom ι w) w (pvE I x) v:=by cases x<;>first|rfl|cases h
theorem Al(hI:IpOK P I)(t:Nat)(x:I.C t):(I.exp t x).length=P.cellsOf t:=by rw[<-hI.len t x,hI.exp,Fb]
theorem Gq(hI:IpOK P I){t:Nat}{x:I.C t}{j:Nat}{y:EV I.C}(h:(I.exp t x)[j]? =some y):(I.full t x)[j]? =some (pvE I y)/\Sl y=true:=⟨by rw[hI.exp,Ra,h];rfl,hI.pur t x y (ma h)⟩
def LesC(ι:Asg)(w:World)(ι2:Asg)(cs cs':List (EV I.C)):Prop:=cs'.length=cs.length/\ ∀(j:Nat) (a b:EV I.C),cs[j]? =some a->cs'[j]? =some b-> ∀v,v.oneCell'=true->RepV ι w a v->RepV ι2 w b v
theorem kN(hI:IpOK P I){t:Nat}{cs:List (EV I.C)}{x:I.C t}(h:I.made t cs=some x):cs.length=P.cellsOf t/\ ∀{ι ι2:Asg} {w:World},Conv ι w ι2 w->LesC ι w ι2 cs (I.exp t x):=by obtain⟨h1,h2,h3⟩:=hI.made t cs x h;rw[hI.len]at h2;refine⟨h2,fun hC=>⟨by rw[Al hI,h2],fun j a b ha hb v _ hv=> ?_⟩⟩;obtain⟨e1,e2⟩:=Gq hI hb;exact(uh e2).2 (((h3 j _ _ (by rw[Ra,ha];rfl) e1).rep ((uh (h1 a (ma ha))).1 hv)).conv hC)
theorem qi{t u:Nat}{x:List (I.C u)}{y:List (I.C t)}(hc:Xg I x=some y):u=t/\HEq x y:=by
 unfold Xg at hc;split at hc
 ·rename_i he _;subst he;cases hc;exact⟨rfl, .rfl⟩
 ·cases hc
theorem zFO{t u:Nat}{x:I.C u}{y:I.C t}(hc:pM I x=some y):u=t/\HEq x y:=by
 unfold pM at hc;split at hc
 ·rename_i he _;subst he;cases hc;exact⟨rfl, .rfl⟩
 ·cases hc
theorem jm{a b:IntKind}(h:eqIK a b=true):a=b:=by cases a<;>cases b<;>first|rfl|cases h
theorem Zb{R:Type}{r0:R}{b:Bool}{x:Option R}(h:cond b x none=some r0):b=true/\x=some r0:=by cases b<;>first|exact⟨rfl,h⟩|cases h
def RU(P:Program)(s:Shp I):Prop:=(s.u=true-> ∀x,s.enc x=s.enc s.dflt)/\ ∀a m x m',s.mat a m=some (x,m')->Ext m m'/\ ∀{ι ι2:Asg} {w:World} {ks:Nat->Nat},Conv ι w ι2 w->Cmp ι ι2 ks m'-> ∀v,RepT ι w a v->RepT ι2 w (s.enc x) v
theorem Rq{x:ET I.C}{mat:ET I.C->Mp->Option Mp}(h: ∀a m m',mat a m=some m'->Ext m m'/\ ∀{ι ι2:Asg} {w:World} {ks:Nat->Nat},Conv ι w ι2 w->Cmp ι ι2 ks m'-> ∀v,RepT ι w a v->RepT ι2 w x v):RU P (Jm I x mat):=
 ⟨fun _ _=>rfl,fun a m y m' he=>by
  simp only[Jm]at he;split at he<;>cases he;exact h a m m' (by assumption)⟩
theorem Conv.c{ι ι2:Asg}{w w':World}(h:Conv ι w ι2 w'){x:EV I.C}(hp:oh x=[]){v:Value}(hv:RepT ι w (.c x) v):RepT ι2 w' (.c x) v:=by rw[<-NN (.c x)];exact hv.ren h fun i hi=>by rw[show RN (.c x)=oh x from rfl,hp]at hi;cases hi
theorem Rm{ι ι2:Asg}{w w':World}{i j:Nat}(h:ι2 j=ι i):Slw ι ι2 w w' i j:=fun _=> .inl h
theorem EX: ∀{caps:List Nat} {l:List (Nat×Nat×Nat)} {m m':Mp},DD caps l m=some m'->Ext m m'/\l.length=caps.length/\ ∀(j:Nat) i q,caps[j]? =some i->l[j]? =some q->q.2=(0,0)/\lk m' i=some (some q.1)
 |[],[],m,m',h=>by cases h;exact⟨.refl _,rfl,by simp⟩
 |[],_::_,_,_,h=>by cases h
 |_::_,[],_,_,h=>by cases h
 |i::r,(a,b,c)::s,m,m',h=>by
  unfold DD at h;split at h<;>try (cases ‹_::_=[]›;done)
  ·rename_i e1 e2;cases e1;cases e2;split at h
   ·rename_i m1 hm;obtain⟨e1,e2⟩:=Hq hm;obtain⟨g1,g2,g3⟩:=EX h;refine⟨e1.trans g1,by simp[g2],fun j k q hk hq=> ?_⟩;cases j with
    |zero=>cases hk;cases hq;exact⟨rfl,g1.1 _ _ e2⟩
    |succ j=>exact g3 j k q hk hq
   ·cases h
  ·cases h
theorem zOm(hI:IpOK P I): ∀s:Sh,RU P (s.shp I):=by
 intro s;cases s with
 |own i=>
  refine Rq fun a m m' he=> ?_;split at he
  ·obtain⟨e1,e2⟩:=Hq he;exact⟨e1,fun hC hc v hv=>⟨hv.1,SlS.conv hC (Rm (hc i _ e2).1) hv.2⟩⟩
  ·obtain⟨e1,e2⟩:=Hq he;refine⟨e1,fun hC hc v hv=>⟨hv.1,?_⟩⟩;have:=hc i _ e2;show SlS _ _ _ none v;rw[this];cases hv.2;exact .inl ⟨rfl,rfl,rfl⟩
  ·cases he
 |optr i=>
  refine Rq fun a m m' he=> ?_;split at he
  ·obtain⟨e1,e2⟩:=Hq he;exact⟨e1,fun hC hc v hv=>⟨hv.1,PtAt.conv (w:=default) (w':=default) (Rm (hc i _ e2).1) hv.2⟩⟩
  ·cases he
 |clo f caps=>
  refine Rq fun a m m' he=> ?_;split at he
  ·rename_i g l;obtain⟨hf,h9⟩:=Zb he;clear he;obtain rfl:=La hf;obtain⟨e1,e2,e3⟩:=EX h9;refine⟨e1,fun hC hc v ⟨h1,vs,h2,h3,h4⟩=>⟨h1,vs,h2,by rw[h3,e2,Fb],fun j q hq=> ?_⟩⟩;simp only[Ra,Ma]at hq;obtain⟨i,hi,rfl⟩:=hq;obtain⟨q,hq⟩: ∃q,l[j]? =some q:=⟨_,Ta (by rw[e2];exact(Ja.1 hi).1)⟩;obtain⟨u,g1,g2,g3⟩:=h4 j q hq;obtain⟨k1,k2⟩:=e3 j i q hi hq;rw[show q.2.1=0 by rw[k1],show q.2.2=0 by rw[k1]]at g3;exact⟨u,g1,g2,PtAt.conv (w:=default) (w':=default) (Rm (hc i _ k2).1) g3⟩
  ·cases he
 |nilp=>exact Rq fun a m m' he=>by split at he<;>cases he;exact⟨.refl _,fun hC _ v hv=>hC.c rfl hv⟩
 |nili=>exact Rq fun a m m' he=>by split at he<;>cases he;exact⟨.refl _,fun hC _ v hv=>hC.c rfl hv⟩
 |nop i ty n=>
  refine Rq fun a m m' he=> ?_;split at he
  ·obtain⟨hk,h9⟩:=Zb he;clear he;simp only[Da]at hk;obtain rfl:=La hk.1;obtain rfl:=La hk.2;obtain⟨e1,e2⟩:=Hq h9;exact⟨e1,fun hC hc v hv=>⟨hv.1,zNc.conv (fun _ _ h=>h) (Rm (hc i _ e2).1) hv.2⟩⟩
  ·cases he
 |agi i k=>
  refine⟨fun h=>(by cases h),fun a m x m' he=> ?_⟩;simp only[Sh.shp]at he;split at he
  ·obtain⟨hk,he⟩:=Zb he;obtain rfl:=jm hk;split at he
   ·rename_i m1 hm;cases he;obtain⟨e1,e2⟩:=Hq hm;refine⟨e1,fun hC hc v ⟨vs,h1,h2,h3⟩=>⟨vs,h1,h2,fun j b hb=> ?_⟩⟩;rcases j with _|_|j
    ·cases hb;obtain⟨u,a1,a2,a3⟩:=h3 0 _ rfl;exact⟨u,a1,a2,SlS.conv hC (Rm (hc i _ e2).1) a3⟩
    ·cases hb;obtain⟨u,a1,a2,a3⟩:=h3 1 _ rfl;exact⟨u,a1,a2,RepP.conv hC a3⟩
    ·cases hb
   ·cases he
  ·cases he
 |nilv=>exact Rq fun a m m' he=>by split at he<;>cases he;exact⟨.refl _,fun hC _ v hv=>hC.c rfl hv⟩
 |sl t=>
  refine⟨fun h=>(by cases h),fun a m x m' he=> ?_⟩;simp only[Sh.shp]at he;split at he
  ·split at he<;>cases he;rename_i hc;obtain⟨rfl,hc⟩:=qi hc;cases hc;exact⟨.refl _,fun hC _ v hv=>hC.c rfl hv⟩
  ·cases he;exact⟨.refl _,fun hC _ v hv=>⟨hv.1,WkP.nil.rep (RepP.conv hC hv.2)⟩⟩
  ·cases he
 |val t=>
  refine⟨fun h=>(by cases h),fun a m x m' he=> ?_⟩;simp only[Sh.shp]at he;split at he
  ·obtain⟨y,hy,he⟩:=Ka.1 he;cases he;refine⟨.refl _,fun hC _ v ⟨vs,h1,h2,h3⟩=> ?_⟩;obtain⟨l1,l2⟩:=(kN hI hy).2 hC;refine⟨vs,h1,h2.trans l1.symm,fun j b hb=> ?_⟩;have ha:=Ta (show j<_ by rw[<-l1];exact(Ja.1 hb).1);obtain⟨u,a1,a2,a3⟩:=h3 j _ ha;exact⟨u,a1,a2,l2 j _ b ha hb u a2 a3⟩
  ·cases he
 |ptr t=>
  refine⟨fun h=>(by cases h),fun a m x m' he=> ?_⟩;simp only[Sh.shp]at he;split at he
  ·split at he<;>cases he;rename_i hc;obtain⟨rfl,hc⟩:=zFO hc;cases hc;exact⟨.refl _,fun hC _ v hv=>hC.c rfl hv⟩
  ·cases he
 |int k=>
  refine⟨fun h=>(by cases h),fun a m x m' he=> ?_⟩;simp only[Sh.shp]at he;split at he
  ·obtain⟨hk,he⟩:=Zb he;obtain rfl:=jm hk;cases he;exact⟨.refl _,fun hC _ v hv=>hC.c rfl hv⟩
  ·cases he
 |ifb=>
  refine⟨fun h=>(by cases h),fun a m x m' he=> ?_⟩;simp only[Sh.shp]at he;split at he<;>cases he;exact⟨.refl _,fun _ _ v hv=>hv⟩
 |_=> refine⟨fun h=>(by cases h),fun a m x m' he=> ?_⟩;simp only[Sh.shp]at he;split at he<;>cases he;exact⟨.refl _,fun hC _ v hv=>hC.c rfl hv⟩
def VLaw(P:Program)(s:VL I):Prop:=(s.u=true-> ∀x,s.enc x=s.enc s.dflt)/\ ∀as m x m',s.mat as m=some (x,m')->Ext m m'/\(s.enc x).length=as.length/\ ∀{ι ι2:Asg} {w:World} {ks:Nat->Nat},Conv ι w ι2 w->Cmp ι ι2 ks m'->
 ∀(j:Nat) a b,as[j]? =some a->(s.enc x)[j]? =some b-> ∀v,RepT ι w a v->RepT ι2 w b v
theorem GI(hI:IpOK P I): ∀l:List Sh,VLaw P (vlOf I l)
 |[]=>⟨fun _ _=>rfl,fun as m x m' he=>by
  simp only[vlOf,VL.nil]at he;split at he<;>cases he;exact⟨.refl _,rfl,fun _ _ j a b h=>by cases h⟩⟩
 |s::r=>by
  obtain⟨s1,s2⟩:=zOm hI s;obtain⟨r1,r2⟩:=GI hI r;have main: ∀(as:List (ET I.C)) (m m1 m':Mp) a as' y z,as=a::as'->(s.shp I).mat a m=some (y,m1)->(vlOf I r).mat as' m1=some (z,m')->Ext m m'/\((s.shp I).enc y::(vlOf I r).enc z).length=as.length/\
    ∀{ι ι2:Asg} {w:World} {ks:Nat->Nat},Conv ι w ι2 w->Cmp ι ι2 ks m'-> ∀(j:Nat) a b,as[j]? =some a->((s.shp I).enc y::(vlOf I r).enc z)[j]? =some b-> ∀v,RepT ι w a v->RepT ι2 w b v:=by
   intro as m m1 m' a as' y z e h1 h2;subst e;obtain⟨e1,f1⟩:=s2 _ _ _ _ h1;obtain⟨e2,l2,f2⟩:=r2 _ _ _ _ h2;refine⟨e1.trans e2,by simp[l2],fun hC hc j a b ha hb v hv=> ?_⟩;cases j with
   |zero=>cases ha;cases hb;exact f1 hC (hc.ext e2) v hv
   |succ j=>exact f2 hC hc j a b ha hb v hv
  show VLaw P (VL.cons (s.shp I) (vlOf I r));unfold VL.cons;split
  ·rename_i hu;refine⟨fun h x=>by show _::_=_::_;rw[r1 h],fun as m x m' he=> ?_⟩;cases as with
   |nil=>cases he
   |cons a as=> obtain⟨⟨y,m1⟩,h1,h2⟩:=Ka.1 he;have:=main _ m m1 m' a as y x rfl h1 h2;rw[s1 hu y]at this;exact this
  ·rename_i hu;refine⟨fun h=>(by cases h),fun as m x m' he=> ?_⟩;cases as with
   |nil=>cases he
   |cons a as=> obtain⟨⟨y,m1⟩,h1,he⟩:=Ka.1 he;obtain⟨⟨z,m2⟩,h2,he⟩:=Ka.1 he;cases he;have:=main _ m m1 m2 a as y z rfl h1 h2;rw[r1 hu z]at this;exact this
  ·refine⟨fun h=>(by cases h),fun as m x m' he=> ?_⟩;cases as with
   |nil=>cases he
   |cons a as=> obtain⟨⟨y,m1⟩,h1,he⟩:=Ka.1 he;obtain⟨⟨z,m2⟩,h2,he⟩:=Ka.1 he;cases he;exact main _ m m1 m2 a as y z rfl h1 h2
theorem Yl{ι ι2:Asg}{w:World}{a i:Nat}{o o':EO I.C}(hh:Cg P ι w a o)(hs:ι2 i=ι a)(h1:kE P o'=kE P o)(h2:tyE o'=tyE o)(h3:(Zd o').length=(Zd o).length)(h4: ∀(j:Nat) r r',(Zd o)[j]? =some r->(Zd o')[j]? =some r'->LesC ι w ι2 r r'):Cg P ι2 w i o':=by obtain⟨b,e,hb⟩:=hh;refine⟨b,by rw[h1,h3,hs];exact e,?_⟩;rw[h1,h2];refine hb.les (fun _ _=>rfl) ⟨by simp[h3],fun j x x' hx hx'=> ?_⟩;simp only[Ra,Ma]at hx hx';obtain⟨y,hy,rfl⟩:=hx;obtain⟨y',hy',rfl⟩:=hx';obtain⟨l1,l2⟩:=h4 j y y' hy hy';refine⟨by simp[l1],fun k p p' hp hp' v h1=> ?_⟩;simp only[Ra,Ma]at hp hp';obtain⟨z,hz,rfl⟩:=hp;obtain⟨z',hz',rfl⟩:=hp';exact l2 k z z' hz hz' v h1
theorem WO(hI:IpOK P I){ι ι2:Asg}{w:World}(hC:Conv ι w ι2 w)(t:Nat)(x:I.C t):LesC ι w ι2 (I.exp t x) (I.exp t x):=
 ⟨rfl,fun j a b ha hb v _ hv=>by rw[ha]at hb;cases hb;have:=hI.pur t x a (ma ha);exact(uh this).2 (((uh this).1 hv).conv hC)⟩
theorem zFP{t u:Nat}{x:List (List (I.C u))}{y:List (List (I.C t))}(hc:oM I x=some y):u=t/\HEq x y:=by
 unfold oM at hc;split at hc
 ·rename_i he _;subst he;cases hc;exact⟨rfl, .rfl⟩
 ·cases hc
theorem ED{e:Nat}: ∀{l:List (List (I.C e))} {S:List (Option (Nat×Nat))} {r:List (EV I.C)},r∈af P e l S-> ∃p,r=[.prd p]
 |[],S,r,h=>by simp[af]at h
 |m::l,[],r,h=>by simp[af]at h
 |m::l,s::S,r,h=>by
  rcases Jb.1 (show r∈[EV.prd _]::af P e l S from h)with rfl|h
  ·exact⟨_,rfl⟩
  ·exact ED h
theorem gN{ι ι2:Asg}{w:World}{a i t e:Nat}{l:List (List (I.C e))}{c c':EV I.C}(h:sM P ι w a t e l c)(hs:ι2 i=ι a)(hX: ∀b,ι.X b= .inn a->ι2.X b= .inn i)(hC:Conv ι w ι2 w)(hc: ∀v,v.oneCell'=true->RepV ι w c v->RepV ι2 w c' v):sM P ι2 w i t e l c':=by
 obtain⟨S,⟨z1,z2,z3⟩,hr⟩:=h;refine⟨S,⟨z1,z2,fun j m s hm hs=> ?_⟩,Yl (o:= .rows t 1 (af P e l S++[[c]])) (o':= .rows t 1 (af P e l S++[[c']])) hr hs rfl rfl (by simp[Zd]) fun j r r' hr hr'=> ?_⟩
 ·have:=z3 j m s hm hs;cases s with
  |none=>exact this
  |some s=>exact⟨hX _ this.1,this.2.1,this.2.2.les (fun _ _=>rfl) (Les.map (fun _ _ h=>h.conv hC) _)⟩
 ·simp only[Zd]at hr hr';rw[Ec]at hr hr';split at hr
  ·rename_i hj;rw[Sa hj,hr]at hr';cases hr';obtain⟨p,rfl⟩:=ED (ma hr);refine⟨rfl,fun k x y hx hy v _ hv=> ?_⟩;rw[hx]at hy;cases hy;cases k with
   |zero=>cases hx;exact hv
   |succ k=>cases hx
  ·rename_i hj;rw[Oa hj]at hr';generalize j - (af P e l S).length=n at hr hr';cases n with
   |zero=>
    cases hr;cases hr';refine⟨rfl,fun k x y hx hy v ho hv=> ?_⟩;cases k with
    |zero=>cases hx;cases hy;exact hc v ho hv
    |succ k=>cases hx
   |succ n=>cases hr
def OLaw(P:Program)(t0:Option Nat)(s:OShp I):Prop:=(s.u=true-> ∀x,s.enc x=s.enc s.dflt)/\ ∀o m x m',s.mat o m=some (x,m')->Ext m m'/\ ∀{ι ι2:Asg} {w:World} {ks:Nat->Nat},Conv ι w ι2 w->Cmp ι ι2 ks m'->
 match o with
 |some o=> ∀a i,Qd P ι w a o->(ι2 i=ι a/\ ∀b,ι.X b= .inn a->ι2.X b= .inn i)->Qd P ι2 w i (s.enc x)
 |none=> ∀i,(∀t,t0=some t->ι2 i= .live none (P.cellsOf t) 0)->Qd P ι2 w i (s.enc x)
theorem FV{as:List (EV I.C)}{bs:List (ET I.C)}{ι ι2:Asg}{w:World}(hl:bs.length=(as.map ET.c).length)(h: ∀(j:Nat) a b,(as.map ET.c)[j]? =some a->bs[j]? =some b-> ∀v,RepT ι w a v->RepT ι2 w b v):LesC ι w ι2 as (bs.map (evOf I)):=by
 refine⟨by simpa using hl,fun j a b ha hb v h1 hv=> ?_⟩;simp only[Ra,Ma]at hb;obtain⟨c,hc,rfl⟩:=hb;have:=h j (.c a) c (by rw[Ra,ha];rfl) hc v ⟨h1,hv⟩;cases c with
 |c y=>exact this.2
 |agg xs=>obtain⟨vs,rfl,_⟩:=this;simp[Value.oneCell']at h1
def slT:OSh->Option Nat
 | .sl t=>some t
 |_=>none
theorem zMz(hI:IpOK P I)(s:OSh):OLaw P (slT s) (s.shp I):=by
 cases s with
 |sl t=>
  refine⟨fun h=>(by cases h),fun o m x m' he=> ?_⟩;simp only[OSh.shp]at he;split at he
  ·split at he<;>cases he;rename_i hc;obtain⟨rfl,hc⟩:=qi hc;cases hc;exact⟨.refl _,fun hC _ a i hh hs=>Yl (o':= .sl _ _) hh hs.1 rfl rfl rfl fun j r r' hr hr'=>by
    rw[hr]at hr';cases hr';simp only[Zd,Ra,Ma]at hr;obtain⟨y,_,rfl⟩:=hr;exact WO hI hC _ y⟩
  ·cases he;exact⟨.refl _,fun _ _ i hi=>⟨none,hi t rfl,fun row hr=>absurd hr (Pe), .inl ⟨rfl,rfl⟩⟩⟩
  ·cases he
 |row t=>
  refine⟨fun h=>(by cases h),fun o m x m' he=> ?_⟩;simp only[OSh.shp]at he;split at he
  ·obtain⟨ht,h9⟩:=Zb he;clear he;obtain rfl:=La ht;obtain⟨y,hy,he⟩:=Ka.1 h9;cases he;obtain⟨l1,l2⟩:=kN hI hy;refine⟨.refl _,fun hC _ a i hh hs=>Yl hh hs.1 ?_ rfl rfl fun j r r' hr hr'=> ?_⟩
   ·exact(Al hI _ _).trans l1.symm
   ·cases j with
    |zero=>cases hr;cases hr';exact l2 hC
    |succ j=>cases hr
  ·cases he
 |cells ty shs=>
  obtain⟨v1,v2⟩:=GI hI shs;refine⟨fun h x=>by simp only[OSh.shp]at h ⊢;rw[v1 h x],fun o m x m' he=> ?_⟩;simp only[OSh.shp]at he;split at he
  ·obtain⟨ht,h9⟩:=Zb he;clear he;obtain rfl:=La ht;obtain⟨e,l1,l2⟩:=v2 _ _ _ _ h9;refine⟨e,fun hC hc a i hh hs=> ?_⟩;have l3:=FV l1 (l2 hC hc);refine Yl hh hs.1 (by simp only[OSh.shp,kE];exact l3.1) rfl rfl fun j r r' hr hr'=> ?_;cases j with
   |zero=>cases hr;cases hr';exact l3
   |succ j=>cases hr
  ·cases he
 |slo t shs=>
  obtain⟨v1,v2⟩:=GI hI shs;have main: ∀{l1 l2:List (I.C t)} {cs m x m'},(vlOf I shs).mat (cs.map .c) m=some (x,m')->Ext m m'/\ ∀{ι ι2:Asg} {w:World} {ks:Nat->Nat},Conv ι w ι2 w->Cmp ι ι2 ks m'-> ∀a i,Qd P ι w a (.slo t l1 cs l2)->(ι2 i=ι a/\ ∀b,ι.X b= .inn a->ι2.X b= .inn i)->Qd P ι2 w i (.slo t l1 (((vlOf I shs).enc x).map (evOf I)) l2):=by
   intro l1 l2 cs m x m' h;obtain⟨e,q1,q2⟩:=v2 _ _ _ _ h;refine⟨e,fun hC hc a i hh hs=> ?_⟩;have l3:=FV q1 (q2 hC hc);refine Yl hh hs.1 rfl rfl (by simp[Zd]) fun j r r' hr hr'=> ?_;simp only[Zd]at hr hr';rw[Ec]at hr hr';split at hr<;>rename_i hj
   ·rw[Sa hj,hr]at hr';cases hr';simp only[Ra,Ma]at hr;obtain⟨y,_,rfl⟩:=hr;exact WO hI hC _ y
   ·rw[Oa hj]at hr';cases hk:j - (l1.map (I.exp t)).length with
    |zero=>rw[hk]at hr hr';cases hr;cases hr';exact l3
    |succ n=> rw[hk]at hr hr';simp only[rf]at hr hr';rw[hr]at hr';cases hr';simp only[Ra,Ma]at hr;obtain⟨y,_,rfl⟩:=hr;exact WO hI hC _ y
  show OLaw P none (Js t (vlOf I shs));unfold Js;split
  ·rename_i hu;refine⟨fun h=>(by cases h),fun o m x m' he=> ?_⟩;dsimp only at he;split at he
   case h_2=>cases he
   split at he
   case h_2=>cases he
   rename_i c1 c2;obtain⟨rfl,c1⟩:=qi c1;cases c1;obtain⟨_,c2⟩:=qi c2;cases c2;obtain⟨⟨y,m1⟩,h1,he⟩:=Ka.1 he;cases he;obtain⟨e,f⟩:=main h1;refine⟨e,fun hC hc a i hh hs=> ?_⟩;have:=f hC hc a i hh hs;rw[v1 hu y]at this;exact this
  ·refine⟨fun h=>(by cases h),fun o m x m' he=> ?_⟩;dsimp only at he;split at he
   case h_2=>cases he
   split at he
   case h_2=>cases he
   rename_i c1 c2;obtain⟨rfl,c1⟩:=qi c1;cases c1;obtain⟨_,c2⟩:=qi c2;cases c2;obtain⟨⟨y,m1⟩,h1,he⟩:=Ka.1 he;cases he;exact main h1
 |slq t e j=>
  refine⟨fun h=>(by cases h),fun o m x m' he=> ?_⟩;have he:(qShp I t e j).mat o m=some (x,m'):=he;simp only[qShp]at he;split at he
  case h_2=>cases he
  obtain⟨hu,he'⟩:=Zb he;clear he;obtain rfl:=La hu;split at he'
  case h_3=>cases he'
  all_goals
   rename_i hc;obtain⟨m1,h1,h2⟩:=Ka.1 he';cases h2;obtain⟨rfl,hc⟩:=zFP hc;cases hc;obtain⟨e1,e2⟩:=Hq h1
  ·exact⟨e1,fun hC hc a i hh hs=>gN hh hs.1 hs.2 hC fun v _ hv=>SlS.conv hC (Rm (hc j _ e2).1) hv⟩
  ·refine⟨e1,fun hC hc a i hh hs=>gN hh hs.1 hs.2 hC fun v _ hv=> ?_⟩;have:=hc j _ e2;show SlS _ _ _ none v;rw[this];cases hv;exact .inl ⟨rfl,rfl,rfl⟩
theorem mO(s:OSh)(x:(s.shp I).T):isL ((s.shp I).enc x)=true:=by
 cases s with
 |slo t shs=> revert x;show∀x:(Js t (vlOf I shs)).T,isL ((Js t (vlOf I shs)).enc x)=true;unfold Js;split<;>exact fun _=>rfl
 |_=>rfl
theorem sU: ∀(l:List (Nat×OSh)) (x:(olOf I l).T),∀p∈(olOf I l).enc x,isL p.2=true
 |[],_,p,hp=>by cases hp
 |(i,s)::r,x,p,hp=>by revert x;show∀x:(OL.cons i (s.shp I) (olOf I r)).T,p∈(OL.cons i (s.shp I) (olOf I r)).enc x->_;unfold OL.cons;split<;>intro x hp<;>rcases Jb.1 hp with rfl|hp<;>first|exact mO s _|exact sU r _ p hp
def OLLaw(P:Program)(objs:List (Nat×OSh))(s:OL I):Prop:=(s.u=true-> ∀x,s.enc x=s.enc s.dflt)/\(∀x,(s.enc x).map (·.1)=objs.map (·.1))/\ ∀h m x m',s.mat h m=some (x,m')->Ext m m'/\(∀o∈objs,∃z,lk m' o.1=some z/\ ∀a,z=some a-> ∃o,h a=some o)/\
 ∀{ι ι2:Asg} {w:World} {ks:Nat->Nat},Conv ι w ι2 w->Cmp ι ι2 ks m'->(∀o∈objs,lk m' o.1=some none-> ∀t,slT o.2=some t->ks o.1=P.cellsOf t)->(∀i a,lk m' i=some (some a)-> ∀o,h a=some o->Qd P ι w a o)-> ∀p∈s.enc x,isL p.2=true/\Qd P ι2 w p.1 p.2
theorem rU(hI:IpOK P I): ∀l:List (Nat×OSh),OLLaw P l (olOf I l)
 |[]=>⟨fun _ _=>rfl,fun _=>rfl,fun h m x m' he=>by
  cases he;exact⟨.refl _,by simp,fun _ _ _ _ p hp=>by cases hp⟩⟩
 |(i,s)::r=>by
  obtain⟨s1,s2⟩:=zMz hI s;obtain⟨r1,r1',r2⟩:=rU hI r;have main: ∀(h:Nat->Option (EO I.C)) (m m1 m':Mp) a y z,KA h m i=some a->(s.shp I).mat a m=some (y,m1)->(olOf I r).mat h m1=some (z,m')->Ext m m'/\(∀o∈(i,s)::r,∃z,lk m' o.1=some z/\ ∀a,z=some a-> ∃o,h a=some o)/\
    ∀{ι ι2:Asg} {w:World} {ks:Nat->Nat},Conv ι w ι2 w->Cmp ι ι2 ks m'->(∀o∈(i,s)::r,lk m' o.1=some none-> ∀t,slT o.2=some t->ks o.1=P.cellsOf t)->(∀i a,lk m' i=some (some a)-> ∀o,h a=some o->Qd P ι w a o)-> ∀p∈(i,(s.shp I).enc y)::(olOf I r).enc z,isL p.2=true/\Qd P ι2 w p.1 p.2:=by
   intro h m m1 m' a y z h0 h1 h2;obtain⟨e1,f1⟩:=s2 _ _ _ _ h1;obtain⟨e2,l2,f2⟩:=r2 _ _ _ _ h2;have key: ∃z,lk m i=some z/\((∃b o,z=some b/\h b=some o/\a=some o)\/(z=none/\a=none)):=by
    unfold KA at h0;split at h0
    ·rename_i b hb;split at h0<;>cases h0;exact⟨_,hb, .inl ⟨_,_,rfl,by assumption,rfl⟩⟩
    ·cases h0;exact⟨_,by assumption, .inr ⟨rfl,rfl⟩⟩
    ·cases h0
   obtain⟨zz,k1,k2⟩:=key;have k3:=e2.1 _ _ (e1.1 _ _ k1);refine⟨e1.trans e2,fun o ho=> ?_,fun hC hc hk hh p hp=> ?_⟩
   ·rcases Jb.1 ho with rfl|ho
    ·refine⟨zz,k3,fun b e=> ?_⟩;rcases k2 with⟨b',o,q1,q2,_⟩|⟨q1,_⟩
     ·rw[q1]at e;cases e;exact⟨o,q2⟩
     ·rw[q1]at e;cases e
    ·exact l2 o ho
   ·rcases Jb.1 hp with rfl|hp
    ·have f:=f1 hC (hc.ext e2);have hz:=hc i zz k3;rcases k2 with⟨b,o,rfl,q2,rfl⟩|⟨rfl,rfl⟩
     ·exact⟨mO s y,f b i (hh i b k3 o q2) hz⟩
     ·exact⟨mO s y,f i fun t ht=>(show _=Slot.live none _ 0 from hz).trans (by rw[<-hk (i,s) (by simp) k3 t ht])⟩
    ·exact f2 hC hc (fun o ho=>hk o (Kb _ ho)) hh p hp
  show OLLaw P ((i,s)::r) (OL.cons i (s.shp I) (olOf I r));unfold OL.cons;split
  ·rename_i hu;refine⟨fun h x=>by show _::_=_::_;rw[r1 h],fun x=>by show _::_=_::_;rw[r1'],fun h m x m' he=> ?_⟩;dsimp only at he;split at he
   ·cases he
   ·rename_i a h0;obtain⟨⟨y,m1⟩,h1,h2⟩:=Ka.1 he;have:=main h m m1 _ a y _ h0 h1 h2;rw[s1 hu y]at this;exact this
  ·rename_i hu;refine⟨fun h=>(by cases h),fun x=>by show _::_=_::_;rw[r1'],fun h m x m' he=> ?_⟩;dsimp only at he;split at he
   ·cases he
   ·rename_i a h0;obtain⟨⟨y,m1⟩,h1,he⟩:=Ka.1 he;obtain⟨⟨z,m2⟩,h2,he⟩:=Ka.1 he;cases he;have:=main h m m1 m2 a y z h0 h1 h2;rw[r1 hu z]at this;exact this
  ·refine⟨fun h=>(by cases h),fun x=>by show _::_=_::_;rw[r1'],fun h m x m' he=> ?_⟩;dsimp only at he;split at he
   ·cases he
   ·rename_i a h0;obtain⟨⟨y,m1⟩,h1,he⟩:=Ka.1 he;obtain⟨⟨z,m2⟩,h2,he⟩:=Ka.1 he;cases he;exact main h m m1 m2 a y z h0 h1 h2
theorem Wn(hI:IpOK P I)(s:StSh):(∀x,((s.sl I).enc x).2.map (·.1)=s.objs.map (·.1))/\ ∀as h m x m',(s.sl I).mat as h m=some (x,m')->Ext m m'/\(∀o∈s.objs,∃z,lk m' o.1=some z/\ ∀a,z=some a-> ∃o,h a=some o)/\((s.sl I).enc x).1.length=as.length/\
  ∀{ι ι2:Asg} {w:World} {ks:Nat->Nat},Conv ι w ι2 w->Cmp ι ι2 ks m'->(∀o∈s.objs,lk m' o.1=some none-> ∀t,slT o.2=some t->ks o.1=P.cellsOf t)->(∀i a,lk m' i=some (some a)-> ∀o,h a=some o->Qd P ι w a o)->
   (∀(j:Nat) a b,as[j]? =some a->((s.sl I).enc x).1[j]? =some b-> ∀v,RepT ι w a v->RepT ι2 w b v)/\ ∀p∈((s.sl I).enc x).2,isL p.2=true/\Qd P ι2 w p.1 p.2:=by
 obtain⟨v1,v2⟩:=GI hI s.vals;obtain⟨o1,o1',o2⟩:=rU hI s.objs;have main: ∀as h m m1 m' y z,(vlOf I s.vals).mat as m=some (y,m1)->(olOf I s.objs).mat h m1=some (z,m')->Ext m m'/\(∀o∈s.objs,∃z,lk m' o.1=some z/\ ∀a,z=some a-> ∃o,h a=some o)/\((vlOf I s.vals).enc y).length=as.length/\
   ∀{ι ι2:Asg} {w:World} {ks:Nat->Nat},Conv ι w ι2 w->Cmp ι ι2 ks m'->(∀o∈s.objs,lk m' o.1=some none-> ∀t,slT o.2=some t->ks o.1=P.cellsOf t)->(∀i a,lk m' i=some (some a)-> ∀o,h a=some o->Qd P ι w a o)->
    (∀(j:Nat) a b,as[j]? =some a->((vlOf I s.vals).enc y)[j]? =some b-> ∀v,RepT ι w a v->RepT ι2 w b v)/\ ∀p∈(olOf I s.objs).enc z,isL p.2=true/\Qd P ι2 w p.1 p.2:=by
  intro as h m m1 m' y z h1 h2;obtain⟨e1,l1,f1⟩:=v2 _ _ _ _ h1;obtain⟨e2,l2,f2⟩:=o2 _ _ _ _ h2;exact⟨e1.trans e2,l2,l1,fun hC hc hk hh=>⟨f1 hC (hc.ext e2),f2 hC hc hk hh⟩⟩
 unfold StSh.sl;split
 ·rename_i hu;refine⟨fun x=>o1' x,fun as h m x m' he=> ?_⟩;obtain⟨⟨y,m1⟩,h1,h2⟩:=Ka.1 he;have:=main as h m m1 m' y x h1 h2;rw[v1 hu y]at this;exact this
 ·rename_i hu;refine⟨fun x=>o1' _,fun as h m x m' he=> ?_⟩;obtain⟨⟨y,m1⟩,h1,he⟩:=Ka.1 he;obtain⟨⟨z,m2⟩,h2,he⟩:=Ka.1 he;cases he;have:=main as h m m1 m2 y z h1 h2;rw[o1 hu z]at this;exact this
 ·refine⟨fun x=>o1' _,fun as h m x m' he=> ?_⟩;obtain⟨⟨y,m1⟩,h1,he⟩:=Ka.1 he;obtain⟨⟨z,m2⟩,h2,he⟩:=Ka.1 he;cases he;exact main as h m m1 m2 y z h1 h2
theorem OV(s:StSh)(x:(s.sl I).T): ∀p∈((s.sl I).enc x).2,isL p.2=true:=by revert x;unfold StSh.sl;split<;>exact fun x=>sU _ _
end
def kv{C:Nat->Type}:EV C->Option Value
 | .int k n=>some (.int k n)
 | .bool b=>some (.bool b)
 | .str l=>some (.string ⟨l.toArray⟩)
 | .nil=>some (.slice none 0 0)
 | .raw v=>some v
 |_=>none
section
variable {I:Ip} {P:Program} {T:TT} {ι:Asg} {w:World} {h:Nat->Option (EO I.C)} {R:Type} {r0:R} {q:Path} {g:Bool} {K:Kt I R}
theorem zKh{x:EV I.C}{u v:Value}(hx:kv x=some u)(h:RepV ι w x v):v=u:=by cases x<;>simp only[kv,Option.some.injEq,reduceCtorEq]at hx<;>subst hx<;>cases h<;>rfl
theorem Zf{x:EV I.C}{u v:Value}(hx:kv x=some u)(h:RepT ι w (.c x) v):v=u:=zKh hx h.2
theorem rep1{x:EV I.C}{u:Value}(hx:kv x=some u)(h1:u.oneCell'=true):RepT ι w (.c x) u:=by cases x<;>simp only[kv,Option.some.injEq,reduceCtorEq]at hx<;>subst hx<;>exact⟨h1,by constructor;try exact h1⟩
theorem Q7(k:IntKind)(n:Int):RepT (I:=I) ι w (.c (.int k n)) (.int k n):=rep1 rfl rfl
theorem mi(b:Bool):RepT (I:=I) ι w (.c (.bool b)) (.bool b):=rep1 rfl rfl
theorem OB(l:List UInt8):RepT (I:=I) ι w (.c (.str l)) (.string ⟨l.toArray⟩):=rep1 rfl rfl
theorem Z8{b:Bool}{x:Option R}(h:need b x=some r0):b=true/\x=some r0:=by cases b<;>first|exact⟨rfl,h⟩|cases h
theorem Q4{b:Bool}{x:Option R}(hg:q=[]->g=true)(h:lg q g b x=some r0):(g=true->b=true)/\x=some r0:=by
 cases q with
 |nil=>exact⟨fun _=>(Z8 h).1,(Z8 h).2⟩
 |cons=>exact⟨fun e=>by subst e;simpa using (Z8 h).1,(Z8 h).2⟩
theorem Px{α:Type}{c:Option α}{d:α}{f:α->Option R}(hg:q=[]->g=true)(h:bndG q g c d f=some r0): ∃x,f x=some r0/\(g=true->c=some x):=by
 cases q with
 |nil=>obtain⟨x,h1,h2⟩:=Ka.1 h;exact⟨x,h2,fun _=>h1⟩
 |cons=> obtain⟨x,h1,h2⟩:=Ka.1 h;exact⟨x,h2,fun e=>by subst e;exact h1⟩
theorem Zw{α:Type}{c:Option α}{f:α->Option R}(h:optB c f=some r0): ∃x,c=some x/\f x=some r0:=by cases c<;>first|cases h|exact⟨_,rfl,h⟩
def Hd(P:Program)(h:Nat->Option (EO I.C))(rd:List Nat)(ι:Asg)(w:World):Prop:=(∀id t l,h id=some (.frz t l)->ι id= .pure (l.map (I.full t)))/\ ∀id∈rd,∀o,h id=some o->Qd P ι w id o
def OpV(P:Program)(g:Bool)(h:Nat->Option (EO I.C))(K:Kt I R)(r0:R)(A:Asg->World->Sem Value->Prop):Prop:=
 ∃res,K res=some r0/\res.up=[]/\(g=true-> ∀ι w s,Hd P h res.rd ι w->A ι w s-> ∃v,s.run P w= .ok v w/\RepL ι w res.val v)
theorem opv {x:EL I.C} {rd:List Nat} {k:Nat} {A:Asg->World->Sem Value->Prop} (h0:K ⟨x,[],rd,k⟩=some r0)
  (h1:g=true-> ∀ι w s,Hd P h rd ι w->A ι w s-> ∃v,s.run P w= .ok v w/\RepL ι w x v):OpV P g h K r0 A:=⟨_,h0,rfl,h1⟩
theorem OpV.mono{A B:Asg->World->Sem Value->Prop}(h1:OpV P g h K r0 A)(hA: ∀ι w s,B ι w s->A ι w s):OpV P g h K r0 B:=
 let⟨r,a,b,c⟩:=h1;⟨r,a,b,fun hg ι w s hh hb=>c hg ι w s hh (hA ι w s hb)⟩
theorem zL3{op:BinOp}{k k':IntKind}{x y:Int}{t:TypeId}(hg:q=[]->g=true)(hk:mW op=true\/k=k')(h0:intE op k x y q g K=some r0):OpV P g h K r0 fun _ _ s=>s=binOp op t (.int k x) (.int k' y):=by
 cases op<;>simp only[intE]at h0<;>(try (rcases hk with hk|rfl; · cases hk))<;>first
  |(refine opv h0 fun _ ι w s _ hs=>⟨_,?_,Q7 _ _⟩;subst hs;simp[binOp,Op.intArith,Op.intDiv,Op.intBits,Op.intCmp];done)
  |(refine opv h0 fun _ ι w s _ hs=>⟨_,?_,mi _⟩;subst hs;simp[binOp,Op.intArith,Op.intDiv,Op.intBits,Op.intCmp];done)
  |skip
 all_goals
  obtain⟨hb,h0⟩:=Q4 hg h0;refine opv h0 fun hg ι w s _ hs=>⟨_,?_,Q7 _ _⟩;subst hs;have hb:=hb hg;simp only[Xe,ne_eq,ja]at hb;simp[binOp,Op.intDiv,Op.shift,hb,show∀h:0<=y,¬y<0 by omega]
theorem zMS{op:BinOp}{l m:List UInt8}{t:TypeId}(hg:q=[]->g=true)(h0:strE op l m q g K=some r0):OpV P g h K r0 fun _ _ s=>s=binOp op t (.string ⟨l.toArray⟩) (.string ⟨m.toArray⟩):=by
 cases op<;>simp only[strE,reduceCtorEq]at h0<;>first
  |(refine opv h0 fun _ ι w s _ hs=>⟨_,?_,mi _⟩;subst hs;simp[binOp,Op.stringOp,toList_mk];done)
  |skip
 obtain⟨hb,h0⟩:=Q4 hg h0;refine opv h0 fun hg ι w s _ hs=>⟨_,?_,OB _⟩;subst hs;have h1:=IJ.1 (hb hg);have e:(ByteArray.mk l.toArray++ByteArray.mk m.toArray)=ByteArray.mk (l++m).toArray:=by apply ByteArray.ext;simp
 simp only[binOp,Op.stringOp,size_mk,e];rw[Oa (by simp only[IntKind.max,IntKind.signed,IntKind.bits];simp;omega)];rfl
theorem zFQ{kd:Kd}{x y:EV I.C}{b:Bool}{t:TypeId}{d:Nat}(ht:kdOf P t=kd)(h:BP kd x y=some b){u v:Value}(hu:RepV ι w x u)(hv:RepV ι w y v):
  (Op.equalIn (d+1) t u v).run P w= .ok b w/\kd.isAgg=false/\kd≠ .bad:=by
 unfold BP at h;split at h
 ·cases h;cases hu;cases hv;exact⟨run_equalIn_bool w d t _ _ (MO ht),rfl,by simp⟩
 ·obtain⟨hk,h⟩:=Zb h;simp only[Da]at hk;cases h;obtain rfl:=jm hk.1;obtain rfl:=jm hk.2;cases hu;cases hv;exact⟨run_equalIn_int w d t _ _ _ _ (Ps ht),rfl,by simp⟩
 ·cases h;cases hu;cases hv;exact⟨by rw[run_equalIn_string w d t _ _ (Um ht),toList_mk,toList_mk],rfl,by simp⟩
 ·cases h
def At1(ι:Asg)(w:World)(i:Nat)(xs:List (EV I.C))(X:Array Value):Prop:= ∀(j:Nat) (x:EV I.C),xs[j]? =some x-> ∃u,X[i+j]? =some u/\RepV ι w x u
theorem JS: ∀{k1 k2:List Kd} {xs ys:List (EV I.C)} {b:Bool},QQ (k1++k2) xs ys=some b->
  ∃b1 b2,QQ k1 (xs.take k1.length) (ys.take k1.length)=some b1/\QQ k2 (xs.drop k1.length) (ys.drop k1.length)=some b2/\b=(b1&&b2)
 |[],k2,xs,ys,b,h=>⟨true,b,by simp[QQ],by simpa using h,by simp⟩
 |kd::k1,k2,[],ys,b,h=>by cases ys<;>simp[QQ]at h
 |kd::k1,k2,_::_,[],b,h=>by simp[QQ]at h
 |kd::k1,k2,x::xs,y::ys,b,h=>by
  simp only[Sb,QQ]at h;split at h
  ·rename_i a c h1 h2;cases h;obtain⟨b1,b2,e1,e2,rfl⟩:=JS h2;exact⟨a&&b1,b2,by simp only[Ga,Be,QQ,h1,e1],by simpa using e2,by rw[Vh]⟩
  ·cases h
theorem iK {d:Nat} {rc:TypeId->Option (List Kd)} {X Y:Array Value}
  (hrc: ∀t ks,rc t=some ks-> ∀(xs ys:List (EV I.C)) (b:Bool) (X Y:Array Value),QQ ks xs ys=some b->At1 ι w 0 xs X->At1 ι w 0 ys Y->(Op.equalIn (d+1) t (.agg X) (.agg Y)).run P w= .ok b w):
  ∀(fs:List Field) (i:Nat) (ks:List Kd) (xs ys:List (EV I.C)) (b:Bool),Jp P rc i fs=some ks->QQ ks xs ys=some b->At1 ι w i xs X->At1 ι w i ys Y->(Op.eqFields (d+1) X Y fs).run P w= .ok b w
 |[],i,ks,xs,ys,b,hf,h,_,_=>by
  cases hf;cases xs<;>cases ys<;>simp[QQ]at h;subst h;simp[Op.eqFields]
 |f::fs,i,ks,xs,ys,b,hf,h,hx,hy=>by
  have dr: ∀{zs:List (EV I.C)} {Z:Array Value} (n:Nat),At1 ι w i zs Z->At1 ι w (i+n) (zs.drop n) Z:=fun n hz j x hj=>by rw[Xc]at hj;have:=hz _ x hj;rwa [<-xe]at this
  have one: ∀kd l,kdOf P f.type=kd->f.offset=i->(f.name != "_")=true->Jp P rc (i+1) fs=some l->QQ (kd::l) xs ys=some b->(Op.eqFields (d+1) X Y (f::fs)).run P w= .ok b w:=by
   intro kd l hk ho hn hl h;cases xs with
   |nil=>cases ys<;>simp[QQ]at h
   |cons x xs=>
    cases ys with
    |nil=>simp[QQ]at h
    |cons y ys=>
     simp only[Xe,ne_eq]at hn;simp only[QQ]at h;split at h
     ·rename_i b1 b2 h1 h2;cases h;obtain⟨u,hu,ru⟩:=hx 0 x rfl;obtain⟨v,hv,rv⟩:=hy 0 y rfl;obtain⟨e1,e2,e3⟩:=zFQ (P:=P) (d:=d) hk h1 ru rv;rw[<-hk]at e2 e3;have ih:=iK (d:=d) (X:=X) (Y:=Y) hrc fs (i+1) l xs ys b2 hl h2 (dr 1 hx) (dr 1 hy);rw[<-ho]at hu hv;simp only[Nc]at hu hv;simp only[Op.eqFields,hn,Dg,Df,Sem.run_bind,CG e3 e2 hu,CG e3 e2 hv,Result.andThen_ok,e1,Sem.run_ite,Sem.run_pure,ih,ne_eq];cases b1<;>simp
     ·cases h
  simp only[Jp]at hf;split at hf
  case isFalse=>cases hf
  rename_i hc;obtain⟨ho,hn⟩:=hc;split at hf
  case h_1 sf hk=>
   repeat' split at hf
   all_goals try (cases hf;done)
   rename_i k1 hr hlen _ l hl;cases hf;obtain⟨b1,b2,e1,e2,rfl⟩:=JS h;have g1:kdOf P f.type≠ .bad:=by rw[hk];simp
   have g2:(kdOf P f.type).isAgg=true:=by rw[hk];rfl
   have part1: ∀(zs:List (EV I.C)) (Z:Array Value),At1 ι w i zs Z->At1 ι w 0 (zs.take k1.length) (Z.extract f.offset (f.offset+P.cellsOf f.type)):=by
    intro zs Z hz j x hj;rw[Uc]at hj;split at hj
    ·obtain⟨u,hu,h4⟩:=hz _ x hj;have hlt:=(Lb.1 hu).1;exact⟨u,by rw[Array.getElem?_extract,ho,Sa (by omega),jc];exact hu,h4⟩
    ·cases hj
   have q1:=hrc _ _ hr _ _ _ _ _ e1 (part1 xs X hx) (part1 ys Y hy);have ih:=iK (d:=d) (X:=X) (Y:=Y) hrc fs (i+k1.length) l _ _ b2 hl e2 (dr _ hx) (dr _ hy);simp only[Xe,ne_eq]at hn;simp only[Op.eqFields,hn,Dg,Df,Sem.run_bind,kQ g1 g2,Result.andThen_ok,q1,Sem.run_ite,Sem.run_pure,ih,ne_eq];cases b1<;>simp
  all_goals first
   |(cases hf;done)
   |(split at hf
     ·rename_i hk _ l hl;cases hf;exact one _ l hk ho hn hl h
     ·cases hf)
theorem RZ: ∀(n:Nat) (t:TypeId) (ks:List Kd),Dw P n t=some ks-> ∀(d:Nat) (xs ys:List (EV I.C)) (b:Bool) (X Y:Array Value),QQ ks xs ys=some b->At1 ι w 0 xs X->At1 ι w 0 ys Y->(Op.equalIn (d+n+1) t (.agg X) (.agg Y)).run P w= .ok b w
 |0,_,_,h=>by cases h
 |n+1,t,ks,h=>by
  intro d xs ys b X Y hb hx hy;simp only[Dw]at h;split at h
  ·rename_i fs hu;split at h
   ·rename_i hs;have hfs:P.fieldsOf t=fs:=by simp[Program.fieldsOf,hu]
    rw[show d+(n+1)+1=(d+n+1)+1 by omega,run_equalIn_struct w (d+n+1) t X Y (by rw[hfs];exact hu) hs,hfs];exact iK (d:=d+n) (rc:=Dw P n) (fun t ks ht xs ys b X Y h1 h2 h3=>RZ n t ks ht d xs ys b X Y h1 h2 h3) fs.toList 0 ks xs ys b h hb hx hy
   ·cases h
  ·cases h
structure TOK (P:Program) (T:TT) (fk:List (Nat×List Kd)):Prop where
 ti: ∀t i,lk T t=some i->ti P t=i
 fk: ∀t ks,lk fk t=some ks->XB P t=some ks
theorem Xi{fk:List (Nat×List Kd)}(hT:TOK P T fk){t:Nat}(h:(T.at t).kd≠ .bad\/(T.at t).zok=true\/1<=(T.at t).sz\/1<=(T.at t).by_\/(T.at t).zi=true):T.at t=ti P t:=by
 unfold TT.at at h ⊢;split at h
 ·rename_i i hi;exact(hT.ti t i hi).symm
 ·simp at h
theorem QR{fk:List (Nat×List Kd)}(hT:TOK P T fk){t:Nat}{kd:Kd}(h:(T.at t).kd=kd)(hb:kd≠ .bad):kdOf P t=kd:=by rw[<-h,Xi hT (.inl (by rw[h];exact hb))];rfl
theorem iq{s:Sem Value}{gd:Sem Unit}{v:Value}(hg:gd.run P w= .ok () w)(h:s.run P w= .ok v w):(do gd;s:Sem Value).run P w= .ok v w:=by rw[Sem.run_bind,hg];exact h
theorem zNF{y:Operand}(h:isC y=true): ∃c,y= .const c:=by cases y<;>first|exact⟨_,rfl⟩|cases h
theorem zLp{fk:List (Nat×List Kd)}(hT:TOK P T fk){op:BinOp}{t:TypeId}{a b:ET I.C}(x y:Operand)(hg:q=[]->g=true)(h0:binE (isC y) (lk fk t) (T.at t).kd op a b q g K=some r0):
  OpV P g h K r0 fun ι w s=> ∃va vb,RepT ι w a va/\RepT ι w b vb/\s=(do eqGuard op t x y va vb;binOp op t va vb):=by
 unfold binE at h0;split at h0
 ·obtain⟨hk,h0⟩:=Zb h0;obtain⟨r,a,b,c⟩:=zL3 (P:=P) (h:=h) (t:=t) (k':=by assumption) hg (by simpa [Yc] using (by simpa using hk:_\/_).imp id jm) h0;refine⟨r,a,b,fun hg ι w s hh ⟨va,vb,ha,hb,hs⟩=> ?_⟩;obtain rfl:=Zf rfl ha;obtain rfl:=Zf rfl hb;obtain⟨v,e1,e2⟩:=c hg ι w _ hh rfl;exact⟨v,by rw[hs];exact iq (zGv ..) e1,e2⟩
 ·obtain⟨r,a,b,c⟩:=zMS (P:=P) (h:=h) (t:=t) hg h0;refine⟨r,a,b,fun hg ι w s hh ⟨va,vb,ha,hb,hs⟩=> ?_⟩;obtain rfl:=Zf rfl ha;obtain rfl:=Zf rfl hb;obtain⟨v,e1,e2⟩:=c hg ι w _ hh rfl;exact⟨v,by rw[hs];exact iq (zGw ..) e1,e2⟩
 ·split at h0<;>first
   |(cases h0;done)
   |(rename_i hk
     have hk:=QR hT hk (by simp);refine opv h0 fun _ ι w s _ ⟨va,vb,ha,hb,hs⟩=>⟨_,?_,mi _⟩;obtain rfl:=Zf rfl ha;obtain rfl:=Zf rfl hb;subst hs;exact iq (zEM ..) (by first|exact F7 t _ _ (MO hk)|exact D7 t _ _ (MO hk)))
 ·rename_i xs ys;split at h0<;>first
   |(cases h0;done)
   |(rename_i ks hk
     obtain⟨b,hb,h0⟩:=Zw h0;obtain⟨e1,e2⟩:=zCe (hT.fk t ks hk);have at_: ∀{ι w} {zs:List (EV I.C)} {Z:Array Value},RepA ι w zs Z->At1 ι w 0 zs Z:=fun hz j x hj=>let⟨u,a,_,c⟩:=hz.2 j x hj;⟨u,by rwa [jc],c⟩;refine opv h0 fun _ ι w s _ ⟨va,vb,⟨X,hX,hX'⟩,⟨Y,hY,hY'⟩,hs⟩=>⟨_,?_,mi _⟩;subst hs;subst hX;subst hY;have h1:=RZ 4 t ks e2 9995 xs ys b X Y hb (at_ hX') (at_ hY');refine iq (run_eqGuard_agg w _ t x y X Y e1) ?_
     first|rw[run_eql_struct,h1]|rw[run_neq_struct,h1]
     rfl)
 ·split at h0<;>first
   |(cases h0;done)
   |(rename_i hk
     have hk:=YQ (xU (QR hT hk (by simp)));refine opv h0 fun _ ι w s _ ⟨va,vb,ha,hb,hs⟩=>⟨_,?_,mi _⟩;obtain rfl:=Zf rfl hb;obtain⟨_,ha⟩:=ha;cases ha;subst hs;exact iq (MZ ..) (by first|exact run_eql_pointer_nil w t _ hk|exact run_neq_pointer_nil w t _ hk))
 ·split at h0<;>first
   |(cases h0;done)
   |(rename_i hk
     have hk:=YQ (xU (QR hT hk (by simp)));refine opv h0 fun _ ι w s _ ⟨va,vb,ha,hb,hs⟩=>⟨_,?_,mi _⟩;obtain rfl:=Zf rfl hb;obtain rfl:=Zf rfl ha;subst hs;exact iq (MZ ..) (by first|exact run_eql_pointer_nil w t none hk|exact run_neq_pointer_nil w t none hk))
 ·split at h0<;>first
   |(cases h0;done)
   |(rename_i hk
     have hk:=zNI (QR hT hk (by simp));obtain⟨hyc,h0⟩:=Zb h0;have hy': ∃c,y= .const c:=zNF hyc;refine opv h0 fun _ ι w s _ ⟨va,vb,ha,hb,hs⟩=>⟨_,?_,mi _⟩;obtain rfl:=Zf rfl hb;obtain⟨_,ha⟩:=ha;replace ha:(_=false/\va= .nilIface)\/(_=true/\ ∃u x,va= .iface u x):=ha;subst hs;refine iq (zGu _ t x hy' va (ha.elim (fun e=> .inl e.2) fun e=> .inr e.2)) ?_;rcases ha with⟨rfl,rfl⟩|⟨rfl,u,v,rfl⟩<;>first|exact run_eql_nil_nil w t hk|exact run_neq_nil_nil w t hk|exact run_eql_held_nil w t _ _ hk|exact run_neq_held_nil w t _ _ hk)
 ·cases h0
theorem zOv{op:UnOp}{a:ET I.C}(h0:unE op a K=some r0):OpV P g h K r0 fun ι w s=> ∃va,RepT ι w a va/\s=Op.unary op va:=by
 unfold unE at h0;split at h0<;>first
  |(cases h0;done)
  |(refine opv h0 fun _ ι w s _ ⟨va,ha,hs⟩=>⟨_,?_,by first|exact Q7 _ _|exact mi _⟩
    obtain rfl:=Zf rfl ha;subst hs;simp[Op.unary,Op.intArith])
theorem mZ{kd:Kd}{α:Type}{a b:Option α}{x:α}(h:(match kd with| .bad=>none| .arr .. | .st _=>a|_=>b)=some x):(kd≠ .bad/\kd.isAgg=true/\a=some x)\/(kd≠ .bad/\kd.isAgg=false/\b=some x):=by cases kd<;>simp_all[Kd.isAgg]
def AtM(ι:Asg)(w:World)(b o:Nat)(cs:List (EV I.C)):Prop:= ∀(j:Nat) (x:EV I.C),cs[j]? =some x-> ∃v,w.cell? ⟨b,o+j,none⟩=some v/\Rep1 ι w x v
theorem AtM.drop{b o:Nat}{cs:List (EV I.C)}(h:AtM ι w b o cs)(n:Nat):AtM ι w b (o+n) (cs.drop n):=fun j x hj=>by rw[Xc]at hj;rw[xe];exact h _ x hj
theorem zNh{n:Nat}{xs:List (EV I.C)}{f:Nat->Value}(hn:xs.length=n)(h: ∀j x,xs[j]? =some x->Rep1 ι w x (f j)):RepT ι w (.agg xs) (.agg ((List.range n).map f).toArray):=
 ⟨_,rfl,by simp[hn],fun j x hj=>⟨f j,by simp[show j<n by rw[<-hn];exact(Ja.1 hj).1],h j x hj⟩⟩
theorem vB{fk:List (Nat×List Kd)}(hT:TOK P T fk){t:TypeId}{cs:List (EV I.C)}{off:Nat}{x:ET I.C}(h0:Xh (T.at t) cs off=some x){b o:Nat}(h:AtM ι w b o cs): ∃v,(loadVar t ⟨b,o+off,none⟩).run P w= .ok v w/\RepT ι w x v:=by
 have e:T.at t=ti P t:=Xi hT (.inl fun e=>by unfold Xh at h0;rw[e]at h0;cases h0);rw[e]at h0;have hd:=h.drop off;rcases mZ h0 with⟨h1,h2,h3⟩|⟨h1,h2,h3⟩
 ·obtain⟨h4,h3⟩:=Zb h3;cases h3;have h4:off+P.cellsOf t<=cs.length:=Gc h4;obtain⟨f,hf⟩:=VP (n:=P.cellsOf t) (Q:=fun j v=>w.cell? ⟨b,o+off+j,none⟩=some v/\ ∀x,(cs.drop off)[j]? =some x->Rep1 ι w x v) (fun j hj=>by
   have hx:=Ta (l:=cs.drop off) (i:=j) (by simp;omega);obtain⟨v,a1,a2⟩:=hd j _ hx;exact⟨v,a1,fun x hx'=>by rw[hx]at hx';cases hx';exact a2⟩)
  refine⟨_,zCo h1 h2 f fun j hj=>(hf j hj).1,zNh (by show((cs.drop off).take (P.cellsOf t)).length=_;simp;omega) fun j x hj=> ?_⟩;have hj:((cs.drop off).take (P.cellsOf t))[j]? =some x:=hj;rw[Uc]at hj;split at hj
  ·exact(hf j (by assumption)).2 x hj
  ·cases hj
 ·split at h3
  ·rename_i y hy;cases h3;obtain⟨v,a1,a2⟩:=h off y hy;exact⟨v,zCp h1 h2 a1,a2⟩
  ·cases h3
theorem Cg.row{id:Nat}{o:EO I.C}(h:Cg P ι w id o){i:Nat}{row:List (EV I.C)}(hi:(Zd o)[i]? =some row):
  ∃b cur fr ty2,ι id= .live (some b) (kE P o) (Zd o).length/\w.heap[b]? =some (.cells cur ty2 fr)/\FT (TyOK P (tyE o)) ty2 fr cur.size/\row.length=kE P o/\(Zd o).length*kE P o<=cur.size/\qD ι w (kE P o) (Zd o) cur/\AtM ι w b (i*kE P o) row:=by
 obtain⟨b,h1,h2,h3⟩:=h;rcases h3 with⟨_,h3⟩|⟨b',cur,fr,ty2,rfl,h4,h5,h6,h7⟩
 ·simp at h3;rw[h3]at hi;simp at hi
 ·have hk: ∀row∈Zd o,row.length=kE P o:=fun row hr=>by simpa using h2 (row.map (RepV ι w)) (Nb.2 ⟨row,hr,rfl⟩)
  have hc:qD ι w (kE P o) (Zd o) cur:=⟨hk,fun i row j x hi hj=>h7 i (row.map (RepV ι w)) j _ (by simp[hi]) (by simp[hj])⟩;refine⟨b',cur,fr,ty2,h1,h4,h5,hk row (ma hi),by simpa using h6,hc,fun j x hj=> ?_⟩;obtain⟨v,a1,a2⟩:=hc.2 i row j x hi hj;exact⟨v,by rw[cell_of h4];exact a1,a2⟩
theorem zOb(hI:IpOK P I){t:Nat}{x:I.C t}{off:Nat}{v:Value}(h:RepT ι w (.c (.ptr t x off)) v): ∃b o,v= .pointer (some ⟨b,o,none⟩)/\AtM ι w b o ((I.exp t x).drop off):=by
 obtain⟨_,h⟩:=h;cases h with
 |ptr _ b o val hD hv hr=>
  refine⟨b,o,rfl,fun j y hj=> ?_⟩;rw[Xc]at hj;obtain⟨e1,e2⟩:=Gq hI hj;have e1:((I.full t x).drop off)[j]? =some (pvE I y):=by rw[Xc];exact e1
  exact⟨_,hv _ _ e1,iY (hr _ _ e1),(uh e2).2 (hr _ _ e1)⟩
theorem iB{x:EV I.C}{v:Value}(hz: ∀id t l,h id=some (.frz t l)->ι id= .pure (l.map (I.full t)))(hv:RepV ι w x v):RepV ι w (nrmV h x) v:=by
 cases x<;>simp only[nrmV]<;>try exact hv
 split
 ·rename_i id _ _ _ e;have h':SlS ι w (ι id) none v:=hv;rw[hz _ _ _ e]at h';exact h'
 ·exact hv
end
section
variable {I:Ip} {P:Program} {T:TT} {fk:List (Nat×List Kd)} {ι:Asg} {w:World} {h:Nat->Option (EO I.C)} {R:Type} {r0:R} {q:Path} {g:Bool} {K:Kt I R}
theorem Vq{x:ET I.C}{v:Value}(hz: ∀id t l,h id=some (.frz t l)->ι id= .pure (l.map (I.full t)))(hv:RepT ι w x v):RepT ι w (nrmT h x) v:=by
 cases x with
 |c x=>exact⟨hv.1,iB hz hv.2⟩
 |agg xs=> obtain⟨vs,h1,h2,h3⟩:=hv;refine⟨vs,h1,by simpa using h2,fun j x hx=> ?_⟩;simp only[Ra,Ma]at hx;obtain⟨y,hy,rfl⟩:=hx;obtain⟨u,a,b,c⟩:=h3 j y hy;exact⟨u,a,b,iB hz c⟩
theorem nO{id i c:Nat}{o:EO I.C}(hh:Cg P ι w id o){row:List (EV I.C)}(hi:(Zd o)[i]? =some row){v:Value}(hv:RepT (I:=I) ι w (.c (.optr id i c)) v): ∃b,v= .pointer (some ⟨b,i*kE P o+c,none⟩)/\AtM ι w b (i*kE P o) row:=by obtain⟨b,cur,fr,_,h1,_,_,_,_,_,h2⟩:=hh.row hi;have hv:PtAt (ι id) i c v:=hv.2;rw[h1]at hv;obtain⟨b',e,rfl⟩:=hv;cases e;exact⟨b,rfl,h2⟩
theorem sI{t:TypeId}{a:Addr}{v:Value}(h:(loadVar t a).run P w= .ok v w):(Instr.loadAt t (.pointer (some a))).run P w= .ok v w:=by simp only[Instr.loadAt,Instr.sureAddr,Sem.run_bind,Sem.run_pure,Result.andThen_ok];exact h
theorem zFb{i:TI}{cs:List (EV I.C)}{off:Nat}{x:ET I.C}(h:Xh i cs off=some x):Xh i (cs.drop off) 0=some x:=by
 unfold Xh at h ⊢;cases hk:i.kd<;>simp only[hk,Xc,Nc,List.drop_zero,reduceCtorEq]at h ⊢ <;>try exact h
 all_goals
  obtain⟨h1,h2⟩:=Zb h;have h1:=Gc h1;rw[show Nat.ble (0+i.sz) (cs.drop off).length=true by rw[Nat.ble_eq];simp;omega];exact h2
theorem YX: ∀{cs:List (EV I.C)} {ls:List (List UInt8)} {c:Nat} {x:List UInt8},Es cs=some ls->ls[c]? =some x->cs[c]? =some (.str x)
 |[],ls,c,x,h,hx=>by cases h;cases hx
 |y::r,ls,c,x,h,hx=>by
  cases y<;>simp only[Es]at h<;>try (cases h;done)
  split at h
  ·rename_i m hm;cases h;cases c with
   |zero=>cases hx;rfl
   |succ c=>exact YX (cs:=r) hm hx
  ·cases h
theorem zJQ(hI:IpOK P I)(hT:TOK P T fk){t:TypeId}{a:ET I.C}(hg:q=[]->g=true)(h0:VM (T.at t) h a q g K=some r0):OpV P g h K r0 fun ι w s=> ∃va,RepT ι w a va/\s=Instr.loadAt t va:=by
 have own: ∀{id i c:Nat} {o:EO I.C} {row x ι w va},isR o=true->h id=some o->Hd P h [id] ι w->(Zd o)[i]? =some row->Xh (T.at t) row c=some x->RepT (I:=I) ι w (.c (.optr id i c)) va-> ∃v,(Instr.loadAt t va).run P w= .ok v w/\RepT ι w x v:=by intro id i c o row x ι w va ho hid hd hi hx hv;obtain⟨b,rfl,h2⟩:=nO ((Zo ho).1 (hd.2 id (by simp) o hid)) hi hv;obtain⟨v,a1,a2⟩:=vB hT hx h2;exact⟨v,sI a1,a2⟩
 unfold VM at h0;split at h0
 ·split at h0
  ·rename_i ty cs hid;split at h0
   ·rename_i ls hk hls;obtain⟨e,h0⟩:=Zb h0;obtain⟨x,h0,hx⟩:=Px hg h0;refine opv h0 fun hg ι w s hd ⟨va,ha,hs⟩=> ?_;obtain⟨_,hls⟩:=Zb hls;have hp: ∀c,ls[c]? =some x->Xh (T.at t) cs c=some (.c (.str x)):=fun c hc=>by unfold Xh;rw[hk,YX hls hc]
    obtain⟨v,a1,a2⟩:=own rfl hid hd (by rw[La e];rfl) (hp _ (hx hg)) ha;exact⟨v,hs▸a1,a2⟩
   obtain⟨e,h0⟩:=Zb h0;obtain⟨x,hx,h0⟩:=Zw h0;refine opv h0 fun _ ι w s hd ⟨va,ha,hs⟩=> ?_;obtain⟨v,a1,a2⟩:=own rfl hid hd (by rw[La e];rfl) hx ha;exact⟨v,hs▸a1,Vq hd.1 a2⟩
  ·rename_i u l hid;obtain⟨y,h0,hy⟩:=Px hg h0;obtain⟨x,hx,h0⟩:=Zw h0;refine opv h0 fun hg ι w s hd ⟨va,ha,hs⟩=> ?_;obtain⟨v,a1,a2⟩:=own rfl hid hd (by show(l.map (I.exp u))[_]? =_;rw[Ra,hy hg];rfl) hx ha;exact⟨v,hs▸a1,a2⟩
  ·rename_i u l1 cs l2 hid;obtain⟨x,hx,h0⟩:=Zw h0;obtain⟨e,h0⟩:=Q4 hg h0;refine opv h0 fun hg ι w s hd ⟨va,ha,hs⟩=> ?_;obtain⟨v,a1,a2⟩:=own rfl hid hd (by rw[La (e hg)];simp[Zd]) hx ha;exact⟨v,hs▸a1,Vq hd.1 a2⟩
  ·rename_i u e l c hid;obtain⟨x,hx,h0⟩:=Zw h0;obtain⟨e,h0⟩:=Q4 hg h0;refine opv h0 fun hg ι w s hd ⟨va,ha,hs⟩=> ?_;obtain⟨rs,h1,h2⟩:=KN (hd.2 _ (by simp) _ hid);obtain⟨b,rfl,h3⟩:=nO h2 (row:=[c]) (by rw[La (e hg)];simp[Zd,<-h1]) ha;obtain⟨v,a1,a2⟩:=vB hT hx h3;exact⟨v,hs▸sI a1,Vq hd.1 a2⟩
  ·cases h0
 ·obtain⟨x,hx,h0⟩:=Zw h0;refine opv h0 fun _ ι w s hd ⟨va,ha,hs⟩=> ?_;obtain⟨b,o,rfl,h2⟩:=zOb hI ha;obtain⟨v,a1,a2⟩:=vB hT (zFb hx) h2;exact⟨v,hs▸sI a1,a2⟩
 ·cases h0
theorem dU{t f:TypeId}{fs:List (Nat×TypeId)}{off ty:Nat}(hk:kdOf P t= .st fs)(hf:fs[f]? =some (off,ty)): ∃(l:Array Field) (fl:Field),P.underlying t=some (.struct l)/\l[f]? =some fl/\fl.offset=off/\fl.type=ty:=by obtain⟨l,hl,rfl⟩:=bU hk;simp only[Ra,Ma,Prod.mk.injEq]at hf;obtain⟨fl,hfl,rfl,rfl⟩:=hf;exact⟨l,fl,hl,by simpa using hfl,rfl,rfl⟩
theorem yg(hT:TOK P T fk){t:Nat}(h:Nat.ble 1 (T.at t).sz=true):(T.at t).sz=P.cellsOf t/\0<P.cellsOf t:=by have h1:=Gc h;have e:=Xi hT (.inr (.inr (.inl h1)));rw[e]at h1 ⊢;exact⟨rfl,h1⟩
theorem eO{id i c:Nat}{o:EO I.C}(ho:isR o=true)(hh:Qd P ι w id o){v:Value}(hv:RepT (I:=I) ι w (.c (.optr id i c)) v): ∃b,v= .pointer (some ⟨b,i*kE P o+c,none⟩)/\ ∀j,RepT (I:=I) ι w (.c (.optr id i (c+j))) (.pointer (some ⟨b,i*kE P o+c+j,none⟩)):=by obtain⟨b,h1,_⟩:=(Zo ho).1 hh;have hv:PtAt (ι id) i c v:=hv.2;rw[h1]at hv;obtain⟨b',rfl,rfl⟩:=hv;exact⟨b',rfl,fun j=>⟨rfl,by show PtAt (ι id) _ _ _;rw[h1];exact⟨b',rfl,by rw[xe]⟩⟩⟩
theorem kY{t:Nat}{x:I.C t}{o off:Nat}{v:Value}(h:RepT ι w (.c (.ptr t x o)) v): ∃b o',v= .pointer (some ⟨b,o',none⟩)/\RepT ι w (.c (.ptr t x (o+off))) (.pointer (some ⟨b,o'+off,none⟩)):=by
 obtain⟨_,h⟩:=h;cases h with
 |ptr _ b o val hD hv hr=>
  refine⟨b,o,rfl,rfl, .ptr _ b _ (fun j=>val (off+j)) hD (fun j x hj=> ?_) (fun j x hj=> ?_)⟩
  all_goals rw[<-Tf,Xc]at hj
  ·rw[xe];exact hv _ _ hj
  ·exact hr _ _ hj
theorem D8(hT:TOK P T fk){t f:Nat}{x:ET I.C}(h0:XK T h t x f K=some r0):OpV P g h K r0 fun ι w s=> ∃vx,RepT ι w x vx/\s=Instr.fieldAt t vx f:=by
 unfold XK at h0;split at h0
 case h_2=>cases h0
 rename_i fs hk;split at h0
 case h_2=>cases h0
 rename_i off ty hf;obtain⟨l,fl,h1,h2,rfl,rfl⟩:=dU (QR hT hk (by simp)) hf;have run: ∀{b o:Nat} {w:World},Nat.ble 1 (T.at fl.type).sz=true->(Instr.fieldAt t (.pointer (some ⟨b,o,none⟩)) f).run P w= .ok (.pointer (some ⟨b,o+fl.offset,none⟩)) w:=by
  intro b o w hs;have h':P.cellsOf fl.type≠0:=by have:=(yg hT hs).2;omega
  obtain⟨i,hi⟩:=WP h';simp[Instr.fieldAt,run_underlying h1,h2,Instr.sureAddr,zum hi h']
 split at h0
 ·split at h0<;>first
   |(cases h0;done)
   |(rename_i hid
     obtain⟨hs,h0⟩:=Zb h0;refine opv h0 fun _ ι w s hd ⟨vx,hx,e⟩=> ?_;obtain⟨b,rfl,h3⟩:=eO rfl (hd.2 _ (by simp) _ hid) hx;exact⟨_,e▸run hs,h3 fl.offset⟩)
 ·obtain⟨hs,h0⟩:=Zb h0;refine opv h0 fun _ ι w s hd ⟨vx,hx,e⟩=> ?_;obtain⟨b,o,rfl,h3⟩:=kY (off:=fl.offset) hx;exact⟨_,e▸run hs,h3⟩
 ·cases h0
theorem PW(hT:TOK P T fk){t:TypeId}{cs:List (EV I.C)}{X:Array Value}{off:Nat}{x:ET I.C}(h0:Xh (T.at t) cs off=some x)(h:RepA ι w cs X): ∃v,(part t X off).run P w= .ok v w/\RepT ι w x v:=by
 have e:T.at t=ti P t:=Xi hT (.inl fun e=>by unfold Xh at h0;rw[e]at h0;cases h0);rw[e]at h0;rcases mZ h0 with⟨h1,h2,h3⟩|⟨h1,h2,h3⟩
 ·obtain⟨h4,h3⟩:=Zb h3;cases h3;have h4:off+P.cellsOf t<=cs.length:=Gc h4;refine⟨_,kQ h1 h2,_,rfl,?_,fun j x hj=> ?_⟩
  ·show _=((cs.drop off).take (P.cellsOf t)).length;simp only[Array.size_extract,Wd,jb];have:=h.1;omega
  ·have hj:((cs.drop off).take (P.cellsOf t))[j]? =some x:=hj;rw[Uc]at hj;split at hj
   ·rw[Xc]at hj;obtain⟨u,hu,h4⟩:=h.2 _ x hj;have hlt:=(Lb.1 hu).1;exact⟨u,by rw[Array.getElem?_extract,Sa (by omega)];exact hu,h4⟩
   ·cases hj
 ·split at h3
  ·rename_i y hy;cases h3;obtain⟨u,hu,h4⟩:=h.2 _ y hy;exact⟨u,CG h1 h2 hu,h4⟩
  ·cases h3
theorem zGl(hT:TOK P T fk){t f:Nat}{x:ET I.C}(h0:UN T t x f K=some r0):OpV P g h K r0 fun ι w s=> ∃vx,RepT ι w x vx/\s=Instr.field t vx f:=by
 unfold UN at h0;split at h0
 case h_2=>cases h0
 rename_i fs hk;split at h0
 case h_2=>cases h0
 rename_i off ty hf;split at h0
 case h_2=>cases h0
 obtain⟨l,fl,h1,h2,rfl,rfl⟩:=dU (QR hT hk (by simp)) hf;obtain⟨y,hy,h0⟩:=Zw h0;refine opv h0 fun _ ι w s hd ⟨vx,⟨X,hX,hX'⟩,e⟩=> ?_;subst hX;obtain⟨v,a1,a2⟩:=PW hT hy hX';exact⟨v,by rw[e,<-a1];simp[Instr.field,run_underlying h1,h2,asAgg],a2⟩
theorem kI{α:Type}{l:List α}{i:Int}{x:α}(h:geti l i=some x):0<=i/\l[i.toNat]? =some x/\i.toNat<l.length/\i<l.length:=by obtain⟨h1,h2⟩:=Zb h;have h3:=(Ja.1 h2).1;have h1:=Ib h1;exact⟨h1,h2,h3,by omega⟩
theorem N8(hI:IpOK P I)(hT:TOK P T fk){t:Nat}{x i:ET I.C}(hg:q=[]->g=true)(h0:UK T h t x i q g K=some r0):
  OpV P g h K r0 fun ι w s=> ∃vx vi,RepT ι w x vx/\RepT ι w i vi/\s=Instr.indexAt t vx vi:=by
 unfold UK at h0;split at h0
 case h_2=>cases h0
 rename_i kk i;have own: ∀{id:Nat} {o:EO I.C} {ι w vx e},Cg P ι w id o->RepT (I:=I) ι w (.c (.own id)) vx->kdOf P t= .sl e->P.cellsOf e=kE P o->0<P.cellsOf e->0<=i->i<((Zd o).length:Int)->
   ∃v,(Instr.indexAt t vx (.int kk i)).run P w= .ok v w/\RepT (I:=I) ι w (.c (.optr id i.toNat 0)) v:=by
  intro id o ι w vx e hh hv hk hke h0 h1 h2;obtain⟨b,h3,_⟩:=hh;have hv:SlS ι w (ι id) none vx:=hv.2;rw[h3]at hv;rcases hv with⟨_,h4,_⟩|⟨b',c,ty,sz,a,rfl,rfl,hca,h4,_⟩
  ·omega
  ·obtain rfl:=hca.resolve_left (by omega);refine⟨.pointer (some ⟨b',i.toNat*kE P o+0,none⟩),?_,rfl,by show PtAt (ι id) _ _ _;rw[h3];exact⟨b',rfl,rfl⟩⟩;simp[Instr.indexAt,asIntOf,run_underlying (mg hk),h1,h2,Q8 h0,addr_add,hke]
 split at h0
 ·rename_i e u l hk;obtain⟨hc,h0⟩:=Zb h0;simp only[Da]at hc;obtain rfl:=La hc.1;have hs:=(yg hT hc.2).2;have hk:=QR hT hk (by simp);obtain⟨y,h0,hy⟩:=Px hg h0;refine opv h0 fun hg ι w s hd ⟨vx,vi,⟨_,hx⟩,hi,es⟩=> ?_;obtain rfl:=Zf rfl hi;obtain⟨i1,i2,i3,i4⟩:=kI (hy hg);cases hx with
  |sl _ a n c k b o val hn hc' ha hD hkk hv hr=>
   have hrow:(l.map (I.full e))[i.toNat]? =some (I.full e y):=by rw[Ra,i2];rfl
   rw[Fb]at hn;have hk':k=P.cellsOf e:=by rw[<-hkk _ (ma hrow),hI.len]
   subst hk';obtain rfl:=ha (by omega);refine⟨.pointer (some ⟨b,o+i.toNat*P.cellsOf e,none⟩),?_,rfl, .ptr _ b _ (fun j=>val i.toNat j) (hD (by omega)) (fun j x hj=>hv _ _ j x hrow hj) (fun j x hj=>hr _ _ j x hrow hj)⟩;subst es;simp[Instr.indexAt,asIntOf,run_underlying (mg hk),i1,show i<(n:Int) by omega,Q8 hs,addr_add]
 ·rename_i hk;have go: ∀{id n:Nat},lg q g (decide (0<=i)&&decide (i<(n:Int))) (K ⟨.v (.c (.optr id i.toNat 0)),[],[id],0⟩)=some r0->(∀ι w,Hd P h [id] ι w-> ∃o:EO I.C,Cg P ι w id o/\(Zd o).length=n/\P.cellsOf _=kE P o)->0<P.cellsOf _->OpV P g h K r0 fun ι w s=> ∃vx vi,RepT (I:=I) ι w (.c (.own id)) vx/\RepT (I:=I) ι w (.c (.int kk i)) vi/\s=Instr.indexAt t vx vi:=fun {id n} h0 ho hs=>by obtain⟨e,h0⟩:=Q4 hg h0;refine opv h0 fun hg ι w s hd ⟨vx,vi,hx,hi,es⟩=> ?_;obtain rfl:=Zf rfl hi;have e:=e hg;simp only[Da,ja]at e;obtain⟨o,h1,h2,h3⟩:=ho ι w hd;rw[es];exact own h1 hx (QR hT hk (by simp)) h3 hs e.1 (by rw[h2];exact e.2)
  split at h0
  case h_4=>cases h0
  all_goals
   rename_i hid;obtain⟨hc,h9⟩:=Zb h0;clear h0;simp only[Da]at hc;obtain rfl:=La hc.1
  ·exact go h9 (fun ι w hd=>⟨_,(Zo rfl).1 (hd.2 _ (by simp) _ hid),by simp[Zd],rfl⟩) (yg hT hc.2).2
  ·exact go h9 (fun ι w hd=>⟨_,(Zo rfl).1 (hd.2 _ (by simp) _ hid),by simp[Zd];omega,rfl⟩) (yg hT hc.2).2
  ·have hs:=yg hT (by rw[La hc.2];rfl);exact go h9 (fun ι w hd=>let⟨rs,q1,q2⟩:=KN (hd.2 _ (by simp) _ hid);⟨_,q2,by simp[Zd,q1],hs.1.symm.trans (La hc.2)⟩) hs.2
 ·rename_i hk;split at h0
  case h_3=>cases h0
  case h_2=> rename_i hid;obtain⟨hs,h1⟩:=Zb h0;clear h0;simp only[Da]at hs;obtain⟨⟨⟨c1,c2⟩,c3⟩,c4⟩:=hs;obtain rfl:=La c1;obtain rfl:=La c3;obtain rfl:=La c4;obtain⟨s1,s2⟩:=yg hT c2;obtain⟨e,h1⟩:=Q4 hg h1;refine opv h1 fun hg ι w s hd ⟨vx,vi,hx,hi,es⟩=> ?_;obtain rfl:=Zf rfl hi;have e:=e hg;simp only[Da,ja]at e;obtain⟨b,h3,_⟩:=(Zo rfl).1 (hd.2 _ (by simp) _ hid);have hx:PtAt (ι _) 0 0 vx:=hx.2;rw[h3]at hx;obtain⟨b',rfl,rfl⟩:=hx;refine⟨.pointer (some ⟨b',i.toNat*P.cellsOf _+0,none⟩),?_,rfl,by show PtAt (ι _) _ _ _;rw[h3];exact⟨b',rfl,rfl⟩⟩;rw[es];simp[Instr.indexAt,asIntOf,run_underlying (Bq (QR hT hk (by simp))),e.1,e.2.1,Q8 s2,addr_add,Instr.sureAddr]
  rename_i hid;obtain⟨hs,h0⟩:=Zb h0;obtain⟨s1,s2⟩:=yg hT hs;obtain⟨e,h0⟩:=Q4 hg h0;refine opv h0 fun hg ι w s hd ⟨vx,vi,hx,hi,es⟩=> ?_;obtain rfl:=Zf rfl hi;have e:=e hg;simp only[Da,ja]at e;obtain⟨b,rfl,h3⟩:=eO rfl (hd.2 _ (by simp) _ hid) hx;refine⟨_,?_,h3 _⟩;rw[es,s1];simp[Instr.indexAt,asIntOf,run_underlying (Bq (QR hT hk (by simp))),e.1,e.2,Q8 s2,addr_add,Instr.sureAddr]
 ·rename_i hk;obtain⟨hs,h0⟩:=Zb h0;obtain⟨s1,s2⟩:=yg hT hs;obtain⟨e,h0⟩:=Q4 hg h0;refine opv h0 fun hg ι w s hd ⟨vx,vi,hx,hi,es⟩=> ?_;obtain rfl:=Zf rfl hi;have e:=e hg;simp only[Da,ja]at e;obtain⟨b,o,rfl,h3⟩:=kY (off:=i.toNat*P.cellsOf _) hx;refine⟨_,?_,by rw[s1];exact h3⟩;rw[es];simp[Instr.indexAt,asIntOf,run_underlying (Bq (QR hT hk (by simp))),e.1,e.2,Q8 s2,addr_add,Instr.sureAddr]
 ·cases h0
end
end Go.Lv
