import Derived.Test.YtiidaccdmolmkaaGreatDoorLa
set_option linter.all false
namespace Go.Lv
inductive Slot where
 |free
 |dead
 |pure (rows:List (List PV))
 |live (b:Option Nat) (k n:Nat)
inductive Own where
 |no
 |far
 |inn (id:Nat)
structure cL where
 s:Nat->Slot
 X:Nat->Own
def lr(T:Nat->Prop):Own->Prop
 | .no=>False
 | .far=>True
 | .inn id=> ¬T id
def Cv{T:Nat->Prop}: ∀{x:Own},lr T x->x≠ .no
 | .far,_,e=>by cases e
 | .inn _,_,e=>by cases e
instance:CoeFun cL (λ_=>Nat->Slot):=⟨cL.s⟩
def FN{T a:Nat->Prop}(h: ∀i,T i->a i): ∀{x:Own},lr a x->lr T x
 | .far,_=>trivial
 | .inn id,g=>λt=>g (h id t)
def fm(ι:cL)(w:World)(b:Nat):Prop:=b<w.heap.size/\ι.X b= .no/\ ∀id k n,ι id≠ .live (some b) k n
def Glob(D:Nat->Prop)(w:World):Prop:= ∀q∈tabG,D q.1/\ ∃o,w.heap[q.1]? =some o/\q.2 o
def gk(w:World)(b:Option Nat)(k off n:Nat)(v:Value):Prop:=
 (b=none/\n=0/\v= .slice none 0 0)\/ ∃d c ty sz a,b=some d/\v= .slice a n c/\(c=0\/a=some ⟨d,off*k,none⟩)/\n<=c/\c<=maxLen/\w.shape? d=some (ty,sz)/\(off+c)*k<=sz
def gb:Slot->Nat->Nat->Value->Prop
 | .live b k _,r,c,v=> ∃a,b=some a/\v= .pointer (some ⟨a,r*k+c,none⟩)
 | .free,_,_,_=>False
 |_,_,_,_=>True
def MpAt:Slot->Value->Prop
 | .live b _ _,v=> ∃a,b=some a/\v= .map (some a)
 | .free,_=>False
 |_,_=>True
def mpE(k:IntKind)(l:List (List UInt8×Int)):Array MapEntry:=(l.zipIdx.map λx=>(⟨zTc x.1.1, .int k x.1.2,x.2⟩:MapEntry)).toArray
section
variable (I:Ip)
def pvE:EV I.C->PV
 | .int k n=> .at (.int k n)
 | .bool b=> .at (.bool b)
 | .str l=> .str l
 | .nil=> .at (.slice none 0 0)
 | .raw v=> .at v
 | .sl t l=> .sl (l.map (I.full t))
 | .ptr t x off=> .ptr ((I.full t x).drop off)
 |_=> .at .nilFunc
end
section
variable {I:Ip} {P:Program} {T:Nat->Prop} {ι ι':cL} {w w':World}
def Nn:EV I.C->Bool
 | .own _| .osl .. | .optr .. | .clo .. | .fsl .. | .prd _| .mref _| .nop .. | .ifc _=>false
 |_=>true
def li(ι:cL)(w:World):Slot->Option (Nat×Nat)->Value->Prop
 | .live b k n,none,v=>gk w b k 0 n v
 | .live b k _,some m,v=>gk w b k m.1 m.2 v
 | .pure rows,none,v=>cX (fm ι w) w (.sl rows) v
 | .free,_,_=>False
 |_,_,_=>True
def ef(ι:cL)(w:World):EV I.C->Value->Prop
 | .own id,v=>li ι w (ι id) none v
 | .osl id off n,v=>li ι w (ι id) (some (off,n)) v
 | .optr id r c,v=>gb (ι id) r c v
 | .fsl t l,v=>cX (fm ι w) w (.sl (l.map (I.full t))) v/\ ∃a n,v= .slice a n n
 | .prd p,v=>p v
 | .ifc b,v=>(b=false/\v= .nilIface)\/(b=true/\ ∃u x,v= .iface u x)
 | .mref id,v=>MpAt (ι id) v
 | .nop id ty n,v=>(v= .pointer none\/gb (ι id) 0 0 v)/\ι id≠ .free/\ ∀b k m,ι id= .live (some b) k m->w.shape? b=some (ty,n)
 | .clo f caps,v=> ∃vs:Array Value,v= .func (.func f) #[] vs/\vs.size=caps.length/\ ∀(j:Nat) (q:Nat×Nat×Nat),caps[j]? =some q-> ∃u,vs[j]? =some u/\u.oneCell'=true/\gb (ι q.1) q.2.1 q.2.2 u
 |x,v=>cX (fm ι w) w (pvE I x) v
def k9(ι:cL)(w:World)(x:EV I.C)(v:Value):Prop:=v.oneCell'=true/\ef ι w x v
def ip(ι:cL)(w:World)(xs:List (EV I.C))(vs:Array Value):Prop:=vs.size=xs.length/\ ∀(j:Nat) (x:EV I.C),xs[j]? =some x-> ∃u,vs[j]? =some u/\k9 ι w x u
def cx(ι:cL)(w:World):ET I.C->Value->Prop
 | .c x,v=>k9 ι w x v
 | .agg xs,v=> ∃vs:Array Value,v= .agg vs/\ip ι w xs vs
def Jh(ι:cL)(w:World)(ts:List (ET I.C))(vs:Array Value):Prop:=vs.size=ts.length/\ ∀(j:Nat) (t:ET I.C),ts[j]? =some t-> ∃u,vs[j]? =some u/\cx ι w t u
def de(ι:cL)(w:World):EL I.C->Value->Prop
 | .any,_=>True
 | .v t,v=>cx ι w t v
 | .opt _ b t,v=>(b=true->cx ι w t v)/\(b=false->v=undef)
 | .tup ts,v=> ∃vs:Array Value,v= .tuple vs/\Jh ι w ts vs
def Slw(ι:cL)(ι':cL)(w w':World)(i j:Nat):Prop:=ι i≠ .free->ι' j=ι i\/ι' j= .dead\/ ∃b k n rows,ι i= .live b k n/\ι' j= .pure rows/\ ∀v,gk w b k 0 n v->cX (fm ι' w') w' (.sl rows) v
structure Conv (ι:cL) (w:World) (ι':cL) (w':World):Prop where
 shape: ∀b s,w.shape? b=some s->w'.shape? b=some s
 dom: ∀b,fm ι w b->fm ι' w' b
 keep: ∀b,fm ι w b->w'.heap[b]? =w.heap[b]?
structure fW (T:Nat->Prop) (ι:cL) (w:World) (ι':cL) (w':World):Prop extends Conv ι w ι' w' where
 os:w'.os=w.os
 tape:w'.tape=w.tape
 output:w'.output=w.output
 size:w.heap.size<=w'.heap.size
 own: ∀id b k n,¬T id->ι id= .live (some b) k n->w'.heap[b]? =w.heap[b]?
 slots: ∀id,Slw ι ι' w w' id id
 fix: ∀id,¬T id->ι id≠ .free->ι' id=ι id
 xs: ∀b,lr T (ι.X b)->ι'.X b=ι.X b
 xn: ∀b,ι'.X b= .far->ι.X b= .far
 xkeep: ∀b,lr T (ι.X b)->w'.heap[b]? =w.heap[b]?
def fW.same(T:Nat->Prop)(ι:cL)(w:World):fW T ι w ι w:=⟨⟨λ_ _ h=>h,λ_ h=>h,λ_ _=>rfl⟩,rfl,rfl,rfl,Db _,λ_ _ _ _ _ _=>rfl,λ_ _=> .inl rfl,λ_ _ _=>rfl,λ_ _=>rfl,λ_ h=>h,λ_ _=>rfl⟩
def gk.step(hs: ∀b s,w.shape? b=some s->w'.shape? b=some s){b:Option Nat}{k off n:Nat}{v:Value}(h:gk w b k off n v):gk w' b k off n v:=by
 rcases h with h|⟨d,c,ty,sz,a,h1,h2,h3,h4,e,f,i⟩
 ·exact .inl h
 ·exact .inr ⟨d,c,ty,sz,a,h1,h2,h3,h4,e,hs _ _ f,i⟩
def cX.conv(h:Conv ι w ι' w'){x:PV}{v:Value}(a:cX (fm ι w) w x v):cX (fm ι' w') w' x v:=a.mono h.dom h.keep
def li.conv(h:Conv ι w ι' w'){i j:Nat}(hs:Slw ι ι' w w' i j){m:Option (Nat×Nat)}{v:Value}(hv:li ι w (ι i) m v):li ι' w' (ι' j) m v:=by
 have h0:ι i≠ .free:=λe=>by rw[e]at hv;cases m<;>exact hv
 rcases hs h0 with e|e|⟨b,k,n,rows,e1,e2,e3⟩
 ·rw[e];cases hi:ι i<;>rw[hi]at hv<;>cases m<;>first|exact gk.step h.shape hv|exact cX.conv h hv|exact hv
 ·rw[e];cases m<;>trivial
 ·rw[e2];rw[e1]at hv;cases m<;>first|exact e3 _ hv|trivial
def gb.conv{i j r c:Nat}(hs:Slw ι ι' w w' i j){v:Value}(hv:gb (ι i) r c v):gb (ι' j) r c v:=by
 have h0:ι i≠ .free:=λe=>by rw[e]at hv;exact hv
 rcases hs h0 with e|e|⟨_,_,_,_,_,e,_⟩<;>rw[e]<;>first|exact hv|trivial
def MpAt.conv{i j:Nat}(hs:Slw ι ι' w w' i j){v:Value}(hv:MpAt (ι i) v):MpAt (ι' j) v:=by
 have h0:ι i≠ .free:=λe=>by rw[e]at hv;exact hv
 rcases hs h0 with e|e|⟨_,_,_,_,_,e,_⟩<;>rw[e]<;>first|exact hv|trivial
def zRB.conv{i j ty n:Nat}(h: ∀b s,w.shape? b=some s->w'.shape? b=some s)(hs:Slw ι ι' w w' i j){v:Value}(hv:(v= .pointer none\/gb (ι i) 0 0 v)/\ι i≠ .free/\ ∀b k m,ι i= .live (some b) k m->w.shape? b=some (ty,n)):
  (v= .pointer none\/gb (ι' j) 0 0 v)/\ι' j≠ .free/\ ∀b k m,ι' j= .live (some b) k m->w'.shape? b=some (ty,n):=by
 refine⟨hv.1.imp_right (gb.conv hs),?_,λb k m e=> ?_⟩
 ·rcases hs hv.2.1 with e|e|⟨_,_,_,_,_,e,_⟩<;>rw[e]
  ·exact hv.2.1
  ·intro h;cases h
  ·intro h;cases h
 ·rcases hs hv.2.1 with a|a|⟨_,_,_,_,_,a,_⟩<;>rw[a]at e
  ·exact h _ _ (hv.2.2 _ _ _ e)
  ·cases e
  ·cases e
def ef.ren(h:Conv ι w ι' w'){f:Nat->Nat}{x:EV I.C}{v:Value}(hs: ∀i∈Oi x,Slw ι ι' w w' i (f i))(hv:ef ι w x v):ef ι' w' (rnV f x) v:=by
 cases x with
 |own i=>exact li.conv h (hs i (by simp[Oi])) hv
 |osl i off n=>exact li.conv h (hs i (by simp[Oi])) hv
 |optr i r c=>exact gb.conv (hs i (by simp[Oi])) hv
 |fsl t l=>exact⟨cX.conv h hv.1,hv.2⟩
 |prd p=>exact hv
 |ifc b=>exact hv
 |mref i=>exact MpAt.conv (hs i (by simp[Oi])) hv
 |nop i ty n=>exact zRB.conv (λb s hb=>h.shape b s hb) (hs i (by simp[Oi])) hv
 |clo g caps=> obtain⟨vs,h1,h2,h3⟩:=hv;refine⟨vs,h1,by simpa using h2,λj q d=> ?_⟩;simp only[Ta,Sa]at d;obtain⟨e,d,rfl⟩:=d;obtain⟨u,a,b,c⟩:=h3 j e d;exact⟨u,a,b,gb.conv (hs e.1 (Rb.2 ⟨e,Ob d,rfl⟩)) c⟩
 |_=>exact cX.conv h hv
def ip.ren(h:Conv ι w ι' w'){f:Nat->Nat}{xs:List (EV I.C)}{vs:Array Value}(hs: ∀i∈xs.flatMap Oi,Slw ι ι' w w' i (f i))(hv:ip ι w xs vs):ip ι' w' (xs.map (rnV f)) vs:=by refine⟨by simpa using hv.1,λj x d=> ?_⟩;simp only[Ta,Sa]at d;obtain⟨y,e,rfl⟩:=d;obtain⟨u,a,b,c⟩:=hv.2 j y e;exact⟨u,a,b,c.ren h λi hi=>hs i (We.2 ⟨y,Ob e,hi⟩)⟩
def cx.ren(h:Conv ι w ι' w'){f:Nat->Nat}{x:ET I.C}{v:Value}(hs: ∀i∈rQ x,Slw ι ι' w w' i (f i))(hv:cx ι w x v):cx ι' w' (rnET f x) v:=by
 cases x with
 |c x=>exact⟨hv.1,hv.2.ren h hs⟩
 |agg xs=> obtain⟨vs,h1,h2⟩:=hv;exact⟨vs,h1,h2.ren h hs⟩
def WL(x:EV I.C):rnV (λi=>i) x=x:=by cases x<;>simp[rnV]
def oQ(x:ET I.C):rnET (λi=>i) x=x:=by cases x<;>simp[rnET,WL,show(rnV λi=>i)=(id:EV I.C->EV I.C)from funext WL]
section
variable (S:fW T ι w ι' w')
include S
def ef.step{x:EV I.C}{v:Value}(hv:ef ι w x v):ef ι' w' x v:=by rw[<-WL x];exact hv.ren S.toConv λi _=>S.slots i
def cx.step{x:ET I.C}{v:Value}(hv:cx ι w x v):cx ι' w' x v:=by rw[<-oQ x];exact hv.ren S.toConv λi _=>S.slots i
def de.step{x:EL I.C}{v:Value}(hv:de ι w x v):de ι' w' x v:=by
 cases x with
 |any=>trivial
 |v t=>exact cx.step S hv
 |opt ks b t=>exact⟨λh=>cx.step S (hv.1 h),hv.2⟩
 |tup ts=> obtain⟨vs,h1,h2,h3⟩:=hv;exact⟨vs,h1,h2,λj t ht=>let⟨u,a,b⟩:=h3 j t ht;⟨u,a,cx.step S b⟩⟩
def Glob.step(h:Glob (fm ι w) w):Glob (fm ι' w') w':=λq a=>by obtain⟨h1,v,h2,h3⟩:=h q a;exact⟨S.dom _ h1,v,by rw[S.keep _ h1];exact h2,h3⟩
end
def km(P:Program)(t a:TypeId)(n:Nat):Prop:=a=t\/ ∃m,cI P a= .arr m t/\n=P.cellsOf a/\n=m*P.cellsOf t
def FT(a:TypeId->Nat->Prop)(ty:TypeId)(fr:Nat×Nat)(n:Nat):Prop:=frOK fr n/\a ty n
def Blk(w:World)(b:Option Nat)(k:Nat)(d:TypeId->Nat->Prop)(rows:List (List (Value->Prop))):Prop:=
 (∀row∈rows,row.length=k)/\((b=none/\rows=[])\/ ∃c cur fr a,b=some c/\w.heap[c]? =some (.cells cur a fr)/\FT d a fr cur.size/\rows.length*k<=cur.size/\
  ∀(i:Nat) (row:List (Value->Prop)) (j:Nat) (p:Value->Prop),rows[i]? =some row->row[j]? =some p-> ∃v,cur[i*k+j]? =some v/\v.oneCell'=true/\p v)
def Les(R b:List (List (Value->Prop))):Prop:=b.length=R.length/\ ∀(i:Nat) (r a:List (Value->Prop)),R[i]? =some r->b[i]? =some a->a.length=r.length/\ ∀(j:Nat) (p c:Value->Prop),r[j]? =some p->a[j]? =some c-> ∀v,v.oneCell'=true->p v->c v
def Blk.les{b:Option Nat}{k:Nat}{ty:TypeId->Nat->Prop}{R d:List (List (Value->Prop))}(h:Blk w b k ty R)(hb: ∀a,b=some a->w'.heap[a]? =w.heap[a]?)(hl:Les R d):Blk w' b k ty d:=by
 have row: ∀(i:Nat) c,d[i]? =some c-> ∃r,R[i]? =some r:=λi c h'=>⟨_,Na (by rw[<-hl.1];exact(Ua.1 h').1)⟩;refine⟨λc f=> ?_,?_⟩
 ·obtain⟨i,hi,rfl⟩:=Rf f;have h':=Na hi;obtain⟨r,hr⟩:=row i _ h';rw[(hl.2 i r _ hr h').1,h.1 r (Ob hr)]
 ·rcases h.2 with⟨e,h2⟩|⟨a,cur,fr,m,e,h3,h4,o,p⟩
  ·exact .inl ⟨e,Gc (by rw[hl.1,h2];rfl)⟩
  ·refine .inr ⟨a,cur,fr,m,e,(hb a e).trans h3,h4,by rw[hl.1];exact o,λi c j s hi n=> ?_⟩;obtain⟨r,hr⟩:=row i c hi;obtain⟨e1,e2⟩:=hl.2 i r c hr hi;have hp:=Na (l:=r) (i:=j) (by rw[<-e1];exact(Ua.1 n).1);obtain⟨v,a1,a2,t⟩:=p i r j _ hr hp;exact⟨v,a1,a2,e2 j _ s hp n v a2 t⟩
def tyE:EO I.C->Nat
 | .cells ty _=>ty
 | .sl t _=>t
 | .slo t _ _ _=>t
 | .rows t _ _=>t
 |_=>0
def Zl:EO I.C->List (List (EV I.C))
 | .cells _ cs=>[cs]
 | .sl t l=>l.map (I.exp t)
 | .slo t l1 cs l2=>l1.map (I.exp t)++cs::l2.map (I.exp t)
 | .rows _ _ rs=>rs
 |_=>[]
def kE(P:Program):EO I.C->Nat
 | .cells _ cs=>cs.length
 | .sl t _=>P.cellsOf t
 | .slo t _ _ _=>P.cellsOf t
 | .rows _ k _=>k
 |_=>0
def Sg(P:Program)(ι:cL)(w:World)(id:Nat)(o:EO I.C):Prop:= ∃b,ι id= .live b (kE P o) (Zl o).length/\Blk w b (kE P o) (km P (tyE o)) ((Zl o).map (·.map (ef ι w)))
def slP(k n:Nat):Option (Nat×Nat)->Value->Prop
 |none,v=>n=0/\v= .slice none 0 0
 |some (b,sz),v=> ∃c a,v= .slice a n c/\(c=0\/a=some ⟨b,0,none⟩)/\n<=c/\c<=maxLen/\c*k<=sz
def Inn(P:Program)(ι:cL)(w:World)(id e:Nat)(l:List (List (I.C e)))(S:List (Option (Nat×Nat))):Prop:=
 S.length=l.length/\(∀(i j b z a:Nat),S[i]? =some (some (b,z))->S[j]? =some (some (b,a))->i=j)/\ ∀(j:Nat) m s,l[j]? =some m->S[j]? =some s->
  match s with
  |none=>m=[]
  |some (b,sz)=>ι.X b= .inn id/\(∃ty,w.shape? b=some (ty,sz))/\Blk w (some b) (P.cellsOf e) (km P e) ((m.map (I.full e)).map (·.map (cX (fm ι w) w)))
def Cr(P:Program)(e:Nat)(l:List (List (I.C e)))(S:List (Option (Nat×Nat))):List (List (EV I.C)):=List.zipWith (λm s=>[EV.prd (slP (P.cellsOf e) m.length s)]) l S
def NQ(P:Program)(ι:cL)(w:World)(id t e:Nat)(l:List (List (I.C e)))(c:EV I.C):Prop:= ∃S,Inn P ι w id e l S/\Sg P ι w id (.rows t 1 (Cr P e l S++[[c]]))
def Qu(P:Program)(ι:cL)(w:World)(id:Nat):EO I.C->Prop
 | .dead=>True
 | .frz t l=>ι id= .pure (l.map (I.full t))
 | .slq t e l c=>NQ P ι w id t e l c
 | .mp kd l=> ∃b,ι id= .live (some b) 0 0/\w.heap[b]? =some (.map (mpE kd l) l.length)
 |o=>Sg P ι w id o
def Les.map{α:Type}{f g:α->Value->Prop}(h: ∀x v,f x v->g x v)(R:List (List α)):Les (R.map (·.map f)) (R.map (·.map g)):=by refine⟨by simp,λi r e hr a=> ?_⟩;simp only[Ta,Sa]at hr a;obtain⟨x,d,rfl⟩:=hr;obtain⟨y,b,rfl⟩:=a;rw[d]at b;cases b;refine⟨by simp,λj p k hp c v _=> ?_⟩;simp only[Ta,Sa]at hp c;obtain⟨x,d,rfl⟩:=hp;obtain⟨y,b,rfl⟩:=c;rw[d]at b;cases b;exact h _ v
def Qu.step(S:fW T ι w ι' w'){id:Nat}(a: ¬T id){o:EO I.C}(h:Qu P ι w id o):Qu P ι' w' id o:=by
 have d: ∀{o:EO I.C},Sg P ι w id o->Sg P ι' w' id o:=λ⟨b,h1,h2⟩=>⟨b,by rw[S.fix id a (by rw[h1];simp),h1],h2.les (λf e=>S.own id f _ _ a (e▸h1)) (Les.map (λ_ _=>ef.step S) _)⟩;cases o with
 |dead=>trivial
 |frz t l=>exact(S.fix id a (by rw[show ι id=_ from h];simp)).trans h
 |slq t e l c=>
  obtain⟨Z,⟨n,p,r⟩,hr⟩:=h;refine⟨Z,⟨n,p,λj m s hm hs=> ?_⟩,d hr⟩;have:=r j m s hm hs;cases s with
  |none=>exact this
  |some s=>
   obtain⟨i,⟨ty,u⟩,v⟩:=this;have k:lr T (ι.X s.1):=by rw[i];exact a
   exact⟨(S.xs _ k).trans i,⟨ty,S.shape _ _ u⟩,v.les (λf e=>by cases e;exact S.xkeep _ k) (Les.map (λ_ _ h=>h.conv S.toConv) _)⟩
 |mp kd l=> obtain⟨b,h1,h2⟩:=h;exact⟨b,(S.fix id a (by rw[h1];simp)).trans h1,(S.own id b _ _ a h1).trans h2⟩
 |_=>exact d h
structure Wf (ι:cL) (w:World):Prop where
 lt: ∀id b k n,ι id= .live (some b) k n->b<w.heap.size/\ι.X b= .no
 inj: ∀i j b k k' n n',ι i= .live (some b) k n->ι j= .live (some b) k' n'->i=j
 glob:Glob (fm ι w) w
 xlt: ∀b,ι.X b≠ .no->b<w.heap.size
def Done(P:Program)(ι:cL)(w:World)(nx:Nat)(res:OR I.C)(v:Value)(w':World):Prop:=
 ∃ι',fW (λi=>i∈res.up.map (·.1)) ι w ι' w'/\Wf ι' w'/\de ι' w' res.val v/\(∀p∈res.up,Qu P ι' w' p.1 p.2)/\ ∀id,ι id= .free->(id<nx\/nx+res.k<=id)->ι' id= .free
def Done.same(W:Wf ι w){nx k:Nat}{x:EL I.C}{rd:List Nat}{v:Value}(h:de ι w x v):Done P ι w nx ⟨x,[],rd,k⟩ v w:=
 ⟨ι, .same _ _ _,W,h,λp hp=>by simp at hp,λ_ h _=>h⟩
def ju(ι:cL)(id:Nat)(s:Slot):cL:=⟨λi=>if i=id then s else ι i,ι.X⟩
@[simp] theorem zg0 (ι : cL) (id : Nat) (s : Slot) : ju ι id s id = s := by simp [ju]
def ik(ι:cL)(id:Nat)(s:Slot){i:Nat}(h:i≠id):ju ι id s i=ι i:=by simp[ju,h]
end
structure Wld (B:Nat->Prop) (w w':World):Prop where
 os:w'.os=w.os
 tape:w'.tape=w.tape
 output:w'.output=w.output
 size:w.heap.size<=w'.heap.size
 other: ∀b,b<w.heap.size-> ¬B b->w'.heap[b]? =w.heap[b]?
 shape: ∀b s,w.shape? b=some s->w'.shape? b=some s
def i7.wld{w w':World}{o:Obj}(g:i7 w w' o):Wld (λ_=>False) w w':=
 ⟨g.os,g.tape,g.output,by rw[g.size];omega,λb hb _=>g.old hb,λb s hs=>by rw[rO (g.old (J8 hs))];exact hs⟩
def Chg.wld{w w':World}{b:Nat}(g:Chg w w' b):Wld (· =b) w w':=
 ⟨g.os,g.tape,g.output,by rw[g.size];exact Db _,λa _ h=>g.other a h,λa s hs=>by
  by_cases e:a=b
  ·subst e;exact g.shape s hs
  ·rw[rO (g.other a e)];exact hs⟩
def Wld.refl(w:World):Wld (λ_=>False) w w:=⟨rfl,rfl,rfl,Db _,λ_ _ _=>rfl,λ_ _ h=>h⟩
section
variable {I:Ip} {P:Program} {T:Nat->Prop} {ι ι':cL} {w w':World} {nx:Nat}
def mR {B d:Nat->Prop}{b:Option Nat}{k n:Nat}(W:Wf ι w)(hf:ι nx= .free)(h:Wld B w w')(p:ι'.X=ι.X)(h1:ι' nx= .live b k n)(h2: ∀i,i≠nx->ι' i=ι i\/(d i/\ι' i= .dead))(t: ∀i,d i->T i)
  (hb: ∀a,b=some a->(w.heap.size<=a/\a<w'.heap.size)\/ ∃j k n,ι' j= .dead/\ι j= .live (some a) k n) (hB: ∀a,B a-> ∃j k n,T j/\ι j= .live (some a) k n):fW T ι w ι' w'/\Wf ι' w':=by
 have own: ∀{id a k n},ι id= .live (some a) k n-> ¬T id-> ¬B a:=λe m c=>by obtain⟨j,_,_,h3,h4⟩:=hB _ c;rw[W.inj _ _ _ _ _ _ _ e h4]at m;exact m h3
 have dom: ∀a,fm ι w a-> ¬B a:=λa hD c=>by obtain⟨j,_,_,_,h4⟩:=hB _ c;exact hD.2.2 _ _ _ h4
 have old: ∀{i a k' n'},ι' i= .live (some a) k' n'->(i=nx/\b=some a)\/(i≠nx/\ι i= .live (some a) k' n'):=λ{i a k' n'} e=>by
  by_cases hi:i=nx
  ·subst hi;rw[h1]at e;cases e;exact .inl ⟨rfl,rfl⟩
  ·rcases h2 i hi with f|⟨_,f⟩
   ·exact .inr ⟨hi,f▸e⟩
   ·rw[f]at e;cases e
 -- a block of the new number is nobody else's
 have new: ∀{a i k' n'},b=some a->i≠nx->ι' i= .live (some a) k' n'->False:=λ{a i k' n'} e hi h'=>by
  rcases old h' with⟨h3,_⟩|⟨_,h3⟩
  ·exact hi h3
  ·rcases hb a e with⟨h4,_⟩|⟨j,_,_,h4,o⟩
   ·have:=(W.lt _ _ _ _ h3).1;omega
   ·rw[W.inj _ _ _ _ _ _ _ h3 o,h4]at h';cases h'
 have S:fW T ι w ι' w':=by
  refine⟨⟨h.shape,λa hD=>⟨by have:=hD.1;have:=h.size;omega,by rw[p];exact hD.2.1,λi k' n' e=> ?_⟩,λa hD=>h.other a hD.1 (dom a hD)⟩,h.os,h.tape,h.output,h.size,λi a _ _ m e=>h.other a (W.lt _ _ _ _ e).1 (own e m),λi h0=> ?_,λi m h0=> ?_,λa _=>by rw[p],λa e=>by rw[p]at e;exact e,
   λa l=>h.other a (W.xlt a (Cv l)) λc=>by obtain⟨j,_,_,_,h4⟩:=hB _ c;exact Cv l (W.lt _ _ _ _ h4).2⟩
  ·rcases old e with⟨_,h3⟩|⟨_,h3⟩
   ·rcases hb a h3 with⟨h4,_⟩|⟨j,_,_,_,o⟩
    ·have:=hD.1;omega
    ·exact hD.2.2 _ _ _ o
   ·exact hD.2.2 _ _ _ h3
  all_goals rcases h2 i (λe=>h0 (e▸hf))with e|⟨e,f⟩
  ·exact .inl e
  ·exact .inr (.inl f)
  ·exact e
  ·exact absurd (t i e) m
 refine⟨S,λi a k' n' e=> ?_,λi j a k' u n' v e f=> ?_,W.glob.step S,λa l=>by rw[p]at l;have:=W.xlt a l;have:=h.size;omega⟩
 ·rw[p];rcases old e with⟨_,h3⟩|⟨_,h3⟩
  ·rcases hb a h3 with⟨x,h4⟩|⟨j,_,_,_,o⟩
   ·exact⟨h4,ve λl=>by have:=W.xlt a l;omega⟩
   ·have:=W.lt _ _ _ _ o;have:=h.size;exact⟨by omega,(W.lt _ _ _ _ o).2⟩
  ·have:=W.lt _ _ _ _ h3;have:=h.size;exact⟨by omega,(W.lt _ _ _ _ h3).2⟩
 ·rcases old e with⟨h3,h4⟩|⟨h3,h4⟩<;>rcases old f with⟨r,s⟩|⟨r,s⟩
  ·rw[h3,r]
  ·exact(new h4 r f).elim
  ·exact(new s h3 e).elim
  ·exact W.inj _ _ _ _ _ _ _ h4 s
def Fv{b id k n:Nat}(W:Wf ι w)(hl:ι id= .live (some b) k n)(d:T id)(h:Chg w w' b):fW T ι w ι w'/\Wf ι w':=by
 have S:fW T ι w ι w':=by
  refine⟨⟨h.wld.shape,λa hD=>⟨by rw[h.size];exact hD.1,hD.2⟩,λa hD=>h.other a λe=>hD.2.2 id k n (e▸hl)⟩,h.os,h.tape,h.output,by rw[h.size];exact Db _,λi a _ _ hi e=>h.other a λf=>hi ?_,λ_ _=> .inl rfl,λ_ _ _=>rfl,λ_ _=>rfl,λ_ h=>h,
   λa c=>h.other a λe=>Cv c (e▸(W.lt _ _ _ _ hl).2)⟩
  rw[W.inj _ _ _ _ _ _ _ e (f▸hl)];exact d
 exact⟨S,λi a k' n' e=>by rw[h.size];exact W.lt _ _ _ _ e,W.inj,W.glob.step S,λa c=>by rw[h.size];exact W.xlt a c⟩
def Qf(ι:cL)(w:World)(k:Nat)(rows:List (List (EV I.C)))(cur:Array Value):Prop:=
 (∀row∈rows,row.length=k)/\ ∀(i:Nat) (row:List (EV I.C)) (j:Nat) (x:EV I.C),rows[i]? =some row->row[j]? =some x-> ∃v,cur[i*k+j]? =some v/\k9 ι w x v
def Qf.blk(S:fW T ι w ι' w'){k:Nat}{rows:List (List (EV I.C))}{cur:Array Value}(h:Qf ι w k rows cur){b:Nat}{ty:TypeId->Nat->Prop}{ty2:Nat}{fr:Nat×Nat}(h1:w'.heap[b]? =some (.cells cur ty2 fr))(h2:FT ty ty2 fr cur.size)(h3:rows.length*k<=cur.size):
  Blk w' (some b) k ty (rows.map (·.map (ef ι' w'))):=by
 refine⟨λrow hr=> ?_, .inr ⟨b,cur,fr,_,rfl,h1,h2,by simpa using h3,λi row j p hi c=> ?_⟩⟩
 ·obtain⟨r,a,rfl⟩:=Rb.1 hr;rw[Xa];exact h.1 r a
 ·simp only[Ta,Sa]at hi;obtain⟨r,hr,rfl⟩:=hi;simp only[Ta,Sa]at c;obtain⟨x,d,rfl⟩:=c;obtain⟨v,a1,a2,e⟩:=h.2 i r j x hr d;exact⟨v,a1,a2,ef.step S e⟩
def isR:EO I.C->Bool
 | .cells .. | .sl .. | .slo .. | .rows .. =>true
 |_=>false
def isL:EO I.C->Bool
 | .cells .. | .sl .. | .slo .. | .rows .. | .slq .. =>true
 |_=>false
def Zu{id:Nat}{o:EO I.C}(h:isR o=true):Qu P ι w id o↔Sg P ι w id o:=by cases o<;>first|rfl|cases h
def upK(a:Option Nat)(nx:Nat)(o:EO I.C):eE I.C:=(a.map λid=>(id,EO.dead)).toList++[(nx,o)]
def Done.put {o:EO I.C}{b:Option Nat}{B:Nat->Prop}(W:Wf ι w)(hf:ι nx= .free)(ho:isR o=true)(h:Wld B w w')(c:Option Nat)(hk: ∀id,c=some id->ι id≠ .free)
  (hb: ∀d,b=some d->(w.heap.size<=d/\d<w'.heap.size)\/ ∃id k n,c=some id/\ι id= .live (some d) k n) (hB: ∀d,B d-> ∃id k n,c=some id/\ι id= .live (some d) k n)
  (hc: ∀T ι',fW T ι w ι' w'->Blk w' b (kE P o) (km P (tyE o)) ((Zl o).map (·.map (ef ι' w')))) {val:EL I.C} {rd:List Nat} {v:Value}
  (hv: ∀T ι',fW T ι w ι' w'->ι' nx= .live b (kE P o) (Zl o).length->de ι' w' val v):Done P ι w nx ⟨val,upK c nx o,rd,1⟩ v w':=by
 let a:cL:=ju ⟨λi=>if c=some i then .dead else ι i,ι.X⟩ nx (.live b (kE P o) (Zl o).length)
 have h1:a nx=_:=zg0 ..;have h2: ∀i,i≠nx->a i=ι i\/(c=some i/\a i= .dead):=λi hi=>by simp only[a,ik _ _ _ hi];split<;>simp_all
 have l: ∀id,c=some id->a id= .dead:=λid e=>by have:id≠nx:=λm=>hk id e (m▸hf);simp[a,ik _ _ _ this,e]
 have f: ∀id,c=some id->id∈(upK c nx o).map (·.1):=λid e=>by simp[upK,e]
 obtain⟨S,r⟩:=mR (ι':=a) (T:=λi=>i∈(upK c nx o).map (·.1)) W hf h rfl h1 h2 f
  (λd e=>(hb d e).imp id λ⟨j,k,n,e1,e2⟩=>⟨j,k,n,l j e1,e2⟩) (λd e=>let⟨j,k,n,e1,e2⟩:=hB d e;⟨j,k,n,f j e1,e2⟩)
 refine⟨_,S,r,hv _ _ S h1,λp hp=> ?_,λid hi hn=> ?_⟩
 ·have:p=(nx,o)\/p.2= .dead:=by cases c<;>simp[upK]at hp<;>first|exact .inl hp|(rcases hp with e|e<;>subst e<;>simp)
  rcases this with rfl|e
  ·exact(Zu ho).2 ⟨b,h1,hc _ _ S⟩
  ·rw[e];trivial
 ·rcases h2 id (by simp at hn;omega)with e|⟨e,_⟩
  ·rw[e];exact hi
  ·exact absurd hi (hk id e)
def Done.growA {o:EO I.C}{cur:Array Value}{ty2:Nat}{fr:Nat×Nat}(W:Wf ι w)(hf:ι nx= .free)(ho:isR o=true)(g:i7 w w' (.cells cur ty2 fr))(a:FT (km P (tyE o)) ty2 fr cur.size)(hc:Qf ι w (kE P o) (Zl o) cur)(hs:(Zl o).length*kE P o<=cur.size)
  (b:Option Nat) (hk: ∀id,b=some id->ι id≠ .free) {val:EL I.C} {rd:List Nat} {v:Value}
  (hv: ∀T ι',fW T ι w ι' w'->ι' nx= .live (some w.heap.size) (kE P o) (Zl o).length->de ι' w' val v):Done P ι w nx ⟨val,upK b nx o,rd,1⟩ v w':=
 .put W hf ho g.wld b hk (λc e=>by cases e;exact .inl ⟨Db _,by rw[g.size];omega⟩) (λ_ h=>h.elim) (λ_ _ S=>hc.blk S g.new a hs) hv
def Done.grow {o:EO I.C}{cur:Array Value}{fr:Nat×Nat}(W:Wf ι w)(hf:ι nx= .free)(ho:isR o=true)(g:i7 w w' (.cells cur (tyE o) fr))(a:frOK fr cur.size)(hc:Qf ι w (kE P o) (Zl o) cur)(hs:(Zl o).length*kE P o<=cur.size)
  (b:Option Nat) (hk: ∀id,b=some id->ι id≠ .free) {val:EL I.C} {rd:List Nat} {v:Value}
  (hv: ∀T ι',fW T ι w ι' w'->ι' nx= .live (some w.heap.size) (kE P o) (Zl o).length->de ι' w' val v):Done P ι w nx ⟨val,upK b nx o,rd,1⟩ v w':=
 .growA W hf ho g ⟨a, .inl rfl⟩ hc hs b hk hv
def iK{cur:Array Value}{t:Nat}{fr:Nat×Nat}{b k n c:Nat}(h:w.heap[b]? =some (.cells cur t fr))(h1:n<=c)(h2:c<=maxLen)(h3:c*k<=cur.size):gk w (some b) k 0 n (.slice (some ⟨b,0,none⟩) n c):=
 .inr ⟨b,c,t,cur.size,_,rfl,rfl, .inr (by simp),h1,h2,by simp[World.shape?,h],by simpa using h3⟩
def Ls{id:Nat}{b:Option Nat}{k n:Nat}{v:Value}(e:ι id= .live b k n)(h:gk w b k 0 n v):cx (I:=I) ι w (.c (.own id)) v:=by refine⟨?_,by show li ι w (ι id) none v;rw[e];exact h⟩;rcases h with⟨_,_,rfl⟩|⟨_,_,_,_,_,_,rfl,_⟩<;>rfl
def R3{id:Nat}{b k n:Nat}(e:ι id= .live (some b) k n):cx (I:=I) ι w (.c (.optr id 0 0)) (.pointer (some ⟨b,0,none⟩)):=
 ⟨rfl,by show gb (ι id) 0 0 _;rw[e];exact⟨b,rfl,by simp⟩⟩
def Yz{i:Nat}{o:EO I.C}(ho:isL o=true)(a:Qu P ι w i o): ∃b k n,ι i= .live b k n:=by
 cases o with
 |slq t e l c=>obtain⟨_,_,b,e,_⟩:=a;exact⟨_,_,_,e⟩
 |dead=>cases ho
 |frz t l=>cases ho
 |mp kd l=>cases ho
 |_=>obtain⟨b,e,_⟩:=a;exact⟨_,_,_,e⟩
end
def InjM(m:Mp):Prop:= ∀i j a,lk m i=some (some a)->lk m j=some (some a)->i=j
def Ext(m a:Mp):Prop:=(∀i z,lk m i=some z->lk a i=some z)/\(InjM m->InjM a)
def Ext.refl(m:Mp):Ext m m:=⟨λ_ _ h=>h,id⟩
def Ext.trans{a b c:Mp}(h:Ext a b)(g:Ext b c):Ext a c:=⟨λi z e=>g.1 i z (h.1 i z e),λe=>g.2 (h.2 e)⟩
def Cmp(ι ι2:cL)(ks:Nat->Nat)(m:Mp):Prop:= ∀i z,lk m i=some z->match z with|some a=>ι2 i=ι a/\ ∀b,ι.X b= .inn a->ι2.X b= .inn i|none=>ι2 i= .live none (ks i) 0
def Cmp.ext{ι ι2:cL}{ks:Nat->Nat}{m a:Mp}(h:Cmp ι ι2 ks a)(e:Ext m a):Cmp ι ι2 ks m:=λi z b=>h i z (e.1 i z b)
def Z9{α:Type}{j:Nat}{x:α}{r:List (Nat×α)}{i:Nat}:lk ((j,x)::r) i=if i=j then some x else lk r i:=by simp only[lk];simp_all
def rF: ∀{m:Mp} {a:Nat},Yu m a=false-> ∀i,lk m i≠some (some a)
 |[],_,_,i,h=>by cases h
 |(j,z)::r,a,hu,i,h=>by
  rw[Z9]at h;cases z with
  |none=>
   split at h
   ·cases h
   ·exact rF (m:=r) (by simpa [Yu] using hu) i h
  |some b=>
   simp only[Yu]at hu;cases hb:Nat.beq a b with
   |true=>grind
   |false=>
    rw[hb]at hu;split at h
    ·simp_all
    ·exact rF (m:=r) hu i h
def Dt{m d:Mp}{i:Nat}{a:Option Nat}(h:bndM m i a=some d):Ext m d/\lk d i=some a:=by
 unfold bndM at h;split at h
 ·rename_i b hb;cases a with
  |none=>cases h
  |some a=> cases f:Nat.beq a b<;>simp only[f,Ca,Ba,reduceCtorEq,Option.some.injEq]at h;subst h;rw[ma f];exact⟨.refl _,hb⟩
 ·cases h
 ·rename_i hn;have ext: ∀z,d=(i,z)::m-> ∀j y,lk m j=some y->lk d j=some y:=λz e j y c=>by rw[e,Z9,Ka (λe=>by grind)];exact c
  cases a with
  |none=>
   cases h;refine⟨⟨ext none rfl,λhi j k b c hk=> ?_⟩,by rw[Z9,La rfl]⟩;rw[Z9]at c hk;split at c<;>split at hk<;>first|(cases c;done)|(cases hk;done)|exact hi j k b c hk
  |some a=>
   cases hu:Yu m a<;>simp only[hu,Ca,Ba,reduceCtorEq,Option.some.injEq]at h;subst h;refine⟨⟨ext (some a) rfl,λhi j k b c hk=> ?_⟩,by rw[Z9,La rfl]⟩;rw[Z9]at c hk;split at c<;>split at hk
   ·grind
   ·injection c with c;injection c with c;subst c;exact absurd hk (rF hu k)
   ·injection hk with hk;injection hk with hk;subst hk;exact absurd c (rF hu j)
   ·exact hi j k b c hk
section
variable {I:Ip} {P:Program}
inductive WkP:PV->PV->Prop where
 |refl (x:PV):WkP x x
 |nil:WkP (.at (.slice none 0 0)) (.sl [])
structure cU (P:Program) (I:Ip):Prop where
 len: ∀t x,(I.full t x).length=P.cellsOf t
 exp: ∀t x,I.full t x=(I.exp t x).map (pvE I)
 pur: ∀t x,∀v∈I.exp t x,Nn v=true
 made: ∀t cs x,I.made t cs=some x->(∀v∈cs,Nn v=true)/\cs.length=(I.full t x).length/\ ∀(j:Nat) (a b:PV),(cs.map (pvE I))[j]? =some a->(I.full t x)[j]? =some b->WkP a b
 byt: ∀t p,I.byt t=some p->(∀l,(p.1 l).map (I.full t)=l.map λb=>[.at (.int .u8 b.toNat)])/\(∀l,l.map (I.full t)=(p.2 l).map λb=>[.at (.int .u8 b.toNat)])/\cI P t= .int .u8
def WkP.rep{D:Nat->Prop}{w:World}{a b:PV}(h:WkP a b){v:Value}(hv:cX D w a v):cX D w b v:=by
 cases h with
 |refl=>exact hv
 |nil=>cases hv;exact .sl [] none 0 0 0 0 0 (λ_ _=>undef) rfl (Db _) (λh=>absurd h (by omega)) (λh=>absurd h (by omega)) (by simp) (by simp) (by simp)
def Cj{ι:cL}{w:World}{x:EV I.C}(h:Nn x=true){v:Value}:ef ι w x v↔cX (fm ι w) w (pvE I x) v:=by cases x<;>first|rfl|cases h
def Um(hI:cU P I)(t:Nat)(x:I.C t):(I.exp t x).length=P.cellsOf t:=by rw[<-hI.len t x,hI.exp,Xa]
def Sm(hI:cU P I){t:Nat}{x:I.C t}{j:Nat}{y:EV I.C}(h:(I.exp t x)[j]? =some y):(I.full t x)[j]? =some (pvE I y)/\Nn y=true:=⟨by rw[hI.exp,Ta,h];rfl,hI.pur t x y (Ob h)⟩
def LesC(ι:cL)(w:World)(ι2:cL)(cs c:List (EV I.C)):Prop:=c.length=cs.length/\ ∀(j:Nat) (a b:EV I.C),cs[j]? =some a->c[j]? =some b-> ∀v,v.oneCell'=true->ef ι w a v->ef ι2 w b v
def DR(hI:cU P I){t:Nat}{cs:List (EV I.C)}{x:I.C t}(h:I.made t cs=some x):cs.length=P.cellsOf t/\ ∀{ι ι2:cL} {w:World},Conv ι w ι2 w->LesC ι w ι2 cs (I.exp t x):=by obtain⟨h1,h2,h3⟩:=hI.made t cs x h;rw[hI.len]at h2;refine⟨h2,λc=>⟨by rw[Um hI,h2],λj a b ha hb v _ hv=> ?_⟩⟩;obtain⟨e1,e2⟩:=Sm hI hb;exact(Cj e2).2 (((h3 j _ _ (by grind) e1).rep ((Cj (h1 a (Ob ha))).1 hv)).conv c)
def qK{t u:Nat}{x:List (I.C u)}{y:List (I.C t)}(hc:Ih I x=some y):u=t/\HEq x y:=by
 unfold Ih at hc;split at hc
 ·grind
 ·cases hc
def zIb{t u:Nat}{x:I.C u}{y:I.C t}(hc:VQ I x=some y):u=t/\HEq x y:=by
 unfold VQ at hc;split at hc
 ·grind
 ·cases hc
def Pt{a b:IntKind}(h:eqIK a b=true):a=b:=by cases a<;>cases b<;>first|rfl|cases h
def zX{R:Type}{r0:R}{b:Bool}{x:Option R}(h:cond b x none=some r0):b=true/\x=some r0:=by
 grind
def TY(P:Program)(s:Shp I):Prop:=(s.u=true-> ∀x,s.enc x=s.enc s.dflt)/\ ∀a m x b,s.mat a m=some (x,b)->Ext m b/\ ∀{ι ι2:cL} {w:World} {ks:Nat->Nat},Conv ι w ι2 w->Cmp ι ι2 ks b-> ∀v,cx ι w a v->cx ι2 w (s.enc x) v
def Lt{x:ET I.C}{mat:ET I.C->Mp->Option Mp}(h: ∀a m b,mat a m=some b->Ext m b/\ ∀{ι ι2:cL} {w:World} {ks:Nat->Nat},Conv ι w ι2 w->Cmp ι ι2 ks b-> ∀v,cx ι w a v->cx ι2 w x v):TY P (Wp I x mat):=
 ⟨λ_ _=>rfl,λa m y b c=>by
  simp only[Wp]at c;split at c<;>cases c;exact h a m b (by assumption)⟩
def Conv.c{ι ι2:cL}{w w':World}(h:Conv ι w ι2 w'){x:EV I.C}(hp:Oi x=[]){v:Value}(hv:cx ι w (.c x) v):cx ι2 w' (.c x) v:=by rw[<-oQ (.c x)];exact hv.ren h λi hi=>by rw[show rQ (.c x)=Oi x from rfl,hp]at hi;cases hi
def Hq{ι ι2:cL}{w w':World}{i j:Nat}(h:ι2 j=ι i):Slw ι ι2 w w' i j:=λ_=> .inl h
def P6: ∀{caps:List Nat} {l:List (Nat×Nat×Nat)} {m d:Mp},yE caps l m=some d->Ext m d/\l.length=caps.length/\ ∀(j:Nat) i q,caps[j]? =some i->l[j]? =some q->q.2=(0,0)/\lk d i=some (some q.1)
 |[],[],m,d,h=>by cases h;exact⟨.refl _,rfl,by simp⟩
 |[],_::_,_,_,h=>by cases h
 |_::_,[],_,_,h=>by cases h
 |i::r,(a,b,c)::s,m,d,h=>by
  unfold yE at h;split at h<;>try (cases ‹_::_=[]›;done)
  ·rename_i e1 e2;cases e1;cases e2;split at h
   ·rename_i p hm;obtain⟨e1,e2⟩:=Dt hm;obtain⟨e,n,o⟩:=P6 h;refine⟨e1.trans e,by simp[n],λj k q hk f=> ?_⟩;cases j with
    |zero=>cases hk;cases f;exact⟨rfl,e.1 _ _ e2⟩
    |succ j=>exact o j k q hk f
   ·cases h
  ·cases h
def zS8(hI:cU P I): ∀s:Sh,TY P (s.shp I):=by
 intro s;cases s with
 |own i=>
  refine Lt λa m o d=> ?_;split at d
  ·obtain⟨e1,e2⟩:=Dt d;exact⟨e1,λe hc v hv=>⟨hv.1,li.conv e (Hq (hc i _ e2).1) hv.2⟩⟩
  ·obtain⟨e1,e2⟩:=Dt d;refine⟨e1,λe hc v hv=>⟨hv.1,?_⟩⟩;have:=hc i _ e2;show li _ _ _ none v;rw[this];cases hv.2;exact .inl ⟨rfl,rfl,rfl⟩
  ·cases d
 |optr i=>
  refine Lt λa m o d=> ?_;split at d
  ·obtain⟨e1,e2⟩:=Dt d;exact⟨e1,λe hc v hv=>⟨hv.1,gb.conv (w:=default) (w':=default) (Hq (hc i _ e2).1) hv.2⟩⟩
  ·cases d
 |clo f caps=>
  refine Lt λa m o d=> ?_;split at d
  ·rename_i g l;obtain⟨hf,A⟩:=zX d;clear d;obtain rfl:=ma hf;obtain⟨e1,e2,e3⟩:=P6 A;refine⟨e1,λe hc v ⟨h1,vs,h2,h3,h4⟩=>⟨h1,vs,h2,by grind,λj q p=> ?_⟩⟩;simp only[Ta,Sa]at p;obtain⟨i,hi,rfl⟩:=p;obtain⟨q,p⟩: ∃q,l[j]? =some q:=⟨_,Na (by grind)⟩;obtain⟨u,F,J,E⟩:=h4 j q p;obtain⟨k1,k2⟩:=e3 j i q hi p;rw[show q.2.1=0 by rw[k1],show q.2.2=0 by rw[k1]]at E;exact⟨u,F,J,gb.conv (w:=default) (w':=default) (Hq (hc i _ k2).1) E⟩
  ·cases d
 |nilp=>exact Lt λa m o d=>by split at d<;>cases d;exact⟨.refl _,λe _ v hv=>e.c rfl hv⟩
 |nili=>exact Lt λa m o d=>by split at d<;>cases d;exact⟨.refl _,λe _ v hv=>e.c rfl hv⟩
 |nop i ty n=>
  refine Lt λa m o d=> ?_;split at d
  ·obtain⟨hk,A⟩:=zX d;clear d;simp only[Da]at hk;obtain rfl:=ma hk.1;obtain rfl:=ma hk.2;obtain⟨e1,e2⟩:=Dt A;exact⟨e1,λe hc v hv=>⟨hv.1,zRB.conv (λ_ _ h=>h) (Hq (hc i _ e2).1) hv.2⟩⟩
  ·cases d
 |agi i k=>
  refine⟨λh=>(by cases h),λa m x o d=> ?_⟩;simp only[Sh.shp]at d;split at d
  ·obtain⟨hk,d⟩:=zX d;obtain rfl:=Pt hk;split at d
   ·rename_i M hm;cases d;obtain⟨e1,e2⟩:=Dt hm;refine⟨e1,λe hc v ⟨vs,h1,h2,h3⟩=>⟨vs,h1,h2,λj b hb=> ?_⟩⟩;rcases j with _|_|j
    ·cases hb;obtain⟨u,a1,a2,r⟩:=h3 0 _ rfl;exact⟨u,a1,a2,li.conv e (Hq (hc i _ e2).1) r⟩
    ·cases hb;obtain⟨u,a1,a2,r⟩:=h3 1 _ rfl;exact⟨u,a1,a2,cX.conv e r⟩
    ·cases hb
   ·cases d
  ·cases d
 |nilv=>exact Lt λa m o d=>by split at d<;>cases d;exact⟨.refl _,λe _ v hv=>e.c rfl hv⟩
 |sl t=>
  refine⟨λh=>(by cases h),λa m x o d=> ?_⟩;simp only[Sh.shp]at d;split at d
  ·split at d<;>cases d;rename_i hc;obtain⟨rfl,hc⟩:=qK hc;cases hc;exact⟨.refl _,λe _ v hv=>e.c rfl hv⟩
  ·cases d;exact⟨.refl _,λe _ v hv=>⟨hv.1,WkP.nil.rep (cX.conv e hv.2)⟩⟩
  ·cases d
 |val t=>
  refine⟨λh=>(by cases h),λa m x o d=> ?_⟩;simp only[Sh.shp]at d;split at d
  ·obtain⟨y,L,d⟩:=Ra.1 d;cases d;refine⟨.refl _,λe _ v ⟨vs,h1,h2,h3⟩=> ?_⟩;obtain⟨l1,l2⟩:=(DR hI L).2 e;refine⟨vs,h1,h2.trans l1.symm,λj b hb=> ?_⟩;have ha:=Na (show j<_ by rw[<-l1];grind);obtain⟨u,a1,a2,r⟩:=h3 j _ ha;exact⟨u,a1,a2,l2 j _ b ha hb u a2 r⟩
  ·cases d
 |ptr t=>
  refine⟨λh=>(by cases h),λa m x o d=> ?_⟩;simp only[Sh.shp]at d;split at d
  ·split at d<;>cases d;rename_i hc;obtain⟨rfl,hc⟩:=zIb hc;cases hc;exact⟨.refl _,λe _ v hv=>e.c rfl hv⟩
  ·cases d
 |int k=>
  refine⟨λh=>(by cases h),λa m x o d=> ?_⟩;simp only[Sh.shp]at d;split at d
  ·obtain⟨hk,d⟩:=zX d;obtain rfl:=Pt hk;cases d;exact⟨.refl _,λe _ v hv=>e.c rfl hv⟩
  ·cases d
 |ifb=>
  refine⟨λh=>(by cases h),λa m x o d=> ?_⟩;simp only[Sh.shp]at d;split at d<;>cases d;exact⟨.refl _,λ_ _ v hv=>hv⟩
 |_=> refine⟨λh=>(by cases h),λa m x o d=> ?_⟩;simp only[Sh.shp]at d;split at d<;>cases d;exact⟨.refl _,λe _ v hv=>e.c rfl hv⟩
def VLaw(P:Program)(s:VL I):Prop:=(s.u=true-> ∀x,s.enc x=s.enc s.dflt)/\ ∀as m x c,s.mat as m=some (x,c)->Ext m c/\(s.enc x).length=as.length/\ ∀{ι ι2:cL} {w:World} {ks:Nat->Nat},Conv ι w ι2 w->Cmp ι ι2 ks c->
 ∀(j:Nat) a b,as[j]? =some a->(s.enc x)[j]? =some b-> ∀v,cx ι w a v->cx ι2 w b v
def xK(hI:cU P I): ∀l:List Sh,VLaw P (el I l)
 |[]=>⟨λ_ _=>rfl,λas m x d c=>by
  simp only[el,VL.nil]at c;split at c<;>cases c;exact⟨.refl _,rfl,λ_ _ j a b h=>by cases h⟩⟩
 |s::r=>by
  obtain⟨u,n⟩:=zS8 hI s;obtain⟨A,o⟩:=xK hI r;have k: ∀(as:List (ET I.C)) (m i d:Mp) a f y z,as=a::f->(s.shp I).mat a m=some (y,i)->(el I r).mat f i=some (z,d)->Ext m d/\((s.shp I).enc y::(el I r).enc z).length=as.length/\
    ∀{ι ι2:cL} {w:World} {ks:Nat->Nat},Conv ι w ι2 w->Cmp ι ι2 ks d-> ∀(j:Nat) a b,as[j]? =some a->((s.shp I).enc y::(el I r).enc z)[j]? =some b-> ∀v,cx ι w a v->cx ι2 w b v:=by
   intro as m i d a f y z e h1 h2;subst e;obtain⟨e1,f1⟩:=n _ _ _ _ h1;obtain⟨e2,l2,E⟩:=o _ _ _ _ h2;refine⟨e1.trans e2,by simp[l2],λp hc j a b ha hb v hv=> ?_⟩;cases j with
   |zero=>cases ha;cases hb;exact f1 p (hc.ext e2) v hv
   |succ j=>grind
  show VLaw P (VL.cons (s.shp I) (el I r));unfold VL.cons;split
  ·rename_i hu;refine⟨λh x=>by grind,λas m x d c=> ?_⟩;cases as with
   |nil=>cases c
   |cons a as=>
    obtain⟨⟨y,i⟩,h1,h2⟩:=Ra.1 c
    grind
  ·rename_i hu;refine⟨λh=>(by cases h),λas m x d c=> ?_⟩;cases as with
   |nil=>cases c
   |cons a as=>
    obtain⟨⟨y,i⟩,h1,c⟩:=Ra.1 c;obtain⟨⟨z,t⟩,h2,c⟩:=Ra.1 c
    grind
  ·refine⟨λh=>(by cases h),λas m x d c=> ?_⟩;cases as with
   |nil=>cases c
   |cons a as=>
    obtain⟨⟨y,i⟩,h1,c⟩:=Ra.1 c;obtain⟨⟨z,t⟩,h2,c⟩:=Ra.1 c
    grind
def Sq{ι ι2:cL}{w:World}{a i:Nat}{o o':EO I.C}(n:Sg P ι w a o)(hs:ι2 i=ι a)(h1:kE P o'=kE P o)(h2:tyE o'=tyE o)(h3:(Zl o').length=(Zl o).length)(h4: ∀(j:Nat) r l,(Zl o)[j]? =some r->(Zl o')[j]? =some l->LesC ι w ι2 r l):Sg P ι2 w i o':=by
 obtain⟨b,e,hb⟩:=n;refine⟨b,by grind,?_⟩;rw[h1,h2];refine hb.les (λ_ _=>rfl) ⟨by simp[h3],λj x A m c=> ?_⟩;simp only[Ta,Sa]at m c;obtain⟨y,s,rfl⟩:=m;obtain⟨t,f,rfl⟩:=c;obtain⟨l1,l2⟩:=h4 j y t s f;refine⟨by simp[l1],λk p E hp d v h1=> ?_⟩;simp only[Ta,Sa]at hp d;obtain⟨z,F,rfl⟩:=hp;obtain⟨J,u,rfl⟩:=d
 grind
def nS(hI:cU P I){ι ι2:cL}{w:World}(c:Conv ι w ι2 w)(t:Nat)(x:I.C t):LesC ι w ι2 (I.exp t x) (I.exp t x):=
 ⟨rfl,λj a b ha hb v _ hv=>by rw[ha]at hb;cases hb;have:=hI.pur t x a (Ob ha);exact(Cj this).2 (((Cj this).1 hv).conv c)⟩
def zIc{t u:Nat}{x:List (List (I.C u))}{y:List (List (I.C t))}(hc:UQ I x=some y):u=t/\HEq x y:=by
 unfold UQ at hc;split at hc
 ·grind
 ·cases hc
def zCG{e:Nat}: ∀{l:List (List (I.C e))} {S:List (Option (Nat×Nat))} {r:List (EV I.C)},r∈Cr P e l S-> ∃p,r=[.prd p]
 |[],S,r,h=>by simp[Cr]at h
 |m::l,[],r,h=>by simp[Cr]at h
 |m::l,s::S,r,h=>by
  rcases ib.1 (show r∈[EV.prd _]::Cr P e l S from h)with rfl|h
  ·grind
  ·exact zCG h
def BR{ι ι2:cL}{w:World}{a i t e:Nat}{l:List (List (I.C e))}{c u:EV I.C}(h:NQ P ι w a t e l c)(hs:ι2 i=ι a)(F: ∀b,ι.X b= .inn a->ι2.X b= .inn i)(J:Conv ι w ι2 w)(hc: ∀v,v.oneCell'=true->ef ι w c v->ef ι2 w u v):NQ P ι2 w i t e l u:=by
 obtain⟨S,⟨L,M,O⟩,hr⟩:=h;refine⟨S,⟨L,M,λj m s hm hs=> ?_⟩,Sq (o:= .rows t 1 (Cr P e l S++[[c]])) (o':= .rows t 1 (Cr P e l S++[[u]])) hr hs rfl rfl (by simp[Zl]) λj r Q hr d=> ?_⟩
 ·have:=O j m s hm hs;cases s with
  |none=>exact this
  |some s=>exact⟨F _ this.1,this.2.1,this.2.2.les (λ_ _=>rfl) (Les.map (λ_ _ h=>h.conv J) _)⟩
 ·simp only[Zl]at hr d;rw[Fe]at hr d;split at hr
  ·rename_i A;rw[La A,hr]at d;cases d;obtain⟨p,rfl⟩:=zCG (Ob hr);refine⟨rfl,λk x y f E v _ hv=> ?_⟩;rw[f]at E;cases E;cases k with
   |zero=>cases f;exact hv
   |succ k=>cases f
  ·rename_i A;rw[Ka A]at d;generalize j - (Cr P e l S).length=n at hr d;cases n with
   |zero=>
    cases hr;cases d;refine⟨rfl,λk x y f E v ho hv=> ?_⟩
    grind
   |succ n=>cases hr
def OLaw(P:Program)(t0:Option Nat)(s:OShp I):Prop:=(s.u=true-> ∀x,s.enc x=s.enc s.dflt)/\ ∀o m x c,s.mat o m=some (x,c)->Ext m c/\ ∀{ι ι2:cL} {w:World} {ks:Nat->Nat},Conv ι w ι2 w->Cmp ι ι2 ks c->
 match o with
 |some o=> ∀a i,Qu P ι w a o->(ι2 i=ι a/\ ∀b,ι.X b= .inn a->ι2.X b= .inn i)->Qu P ι2 w i (s.enc x)
 |none=> ∀i,(∀t,t0=some t->ι2 i= .live none (P.cellsOf t) 0)->Qu P ι2 w i (s.enc x)
def XZ{as:List (EV I.C)}{bs:List (ET I.C)}{ι ι2:cL}{w:World}(hl:bs.length=(as.map ET.c).length)(h: ∀(j:Nat) a b,(as.map ET.c)[j]? =some a->bs[j]? =some b-> ∀v,cx ι w a v->cx ι2 w b v):LesC ι w ι2 as (bs.map (evOf I)):=by
 refine⟨by simpa using hl,λj a b ha hb v h1 hv=> ?_⟩;simp only[Ta,Sa]at hb;obtain⟨c,hc,rfl⟩:=hb;have:=h j (.c a) c (by grind) hc v ⟨h1,hv⟩;cases c with
 |c y=>exact this.2
 |agg xs=>obtain⟨vs,rfl,_⟩:=this;simp[Value.oneCell']at h1
def slT:jj->Option Nat
 | .sl t=>some t
 |_=>none
def zQP(hI:cU P I)(s:jj):OLaw P (slT s) (s.shp I):=by
 cases s with
 |sl t=>
  refine⟨λh=>(by cases h),λo m x u d=> ?_⟩;simp only[jj.shp]at d;split at d
  ·split at d<;>cases d;rename_i hc;obtain⟨rfl,hc⟩:=qK hc;cases hc;exact⟨.refl _,λl _ a i p hs=>Sq (o':= .sl _ _) p hs.1 rfl rfl rfl λj r J hr k=>by
    rw[hr]at k;cases k;simp only[Zl,Ta,Sa]at hr;obtain⟨y,_,rfl⟩:=hr;exact nS hI l _ y⟩
  ·cases d;exact⟨.refl _,λ_ _ i hi=>⟨none,hi t rfl,λrow hr=>absurd hr (Tf), .inl ⟨rfl,rfl⟩⟩⟩
  ·cases d
 |row t=>
  refine⟨λh=>(by cases h),λo m x u d=> ?_⟩;simp only[jj.shp]at d;split at d
  ·obtain⟨ht,L⟩:=zX d;clear d;obtain rfl:=ma ht;obtain⟨y,V,d⟩:=Ra.1 L;cases d;obtain⟨l1,l2⟩:=DR hI V;refine⟨.refl _,λl _ a i p hs=>Sq p hs.1 ?_ rfl rfl λj r J hr k=> ?_⟩
   ·exact(Um hI _ _).trans l1.symm
   ·cases j with
    |zero=>cases hr;cases k;exact l2 l
    |succ j=>cases hr
  ·cases d
 |cells ty shs=>
  obtain⟨M,O⟩:=xK hI shs;refine⟨λh x=>by simp only[jj.shp]at h ⊢;rw[M h x],λo m x u d=> ?_⟩;simp only[jj.shp]at d;split at d
  ·obtain⟨ht,L⟩:=zX d;clear d;obtain rfl:=ma ht;obtain⟨e,l1,l2⟩:=O _ _ _ _ L;refine⟨e,λl hc a i p hs=> ?_⟩;have F:=XZ l1 (l2 l hc);refine Sq p hs.1 (by simp only[jj.shp,kE];exact F.1) rfl rfl λj r J hr k=> ?_;cases j with
   |zero=>cases hr;cases k;exact F
   |succ j=>cases hr
  ·cases d
 |slo t shs=>
  obtain⟨M,O⟩:=xK hI shs;have A: ∀{l1 l2:List (I.C t)} {cs m x u},(el I shs).mat (cs.map .c) m=some (x,u)->Ext m u/\ ∀{ι ι2:cL} {w:World} {ks:Nat->Nat},Conv ι w ι2 w->Cmp ι ι2 ks u-> ∀a i,Qu P ι w a (.slo t l1 cs l2)->(ι2 i=ι a/\ ∀b,ι.X b= .inn a->ι2.X b= .inn i)->Qu P ι2 w i (.slo t l1 (((el I shs).enc x).map (evOf I)) l2):=by
   intro l1 l2 cs m x u h;obtain⟨e,W,Y⟩:=O _ _ _ _ h;refine⟨e,λl hc a i p hs=> ?_⟩;have F:=XZ W (Y l hc);refine Sq p hs.1 rfl rfl (by simp[Zl]) λj r J hr k=> ?_;simp only[Zl]at hr k;rw[Fe]at hr k;split at hr<;>rename_i Q
   ·rw[La Q,hr]at k;cases k;simp only[Ta,Sa]at hr;obtain⟨y,_,rfl⟩:=hr;exact nS hI l _ y
   ·rw[Ka Q]at k;cases hk:j - (l1.map (I.exp t)).length with
    |zero=>rw[hk]at hr k;cases hr;cases k;exact F
    |succ n=> rw[hk]at hr k;simp only[Kg]at hr k;rw[hr]at k;cases k;simp only[Ta,Sa]at hr;obtain⟨y,_,rfl⟩:=hr;exact nS hI l _ y
  show OLaw P none (su t (el I shs));unfold su;split
  ·rename_i hu;refine⟨λh=>(by cases h),λo m x u d=> ?_⟩;dsimp only at d;split at d
   case h_2=>cases d
   split at d
   case h_2=>cases d
   rename_i c1 c2;obtain⟨rfl,c1⟩:=qK c1;cases c1;obtain⟨_,c2⟩:=qK c2;cases c2;obtain⟨⟨y,U⟩,h1,d⟩:=Ra.1 d;cases d;obtain⟨e,f⟩:=A h1;refine⟨e,λl hc a i p hs=> ?_⟩;have:=f l hc a i p hs;rw[M hu y]at this;exact this
  ·refine⟨λh=>(by cases h),λo m x u d=> ?_⟩;dsimp only at d;split at d
   case h_2=>cases d
   split at d
   case h_2=>cases d
   rename_i c1 c2;obtain⟨rfl,c1⟩:=qK c1;cases c1;obtain⟨_,c2⟩:=qK c2;cases c2;obtain⟨⟨y,U⟩,h1,d⟩:=Ra.1 d;cases d;exact A h1
 |slq t e j=>
  refine⟨λh=>(by cases h),λo m x u d=> ?_⟩;have d:(qShp I t e j).mat o m=some (x,u):=d;simp only[qShp]at d;split at d
  case h_2=>cases d
  obtain⟨hu,E⟩:=zX d;clear d;obtain rfl:=ma hu;split at E
  case h_3=>cases E
  all_goals
   rename_i hc;obtain⟨U,h1,h2⟩:=Ra.1 E;cases h2;obtain⟨rfl,hc⟩:=zIc hc;cases hc;obtain⟨e1,e2⟩:=Dt h1
  ·exact⟨e1,λl hc a i p hs=>BR p hs.1 hs.2 l λv _ hv=>li.conv l (Hq (hc j _ e2).1) hv⟩
  ·refine⟨e1,λl hc a i p hs=>BR p hs.1 hs.2 l λv _ hv=> ?_⟩;have:=hc j _ e2;show li _ _ _ none v;rw[this];cases hv;exact .inl ⟨rfl,rfl,rfl⟩
def wR(s:jj)(x:(s.shp I).T):isL ((s.shp I).enc x)=true:=by
 cases s with
 |slo t shs=> revert x;show∀x:(su t (el I shs)).T,isL ((su t (el I shs)).enc x)=true;unfold su;split<;>exact λ_=>rfl
 |_=>rfl
def GZ: ∀(l:List (Nat×jj)) (x:(fY I l).T),∀p∈(fY I l).enc x,isL p.2=true
 |[],_,p,hp=>by cases hp
 |(i,s)::r,x,p,hp=>by revert x;show∀x:(OL.cons i (s.shp I) (fY I r)).T,p∈(OL.cons i (s.shp I) (fY I r)).enc x->_;unfold OL.cons;split<;>intro x hp<;>rcases ib.1 hp with rfl|hp<;>first|exact wR s _|exact GZ r _ p hp
def OLLaw(P:Program)(objs:List (Nat×jj))(s:OL I):Prop:=(s.u=true-> ∀x,s.enc x=s.enc s.dflt)/\(∀x,(s.enc x).map (·.1)=objs.map (·.1))/\ ∀h m x b,s.mat h m=some (x,b)->Ext m b/\(∀o∈objs,∃z,lk b o.1=some z/\ ∀a,z=some a-> ∃o,h a=some o)/\
 ∀{ι ι2:cL} {w:World} {ks:Nat->Nat},Conv ι w ι2 w->Cmp ι ι2 ks b->(∀o∈objs,lk b o.1=some none-> ∀t,slT o.2=some t->ks o.1=P.cellsOf t)->(∀i a,lk b i=some (some a)-> ∀o,h a=some o->Qu P ι w a o)-> ∀p∈s.enc x,isL p.2=true/\Qu P ι2 w p.1 p.2
def FZ(hI:cU P I): ∀l:List (Nat×jj),OLLaw P l (fY I l)
 |[]=>⟨λ_ _=>rfl,λ_=>rfl,λh m x d c=>by
  cases c;exact⟨.refl _,by simp,λ_ _ _ _ p hp=>by cases hp⟩⟩
 |(i,s)::r=>by
  obtain⟨O,u⟩:=zQP hI s;obtain⟨Q,v,A⟩:=FZ hI r;have k: ∀(h:Nat->Option (EO I.C)) (m e d:Mp) a y z,OC h m i=some a->(s.shp I).mat a m=some (y,e)->(fY I r).mat h e=some (z,d)->Ext m d/\(∀o∈(i,s)::r,∃z,lk d o.1=some z/\ ∀a,z=some a-> ∃o,h a=some o)/\
    ∀{ι ι2:cL} {w:World} {ks:Nat->Nat},Conv ι w ι2 w->Cmp ι ι2 ks d->(∀o∈(i,s)::r,lk d o.1=some none-> ∀t,slT o.2=some t->ks o.1=P.cellsOf t)->(∀i a,lk d i=some (some a)-> ∀o,h a=some o->Qu P ι w a o)-> ∀p∈(i,(s.shp I).enc y)::(fY I r).enc z,isL p.2=true/\Qu P ι2 w p.1 p.2:=by
   intro h m e d a y z h0 h1 h2;obtain⟨e1,f1⟩:=u _ _ _ _ h1;obtain⟨e2,l2,U⟩:=A _ _ _ _ h2;have j: ∃z,lk m i=some z/\((∃b o,z=some b/\h b=some o/\a=some o)\/(z=none/\a=none)):=by
    unfold OC at h0;split at h0
    ·grind
    ·grind
    ·cases h0
   obtain⟨E,k1,k2⟩:=j;have k3:=e2.1 _ _ (e1.1 _ _ k1);refine⟨e1.trans e2,λo ho=> ?_,λF hc hk J p hp=> ?_⟩
   ·grind
   ·rcases ib.1 hp with rfl|hp
    ·have f:=f1 F (hc.ext e2);have n:=hc i E k3;rcases k2 with⟨b,o,rfl,L,rfl⟩|⟨rfl,rfl⟩
     ·exact⟨wR s y,f b i (J i b k3 o L) n⟩
     ·exact⟨wR s y,f i λt ht=>(show _=Slot.live none _ 0 from n).trans (by simp_all)⟩
    grind
  show OLLaw P ((i,s)::r) (OL.cons i (s.shp I) (fY I r));unfold OL.cons;split
  ·rename_i hu;refine⟨λh x=>by grind,λx=>by grind,λh m x d c=> ?_⟩;dsimp only at c;split at c
   ·cases c
   ·rename_i a h0;obtain⟨⟨y,e⟩,h1,h2⟩:=Ra.1 c
    grind
  ·rename_i hu;refine⟨λh=>(by cases h),λx=>by grind,λh m x d c=> ?_⟩;dsimp only at c;split at c
   ·cases c
   ·rename_i a h0;obtain⟨⟨y,e⟩,h1,c⟩:=Ra.1 c;obtain⟨⟨z,M⟩,h2,c⟩:=Ra.1 c
    grind
  ·refine⟨λh=>(by cases h),λx=>by grind,λh m x d c=> ?_⟩;dsimp only at c;split at c
   ·cases c
   ·rename_i a h0;obtain⟨⟨y,e⟩,h1,c⟩:=Ra.1 c;obtain⟨⟨z,M⟩,h2,c⟩:=Ra.1 c
    grind
def Gq(hI:cU P I)(s:du):(∀x,((s.sl I).enc x).2.map (·.1)=s.objs.map (·.1))/\ ∀as h m x c,(s.sl I).mat as h m=some (x,c)->Ext m c/\(∀o∈s.objs,∃z,lk c o.1=some z/\ ∀a,z=some a-> ∃o,h a=some o)/\((s.sl I).enc x).1.length=as.length/\
  ∀{ι ι2:cL} {w:World} {ks:Nat->Nat},Conv ι w ι2 w->Cmp ι ι2 ks c->(∀o∈s.objs,lk c o.1=some none-> ∀t,slT o.2=some t->ks o.1=P.cellsOf t)->(∀i a,lk c i=some (some a)-> ∀o,h a=some o->Qu P ι w a o)->
   (∀(j:Nat) a b,as[j]? =some a->((s.sl I).enc x).1[j]? =some b-> ∀v,cx ι w a v->cx ι2 w b v)/\ ∀p∈((s.sl I).enc x).2,isL p.2=true/\Qu P ι2 w p.1 p.2:=by
 obtain⟨E,n⟩:=xK hI s.vals;obtain⟨o1,e,o2⟩:=FZ hI s.objs;have k: ∀as h m f c y z,(el I s.vals).mat as m=some (y,f)->(fY I s.objs).mat h f=some (z,c)->Ext m c/\(∀o∈s.objs,∃z,lk c o.1=some z/\ ∀a,z=some a-> ∃o,h a=some o)/\((el I s.vals).enc y).length=as.length/\
   ∀{ι ι2:cL} {w:World} {ks:Nat->Nat},Conv ι w ι2 w->Cmp ι ι2 ks c->(∀o∈s.objs,lk c o.1=some none-> ∀t,slT o.2=some t->ks o.1=P.cellsOf t)->(∀i a,lk c i=some (some a)-> ∀o,h a=some o->Qu P ι w a o)->
    (∀(j:Nat) a b,as[j]? =some a->((el I s.vals).enc y)[j]? =some b-> ∀v,cx ι w a v->cx ι2 w b v)/\ ∀p∈(fY I s.objs).enc z,isL p.2=true/\Qu P ι2 w p.1 p.2:=by
  intro as h m f c y z h1 h2;obtain⟨e1,l1,f1⟩:=n _ _ _ _ h1;obtain⟨e2,l2,r⟩:=o2 _ _ _ _ h2;exact⟨e1.trans e2,l2,l1,λl hc hk u=>⟨f1 l (hc.ext e2),r l hc hk u⟩⟩
 unfold du.sl;split
 ·rename_i hu;refine⟨λx=>e x,λas h m x c d=> ?_⟩;obtain⟨⟨y,f⟩,h1,h2⟩:=Ra.1 d
  grind
 ·rename_i hu;refine⟨λx=>e _,λas h m x c d=> ?_⟩;obtain⟨⟨y,f⟩,h1,d⟩:=Ra.1 d;obtain⟨⟨z,A⟩,h2,d⟩:=Ra.1 d
  grind
 ·refine⟨λx=>e _,λas h m x c d=> ?_⟩;obtain⟨⟨y,f⟩,h1,d⟩:=Ra.1 d;obtain⟨⟨z,A⟩,h2,d⟩:=Ra.1 d
  grind
def eZ(s:du)(x:(s.sl I).T): ∀p∈((s.sl I).enc x).2,isL p.2=true:=by revert x;unfold du.sl;split<;>exact λx=>GZ _ _
end
def ky{C:Nat->Type}:EV C->Option Value
 | .int k n=>some (.int k n)
 | .bool b=>some (.bool b)
 | .str l=>some (.string ⟨l.toArray⟩)
 | .nil=>some (.slice none 0 0)
 | .raw v=>some v
 |_=>none
section
variable {I:Ip} {P:Program} {T:TT} {ι:cL} {w:World} {h:Nat->Option (EO I.C)} {R:Type} {r0:R} {q:Path} {g:Bool} {K:Kt I R}
def zNM{x:EV I.C}{u v:Value}(a:ky x=some u)(h:ef ι w x v):v=u:=by cases x<;>simp only[ky,Option.some.injEq,reduceCtorEq]at a<;>subst a<;>cases h<;>rfl
def Ze{x:EV I.C}{u v:Value}(a:ky x=some u)(h:cx ι w (.c x) v):v=u:=zNM a h.2
def rep1{x:EV I.C}{u:Value}(a:ky x=some u)(h1:u.oneCell'=true):cx ι w (.c x) u:=by cases x<;>simp only[ky,Option.some.injEq,reduceCtorEq]at a<;>subst a<;>exact⟨h1,by constructor;try exact h1⟩
def Ci(k:IntKind)(n:Int):cx (I:=I) ι w (.c (.int k n)) (.int k n):=rep1 rfl rfl
def Rj(b:Bool):cx (I:=I) ι w (.c (.bool b)) (.bool b):=rep1 rfl rfl
def Tv(l:List UInt8):cx (I:=I) ι w (.c (.str l)) (.string ⟨l.toArray⟩):=rep1 rfl rfl
def QJ{b:Bool}{x:Option R}(h:ck b x=some r0):b=true/\x=some r0:=by cases b<;>first|exact⟨rfl,h⟩|cases h
def Tj{b:Bool}{x:Option R}(a:q=[]->g=true)(h:Rh q g b x=some r0):(g=true->b=true)/\x=some r0:=by
 cases q with
 |nil=>exact⟨λ_=>(QJ h).1,(QJ h).2⟩
 |cons=>exact⟨λe=>by subst e;simpa using (QJ h).1,(QJ h).2⟩
def rz{α:Type}{c:Option α}{d:α}{f:α->Option R}(a:q=[]->g=true)(h:bndG q g c d f=some r0): ∃x,f x=some r0/\(g=true->c=some x):=by
 cases q with
 |nil=>obtain⟨x,h1,h2⟩:=Ra.1 h;exact⟨x,h2,λ_=>h1⟩
 |cons=> obtain⟨x,h1,h2⟩:=Ra.1 h;exact⟨x,h2,λe=>by subst e;exact h1⟩
def Zy{α:Type}{c:Option α}{f:α->Option R}(h:cY c f=some r0): ∃x,c=some x/\f x=some r0:=by cases c<;>first|cases h|exact⟨_,rfl,h⟩
def Hd(P:Program)(h:Nat->Option (EO I.C))(rd:List Nat)(ι:cL)(w:World):Prop:=(∀id t l,h id=some (.frz t l)->ι id= .pure (l.map (I.full t)))/\ ∀id∈rd,∀o,h id=some o->Qu P ι w id o
def OpV(P:Program)(g:Bool)(h:Nat->Option (EO I.C))(K:Kt I R)(r0:R)(A:cL->World->Sem Value->Prop):Prop:=
 ∃res,K res=some r0/\res.up=[]/\(g=true-> ∀ι w s,Hd P h res.rd ι w->A ι w s-> ∃v,s.run P w= .ok v w/\de ι w res.val v)
def gs {x:EL I.C}{rd:List Nat}{k:Nat}{A:cL->World->Sem Value->Prop}(h0:K ⟨x,[],rd,k⟩=some r0)
  (h1:g=true-> ∀ι w s,Hd P h rd ι w->A ι w s-> ∃v,s.run P w= .ok v w/\de ι w x v):OpV P g h K r0 A:=⟨_,h0,rfl,h1⟩
def OpV.mono{A B:cL->World->Sem Value->Prop}(h1:OpV P g h K r0 A)(d: ∀ι w s,B ι w s->A ι w s):OpV P g h K r0 B:=
 let⟨r,a,b,c⟩:=h1;⟨r,a,b,λe ι w s f hb=>c e ι w s f (d ι w s hb)⟩
def zQi{op:BinOp}{k k':IntKind}{x y:Int}{t:TypeId}(a:q=[]->g=true)(hk:D5 op=true\/k=k')(h0:intE op k x y q g K=some r0):OpV P g h K r0 λ_ _ s=>s=binOp op t (.int k x) (.int k' y):=by
 cases op<;>simp only[intE]at h0<;>(try (rcases hk with hk|rfl; · cases hk))<;>first
  |(refine gs h0 λ_ ι w s _ hs=>⟨_,?_,Ci _ _⟩;subst hs;simp[binOp,Op.intArith,Op.intDiv,Op.intBits,Op.intCmp];done)
  |(refine gs h0 λ_ ι w s _ hs=>⟨_,?_,Rj _⟩;subst hs;simp[binOp,Op.intArith,Op.intDiv,Op.intBits,Op.intCmp];done)
  |skip
 all_goals
  obtain⟨hb,h0⟩:=Tj a h0;refine gs h0 λa ι w s _ hs=>⟨_,?_,Ci _ _⟩;subst hs;have hb:=hb a;simp only[og,ne_eq,aa]at hb;simp[binOp,Op.intDiv,Op.shift,hb,show∀h:0<=y,¬y<0 by omega]
def zRi{op:BinOp}{l m:List UInt8}{t:TypeId}(a:q=[]->g=true)(h0:strE op l m q g K=some r0):OpV P g h K r0 λ_ _ s=>s=binOp op t (.string ⟨l.toArray⟩) (.string ⟨m.toArray⟩):=by
 cases op<;>simp only[strE,reduceCtorEq]at h0<;>first
  |(refine gs h0 λ_ ι w s _ hs=>⟨_,?_,Rj _⟩;subst hs;simp[binOp,Op.stringOp,kB];done)
  |skip
 obtain⟨hb,h0⟩:=Tj a h0;refine gs h0 λa ι w s _ hs=>⟨_,?_,Tv _⟩;subst hs;have h1:=Zc.1 (hb a);have e:(ByteArray.mk l.toArray++ByteArray.mk m.toArray)=ByteArray.mk (l++m).toArray:=by apply ByteArray.ext;simp
 simp only[binOp,Op.stringOp,gn,e];rw[Ka (by simp only[IntKind.max,IntKind.signed,IntKind.bits];simp;omega)];rfl
def zIe{kd:Kd}{x y:EV I.C}{b:Bool}{t:TypeId}{d:Nat}(ht:cI P t=kd)(h:yS kd x y=some b){u v:Value}(hu:ef ι w x u)(hv:ef ι w y v):
  (Op.equalIn (d+1) t u v).run P w= .ok b w/\kd.isAgg=false/\kd≠ .bad:=by
 unfold yS at h;split at h
 ·cases h;cases hu;cases hv;exact⟨run_equalIn_bool w d t _ _ (WT ht),rfl,by simp⟩
 ·obtain⟨hk,h⟩:=zX h;simp only[Da]at hk;cases h;obtain rfl:=Pt hk.1;obtain rfl:=Pt hk.2;cases hu;cases hv;exact⟨run_equalIn_int w d t _ _ _ _ (lu ht),rfl,by simp⟩
 ·cases h;cases hu;cases hv;exact⟨by rw[run_equalIn_string w d t _ _ (Yn ht),kB,kB],rfl,by simp⟩
 ·cases h
def At1(ι:cL)(w:World)(i:Nat)(xs:List (EV I.C))(X:Array Value):Prop:= ∀(j:Nat) (x:EV I.C),xs[j]? =some x-> ∃u,X[i+j]? =some u/\ef ι w x u
def EW: ∀{k1 k2:List Kd} {xs d:List (EV I.C)} {b:Bool},QH (k1++k2) xs d=some b->
  ∃b1 b2,QH k1 (xs.take k1.length) (d.take k1.length)=some b1/\QH k2 (xs.drop k1.length) (d.drop k1.length)=some b2/\b=(b1&&b2)
 |[],k2,xs,d,b,h=>⟨true,b,by simp[QH],by simpa using h,by simp⟩
 |kd::k1,k2,[],d,b,h=>by cases d<;>simp[QH]at h
 |kd::k1,k2,_::_,[],b,h=>by simp[QH]at h
 |kd::k1,k2,x::xs,y::d,b,h=>by
  simp only[Bb,QH]at h;split at h
  ·rename_i a c h1 h2;cases h;obtain⟨b1,b2,e1,e2,rfl⟩:=EW h2;exact⟨a&&b1,b2,by simp only[Ha,Ld,QH,h1,e1],by simpa using e2,by rw[rf]⟩
  ·cases h
def PO {d:Nat}{rc:TypeId->Option (List Kd)}{X Y:Array Value}
  (e: ∀t ks,rc t=some ks-> ∀(xs a:List (EV I.C)) (b:Bool) (X Y:Array Value),QH ks xs a=some b->At1 ι w 0 xs X->At1 ι w 0 a Y->(Op.equalIn (d+1) t (.agg X) (.agg Y)).run P w= .ok b w):
  ∀(fs:List Field) (i:Nat) (ks:List Kd) (xs a:List (EV I.C)) (b:Bool),Dr P rc i fs=some ks->QH ks xs a=some b->At1 ι w i xs X->At1 ι w i a Y->(Op.eqFields (d+1) X Y fs).run P w= .ok b w
 |[],i,ks,xs,a,b,hf,h,_,_=>by
  cases hf;cases xs<;>cases a<;>simp[QH]at h;subst h;simp[Op.eqFields]
 |f::fs,i,ks,xs,a,b,hf,h,m,o=>by
  have p: ∀{zs:List (EV I.C)} {Z:Array Value} (n:Nat),At1 ι w i zs Z->At1 ι w (i+n) (zs.drop n) Z:=λn r j x k=>by rw[Wd]at k;have:=r _ x k;rwa [<-Yf]at this
  have one: ∀kd l,cI P f.type=kd->f.offset=i->(f.name != "_")=true->Dr P rc (i+1) fs=some l->QH (kd::l) xs a=some b->(Op.eqFields (d+1) X Y (f::fs)).run P w= .ok b w:=by
   intro kd l hk ho hn hl h;cases xs with
   |nil=>cases a<;>simp[QH]at h
   |cons x xs=>
    cases a with
    |nil=>simp[QH]at h
    |cons y a=>
     simp only[og,ne_eq]at hn;simp only[QH]at h;split at h
     ·rename_i b1 b2 h1 h2;cases h;obtain⟨u,hu,E⟩:=m 0 x rfl;obtain⟨v,hv,F⟩:=o 0 y rfl;obtain⟨e1,e2,e3⟩:=zIe (P:=P) (d:=d) hk h1 E F;rw[<-hk]at e2 e3;have s:=PO (d:=d) (X:=X) (Y:=Y) e fs (i+1) l xs a b2 hl h2 (p 1 m) (p 1 o);rw[<-ho]at hu hv;simp only[Od]at hu hv;simp only[Op.eqFields,hn,not_false_eq_true,He,Sem.run_bind,YI e3 e2 hu,YI e3 e2 hv,Result.andThen_ok,e1,Sem.run_ite,Sem.run_pure,s,ne_eq];cases b1<;>simp
     ·cases h
  simp only[Dr]at hf;split at hf
  case isFalse=>cases hf
  rename_i hc;obtain⟨ho,hn⟩:=hc;split at hf
  case h_1 sf hk=>
   repeat' split at hf
   all_goals try (cases hf;done)
   rename_i k1 hr A _ l hl;cases hf;obtain⟨b1,b2,e1,e2,rfl⟩:=EW h;have J:cI P f.type≠ .bad:=by rw[hk];simp
   have L:(cI P f.type).isAgg=true:=by rw[hk];rfl
   have c: ∀(zs:List (EV I.C)) (Z:Array Value),At1 ι w i zs Z->At1 ι w 0 (zs.take k1.length) (Z.extract f.offset (f.offset+P.cellsOf f.type)):=by
    intro zs Z r j x k;rw[Ee]at k;split at k
    ·obtain⟨u,hu,h4⟩:=r _ x k;have M:=(Sb.1 hu).1;exact⟨u,by rw[Array.getElem?_extract,ho,La (by omega),Gd];exact hu,h4⟩
    ·cases k
   have O:=e _ _ hr _ _ _ _ _ e1 (c xs X m) (c a Y o);have s:=PO (d:=d) (X:=X) (Y:=Y) e fs (i+k1.length) l _ _ b2 hl e2 (p _ m) (p _ o);simp only[og,ne_eq]at hn;simp only[Op.eqFields,hn,not_false_eq_true,He,Sem.run_bind,KV J L,Result.andThen_ok,O,Sem.run_ite,Sem.run_pure,s,ne_eq];cases b1<;>simp
  all_goals first
   |(cases hf;done)
   |(split at hf
     ·rename_i hk _ l hl;cases hf;exact one _ l hk ho hn hl h
     ·cases hf)
def zBt: ∀(n:Nat) (t:TypeId) (ks:List Kd),ay P n t=some ks-> ∀(d:Nat) (xs a:List (EV I.C)) (b:Bool) (X Y:Array Value),QH ks xs a=some b->At1 ι w 0 xs X->At1 ι w 0 a Y->(Op.equalIn (d+n+1) t (.agg X) (.agg Y)).run P w= .ok b w
 |0,_,_,h=>by cases h
 |n+1,t,ks,h=>by
  intro d xs a b X Y hb e f;simp only[ay]at h;split at h
  ·rename_i fs hu;split at h
   ·rename_i hs;have c:P.fieldsOf t=fs:=by simp[Program.fieldsOf,hu]
    rw[show d+(n+1)+1=(d+n+1)+1 by omega,run_equalIn_struct w (d+n+1) t X Y (by rw[c];exact hu) hs,c];exact PO (d:=d+n) (rc:=ay P n) (λt ks ht xs a b X Y h1 h2 h3=>zBt n t ks ht d xs a b X Y h1 h2 h3) fs.toList 0 ks xs a b h hb e f
   ·cases h
  ·cases h
structure g8 (P:Program) (T:TT) (fk:List (Nat×List Kd)):Prop where
 ti: ∀t i,lk T t=some i->ti P t=i
 fk: ∀t ks,lk fk t=some ks->ME P t=some ks
def Nl{fk:List (Nat×List Kd)}(a:g8 P T fk){t:Nat}(h:(T.at t).kd≠ .bad\/(T.at t).zok=true\/1<=(T.at t).sz\/1<=(T.at t).by_\/(T.at t).zi=true):T.at t=ti P t:=by
 unfold TT.at at h ⊢;split at h
 ·rename_i i hi;exact(a.ti t i hi).symm
 ·simp at h
def jf{fk:List (Nat×List Kd)}(a:g8 P T fk){t:Nat}{kd:Kd}(h:(T.at t).kd=kd)(hb:kd≠ .bad):cI P t=kd:=by rw[<-h,Nl a (.inl (by rw[h];exact hb))];rfl
def Tt{s:Sem Value}{gd:Sem Unit}{v:Value}(a:gd.run P w= .ok () w)(h:s.run P w= .ok v w):(do gd;s:Sem Value).run P w= .ok v w:=by rw[Sem.run_bind,a];exact h
def zSj{y:Operand}(h:isC y=true): ∃c,y= .const c:=by cases y<;>first|exact⟨_,rfl⟩|cases h
def zPp{fk:List (Nat×List Kd)}(i:g8 P T fk){op:BinOp}{t:TypeId}{a b:ET I.C}(x y:Operand)(f:q=[]->g=true)(h0:binE (isC y) (lk fk t) (T.at t).kd op a b q g K=some r0):
  OpV P g h K r0 λι w s=> ∃va d,cx ι w a va/\cx ι w b d/\s=(do eqGuard op t x y va d;binOp op t va d):=by
 unfold binE at h0;split at h0
 ·obtain⟨hk,h0⟩:=zX h0;obtain⟨r,a,b,c⟩:=zQi (P:=P) (h:=h) (t:=t) (k':=by assumption) f (by simpa [Pb] using (by simpa using hk:_\/_).imp id Pt) h0;refine⟨r,a,b,λf ι w s k ⟨va,d,ha,hb,hs⟩=> ?_⟩;obtain rfl:=Ze rfl ha;obtain rfl:=Ze rfl hb;obtain⟨v,e1,e2⟩:=c f ι w _ k rfl;exact⟨v,by rw[hs];exact Tt (zI0 ..) e1,e2⟩
 ·obtain⟨r,a,b,c⟩:=zRi (P:=P) (h:=h) (t:=t) f h0;refine⟨r,a,b,λf ι w s k ⟨va,d,ha,hb,hs⟩=> ?_⟩;obtain rfl:=Ze rfl ha;obtain rfl:=Ze rfl hb;obtain⟨v,e1,e2⟩:=c f ι w _ k rfl;exact⟨v,by rw[hs];exact Tt (zI1 ..) e1,e2⟩
 ·split at h0<;>first
   |(cases h0;done)
   |(rename_i hk
     have hk:=jf i hk (by simp);refine gs h0 λ_ ι w s _ ⟨va,d,ha,hb,hs⟩=>⟨_,?_,Rj _⟩;obtain rfl:=Ze rfl ha;obtain rfl:=Ze rfl hb;subst hs;exact Tt (zG2 ..) (by first|exact zzQ t _ _ (WT hk)|exact zzR t _ _ (WT hk)))
 ·rename_i xs p;split at h0<;>first
   |(cases h0;done)
   |(rename_i ks hk
     obtain⟨b,hb,h0⟩:=Zy h0;obtain⟨e1,e2⟩:=zDO (i.fk t ks hk);have at_: ∀{ι w} {zs:List (EV I.C)} {Z:Array Value},ip ι w zs Z->At1 ι w 0 zs Z:=λA j x E=>let⟨u,a,_,c⟩:=A.2 j x E;⟨u,by rwa [Gd],c⟩;refine gs h0 λ_ ι w s _ ⟨va,d,⟨X,F,l⟩,⟨Y,J,m⟩,hs⟩=>⟨_,?_,Rj _⟩;subst hs;subst F;subst J;have h1:=zBt 4 t ks e2 9995 xs p b X Y hb (at_ l) (at_ m);refine Tt (run_eqGuard_agg w _ t x y X Y e1) ?_
     first|rw[run_eql_struct,h1]|rw[run_neq_struct,h1]
     rfl)
 ·split at h0<;>first
   |(cases h0;done)
   |(rename_i hk
     have hk:=dU (PZ (jf i hk (by simp)));refine gs h0 λ_ ι w s _ ⟨va,d,ha,hb,hs⟩=>⟨_,?_,Rj _⟩;obtain rfl:=Ze rfl hb;obtain⟨_,ha⟩:=ha;cases ha;subst hs;exact Tt (zBC ..) (by first|exact run_eql_pointer_nil w t _ hk|exact run_neq_pointer_nil w t _ hk))
 ·split at h0<;>first
   |(cases h0;done)
   |(rename_i hk
     have hk:=dU (PZ (jf i hk (by simp)));refine gs h0 λ_ ι w s _ ⟨va,d,ha,hb,hs⟩=>⟨_,?_,Rj _⟩;obtain rfl:=Ze rfl hb;obtain rfl:=Ze rfl ha;subst hs;exact Tt (zBC ..) (by first|exact run_eql_pointer_nil w t none hk|exact run_neq_pointer_nil w t none hk))
 ·split at h0<;>first
   |(cases h0;done)
   |(rename_i hk
     have hk:=zSm (jf i hk (by simp));obtain⟨n,h0⟩:=zX h0;have o: ∃c,y= .const c:=zSj n;refine gs h0 λ_ ι w s _ ⟨va,d,ha,hb,hs⟩=>⟨_,?_,Rj _⟩;obtain rfl:=Ze rfl hb;obtain⟨_,ha⟩:=ha;replace ha:(_=false/\va= .nilIface)\/(_=true/\ ∃u x,va= .iface u x):=ha;subst hs;refine Tt (zIZ _ t x o va (ha.elim (λe=> .inl e.2) λe=> .inr e.2)) ?_;rcases ha with⟨rfl,rfl⟩|⟨rfl,u,v,rfl⟩<;>first|exact run_eql_nil_nil w t hk|exact run_neq_nil_nil w t hk|exact run_eql_held_nil w t _ _ hk|exact run_neq_held_nil w t _ _ hk)
 ·cases h0
def zTl{op:UnOp}{a:ET I.C}(h0:unE op a K=some r0):OpV P g h K r0 λι w s=> ∃va,cx ι w a va/\s=Op.unary op va:=by
 unfold unE at h0;split at h0<;>first
  |(cases h0;done)
  |(refine gs h0 λ_ ι w s _ ⟨va,ha,hs⟩=>⟨_,?_,by first|exact Ci _ _|exact Rj _⟩
    obtain rfl:=Ze rfl ha;subst hs;simp[Op.unary,Op.intArith])
def zBK{kd:Kd}{α:Type}{a b:Option α}{x:α}(h:(match kd with| .bad=>none| .arr .. | .st _=>a|_=>b)=some x):(kd≠ .bad/\kd.isAgg=true/\a=some x)\/(kd≠ .bad/\kd.isAgg=false/\b=some x):=by cases kd<;>simp_all[Kd.isAgg]
def AtM(ι:cL)(w:World)(b o:Nat)(cs:List (EV I.C)):Prop:= ∀(j:Nat) (x:EV I.C),cs[j]? =some x-> ∃v,w.cell? ⟨b,o+j,none⟩=some v/\k9 ι w x v
def AtM.drop{b o:Nat}{cs:List (EV I.C)}(h:AtM ι w b o cs)(n:Nat):AtM ι w b (o+n) (cs.drop n):=λj x a=>by rw[Wd]at a;rw[Yf];exact h _ x a
def zRG{n:Nat}{xs:List (EV I.C)}{f:Nat->Value}(hn:xs.length=n)(h: ∀j x,xs[j]? =some x->k9 ι w x (f j)):cx ι w (.agg xs) (.agg ((List.range n).map f).toArray):=
 ⟨_,rfl,by simp[hn],λj x a=>⟨f j,by simp[show j<n by rw[<-hn];exact(Ua.1 a).1],h j x a⟩⟩
def PT{fk:List (Nat×List Kd)}(k:g8 P T fk){t:TypeId}{cs:List (EV I.C)}{off:Nat}{x:ET I.C}(h0:Wi (T.at t) cs off=some x){b o:Nat}(h:AtM ι w b o cs): ∃v,(loadVar t ⟨b,o+off,none⟩).run P w= .ok v w/\cx ι w x v:=by
 have e:T.at t=ti P t:=Nl k (.inl λe=>by unfold Wi at h0;rw[e]at h0;cases h0);rw[e]at h0;have m:=h.drop off;rcases zBK h0 with⟨h1,h2,h3⟩|⟨h1,h2,h3⟩
 ·obtain⟨h4,h3⟩:=zX h3;cases h3;have h4:off+P.cellsOf t<=cs.length:=Kc h4;obtain⟨f,hf⟩:=CU (n:=P.cellsOf t) (Q:=λj v=>w.cell? ⟨b,o+off+j,none⟩=some v/\ ∀x,(cs.drop off)[j]? =some x->k9 ι w x v) (λj a=>by
   have d:=Na (l:=cs.drop off) (i:=j) (by simp;omega);obtain⟨v,a1,a2⟩:=m j _ d;exact⟨v,a1,λx c=>by rw[d]at c;cases c;exact a2⟩)
  refine⟨_,zD4 h1 h2 f λj a=>(hf j a).1,zRG (by show((cs.drop off).take (P.cellsOf t)).length=_;simp;omega) λj x a=> ?_⟩;have a:((cs.drop off).take (P.cellsOf t))[j]? =some x:=a;rw[Ee]at a;split at a
  ·exact(hf j (by assumption)).2 x a
  ·cases a
 ·split at h3
  ·rename_i y p;cases h3;obtain⟨v,a1,a2⟩:=h off y p;exact⟨v,zD5 h1 h2 a1,a2⟩
  ·cases h3
def Sg.row{id:Nat}{o:EO I.C}(h:Sg P ι w id o){i:Nat}{row:List (EV I.C)}(hi:(Zl o)[i]? =some row):
  ∃b cur fr ty2,ι id= .live (some b) (kE P o) (Zl o).length/\w.heap[b]? =some (.cells cur ty2 fr)/\FT (km P (tyE o)) ty2 fr cur.size/\row.length=kE P o/\(Zl o).length*kE P o<=cur.size/\Qf ι w (kE P o) (Zl o) cur/\AtM ι w b (i*kE P o) row:=by
 obtain⟨b,h1,h2,h3⟩:=h;rcases h3 with⟨_,h3⟩|⟨c,cur,fr,ty2,rfl,h4,d,e,f⟩
 ·simp at h3;rw[h3]at hi;simp at hi
 ·have hk: ∀row∈Zl o,row.length=kE P o:=λrow hr=>by simpa using h2 (row.map (ef ι w)) (Rb.2 ⟨row,hr,rfl⟩)
  have hc:Qf ι w (kE P o) (Zl o) cur:=⟨hk,λi row j x hi a=>f i (row.map (ef ι w)) j _ (by simp[hi]) (by simp[a])⟩;refine⟨c,cur,fr,ty2,h1,h4,d,hk row (Ob hi),by simpa using e,hc,λj x a=> ?_⟩;obtain⟨v,a1,a2⟩:=hc.2 i row j x hi a;exact⟨v,by rw[hU h4];exact a1,a2⟩
def zST(hI:cU P I){t:Nat}{x:I.C t}{off:Nat}{v:Value}(h:cx ι w (.c (.ptr t x off)) v): ∃b o,v= .pointer (some ⟨b,o,none⟩)/\AtM ι w b o ((I.exp t x).drop off):=by
 obtain⟨_,h⟩:=h;cases h with
 |ptr _ b o val hD hv hr=>
  refine⟨b,o,rfl,λj y a=> ?_⟩;rw[Wd]at a;obtain⟨e1,e2⟩:=Sm hI a;have e1:((I.full t x).drop off)[j]? =some (pvE I y):=by rw[Wd];exact e1
  exact⟨_,hv _ _ e1,zF7 (hr _ _ e1),(Cj e2).2 (hr _ _ e1)⟩
def TE{x:EV I.C}{v:Value}(a: ∀id t l,h id=some (.frz t l)->ι id= .pure (l.map (I.full t)))(hv:ef ι w x v):ef ι w (nrmV h x) v:=by
 cases x<;>simp only[nrmV]<;>try exact hv
 split
 ·rename_i id _ _ _ e;have h':li ι w (ι id) none v:=hv;rw[a _ _ _ e]at h';exact h'
 ·exact hv
end
section
variable {I:Ip} {P:Program} {T:TT} {fk:List (Nat×List Kd)} {ι:cL} {w:World} {h:Nat->Option (EO I.C)} {R:Type} {r0:R} {q:Path} {g:Bool} {K:Kt I R}
def Vv{x:ET I.C}{v:Value}(d: ∀id t l,h id=some (.frz t l)->ι id= .pure (l.map (I.full t)))(hv:cx ι w x v):cx ι w (nrmT h x) v:=by
 cases x with
 |c x=>exact⟨hv.1,TE d hv.2⟩
 |agg xs=> obtain⟨vs,h1,h2,h3⟩:=hv;refine⟨vs,h1,by simpa using h2,λj x e=> ?_⟩;simp only[Ta,Sa]at e;obtain⟨y,f,rfl⟩:=e;obtain⟨u,a,b,c⟩:=h3 j y f;exact⟨u,a,b,TE d c⟩
def U0{id i c:Nat}{o:EO I.C}(a:Sg P ι w id o){row:List (EV I.C)}(hi:(Zl o)[i]? =some row){v:Value}(hv:cx (I:=I) ι w (.c (.optr id i c)) v): ∃b,v= .pointer (some ⟨b,i*kE P o+c,none⟩)/\AtM ι w b (i*kE P o) row:=by obtain⟨b,cur,fr,_,h1,_,_,_,_,_,h2⟩:=a.row hi;have hv:gb (ι id) i c v:=hv.2;rw[h1]at hv;obtain⟨d,e,rfl⟩:=hv;cases e;exact⟨b,rfl,h2⟩
def l8{t:TypeId}{a:Addr}{v:Value}(h:(loadVar t a).run P w= .ok v w):(Instr.loadAt t (.pointer (some a))).run P w= .ok v w:=by simp only[Instr.loadAt,Instr.sureAddr,Sem.run_bind,Sem.run_pure,Result.andThen_ok];exact h
def zHl{i:TI}{cs:List (EV I.C)}{off:Nat}{x:ET I.C}(h:Wi i cs off=some x):Wi i (cs.drop off) 0=some x:=by
 unfold Wi at h ⊢;cases hk:i.kd<;>simp only[hk,Wd,Od,Gi,reduceCtorEq]at h ⊢ <;>try exact h
 all_goals
  obtain⟨h1,h2⟩:=zX h;have h1:=Kc h1;rw[show Nat.ble (0+i.sz) (cs.drop off).length=true by rw[Nat.ble_eq];simp;omega];exact h2
def F8: ∀{cs:List (EV I.C)} {a:List (List UInt8)} {c:Nat} {x:List UInt8},fu cs=some a->a[c]? =some x->cs[c]? =some (.str x)
 |[],a,c,x,h,b=>by cases h;cases b
 |y::r,a,c,x,h,b=>by
  cases y<;>simp only[fu]at h<;>try (cases h;done)
  split at h
  ·rename_i m hm;cases h;cases c with
   |zero=>cases b;rfl
   |succ c=>exact F8 (cs:=r) hm b
  ·cases h
def zNa(hI:cU P I)(m:g8 P T fk){t:TypeId}{a:ET I.C}(j:q=[]->g=true)(h0:vP (T.at t) h a q g K=some r0):OpV P g h K r0 λι w s=> ∃va,cx ι w a va/\s=Instr.loadAt t va:=by
 have own: ∀{id i c:Nat} {o:EO I.C} {row x ι w va},isR o=true->h id=some o->Hd P h [id] ι w->(Zl o)[i]? =some row->Wi (T.at t) row c=some x->cx (I:=I) ι w (.c (.optr id i c)) va-> ∃v,(Instr.loadAt t va).run P w= .ok v w/\cx ι w x v:=by intro id i c o row x ι w va ho hid d hi f hv;obtain⟨b,rfl,h2⟩:=U0 ((Zu ho).1 (d.2 id (by simp) o hid)) hi hv;obtain⟨v,a1,a2⟩:=PT m f h2;exact⟨v,l8 a1,a2⟩
 unfold vP at h0;split at h0
 ·split at h0
  ·rename_i ty cs hid;split at h0
   ·rename_i n hk k;obtain⟨e,h0⟩:=zX h0;obtain⟨x,h0,f⟩:=rz j h0;refine gs h0 λj ι w s d ⟨va,ha,hs⟩=> ?_;obtain⟨_,k⟩:=zX k;have hp: ∀c,n[c]? =some x->Wi (T.at t) cs c=some (.c (.str x)):=λc hc=>by unfold Wi;rw[hk,F8 k hc]
    obtain⟨v,a1,a2⟩:=own rfl hid d (by rw[ma e];rfl) (hp _ (f j)) ha;exact⟨v,hs▸a1,a2⟩
   obtain⟨e,h0⟩:=zX h0;obtain⟨x,f,h0⟩:=Zy h0;refine gs h0 λ_ ι w s d ⟨va,ha,hs⟩=> ?_;obtain⟨v,a1,a2⟩:=own rfl hid d (by rw[ma e];rfl) f ha;exact⟨v,hs▸a1,Vv d.1 a2⟩
  ·rename_i u l hid;obtain⟨y,h0,p⟩:=rz j h0;obtain⟨x,f,h0⟩:=Zy h0;refine gs h0 λj ι w s d ⟨va,ha,hs⟩=> ?_;obtain⟨v,a1,a2⟩:=own rfl hid d (by show(l.map (I.exp u))[_]? =_;rw[Ta,p j];rfl) f ha;exact⟨v,hs▸a1,a2⟩
  ·rename_i u l1 cs l2 hid;obtain⟨x,f,h0⟩:=Zy h0;obtain⟨e,h0⟩:=Tj j h0;refine gs h0 λj ι w s d ⟨va,ha,hs⟩=> ?_;obtain⟨v,a1,a2⟩:=own rfl hid d (by rw[ma (e j)];simp[Zl]) f ha;exact⟨v,hs▸a1,Vv d.1 a2⟩
  ·cases h0
 ·obtain⟨x,f,h0⟩:=Zy h0;refine gs h0 λ_ ι w s d ⟨va,ha,hs⟩=> ?_;obtain⟨b,o,rfl,h2⟩:=zST hI ha;obtain⟨v,a1,a2⟩:=PT m (zHl f) h2;exact⟨v,hs▸l8 a1,a2⟩
 ·cases h0
def pX{t f:TypeId}{fs:List (Nat×TypeId)}{off ty:Nat}(hk:cI P t= .st fs)(hf:fs[f]? =some (off,ty)): ∃(l:Array Field) (fl:Field),P.underlying t=some (.struct l)/\l[f]? =some fl/\fl.offset=off/\fl.type=ty:=by obtain⟨l,hl,rfl⟩:=nX hk;simp only[Ta,Sa,Prod.mk.injEq]at hf;obtain⟨fl,a,rfl,rfl⟩:=hf;exact⟨l,fl,hl,by simpa using a,rfl,rfl⟩
def xh(a:g8 P T fk){t:Nat}(h:Nat.ble 1 (T.at t).sz=true):(T.at t).sz=P.cellsOf t/\0<P.cellsOf t:=by have h1:=Kc h;have e:=Nl a (.inr (.inr (.inl h1)));rw[e]at h1 ⊢;exact⟨rfl,h1⟩
def nR{id i c:Nat}{o:EO I.C}(ho:isR o=true)(d:Qu P ι w id o){v:Value}(hv:cx (I:=I) ι w (.c (.optr id i c)) v): ∃b,v= .pointer (some ⟨b,i*kE P o+c,none⟩)/\ ∀j,cx (I:=I) ι w (.c (.optr id i (c+j))) (.pointer (some ⟨b,i*kE P o+c+j,none⟩)):=by obtain⟨b,h1,_⟩:=(Zu ho).1 d;have hv:gb (ι id) i c v:=hv.2;rw[h1]at hv;obtain⟨a,rfl,rfl⟩:=hv;exact⟨a,rfl,λj=>⟨rfl,by show gb (ι id) _ _ _;rw[h1];exact⟨a,rfl,by rw[Yf]⟩⟩⟩
def O9{t:Nat}{x:I.C t}{o off:Nat}{v:Value}(h:cx ι w (.c (.ptr t x o)) v): ∃b o',v= .pointer (some ⟨b,o',none⟩)/\cx ι w (.c (.ptr t x (o+off))) (.pointer (some ⟨b,o'+off,none⟩)):=by
 obtain⟨_,h⟩:=h;cases h with
 |ptr _ b o val hD hv hr=>
  refine⟨b,o,rfl,rfl, .ptr _ b _ (λj=>val (off+j)) hD (λj x a=> ?_) (λj x a=> ?_)⟩
  all_goals rw[<-ae,Wd]at a
  ·rw[Yf];exact hv _ _ a
  ·exact hr _ _ a
def zyd(c:g8 P T fk){t f:Nat}{x:ET I.C}(h0:dN T h t x f K=some r0):OpV P g h K r0 λι w s=> ∃vx,cx ι w x vx/\s=Instr.fieldAt t vx f:=by
 unfold dN at h0;split at h0
 case h_2=>cases h0
 rename_i fs hk;split at h0
 case h_2=>cases h0
 rename_i off ty hf;obtain⟨l,fl,h1,h2,rfl,rfl⟩:=pX (jf c hk (by simp)) hf;have run: ∀{b o:Nat} {w:World},Nat.ble 1 (T.at fl.type).sz=true->(Instr.fieldAt t (.pointer (some ⟨b,o,none⟩)) f).run P w= .ok (.pointer (some ⟨b,o+fl.offset,none⟩)) w:=by
  intro b o w hs;have h':P.cellsOf fl.type≠0:=by have:=(xh c hs).2;omega
  obtain⟨i,hi⟩:=DU h';simp[Instr.fieldAt,run_underlying h1,h2,Instr.sureAddr,zvl hi h']
 split at h0
 ·split at h0<;>first
   |(cases h0;done)
   |(rename_i hid
     obtain⟨hs,h0⟩:=zX h0;refine gs h0 λ_ ι w s d ⟨vx,a,e⟩=> ?_;obtain⟨b,rfl,h3⟩:=nR rfl (d.2 _ (by simp) _ hid) a;exact⟨_,e▸run hs,h3 fl.offset⟩)
 ·obtain⟨hs,h0⟩:=zX h0;refine gs h0 λ_ ι w s d ⟨vx,a,e⟩=> ?_;obtain⟨b,o,rfl,h3⟩:=O9 (off:=fl.offset) a;exact⟨_,e▸run hs,h3⟩
 ·cases h0
def Bo(b:g8 P T fk){t:TypeId}{cs:List (EV I.C)}{X:Array Value}{off:Nat}{x:ET I.C}(h0:Wi (T.at t) cs off=some x)(h:ip ι w cs X): ∃v,(part t X off).run P w= .ok v w/\cx ι w x v:=by
 have e:T.at t=ti P t:=Nl b (.inl λe=>by unfold Wi at h0;rw[e]at h0;cases h0);rw[e]at h0;rcases zBK h0 with⟨h1,h2,h3⟩|⟨h1,h2,h3⟩
 ·obtain⟨h4,h3⟩:=zX h3;cases h3;have h4:off+P.cellsOf t<=cs.length:=Kc h4;refine⟨_,KV h1 h2,_,rfl,?_,λj x a=> ?_⟩
  ·show _=((cs.drop off).take (P.cellsOf t)).length;simp only[Array.size_extract,Oc,Ic];have:=h.1;omega
  ·have a:((cs.drop off).take (P.cellsOf t))[j]? =some x:=a;rw[Ee]at a;split at a
   ·rw[Wd]at a;obtain⟨u,hu,h4⟩:=h.2 _ x a;have c:=(Sb.1 hu).1;exact⟨u,by rw[Array.getElem?_extract,La (by omega)];exact hu,h4⟩
   ·cases a
 ·split at h3
  ·rename_i y d;cases h3;obtain⟨u,hu,h4⟩:=h.2 _ y d;exact⟨u,YI h1 h2 hu,h4⟩
  ·cases h3
def zIN(b:g8 P T fk){t f:Nat}{x:ET I.C}(h0:PR T t x f K=some r0):OpV P g h K r0 λι w s=> ∃vx,cx ι w x vx/\s=Instr.field t vx f:=by
 unfold PR at h0;split at h0
 case h_2=>cases h0
 rename_i fs hk;split at h0
 case h_2=>cases h0
 rename_i off ty hf;split at h0
 case h_2=>cases h0
 obtain⟨l,fl,h1,h2,rfl,rfl⟩:=pX (jf b hk (by simp)) hf;obtain⟨y,c,h0⟩:=Zy h0;refine gs h0 λ_ ι w s i ⟨vx,⟨X,d,a⟩,e⟩=> ?_;subst d;obtain⟨v,a1,a2⟩:=Bo b c a;exact⟨v,by rw[e,<-a1];simp[Instr.field,run_underlying h1,h2,asAgg],a2⟩
def JM{α:Type}{l:List α}{i:Int}{x:α}(h:cl l i=some x):0<=i/\l[i.toNat]? =some x/\i.toNat<l.length/\i<l.length:=by obtain⟨h1,h2⟩:=zX h;have h3:=(Ua.1 h2).1;have h1:=jb h1;exact⟨h1,h2,h3,by omega⟩
def zys(hI:cU P I)(m:g8 P T fk){t:Nat}{x i:ET I.C}(d:q=[]->g=true)(h0:YN T h t x i q g K=some r0):
  OpV P g h K r0 λι w s=> ∃vx A,cx ι w x vx/\cx ι w i A/\s=Instr.indexAt t vx A:=by
 unfold YN at h0;split at h0
 case h_2=>cases h0
 rename_i W i;have own: ∀{id:Nat} {o:EO I.C} {ι w vx e},Sg P ι w id o->cx (I:=I) ι w (.c (.own id)) vx->cI P t= .sl e->P.cellsOf e=kE P o->0<P.cellsOf e->0<=i->i<((Zl o).length:Int)->
   ∃v,(Instr.indexAt t vx (.int W i)).run P w= .ok v w/\cx (I:=I) ι w (.c (.optr id i.toNat 0)) v:=by
  intro id o ι w vx e Z hv hk M h0 h1 h2;obtain⟨b,h3,_⟩:=Z;have hv:li ι w (ι id) none vx:=hv.2;rw[h3]at hv;rcases hv with⟨_,h4,_⟩|⟨F,c,ty,sz,a,rfl,rfl,O,h4,_⟩
  ·omega
  ·obtain rfl:=O.resolve_left (by omega);refine⟨.pointer (some ⟨F,i.toNat*kE P o+0,none⟩),?_,rfl,by show gb (ι id) _ _ _;rw[h3];exact⟨F,rfl,rfl⟩⟩;simp[Instr.indexAt,asIntOf,run_underlying (mh hk),h1,h2,Q8 h0,addr_add,M]
 split at h0
 ·rename_i e u l hk;obtain⟨hc,h0⟩:=zX h0;simp only[Da]at hc;obtain rfl:=ma hc.1;have hs:=(xh m hc.2).2;have hk:=jf m hk (by simp);obtain⟨y,h0,hy⟩:=rz d h0;refine gs h0 λd ι w s p ⟨vx,A,⟨_,f⟩,hi,E⟩=> ?_;obtain rfl:=Ze rfl hi;obtain⟨i1,i2,i3,i4⟩:=JM (hy d);cases f with
  |sl _ a n c k b o val hn a3 ha hD Q hv hr=>
   have r:(l.map (I.full e))[i.toNat]? =some (I.full e y):=by rw[Ta,i2];rfl
   rw[Xa]at hn;have U:k=P.cellsOf e:=by rw[<-Q _ (Ob r),hI.len]
   subst U;obtain rfl:=ha (by omega);refine⟨.pointer (some ⟨b,o+i.toNat*P.cellsOf e,none⟩),?_,rfl, .ptr _ b _ (λj=>val i.toNat j) (hD (by omega)) (λj x V=>hv _ _ j x r V) (λj x V=>hr _ _ j x r V)⟩;subst E;simp[Instr.indexAt,asIntOf,run_underlying (mh hk),i1,show i<(n:Int) by omega,Q8 hs,addr_add]
 ·rename_i hk;have go: ∀{id n:Nat},Rh q g (decide (0<=i)&&decide (i<(n:Int))) (K ⟨.v (.c (.optr id i.toNat 0)),[],[id],0⟩)=some r0->(∀ι w,Hd P h [id] ι w-> ∃o:EO I.C,Sg P ι w id o/\(Zl o).length=n/\P.cellsOf _=kE P o)->0<P.cellsOf _->OpV P g h K r0 λι w s=> ∃vx A,cx (I:=I) ι w (.c (.own id)) vx/\cx (I:=I) ι w (.c (.int W i)) A/\s=Instr.indexAt t vx A:=λ{id n} h0 ho hs=>by obtain⟨e,h0⟩:=Tj d h0;refine gs h0 λd ι w s p ⟨vx,A,f,hi,E⟩=> ?_;obtain rfl:=Ze rfl hi;have e:=e d;simp only[Da,aa]at e;obtain⟨o,h1,h2,h3⟩:=ho ι w p;rw[E];exact own h1 f (jf m hk (by simp)) h3 hs e.1 (by rw[h2];exact e.2)
  split at h0
  case h_3=>cases h0
  all_goals
   rename_i hid;obtain⟨hc,Y⟩:=zX h0;clear h0;simp only[Da]at hc;obtain rfl:=ma hc.1
  ·exact go Y (λι w p=>⟨_,(Zu rfl).1 (p.2 _ (by simp) _ hid),by simp[Zl],rfl⟩) (xh m hc.2).2
  ·exact go Y (λι w p=>⟨_,(Zu rfl).1 (p.2 _ (by simp) _ hid),by simp[Zl];omega,rfl⟩) (xh m hc.2).2
 ·rename_i hk;split at h0
  case h_3=>cases h0
  case h_2=> rename_i hid;obtain⟨hs,h1⟩:=zX h0;clear h0;simp only[Da]at hs;obtain⟨⟨⟨c1,c2⟩,c3⟩,c4⟩:=hs;obtain rfl:=ma c1;obtain rfl:=ma c3;obtain rfl:=ma c4;obtain⟨L,J⟩:=xh m c2;obtain⟨e,h1⟩:=Tj d h1;refine gs h1 λd ι w s p ⟨vx,A,f,hi,E⟩=> ?_;obtain rfl:=Ze rfl hi;have e:=e d;simp only[Da,aa]at e;obtain⟨b,h3,_⟩:=(Zu rfl).1 (p.2 _ (by simp) _ hid);have f:gb (ι _) 0 0 vx:=f.2;rw[h3]at f;obtain⟨F,rfl,rfl⟩:=f;refine⟨.pointer (some ⟨F,i.toNat*P.cellsOf _+0,none⟩),?_,rfl,by show gb (ι _) _ _ _;rw[h3];exact⟨F,rfl,rfl⟩⟩;rw[E];simp[Instr.indexAt,asIntOf,run_underlying (gp (jf m hk (by simp))),e.1,e.2.1,Q8 J,addr_add,Instr.sureAddr]
  rename_i hid;obtain⟨hs,h0⟩:=zX h0;obtain⟨L,J⟩:=xh m hs;obtain⟨e,h0⟩:=Tj d h0;refine gs h0 λd ι w s p ⟨vx,A,f,hi,E⟩=> ?_;obtain rfl:=Ze rfl hi;have e:=e d;simp only[Da,aa]at e;obtain⟨b,rfl,h3⟩:=nR rfl (p.2 _ (by simp) _ hid) f;refine⟨_,?_,h3 _⟩;rw[E,L];simp[Instr.indexAt,asIntOf,run_underlying (gp (jf m hk (by simp))),e.1,e.2,Q8 J,addr_add,Instr.sureAddr]
 ·rename_i hk;obtain⟨hs,h0⟩:=zX h0;obtain⟨L,J⟩:=xh m hs;obtain⟨e,h0⟩:=Tj d h0;refine gs h0 λd ι w s p ⟨vx,A,f,hi,E⟩=> ?_;obtain rfl:=Ze rfl hi;have e:=e d;simp only[Da,aa]at e;obtain⟨b,o,rfl,h3⟩:=O9 (off:=i.toNat*P.cellsOf _) f;refine⟨_,?_,by rw[L];exact h3⟩;rw[E];simp[Instr.indexAt,asIntOf,run_underlying (gp (jf m hk (by simp))),e.1,e.2,Q8 J,addr_add,Instr.sureAddr]
 ·cases h0
end
end Go.Lv
