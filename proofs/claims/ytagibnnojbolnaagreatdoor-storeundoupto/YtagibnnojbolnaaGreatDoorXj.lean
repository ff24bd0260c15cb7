/- Declarations and conditions, read: they have a value, of bounded size, and are valid. -/
import Derived.Test.YtagibnnojbolnaaGreatDoorXd
import Derived.Test.YtagibnnojbolnaaGreatDoorXc
import Derived.Test.YtagibnnojbolnaaGreatDoorXb
import Derived.Test.YtagibnnojbolnaaGreatDoorXi
set_option linter.unusedSimpArgs false
set_option linter.unusedVariables false
namespace Go.Lv.VT
set_option maxRecDepth 100000
abbrev zV(l:List zb):Nat:=zL zD l
theorem Vp{a b:List zb}(h:a.Sublist b):zV a<=zV b:=xA h
theorem Qr(v:zb)(l:List zb):zV (v::l)=6+v.token.text.length+v.token.unit.length+zV v.list+zV l:=by show zL zD (v::l)=_;rw[Z6,Fy]
theorem spL(l:List zb):zV (sp l)<=zV l:=Vp (ai l)
theorem zMn(s:Str):(nmD s).length=s.length:=by
 unfold nmD;cases List.isPrefixOf [45,45] s
 ·exact Yp s
 ·rfl
theorem LY(v:List zb):(Eh v).1.Sublist v:=by
 unfold Eh;split
 ·exact Ce _
 ·rename_i t z he;have hv:=dD he;cases !t.isEmpty&&(z.token.kind==1&&lowS z.token.text==impW)with
  |false=>exact Ce _
  |true=>
   rw[Ca];split
   ·exact Ce _
   ·rename_i u b hb;have hw:=dD hb;cases jv b with
    |false=>exact Ce _
    |true=> rw[Ca,hv];refine(il u).trans (List.Sublist.trans ?_ ((il t).trans (Af t [z])));rw[hw];exact Af u [b]
theorem VU{x:List zb}(h:(oneS x).2=true):zq (Zv (oneS x).1)<=zV x:=by
 have hx:=Vp (CK x);unfold oneS at h ⊢;cases e:trimS x with
 |nil=>simp only[e]at h;cases h
 |cons n r=>
  rw[e,Qr]at hx;simp only[e]at h ⊢;cases hk:n.token.kind==1 with
  |false=>rw[hk]at h;cases h
  |true=>
   rw[hk,Ca]at h;simp only[Ca];have h2:=Vp (Xb isSp (l:=r));cases e2:r.dropWhile isSp with
   |nil=>simp only[e2]at h;cases h
   |cons c q=>
    rw[e2,Qr]at h2;simp only[e2]at h ⊢;cases hc:c.token.kind==16 with
    |false=>rw[hc]at h;cases h
    |true=>
     rw[hc,Ca]at h;simp only[Ca];cases hd:Lf ⟨nmD n.token.text,(Eh (q.dropWhile isSp)).1,(Eh (q.dropWhile isSp)).2⟩with
     |false=>rw[hd]at h;cases h
     |true=> simp only[Ca];have h3:=Vp (Xb isSp (l:=q));have h4:zV (Eh (q.dropWhile isSp)).1<=zV (q.dropWhile isSp):=Vp (LY _);rw[qX,zMn];show 3+n.token.text.length+zV (Eh (q.dropWhile isSp)).1<=zV x;omega
def zP(ps:List (List zb)):Nat:=(ps.map zV).sum
theorem Gs(a b:List (List zb)):zP (a++b)=zP a+zP b:=by unfold zP;rw[ae,List.sum_append]
theorem JX(k:Int): ∀(l:List zb) (a:List (List zb)×List zb),zP (l.foldl (yf k) a).1+zV (l.foldl (yf k) a).2+6*(l.foldl (yf k) a).1.length<=zP a.1+zV a.2+6*a.1.length+zV l
 |[],a=>by show _<=_+zV [];rw[show zV []=0 from rfl];exact Xa _
 |v::l,a=>by
  rw[Td];have ih:=JX k l (yf k a v);have hv:=Qr v l;refine Bb ih ?_;unfold yf;split
  ·rw[Gs,Na,show zP [a.2]=zV a.2 from rfl,show zV []=0 from rfl,Mc];omega
  ·have h1:zV (a.2++[v])=zV a.2+zV [v]:=lh zD a.2 [v];have h2:zV [v]=6+v.token.text.length+v.token.unit.length+zV v.list:=Qr v [];show zP a.1+zV (a.2++[v])+6*a.1.length+zV l<=_;omega
theorem tN(k:Int)(l:List zb):zP (Kg k l)+6*(Kg k l).length<=zV l+6:=by have h:=JX k l ([],[]);unfold Kg Bg;rw[Gs,Na,Mc,show∀p:List zb,zP [p]=zV p from fun _=>rfl];simp only[show zP []=0 from rfl,show zV []=0 from rfl,Eb]at h;omega
theorem zOq(a:List Zu)(p:List zb):zL Zv (Si a p)<=zL Zv a+zV p:=by
 unfold Si;cases hb:(oneS p).2&&decide (a.length<32)with
 |false=>exact Ug ..
 |true=> rw[Da]at hb;have:=VU hb.1;rw[Ca,lh,Z6,og];omega
theorem FX: ∀(ps:List (List zb)) (a:List Zu),zL Zv (ps.foldl Si a)<=zL Zv a+zP ps
 |[],a=>Ug ..
 |p::ps,a=>by rw[Td];have h1:=FX ps (Si a p);have h2:=zOq a p;have h3:zP (p::ps)=zV p+zP ps:=rfl;omega
theorem zJh(x:List zb):zL Zv (dh (Kg 17 x))<=zV x+6:=by have h1:=FX (Kg 17 x) [];have h2:=tN 17 x;unfold dh;rw[og]at h1;omega
theorem zJj(a b:List zb):Zc (a++b)=max (Zc a) (Zc b):=by
 induction a with
 |nil=>rw[Bc,Zc];omega
 |cons v a ih=>rw[Sb,Zc,Zc,ih];omega
theorem FQ(k:Int)(N:Nat): ∀(l:List zb) (a:List (List zb)×List zb),(∀p∈a.1,Zc p<=N)->Zc a.2<=N->Zc l<=N->(∀p∈(l.foldl (yf k) a).1,Zc p<=N)/\Zc (l.foldl (yf k) a).2<=N
 |[],a,h1,h2,_=>⟨h1,h2⟩
 |v::l,a,h1,h2,h3=>by
  rw[Zc]at h3;rw[Td];have hn:Zc []<=N:=by rw[Zc];exact Va _
  refine FQ k N l (yf k a v) ?_ ?_ (by omega)
  ·unfold yf;split
   ·intro p hp;rcases Rc.1 hp with hp|hp
    ·exact h1 p hp
    ·rw[Tc.1 hp];exact h2
   ·exact h1
  ·unfold yf;split
   ·exact hn
   ·show Zc (a.2++[v])<=N;rw[zJj,Zc,Zc];omega
theorem VZ{k:Int}{l p:List zb}(h:p∈Kg k l):Zc p<=Zc l:=by
 have hn:Zc []<=Zc l:=by rw[Zc];exact Va _
 obtain⟨h1,h2⟩:=FQ k (Zc l) l ([],[]) (fun p hp=>nomatch hp) hn (Xa _);unfold Kg Bg at h;rcases Rc.1 h with h|h
 ·exact h1 p h
 ·rw[Tc.1 h];exact h2
theorem FN{x:List zb}(h:(oneS x).2=true):Lf (oneS x).1=true/\Zc (oneS x).1.value<=Zc x:=by
 have hx:=Q3 (CK x);unfold oneS at h ⊢;cases e:trimS x with
 |nil=>simp only[e]at h;cases h
 |cons n r=>
  rw[e,Zc]at hx;simp only[e]at h ⊢;cases hk:n.token.kind==1 with
  |false=>rw[hk]at h;cases h
  |true=>
   rw[hk,Ca]at h;simp only[Ca];have h2:=Q3 (Xb isSp (l:=r));cases e2:r.dropWhile isSp with
   |nil=>simp only[e2]at h;cases h
   |cons c q=>
    rw[e2,Zc]at h2;simp only[e2]at h ⊢;cases hc:c.token.kind==16 with
    |false=>rw[hc]at h;cases h
    |true=>
     rw[hc,Ca]at h;simp only[Ca];cases hd:Lf ⟨nmD n.token.text,(Eh (q.dropWhile isSp)).1,(Eh (q.dropWhile isSp)).2⟩with
     |false=>rw[hd]at h;cases h
     |true=> simp only[Ca];have h3:=Q3 (Xb isSp (l:=q));have h4:=Q3 (LY (q.dropWhile isSp));refine⟨hd,?_⟩;omega
theorem zMl(a b:List Zu)(f:Zu->Nat):mx f (a++b)=max (mx f a) (mx f b):=by
 induction a with
 |nil=>rw[Bc,mx];omega
 |cons v a ih=>rw[Sb,mx,mx,ih];omega
theorem nX{N:Nat}: ∀(ps:List (List zb)) (a:List Zu),(∀p∈ps,Zc p<=N)->a.all Lf=true->mx (fun d=>Zc d.value) a<=N->(ps.foldl Si a).all Lf=true/\mx (fun d=>Zc d.value) (ps.foldl Si a)<=N
 |[],a,_,h1,h2=>⟨h1,h2⟩
 |p::ps,a,h,h1,h2=>by
  rw[Td];refine nX ps (Si a p) (fun q hq=>h q (Kb _ hq)) ?_ ?_<;>unfold Si<;>cases hb:(oneS p).2&&decide (a.length<32)<;>first|assumption|skip
  ·rw[Da]at hb;rw[Ca,Ue,h1,Ad,(FN hb.1).1];rfl
  ·rw[Da]at hb;have h3:=(FN hb.1).2;have h4:=h p (Ob ..);rw[Ca,zMl];show max _ (max (Zc (oneS p).1.value) 0)<=N;omega
theorem zF8(x:List zb):(dh (Kg 17 x)).all Lf=true/\mx (fun d=>Zc d.value) (dh (Kg 17 x))<=Zc x:=
 nX (Kg 17 x) [] (fun _ h=>VZ h) rfl (Va _)
theorem zC(c:zu):zq (zk c)=7+c.name.length+c.decl.name.length+zV c.decl.value+zL zk c.list:=by have h1:zq (Zv c.decl)=3+c.decl.name.length+zV c.decl.value:=qX _;rw[Ik,h1];omega
theorem zM7(k:Int)(s:Str)(n:Int)(l:List zu):zq (zk ⟨k,s,n,⟨[],[],false⟩,l⟩)=7+s.length+zL zk l:=by rw[zC];show 7+s.length+0+0+zL zk l=_;omega
theorem Has.condE{α:Type}{c:Bool}{a:Option α}{d y0:α}(h:c=true->a=Option.some y0):Has (zF c a d) fun y=>c=true->y=y0:=
 Has.cond (fun hc=>Has.of (h hc) fun _=>rfl) fun h h'=>by rw[h]at h';cases h'
theorem sz7(k n:Int)(b:Bool):zq (zk ⟨k,[],n,⟨[],[],b⟩,[]⟩)=7:=by rw[zC];rfl
theorem szN(k n:Int)(b:Bool)(l:List zu):zq (zk ⟨k,[],n,⟨[],[],b⟩,l⟩)=7+zL zk l:=by rw[zC];show 7+0+0+0+zL zk l=_;omega
theorem LJ(l:List zu):l.length<=zL zk l:=ZF Wx l
theorem Xx{ws:List Str}{l:List zb}(hl:zV l<=big)(hw: ∀s∈ws,s.length<=big)(hn:ws.length<=big):Has (Qc (ws,⟨l⟩)) fun y=>(y.1=[]/\y.2=⟨l⟩)\/ ∃a r,l=a::r/\y.2=⟨r⟩:=by
 unfold Qc;refine Has.loop (fun s=> ∃i:Nat,i<=ws.length/\s=((i:Int),⟨l⟩)) (fun s=>ws.length - s.1.toNat) (P:=fun s=>s=⟨l⟩) ⟨0,Va _,rfl⟩ (fun s ⟨i,hi,e⟩=> ?_) fun x hx=>Has.some (.inl ⟨rfl,hx⟩);subst e;refine Has.bif (fun h=> ?_) fun _=>Has.some rfl;have hlt:i<ws.length:=by have:=Ib h;dsimp only at this;omega
 have ag:LOq (R:=Str×zx) (fun s':Int×zx=>(∃i:Nat,i<=ws.length/\s'=((i:Int),⟨l⟩))/\ws.length - s'.1.toNat<ws.length - ((i:Int),(⟨l⟩:zx)).1.toNat) (fun s=>s=(⟨l⟩:zx)) (fun y=>(y.1=[]/\y.2=⟨l⟩)\/ ∃a r,l=a::r/\y.2=⟨r⟩) (.again (w64 ((i:Int)+1),⟨l⟩)):=by rw[zG hlt hn];exact⟨⟨i+1,hlt,rfl⟩,by show ws.length - (i+1)<ws.length - i;omega⟩
 refine Has.eqb (zM hlt) (Has.eqb (Jo l) ?_);cases l with
 |nil=>exact Has.some ag
 |cons a r=>
  have ha:=Qr a r;refine Has.bind (P:=fun y=>(Km (a::r)==1)=true->y=a) (Has.cond (fun _=>Has.some fun _=>rfl) fun h h'=>by rw[h]at h';cases h') fun y hy=> ?_;refine Has.bind (P:=fun _=>True) (Has.cond (fun h=> ?_) fun _=>trivial) fun b _=> ?_
  ·rw[hy h];exact Has.of (Yo (by omega) (hw _ (Ha hlt))) trivial
  ·exact Has.bif (fun _=>Has.eqb (Io a r) (Has.some (.inr ⟨a,r,rfl,rfl⟩))) fun _=>Has.some ag
theorem jQ{l:List zb}(hl:zV l<=big):Has (Q0 ⟨l⟩) fun y=>zq (zk y.1.1)=7/\(y.1.2=true->(∃a r,l=a::r/\y.2=⟨r⟩)/\(∀b,ig b y.1.1=true)/\1<=Zc l):=by
 have flag: ∀A C Y L:Bool,(bif bif bif A then C else false then Y else false then L else false)=true->(bif A then C else false)=true/\C=true/\Y=true:=by decide
 unfold Q0;refine Has.eqb (Jo l) (Has.bif (fun _=>Has.some ⟨sz7 ..,fun h=>nomatch h⟩) fun h21=> ?_);cases l with
 |nil=>cases h21
 |cons a r=>
  have ha:=Qr a r;have hs:=spL a.list;refine Has.eqb (Io a r) (Has.eqb (QP a.list) ?_);refine Has.join (P:=fun j=>(j.2.2.1=5\/j.2.2.1=6)/\j.2.2.2=([],0,[],false)/\zV j.2.1.v<=zV a.list) ?_ fun⟨_,⟨v⟩,k,j4⟩ ⟨hk,e1,h1⟩=> ?_
  ·refine Has.bind (Xx (l:=sp a.list) (by omega) (by decide) (by decide)) fun y hy=> ?_;refine Has.bif (fun _=>Has.some ⟨sz7 ..,fun h=>nomatch h⟩) fun hne=> ?_;have hz:zV y.2.v<=zV a.list:=by
    rcases hy with⟨_,e⟩|⟨c,q,e,e'⟩
    ·rw[e];exact hs
    ·rw[e'];rw[e,Qr]at hs;show zV q<=_;omega
   exact Has.bif (fun _=>Has.some ⟨.inr rfl,rfl,hz⟩) fun _=>Has.some ⟨.inl rfl,rfl,hz⟩
  have hk:k=5\/k=6:=hk;have e1:j4=_:=e1;subst e1;have h1:zV v<=zV a.list:=h1;have hs2:=spL v;dsimp only;refine Has.eqb (QP v) (Has.eqb (Jo (sp v)) (Has.bif (fun _=>Has.some ⟨sz7 ..,fun h=>nomatch h⟩) fun h16=> ?_));cases hv:sp v with
  |nil=>rw[hv]at h16;cases h16
  |cons c q=>
   rw[hv,Qr]at hs2;have hs3:=spL q;refine Has.eqb (Io c q) (Has.eqb (QP q) (Has.eqb (Jo (sp q)) ?_));refine Has.bind (P:=fun y=>(Km (sp q) != 12)=true->y=Km (sp q)) (Has.cond (fun _=>Has.of (Jo _) fun _=>rfl) fun h h'=>by rw[h]at h';cases h') fun y hy=> ?_;refine Has.bif (fun _=>Has.some ⟨sz7 ..,fun h=>nomatch h⟩) fun h12=> ?_;cases hq:sp q with
   |nil=>rw[hq]at h12 hy;rw[hy rfl]at h12;cases h12
   |cons t u=>
    rw[hq,Qr]at hs3;refine Has.eqb (Io t u) (Has.eqb (QP u) ?_);refine Has.bind (P:=fun _=>True) (Has.cond (fun _=>Has.of (Yo (by dsimp only;omega) (by decide)) trivial) fun _=>trivial) fun _ _=> ?_;refine Has.bind (Has.condE fun _=>xR _) fun y15 h15=> ?_;refine Has.some ⟨sz7 ..,fun hf=>⟨⟨a,r,rfl,rfl⟩,fun b=> ?_,?_⟩⟩
    ·obtain⟨f1,f2,f3⟩:=flag _ _ _ _ hf;have hN:isN t.token.num=true:=by
      rw[h15 f1]at f3;cases h:isN t.token.num with
      |true=>rfl
      |false=>rw[h]at f3;cases f3
     have f2:decide (0<=t.token.num)=true:=f2;unfold ig;dsimp only;rw[f2,hN];rcases hk with rfl|rfl<;>cases b<;>rfl
    ·have h21:(a.token.kind != 21)=false:=h21;rw[Zc,rC,Oa (by rw[bne_eq_false_iff_eq.1 h21];decide)];omega
theorem leaves_cons(x:zu)(r:List zu):Mq (x::r)=(ig true x&&r.all (ig false)):=by
 have e:(List.range r.length).all (fun i=>ig false (r.getD i default))=r.all (ig false):=by
  rw[Ve,Pb,Pb];constructor
  ·intro h y hy;obtain⟨i,hi,rfl⟩:=Je hy;have:=h i (Md.2 hi)
   rwa [Ye,Ta hi,Option.getD_some]at this
  ·intro h i hi;have hi:=Md.1 hi;rw[Ye,Ta hi,Option.getD_some];exact h _ (Ha hi)
 unfold Mq;rw[Ga,List.range_succ_eq_map,Ad,List.all_map,<-e];rfl
def okO(w:Str)(l:List zb)(o:List zu):Prop:= ∃x0 r,o=x0::r/\ig true x0=true/\r.all (ig false)=true/\((w==[])=false->x0.kind=4)/\(o.any askB=true->1<=Zc l)
theorem zHT{l:List zb}(hl:2*zV l+100<=big):Has (PH ⟨l⟩) fun y=>y.1.2=true->zq (zk y.1.1)<=24+2*zV l/\Sg y.1.1=true/\(askB y.1.1=true->1<=Zc l):=by
 have hb:big=4194304:=rfl;have h0:=spL l;have wd: ∀{ws:List Str} {l:List zb} {y:Str×zx},((y.1=[]/\y.2=⟨l⟩)\/ ∃a r,l=a::r/\y.2=⟨r⟩)->(zV y.2.v<=zV l/\y.2.v.Sublist l)/\((y.1==[])=false->zV y.2.v+6<=zV l/\y.2.v.length<l.length):=fun {_ l y} h=>by
  rcases h with⟨e,e'⟩|⟨a,r,rfl,e⟩
  ·rw[e,e'];exact⟨⟨Xa _,Ce _⟩,fun h=>nomatch h⟩
  ·have:=Qr a r;rw[e];exact⟨⟨by show zV r<=_;omega,Ie ..⟩,fun _=>⟨by show zV r+6<=_;omega,Fe _⟩⟩
 unfold PH;refine Has.eqb (QP l) ?_;refine Has.bind (Xx (l:=sp l) (by omega) (by decide) (by decide)) fun⟨w,⟨l2⟩⟩ hy=> ?_;obtain⟨h2,u2⟩:zV l2<=zV (sp l)/\l2.Sublist (sp l):=(wd (ws:=[]) hy).1;have u3:(sp l2).Sublist l:=(ai l2).trans (u2.trans (ai l));have h3:=spL l2;refine Has.eqb (QP l2) ?_;dsimp only;generalize sp l2=l3 at h3 u3;refine Has.join (P:=fun j=>zL zk j.2.2.2+2*zV j.1.v<=7+2*zV l/\j.2.2.1=(1,[],0,[],false)/\j.1.v.Sublist l/\okO w l j.2.2.2) ?_ fun⟨⟨v⟩,_,q5,o⟩ ⟨h4,e1,u4,ho⟩=> ?_
 ·refine Has.eqb (Jo l3) (Has.bif (fun hk=> ?_) fun _=> ?_)
  ·cases l3 with
   |nil=>cases hk
   |cons a r=>
    rw[Qr]at h3;refine Has.eqb (Io a r) (bLow (by dsimp only;omega) ?_);have hlo:=Yp a.token.text;refine Has.eqb (CS (by dsimp only;omega)) (Has.bif (fun _=>Has.some fun h=>nomatch h) fun hmed=>Has.need rfl (Has.some ⟨?_,rfl,(Ie ..).trans u3,_,[],rfl,?_,rfl,fun _=>rfl,fun h=>nomatch h⟩))
    rotate_left
    ·have hm:medS (lowS a.token.text)=true:=by cases h':medS (lowS a.token.text)<;>rw[h']at hmed<;>first|rfl|cases hmed
     unfold ig;dsimp only;rw[hm];rfl
    show zq (zk ⟨4,lowS a.token.text,0,⟨[],[],false⟩,[]⟩)+0+2*zV r<=_;rw[zC];show 7+(lowS a.token.text).length+0+0+0+0+2*zV r<=_;omega
  ·refine Has.bind (jQ (l:=l3) (by omega)) fun y ⟨e7,hp⟩=> ?_;refine Has.bif (fun _=>Has.some fun h=>nomatch h) fun hc=> ?_;obtain⟨⟨a,r,rfl,e⟩,hq,hd⟩:=hp (by cases h:y.1.2<;>rw[h]at hc<;>first|rfl|cases hc);have hw:(w==[])=true:=by
    cases h:y.1.2<;>rw[h]at hc<;>first|cases hc;done|skip
    cases h':w==[]<;>rw[h']at hc<;>first|rfl|cases hc
   have hd:=Bb hd (Q3 u3);rw[Qr]at h3;refine Has.need rfl (Has.some ⟨?_,rfl,by rw[e];exact(Ie ..).trans u3,_,[],rfl,by rw[Zm];exact hq true,rfl,fun h=>(by rw[hw]at h;cases h),fun _=>hd⟩);rw[e];show zq (zk (⟨y.1.1.kind,y.1.1.name,y.1.1.num,y.1.1.decl,y.1.1.list⟩:zu))+0+2*zV r<=_;rw[Zm];omega
 have e1:q5=_:=e1;subst e1;have h4:zL zk o+2*zV v<=7+2*zV l:=h4;have u4:v.Sublist l:=u4;have h5:=spL v;refine Has.eqb (QP v) ?_;refine Has.loop (fun s=>zL zk s.2.2.2+2*zV s.1.v<=7+2*zV l/\s.2.2.1=(1,[],0,[],false)/\s.1.v.Sublist l/\okO w l s.2.2.2) (fun s=>s.1.v.length) (P:=fun s=>zL zk s.2.2.2<=7+2*zV l/\s.2.2.1=(1,[],0,[],false)/\okO w l s.2.2.2) ⟨by show zL zk o+2*zV (sp v)<=_;omega,rfl,(ai v).trans u4,ho⟩ (fun⟨⟨v⟩,_,q5,o⟩ ⟨h4,e1,u4,ho⟩=> ?_) fun⟨⟨v⟩,_,q5,o⟩ ⟨h4,e1,ho⟩=> ?_
 ·have h4:zL zk o+2*zV v<=7+2*zV l:=h4;have e1:q5=_:=e1;subst e1;have u4:v.Sublist l:=u4;have hol:=LJ o;refine Has.bif (fun _=> ?_) fun _=>Has.some ⟨by show zL zk o<=_;omega,rfl,ho⟩;refine Has.bind (Xx (l:=v) (by omega) (by decide) (by decide)) fun⟨w2,⟨v2⟩⟩ hy=> ?_;refine Has.bif (fun _=>Has.some fun h=>nomatch h) fun hne=> ?_;have h6:zV v2+6<=zV v/\v2.length<v.length:=(wd (ws:=[]) hy).2 hne;have u6:v2.Sublist v:=(wd (ws:=[]) hy).1.2;have h7:=spL v2;have h7':=iA v2;refine Has.eqb (QP v2) ?_;refine Has.bind (jQ (l:=sp v2) (by omega)) fun⟨⟨c,ok⟩,⟨v3⟩⟩ ⟨e7,hp⟩=> ?_;refine Has.bif (fun _=>Has.some fun h=>nomatch h) fun hk=> ?_;obtain⟨⟨a,r,e8,e9⟩,hq,hd⟩:=hp (by cases h:ok<;>rw[h]at hk<;>first|rfl|cases hk);have u7:=(ai v2).trans (u6.trans u4);have hd:=Bb hd (Q3 u7);have hq: ∀b,ig b c=true:=hq;have e9:v3=r:=by injection e9
  subst e9;rw[e8]at h7 h7' u7;rw[Qr]at h7;have h8:=spL v3;have h9:=iA v3;have e7:zq (zk c)=7:=e7;refine Has.need (qy (by dsimp only;omega)) (Has.eqb (QP v3) (Has.some ⟨⟨?_,rfl,(ai v3).trans ((Ie ..).trans u7),?_⟩,?_⟩))
  rotate_left
  ·obtain⟨x0,r0,e0,g1,g2,g3,g4⟩:=ho;have e0:o=_:=e0;subst e0;refine⟨x0,r0++[c],by dsimp only;rw[Zm];rfl,g1,by rw[Ue,g2,Ad,hq];rfl,g3,fun _=>hd⟩
  rotate_left
  ·show zL zk (o++[(⟨c.kind,c.name,c.num,c.decl,c.list⟩:zu)])+2*zV (sp v3)<=_;rw[Zm,lh,Z6,og];omega
  ·show(sp v3).length<v.length;rw[Ga]at h7';omega
 ·have e1:q5=_:=e1;subst e1;have h4:zL zk o<=7+2*zV l:=h4;obtain⟨x0,r0,e0,g1,g2,g3,g4⟩:=ho;have e0:o=_:=e0;have hq:di ⟨1,[],0,⟨[],[],false⟩,o⟩=true:=by subst e0;unfold di;dsimp only;rw[leaves_cons,g1,g2];rfl
  have hb1:askB ⟨1,[],0,⟨[],[],false⟩,o⟩=o.any askB:=Ko _;refine Has.join (P:=fun j=>zq (zk ⟨j.2.1,j.2.2.1,j.2.2.2.1,⟨j.2.2.2.2.1,[],j.2.2.2.2.2.1⟩,j.2.2.2.2.2.2⟩)<=24+2*zV l/\Sg ⟨j.2.1,j.2.2.1,j.2.2.2.1,⟨j.2.2.2.2.1,[],j.2.2.2.2.2.1⟩,j.2.2.2.2.2.2⟩=true/\(askB ⟨j.2.1,j.2.2.1,j.2.2.2.1,⟨j.2.2.2.2.1,[],j.2.2.2.2.2.1⟩,j.2.2.2.2.2.2⟩=true->1<=Zc l)) ?_ fun j hj=>Has.some fun _=>hj;refine Has.bif (fun hw=>Has.some ⟨?_,?_,?_⟩) fun _=>Has.some ⟨?_,hq,fun h=>g4 (by rw[<-hb1];exact h)⟩
  ·show zq (zk ⟨3,[],0,⟨[],[],false⟩,[⟨1,[],0,⟨[],[],false⟩,o⟩]⟩)<=_;rw[szN,Z6,szN,og];omega
  ·show(true&&(di ⟨1,[],0,⟨[],[],false⟩,o⟩&&Wp ⟨1,[],0,⟨[],[],false⟩,o⟩))=true;have hw:(w==[110,111,116])=true:=hw;rw[hq,e0];exact Fa (g3 (by rw[Db.1 hw];rfl))
  ·intro h;have h:askB ⟨3,[],0,⟨[],[],false⟩,[⟨1,[],0,⟨[],[],false⟩,o⟩]⟩=true:=h;rw[Ko]at h;have h:(false||(askB ⟨1,[],0,⟨[],[],false⟩,o⟩||false))=true:=h;rw[Ld,Ud,hb1]at h;exact g4 h
  ·show zq (zk ⟨1,[],0,⟨[],[],false⟩,o⟩)<=_;rw[szN];omega
theorem zG6{x:List zb}(hx:40*zV x+200<=big):Has (rq x) fun y=>zq (zk y.1)<=31+6*zV x/\(y.2=0->Bl y.1=true/\(askB y.1=true->1<=Zc x)):=by
 have hb:big=4194304:=rfl;have h7: ∀k,zq (zk ⟨k,[],0,⟨[],[],false⟩,[]⟩)<=31+6*zV x:=fun k=>by rw[sz7];omega
 have hz:szL x<=zV x:=Lh x;obtain⟨ps,er,e,hps⟩: ∃(ps:List (List zb)) (er:Int),xq (x,18)=some (ps,er)/\zP ps+6*ps.length<=zV x+6/\(er=0->ps=Kg 18 x):=by
  have e:=uJ (l:=x) (k:=18) (Bb hz (by omega));rw[Oa (show¬((18:Int)<1\/(24:Int)<18) by decide)]at e;by_cases he:errS x=0
  ·rw[Sa he]at e;exact⟨_,_,e,tN 18 x,fun _=>rfl⟩
  ·rw[Oa he]at e;exact⟨_,_,e,Va _,fun h=>absurd h he⟩
 obtain⟨hps,hcu⟩:=hps;unfold rq;refine Has.eqb e (Has.bif (fun h=>Has.some ⟨h7 0,fun h'=>by dsimp only at h h';rw[h']at h;cases h⟩) fun he=> ?_);have hcu:=hcu (bne_eq_false_iff_eq.1 he);refine Has.join (P:=fun _=>True) (Has.bif (fun _=>Has.eqb (QP x) (Has.bif (fun _=>Has.some ⟨h7 1,fun _=>⟨rfl,fun h=>nomatch h⟩⟩) fun _=>Has.some trivial)) fun _=>Has.some trivial) fun _ _=> ?_;refine Has.bif (fun _=>Has.some ⟨h7 0,fun h=>nomatch h⟩) fun h64=> ?_;have h64:ps.length<=64:=by have:=De h64;dsimp only at this;omega
 have hpos:0<ps.length:=by rw[hcu];exact pX (IX 18 x)
 have nv:zq (zk ⟨3,[],0,⟨[],[],false⟩,[⟨1,[],0,⟨[],[],false⟩,[⟨4,[97,108,108],0,⟨[],[],false⟩,[]⟩]⟩]⟩)<=24:=by decide
 have nv2:Sg ⟨3,[],0,⟨[],[],false⟩,[⟨1,[],0,⟨[],[],false⟩,[⟨4,[97,108,108],0,⟨[],[],false⟩,[]⟩]⟩]⟩=true:=by decide
 have nv3:askB ⟨3,[],0,⟨[],[],false⟩,[⟨1,[],0,⟨[],[],false⟩,[⟨4,[97,108,108],0,⟨[],[],false⟩,[]⟩]⟩]⟩=false:=by decide
 have hq: ∀i,(h:i<ps.length)->zV ps[i]+zP (ps.take i)<=zP (ps.take (i+1))/\zP (ps.take (i+1))<=zP ps:=fun i h=>by
  have e:=Lg (i+1) ps;have h2:zP (ps.take (i+1))=zP (ps.take i)+zV ps[i]:=by rw[Oc h,Gs];rfl
  have h3:=Gs (ps.take (i+1)) (ps.drop (i+1));rw[e]at h3;omega
 refine Has.loop (fun s=> ∃i:Nat,i<=ps.length/\s.1=(i:Int)/\s.2.1=(2,[],0,[],false)/\zL zk s.2.2<=24*i+2*zP (ps.take i)/\s.2.2.length=i/\s.2.2.all Sg=true/\(s.2.2.any askB=true->1<=Zc x)) (fun s=>ps.length - s.1.toNat) (P:=fun s=>s.1=(2,[],0,[],false)/\zL zk s.2<=24*ps.length+2*zP ps/\s.2.length=ps.length/\s.2.all Sg=true/\(s.2.any askB=true->1<=Zc x)) ⟨0,Va _,rfl,rfl,Va _,rfl,rfl,fun h=>nomatch h⟩ (fun⟨_,q5,o⟩ ⟨i,hi,e0,e1,h4,g1,g2,g3⟩=> ?_) fun⟨q5,o⟩ ⟨e1,h4,g1,g2,g3⟩=> ?_
 ·have e0:_=_:=e0;have e1:q5=_:=e1;subst e0 e1;have g1:o.length=i:=g1;have h4:zL zk o<=24*i+2*zP (ps.take i):=h4;have ho:=LJ o;refine Has.bif (fun h=> ?_) fun h=>Has.some ?_
  ·have hlt:i<ps.length:=by have:=Ib h;dsimp only at this;omega
   obtain⟨g1,g2⟩:=hq i hlt;refine Has.eqb (zM hlt) ?_;have hdp:Zc ps[i]<=Zc x:=VZ (k:=18) (by rw[<-hcu];exact Ha hlt);refine Has.bind (zHT (l:=ps[i]) (by omega)) fun y hy=> ?_;refine Has.join (P:=fun j=>j.1=(2,[],0,[],false)/\j.2.1=o/\zq (zk j.2.2)<=24+2*zV ps[i]/\Sg j.2.2=true/\(askB j.2.2=true->1<=Zc x)) (Has.bif (fun _=>Has.some ⟨rfl,rfl,Bb nv (Ug ..),nv2,fun h=>Bool.noConfusion (nv3.symm.trans h)⟩) fun hk=>Has.some ⟨rfl,rfl,?_⟩) fun⟨j1,j2,j3⟩ ⟨e3,e4,h5,g4,g5⟩=> ?_
   ·rw[Zm];obtain⟨k1,k2,k3⟩:=hy (by cases h:y.1.2<;>rw[h]at hk<;>first|rfl|cases hk);exact⟨k1,k2,fun h=>Bb (k3 h) hdp⟩
   ·have e3:j1=_:=e3;have e4:j2=_:=e4;subst e3 e4;have h5:zq (zk j3)<=24+2*zV ps[i]:=h5;have h4:zL zk j2<=24*i+2*zP (ps.take i):=h4;have ho:j2.length<=zL zk j2:=ho;refine Has.need (qy (by dsimp only;omega)) (Has.some ⟨⟨i+1,hlt,zG hlt (by omega),rfl,?_,?_,?_,?_⟩,?_⟩)
    ·show zL zk (j2++[(⟨j3.kind,j3.name,j3.num,j3.decl,j3.list⟩:zu)])<=_;rw[Zm,lh,Z6,og];omega
    ·show(j2++[_]).length=i+1;rw[Na,g1];rfl
    ·show(j2++[(⟨j3.kind,j3.name,j3.num,j3.decl,j3.list⟩:zu)]).all Sg=true;have g4:Sg j3=true:=g4;have g2:j2.all Sg=true:=g2;rw[Zm,Ue,g2,Ad,g4];rfl
    ·show(j2++[(⟨j3.kind,j3.name,j3.num,j3.decl,j3.list⟩:zu)]).any askB=true->_;rw[Zm,List.any_append,Yc,Hf,List.any_nil,Ud];exact fun h=>h.elim g3 g5
    ·show ps.length - (w64 ((i:Int)+1)).toNat<ps.length - i;rw[zG hlt (show ps.length<=big by omega)];omega
  ·have:i=ps.length:=by have:=De h;dsimp only at this;omega
   subst this;rw[Vd]at h4;exact⟨rfl,h4,g1,g2,g3⟩
 ·have e1:q5=_:=e1;subst e1;have h4:zL zk o<=24*ps.length+2*zP ps:=h4;have g1:o.length=ps.length:=g1;have g2:o.all Sg=true:=g2;refine Has.some ⟨?_,fun _=>⟨?_,fun h=> ?_⟩⟩
  ·show zq (zk ⟨2,[],0,⟨[],[],false⟩,o⟩)<=_;rw[szN];omega
  ·show(true&&(false||(true&&(!o.isEmpty&&(decide (o.length<=64)&&o.all Sg)))))=true;rw[g2,Fa (show o.length<=64 by omega)];cases o with
   |nil=>rw[<-g1]at hpos;cases hpos
   |cons a r=>rfl
  ·have h:askB ⟨2,[],0,⟨[],[],false⟩,o⟩=true:=h;rw[Ko]at h;exact g3 h
section
variable {S:zx->Option ((zu×Bool)×zx)} {N:Nat}
variable (hS: ∀l,zV l<N->Has (S ⟨l⟩) fun y=>y.1.2=true->zq (zk y.1.1)<=3*zV l/\Mf y.1.1<=Zc l) (hN:4*N+100<=big)
include hS hN
theorem dI{l:List zb}(hl:zV l<=N):Has (qz S ⟨l⟩) fun y=>y.1.2=true-> ∃a r,l=a::r/\y.2=⟨r⟩/\zq (zk y.1.1)<=18+3*zV a.list/\Yf y.1.1<=Jh a:=by
 have h7: ∀(a:zb),Zn a.token.kind≠0->zq (zk ⟨8,[],0,⟨[],[],false⟩,[]⟩)<=18+3*zV a.list/\Yf ⟨8,[],0,⟨[],[],false⟩,[]⟩<=Jh a:=fun a h=>⟨by rw[sz7];omega,by rw[yw h];show 0+1<=_;omega⟩;unfold qz;refine Has.eqb (Jo l) ?_;cases l with
 |nil=>exact Has.bif (fun h=>nomatch h) fun _=>Has.bif (fun h=>nomatch h) fun _=>Has.some fun h=>nomatch h
 |cons a r=>
  have ha:=Qr a r;have hz:=Lh a.list;have hz:szL a.list<=zV a.list:=hz;refine Has.bif (fun h2=>Has.eqb (Io a r) (Has.some fun _=>⟨a,r,rfl,rfl,h7 a (by have h2:(a.token.kind==2)=true:=h2;rw[Db.1 h2];decide)⟩)) fun _=>Has.bif (fun h21=> ?_) fun _=>Has.some fun h=>nomatch h;have h21:Zn a.token.kind≠0:=by have h21:(a.token.kind==21)=true:=h21;rw[Db.1 h21];decide
  have hda:=yw h21;refine Has.eqb (Io a r) (Has.eqb (zNd (x:=a.list) (by omega)) (Has.bif (fun ho=>Has.some fun _=>⟨a,r,rfl,rfl,?_⟩) fun _=> ?_))
  ·split at ho
   ·have h4:=VU (x:=a.list) (by cases h:(oneS a.list).2<;>rw[h]at ho<;>first|rfl|cases ho);rename_i he;rw[Sa he];have h5:=(FN (x:=a.list) (by cases h:(oneS a.list).2<;>rw[h]at ho<;>first|rfl|cases ho)).2;rw[qX]at h4;refine⟨?_,?_⟩
    ·rw[zC];show 7+0+(oneS a.list).1.name.length+zL zD (oneS a.list).1.value+0<=_;omega
    ·rw[hda];show 0+(1+Zc (oneS a.list).1.value)<=_;omega
   ·cases h:errS a.list==0<;>rw[h]at ho<;>cases ho
  ·refine Has.bind (hS a.list (by omega)) fun y hy=>Has.bif (fun hk=>Has.some fun _=>⟨a,r,rfl,rfl,?_⟩) fun _=>Has.some fun _=>⟨a,r,rfl,rfl,h7 a h21⟩;have:=hy hk;dsimp only;rw[Zm];refine⟨by omega,?_⟩;unfold Yf;cases Ih y.1.1<;>simp only[Ca,Ba]<;>omega
theorem zIJ{l:List zb}(hl:zV l<=N):Has (qO S ⟨l⟩) fun y=>y.1.2=true->zq (zk y.1.1)<=3*zV l/\Mf y.1.1<=Zc l:=by
 have h0:=spL l;have tr: ∀{b:Bool} {c:zu} {v:zx} {l:List zb},((((c,b),v):(zu×Bool)×zx).1.2=true-> ∃a r,l=a::r/\v=⟨r⟩/\zq (zk c)<=18+3*zV a.list/\Yf c<=Jh a)->b=true->(zq (zk c)+3*zV v.v<=3*zV l/\v.v.length<l.length)/\v.v.Sublist l/\Yf c<=Zc l:=fun h e=>by obtain⟨a,r,rfl,rfl,h,h'⟩:=h e;rw[Qr,Zc];exact⟨⟨by dsimp only;omega,Fe _⟩,Ie ..,by omega⟩
 have wd: ∀{l:List zb} {y:Str×zx},((y.1=[]/\y.2=⟨l⟩)\/ ∃a r,l=a::r/\y.2=⟨r⟩)->(zV y.2.v<=zV l/\y.2.v.length<=l.length/\((y.1==[])=false->zV y.2.v+6<=zV l))/\y.2.v.Sublist l:=fun {l y} h=>by
  rcases h with⟨e,e'⟩|⟨a,r,rfl,e⟩
  ·rw[e,e'];exact⟨⟨Xa _,Xa _,fun h=>nomatch h⟩,Ce _⟩
  ·have:=Qr a r;rw[e];exact⟨⟨by show zV r<=_;omega,Nat.le_succ _,fun _=>by show zV r+6<=_;omega⟩,Ie ..⟩
 have st: ∀c:zu,Mf c<=Yf c:=fun c=>by unfold Yf;omega
 have dp: ∀(k:Int) (o:List zu),(k=0\/k=1\/k=2\/k=3)->Mf ⟨k,[],0,⟨[],[],false⟩,o⟩=mx Yf o:=fun k o h=>by rw[<-TZ,Mf];rcases h with rfl|rfl|rfl|rfl<;>rfl
 unfold qO;refine Has.eqb (QP l) ?_;refine Has.bind (Xx (l:=sp l) (by omega) (by decide) (by decide)) fun⟨w,⟨l2⟩⟩ hy=> ?_;obtain⟨hw,u2⟩:=wd hy;have hw:zV l2<=zV (sp l)/\_:=hw;have u2:l2.Sublist l:=u2.trans (ai l);have h3:=spL l2;refine Has.bif (fun hn=> ?_) fun _=> ?_
 ·have hn:zV l2+6<=zV (sp l):=hw.2.2 (by cases h:(w==[])<;>rw[h]at hn<;>first|rfl|cases hn);refine Has.eqb (QP l2) (Has.bind (dI hS hN (l:=sp l2) (by omega)) fun⟨⟨c,b⟩,⟨v⟩⟩ h4=>Has.eqb (QP v) (Has.some fun hk=> ?_));obtain⟨h5,_,h5s⟩:=tr h4 (by cases h:b<;>rw[h]at hk<;>first|rfl|cases hk);have h5:zq (zk c)+3*zV v<=3*zV (sp l2):=h5.1;have h6:=Q3 ((ai l2).trans u2);refine⟨?_,?_⟩
  ·show zq (zk ⟨3,[],0,⟨[],[],false⟩,[⟨c.kind,c.name,c.num,c.decl,c.list⟩]⟩)<=_;rw[szN,Z6,Zm,og];omega
  ·show Mf ⟨3,[],0,⟨[],[],false⟩,[⟨c.kind,c.name,c.num,c.decl,c.list⟩]⟩<=_;rw[dp 3 _ (by decide),Zm];show max (Yf c) 0<=_;omega
 refine Has.bind (dI hS hN (l:=l2) (by omega)) fun⟨⟨c,b⟩,⟨v⟩⟩ h4=> ?_;refine Has.bif (fun _=>Has.some fun h=>nomatch h) fun hk=> ?_;obtain⟨h5,u5,h5s⟩:=tr h4 (by cases h:b<;>rw[h]at hk<;>first|rfl|cases hk);have h5:zq (zk c)+3*zV v<=3*zV l2:=h5.1;have u5:v.Sublist l:=u5.trans u2;have h5s:Yf c<=Zc l:=Bb h5s (Q3 u2);have h6:=spL v;refine Has.eqb (QP v) (Has.bif (fun _=>Has.some fun _=> ?_) fun hne=> ?_)
 ·dsimp only;rw[Zm];exact⟨by omega,Bb (st c) h5s⟩
 refine Has.loop (fun s=>zL zk s.2.2.2.2+3*zV s.2.1.v<=3*zV l/\(s.2.1.v≠[]\/zL zk s.2.2.2.2+3*zV s.2.1.v+7<=3*zV l)/\(s.2.2.2.1.1=0\/s.2.2.2.1.1=1\/s.2.2.2.1.1=2\/s.2.2.2.1.1=3)/\s.2.2.2.1.2=([],0,[],false)/\s.2.1.v.Sublist l/\mx Yf s.2.2.2.2<=Zc l) (fun s=>s.2.1.v.length) (P:=fun s=>zL zk s.2.2.2+7<=3*zV l/\(s.2.2.1.1=0\/s.2.2.1.1=1\/s.2.2.1.1=2\/s.2.2.1.1=3)/\s.2.2.1.2=([],0,[],false)/\mx Yf s.2.2.2<=Zc l) ⟨?_, .inl fun e=> ?_, .inl rfl,rfl,(ai v).trans u5,?_⟩ (fun⟨fl,⟨v⟩,_,⟨k,q4⟩,o⟩ ⟨h7,h8,hk3,e1,u6,hm⟩=> ?_) fun⟨⟨v⟩,_,⟨k,q4⟩,o⟩ ⟨h7,hk3,e1,hm⟩=>Has.some fun _=> ?_
 ·show zq (zk (⟨c.kind,c.name,c.num,c.decl,c.list⟩:zu))+0+3*zV (sp v)<=_;rw[Zm];omega
 ·have e:sp v=[]:=e;dsimp only at hne;rw[e]at hne;cases hne
 ·show max (Yf (⟨c.kind,c.name,c.num,c.decl,c.list⟩:zu)) 0<=_;rw[Zm];omega
 ·have hb:big=4194304:=rfl;have u6:v.Sublist l:=u6;have hm:mx Yf o<=Zc l:=hm;have h7:zL zk o+3*zV v<=3*zV l:=h7;have ho:=LJ o;refine Has.bif (fun _=> ?_) fun hz=>Has.some ⟨?_,hk3,e1,hm⟩
  ·refine Has.bind (Xx (l:=v) (by omega) (by decide) (by decide)) fun⟨w2,⟨v2⟩⟩ hy=> ?_;obtain⟨hw2,u7⟩:=wd hy;have hw2:zV v2<=zV v/\v2.length<=v.length/\((w2==[])=false->zV v2+6<=zV v):=hw2;have u7:v2.Sublist l:=u7.trans u6;refine Has.bif (fun _=>Has.some fun h=>nomatch h) fun hc=> ?_;have hne2:(w2==[])=false:=by
    cases h:w2==[]with
    |false=>rfl
    |true=>rw[Db.1 h]at hc;cases hc
   have h9:=hw2.2.2 hne2;have h10:=spL v2;have h10':=iA v2;refine Has.eqb (QP v2) (Has.bind (dI hS hN (l:=sp v2) (by omega)) fun⟨⟨c2,b2⟩,⟨v3⟩⟩ h11=> ?_);refine Has.bif (fun _=>Has.some fun h=>nomatch h) fun hk2=> ?_;obtain⟨h12,u8,h12s⟩:=tr h11 (by cases h:b2<;>rw[h]at hk2<;>first|rfl|(exfalso;revert hk2;cases decide ((sp v2).length<v2.length)<;>exact fun h=>nomatch h))
   have h12:zq (zk c2)+3*zV v3<=3*zV (sp v2)/\v3.length<(sp v2).length:=h12;have h13:=spL v3;have h14:=iA v3;refine Has.need (qy (by dsimp only;omega)) (Has.eqb (QP v3) (Has.some ⟨⟨?_, .inr ?_,?_,e1,(ai v3).trans (u8.trans ((ai v2).trans u7)),?_⟩,?_⟩))
   ·show zL zk (o++[(⟨c2.kind,c2.name,c2.num,c2.decl,c2.list⟩:zu)])+3*zV (sp v3)<=_;rw[Zm,lh,Z6,og];omega
   ·show zL zk (o++[(⟨c2.kind,c2.name,c2.num,c2.decl,c2.list⟩:zu)])+3*zV (sp v3)+7<=_;rw[Zm,lh,Z6,og];omega
   ·dsimp only;cases w2==[97,110,100]with
    |true=>exact .inr (.inl rfl)
    |false=>cases w2==[111,114]with
     |true=>exact .inr (.inr (.inl rfl))
     |false=>exact .inl rfl
   ·show mx Yf (o++[(⟨c2.kind,c2.name,c2.num,c2.decl,c2.list⟩:zu)])<=_;have h13:=Q3 ((ai v2).trans u7);have h14:Yf c2<=Zc (sp v2):=h12s;have e5: ∀l:List zu,mx Yf (l++[c2])=max (mx Yf l) (Yf c2):=fun l=>by
     induction l with
     |nil=>show max _ 0=max 0 _;omega
     |cons a l ih=>show max _ (mx Yf (l++[c2]))=max (max _ _) _;rw[ih];omega
    rw[Zm,e5];omega
   ·show(sp v3).length<v.length;omega
  ·show zL zk o+7<=_;rcases h8 with h8|h8
   ·exact absurd (show v=[] by cases v<;>first|rfl|(have:=De hz;simp only[Ga]at this;omega)) h8
   ·have h8:zL zk o+3*zV v+7<=3*zV l:=h8;omega
 ·have e1:q4=_:=e1;subst e1;have h7:zL zk o+7<=3*zV l:=h7;have hk3:k=0\/k=1\/k=2\/k=3:=hk3;have hm:mx Yf o<=Zc l:=hm;refine⟨?_,?_⟩
  ·show zq (zk ⟨k,[],0,⟨[],[],false⟩,o⟩)<=_;rw[szN];omega
  ·show Mf ⟨k,[],0,⟨[],[],false⟩,o⟩<=_;rw[dp k _ hk3];exact hm
end
theorem zMT{x:List zb}(hx:4*zV x+100<=big):Has (Kr x) fun y=>zq (zk y.1)<=7+3*zV x/\(y.2=0->Jk y.1=true/\Mf y.1<=Zc x):=by
 have h7: ∀k,zq (zk ⟨k,[],0,⟨[],[],false⟩,[]⟩)<=7+3*zV x:=fun k=>by rw[sz7];omega
 have hz:=Lh x;have hz:szL x<=zV x:=hz;have ht:Has (Zl ⟨x⟩) fun y=>y.1.2=true->zq (zk y.1.1)<=3*zV x/\Mf y.1.1<=Zc x:=
  El zkh (fun x=>zV x.v) (fun x=>4*zV x.v+100<=big) (fun x y=>y.1.2=true->zq (zk y.1.1)<=3*zV x.v/\Mf y.1.1<=Zc x.v) (fun S ⟨l⟩ h hS=>zIJ (S:=S) (N:=zV l) (fun q hq=>hS ⟨q⟩ (by dsimp only at h ⊢;omega) hq) h (Xa _)) (x:=⟨x⟩) hx
 unfold Kr;refine Has.eqb (uq (l:=x) (by omega)) (Has.bif (fun h=>Has.some ⟨h7 0,fun h'=>by dsimp only at h h';rw[h']at h;cases h⟩) fun _=> ?_);refine Has.bind ht fun⟨⟨c,b⟩,v⟩ hy=> ?_;have hy:b=true->zq (zk c)<=3*zV x/\Mf c<=Zc x:=hy;refine Has.bind (P:=fun y=>b=true->y=bif Jk c then 0 else 8) (Has.cond (fun h=> ?_) fun h hb=>by rw[hb]at h;cases h) fun y hy3=>Has.bif (fun _=>Has.some ⟨h7 0,fun h=>nomatch h⟩) fun hk=>Has.some ?_
 ·have:=hy (by cases h':b<;>rw[h']at h<;>first|rfl|cases h);rw[Zm];exact Has.of (vT (by dsimp only;omega)) fun _=>rfl
 ·have hb:b=true:=by cases h:b<;>rw[h]at hk<;>first|rfl|cases hk
  have:=hy hb;dsimp only;rw[Zm];refine⟨by omega,fun _=>⟨?_,this.2⟩⟩;have e:=hy3 hb;subst hb;cases h:Jk c with
  |true=>rfl
  |false=>rw[h]at e;subst e;cases hk
abbrev encN:List Str->List PV:=fun l=>[.sl (l.map fun y=>[.str y])]
abbrev encT:Str->List PV:=fun y=>[.str y]
theorem MU(n:List Str):zq (encN n)=1+zL encT n:=by exact uN n
theorem zR(x:zN):zq (zy x)=5+zL zf x.selectors+zL Zv x.decls+zq (zk x.cond)+zL encN x.names+zL zy x.rules:=Mi x
def noR:zN:=⟨0,[],[],⟨0,[],0,⟨[],[],false⟩,[]⟩,[],[]⟩
theorem zNoC:zq (zk ⟨0,[],0,⟨[],[],false⟩,[]⟩)=7:=zM7 ..
def okV(z:zN×Bool)(p b:List zb):Prop:=z.2=true->Gj z.1=true/\z.1.names.all Ig=true/\selL z.1.selectors<=Zc p/\Ej z.1<=Zc p/\mx (fun d=>Zc d.value) z.1.decls<=Zc b
theorem nH(n:Nat):selL []<=n:=by rw[selL];exact Va _
theorem BB(z:zN)(p b:List zb):okV (z,false) p b:=fun h=>nomatch h
theorem zIA{p b:List zb}(hp:4*zV p+8<=big)(hb:zV b<big):Has (ay (p,b)) fun y=>zq (zy y.1)<=18+3*zV p+zV b/\y.1.rules=[]/\(y.1.kind=0\/y.1.kind=1)/\okV y p b:=by
 have h0:zq (zy noR)<=18+3*zV p+zV b:=by rw[zR];show 5+0+0+zq (zk ⟨0,[],0,⟨[],[],false⟩,[]⟩)+0+0<=_;rw[zNoC];omega
 unfold ay;refine Has.bind (zIi (v:=p) hp) fun y ⟨hy,hd1,hv⟩=> ?_;refine Has.bif (fun _=>Has.some ⟨h0,rfl, .inl rfl,BB _ _ _⟩) fun he=> ?_;have hv:=hv (bne_eq_false_iff_eq.1 he);refine Has.eqb (zOC (x:=b) (Nat.lt_of_le_of_lt (Lh b) hb)) ?_;refine Has.some ⟨?_,rfl, .inr rfl,?_⟩
 rotate_left
 ·intro h2;by_cases hb0:errS b=0
  ·have hk:=zF8 b;have hl:=UZ (Kg 17 b);rw[Sa hb0];refine⟨?_,rfl,hd1,Va _,hk.2⟩;show(selS y.1==0&&(decide ((dh (Kg 17 b)).length<=32)&&(true&&(true&&(true&&(dh (Kg 17 b)).all Lf)))))=true;rw[hv,hk.1,Fa hl];rfl
  ·rw[Oa hb0]at h2;have h2:(errS b==0)=true:=h2;exact absurd (Db.1 h2) hb0
 have hd:zL Zv (if errS b=0 then(dh (Kg 17 b),(0:Int))else([],errS b)).1<=zV b+6:=by
  split
  ·exact zJh b
  ·exact Va _
 have hy:zL zf y.1<=3*zV p:=hy;rw[zR];show 5+zL zf y.1+zL Zv (if errS b=0 then(dh (Kg 17 b),(0:Int))else([],errS b)).1+zq (zk ⟨0,[],0,⟨[],[],false⟩,[]⟩)+0+0<=_;rw[zNoC];omega
theorem zHb{x:List Str}(h:x.length<=big):vF x=some (Ig x):=by
 have e0:qL x=some (!x.all bg):=by
  unfold qL GM;refine Dl (Li x (fun v=> !bg v) h (fun i hi=> ?_) ?_) ((Mk _ _).trans (Iq _ _))
  ·have e:(decide ((0:Int)<=(i:Int))&&decide ((i:Int)<(x.length:Int)))=true:=eU hi;simp only[zO hi,Ca,e,Zz,Cb,Ta hi,za,Aa,yK];rw[show decide ((0:Int)<=(i:Int))=true from Fa (by omega)];rfl
  ·simp only[zW,Ba]
 unfold vF Ig;have e1:decide ((x.length:Int)>0)= !x.isEmpty:=by
  cases x with
  |nil=>rfl
  |cons a l=>exact Fa (by simp only[Ga];omega)
 have e2:decide ((x.length:Int)<=16)=decide (x.length<=16):=gp _ 16;simp only[e0,zX,za,Aa,e1,e2];cases x.isEmpty<;>cases decide (x.length<=16)<;>cases x.all bg<;>rfl
theorem BU(v:List zb)(n:Nat):zT v n<=zV v:=Wj v n
theorem zKa{v:List zb}(hz:zV v<=big):Has (lD v) fun y=>zL encT y.1<=zV v/\(y.2=true->Ig y.1=true):=by
 have hs:szL v<=zV v:=Lh v;unfold lD;refine Has.eqb (OJ (l:=v) (by omega)) ?_;refine Has.bif (fun _=>Has.some ⟨Va _,fun h=>nomatch h⟩) fun _=> ?_;obtain⟨w,hw⟩: ∃w,(if errS v=0 then(trimS v,(0:Int))else([],errS v)).1=w:=⟨_,rfl⟩;have hwz:zV w<=zV v:=by
  rw[<-hw];split
  ·exact Vp (CK v)
  ·exact Va _
 simp only[hw];have hl:=zLen w;have hl':w.length<=zV w:=hl;refine Has.loop (fun s=> ∃i:Nat,i<=w.length/\s.1=(i:Int)/\zL encT s.2<=zT w i) (fun s=>w.length - s.1.toNat) (P:=fun l=>zL encT l<=zV v) ⟨0,Va _,rfl,Va _⟩ (fun⟨s1,l⟩ ⟨i,hi,e,h1⟩=> ?_) fun l hl2=> ?_
 ·have e:s1=_:=e;subst e;dsimp only at h1 ⊢;have hti:=BU w i;refine Has.bif (fun hlt=> ?_) fun _=>Has.some (by show zL encT l<=_;omega);have hlt:i<w.length:=by have:=Ib hlt;omega
  have ht:=ik hlt;have hti1:=BU w (i+1);have hlen:l.length<=zL encT l:=ZF (fun y=>by simp[zq,bPV]) l;have e1:w64 ((i:Int)+1)=((i+1:Nat):Int):=Cj (by unfold big at *; omega);refine Has.join (P:=fun j=>j.1=(i:Int)/\zL encT j.2<=zT w (i+1)) ?_ fun⟨j1,j2⟩ ⟨e2,h2⟩=> ?_
  ·refine Has.eqb (zM hlt) ?_;refine Has.bif (fun _=>Has.bif (fun _=>Has.some ⟨Va _,fun h=>nomatch h⟩) fun _=>Has.some ⟨rfl,by show zL encT l<=_;omega⟩) fun _=>Has.bif (fun _=>Has.some ⟨Va _,fun h=>nomatch h⟩) fun _=> ?_;refine Has.need (qy (by unfold big at *; omega)) (Has.some ⟨rfl,?_⟩);show zL encT (l++[w[i].token.text])<=_;have e3:zq (encT w[i].token.text)=1+w[i].token.text.length:=by simp only[zq,bPV];omega
   rw[ax hlt]at ht;rw[lh,Z6,og,e3];omega
  ·have e2:j1=_:=e2;subst e2;refine Has.some ⟨⟨i+1,hlt,e1,h2⟩,?_⟩;show w.length - (w64 ((i:Int)+1)).toNat<w.length - (i:Int).toNat;rw[e1];omega
 ·have hlen:l.length<=zL encT l:=ZF (fun y=>by simp[zq,bPV]) l;exact Has.eqb (zHb (x:=l) (by omega)) (Has.some ⟨hl2,id⟩)
theorem jZ{v:List zb}(hz:zV v+100<=big)(b:Bool):Has (Br (v,b)) fun y=>zq (zy y.1)<=18+2*zV v/\y.1.rules=[]/\(b=false->y.1.kind=0\/y.1.kind=5)/\okV y v []:=by
 have hs:szL v<=zV v:=Lh v;have fin: ∀(k:Int) (ns:List (List Str)),zL encN ns<=2*zV v+6->zq (zy ⟨k,[],[],⟨0,[],0,⟨[],[],false⟩,[]⟩,ns,[]⟩)<=18+2*zV v:=fun k ns hn=>by rw[zR];show 5+0+0+zq (zk ⟨0,[],0,⟨[],[],false⟩,[]⟩)+zL encN ns+0<=_;rw[zNoC];omega
 have fin0: ∀k:Int,zq (zy ⟨k,[],[],⟨0,[],0,⟨[],[],false⟩,[]⟩,[],[]⟩)<=18+2*zV v:=fun k=>fin k [] (Va _);unfold Br;refine Has.eqb (uJ (l:=v) (k:=18) (by omega)) ?_;obtain⟨w,hw⟩: ∃w,(if errS v=0 then(if(18:Int)<1\/(24:Int)<18 then([],(2:Int))else(Kg 18 v,0))else([],errS v))=w:=⟨_,rfl⟩;have hwz:zP w.1+6*w.1.length<=zV v+6:=by
  rw[<-hw];split
  ·rw[Oa (by decide)];exact tN 18 v
  ·exact Va _
 have hwp:w.2=0->0<w.1.length:=by
  rw[<-hw];split
  ·rw[Oa (by decide)];exact fun _=>pX (IX 18 v)
  ·exact fun h=>absurd h (by assumption)
 rw[hw];refine Has.bif (fun _=>Has.some ⟨fin0 0,rfl,fun _=> .inl rfl,BB _ _ _⟩) fun h64=> ?_;obtain⟨hw0,h64⟩:w.2=0/\w.1.length<=64:=by
  cases h:w.2 != 0 with
  |true=>rw[h]at h64;cases h64
  |false=>rw[h,Ba]at h64;exact⟨bne_eq_false_iff_eq.1 h,by have:=De h64;omega⟩
 have hwp:=hwp hw0;refine Has.join (P:=fun j=> ∃k,j.2=(k,0,[],0,[],false)/\(b=false->k=5)/\(b=true->k=4)) ?_ fun⟨j1,j2⟩ ⟨k,e,hk5,hk4⟩=> ?_
 ·refine Has.bif (fun hb=> ?_) fun hb=>Has.some ⟨5,rfl,fun _=>rfl,fun h=>by dsimp only at hb;rw[h]at hb;cases hb⟩;refine Has.eqb (OJ (l:=v) (by omega)) ?_;exact Has.bif (fun _=>Has.some ⟨fin0 4,rfl,(fun h=>by rw[h]at hb;cases hb),fun _=>⟨rfl,rfl,nH _,Va _,Va _⟩⟩) fun _=>Has.some ⟨4,rfl,(fun h=>by rw[h]at hb;cases hb),fun _=>rfl⟩
 have e:j2=_:=e;subst e;have wl:w.1.length<=big:=by omega
 refine Has.loop (fun s=> ∃i:Nat,i<=w.1.length/\s.1=(i:Int)/\s.2.2.1=(k,0,[],0,[],false)/\zL encN s.2.2.2<=i+zP (w.1.take i)/\s.2.2.2.length=i/\s.2.2.2.all Ig=true) (fun s=>w.1.length - s.1.toNat) (P:=fun s=>s.2.1=(k,0,[],0,[],false)/\zL encN s.2.2<=2*zV v+6/\s.2.2.length=w.1.length/\s.2.2.all Ig=true)
  ⟨0,Va _,rfl,rfl,Va _,rfl,rfl⟩ (fun⟨s1,s2,s3,ns⟩ ⟨i,hi,e,e2,h1,g1,g2⟩=> ?_) fun⟨o1,o2,o3⟩ ⟨e,h1,g1,g2⟩=> ?_
 ·have e:s1=_:=e;have e2:s3=_:=e2;subst e e2;dsimp only at h1 ⊢;have hPm: ∀n,zP (w.1.take n)<=zP w.1:=fun n=>by have:=Gs (w.1.take n) (w.1.drop n);rw[Lg]at this;omega
  have hp:=hPm i;have g1:ns.length=i:=g1;have g2:ns.all Ig=true:=g2;refine Has.bif (fun hlt=> ?_) fun hlt=>Has.some ⟨rfl,by show zL encN ns<=_;omega,by have:=De hlt;show ns.length=_;omega,g2⟩;have hlt:i<w.1.length:=by have:=Ib hlt;omega
  have e1:w64 ((i:Int)+1)=((i+1:Nat):Int):=Cj (by unfold big at *; omega);have e3:zP (w.1.take (i+1))=zP (w.1.take i)+zV w.1[i]:=by rw[Oc hlt,Gs];rfl
  have hp1:=hPm (i+1);have hlen:ns.length<=zL encN ns:=ZF (fun y=>by rw[MU];omega) ns;refine Has.eqb (zM hlt) ?_;refine Has.bind (zKa (v:=w.1[i]) (by omega)) fun y ⟨hy,hyp⟩=> ?_;refine Has.bif (fun _=>Has.some ⟨fin0 0,rfl,fun _=> .inl rfl,BB _ _ _⟩) fun hy2=> ?_;have hyp:=hyp (by cases h:y.2<;>rw[h]at hy2<;>first|rfl|cases hy2);refine Has.need (qy (by unfold big at *; omega)) (Has.some ⟨⟨i+1,hlt,e1,rfl,?_,?_,?_⟩,?_⟩)
  ·show zL encN (ns++[y.1])<=_;rw[lh,Z6,og,MU,e3];omega
  ·show(ns++[y.1]).length=i+1;rw[Na,g1];rfl
  ·show(ns++[y.1]).all Ig=true;rw[Ue,g2,Ad,hyp];rfl
  ·show w.1.length - (w64 ((i:Int)+1)).toNat<w.1.length - (i:Int).toNat;rw[e1];omega
 ·have e:o2=_:=e;subst e;have g1:o3.length=w.1.length:=g1;refine Has.some ⟨fin k o3 h1,rfl,fun h=> .inr (hk5 h),fun hf=>⟨?_,g2,nH _,?_,Va _⟩⟩
  ·cases b with
   |false=>
    obtain rfl:=hk5 rfl;show(true&&(!o3.isEmpty&&(decide (o3.length<=64)&&true)))=true;rw[Fa (show o3.length<=64 by omega)];cases o3 with
    |nil=>rw[<-g1]at hwp;cases hwp
    |cons a r=>rfl
   |true=> obtain rfl:=hk4 rfl;have hf:((o3.length:Int)==1)=true:=hf;show(true&&(decide (o3.length<=1)&&true))=true;rw[Fa (show o3.length<=1 by have:=Db.1 hf;omega)];rfl
  ·cases b with
   |false=>obtain rfl:=hk5 rfl;exact Va _
   |true=>obtain rfl:=hk4 rfl;exact Va _
theorem nW{α:Type}(p:α->Bool): ∀l:List α,(idxS p l<0/\l.takeWhile (fun a=> !p a)=l/\l.dropWhile (fun a=> !p a)=[])\/ ∃n:Nat,n<l.length/\idxS p l=(n:Int)/\l.take n=l.takeWhile (fun a=> !p a)/\l.drop n=l.dropWhile (fun a=> !p a)
 |[]=> .inl ⟨(by decide:(-1:Int)<0),rfl,rfl⟩
 |a::l=>by
  rw[idxS,List.takeWhile_cons,Ic];cases hp:p a with
  |true=>exact .inr ⟨0,by simp,rfl,by simp,by simp⟩
  |false=>
   simp only[Ba,Ua,Df];rcases nW p l with⟨h1,h2,h3⟩|⟨n,h1,h2,h3,h4⟩
   ·rw[Fa h1,Ca,h2,h3];exact .inl ⟨by decide,rfl,rfl⟩
   ·rw[Ia (by omega),Ba,h2];exact .inr ⟨n+1,by simp only[Ga];omega,rfl,by rw[Be,h3],by rw[List.drop_succ_cons,h4]⟩
def inK(ks:Str)(a:zb):Bool:=ks.any fun b=>a.token.kind==(b.toNat:Int)
theorem zKz{v:List zb}{ks:Str}(hv:v.length<=big)(hk:ks.length<=big):IE (v,ks)=some (v.takeWhile (fun a=> !inK ks a),v.dropWhile (fun a=> !inK ks a)):=by
 have hc: ∀a:zb,eH (a.token.kind,ks)=some (inK ks a):=fun a=>by
  unfold eH aL;refine Dl (Li ks (fun b=>a.token.kind==(b.toNat:Int)) hk (fun i hi=> ?_) ?_) (Mk _ _)
  ·simp only[zO hi,Ca,eU hi,Zz,Cb,Ta hi,za,Aa];rw[show decide ((0:Int)<=(i:Int))=true from Fa (by omega)];rfl
  ·simp only[zW,Ba]
 have hi:QF (v,ks)=some (idxS (inK ks) v):=by
  unfold QF;refine Li v (inK ks) hv (fun i hi=> ?_) ?_
  ·simp only[zO hi,Ca,zM hi,vK,hc,za,Aa]
  ·simp only[zW,Ba]
 unfold IE;simp only[hi,za,Aa];rcases nW (inK ks) v with⟨h1,h2,h3⟩|⟨n,h1,h2,h3,h4⟩
 ·rw[Fa h1,Ca,h2,h3]
 ·rw[h2,Ia (by omega),Ba,Cb,h3,h4];have:(decide ((0:Int)<=(n:Int))&&decide ((n:Int)<=(v.length:Int)))=true:=by rw[Da,ja,ja];omega
  rw[this];rfl
theorem iW(v:List zb):Ky v=some (Km v):=by
 unfold Ky Km;cases v with
 |nil=>rfl
 |cons a r=> have e0:(((a::r).length:Int)==0)=false:=Ea.2 (by simp only[Ga];omega);have e1:geti (a::r) 0=some a:=rfl;simp only[e0,e1,Ba,za,Aa]
def Fs(top:Bool)(a:zb):Bool:=bif a.token.kind==13 then true else bif top then bif a.token.kind==14 then true else a.token.kind==15 else false
def Nl(v:List zb):List zb:=match v with
 |[]=>[]
 |a::r=>bif a.token.kind==3 then(r.dropWhile fun b=> !inK [23,17] b).tail else((a::r).dropWhile fun b=> !inK [23] b).tail
theorem zAn(p:zb->Bool)(a:zb)(r:List zb):(((a::r).dropWhile p).tail).length<=r.length:=by have h:=(Xb p (l:=a::r)).length_le;rw[List.length_tail];rw[Ga]at h;omega
theorem xY(a:zb)(r:List zb):(Nl (a::r)).length<=r.length:=by
 show(bif a.token.kind==3 then(r.dropWhile fun b=> !inK [23,17] b).tail else((a::r).dropWhile fun b=> !inK [23] b).tail).length<=_;cases a.token.kind==3
 ·exact zAn _ a r
 ·rw[Ca];have h:=(Xb (fun b=> !inK [23,17] b) (l:=r)).length_le;rw[List.length_tail];omega
def cntC:List zb->Nat
 |[]=>0
 |a::r=>if Fs true a then cntC r else 1+cntC (Nl (a::r))
termination_by v=>v.length
decreasing_by
 ·simp
 ·have:=xY a r;simp only[Ga];omega
def okQ(q:zt):Prop:= ∃n:Nat,n<=64/\q.room=(n:Int)
theorem wN{q:zt}(h:okQ q)(h0:(q.room==0)=false)(c:Int):okQ ⟨w64 (q.room - 1),c⟩:=by
 obtain⟨n,h1,h2⟩:=h;have hn:n≠0:=fun e=>by subst e;rw[h2]at h0;cases h0
 refine⟨n - 1,by omega,?_⟩;show w64 (q.room - 1)=_;rw[h2,show(n:Int) - 1=((n - 1:Nat):Int) by omega];exact Xv (by unfold big;omega)
theorem zOG(ks:Str)(v:List zb):zV (v.takeWhile fun a=> !inK ks a)+zV (v.dropWhile fun a=> !inK ks a)=zV v:=by show zL zD _+zL zD _=zL zD v;rw[<-lh,List.takeWhile_append_dropWhile]
theorem lX(D:List zb)(p:zt)(o:List zN){R:Type}{Q:R->Prop}:Has (bif decide ((D.length:Int)>0)then need (decide (1<=(D.length:Int)))<|some (LX.out (List.drop 1 D,p,o))else some (LX.out (D,p,o)):Option (LX (List zb×zt×List zN) R))
  (LXq (fun j=>j=(D.tail,p,o)) Q):=by
 rw[nk];cases D with
 |nil=>exact Has.some rfl
 |cons d t=>exact Has.need (Jt (by simp)) (Has.some rfl)
theorem wm(r:zN):(⟨r.kind,r.selectors,r.decls,⟨r.cond.kind,r.cond.name,r.cond.num,r.cond.decl,r.cond.list⟩,r.names,r.rules⟩:zN)=r:=by obtain⟨k,s,d,⟨c1,c2,c3,c4,c5⟩,n,l⟩:=r;rfl
section
end
theorem Xl{X R:Type}{step:Int->Option (LO Int X R)}{k:X->Option R}(n:Nat)(x:X)(h: ∀i,i<n->step (i:Int)=some (.again ((i+1:Nat):Int)))(hf:step (n:Int)=some (.out x)):zU step 0 k=k x:=by
 refine(Uo (List.replicate n ()) (fun i (_:Unit)=>(i:Int)) (fun v (_:Unit)=>some (.again ())) (fun _=>some (.out x)) (a:=()) rfl (fun i a hi=> ?_) (fun a=> ?_) (r:= .out x) ?_)
 ·rw[h i (by simpa using hi)];rfl
 ·rw[List.length_replicate,hf];rfl
 ·rw[Cm (fun a v=>a) (fun v a=>rfl)]
theorem zLM(v:zb):(⟨v.token,v.list⟩:zb)=v:=by cases v;rfl
theorem dW(v:Zu):(⟨v.name,v.value,v.important⟩:Zu)=v:=by cases v;rfl
theorem zLK(v:zm):(⟨v.lead,v.parts,v.combs⟩:zm)=v:=by cases v;rfl
theorem zLJ(v:zQ):(⟨v.tag,v.simples⟩:zQ)=v:=by cases v;rfl
theorem zLL(v:zJ):(⟨v.kind,v.name,v.op,v.value,v.fold,v.anb,v.of_,v.list⟩:zJ)=v:=by cases v;rfl
theorem zOU{a:List zb}(h:szL a<=big):Am (a,a)=some true:=by
 refine ZG (fun x:List zb×List zb=>szL x.1) (fun x=>szL x.1<=big/\x.1=x.2) (fun x=>true) (fun S x hl hS=> ?_) (show szL (a,a).1<=big/\(a,a).1=(a,a).2 from⟨h,rfl⟩);obtain⟨l,l'⟩:=x;obtain⟨hl,he⟩:=hl;simp only at hl hS he;subst he;unfold Ez;have hlen:=Bh l;have hne:((l.length:Int) != (l.length:Int))=false:=by simp
 simp only[hne,Ba];refine Xl l.length () (fun i hi=> ?_) ?_
 ·have hsz:=Nj (Ha hi);have hv2:=mh l[i];have hs1:szL l[i].list<=big:=by omega
  have hs2:szL l[i].list<szL l:=by omega
  have hSq:S (l[i].list,l[i].list)=some true:=hS (l[i].list,l[i].list) ⟨hs1,rfl⟩ hs2;simp[hi,zM hi,hSq,zG hi (by omega)]
 ·simp only[zW,Ba]
theorem UV{d:Zu}(h:zL zD d.value<=big):oo (d,d)=some true:=by unfold oo;have:=Lh d.value;have e1:(d.name==d.name)=true:=Kc _;have e2:(d.important==d.important)=true:=Kc _;simp only[e1,e2,Ca,z8,zOU (show szL d.value<=big by omega),za,Aa]
theorem zOV{l:List Zu}(h:zL Zv l<=big):Ny (l,l)=some true:=by
 unfold Ny;have hlen:=ZF Nk l;have hne:((l.length:Int) != (l.length:Int))=false:=by simp
 simp only[hne,Ba];refine Xl l.length () (fun i hi=> ?_) ?_
 ·have hsz:=ZU (f:=Zv) (Ha hi);have hv2:=qX l[i];have h1:oo (l[i],l[i])=some true:=UV (by omega);simp[hi,zM hi,h1,zG hi (by omega)]
 ·simp only[zW,Ba]
theorem zOi{c:zu}(h:zq (zk c)<=big):Sk (c,c)=some true:=by
 refine ZG (fun x:zu×zu=>zq (zk x.1)) (fun x=>zq (zk x.1)<=big/\x.1=x.2) (fun x=>true) (fun S x hl hS=> ?_) (show zq (zk (c,c).1)<=big/\(c,c).1=(c,c).2 from⟨h,rfl⟩);obtain⟨c,c'⟩:=x;obtain⟨hl,he⟩:=hl;simp only at hl hS he;subst he;unfold Kz;have hlen:=Qb c;have hd:=Gy c;rw[qX]at hd;have e1:(c.kind != c.kind)=false:=by simp
 have e2:(c.name==c.name)=true:=Kc _;have e3:(c.num != c.num)=false:=by simp
 have e4:((c.list.length:Int) != (c.list.length:Int))=false:=by simp
 simp only[e1,e2,e3,e4,Ba,Ya,Ua,z8,UV (show zL zD c.decl.value<=big by omega),za,Aa];refine Xl c.list.length () (fun i hi=> ?_) ?_
 ·have hsz:=qW (Ha hi);have hSq:S (c.list[i],c.list[i])=some true:=hS (c.list[i],c.list[i]) ⟨by show zq (zk c.list[i])<=big;omega,rfl⟩ hsz;simp[hi,zM hi,hSq,zG hi (by omega),Zm]
 ·simp only[zW,Ba]
theorem zOW{l:List zm}(h:zL zf l<=big):ZV (l,l)=some true:=by
 refine ZG (fun x:List zm×List zm=>zL zf x.1) (fun x=>zL zf x.1<=big/\x.1=x.2) (fun x=>true) (fun S x hl hS=> ?_) (show zL zf (l,l).1<=big/\(l,l).1=(l,l).2 from⟨h,rfl⟩);obtain⟨l,l'⟩:=x;obtain⟨hl,he⟩:=hl;simp only at hl hS he;subst he;unfold LF;have hlen:=ZF qH l;have hne:((l.length:Int) != (l.length:Int))=false:=by simp
 simp only[hne,Ba];have hsimp: ∀q:List zJ,zL zY q<zL zf l->YH S (q,q)=some true:=by
  intro q hq;unfold YH;have hq1:=ZF Gm q;have hne:((q.length:Int) != (q.length:Int))=false:=by simp
  simp only[hne,Ba];refine Xl q.length () (fun i hi=> ?_) ?_
  ·have hsz:=ZU (f:=zY) (Ha hi);have hv2:=Qq q[i];have h1:S (q[i].list,q[i].list)=some true:=hS (q[i].list,q[i].list) ⟨by show zL zf q[i].list<=big;omega,rfl⟩ (by show zL zf q[i].list<_;omega);simp only[Fa (show(i:Int)<(q.length:Int) by omega),Ca,zM hi,za,Aa,Mv,Kc,Bool.and_self,Ya,Ua,z8,h1,Ba,zG hi (by omega)]
  ·simp only[zW,Ba]
 refine Xl l.length () (fun i hi=> ?_) ?_
 ·have hsz:=ZU (f:=zf) (Ha hi);have hv2:=Qp l[i];have hlp:=ZF Qx l[i].parts;have h1:dE S (l[i],l[i])=some true:=by
   unfold dE;have e1:(l[i].lead != l[i].lead)=false:=by simp
   have e2:((l[i].parts.length:Int) != (l[i].parts.length:Int))=false:=by simp
   have e3:(l[i].combs==l[i].combs)=true:=Kc _;simp only[e1,e2,e3,Ba,Ya];refine Xl l[i].parts.length () (fun j hj=> ?_) ?_
   ·have hsz2:=ZU (f:=zZ) (Ha hj);have hv3:=qI l[i].parts[j];have h1:=hsimp l[i].parts[j].simples (by omega);simp[hj,zM hj,h1,zG hj (by omega),za]
   ·simp only[zW,Ba]
  have eta:(⟨l[i].lead,l[i].parts,l[i].combs⟩:zm)=l[i]:=by cases l[i];rfl
  simp[hi,zM hi,eta,h1,zG hi (by omega),za]
 ·simp only[zW,Ba]
theorem zOX{l:List (List Str)}(hl:l.length<=big)(h: ∀n∈l,n.length<=big):nz (l,l)=some true:=by
 unfold nz;have hne:((l.length:Int) != (l.length:Int))=false:=by simp
 simp only[hne,Ba];refine Xl l.length () (fun i hi=> ?_) ?_
 ·have h2:=h l[i] (Ha hi);have hne:((l[i].length:Int) != (l[i].length:Int))=false:=by simp
  simp only[Fa (show(i:Int)<(l.length:Int) by omega),Ca,zM hi,za,Aa,hne,Ba];refine(Xl l[i].length () (fun j hj=> ?_) ?_).trans ?_
  ·simp[hj,zM hj,zG hj h2]
  ·simp only[zW,Ba]
  ·rw[zG hi hl]
 ·simp only[zW,Ba]
theorem zMd{α R:Type}{step:Int×List α->Option (LO (Int×List α) (List α) R)}{k:List α->Option R}(l:List α)(h: ∀i,i<l.length->step ((i:Int),l)=some (.again (((i+1:Nat):Int),l)))(hf:step ((l.length:Int),l)=some (.out l)):
  zU step (0,l) k=k l:=by
 refine(Uo l (fun i (_:Unit)=>((i:Int),l)) (fun v (_:Unit)=>some (.again ())) (fun _=>some (.out l)) (a:=()) rfl (fun i a hi=> ?_) (fun a=> ?_) (r:= .out l) ?_)
 ·rw[h i hi];rfl
 ·rw[hf];rfl
 ·rw[Cm (fun a v=>a) (fun v a=>rfl)]
theorem set_self{α:Type}(l:List α)(i:Nat)(h:i<l.length)(y:α)(hy:y=l[i]):l.set i y=l:=by subst hy;exact List.set_getElem_self h
theorem nn(i:Nat):decide ((0:Int)<=(i:Int))=true:=Fa (by omega)
theorem oN{α:Type}(l:List α)(n:Nat)(h:(0+l.length)*n<=140737488355328):need (ZB 0 l.length n) (some l)=some l:=ZQ (qy h) _
theorem ym{α R:Type}{step:Int×List α->Option (LO (Int×List α) (List α) R)}{k:List α->Option R}(l:List α)(h: ∀i (hi:i<l.length),step ((i:Int),l.take i)=some (.again (((i+1:Nat):Int),l.take i++[l[i]])))(hf:step ((l.length:Int),l)=some (.out l)):
  zU step (0,[]) k=k l:=by
 refine(Uo l (fun i (_:Unit)=>((i:Int),l.take i)) (fun v (_:Unit)=>some (.again ())) (fun _=>some (.out l)) (a:=()) rfl (fun i a hi=> ?_) (fun a=> ?_) (r:= .out l) ?_)
 ·rw[h i hi,<-Oc hi];rfl
 ·rw[Vd,hf];rfl
 ·rw[Cm (fun a v=>a) (fun v a=>rfl)]
theorem om{α:Type}{l:List α}{i n:Nat}(hi:i<l.length)(h:l.length*n<=140737488355328):ZB (l.take i).length 1 n=true:=
 qy (Bb (Vb _ (by rw[Wd];omega)) h)
theorem uS{l:List zb}(h:szL l<=big):ZN l=some l:=by
 refine ZG (fun l=>szL l) (fun l=>szL l<=big) (fun l=>l) (fun S l hl hS=> ?_) h;unfold UH;have hlen:=Bh l;refine ym l (fun i hi=> ?_) ?_
 ·have hsz:=Nj (Ha hi);have hv2:=mh l[i];have h1:S l[i].list=some l[i].list:=hS l[i].list (by omega) (by omega);simp only[zO hi,Ca,zM hi,za,Aa,h1,om hi (show l.length*80<=140737488355328 by unfold big at hl;omega),Zz,zG hi (show l.length<=big by omega),zLM]
 ·simp only[zW,Ba]
theorem zvt{l:List Zu}(h:zL Zv l<=big):kz l=some l:=by
 unfold kz;have hlen:=ZF Nk l;refine ym l (fun i hi=> ?_) ?_
 ·have hsz:=ZU (f:=Zv) (Ha hi);have hv2:=qX l[i];have hs:=Lh l[i].value;have h1:ZN l[i].value=some l[i].value:=uS (by omega);simp only[zO hi,Ca,zM hi,za,Aa,h1,om hi (show l.length*48<=140737488355328 by unfold big at h;omega),Zz,zG hi (show l.length<=big by omega),dW]
 ·simp only[zW,Ba]
theorem P7{c:zu}(h:zq (zk c)<=big):qN c=some c:=by
 refine ZG (fun c=>zq (zk c)) (fun c=>zq (zk c)<=big) (fun l=>l) (fun S c hl hS=> ?_) h;unfold yG;have hlen:=Qb c;have hd:=Gy c;rw[qX]at hd;have hs:=Lh c.decl.value;have h0:ZN c.decl.value=some c.decl.value:=uS (by omega);simp only[za,h0,Aa];refine(ym c.list (fun i hi=> ?_) ?_).trans (congrArg some (by rw[dW,Zm]))
 ·have hsz:=qW (Ha hi);have h1:S c.list[i]=some c.list[i]:=hS c.list[i] (by omega) hsz;simp only[zO hi,Ca,zM hi,Aa,Zm,h1,om hi (show c.list.length*104<=140737488355328 by unfold big at hl;omega),Zz,zG hi (show c.list.length<=big by omega)]
 ·simp only[zW,Ba]
theorem zoz{l:List zm}(h:zL zf l<=big):ZM l=some l:=by
 refine ZG (fun l=>zL zf l) (fun l=>zL zf l<=big) (fun l=>l) (fun S l hl hS=> ?_) h;unfold kH;have hlen:=ZF qH l;refine ym l (fun i hi=> ?_) ?_
 ·have hsz:=ZU (f:=zf) (Ha hi);have hv2:=Qp l[i];have hlp:=ZF Qx l[i].parts;have hmm:bL l[i].combs=some l[i].combs:=oN l[i].combs 1 (by unfold big at hl;omega);simp only[zO hi,Ca,zM hi,za,Aa,hmm];refine(ym l[i].parts (fun j hj=> ?_) ?_).trans ?_
  ·have hsz2:=ZU (f:=zZ) (Ha hj);have hv3:=qI l[i].parts[j];have hls:=ZF Gm l[i].parts[j].simples;have hcs:dL l[i].parts[j].simples=some l[i].parts[j].simples:=oN l[i].parts[j].simples 104 (by unfold big at hl;omega);simp only[zO hj,Ca,zM hj,Aa,hcs];refine(zMd l[i].parts[j].simples (fun m hm=> ?_) ?_).trans ?_
   ·have hsz3:=ZU (f:=zY) (Ha hm);have hv4:=Qq l[i].parts[j].simples[m];have h1:S l[i].parts[j].simples[m].list=some l[i].parts[j].simples[m].list:=hS _ (by omega) (by omega);simp only[zO hm,Ca,nn,Bool.and_self,Zz,Ta hm,Aa,h1,Cb,zG hm (show l[i].parts[j].simples.length<=big by omega)];rw[set_self _ m hm _ (zLL _)]
   ·simp only[zW,Ba]
   ·rw[om hj (show l[i].parts.length*40<=140737488355328 by unfold big at hl;omega),Zz,zG hj (show l[i].parts.length<=big by omega),zLJ]
  ·simp only[zW,Ba]
  ·rw[om hi (show l.length*56<=140737488355328 by unfold big at hl;omega),Zz,zG hi (show l.length<=big by omega),zLK]
 ·simp only[zW,Ba]
theorem YR{l:List zN}(h:zL zy l<=big):qx l=some l:=by
 refine ZG (fun l=>zL zy l) (fun l=>zL zy l<=big) (fun l=>l) (fun S l hl hS=> ?_) h;unfold wG;have hlen:=ZF Rk l;refine ym l (fun i hi=> ?_) ?_
 ·have hsz:=ZU (f:=zy) (Ha hi);have hv2:=Mi l[i];have hn:=uA l[i].names;have h1:ZM l[i].selectors=some l[i].selectors:=zoz (by omega);have h2:kz l[i].decls=some l[i].decls:=zvt (by omega);have h3:qN l[i].cond=some l[i].cond:=P7 (by omega);have h4:S l[i].rules=some l[i].rules:=hS _ (by omega) (by omega);have hnl:l[i].names.length<=big:=by omega
  simp only[zO hi,Ca,zM hi,za,Aa,Zm,h1,h2,h3];refine(ym l[i].names (fun j hj=> ?_) ?_).trans ?_
  ·have h5:=(hn.2 _ (Ha hj)).1;have hc:slices_Clone_string l[i].names[j]=some l[i].names[j]:=oN l[i].names[j] 16 (by unfold big at hl;omega);simp only[zO hj,Ca,zM hj,Aa,hc,om hj (show l[i].names.length*24<=140737488355328 by unfold big at hnl;omega),Zz,zG hj hnl]
  ·simp only[zW,Ba]
  ·simp only[h4,Aa,om hi (show l.length*208<=140737488355328 by unfold big at hl;omega),Zz,zG hi (show l.length<=big by omega),Zm,Ox]
 ·simp only[zW,Ba]
theorem zOj{S:List zN×List zN->Option Bool}{r:zN}(h:zq (zy r)<=big)(hS:S (r.rules,r.rules)=some true):PE S (r,r)=some true:=by unfold PE;have hv2:=Mi r;have hn:=uA r.names;have e1:(r.kind==r.kind)=true:=Kc _;have g1:ZV (r.selectors,r.selectors)=some true:=zOW (by omega);have g2:Ny (r.decls,r.decls)=some true:=zOV (by omega);have g3:Sk (r.cond,r.cond)=some true:=zOi (by omega);have g4:nz (r.names,r.names)=some true:=zOX (by omega) (fun n hm=>by have:=(hn.2 n hm).1;omega);simp only[e1,z8,g1,za,Aa,Ca,g2,Zm,g3,g4,hS]
theorem zMO{l:List zN}(h:zL zy l<=big):Qk (l,l)=some true:=by
 refine ZG (fun x:List zN×List zN=>zL zy x.1) (fun x=>zL zy x.1<=big/\x.1=x.2) (fun x=>true) (fun S x hl hS=> ?_) (show zL zy (l,l).1<=big/\(l,l).1=(l,l).2 from⟨h,rfl⟩);obtain⟨l,l'⟩:=x;obtain⟨hl,he⟩:=hl;simp only at hl hS he;subst he;unfold CF;have hlen:=ZF Rk l;have hne:((l.length:Int) != (l.length:Int))=false:=by simp
 simp only[hne,Ba];refine Xl l.length () (fun i hi=> ?_) ?_
 ·have hm:=ZU (f:=zy) (Ha hi);have hv:=Mi l[i];have g:=zOj (S:=S) (r:=l[i]) (by omega) (hS (l[i].rules,l[i].rules) ⟨by show zL zy l[i].rules<=big;omega,rfl⟩ (by show zL zy l[i].rules<zL zy l;omega));simp only[Fa (show(i:Int)<(l.length:Int) by omega),Ca,zM hi,za,Aa,Zm,Ox,g,Ya,Ba,zG hi (show l.length<=big by omega)]
 ·simp only[zW,Ba]
theorem zFS{l:List zN}(h:zL zy l<=big):gy ⟨l⟩=some (bif Rh l then 0 else 8):=by unfold gy;simp only[zvj h,za,Aa]
theorem Mo(x:qE):zq (Zt x)=4+x.site.length+zL zy x.sheet.rules:=by unfold Zt;simp only[zq,bPV,zL];omega
theorem Xo(x:qE):1<=zq (Zt x):=by rw[Mo];omega
def Bw(n a:Int)(k:qE):Bool:= !(decide (k.number<a))&&(!(decide (k.number>=n))&&(!(decide (k.origin<1))&&(!(decide (k.origin>3))&&(!(decide ((k.site.length:Int)>64))&&Rh k.sheet.rules))))
def Pp(n:Int):Int->List qE->Bool
 |_,[]=>true
 |a,k::r=>Bw n a k&&Pp n (w64 (k.number+1)) r
def Vn(s:ZJ):Bool:= !(bif bif decide ((s.sheets.length:Int)>8)then true else decide (s.next<0)then true else decide (s.next>1000))&&Pp s.next 0 s.sheets
theorem kZ(n:Int): ∀(l:List qE) (a:Int),kg (X:=Unit) (R:=Int) (fun k a=>some (bif Bw n a k then .again (w64 (k.number+1))else .ret 8)) (fun _=>some (.out ())) l a=some (bif Pp n a l then .out ()else .ret 8)
 |[],a=>rfl
 |k::r,a=>by
  unfold kg Pp;cases Bw n a k with
  |false=>rfl
  |true=>exact kZ n r _
theorem Vz{s:ZJ}(h:zL Zt s.sheets<=big):Yy s=some (bif Vn s then 0 else 8):=by
 unfold Yy Vn;have hlen:=ZF Xo s.sheets;cases hb:(bif bif decide ((s.sheets.length:Int)>8)then true else decide (s.next<0)then true else decide (s.next>1000))with
 |true=>rfl
 |false=>
  simp only[Ba,Ua,aa];refine(Uo s.sheets (fun i (a:Int)=>(a,(i:Int))) (fun k a=>some (bif Bw s.next a k then .again (w64 (k.number+1))else .ret 8)) (fun _=>some (.out ())) (a:=0) rfl (fun i a hi=> ?_) (fun a=> ?_) (r:=bif Pp s.next 0 s.sheets then .out ()else .ret 8) (kZ _ _ _)).trans ?_
  ·have hk:=ZU (f:=Zt) (Ha hi);rw[Mo]at hk;have hc:gy s.sheets[i].sheet=some (bif Rh s.sheets[i].sheet.rules then 0 else 8):=zFS (l:=s.sheets[i].sheet.rules) (by omega);simp only[zO hi,Ca,zM hi,za,Aa,hc,zG hi (show s.sheets.length<=big by omega)];unfold Bw;generalize decide (s.sheets[i].number<a)=c1;generalize decide (s.sheets[i].number>=s.next)=c2;generalize decide (s.sheets[i].origin<1)=c3;generalize decide (s.sheets[i].origin>3)=c4;generalize decide ((s.sheets[i].site.length:Int)>64)=c5;generalize Rh s.sheets[i].sheet.rules=c6;cases c1<;>cases c2<;>cases c3<;>cases c4<;>cases c5<;>cases c6<;>rfl
  ·simp only[zW,Ba];rfl
  ·cases Pp s.next 0 s.sheets<;>rfl
def atK(l:List qE)(n:Int):Int:=idxS (fun k=>k.number==n) l
theorem zBx{l:List qE}{n:Int}(hl:l.length<=big):dH (l,n)=some (atK l n):=by
 unfold dH EK;refine Li l (fun k=>k.number==n) hl (fun i hi=> ?_) ?_
 ·simp only[zO hi,Ca,zM hi,za,Aa]
 ·simp only[zW,Ba]
theorem OQ{s:ZJ}{n:Int}(h:zL Zt s.sheets<=big):lw (s,n)=some (bif Vn s then(bif decide (atK s.sheets n<0)then(0,6)else(atK s.sheets n,0))else(0,8)):=by
 have hlen:=ZF Xo s.sheets;unfold lw;simp only[Vz h,za,Aa];cases Vn s with
 |false=>rfl
 |true=> simp only[Ca,Ni,Ba,zBx (show s.sheets.length<=big by omega),Aa];cases decide (atK s.sheets n<0)<;>rfl
theorem ztu{s:ZJ}(h:zL Zt s.sheets<=big):vE s=some (s.next,s.sheets):=by
 have hlen:=ZF Xo s.sheets;unfold vE;refine ym s.sheets (fun i hi=> ?_) ?_
 ·have hk:=ZU (f:=Zt) (Ha hi);rw[Mo]at hk;simp only[zO hi,Ca,zM hi,za,Aa,YR (l:=s.sheets[i].sheet.rules) (by omega),om hi (show s.sheets.length*56<=140737488355328 by unfold big at h;omega),Zz,zG hi (show s.sheets.length<=big by omega)]
 ·simp only[zW,Ba]
theorem O7{s:ZJ}(h:zL Zt s.sheets<=big):Iy s=some s:=by
 have hlen:=ZF Xo s.sheets;unfold Iy;refine(ym s.sheets (fun i hi=> ?_) ?_).trans rfl
 ·have hk:=ZU (f:=Zt) (Ha hi);rw[Mo]at hk;simp only[zO hi,Ca,zM hi,za,Aa,YR (l:=s.sheets[i].sheet.rules) (by omega),om hi (show s.sheets.length*56<=140737488355328 by unfold big at h;omega),Zz,zG hi (show s.sheets.length<=big by omega)]
 ·simp only[zW,Ba]
theorem zCT{k:qE}(h:zL zy k.sheet.rules<=big):XG (k,k)=some true:=by unfold XG;simp only[Kc,Ca,z8,zMO h,za,Aa]
end Go.Lv.VT
