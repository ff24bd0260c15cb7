/- The reference's reading: strings, urls, one token. -/
import Derived.Test.YtpodafkicdifmaaGreatDoorXh
import Derived.Test.YtpodafkicdifmaaGreatDoorXf
import Derived.Test.YtpodafkicdifmaaGreatDoorXd
import Derived.Test.YtpodafkicdifmaaGreatDoorXc
import Derived.Test.YtpodafkicdifmaaGreatDoorXb
set_option linter.unusedSimpArgs false
set_option linter.unusedVariables false
namespace Go.Lv.VT
set_option maxRecDepth 100000
def clnB(c:UInt8):Str:=if c=0 then [239,191,189]else if c=12\/c=13 then [10]else [c]
def clR:Bool->Str->Str
 |_,[]=>[]
 |cr,c::r=>(if c=10/\cr=true then []else clnB c)++clR (c==13) r
theorem TQ{c:UInt8}{r:Str}(h:c=13-> ∀q,r≠10::q):Proofs.Cl.cleanS (c::r)=clnB c++Proofs.Cl.cleanS r:=by
 rw[Proofs.Cl.cleanS]
 ·unfold clnB;by_cases h0:c=0
  ·subst h0;rfl
  ·have e0:(c==0)=false:=Da.2 h0;rw[e0,Ha h0,Ba];by_cases h1:c=12\/c=13
   ·rw[Ka h1];rcases h1 with rfl|rfl<;>rfl
   ·rw[Ha h1];have e1:(c==12||c==13)=false:=by simp only[Bf,Da];exact⟨fun q=>h1 (.inl q),fun q=>h1 (.inr q)⟩
    rw[e1,Ba];rfl
 ·intro r' e1 e2;exact h e1 r' e2
theorem Ko: ∀(n:Nat) (s:Str),s.length<=n->clR false s=Proofs.Cl.cleanS s
 |0,s,h=>by obtain rfl:=Ag.1 (Nat.le_zero.1 h);rw[clR,Proofs.Cl.cleanS]
 |n+1,[],_=>by rw[clR,Proofs.Cl.cleanS]
 |n+1,c::r,h=>by
  rw[Fa]at h;rw[clR,Ha (fun q=>by cases q.2)];by_cases hc:c=13
  ·subst hc;rcases r with _|⟨d,r⟩
   ·rfl
   ·rw[Fa]at h;by_cases hd:d=10
    ·subst hd;rw[Proofs.Cl.cleanS,clR,Ka ⟨rfl,rfl⟩,<-Ko n r (by omega)];rfl
    ·rw[TQ (fun _ q e=>hd (List.cons.inj e).1)];rw[<-Ko n (d::r) (by rw[Fa];omega),clR,clR,Ha (fun q=>hd q.1),Ha (fun q=>hd q.1)]
  ·rw[TQ (fun q=>absurd q hc),<-Ko n r (by omega),show(c==13)=false from Da.2 hc]
theorem lD: ∀(n:Nat) (l:List zf) (c:Int) (left:Nat) (v:List zb×List zf),mf n l c left=some v->shL v.1 c=true/\Za v.1<=left/\(∀t∈v.2,t∈l)/\ ∀t∈tokL v.1,t∈l\/(t.text=[]/\t.unit=[])
 |0,_,_,_,_,h=>by cases h
 |n+1,[],c,left,v,h=>by
  rw[mf]at h;cases h;exact⟨by rw[shL],by rw[Za];grind,fun t a=>a,fun t a=>by rw[tokL]at a;cases a⟩
 |n+1,t::r,c,left,v,h=>by
  rw[au]at h;split at h
  ·cases h;exact⟨by rw[shL],by rw[Za];grind,fun t a=>Lb _ a,fun t a=>by rw[tokL]at a;cases a⟩
  rename_i A;have j:(c != 0&&t.kind==c)=false:=by
   cases y:(c != 0&&t.kind==c)with
   |false=>rfl
   |true=>grind
  split at h
  ·rename_i b;cases e:mf n r c left with
   |none=>grind
   |some w=>
    rw[e]at h;cases h;obtain⟨g,p,f,q⟩:=lD n r c left w e;refine⟨?_,?_,fun t a=>Lb _ (f t a),fun u d=> ?_⟩
    ·rw[shL,shV,g,j,b];rfl
    ·rw[Za,Mh,Ka b];omega
    ·rw[tokL,tokV,Ka b]at d
     grind
  ·rename_i b;cases left with
   |zero=>cases h
   |succ m=>
    simp only at h;cases i:mf n r (Zf t.kind) m with
    |none=>grind
    |some w=>
     rw[i,Aa]at h;cases e:mf n w.2 c (m+1)with
     |none=>grind
     |some k=>
      rw[e]at h;cases h;obtain⟨g,p,f,q⟩:=lD n r _ m w i;obtain⟨o,B,x,z⟩:=lD n w.2 c _ k e;have s:(Zf t.kind==0)=false:=Da.2 b;refine⟨?_,?_,fun u d=>Lb _ (f u (x u d)),fun u d=> ?_⟩
      ·rw[shL,shV,g,o,j,s,aa,Jc];rfl
      ·rw[Za,Mh,Ha b];omega
      ·rw[tokL,tokV,Ha b,Ab,Jb]at d
       grind
theorem zF6{l:List zf}(h:(parS l).2=0):errS (parS l).1=0/\ ∀t∈tokL (parS l).1,t∈l\/(t.text=[]/\t.unit=[]):=by
 unfold parS at h ⊢;split at h
 ·cases h
 rename_i k;rw[Ha k];split at h
 ·cases h
 rename_i s b;split at h
 ·cases h
 rename_i m;rw[Ha m];have a:=XO l;rw[b,Ac]at a;cases d:vG l 0 16 with
 |none=>grind
 |some v=>
  rw[d,Ac]at a;injection a with a;obtain⟨p,n,o,i⟩:=lD _ _ _ _ _ d;obtain⟨e,j⟩:=vI l b (fun x g=>by cases g);have c:=uJ s.2 s.1 e;have f:Ki (s.1,s.2)=l.length:=by rw[show(s.1,s.2)=s from rfl,j];simp[Ki,tokL]
  rw[f]at c;simp only[a]at c ⊢;refine⟨?_,i⟩;unfold errS
  grind
def Vi(a:List Zx)(p:List zb):List Zx:=bif (oneS p).2&&decide (a.length<32)then a++[(oneS p).1]else a
def lh(ps:List (List zb)):List Zx:=ps.foldl Vi []
theorem zI8{a:List Zx}{p:List zb}(h:a.length<=32):(Vi a p).length<=32:=by
 unfold Vi;cases hb:(oneS p).2&&decide (a.length<32)with
 |false=>exact h
 |true=> rw[Ea,ja]at hb;rw[Ca,Ma,Gd];omega
theorem zEP{ps:List (List zb)}{i:Nat}(h:i<ps.length):lh (ps.take (i+1))=Vi (lh (ps.take i)) ps[i]:=by unfold lh;rw[Rc h,List.foldl_append];rfl
theorem RP(ps:List (List zb)):(lh ps).length<=32:=by
 unfold lh;have key: ∀(ps:List (List zb)) (a:List Zx),a.length<=32->(ps.foldl Vi a).length<=32:=by
  intro ps
  induction ps with
  |nil=>intro a h;exact h
  |cons p ps ih=>intro a h;exact ih _ (zI8 h)
 exact key ps [] (Ra _)
theorem zGb{x:List zb}(h:szL x<big):(Ng 17 x).length<=big/\ ∀p∈Ng 17 x,szL p<=big:=by have h1:=zHR 17 x;have h2:=kW (Ng 17 x);exact⟨by omega,fun p hp=>by have:=jW hp;omega⟩
theorem ap48{n:Nat}(h:n<=32):ZE n 1 48=true:=qI (by omega)
theorem zNk{x:List zb}(h:szL x<big):UB x=some (if errS x=0 then(lh (Ng 17 x),0)else([],errS x)):=by
 unfold UB;rw[bD (k:=17) (by omega)];simp only[za,Aa];by_cases he:errS x=0
 ·rw[Ka he,Ha (by omega),Ka he];obtain⟨hl,hp⟩:=zGb h;simp only[show((0:Int) != 0)=false from rfl,Ba];generalize Ng 17 x=ps at*;refine mI (fun z=> ∃i:Nat,z=((i:Int),lh (ps.take i))/\i<=ps.length) (fun z=>ps.length - z.1.toNat) _ ?_ ⟨0,rfl,Ra _⟩;rintro _ ⟨i,rfl,hi⟩;rcases Xd i ps.length with hh|hh
  ·refine .inl ⟨_,?_,⟨i+1,rfl,hh⟩,by simp only[Ib];omega⟩;have hq:=RP (ps.take i);rw[zEP hh];simp only[Zb hh,Ca,zN hh,Aa,GR (hp _ (Ja hh))];obtain⟨a,ha⟩: ∃a,lh (ps.take i)=a:=⟨_,rfl⟩;rw[ha]at hq ⊢;unfold Vi;have hd:decide ((a.length:Int)<32)=decide (a.length<32):=by
    by_cases q:a.length<32
    ·rw[Ga q,Ga (by omega)]
    ·rw[Ua q,Ua (by omega)]
   rw[hd,ZT (ap48 hq)];have hw:w64 ((i:Int)+1)=((i+1:Nat):Int):=zK hh hl;cases (oneS ps[i]).2<;>cases decide (a.length<32)<;>simp only[Ca,Ba,zH,hw,Ya,Dc]
  ·have:i=ps.length:=by omega
   subst this;refine .inr (.inl ⟨lh ps,?_,rfl⟩);simp only[Ze,Ba,Ie]
 ·rw[Ha he,Ha he];simp only[Df.2 he,Ca]
theorem zLR{x:List zb}(h:szL x<=big):YC x=some (if errS x=0 then((oneS x).1,(oneS x).2,0)else(⟨[],[],false⟩,false,errS x)):=by
 unfold YC;simp only[Br h,GR h,za,Aa];by_cases he:errS x=0
 ·rw[Ka he,he];rfl
 ·rw[Ha he,Df.2 he,Ca]
abbrev zV(l:List zb):Nat:=zL zA l
theorem Vp{a b:List zb}(h:a.Sublist b):zV a<=zV b:=Hw h
theorem Qi(v:zb)(l:List zb):zV (v::l)=6+v.token.text.length+v.token.unit.length+zV v.list+zV l:=by show zL zA (v::l)=_;rw[Z5,Xx]
theorem spL(l:List zb):zV (sp l)<=zV l:=Vp (bi l)
theorem zKZ(s:Str):(nmD s).length=s.length:=by
 unfold nmD;cases List.isPrefixOf [45,45] s
 ·exact Yp s
 ·rfl
theorem lY(v:List zb):(Jh v).1.Sublist v:=by
 unfold Jh;split
 ·exact He _
 ·rename_i t z he;have hv:=UD he;cases !t.isEmpty&&(z.token.kind==1&&lowS z.token.text==impW)with
  |false=>exact He _
  |true=>
   rw[Ca];split
   ·exact He _
   ·rename_i u b hb;have hw:=UD hb;cases vv b with
    |false=>exact He _
    |true=> rw[Ca,hv];refine(Ul u).trans (List.Sublist.trans ?_ ((Ul t).trans (Ff t [z])));rw[hw];exact Ff u [b]
theorem kU{x:List zb}(h:(oneS x).2=true):zt (Zz (oneS x).1)<=zV x:=by
 have hx:=Vp (rJ x);unfold oneS at h ⊢;cases e:trimS x with
 |nil=>simp only[e]at h;cases h
 |cons n r=>
  rw[e,Qi]at hx;simp only[e]at h ⊢;cases hk:n.token.kind==1 with
  |false=>rw[hk]at h;cases h
  |true=>
   rw[hk,Ca]at h;simp only[Ca];have h2:=Vp (jb isSp (l:=r));cases e2:r.dropWhile isSp with
   |nil=>simp only[e2]at h;cases h
   |cons c q=>
    rw[e2,Qi]at h2;simp only[e2]at h ⊢;cases hc:c.token.kind==16 with
    |false=>rw[hc]at h;cases h
    |true=>
     rw[hc,Ca]at h;simp only[Ca];cases hd:Tf ⟨nmD n.token.text,(Jh (q.dropWhile isSp)).1,(Jh (q.dropWhile isSp)).2⟩with
     |false=>rw[hd]at h;cases h
     |true=> simp only[Ca];have h3:=Vp (jb isSp (l:=q));have h4:zV (Jh (q.dropWhile isSp)).1<=zV (q.dropWhile isSp):=Vp (lY _);rw[QK,zKZ];show 3+n.token.text.length+zV (Jh (q.dropWhile isSp)).1<=zV x;omega
def zP(ps:List (List zb)):Nat:=(ps.map zV).sum
theorem Rs(a b:List (List zb)):zP (a++b)=zP a+zP b:=by unfold zP;rw[xe,List.sum_append]
theorem RX(k:Int): ∀(l:List zb) (a:List (List zb)×List zb),zP (l.foldl (Cg k) a).1+zV (l.foldl (Cg k) a).2+6*(l.foldl (Cg k) a).1.length<=zP a.1+zV a.2+6*a.1.length+zV l
 |[],a=>by show _<=_+zV [];rw[show zV []=0 from rfl];exact Ta _
 |v::l,a=>by
  rw[Ld];have ih:=RX k l (Cg k a v);have hv:=Qi v l;refine Db ih ?_;unfold Cg;split
  ·rw[Rs,Ma,show zP [a.2]=zV a.2 from rfl,show zV []=0 from rfl,Gd];omega
  ·have h1:zV (a.2++[v])=zV a.2+zV [v]:=wh zA a.2 [v];have h2:zV [v]=6+v.token.text.length+v.token.unit.length+zV v.list:=Qi v [];show zP a.1+zV (a.2++[v])+6*a.1.length+zV l<=_;omega
theorem JN(k:Int)(l:List zb):zP (Ng k l)+6*(Ng k l).length<=zV l+6:=by have h:=RX k l ([],[]);unfold Ng Fg;rw[Rs,Ma,Gd,show∀p:List zb,zP [p]=zV p from fun _=>rfl];simp only[show zP []=0 from rfl,show zV []=0 from rfl,Eb]at h;omega
theorem zNa(a:List Zx)(p:List zb):zL Zz (Vi a p)<=zL Zz a+zV p:=by
 unfold Vi;cases hb:(oneS p).2&&decide (a.length<32)with
 |false=>exact Yg ..
 |true=> rw[Ea]at hb;have:=kU hb.1;rw[Ca,wh,Z5,Dh];omega
theorem kX: ∀(ps:List (List zb)) (a:List Zx),zL Zz (ps.foldl Vi a)<=zL Zz a+zP ps
 |[],a=>Yg ..
 |p::ps,a=>by rw[Ld];have h1:=kX ps (Vi a p);have h2:=zNa a p;have h3:zP (p::ps)=zV p+zP ps:=rfl;omega
theorem zHU(x:List zb):zL Zz (lh (Ng 17 x))<=zV x+6:=by have h1:=kX (Ng 17 x) [];have h2:=JN 17 x;unfold lh;rw[Dh]at h1;omega
theorem zHW(a b:List zb):Za (a++b)=max (Za a) (Za b):=by
 induction a with
 |nil=>rw[Bc,Za];omega
 |cons v a ih=>rw[Ab,Za,Za,ih];omega
theorem SQ(k:Int)(N:Nat): ∀(l:List zb) (a:List (List zb)×List zb),(∀p∈a.1,Za p<=N)->Za a.2<=N->Za l<=N->(∀p∈(l.foldl (Cg k) a).1,Za p<=N)/\Za (l.foldl (Cg k) a).2<=N
 |[],a,h1,h2,_=>⟨h1,h2⟩
 |v::l,a,h1,h2,h3=>by
  rw[Za]at h3;rw[Ld];have hn:Za []<=N:=by rw[Za];exact Ra _
  refine SQ k N l (Cg k a v) ?_ ?_ (by omega)
  ·unfold Cg;split
   ·intro p hp;rcases Ec.1 hp with hp|hp
    ·exact h1 p hp
    ·rw[Ic.1 hp];exact h2
   ·exact h1
  ·unfold Cg;split
   ·exact hn
   ·show Za (a.2++[v])<=N;rw[zHW,Za,Za];omega
theorem VP{k:Int}{l p:List zb}(h:p∈Ng k l):Za p<=Za l:=by
 have hn:Za []<=Za l:=by rw[Za];exact Ra _
 obtain⟨h1,h2⟩:=SQ k (Za l) l ([],[]) (fun p hp=>nomatch hp) hn (Ta _);unfold Ng Fg at h;rcases Ec.1 h with h|h
 ·exact h1 p h
 ·rw[Ic.1 h];exact h2
theorem GN{x:List zb}(h:(oneS x).2=true):Tf (oneS x).1=true/\Za (oneS x).1.value<=Za x:=by
 have hx:=QX (rJ x);unfold oneS at h ⊢;cases e:trimS x with
 |nil=>simp only[e]at h;cases h
 |cons n r=>
  rw[e,Za]at hx;simp only[e]at h ⊢;cases hk:n.token.kind==1 with
  |false=>rw[hk]at h;cases h
  |true=>
   rw[hk,Ca]at h;simp only[Ca];have h2:=QX (jb isSp (l:=r));cases e2:r.dropWhile isSp with
   |nil=>simp only[e2]at h;cases h
   |cons c q=>
    rw[e2,Za]at h2;simp only[e2]at h ⊢;cases hc:c.token.kind==16 with
    |false=>rw[hc]at h;cases h
    |true=>
     rw[hc,Ca]at h;simp only[Ca];cases hd:Tf ⟨nmD n.token.text,(Jh (q.dropWhile isSp)).1,(Jh (q.dropWhile isSp)).2⟩with
     |false=>rw[hd]at h;cases h
     |true=> simp only[Ca];have h3:=QX (jb isSp (l:=q));have h4:=QX (lY (q.dropWhile isSp));refine⟨hd,?_⟩;omega
theorem zKX(a b:List Zx)(f:Zx->Nat):mx f (a++b)=max (mx f a) (mx f b):=by
 induction a with
 |nil=>rw[Bc,mx];omega
 |cons v a ih=>rw[Ab,mx,mx,ih];omega
theorem WY{N:Nat}: ∀(ps:List (List zb)) (a:List Zx),(∀p∈ps,Za p<=N)->a.all Tf=true->mx (fun d=>Za d.value) a<=N->(ps.foldl Vi a).all Tf=true/\mx (fun d=>Za d.value) (ps.foldl Vi a)<=N
 |[],a,_,h1,h2=>⟨h1,h2⟩
 |p::ps,a,h,h1,h2=>by
  rw[Ld];refine WY ps (Vi a p) (fun q hq=>h q (Lb _ hq)) ?_ ?_<;>unfold Vi<;>cases hb:(oneS p).2&&decide (a.length<32)<;>first|assumption|skip
  ·rw[Ea]at hb;rw[Ca,We,h1,Lc,(GN hb.1).1];rfl
  ·rw[Ea]at hb;have h3:=(GN hb.1).2;have h4:=h p (Pb ..);rw[Ca,zKX];show max _ (max (Za (oneS p).1.value) 0)<=N;omega
theorem zEA(x:List zb):(lh (Ng 17 x)).all Tf=true/\mx (fun d=>Za d.value) (lh (Ng 17 x))<=Za x:=
 WY (Ng 17 x) [] (fun _ h=>VP h) rfl (Ra _)
theorem zC(c:zw):zt (zk c)=7+c.name.length+c.decl.name.length+zV c.decl.value+zL zk c.list:=by have h1:zt (Zz c.decl)=3+c.decl.name.length+zV c.decl.value:=QK _;rw[Dk,h1];omega
theorem zLM(k:Int)(s:Str)(n:Int)(l:List zw):zt (zk ⟨k,s,n,⟨[],[],false⟩,l⟩)=7+s.length+zL zk l:=by rw[zC];show 7+s.length+0+0+zL zk l=_;omega
theorem Has.condE{α:Type}{c:Bool}{a:Option α}{d y0:α}(h:c=true->a=Option.some y0):Has (zD c a d) fun y=>c=true->y=y0:=
 Has.cond (fun hc=>Has.of (h hc) fun _=>rfl) fun h h'=>by rw[h]at h';cases h'
theorem sz7(k n:Int)(b:Bool):zt (zk ⟨k,[],n,⟨[],[],b⟩,[]⟩)=7:=by rw[zC];rfl
theorem szN(k n:Int)(b:Bool)(l:List zw):zt (zk ⟨k,[],n,⟨[],[],b⟩,l⟩)=7+zL zk l:=by rw[zC];show 7+0+0+0+zL zk l=_;omega
theorem iI(l:List zw):l.length<=zL zk l:=ZZ ED l
theorem Yx{ws:List Str}{l:List zb}(hl:zV l<=big)(hw: ∀s∈ws,s.length<=big)(hn:ws.length<=big):Has (qU (ws,⟨l⟩)) fun y=>(y.1=[]/\y.2=⟨l⟩)\/ ∃a r,l=a::r/\y.2=⟨r⟩:=by
 unfold qU;refine Has.loop (fun s=> ∃i:Nat,i<=ws.length/\s=((i:Int),⟨l⟩)) (fun s=>ws.length - s.1.toNat) (P:=fun s=>s=⟨l⟩) ⟨0,Ra _,rfl⟩ (fun s ⟨i,hi,e⟩=> ?_) fun x hx=>Has.some (.inl ⟨rfl,hx⟩);subst e;refine Has.bif (fun h=> ?_) fun _=>Has.some rfl;have hlt:i<ws.length:=by have:=Fb h;dsimp only at this;omega
 have ag:LOq (R:=Str×zx) (fun s':Int×zx=>(∃i:Nat,i<=ws.length/\s'=((i:Int),⟨l⟩))/\ws.length - s'.1.toNat<ws.length - ((i:Int),(⟨l⟩:zx)).1.toNat) (fun s=>s=(⟨l⟩:zx)) (fun y=>(y.1=[]/\y.2=⟨l⟩)\/ ∃a r,l=a::r/\y.2=⟨r⟩) (.again (w64 ((i:Int)+1),⟨l⟩)):=by rw[zK hlt hn];exact⟨⟨i+1,hlt,rfl⟩,by show ws.length - (i+1)<ws.length - i;omega⟩
 refine Has.eqb (zN hlt) (Has.eqb (Vo l) ?_);cases l with
 |nil=>exact Has.some ag
 |cons a r=>
  have ha:=Qi a r;refine Has.bind (P:=fun y=>(Em (a::r)==1)=true->y=a) (Has.cond (fun _=>Has.some fun _=>rfl) fun h h'=>by rw[h]at h';cases h') fun y hy=> ?_;refine Has.bind (P:=fun _=>True) (Has.cond (fun h=> ?_) fun _=>trivial) fun b _=> ?_
  ·rw[hy h];exact Has.of (oo (by omega) (hw _ (Ja hlt))) trivial
  ·exact Has.bif (fun _=>Has.eqb (Uo a r) (Has.some (.inr ⟨a,r,rfl,rfl⟩))) fun _=>Has.some ag
theorem AR{l:List zb}(hl:zV l<=big):Has (QW ⟨l⟩) fun y=>zt (zk y.1.1)=7/\(y.1.2=true->(∃a r,l=a::r/\y.2=⟨r⟩)/\(∀b,ng b y.1.1=true)/\1<=Za l):=by
 have flag: ∀A C Y L:Bool,(bif bif bif A then C else false then Y else false then L else false)=true->(bif A then C else false)=true/\C=true/\Y=true:=by decide
 unfold QW;refine Has.eqb (Vo l) (Has.bif (fun _=>Has.some ⟨sz7 ..,fun h=>nomatch h⟩) fun h21=> ?_);cases l with
 |nil=>cases h21
 |cons a r=>
  have ha:=Qi a r;have hs:=spL a.list;refine Has.eqb (Uo a r) (Has.eqb (QI a.list) ?_);refine Has.join (P:=fun j=>(j.2.2.1=5\/j.2.2.1=6)/\j.2.2.2=([],0,[],false)/\zV j.2.1.v<=zV a.list) ?_ fun⟨_,⟨v⟩,k,j4⟩ ⟨hk,e1,h1⟩=> ?_
  ·refine Has.bind (Yx (l:=sp a.list) (by omega) (by decide) (by decide)) fun y hy=> ?_;refine Has.bif (fun _=>Has.some ⟨sz7 ..,fun h=>nomatch h⟩) fun hne=> ?_;have hz:zV y.2.v<=zV a.list:=by
    rcases hy with⟨_,e⟩|⟨c,q,e,e'⟩
    ·rw[e];exact hs
    ·rw[e'];rw[e,Qi]at hs;show zV q<=_;omega
   exact Has.bif (fun _=>Has.some ⟨.inr rfl,rfl,hz⟩) fun _=>Has.some ⟨.inl rfl,rfl,hz⟩
  have hk:k=5\/k=6:=hk;have e1:j4=_:=e1;subst e1;have h1:zV v<=zV a.list:=h1;have hs2:=spL v;dsimp only;refine Has.eqb (QI v) (Has.eqb (Vo (sp v)) (Has.bif (fun _=>Has.some ⟨sz7 ..,fun h=>nomatch h⟩) fun h16=> ?_));cases hv:sp v with
  |nil=>rw[hv]at h16;cases h16
  |cons c q=>
   rw[hv,Qi]at hs2;have hs3:=spL q;refine Has.eqb (Uo c q) (Has.eqb (QI q) (Has.eqb (Vo (sp q)) ?_));refine Has.bind (P:=fun y=>(Em (sp q) != 12)=true->y=Em (sp q)) (Has.cond (fun _=>Has.of (Vo _) fun _=>rfl) fun h h'=>by rw[h]at h';cases h') fun y hy=> ?_;refine Has.bif (fun _=>Has.some ⟨sz7 ..,fun h=>nomatch h⟩) fun h12=> ?_;cases hq:sp q with
   |nil=>rw[hq]at h12 hy;rw[hy rfl]at h12;cases h12
   |cons t u=>
    rw[hq,Qi]at hs3;refine Has.eqb (Uo t u) (Has.eqb (QI u) ?_);refine Has.bind (P:=fun _=>True) (Has.cond (fun _=>Has.of (oo (by dsimp only;omega) (by decide)) trivial) fun _=>trivial) fun _ _=> ?_;refine Has.bind (Has.condE fun _=>xS _) fun y15 h15=> ?_;refine Has.some ⟨sz7 ..,fun hf=>⟨⟨a,r,rfl,rfl⟩,fun b=> ?_,?_⟩⟩
    ·obtain⟨f1,f2,f3⟩:=flag _ _ _ _ hf;have hN:isN t.token.num=true:=by
      rw[h15 f1]at f3;cases h:isN t.token.num with
      |true=>rfl
      |false=>rw[h]at f3;cases f3
     have f2:decide (0<=t.token.num)=true:=f2;unfold ng;dsimp only;rw[f2,hN];rcases hk with rfl|rfl<;>cases b<;>rfl
    ·have h21:(a.token.kind != 21)=false:=h21;rw[Za,VC,Ha (by rw[bne_eq_false_iff_eq.1 h21];decide)];omega
theorem leaves_cons(x:zw)(r:List zw):Uq (x::r)=(ng true x&&r.all (ng false)):=by
 have e:(List.range r.length).all (fun i=>ng false (r.getD i default))=r.all (ng false):=by
  rw[Xe,Rb,Rb];constructor
  ·intro h y hy;obtain⟨i,hi,rfl⟩:=Gf hy;have:=h i (Ed.2 hi)
   rwa [je,Va hi,Option.getD_some]at this
  ·intro h i hi;have hi:=Ed.1 hi;rw[je,Va hi,Option.getD_some];exact h _ (Ja hi)
 unfold Uq;rw[Fa,List.range_succ_eq_map,Lc,List.all_map,<-e];rfl
def okO(w:Str)(l:List zb)(o:List zw):Prop:= ∃x0 r,o=x0::r/\ng true x0=true/\r.all (ng false)=true/\((w==[])=false->x0.kind=4)/\(o.any askB=true->1<=Za l)
theorem zGn{l:List zb}(hl:2*zV l+100<=big):Has (kG ⟨l⟩) fun y=>y.1.2=true->zt (zk y.1.1)<=24+2*zV l/\Vg y.1.1=true/\(askB y.1.1=true->1<=Za l):=by
 have hb:big=4194304:=rfl;have h0:=spL l;have wd: ∀{ws:List Str} {l:List zb} {y:Str×zx},((y.1=[]/\y.2=⟨l⟩)\/ ∃a r,l=a::r/\y.2=⟨r⟩)->(zV y.2.v<=zV l/\y.2.v.Sublist l)/\((y.1==[])=false->zV y.2.v+6<=zV l/\y.2.v.length<l.length):=fun {_ l y} h=>by
  rcases h with⟨e,e'⟩|⟨a,r,rfl,e⟩
  ·rw[e,e'];exact⟨⟨Ta _,He _⟩,fun h=>nomatch h⟩
  ·have:=Qi a r;rw[e];exact⟨⟨by show zV r<=_;omega,Me ..⟩,fun _=>⟨by show zV r+6<=_;omega,jd _⟩⟩
 unfold kG;refine Has.eqb (QI l) ?_;refine Has.bind (Yx (l:=sp l) (by omega) (by decide) (by decide)) fun⟨w,⟨l2⟩⟩ hy=> ?_;obtain⟨h2,u2⟩:zV l2<=zV (sp l)/\l2.Sublist (sp l):=(wd (ws:=[]) hy).1;have u3:(sp l2).Sublist l:=(bi l2).trans (u2.trans (bi l));have h3:=spL l2;refine Has.eqb (QI l2) ?_;dsimp only;generalize sp l2=l3 at h3 u3;refine Has.join (P:=fun j=>zL zk j.2.2.2+2*zV j.1.v<=7+2*zV l/\j.2.2.1=(1,[],0,[],false)/\j.1.v.Sublist l/\okO w l j.2.2.2) ?_ fun⟨⟨v⟩,_,q5,o⟩ ⟨h4,e1,u4,ho⟩=> ?_
 ·refine Has.eqb (Vo l3) (Has.bif (fun hk=> ?_) fun _=> ?_)
  ·cases l3 with
   |nil=>cases hk
   |cons a r=>
    rw[Qi]at h3;refine Has.eqb (Uo a r) (bLow (by dsimp only;omega) ?_);have hlo:=Yp a.token.text;refine Has.eqb (KT (by dsimp only;omega)) (Has.bif (fun _=>Has.some fun h=>nomatch h) fun hmed=>Has.need rfl (Has.some ⟨?_,rfl,(Me ..).trans u3,_,[],rfl,?_,rfl,fun _=>rfl,fun h=>nomatch h⟩))
    rotate_left
    ·have hm:medS (lowS a.token.text)=true:=by cases h':medS (lowS a.token.text)<;>rw[h']at hmed<;>first|rfl|cases hmed
     unfold ng;dsimp only;rw[hm];rfl
    show zt (zk ⟨4,lowS a.token.text,0,⟨[],[],false⟩,[]⟩)+0+2*zV r<=_;rw[zC];show 7+(lowS a.token.text).length+0+0+0+0+2*zV r<=_;omega
  ·refine Has.bind (AR (l:=l3) (by omega)) fun y ⟨e7,hp⟩=> ?_;refine Has.bif (fun _=>Has.some fun h=>nomatch h) fun hc=> ?_;obtain⟨⟨a,r,rfl,e⟩,hq,hd⟩:=hp (by cases h:y.1.2<;>rw[h]at hc<;>first|rfl|cases hc);have hw:(w==[])=true:=by
    cases h:y.1.2<;>rw[h]at hc<;>first|cases hc;done|skip
    cases h':w==[]<;>rw[h']at hc<;>first|rfl|cases hc
   have hd:=Db hd (QX u3);rw[Qi]at h3;refine Has.need rfl (Has.some ⟨?_,rfl,by rw[e];exact(Me ..).trans u3,_,[],rfl,by rw[Zq];exact hq true,rfl,fun h=>(by rw[hw]at h;cases h),fun _=>hd⟩);rw[e];show zt (zk (⟨y.1.1.kind,y.1.1.name,y.1.1.num,y.1.1.decl,y.1.1.list⟩:zw))+0+2*zV r<=_;rw[Zq];omega
 have e1:q5=_:=e1;subst e1;have h4:zL zk o+2*zV v<=7+2*zV l:=h4;have u4:v.Sublist l:=u4;have h5:=spL v;refine Has.eqb (QI v) ?_;refine Has.loop (fun s=>zL zk s.2.2.2+2*zV s.1.v<=7+2*zV l/\s.2.2.1=(1,[],0,[],false)/\s.1.v.Sublist l/\okO w l s.2.2.2) (fun s=>s.1.v.length) (P:=fun s=>zL zk s.2.2.2<=7+2*zV l/\s.2.2.1=(1,[],0,[],false)/\okO w l s.2.2.2) ⟨by show zL zk o+2*zV (sp v)<=_;omega,rfl,(bi v).trans u4,ho⟩ (fun⟨⟨v⟩,_,q5,o⟩ ⟨h4,e1,u4,ho⟩=> ?_) fun⟨⟨v⟩,_,q5,o⟩ ⟨h4,e1,ho⟩=> ?_
 ·have h4:zL zk o+2*zV v<=7+2*zV l:=h4;have e1:q5=_:=e1;subst e1;have u4:v.Sublist l:=u4;have hol:=iI o;refine Has.bif (fun _=> ?_) fun _=>Has.some ⟨by show zL zk o<=_;omega,rfl,ho⟩;refine Has.bind (Yx (l:=v) (by omega) (by decide) (by decide)) fun⟨w2,⟨v2⟩⟩ hy=> ?_;refine Has.bif (fun _=>Has.some fun h=>nomatch h) fun hne=> ?_;have h6:zV v2+6<=zV v/\v2.length<v.length:=(wd (ws:=[]) hy).2 hne;have u6:v2.Sublist v:=(wd (ws:=[]) hy).1.2;have h7:=spL v2;have h7':=fA v2;refine Has.eqb (QI v2) ?_;refine Has.bind (AR (l:=sp v2) (by omega)) fun⟨⟨c,ok⟩,⟨v3⟩⟩ ⟨e7,hp⟩=> ?_;refine Has.bif (fun _=>Has.some fun h=>nomatch h) fun hk=> ?_;obtain⟨⟨a,r,e8,e9⟩,hq,hd⟩:=hp (by cases h:ok<;>rw[h]at hk<;>first|rfl|cases hk);have u7:=(bi v2).trans (u6.trans u4);have hd:=Db hd (QX u7);have hq: ∀b,ng b c=true:=hq;have e9:v3=r:=by injection e9
  subst e9;rw[e8]at h7 h7' u7;rw[Qi]at h7;have h8:=spL v3;have h9:=fA v3;have e7:zt (zk c)=7:=e7;refine Has.need (qI (by dsimp only;omega)) (Has.eqb (QI v3) (Has.some ⟨⟨?_,rfl,(bi v3).trans ((Me ..).trans u7),?_⟩,?_⟩))
  rotate_left
  ·obtain⟨x0,r0,e0,g1,g2,g3,g4⟩:=ho;have e0:o=_:=e0;subst e0;refine⟨x0,r0++[c],by dsimp only;rw[Zq];rfl,g1,by rw[We,g2,Lc,hq];rfl,g3,fun _=>hd⟩
  rotate_left
  ·show zL zk (o++[(⟨c.kind,c.name,c.num,c.decl,c.list⟩:zw)])+2*zV (sp v3)<=_;rw[Zq,wh,Z5,Dh];omega
  ·show(sp v3).length<v.length;rw[Fa]at h7';omega
 ·have e1:q5=_:=e1;subst e1;have h4:zL zk o<=7+2*zV l:=h4;obtain⟨x0,r0,e0,g1,g2,g3,g4⟩:=ho;have e0:o=_:=e0;have hq:di ⟨1,[],0,⟨[],[],false⟩,o⟩=true:=by subst e0;unfold di;dsimp only;rw[leaves_cons,g1,g2];rfl
  have hb1:askB ⟨1,[],0,⟨[],[],false⟩,o⟩=o.any askB:=Ro _;refine Has.join (P:=fun j=>zt (zk ⟨j.2.1,j.2.2.1,j.2.2.2.1,⟨j.2.2.2.2.1,[],j.2.2.2.2.2.1⟩,j.2.2.2.2.2.2⟩)<=24+2*zV l/\Vg ⟨j.2.1,j.2.2.1,j.2.2.2.1,⟨j.2.2.2.2.1,[],j.2.2.2.2.2.1⟩,j.2.2.2.2.2.2⟩=true/\(askB ⟨j.2.1,j.2.2.1,j.2.2.2.1,⟨j.2.2.2.2.1,[],j.2.2.2.2.2.1⟩,j.2.2.2.2.2.2⟩=true->1<=Za l)) ?_ fun j hj=>Has.some fun _=>hj;refine Has.bif (fun hw=>Has.some ⟨?_,?_,?_⟩) fun _=>Has.some ⟨?_,hq,fun h=>g4 (by rw[<-hb1];exact h)⟩
  ·show zt (zk ⟨3,[],0,⟨[],[],false⟩,[⟨1,[],0,⟨[],[],false⟩,o⟩]⟩)<=_;rw[szN,Z5,szN,Dh];omega
  ·show(true&&(di ⟨1,[],0,⟨[],[],false⟩,o⟩&&Wp ⟨1,[],0,⟨[],[],false⟩,o⟩))=true;have hw:(w==[110,111,116])=true:=hw;rw[hq,e0];exact Ga (g3 (by rw[Cb.1 hw];rfl))
  ·intro h;have h:askB ⟨3,[],0,⟨[],[],false⟩,[⟨1,[],0,⟨[],[],false⟩,o⟩]⟩=true:=h;rw[Ro]at h;have h:(false||(askB ⟨1,[],0,⟨[],[],false⟩,o⟩||false))=true:=h;rw[ic,Sd,hb1]at h;exact g4 h
  ·show zt (zk ⟨1,[],0,⟨[],[],false⟩,o⟩)<=_;rw[szN];omega
theorem zFA{x:List zb}(hx:40*zV x+200<=big):Has (tq x) fun y=>zt (zk y.1)<=31+6*zV x/\(y.2=0->uk y.1=true/\(askB y.1=true->1<=Za x)):=by
 have hb:big=4194304:=rfl;have h7: ∀k,zt (zk ⟨k,[],0,⟨[],[],false⟩,[]⟩)<=31+6*zV x:=fun k=>by rw[sz7];omega
 have hz:szL x<=zV x:=xh x;obtain⟨ps,er,e,hps⟩: ∃(ps:List (List zb)) (er:Int),Cr (x,18)=some (ps,er)/\zP ps+6*ps.length<=zV x+6/\(er=0->ps=Ng 18 x):=by
  have e:=bD (l:=x) (k:=18) (Db hz (by omega));rw[Ha (show¬((18:Int)<1\/(24:Int)<18) by decide)]at e;by_cases he:errS x=0
  ·rw[Ka he]at e;exact⟨_,_,e,JN 18 x,fun _=>rfl⟩
  ·rw[Ha he]at e;exact⟨_,_,e,Ra _,fun h=>absurd h he⟩
 obtain⟨hps,hcu⟩:=hps;unfold tq;refine Has.eqb e (Has.bif (fun h=>Has.some ⟨h7 0,fun h'=>by dsimp only at h h';rw[h']at h;cases h⟩) fun he=> ?_);have hcu:=hcu (bne_eq_false_iff_eq.1 he);refine Has.join (P:=fun _=>True) (Has.bif (fun _=>Has.eqb (QI x) (Has.bif (fun _=>Has.some ⟨h7 1,fun _=>⟨rfl,fun h=>nomatch h⟩⟩) fun _=>Has.some trivial)) fun _=>Has.some trivial) fun _ _=> ?_;refine Has.bif (fun _=>Has.some ⟨h7 0,fun h=>nomatch h⟩) fun h64=> ?_;have h64:ps.length<=64:=by have:=Ad h64;dsimp only at this;omega
 have hpos:0<ps.length:=by rw[hcu];exact XY (PX 18 x)
 have nv:zt (zk ⟨3,[],0,⟨[],[],false⟩,[⟨1,[],0,⟨[],[],false⟩,[⟨4,[97,108,108],0,⟨[],[],false⟩,[]⟩]⟩]⟩)<=24:=by decide
 have nv2:Vg ⟨3,[],0,⟨[],[],false⟩,[⟨1,[],0,⟨[],[],false⟩,[⟨4,[97,108,108],0,⟨[],[],false⟩,[]⟩]⟩]⟩=true:=by decide
 have nv3:askB ⟨3,[],0,⟨[],[],false⟩,[⟨1,[],0,⟨[],[],false⟩,[⟨4,[97,108,108],0,⟨[],[],false⟩,[]⟩]⟩]⟩=false:=by decide
 have hq: ∀i,(h:i<ps.length)->zV ps[i]+zP (ps.take i)<=zP (ps.take (i+1))/\zP (ps.take (i+1))<=zP ps:=fun i h=>by
  have e:=Og (i+1) ps;have h2:zP (ps.take (i+1))=zP (ps.take i)+zV ps[i]:=by rw[Rc h,Rs];rfl
  have h3:=Rs (ps.take (i+1)) (ps.drop (i+1));rw[e]at h3;omega
 refine Has.loop (fun s=> ∃i:Nat,i<=ps.length/\s.1=(i:Int)/\s.2.1=(2,[],0,[],false)/\zL zk s.2.2<=24*i+2*zP (ps.take i)/\s.2.2.length=i/\s.2.2.all Vg=true/\(s.2.2.any askB=true->1<=Za x)) (fun s=>ps.length - s.1.toNat) (P:=fun s=>s.1=(2,[],0,[],false)/\zL zk s.2<=24*ps.length+2*zP ps/\s.2.length=ps.length/\s.2.all Vg=true/\(s.2.any askB=true->1<=Za x)) ⟨0,Ra _,rfl,rfl,Ra _,rfl,rfl,fun h=>nomatch h⟩ (fun⟨_,q5,o⟩ ⟨i,hi,e0,e1,h4,g1,g2,g3⟩=> ?_) fun⟨q5,o⟩ ⟨e1,h4,g1,g2,g3⟩=> ?_
 ·have e0:_=_:=e0;have e1:q5=_:=e1;subst e0 e1;have g1:o.length=i:=g1;have h4:zL zk o<=24*i+2*zP (ps.take i):=h4;have ho:=iI o;refine Has.bif (fun h=> ?_) fun h=>Has.some ?_
  ·have hlt:i<ps.length:=by have:=Fb h;dsimp only at this;omega
   obtain⟨g1,g2⟩:=hq i hlt;refine Has.eqb (zN hlt) ?_;have hdp:Za ps[i]<=Za x:=VP (k:=18) (by rw[<-hcu];exact Ja hlt);refine Has.bind (zGn (l:=ps[i]) (by omega)) fun y hy=> ?_;refine Has.join (P:=fun j=>j.1=(2,[],0,[],false)/\j.2.1=o/\zt (zk j.2.2)<=24+2*zV ps[i]/\Vg j.2.2=true/\(askB j.2.2=true->1<=Za x)) (Has.bif (fun _=>Has.some ⟨rfl,rfl,Db nv (Yg ..),nv2,fun h=>Bool.noConfusion (nv3.symm.trans h)⟩) fun hk=>Has.some ⟨rfl,rfl,?_⟩) fun⟨j1,j2,j3⟩ ⟨e3,e4,h5,g4,g5⟩=> ?_
   ·rw[Zq];obtain⟨k1,k2,k3⟩:=hy (by cases h:y.1.2<;>rw[h]at hk<;>first|rfl|cases hk);exact⟨k1,k2,fun h=>Db (k3 h) hdp⟩
   ·have e3:j1=_:=e3;have e4:j2=_:=e4;subst e3 e4;have h5:zt (zk j3)<=24+2*zV ps[i]:=h5;have h4:zL zk j2<=24*i+2*zP (ps.take i):=h4;have ho:j2.length<=zL zk j2:=ho;refine Has.need (qI (by dsimp only;omega)) (Has.some ⟨⟨i+1,hlt,zK hlt (by omega),rfl,?_,?_,?_,?_⟩,?_⟩)
    ·show zL zk (j2++[(⟨j3.kind,j3.name,j3.num,j3.decl,j3.list⟩:zw)])<=_;rw[Zq,wh,Z5,Dh];omega
    ·show(j2++[_]).length=i+1;rw[Ma,g1];rfl
    ·show(j2++[(⟨j3.kind,j3.name,j3.num,j3.decl,j3.list⟩:zw)]).all Vg=true;have g4:Vg j3=true:=g4;have g2:j2.all Vg=true:=g2;rw[Zq,We,g2,Lc,g4];rfl
    ·show(j2++[(⟨j3.kind,j3.name,j3.num,j3.decl,j3.list⟩:zw)]).any askB=true->_;rw[Zq,List.any_append,jc,Pf,List.any_nil,Sd];exact fun h=>h.elim g3 g5
    ·show ps.length - (w64 ((i:Int)+1)).toNat<ps.length - i;rw[zK hlt (show ps.length<=big by omega)];omega
  ·have:i=ps.length:=by have:=Ad h;dsimp only at this;omega
   subst this;rw[Ie]at h4;exact⟨rfl,h4,g1,g2,g3⟩
 ·have e1:q5=_:=e1;subst e1;have h4:zL zk o<=24*ps.length+2*zP ps:=h4;have g1:o.length=ps.length:=g1;have g2:o.all Vg=true:=g2;refine Has.some ⟨?_,fun _=>⟨?_,fun h=> ?_⟩⟩
  ·show zt (zk ⟨2,[],0,⟨[],[],false⟩,o⟩)<=_;rw[szN];omega
  ·show(true&&(false||(true&&(!o.isEmpty&&(decide (o.length<=64)&&o.all Vg)))))=true;rw[g2,Ga (show o.length<=64 by omega)];cases o with
   |nil=>rw[<-g1]at hpos;cases hpos
   |cons a r=>rfl
  ·have h:askB ⟨2,[],0,⟨[],[],false⟩,o⟩=true:=h;rw[Ro]at h;exact g3 h
section
variable {S:zx->Option ((zw×Bool)×zx)} {N:Nat}
variable (hS: ∀l,zV l<N->Has (S ⟨l⟩) fun y=>y.1.2=true->zt (zk y.1.1)<=3*zV l/\Vf y.1.1<=Za l) (hN:4*N+100<=big)
include hS hN
theorem BI{l:List zb}(hl:zV l<=N):Has (qo S ⟨l⟩) fun y=>y.1.2=true-> ∃a r,l=a::r/\y.2=⟨r⟩/\zt (zk y.1.1)<=18+3*zV a.list/\rf y.1.1<=Mh a:=by
 have h7: ∀(a:zb),Zf a.token.kind≠0->zt (zk ⟨8,[],0,⟨[],[],false⟩,[]⟩)<=18+3*zV a.list/\rf ⟨8,[],0,⟨[],[],false⟩,[]⟩<=Mh a:=fun a h=>⟨by rw[sz7];omega,by rw[Rx h];show 0+1<=_;omega⟩;unfold qo;refine Has.eqb (Vo l) ?_;cases l with
 |nil=>exact Has.bif (fun h=>nomatch h) fun _=>Has.bif (fun h=>nomatch h) fun _=>Has.some fun h=>nomatch h
 |cons a r=>
  have ha:=Qi a r;have hz:=xh a.list;have hz:szL a.list<=zV a.list:=hz;refine Has.bif (fun h2=>Has.eqb (Uo a r) (Has.some fun _=>⟨a,r,rfl,rfl,h7 a (by have h2:(a.token.kind==2)=true:=h2;rw[Cb.1 h2];decide)⟩)) fun _=>Has.bif (fun h21=> ?_) fun _=>Has.some fun h=>nomatch h;have h21:Zf a.token.kind≠0:=by have h21:(a.token.kind==21)=true:=h21;rw[Cb.1 h21];decide
  have hda:=Rx h21;refine Has.eqb (Uo a r) (Has.eqb (zLR (x:=a.list) (by omega)) (Has.bif (fun ho=>Has.some fun _=>⟨a,r,rfl,rfl,?_⟩) fun _=> ?_))
  ·split at ho
   ·have h4:=kU (x:=a.list) (by cases h:(oneS a.list).2<;>rw[h]at ho<;>first|rfl|cases ho);rename_i he;rw[Ka he];have h5:=(GN (x:=a.list) (by cases h:(oneS a.list).2<;>rw[h]at ho<;>first|rfl|cases ho)).2;rw[QK]at h4;refine⟨?_,?_⟩
    ·rw[zC];show 7+0+(oneS a.list).1.name.length+zL zA (oneS a.list).1.value+0<=_;omega
    ·rw[hda];show 0+(1+Za (oneS a.list).1.value)<=_;omega
   ·cases h:errS a.list==0<;>rw[h]at ho<;>cases ho
  ·refine Has.bind (hS a.list (by omega)) fun y hy=>Has.bif (fun hk=>Has.some fun _=>⟨a,r,rfl,rfl,?_⟩) fun _=>Has.some fun _=>⟨a,r,rfl,rfl,h7 a h21⟩;have:=hy hk;dsimp only;rw[Zq];refine⟨by omega,?_⟩;unfold rf;cases Kh y.1.1<;>simp only[Ca,Ba]<;>omega
theorem zHf{l:List zb}(hl:zV l<=N):Has (qJ S ⟨l⟩) fun y=>y.1.2=true->zt (zk y.1.1)<=3*zV l/\Vf y.1.1<=Za l:=by
 have h0:=spL l;have tr: ∀{b:Bool} {c:zw} {v:zx} {l:List zb},((((c,b),v):(zw×Bool)×zx).1.2=true-> ∃a r,l=a::r/\v=⟨r⟩/\zt (zk c)<=18+3*zV a.list/\rf c<=Mh a)->b=true->(zt (zk c)+3*zV v.v<=3*zV l/\v.v.length<l.length)/\v.v.Sublist l/\rf c<=Za l:=fun h e=>by obtain⟨a,r,rfl,rfl,h,h'⟩:=h e;rw[Qi,Za];exact⟨⟨by dsimp only;omega,jd _⟩,Me ..,by omega⟩
 have wd: ∀{l:List zb} {y:Str×zx},((y.1=[]/\y.2=⟨l⟩)\/ ∃a r,l=a::r/\y.2=⟨r⟩)->(zV y.2.v<=zV l/\y.2.v.length<=l.length/\((y.1==[])=false->zV y.2.v+6<=zV l))/\y.2.v.Sublist l:=fun {l y} h=>by
  rcases h with⟨e,e'⟩|⟨a,r,rfl,e⟩
  ·rw[e,e'];exact⟨⟨Ta _,Ta _,fun h=>nomatch h⟩,He _⟩
  ·have:=Qi a r;rw[e];exact⟨⟨by show zV r<=_;omega,Nat.le_succ _,fun _=>by show zV r+6<=_;omega⟩,Me ..⟩
 have st: ∀c:zw,Vf c<=rf c:=fun c=>by unfold rf;omega
 have dp: ∀(k:Int) (o:List zw),(k=0\/k=1\/k=2\/k=3)->Vf ⟨k,[],0,⟨[],[],false⟩,o⟩=mx rf o:=fun k o h=>by rw[<-PP,Vf];rcases h with rfl|rfl|rfl|rfl<;>rfl
 unfold qJ;refine Has.eqb (QI l) ?_;refine Has.bind (Yx (l:=sp l) (by omega) (by decide) (by decide)) fun⟨w,⟨l2⟩⟩ hy=> ?_;obtain⟨hw,u2⟩:=wd hy;have hw:zV l2<=zV (sp l)/\_:=hw;have u2:l2.Sublist l:=u2.trans (bi l);have h3:=spL l2;refine Has.bif (fun hn=> ?_) fun _=> ?_
 ·have hn:zV l2+6<=zV (sp l):=hw.2.2 (by cases h:(w==[])<;>rw[h]at hn<;>first|rfl|cases hn);refine Has.eqb (QI l2) (Has.bind (BI hS hN (l:=sp l2) (by omega)) fun⟨⟨c,b⟩,⟨v⟩⟩ h4=>Has.eqb (QI v) (Has.some fun hk=> ?_));obtain⟨h5,_,h5s⟩:=tr h4 (by cases h:b<;>rw[h]at hk<;>first|rfl|cases hk);have h5:zt (zk c)+3*zV v<=3*zV (sp l2):=h5.1;have h6:=QX ((bi l2).trans u2);refine⟨?_,?_⟩
  ·show zt (zk ⟨3,[],0,⟨[],[],false⟩,[⟨c.kind,c.name,c.num,c.decl,c.list⟩]⟩)<=_;rw[szN,Z5,Zq,Dh];omega
  ·show Vf ⟨3,[],0,⟨[],[],false⟩,[⟨c.kind,c.name,c.num,c.decl,c.list⟩]⟩<=_;rw[dp 3 _ (by decide),Zq];show max (rf c) 0<=_;omega
 refine Has.bind (BI hS hN (l:=l2) (by omega)) fun⟨⟨c,b⟩,⟨v⟩⟩ h4=> ?_;refine Has.bif (fun _=>Has.some fun h=>nomatch h) fun hk=> ?_;obtain⟨h5,u5,h5s⟩:=tr h4 (by cases h:b<;>rw[h]at hk<;>first|rfl|cases hk);have h5:zt (zk c)+3*zV v<=3*zV l2:=h5.1;have u5:v.Sublist l:=u5.trans u2;have h5s:rf c<=Za l:=Db h5s (QX u2);have h6:=spL v;refine Has.eqb (QI v) (Has.bif (fun _=>Has.some fun _=> ?_) fun hne=> ?_)
 ·dsimp only;rw[Zq];exact⟨by omega,Db (st c) h5s⟩
 refine Has.loop (fun s=>zL zk s.2.2.2.2+3*zV s.2.1.v<=3*zV l/\(s.2.1.v≠[]\/zL zk s.2.2.2.2+3*zV s.2.1.v+7<=3*zV l)/\(s.2.2.2.1.1=0\/s.2.2.2.1.1=1\/s.2.2.2.1.1=2\/s.2.2.2.1.1=3)/\s.2.2.2.1.2=([],0,[],false)/\s.2.1.v.Sublist l/\mx rf s.2.2.2.2<=Za l) (fun s=>s.2.1.v.length) (P:=fun s=>zL zk s.2.2.2+7<=3*zV l/\(s.2.2.1.1=0\/s.2.2.1.1=1\/s.2.2.1.1=2\/s.2.2.1.1=3)/\s.2.2.1.2=([],0,[],false)/\mx rf s.2.2.2<=Za l) ⟨?_, .inl fun e=> ?_, .inl rfl,rfl,(bi v).trans u5,?_⟩ (fun⟨fl,⟨v⟩,_,⟨k,q4⟩,o⟩ ⟨h7,h8,hk3,e1,u6,hm⟩=> ?_) fun⟨⟨v⟩,_,⟨k,q4⟩,o⟩ ⟨h7,hk3,e1,hm⟩=>Has.some fun _=> ?_
 ·show zt (zk (⟨c.kind,c.name,c.num,c.decl,c.list⟩:zw))+0+3*zV (sp v)<=_;rw[Zq];omega
 ·have e:sp v=[]:=e;dsimp only at hne;rw[e]at hne;cases hne
 ·show max (rf (⟨c.kind,c.name,c.num,c.decl,c.list⟩:zw)) 0<=_;rw[Zq];omega
 ·have hb:big=4194304:=rfl;have u6:v.Sublist l:=u6;have hm:mx rf o<=Za l:=hm;have h7:zL zk o+3*zV v<=3*zV l:=h7;have ho:=iI o;refine Has.bif (fun _=> ?_) fun hz=>Has.some ⟨?_,hk3,e1,hm⟩
  ·refine Has.bind (Yx (l:=v) (by omega) (by decide) (by decide)) fun⟨w2,⟨v2⟩⟩ hy=> ?_;obtain⟨hw2,u7⟩:=wd hy;have hw2:zV v2<=zV v/\v2.length<=v.length/\((w2==[])=false->zV v2+6<=zV v):=hw2;have u7:v2.Sublist l:=u7.trans u6;refine Has.bif (fun _=>Has.some fun h=>nomatch h) fun hc=> ?_;have hne2:(w2==[])=false:=by
    cases h:w2==[]with
    |false=>rfl
    |true=>rw[Cb.1 h]at hc;cases hc
   have h9:=hw2.2.2 hne2;have h10:=spL v2;have h10':=fA v2;refine Has.eqb (QI v2) (Has.bind (BI hS hN (l:=sp v2) (by omega)) fun⟨⟨c2,b2⟩,⟨v3⟩⟩ h11=> ?_);refine Has.bif (fun _=>Has.some fun h=>nomatch h) fun hk2=> ?_;obtain⟨h12,u8,h12s⟩:=tr h11 (by cases h:b2<;>rw[h]at hk2<;>first|rfl|(exfalso;revert hk2;cases decide ((sp v2).length<v2.length)<;>exact fun h=>nomatch h))
   have h12:zt (zk c2)+3*zV v3<=3*zV (sp v2)/\v3.length<(sp v2).length:=h12;have h13:=spL v3;have h14:=fA v3;refine Has.need (qI (by dsimp only;omega)) (Has.eqb (QI v3) (Has.some ⟨⟨?_, .inr ?_,?_,e1,(bi v3).trans (u8.trans ((bi v2).trans u7)),?_⟩,?_⟩))
   ·show zL zk (o++[(⟨c2.kind,c2.name,c2.num,c2.decl,c2.list⟩:zw)])+3*zV (sp v3)<=_;rw[Zq,wh,Z5,Dh];omega
   ·show zL zk (o++[(⟨c2.kind,c2.name,c2.num,c2.decl,c2.list⟩:zw)])+3*zV (sp v3)+7<=_;rw[Zq,wh,Z5,Dh];omega
   ·dsimp only;cases w2==[97,110,100]with
    |true=>exact .inr (.inl rfl)
    |false=>cases w2==[111,114]with
     |true=>exact .inr (.inr (.inl rfl))
     |false=>exact .inl rfl
   ·show mx rf (o++[(⟨c2.kind,c2.name,c2.num,c2.decl,c2.list⟩:zw)])<=_;have h13:=QX ((bi v2).trans u7);have h14:rf c2<=Za (sp v2):=h12s;have e5: ∀l:List zw,mx rf (l++[c2])=max (mx rf l) (rf c2):=fun l=>by
     induction l with
     |nil=>show max _ 0=max 0 _;omega
     |cons a l ih=>show max _ (mx rf (l++[c2]))=max (max _ _) _;rw[ih];omega
    rw[Zq,e5];omega
   ·show(sp v3).length<v.length;omega
  ·show zL zk o+7<=_;rcases h8 with h8|h8
   ·exact absurd (show v=[] by cases v<;>first|rfl|(have:=Ad hz;simp only[Fa]at this;omega)) h8
   ·have h8:zL zk o+3*zV v+7<=3*zV l:=h8;omega
 ·have e1:q4=_:=e1;subst e1;have h7:zL zk o+7<=3*zV l:=h7;have hk3:k=0\/k=1\/k=2\/k=3:=hk3;have hm:mx rf o<=Za l:=hm;refine⟨?_,?_⟩
  ·show zt (zk ⟨k,[],0,⟨[],[],false⟩,o⟩)<=_;rw[szN];omega
  ·show Vf ⟨k,[],0,⟨[],[],false⟩,o⟩<=_;rw[dp k _ hk3];exact hm
end
theorem zLz{x:List zb}(hx:4*zV x+100<=big):Has (Yr x) fun y=>zt (zk y.1)<=7+3*zV x/\(y.2=0->Ik y.1=true/\Vf y.1<=Za x):=by
 have h7: ∀k,zt (zk ⟨k,[],0,⟨[],[],false⟩,[]⟩)<=7+3*zV x:=fun k=>by rw[sz7];omega
 have hz:=xh x;have hz:szL x<=zV x:=hz;have ht:Has (Zm ⟨x⟩) fun y=>y.1.2=true->zt (zk y.1.1)<=3*zV x/\Vf y.1.1<=Za x:=
  Vq zjF (fun x=>zV x.v) (fun x=>4*zV x.v+100<=big) (fun x y=>y.1.2=true->zt (zk y.1.1)<=3*zV x.v/\Vf y.1.1<=Za x.v) (fun S ⟨l⟩ h hS=>zHf (S:=S) (N:=zV l) (fun q hq=>hS ⟨q⟩ (by dsimp only at h ⊢;omega) hq) h (Ta _)) (x:=⟨x⟩) hx
 unfold Yr;refine Has.eqb (Br (l:=x) (by omega)) (Has.bif (fun h=>Has.some ⟨h7 0,fun h'=>by dsimp only at h h';rw[h']at h;cases h⟩) fun _=> ?_);refine Has.bind ht fun⟨⟨c,b⟩,v⟩ hy=> ?_;have hy:b=true->zt (zk c)<=3*zV x/\Vf c<=Za x:=hy;refine Has.bind (P:=fun y=>b=true->y=bif Ik c then 0 else 8) (Has.cond (fun h=> ?_) fun h hb=>by rw[hb]at h;cases h) fun y hy3=>Has.bif (fun _=>Has.some ⟨h7 0,fun h=>nomatch h⟩) fun hk=>Has.some ?_
 ·have:=hy (by cases h':b<;>rw[h']at h<;>first|rfl|cases h);rw[Zq];exact Has.of (IU (by dsimp only;omega)) fun _=>rfl
 ·have hb:b=true:=by cases h:b<;>rw[h]at hk<;>first|rfl|cases hk
  have:=hy hb;dsimp only;rw[Zq];refine⟨by omega,fun _=>⟨?_,this.2⟩⟩;have e:=hy3 hb;subst hb;cases h:Ik c with
  |true=>rfl
  |false=>rw[h]at e;subst e;cases hk
abbrev encN:List Str->List PV:=fun l=>[.sl (l.map fun y=>[.str y])]
abbrev encT:Str->List PV:=fun y=>[.str y]
theorem PU(n:List Str):zt (encN n)=1+zL encT n:=by exact dN n
theorem zR(x:zM):zt (zB x)=5+zL zh x.selectors+zL Zz x.decls+zt (zk x.cond)+zL encN x.names+zL zB x.rules:=Rj x
def noR:zM:=⟨0,[],[],⟨0,[],0,⟨[],[],false⟩,[]⟩,[],[]⟩
theorem zNoC:zt (zk ⟨0,[],0,⟨[],[],false⟩,[]⟩)=7:=zLM ..
def okV(z:zM×Bool)(p b:List zb):Prop:=z.2=true->Cj z.1=true/\z.1.names.all Mg=true/\selL z.1.selectors<=Za p/\Dj z.1<=Za p/\mx (fun d=>Za d.value) z.1.decls<=Za b
theorem PH(n:Nat):selL []<=n:=by rw[selL];exact Ra _
theorem Gw(z:zM)(p b:List zb):okV (z,false) p b:=fun h=>nomatch h
theorem zG4{p b:List zb}(hp:4*zV p+8<=big)(hb:zV b<big):Has (Dz (p,b)) fun y=>zt (zB y.1)<=18+3*zV p+zV b/\y.1.rules=[]/\(y.1.kind=0\/y.1.kind=1)/\okV y p b:=by
 have h0:zt (zB noR)<=18+3*zV p+zV b:=by rw[zR];show 5+0+0+zt (zk ⟨0,[],0,⟨[],[],false⟩,[]⟩)+0+0<=_;rw[zNoC];omega
 unfold Dz;refine Has.bind (zGK (v:=p) hp) fun y ⟨hy,hd1,hv⟩=> ?_;refine Has.bif (fun _=>Has.some ⟨h0,rfl, .inl rfl,Gw _ _ _⟩) fun he=> ?_;have hv:=hv (bne_eq_false_iff_eq.1 he);refine Has.eqb (zNk (x:=b) (Nat.lt_of_le_of_lt (xh b) hb)) ?_;refine Has.some ⟨?_,rfl, .inr rfl,?_⟩
 rotate_left
 ·intro h2;by_cases hb0:errS b=0
  ·have hk:=zEA b;have hl:=RP (Ng 17 b);rw[Ka hb0];refine⟨?_,rfl,hd1,Ra _,hk.2⟩;show(selS y.1==0&&(decide ((lh (Ng 17 b)).length<=32)&&(true&&(true&&(true&&(lh (Ng 17 b)).all Tf)))))=true;rw[hv,hk.1,Ga hl];rfl
  ·rw[Ha hb0]at h2;have h2:(errS b==0)=true:=h2;exact absurd (Cb.1 h2) hb0
 have hd:zL Zz (if errS b=0 then(lh (Ng 17 b),(0:Int))else([],errS b)).1<=zV b+6:=by
  split
  ·exact zHU b
  ·exact Ra _
 have hy:zL zh y.1<=3*zV p:=hy;rw[zR];show 5+zL zh y.1+zL Zz (if errS b=0 then(lh (Ng 17 b),(0:Int))else([],errS b)).1+zt (zk ⟨0,[],0,⟨[],[],false⟩,[]⟩)+0+0<=_;rw[zNoC];omega
theorem zFE{x:List Str}(h:x.length<=big):SF x=some (Mg x):=by
 have e0:qH x=some (!x.all og):=by
  unfold qH lL;refine Dl (ni x (fun v=> !og v) h (fun i hi=> ?_) ?_) ((Jk _ _).trans (Pq _ _))
  ·have e:(decide ((0:Int)<=(i:Int))&&decide ((i:Int)<(x.length:Int)))=true:=aU hi;simp only[Zb hi,Ca,e,ZX,Ib,Va hi,za,Aa,fK];rw[show decide ((0:Int)<=(i:Int))=true from Ga (by omega)];rfl
  ·simp only[Ze,Ba]
 unfold SF Mg;have e1:decide ((x.length:Int)>0)= !x.isEmpty:=by
  cases x with
  |nil=>rfl
  |cons a l=>exact Ga (by simp only[Fa];omega)
 have e2:decide ((x.length:Int)<=16)=decide (x.length<=16):=gp _ 16;simp only[e0,zQ,za,Aa,e1,e2];cases x.isEmpty<;>cases decide (x.length<=16)<;>cases x.all og<;>rfl
theorem OU(v:List zb)(n:Nat):zT v n<=zV v:=uj v n
theorem zIV{v:List zb}(hz:zV v<=big):Has (mD v) fun y=>zL encT y.1<=zV v/\(y.2=true->Mg y.1=true):=by
 have hs:szL v<=zV v:=xh v;unfold mD;refine Has.eqb (uC (l:=v) (by omega)) ?_;refine Has.bif (fun _=>Has.some ⟨Ra _,fun h=>nomatch h⟩) fun _=> ?_;obtain⟨w,hw⟩: ∃w,(if errS v=0 then(trimS v,(0:Int))else([],errS v)).1=w:=⟨_,rfl⟩;have hwz:zV w<=zV v:=by
  rw[<-hw];split
  ·exact Vp (rJ v)
  ·exact Ra _
 simp only[hw];have hl:=zLen w;have hl':w.length<=zV w:=hl;refine Has.loop (fun s=> ∃i:Nat,i<=w.length/\s.1=(i:Int)/\zL encT s.2<=zT w i) (fun s=>w.length - s.1.toNat) (P:=fun l=>zL encT l<=zV v) ⟨0,Ra _,rfl,Ra _⟩ (fun⟨s1,l⟩ ⟨i,hi,e,h1⟩=> ?_) fun l hl2=> ?_
 ·have e:s1=_:=e;subst e;dsimp only at h1 ⊢;have hti:=OU w i;refine Has.bif (fun hlt=> ?_) fun _=>Has.some (by show zL encT l<=_;omega);have hlt:i<w.length:=by have:=Fb hlt;omega
  have ht:=ek hlt;have hti1:=OU w (i+1);have hlen:l.length<=zL encT l:=ZZ (fun y=>by simp[zt,bPV]) l;have e1:w64 ((i:Int)+1)=((i+1:Nat):Int):=Ui (by unfold big at *; omega);refine Has.join (P:=fun j=>j.1=(i:Int)/\zL encT j.2<=zT w (i+1)) ?_ fun⟨j1,j2⟩ ⟨e2,h2⟩=> ?_
  ·refine Has.eqb (zN hlt) ?_;refine Has.bif (fun _=>Has.bif (fun _=>Has.some ⟨Ra _,fun h=>nomatch h⟩) fun _=>Has.some ⟨rfl,by show zL encT l<=_;omega⟩) fun _=>Has.bif (fun _=>Has.some ⟨Ra _,fun h=>nomatch h⟩) fun _=> ?_;refine Has.need (qI (by unfold big at *; omega)) (Has.some ⟨rfl,?_⟩);show zL encT (l++[w[i].token.text])<=_;have e3:zt (encT w[i].token.text)=1+w[i].token.text.length:=by simp only[zt,bPV];omega
   rw[dx hlt]at ht;rw[wh,Z5,Dh,e3];omega
  ·have e2:j1=_:=e2;subst e2;refine Has.some ⟨⟨i+1,hlt,e1,h2⟩,?_⟩;show w.length - (w64 ((i:Int)+1)).toNat<w.length - (i:Int).toNat;rw[e1];omega
 ·have hlen:l.length<=zL encT l:=ZZ (fun y=>by simp[zt,bPV]) l;exact Has.eqb (zFE (x:=l) (by omega)) (Has.some ⟨hl2,id⟩)
theorem iP{v:List zb}(hz:zV v+100<=big)(b:Bool):Has (ym (v,b)) fun y=>zt (zB y.1)<=18+2*zV v/\y.1.rules=[]/\(b=false->y.1.kind=0\/y.1.kind=5)/\okV y v []:=by
 have hs:szL v<=zV v:=xh v;have fin: ∀(k:Int) (ns:List (List Str)),zL encN ns<=2*zV v+6->zt (zB ⟨k,[],[],⟨0,[],0,⟨[],[],false⟩,[]⟩,ns,[]⟩)<=18+2*zV v:=fun k ns hn=>by rw[zR];show 5+0+0+zt (zk ⟨0,[],0,⟨[],[],false⟩,[]⟩)+zL encN ns+0<=_;rw[zNoC];omega
 have fin0: ∀k:Int,zt (zB ⟨k,[],[],⟨0,[],0,⟨[],[],false⟩,[]⟩,[],[]⟩)<=18+2*zV v:=fun k=>fin k [] (Ra _);unfold ym;refine Has.eqb (bD (l:=v) (k:=18) (by omega)) ?_;obtain⟨w,hw⟩: ∃w,(if errS v=0 then(if(18:Int)<1\/(24:Int)<18 then([],(2:Int))else(Ng 18 v,0))else([],errS v))=w:=⟨_,rfl⟩;have hwz:zP w.1+6*w.1.length<=zV v+6:=by
  rw[<-hw];split
  ·rw[Ha (by decide)];exact JN 18 v
  ·exact Ra _
 have hwp:w.2=0->0<w.1.length:=by
  rw[<-hw];split
  ·rw[Ha (by decide)];exact fun _=>XY (PX 18 v)
  ·exact fun h=>absurd h (by assumption)
 rw[hw];refine Has.bif (fun _=>Has.some ⟨fin0 0,rfl,fun _=> .inl rfl,Gw _ _ _⟩) fun h64=> ?_;obtain⟨hw0,h64⟩:w.2=0/\w.1.length<=64:=by
  cases h:w.2 != 0 with
  |true=>rw[h]at h64;cases h64
  |false=>rw[h,Ba]at h64;exact⟨bne_eq_false_iff_eq.1 h,by have:=Ad h64;omega⟩
 have hwp:=hwp hw0;refine Has.join (P:=fun j=> ∃k,j.2=(k,0,[],0,[],false)/\(b=false->k=5)/\(b=true->k=4)) ?_ fun⟨j1,j2⟩ ⟨k,e,hk5,hk4⟩=> ?_
 ·refine Has.bif (fun hb=> ?_) fun hb=>Has.some ⟨5,rfl,fun _=>rfl,fun h=>by dsimp only at hb;rw[h]at hb;cases hb⟩;refine Has.eqb (uC (l:=v) (by omega)) ?_;exact Has.bif (fun _=>Has.some ⟨fin0 4,rfl,(fun h=>by rw[h]at hb;cases hb),fun _=>⟨rfl,rfl,PH _,Ra _,Ra _⟩⟩) fun _=>Has.some ⟨4,rfl,(fun h=>by rw[h]at hb;cases hb),fun _=>rfl⟩
 have e:j2=_:=e;subst e;have wl:w.1.length<=big:=by omega
 refine Has.loop (fun s=> ∃i:Nat,i<=w.1.length/\s.1=(i:Int)/\s.2.2.1=(k,0,[],0,[],false)/\zL encN s.2.2.2<=i+zP (w.1.take i)/\s.2.2.2.length=i/\s.2.2.2.all Mg=true) (fun s=>w.1.length - s.1.toNat) (P:=fun s=>s.2.1=(k,0,[],0,[],false)/\zL encN s.2.2<=2*zV v+6/\s.2.2.length=w.1.length/\s.2.2.all Mg=true)
  ⟨0,Ra _,rfl,rfl,Ra _,rfl,rfl⟩ (fun⟨s1,s2,s3,ns⟩ ⟨i,hi,e,e2,h1,g1,g2⟩=> ?_) fun⟨o1,o2,o3⟩ ⟨e,h1,g1,g2⟩=> ?_
 ·have e:s1=_:=e;have e2:s3=_:=e2;subst e e2;dsimp only at h1 ⊢;have hPm: ∀n,zP (w.1.take n)<=zP w.1:=fun n=>by have:=Rs (w.1.take n) (w.1.drop n);rw[Og]at this;omega
  have hp:=hPm i;have g1:ns.length=i:=g1;have g2:ns.all Mg=true:=g2;refine Has.bif (fun hlt=> ?_) fun hlt=>Has.some ⟨rfl,by show zL encN ns<=_;omega,by have:=Ad hlt;show ns.length=_;omega,g2⟩;have hlt:i<w.1.length:=by have:=Fb hlt;omega
  have e1:w64 ((i:Int)+1)=((i+1:Nat):Int):=Ui (by unfold big at *; omega);have e3:zP (w.1.take (i+1))=zP (w.1.take i)+zV w.1[i]:=by rw[Rc hlt,Rs];rfl
  have hp1:=hPm (i+1);have hlen:ns.length<=zL encN ns:=ZZ (fun y=>by rw[PU];omega) ns;refine Has.eqb (zN hlt) ?_;refine Has.bind (zIV (v:=w.1[i]) (by omega)) fun y ⟨hy,hyp⟩=> ?_;refine Has.bif (fun _=>Has.some ⟨fin0 0,rfl,fun _=> .inl rfl,Gw _ _ _⟩) fun hy2=> ?_;have hyp:=hyp (by cases h:y.2<;>rw[h]at hy2<;>first|rfl|cases hy2);refine Has.need (qI (by unfold big at *; omega)) (Has.some ⟨⟨i+1,hlt,e1,rfl,?_,?_,?_⟩,?_⟩)
  ·show zL encN (ns++[y.1])<=_;rw[wh,Z5,Dh,PU,e3];omega
  ·show(ns++[y.1]).length=i+1;rw[Ma,g1];rfl
  ·show(ns++[y.1]).all Mg=true;rw[We,g2,Lc,hyp];rfl
  ·show w.1.length - (w64 ((i:Int)+1)).toNat<w.1.length - (i:Int).toNat;rw[e1];omega
 ·have e:o2=_:=e;subst e;have g1:o3.length=w.1.length:=g1;refine Has.some ⟨fin k o3 h1,rfl,fun h=> .inr (hk5 h),fun hf=>⟨?_,g2,PH _,?_,Ra _⟩⟩
  ·cases b with
   |false=>
    obtain rfl:=hk5 rfl;show(true&&(!o3.isEmpty&&(decide (o3.length<=64)&&true)))=true;rw[Ga (show o3.length<=64 by omega)];cases o3 with
    |nil=>rw[<-g1]at hwp;cases hwp
    |cons a r=>rfl
   |true=> obtain rfl:=hk4 rfl;have hf:((o3.length:Int)==1)=true:=hf;show(true&&(decide (o3.length<=1)&&true))=true;rw[Ga (show o3.length<=1 by have:=Cb.1 hf;omega)];rfl
  ·cases b with
   |false=>obtain rfl:=hk5 rfl;exact Ra _
   |true=>obtain rfl:=hk4 rfl;exact Ra _
end Go.Lv.VT
