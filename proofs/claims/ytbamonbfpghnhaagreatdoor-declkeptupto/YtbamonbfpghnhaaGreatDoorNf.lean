/- Parsing of tokens: what the machine of nest.Parse computes is what the reference's recursion computes. -/
import Derived.Test.YtbamonbfpghnhaaGreatDoorNa
import Derived.Test.YtbamonbfpghnhaaGreatDoorTy
import Derived.Test.YtbamonbfpghnhaaGreatDoorNb
import Derived.Test.YtbamonbfpghnhaaGreatDoorNe
import Derived.KernelRfl
import Derived.Test.YtbamonbfpghnhaaGreatDoorNd
import Derived.Test.YtbamonbfpghnhaaGreatDoorNam
import Derived.Test.YtbamonbfpghnhaaGreatDoorTx
import Derived.Test.YtbamonbfpghnhaaGreatDoorMo
set_option linter.unusedSimpArgs false
set_option linter.unusedVariables false
namespace Go.Lv.VT
set_option maxRecDepth 100000
def Pf:Nat->List ze->Int->Nat->Option (List zb×List ze)
 |0,_,_,_=>none
 |_+1,[],_,_=>some ([],[])
 |n+1,t::r,c,left=>
  if c≠0/\t.kind=c then some ([],r)
  else if zx t.kind=0 then(Pf n r c left).map fun v=>(⟨t,[]⟩::v.1,v.2)
  else match left with
   |0=>none
   |m+1=>(Pf n r (zx t.kind) m).bind fun w=>(Pf n w.2 c (m+1)).map fun v=>(⟨t,w.1⟩::v.1,v.2)
theorem Rv(n:Nat)(t:ze)(r:List ze)(c:Int)(left:Nat):Pf (n+1) (t::r) c left=if c≠0/\t.kind=c then some ([],r)
  else if zx t.kind=0 then(Pf n r c left).map fun v=>(⟨t,[]⟩::v.1,v.2)
  else match left with
   |0=>none
   |m+1=>(Pf n r (zx t.kind) m).bind fun w=>(Pf n w.2 c (m+1)).map fun v=>(⟨t,w.1⟩::v.1,v.2):=rfl
theorem xu: ∀(n:Nat) (l:List ze) (c:Int) (left:Nat) (v:List zb×List ze),Pf n l c left=some v->v.2.length<=l.length/\(l≠[]->v.2.length<l.length)
 |0,_,_,_,_,h=>by cases h
 |n+1,[],c,left,v,h=>by
  rw[Pf]at h
  grind
 |n+1,t::r,c,left,v,h=>by
  rw[Rv]at h;have e:v.2.length<=r.length:=by
   split at h
   ·grind
   split at h
   ·cases a:Pf n r c left with
    |none=>grind
    |some w=>rw[a]at h;cases h;exact(xu n r c left w a).1
   ·cases left with
    |zero=>cases h
    |succ m=>
     simp only at h;cases b:Pf n r (zx t.kind) m with
     |none=>grind
     |some w=>
      rw[b,Aa]at h;cases a:Pf n w.2 c (m+1)with
      |none=>grind
      |some d=>
       rw[a]at h;cases h;have f:=(xu n r _ m w b).1;have g:=(xu n w.2 c _ d a).1
       grind
  grind
def Al(l:List ze)(s:PSt):Option (List zb):=(QG l s).map fun s=>shutAll s.1 s.2
theorem EP(t:ze)(l:List ze)(s:PSt):Al (t::l) s=(Qy s t).bind (Al l):=by unfold Al;rw[QG];cases Qy s t<;>rfl
theorem xy: ∀(n:Nat) (l:List ze) (cur:List zb) (o:ze) (a:List zb) (st:List (ze×List zb)) (left:Nat),l.length<n->zx o.kind≠0->left+(st.length+1)=16->
  Al l (cur,(o,a)::st)=(Pf n l (zx o.kind) left).bind fun v=>Al v.2 (a++[⟨o,cur++v.1⟩],st)
 |0,_,_,_,_,_,_,h,_,_=>by omega
 |n+1,[],cur,o,a,st,left,_,_,_=>by rw[Pf,Aa];simp only[Al,QG,ic,shutAll,Ua]
 |n+1,t::r,cur,o,a,st,left,g,c,f=>by
  rw[Ka]at g;rw[Rv,EP];unfold Qy;simp only[Bl];by_cases e:t.kind=zx o.kind
  ·rw[Ga (by grind),Ga ⟨c,e⟩,Aa,Aa];simp only[Sk,Ua]
  ·rw[Fa (by grind),Fa (show¬(zx o.kind≠0/\t.kind=zx o.kind)from fun h=>e h.2)];by_cases b:zx t.kind=0
   ·rw[Fa (show¬zx t.kind≠0 from fun h=>h b),Ga b,Aa,xy n r _ o a st left (by omega) c f];cases Pf n r (zx o.kind) left with
    |none=>rfl
    |some v=>grind
   ·rw[Ga b,Fa b];cases left with
    |zero=>grind
    |succ m=>
     rw[Fa (by grind),Aa];simp only;rw[xy n r [] t cur ((o,a)::st) m (by omega) b (by grind)];cases i:Pf n r (zx t.kind) m with
     |none=>rfl
     |some w=>
      have d:=(xu n r _ m w i).1;simp only[Aa];rw[xy n w.2 _ o a st (m+1) (by omega) c f];cases Pf n w.2 (zx o.kind) (m+1)with
      |none=>rfl
      |some v=>grind
theorem DF: ∀(n:Nat) (l:List ze) (cur:List zb),l.length<n->Al l (cur,[])=(Pf n l 0 16).map fun v=>cur++v.1
 |0,_,_,h=>by omega
 |n+1,[],cur,_=>by rw[Pf];simp only[Al,QG,ic,shutAll,Ua]
 |n+1,t::r,cur,c=>by
  rw[Ka]at c;rw[Rv,EP];unfold Qy;simp only[Bl];rw[Fa (by decide),Fa (show¬((0:Int)≠0/\t.kind=0)from fun h=>h.1 rfl)];by_cases a:zx t.kind=0
  ·rw[Fa (show¬zx t.kind≠0 from fun h=>h a),Ga a,Aa,DF n r _ (by omega)];cases Pf n r 0 16 with
   |none=>rfl
   |some v=>grind
  ·rw[Ga a,Fa a,Fa (by decide),Aa];rw[xy n r [] t cur [] 15 (by omega) a rfl];cases d:Pf n r (zx t.kind) 15 with
   |none=>rfl
   |some w=>
    have b:=(xu n r _ 15 w d).1;simp only[Aa];rw[DF n w.2 _ (by omega)];cases Pf n w.2 0 16 with
    |none=>rfl
    |some v=>grind
theorem wh: ∀(a b:List zb),tokL (a++b)=tokL a++tokL b
 |[],b=>by rw[tokL];rfl
 |v::a,b=>by rw[Ra,tokL,tokL,wh a b,La]
theorem Pz(v:zb):tokL [v]=tokV v:=by rw[tokL,tokL,Ua]
def Ei(s:PSt):Nat:=(tokL s.1).length+(s.2.map fun x=>1+(tokL x.2).length).sum
def Jw(s:PSt):Prop:= ∀x∈s.2,zx x.1.kind≠0
theorem iZ{s s':PSt}{t:ze}(h:Qy s t=some s')(c:Jw s):Jw s'/\Ei s'=Ei s+1:=by
 unfold Qy at h;obtain⟨g,f⟩:=s;split at h
 ·rename_i d;cases f with
  |nil=>cases d
  |cons x f=> obtain⟨o,e⟩:=x;cases h;have a:zx o.kind≠0:=c (o,e) (aa ..);refine⟨fun x b=>c x (Va _ b),?_⟩;simp only[Ei,Sk,wh,Pz,Ja,Gc,Mf,Rj,Ka,Fa a,Ja,Ic,Ob];omega
 split at h
 ·rename_i d a;split at h
  ·cases h
  ·rename_i i;cases h;refine⟨fun x b=> ?_,?_⟩
   ·rcases Ab.1 b with rfl|b
    ·exact a
    ·exact c x b
   ·simp only[Ei,Gc,Mf,tokL,Ob];omega
 ·rename_i d a;cases h;refine⟨c,?_⟩;have a:zx t.kind=0:=Vd a;simp only[Ei,wh,Pz,Ja,Rj,Ka,Ga a,Ob];omega
theorem BN: ∀(l:List ze) {s s':PSt},QG l s=some s'->Jw s->Jw s'/\Ei s'=Ei s+l.length
 |[],s,s',h,b=>by cases h;grind
 |t::l,s,s',h,b=>by
  rw[QG]at h;cases a:Qy s t with
  |none=>grind
  |some g=>
   rw[a,Aa]at h;obtain⟨c,f⟩:=iZ a b;obtain⟨e,d⟩:=BN l h c
   grind
theorem xO: ∀(st:List (ze×List zb)) (cur:List zb),(∀x∈st,zx x.1.kind≠0)->(tokL (shutAll cur st)).length=Ei (cur,st)+st.length
 |[],cur,_=>by simp[shutAll,Ei]
 |(o,a)::st,cur,h=>by have c:zx o.kind≠0:=h (o,a) (aa ..);rw[shutAll,xO st _ (fun x b=>h x (Va _ b))];simp only[Ei,wh,Pz,Ja,Rj,Ka,Fa c,Ja,Ic,Gc,Mf,Ka,Ob];omega
def bH(l:List ze)(c:Int)(left:Nat):Option (List zb×List ze):=Pf (l.length+1) l c left
def wtT:List ze->Nat
 |[]=>0
 |t::r=>1+t.text.length+t.unit.length+wtT r
theorem jy: ∀(n:Nat) (l:List ze) (c:Int) (left:Nat) (v:List zb×List ze),Pf n l c left=some v->szL v.1+wtT v.2<=wtT l
 |0,_,_,_,_,h=>by cases h
 |n+1,[],c,left,v,h=>by
  rw[Pf]at h;cases h;rw[szL];exact Xa _
 |n+1,t::r,c,left,v,h=>by
  rw[Rv]at h;rw[wtT];split at h
  ·cases h;rw[szL];simp only;omega
  split at h
  ·cases a:Pf n r c left with
   |none=>rw[a]at h;cases h
   |some w=> rw[a]at h;cases h;have:=jy n r c left w a;simp only[szL,szV];omega
  ·cases left with
   |zero=>cases h
   |succ m=>
    simp only at h;cases b:Pf n r (zx t.kind) m with
    |none=>rw[b]at h;cases h
    |some w=>
     rw[b,Aa]at h;cases a:Pf n w.2 c (m+1)with
     |none=>rw[a]at h;cases h
     |some d=> rw[a]at h;cases h;have e:=jy n w.2 c _ d a;have f:=jy n r _ m w b;simp only[szL,szV];omega
theorem EJ(l:List ze):(QG l ([],[])).map (fun s=>shutAll s.1 s.2)=(bH l 0 16).map Prod.fst:=DF _ l [] (Nat.lt_succ_self _)
theorem zB7{l:List ze}{s:PSt}(h:QG l ([],[])=some s):szL (shutAll s.1 s.2)<=wtT l:=by
 have a:=EJ l;rw[h,ic]at a;cases b:bH l 0 16 with
 |none=>rw[b]at a;cases a
 |some v=> rw[b,ic]at a;injection a with a;have:=jy _ _ _ _ v b;rw[a];omega
theorem zAs(l:List ze):szL (parS l).1<=wtT l:=by
 unfold parS;split
 ·rw[szL];exact ib _
 ·split
  ·rw[szL];exact ib _
  ·rename_i s a;split
   ·rw[szL];exact ib _
   ·exact zB7 a
theorem IA: ∀(n:Nat) (l:List ze) (c:Int) (left:Nat) (v:List zb×List ze),Pf n l c left=some v->shL v.1 c=true/\Qm v.1<=left/\(∀t∈v.2,t∈l)/\ ∀t∈tokL v.1,t∈l\/(t.text=[]/\t.unit=[])
 |0,_,_,_,_,h=>by cases h
 |n+1,[],c,left,v,h=>by
  rw[Pf]at h;cases h;exact⟨by rw[shL],by rw[Qm];grind,fun t a=>a,fun t a=>by rw[tokL]at a;cases a⟩
 |n+1,t::r,c,left,v,h=>by
  rw[Rv]at h;split at h
  ·cases h;exact⟨by rw[shL],by rw[Qm];grind,fun t a=>Va _ a,fun t a=>by rw[tokL]at a;cases a⟩
  rename_i A;have j:(c != 0&&t.kind==c)=false:=by
   cases y:(c != 0&&t.kind==c)with
   |false=>rfl
   |true=>grind
  split at h
  ·rename_i b;cases e:Pf n r c left with
   |none=>grind
   |some w=>
    rw[e]at h;cases h;obtain⟨g,p,f,q⟩:=IA n r c left w e;refine⟨?_,?_,fun t a=>Va _ (f t a),fun u d=> ?_⟩
    ·rw[shL,shV,g,j,b];rfl
    ·rw[Qm,Bh,Ga b];omega
    ·rw[tokL,tokV,Ga b]at d
     grind
  ·rename_i b;cases left with
   |zero=>cases h
   |succ m=>
    simp only at h;cases i:Pf n r (zx t.kind) m with
    |none=>grind
    |some w=>
     rw[i,Aa]at h;cases e:Pf n w.2 c (m+1)with
     |none=>grind
     |some k=>
      rw[e]at h;cases h;obtain⟨g,p,f,q⟩:=IA n r _ m w i;obtain⟨o,B,x,z⟩:=IA n w.2 c _ k e;have s:(zx t.kind==0)=false:=Ha.2 b;refine⟨?_,?_,fun u d=>Va _ (f u (x u d)),fun u d=> ?_⟩
      ·rw[shL,shV,g,o,j,s,Lb,Uc];rfl
      ·rw[Qm,Bh,Fa b];omega
      ·rw[tokL,tokV,Fa b,Ra,La]at d
       grind
theorem iX{l:List ze}(h:(parS l).2=0):errS (parS l).1=0/\ ∀t∈tokL (parS l).1,t∈l\/(t.text=[]/\t.unit=[]):=by
 unfold parS at h ⊢;split at h
 ·cases h
 rename_i k;rw[Fa k];split at h
 ·cases h
 rename_i s b;split at h
 ·cases h
 rename_i m;rw[Fa m];have a:=EJ l;rw[b,ic]at a;cases d:bH l 0 16 with
 |none=>grind
 |some v=>
  rw[d,ic]at a;injection a with a;obtain⟨p,n,o,i⟩:=IA _ _ _ _ _ d;obtain⟨e,j⟩:=BN l b (fun x g=>by cases g);have c:=xO s.2 s.1 e;have f:Ei (s.1,s.2)=l.length:=by rw[show(s.1,s.2)=s from rfl,j];simp[Ei,tokL]
  rw[f]at c;simp only[a]at c ⊢;refine⟨?_,i⟩;unfold errS
  grind
theorem XF(r:Str):(zq r).1.length+3*(zq r).2.length<=3*r.length+3:=by
 have h4:=Dv r;cases r with
 |nil=>exact Xa _
 |cons c t=>
  have h:(zq (c::t)).2.length<=t.length:=by
   show(if Qg c then(Sg (hexes 6 0 (c::t)).1,unsp (hexes 6 0 (c::t)).2)else([c],t)).2.length<=t.length;cases hc:Qg c with
   |true=>
    have e:hexes 6 0 (c::t)=hexes 5 (16*0+hexN c) t:=by rw[hexes,hc,Ga rfl]
    rw[Ga rfl,e];exact((cK _).trans (Ov 5 _ t)).length_le
   |false=>exact Xa _
  rw[Ka];omega
theorem Iq(l:Str):(zm l).1.length+3*(zm l).2.length<=3*l.length:=by
 match l with
 |[]=>rw[qH];exact Xa _
 |c::r=>
  rw[zN];split
  ·have:=Iq r;show(c::(zm r).1).length+3*(zm r).2.length<=_;rw[Ka,Ka];omega
  ·split
   ·have h1:=z8 r;have h2:=XF r;have:=Iq (zq r).2;show((zq r).1++(zm (zq r).2).1).length+3*(zm (zq r).2).2.length<=_;rw[Ja,Ka];omega
   ·show 0+3*(c::r).length<=_;omega
termination_by l.length
decreasing_by
 all_goals first|(have:=z8 r;simp only[Ka];omega)|(simp only[Ka];omega)
theorem Hw{u:Str}{o:Option Str}{t:Str}{k:Nat}(h:o.map (u++ ·)=some t)(hk: ∀t',o=some t'->t'.length<=k):t.length<=u.length+k:=by
 cases o with
 |none=>cases h
 |some t'=> injection h with h;rw[<-h,Ja];have:=hk t' rfl;omega
theorem ky{m:UInt8}{q t:Str}(h:(zZ m q).1=some t):t.length+3*(zZ m q).2.length<=3*q.length:=by
 match q with
 |[]=>rw[Uo]at h ⊢;cases h;exact Xa _
 |c::r=>
  rw[qF]at h ⊢;rw[Ka];split
  ·rename_i h1;rw[Ga h1]at h;cases h;show 0+3*r.length<=_;omega
  ·rename_i h1;rw[Fa h1]at h;split
   ·rename_i h2;rw[Ga h2]at h;cases h
   ·rename_i h2;rw[Fa h2]at h;split
    ·rename_i h3;rw[Ga h3]at h;split
     ·rename_i h4;rw[Ga h4]at h;cases h;show 0+3*0<=_;omega
     ·rename_i h4;rw[Fa h4]at h;split
      ·rename_i h5;rw[Ga h5]at h;have:=ky (q:=r.drop 1) h;rw[Ub]at this;omega
      ·rename_i h5;rw[Fa h5]at h;have h6:=z8 r;have h7:=XF r;have:=Hw (k:=3*(zq r).2.length - 3*(zZ m (zq r).2).2.length) h (fun t' ht'=>by have:=ky ht';omega);have h8:=(Dr m (zq r).2).length_le;show t.length+3*(zZ m (zq r).2).2.length<=_;omega
    ·rename_i h3;rw[Fa h3]at h;have:=Hw (u:=[c]) (k:=3*r.length - 3*(zZ m r).2.length) h (fun t' ht'=>by have:=ky ht';omega);have h8:=(Dr m r).length_le;rw[Ic]at this;show t.length+3*(zZ m r).2.length<=_;omega
termination_by q.length
decreasing_by
 all_goals first|(have:=z8 r;simp only[Ka];omega)|(simp only[Ka,Ub];omega)
theorem dH{q t:Str}(h:(urlS q).1=some t):t.length+3*(urlS q).2.length<=3*q.length:=by
 match q with
 |[]=>rw[Nn]at h ⊢;cases h;exact Xa _
 |c::r=>
  rw[Dk]at h ⊢;rw[Ka];split
  ·rename_i h1;rw[Ga h1]at h;cases h;show 0+3*r.length<=_;omega
  ·rename_i h1;rw[Fa h1]at h;split
   ·rename_i h2;rw[Ga h2]at h;have hp:=(Yl spB r).length_le;split
    ·rename_i h3;rw[h3]at h;cases h;show 0+3*0<=_;omega
    ·rename_i d r' h3;rw[h3]at h hp;rw[Ka]at hp;simp only at h;split
     ·rename_i h4;rw[Ga h4]at h;cases h;show 0+3*r'.length<=_;omega
     ·rename_i h4;rw[Fa h4]at h;cases h
   ·rename_i h2;rw[Fa h2]at h;split
    ·rename_i h3;rw[Ga h3]at h;cases h
    ·rename_i h3;rw[Fa h3]at h;split
     ·rename_i h5;rw[Ga h5]at h;have h6:=z8 r;have h7:=XF r;have:=Hw (k:=3*(zq r).2.length - 3*(urlS (zq r).2).2.length) h (fun t' ht'=>by have:=dH ht';omega);have h8:=(Hq (zq r).2).length_le;show t.length+3*(urlS (zq r).2).2.length<=_;omega
     ·rename_i h5;rw[Fa h5]at h;have:=Hw (u:=[c]) (k:=3*r.length - 3*(urlS r).2.length) h (fun t' ht'=>by have:=dH ht';omega);have h8:=(Hq r).length_le;rw[Ic]at this;show t.length+3*(urlS r).2.length<=_;omega
termination_by q.length
decreasing_by
 all_goals first|(have:=z8 r;simp only[Ka];omega)|(simp only[Ka];omega)
theorem zBS(c:UInt8)(r:Str):(Zk (c::r)).1.text.length+(Zk (c::r)).1.unit.length+3*(Zk (c::r)).2.length<=3*(r.length+1):=by
 have hs:=(ui c r).length_le;rw[Jo]at hs ⊢;split
 ·rename_i h1;rw[Ga h1]at hs;simp only[Mg,Ob]at hs ⊢;omega
 rename_i h1;rw[Fa h1]at hs;split
 ·rename_i h2;rw[Ga h2]at hs;simp only at hs ⊢;cases ho:(zZ c r).1 with
  |none=>show 0+0+_<=_;omega
  |some t=>have:=ky ho;show t.length+0+_<=_;omega
 rename_i h2;rw[Fa h2]at hs;split
 ·have:=Iq r;simp only[Ob];omega
 rename_i h3;rw[Fa h3]at hs;split
 ·rename_i h4;have h5:=(aP h4).length_le;rw[Ga h4]at hs;unfold zG at hs ⊢;split
  ·have:=Iq (zK (c::r)).1;simp only[Ob];omega
  ·rename_i h6;rw[Fa h6]at hs;split
   ·rename_i h7;rw[Ga h7]at hs;simp only[Ob]at hs ⊢;omega
   ·rename_i h7;rw[Fa h7]at hs;simp only[Ob]at hs ⊢;omega
 rename_i h4;rw[Fa h4]at hs;split
 ·rename_i h5;rw[Ga h5]at hs;simp only[Mg,Ob]at hs ⊢;omega
 rename_i h5;rw[Fa h5]at hs;split
 ·rename_i h6;rw[Ga h6]at hs;simp only[Mg,Ob]at hs ⊢;omega
 rename_i h6;rw[Fa h6]at hs;split
 ·have:=Iq r;simp only[Ob];omega
 rename_i h7;rw[Fa h7]at hs;split
 ·have hn:=Iq (c::r);rw[Ka]at hn;unfold qE;split
  ·split
   ·have h8:=(Yl spB ((zm (c::r)).2.drop 1)).length_le;have h9:=(Hq (past spB ((zm (c::r)).2.drop 1))).length_le;rw[Ub]at h8;simp only;cases ho:(urlS (past spB ((zm (c::r)).2.drop 1))).1 with
    |none=>show 0+0+_<=_;omega
    |some t=>have:=dH ho;show t.length+0+_<=_;omega
   ·simp only[Ob,Ub];omega
  ·simp only[Ob];omega
 split
 ·simp only[Ob,Ic];omega
 ·simp only[Mg,Ob];omega
theorem fI(q:Str):wtT (Ze q)<=5*q.length:=by
 cases hc:cmtS q with
 |nil=>rw[Ql hc,wtT];exact ib _
 |cons c r=>
  have h2:=(uj q).length_le;have h3:=(ui c r).length_le;rw[hc,Ka]at h2;rw[qj hc,wtT];have h4:(Zk (c::r)).2.length<q.length:=by omega
  have:=fI (Zk (c::r)).2;have:=zBS c r;omega
termination_by q.length
decreasing_by all_goals omega
def topc:List (ze×List zb)->Int
 |[]=>0
 |(o,_)::_=>zx o.kind
theorem vV{st:List (ze×List zb)}{t:ze}(b: ∀x∈st,zx x.1.kind≠0)(h:(topc st != 0&&t.kind==topc st)=false): ¬Bl st t=true:=by
 cases st with
 |nil=>exact Bool.false_ne_true
 |cons x st=>
  obtain⟨o,a⟩:=x;have c:(zx o.kind != 0)=true:=Me.2 (b (o,a) (aa ..));show¬(t.kind==zx o.kind)=true;have d:(zx o.kind != 0&&t.kind==zx o.kind)=false:=h
  grind
mutual
/-- The tokens of values of their shape are read as these values. -/
theorem zCK: ∀(v:zb) (cur:List zb) (st:List (ze×List zb)) (rest:List ze),(∀x∈st,zx x.1.kind≠0)->shV v (topc st)=true->Bh v+st.length<=16->QG (tokV v++rest) (cur,st)=QG rest (cur++[v],st)
 |⟨t,l⟩,cur,st,rest,d,a,c=>by
  rw[shV,Yc,Mc,Mc]at a;obtain⟨⟨g,h2⟩,f⟩:=a;have j:=vV d h2;rw[tokV];rw[Bh]at c;by_cases b:zx t.kind=0
  ·have h:l=[]:=by rw[b,show((0:Int)==0)=true from rfl,Cb,decide_eq_false_iff_not]at g;exact ae.1 (by omega)
   subst h;rw[Ga b,Oc,QG];unfold Qy
   grind
  ·rw[Fa b]at c ⊢;have i:(zx t.kind != 0)=true:=Me.2 b;rw[i,Cb,Bool.not_eq_false']at f;have e: ∀x∈(t,cur)::st,zx x.1.kind≠0:=fun x k=>by
    grind
   rw[Ra,La,QG];unfold Qy;rw[Fa j,Ga b,Fa (show¬st.length=16 by omega),Aa,IB l [] ((t,cur)::st) _ e f (by grind),Nb,Oc,QG];unfold Qy;rw[Ga (show Bl ((t,cur)::st) ⟨zx t.kind,[],0,[],false⟩=true from beq_self_eq_true _),Aa];rfl
theorem IB: ∀(v:List zb) (cur:List zb) (st:List (ze×List zb)) (rest:List ze),(∀x∈st,zx x.1.kind≠0)->shL v (topc st)=true->Qm v+st.length<=16->QG (tokL v++rest) (cur,st)=QG rest (cur++v,st)
 |[],cur,st,rest,_,_,_=>by rw[tokL,Nb,Ua]
 |v::r,cur,st,rest,d,a,c=>by rw[shL,Da]at a;rw[Qm]at c;rw[tokL,La,zCK v cur st _ d a.1 (by omega),IB r _ st _ d a.2 (by omega),La];rfl
end
theorem SE{v:List zb}(h:errS v=0):Qm v<=16/\(tokL v).length<=1500/\shL v 0=true:=by
 unfold errS at h;split at h
 ·cases h
 split at h
 ·cases h
 split at h
 ·grind
 ·cases h
theorem jX{v:List zb}(h:errS v=0):parS (tokL v)=(v,0):=by obtain⟨b,e,d⟩:=SE h;have a:=IB v [] [] [] (fun x c=>by cases c) d (by simpa using b);rw[Ua,Nb,QG]at a;unfold parS;rw[Fa (by omega),a];simp only[Ob,xc];rw[Fa (by omega),shutAll]
theorem I5{α:Type}(l:List α):((l.length:Int)==0)=l.isEmpty:=by
 cases l with
 |nil=>rfl
 |cons a l=>exact Ha.2 (by simp only[Ka];omega)
theorem Cv(v:zb):(⟨v.token,v.list⟩:zb)=v:=by cases v;rfl
def Tk(x:Str):Bool:= !(x==[])&&(decide (x.length<=64)&&(Zv x&&(bif List.isPrefixOf [45,45] x then !(x==[45,45])else lowS x==x)))
theorem K7{x:Str}(h:x.length<=big):Mo x=some (Tk x):=by
 have e:decide ((x.length:Int)>64)= !decide (x.length<=64):=NI _ 64;have e1:decide (Lib.indexByte x (0:Int).toNat.toUInt8>=0)= !Zv x:=nD x;have ec:=nY x (lowS x);unfold Mo Tk;simp only[Xr,QK,zg,Aa,Qc,xz h,e,ec];cases x==[]<;>cases decide (x.length<=64)<;>try rfl
 simp only[Ea,Ca,Lb,ja,Cb,Ke,e1];cases Zv x<;>cases List.isPrefixOf [45,45] x<;>rfl
def clK(v:zb):Bool:=v.token.kind==20||(v.token.kind==22||v.token.kind==24)
mutual
def clV:zb->Bool
 |⟨t,l⟩=>clK ⟨t,l⟩||clL l
def clL:List zb->Bool
 |[]=>false
 |v::r=>clV v||clL r
end
theorem zBo(v:zb):clV v=(clK v||clL v.list):=by obtain⟨t,l⟩:=v;rw[clV]
theorem WT(l:List zb):clL l=l.any clV:=by
 induction l with
 |nil=>rw[clL];rfl
 |cons v l ih=>rw[clL,ih];rfl
theorem L9{l:List zb}(h:szL l<=big):zk l=some (clL l):=by
 refine tq (fun l=>szL l) (fun l=>szL l<=big) (fun l=>clL l) (fun S l hl hS=> ?_) h;have hlen:=Mh l;unfold QL Zm ZL;have:=AL (mK (step:=fun(s1:Int)=>
   bif decide (s1<(l.length:Int))then
    zg (geti l s1) fun y2=>
    zg (qD S (⟨y2.token,y2.list⟩:zb)) fun y3=>
    bif y3 then some (LO.ret s1)else some (LO.again (w64 (s1+1)))
   else some (LO.out ())) l clV (by omega) (fun i hi=> ?_) ?_) (JE _ _)
 ·rw[this,WT];rfl
 ·have hsz:=Tj (Jc hi);have hv2:=oh l[i];have hs:=hS l[i].list (by omega) (by omega);have:qD S l[i]=some (clV l[i]):=by unfold qD Zp;simp only[Cv,QK,zg,Aa,hs,zBo,clK];cases l[i].token.kind==20<;>cases l[i].token.kind==22<;>cases l[i].token.kind==24<;>rfl
  simp only[Qx hi,Ea,Z8 hi,zg,Aa,Cv,this]
 ·simp only[Wj,Ca]
def uk(l:List zb):Bool:=match l with
 |[]=>false
 |v::r=>isSp v||isSp ((v::r).getLast (by simp))
theorem VZ(t:List zb)(v:zb):uk (t++[v])=((match t with|[]=>isSp v|a::_=>isSp a)||isSp v):=by
 cases t with
 |nil=>rfl
 |cons a t=> show(isSp a||isSp ((a::(t++[v])).getLast _))=_;congr 2;have:(a::(t++[v]))=(a::t)++[v]:=rfl;simp only[this,List.getLast_append_of_ne_nil,List.getLast_singleton,ne_eq,reduceCtorEq,Xf]
theorem NZ{l:List zb}(h:l.length<=big)(g:Bool)(hg:(l.isEmpty&&g)=false)(k:Bool->Option Int):
  (zg (zA (decide ((l.length:Int)>0)&& !g) (geti l 0) (default:zb)) fun y7=>
   zg (zA (decide ((l.length:Int)>0)&& !g) (Zp ((⟨y7.token,y7.list⟩:zb),13)) (default:Bool)) fun y8=>
   zg (zA (!y8&&(decide ((l.length:Int)>0)&& !g)) (geti l (w64 ((l.length:Int) - 1))) (default:zb)) fun y9=>
   zg (zA (!y8&&(decide ((l.length:Int)>0)&& !g)) (Zp ((⟨y9.token,y9.list⟩:zb),13)) (default:Bool)) fun y10=>
   k (bif decide ((l.length:Int)>0)then bif y8 then true else y10 else false))=(if g=true/\l≠[]then(k (bif decide ((l.length:Int)>0)then bif (default:Bool)then true else(default:Bool)else false))else k (uk l)):=by
 cases l with
 |nil=> have:decide ((([]:List zb).length:Int)>0)=false:=rfl;simp only[this,Rb,Zt,zg,Aa,Uc,Ca,ne_eq,not_true_eq_false,and_false,Od,uk]
 |cons v r=>
  have e1:decide (((v::r).length:Int)>0)=true:=Ia (by simp only[Ka];omega);have e2:geti (v::r) 0=some v:=rfl;cases g with
  |true=>simp only[e1,Lb,Uc,Zt,zg,Aa,Ea,ne_eq,reduceCtorEq,Xf,and_self,Ce]
  |false=>
   simp only[e1,ja,Vb,zQ,zg,Aa,Ea,e2,Zp,false_and,Od,reduceCtorEq];have e3:w64 (((v::r).length:Int) - 1)=(r.length:Int):=by rw[Ka]at h ⊢;rw[w64,Z0 (by omega) (by unfold big at h;omega)];omega
   have e4:geti (v::r) (r.length:Int)=some ((v::r).getLast (by simp)):=by rw[Z8 (by simp),List.getLast_eq_getElem];simp
   rw[e3,e4];simp only[QK,Aa,uk,isSp];cases v.token.kind==13<;>rfl
def badV(v:zb):Bool:=v.token.kind==17||(v.token.kind==9&&v.token.text==[33])
def Bt(custom:Bool)(l:List zb):Bool:= !(l.any badV)&&(!(l.isEmpty&& !custom)&& !uk l)
def Q3(d:zI):Bool:=Tk d.name&&(errS d.value==0&&(gluS (tokL d.value)==0&&(!clL d.value&&Bt (List.isPrefixOf [45,45] d.name) d.value)))
mutual
theorem sU: ∀(v:zb) (t:ze),t∈tokV v->t.text.length<=szV v/\t.unit.length<=szV v
 |⟨t,l⟩,u,h=>by
  rw[tokV]at h;rw[szV];rcases Ab.1 h with rfl|h
  ·constructor<;>omega
  ·split at h
   ·cases h
   ·rcases Tc.1 h with h|h
    ·have:=Sz l u h;omega
    ·obtain rfl:=Td.1 h;exact⟨ib _,ib _⟩
theorem Sz: ∀(l:List zb) (t:ze),t∈tokL l->t.text.length<=szL l/\t.unit.length<=szL l
 |[],_,h=>by rw[tokL]at h;cases h
 |v::r,u,h=>by
  rw[tokL]at h;rw[szL];rcases Tc.1 h with h|h
  ·have:=sU v u h;omega
  ·have:=Sz r u h;omega
end
theorem dV{l:List zb}(h:szL l<=big):QM (tokL l)=some (gluS (tokL l)):=
 aQ fun t ht=>by have:=Sz l t ht;omega
theorem P6{l:List zb}(h:l.length<=big):Za l=some (l.any badV):=by
 unfold Za Zq;refine AL (mK l badV h (fun i hi=> ?_) ?_) (JE _ _)
 ·have:Yr l[i]=some (badV l[i]):=by unfold Yr Nk Zp badV;simp only[Cv,QK,zg,Aa];cases l[i].token.kind==17<;>cases l[i].token.kind==9<;>rfl
  simp only[Qx hi,Ea,Z8 hi,zg,Aa,Cv,this]
 ·simp only[Wj,Ca]
theorem MQ{d:zI}(hv:szL d.value<=big)(hn:d.name.length<=big):Mk d=some (bif Q3 d then 0 else 8):=by
 have hlen:=Mh d.value;unfold Mk Q3;rw[M6 hv];simp only[zg,Aa,K7 hn];cases Tk d.name with
 |false=>simp only[ja,Ea,Lb,Zt,Aa,Rb,Ca]
 |true=>
  by_cases he:errS d.value=0
  ·rw[Ga he];have he':(errS d.value==0)=true:=Fb.2 he;have this:((0:Int)==0)=true:=rfl;simp only[he',this,Lb,Ca,ja,zQ,dV hv,Aa,Cb,bne];cases hg:gluS (tokL d.value)==0 with
   |false=>simp only[ja,Ea,Lb,Zt,Aa,Rb,Ca]
   |true=>
    simp only[Lb,Ca,ja,zQ,L9 hv,Aa,Cb];cases clL d.value with
    |true=>rfl
    |false=>
     simp only[Ca,P6 (show d.value.length<=big by omega),Aa,Bt,ja,Cb];cases d.value.any badV with
     |true=>rfl
     |false=>
      simp only[Ca,Qc,QK,Aa,I5,ja,Cb];have hp:=NZ (l:=d.value) (by omega) (bif d.value.isEmpty then !(bif d.value.isEmpty then List.isPrefixOf [45,45] d.name else default)else false);cases hd:d.value with
      |nil=>
       cases List.isPrefixOf [45,45] d.name<;>rfl
      |cons v r=> have hp':=hp (by rw[hd];rfl) (fun b=>bif b then some 8 else some 0);rw[hd]at hp';simp only[List.isEmpty_cons,Ca,Sb,false_and,Od]at hp';simp only[List.isEmpty_cons,Ca,Rb,ja,Cb];refine Eq.trans hp' ?_;cases uk (v::r)<;>rfl
  ·rw[Fa he];have he':(errS d.value==0)=false:=Ha.2 he;simp only[he',bne,Lb,Ca,ja,Ea,Zt,Aa,Rb,Uc]
def Jg(l:List zb):Prop:= ∀t v,l=t++[v]->isSp v=false
def og(l:List zb):Prop:= ∀a t,l=a::t->isSp a=false
theorem Jg.suf{a b:List zb}(h:Jg (a++b)):Jg b:=fun t v e=>h (a++t) v (by rw[e,La])
theorem Jg.id{l:List zb}(h:Jg l):trimB l=l:=by
 rcases Q7 l with rfl|⟨t,v,rfl⟩
 ·rfl
 ·rw[Oo,h t v rfl];rfl
theorem jM(l:List zb):Jg (trimB l):=by
 obtain⟨r,_,_,h|⟨t,v,h,hv⟩⟩:=vO l
 ·intro t v e;rw[h]at e;simp at e
 ·intro t' v' e;rw[h]at e;have:=List.append_inj_right' e rfl;injection this with e1;rw[<-e1];exact hv
theorem og.pre{a b:List zb}(h:og (a++b)):og a:=fun x t e=>h x (t++b) (by rw[e];rfl)
theorem og.id{l:List zb}(h:og l):l.dropWhile isSp=l:=by
 cases l with
 |nil=>rfl
 |cons a t=>rw[Xd,h a t rfl];rfl
theorem wT(l:List zb):og (l.dropWhile isSp):=by obtain⟨a,_,_,h⟩:=pF l;exact fun x b e=>h x b e
theorem UI(l:List zb): ∃a,l=a++l.dropWhile isSp:=by obtain⟨a,h,_⟩:=pF l;exact⟨a,h⟩
theorem iM(l:List zb): ∃r,l=trimB l++r:=by obtain⟨r,h,_⟩:=vO l;exact⟨r,h⟩
theorem dK{l:List zb}(h1:og l)(h2:Jg l):trimS l=l:=by unfold trimS;rw[h1.id,h2.id]
theorem left_eq{l:List zb}:Xn l=some (l.dropWhile isSp):=by
 unfold Xn Zp;refine(QW (r:= .out (l.dropWhile isSp)) (ZV (fun s=>s.dropWhile isSp=l.dropWhile isSp) (fun s=>s.length) _ (fun s hs=> ?_) rfl)).trans ?_
 ·cases s with
  |nil=>exact .inr (.inl ⟨[],by simp,by rw[<-hs];rfl⟩)
  |cons v t=>
   have h1:decide (((v::t).length:Int)>0)=true:=by rw[lC];simp
   have h2:geti (v::t) 0=some v:=rfl;have h3:decide ((1:Int)<=((v::t).length:Int))=true:=by simp;omega
   rw[Xd]at hs;cases hv:isSp v with
   |true=> rw[hv]at hs;unfold isSp at hv;refine .inl ⟨t,?_,by simpa using hs,by simp⟩;simp only[h1,h2,h3,zQ,zg,Aa,hv,Ea,zU];rfl
   |false=> rw[hv]at hs;unfold isSp at hv;refine .inr (.inl ⟨v::t,?_,by rw[<-hs];rfl⟩);simp only[h1,h2,zQ,zg,Aa,hv,Ea,Ca]
 ·rw[zlq]
theorem right_eq{d:List zb}(hd:szL d<=big):Kk d=some (trimB d):=by
 unfold Kk Zp;refine(QW (r:= .out (trimB d)) (ZV (fun s=>trimB s=trimB d/\szL s<=big) (fun s=>s.length) _ (fun s hs=> ?_) ⟨rfl,hd⟩)).trans ?_
 ·rcases Q7 s with rfl|⟨t,v,rfl⟩
  ·exact .inr (.inl ⟨[],by simp,by rw[<-hs.1];rfl⟩)
  ·have hlen:=Mh (t++[v]);have hl2:(t++[v]).length=t.length+1:=by simp
   have hb:=hs.2;unfold big at hb;have h1:decide (((t++[v]).length:Int)>0)=true:=by rw[lC];simp
   have h4:w64 (((t++[v]).length:Int) - 1)=(t.length:Int):=by rw[w64,Z0 (by omega) (by omega)];omega
   have h2:geti (t++[v]) (t.length:Int)=some v:=by rw[Z8 (by omega)];simp
   have h3:(decide ((0:Int)<=(t.length:Int))&&decide ((t.length:Int)<=((t++[v]).length:Int)))=true:=by simp;omega
   have hs1:=hs.1;rw[Oo]at hs1;cases hv:isSp v with
   |true=> rw[Ga hv]at hs1;unfold isSp at hv;refine .inl ⟨t,?_,⟨hs1,Yb (Sj (List.sublist_append_left t [v])) hs.2⟩,by simp⟩;simp only[h1,h4,h2,h3,zQ,zg,Aa,hv,Ea,zU,Bb];simp
   |false=> rw[Fa (by rw[hv];simp)]at hs1;unfold isSp at hv;refine .inr (.inl ⟨t++[v],?_,by rw[<-hs1]⟩);simp only[h1,h4,h2,zQ,zg,Aa,hv,Ea,Ca]
 ·rw[zlq]
def Lm(v:zb):Bool:=v.token.kind==9&&v.token.text==[33]
theorem gT(v:zb):Nk v=some (Lm v):=by unfold Nk Zp Lm;simp only[zg,Aa];cases v.token.kind==9<;>rfl
def impW:Str:=[105,109,112,111,114,116,97,110,116]
def endV(l:List zb):Option (List zb×zb):=match l.reverse with
 |[]=>none
 |v::t=>some (t.reverse,v)
theorem Ev(t:List zb)(v:zb):endV (t++[v])=some (t,v):=by unfold endV;rw[List.reverse_append];simp
def Hg(v:List zb):List zb×Bool:=match endV v with
 |none=>(v,false)
 |some (t,z)=>bif !t.isEmpty&&(z.token.kind==1&&lowS z.token.text==impW)then
   (match endV (trimB t)with
   |none=>(v,false)
   |some (u,b)=>bif Lm b then(trimB u,true)else(v,false))
  else(v,false)
theorem tJ{t:List zb}{v:zb}(h:szL (t++[v])<=big):w64 (((t++[v]).length:Int) - 1)=(t.length:Int):=by
 have hlen:=Mh (t++[v]);have hl2:(t++[v]).length=t.length+1:=by simp
 unfold big at h;rw[w64,Z0 (by omega) (by omega)];omega
theorem jJ(t:List zb)(v:zb):geti (t++[v]) (t.length:Int)=some v:=by rw[Z8 (by simp)];simp
theorem oJ(t:List zb)(v:zb):(decide ((0:Int)<=(t.length:Int))&&decide ((t.length:Int)<=((t++[v]).length:Int)))=true:=by simp;omega
theorem wI(t:List zb)(v:zb):List.take t.length (t++[v])=t:=by simp
theorem rJ:lowS [105,109,112,111,114,116,97,110,116]=impW:=by decide+kernel
theorem WJ{t:List zb}{v:zb}(h:szL (t++[v])<=big):szL t<=big/\v.token.text.length<=big:=by rw[EG,szL,oh]at h;omega
theorem YL(t:List zb):decide ((t.length:Int)>0)= !t.isEmpty:=by
 cases t with
 |nil=>rfl
 |cons a t=>exact Ia (by simp only[Ka];omega)
abbrev MK:=LX (List zb×(Str×Bool)×(Str×Bool)) (zI×Bool)
theorem UY{v:List zb}{nm:Str}(hv:szL v<=big):(
  zg (zA (decide (w64 ((v.length:Int) - 1)>0)) (geti v (w64 ((v.length:Int) - 1))) (default:zb)) fun y13=>
  zg (zA (decide (w64 ((v.length:Int) - 1)>0)) (Zp ((⟨y13.token,y13.list⟩:zb),1)) (default:Bool)) fun y14=>
  zg (zA (bif decide (w64 ((v.length:Int) - 1)>0)then y14 else false) (geti v (w64 ((v.length:Int) - 1))) (default:zb)) fun y15=>
  zg (zA (bif decide (w64 ((v.length:Int) - 1)>0)then y14 else false) (qp (y15.token.text,[105,109,112,111,114,116,97,110,116])) (default:Bool)) fun y16=>
  bif bif bif decide (w64 ((v.length:Int) - 1)>0)then y14 else false then y16 else false then
   need (decide (0<=w64 ((v.length:Int) - 1))&&decide (w64 ((v.length:Int) - 1)<=(v.length:Int)))<|
   zg (Kk (List.take (w64 ((v.length:Int) - 1)).toNat v)) fun y17=>
   zg (zA (decide ((y17.length:Int)>0)) (geti y17 (w64 ((y17.length:Int) - 1))) (default:zb)) fun y18=>
   zg (zA (decide ((y17.length:Int)>0)) (Nk (⟨y18.token,y18.list⟩:zb)) (default:Bool)) fun y19=>
   bif bif decide ((y17.length:Int)>0)then y19 else false then
    need (decide (0<=w64 ((y17.length:Int) - 1))&&decide (w64 ((y17.length:Int) - 1)<=(y17.length:Int)))<|
    zg (Kk (List.take (w64 ((y17.length:Int) - 1)).toNat y17)) fun y20=>
    some (LX.out (y20,(([]:Str),false),(nm,true)))
   else
    some (LX.out (v,(([]:Str),false),(nm,false)))
  else
   some (LX.out (v,(([]:Str),false),(nm,false))))=(some (LX.out ((Hg v).1,(([]:Str),false),(nm,(Hg v).2))):Option MK):=by
 rcases Q7 v with rfl|⟨t,z,rfl⟩
 ·rfl
 ·obtain⟨ht,hz⟩:=WJ hv;unfold Hg;rw[Ev];simp only[tJ hv,YL];cases he:t.isEmpty with
  |true=>simp only[Lb,Zt,zg,Aa,Ca,Rb]
  |false=>
   simp only[ja,zQ,jJ,Zp,zg,Aa,Ea,Cb];cases hk:z.token.kind==1 with
   |false=>simp only[Zt,Aa,Ca,Rb]
   |true=>
    simp only[zQ,Aa,yz hz (show([105,109,112,111,114,116,97,110,116]:Str).length<=big by decide),rJ,Ea,Cb];cases ha:lowS z.token.text==impW with
    |false=>simp only[Ca]
    |true=>
     simp only[Ea,oJ,zU,Bb,wI,right_eq ht,Aa,YL];have hw:szL (trimB t)<=big:=Yb (Sj (bn t)) ht;obtain⟨w,hwd⟩: ∃w,trimB t=w:=⟨_,rfl⟩;rw[hwd]at hw;simp only[hwd];rcases Q7 w with rfl|⟨u,b,rfl⟩
     ·rfl
     ·have hne:(u++[b]).isEmpty=false:=by cases u<;>rfl
      rw[Ev];simp only[hne,ja,zQ,tJ hw,jJ,Aa,Cv,gT,Ea];cases hb:Lm b with
      |false=>simp only[Ca]
      |true=>simp only[Ea,oJ,zU,Bb,wI,right_eq (WJ hw).1,Aa]
def nmD(s:Str):Str:=bif List.isPrefixOf [45,45] s then s else lowS s
def noD:zI×Bool:=(⟨[],[],false⟩,false)
def oneS(x:List zb):zI×Bool:=match trimS x with
 |[]=>noD
 |n::r=>bif n.token.kind==1 then
   (match r.dropWhile isSp with
   |[]=>noD
   |c::q=>bif c.token.kind==16 then
     (bif Q3 ⟨nmD n.token.text,(Hg (q.dropWhile isSp)).1,(Hg (q.dropWhile isSp)).2⟩then(⟨nmD n.token.text,(Hg (q.dropWhile isSp)).1,(Hg (q.dropWhile isSp)).2⟩,true)else noD)
    else noD)
  else noD
theorem wz{v:List zb}{t:List zb}{z:zb}(h:endV v=some (t,z)):v=t++[z]:=by
 rcases Q7 v with rfl|⟨t',z',rfl⟩
 ·cases h
 ·rw[Ev]at h;cases h;rfl
theorem XU{v:List zb}(h1:og v)(h2:Jg v):og (Hg v).1/\Jg (Hg v).1/\(Hg v).1.Sublist v:=by
 unfold Hg;split
 ·exact⟨h1,h2,List.Sublist.refl _⟩
 ·rename_i t z he;have hv:=wz he;cases !t.isEmpty&&(z.token.kind==1&&lowS z.token.text==impW)with
  |false=>exact⟨h1,h2,List.Sublist.refl _⟩
  |true=>
   rw[Ea];split
   ·exact⟨h1,h2,List.Sublist.refl _⟩
   ·rename_i u b hb;have hw:=wz hb;cases Lm b with
    |false=>exact⟨h1,h2,List.Sublist.refl _⟩
    |true=>
     rw[Ea];have hht:og t:=by rw[hv]at h1;exact h1.pre
     have hhw:og (trimB t):=by obtain⟨r,hr⟩:=iM t;rw[hr]at hht;exact hht.pre
     have hhu:og u:=by rw[hw]at hhw;exact hhw.pre
     refine⟨?_,jM u,?_⟩
     ·obtain⟨r,hr⟩:=iM u;rw[hr]at hhu;exact hhu.pre
     ·refine(bn u).trans ((List.sublist_append_left u [b]).trans ?_);rw[<-hw];refine(bn t).trans ?_;rw[hv];exact List.sublist_append_left t [z]
theorem aU(s:Str):(lowS s).length=s.length:=by unfold lowS;simp
theorem zBV(s:Str):(nmD s).length=s.length:=by
 unfold nmD;cases List.isPrefixOf [45,45] s
 ·exact aU s
 ·rfl
theorem oK(n:zb)(r:List zb):(((n::r).length:Int)==0)=false:=Ha.2 (by simp only[Ka];omega)
theorem DI(n:zb)(r:List zb):decide ((1:Int)<=((n::r).length:Int))=true:=Ia (by simp only[Ka];omega)
theorem wK(n:zb)(r:List zb):geti (n::r) 0=some n:=rfl
theorem U0{x:List zb}(h:szL x<=big){n:zb}{r:List zb}(hy:trimS x=n::r):n.token.text.length<=big/\szL r<=big/\Jg r/\
  ∀{c:zb} {q:List zb},r.dropWhile isSp=c::q->szL (q.dropWhile isSp)<=big/\og (q.dropWhile isSp)/\Jg (q.dropWhile isSp):=by
 have hsz:=pU x;have he:Jg (trimS x):=jM _;rw[hy]at hsz he;rw[szL,oh]at hsz;have her:Jg r:=he.suf (a:=[n]);refine⟨by omega,by omega,her,fun {c q} hq=> ?_⟩;obtain⟨a,ha⟩:=UI r;rw[hq]at ha;obtain⟨b,hb⟩:=UI q;refine⟨?_,wT q,?_⟩
 ·have h1:=Sj (Af isSp (l:=q));rw[ha,EG,szL]at hsz;omega
 ·rw[ha,hb]at her;exact Jg.suf (a:=a++c::b) (by rw[La];exact her)
theorem R4{x:List zb}(h:szL x<=big):ku x=some (oneS x):=by
 have hdw:szL (x.dropWhile isSp)<=big:=Yb (Sj (Af _)) h;unfold ku oneS;simp only[left_eq,right_eq hdw,zg,Aa,show trimB (x.dropWhile isSp)=trimS x from rfl];cases hy:trimS x with
 |nil=>rfl
 |cons n r=>
  obtain⟨hn,hr,_,hp⟩:=U0 h hy;simp only[oK,ja,zQ,wK,Aa,Zp,Ca];cases hk:n.token.kind==1 with
  |false=>simp only[ja,Ea,Ca];rfl
  |true=>
   simp only[Lb,Ca,Ea];have hj:((strings_HasPrefix (n.token.text,[45,45])).bind fun y6=>bif !y6 then(qa n.token.text).bind fun y7=>some (LX.out (n::r,(([]:Str),false),(y7,false)))else some (LX.out (n::r,([],false),(n.token.text,false))))=(some (LX.out (n::r,([],false),(nmD n.token.text,false))):Option MK):=by rw[Qc,Aa,xz hn];unfold nmD;cases List.isPrefixOf [45,45] n.token.text<;>rfl
   rw[hj,zh];simp only[DI,zU,show List.drop 1 (n::r)=r from rfl];cases hq:r.dropWhile isSp with
   |nil=>rfl
   |cons c q=>
    obtain⟨hv,hh,he⟩:=hp hq;simp only[oK,ja,zQ,wK,Aa,Ca];cases hc:c.token.kind==16 with
    |false=>simp only[ja,Ea,Ca];rfl
    |true=>
     simp only[Lb,Ca,Ea,DI,zU,show List.drop 1 (c::q)=q from rfl];obtain⟨v,hvd⟩: ∃v,q.dropWhile isSp=v:=⟨_,rfl⟩;rw[hvd]at hv hh he;simp only[hvd];have hm:=UY (nm:=nmD n.token.text) hv;simp only[zg,Zp]at hm;rw[hm,zh];obtain⟨h1,h2,h3⟩:=XU hh he;obtain⟨w,hw⟩: ∃w,Hg v=w:=⟨_,rfl⟩;rw[hw]at h1 h2 h3;simp only[hw];have hws:szL w.1<=big:=Yb (Sj h3) hv;rw[RY hws,Aa];by_cases he0:errS w.1=0
     ·rw[Ga he0,dK h1 h2];simp only[show((0:Int) != 0)=false from rfl,ja,zQ,Ca];rw[MQ (d:=⟨nmD n.token.text,w.1,w.2⟩) hws (by rw[zBV];exact hn),Aa];cases Q3 ⟨nmD n.token.text,w.1,w.2⟩<;>rfl
     ·have he1:(errS w.1 != 0)=true:=Me.2 he0;have he2:Q3 ⟨nmD n.token.text,w.1,w.2⟩=false:=by unfold Q3;simp only[show(errS w.1==0)=false from Ha.2 he0,Rb,Uc]
      rw[Fa he0,he2];simp only[he1,Lb,Zt,Aa,Ea,Ca];rfl
def Kg(a:List zI)(p:List zb):List zI:=bif (oneS p).2&&decide (a.length<32)then a++[(oneS p).1]else a
def Xh(ps:List (List zb)):List zI:=ps.foldl Kg []
theorem EW{a:List zI}{p:List zb}(h:a.length<=32):(Kg a p).length<=32:=by
 unfold Kg;cases hb:(oneS p).2&&decide (a.length<32)with
 |false=>exact h
 |true=> rw[Da,Eb]at hb;rw[Ea,Ja,Ic];omega
theorem NY{ps:List (List zb)}{i:Nat}(h:i<ps.length):Xh (ps.take (i+1))=Kg (Xh (ps.take i)) ps[i]:=by unfold Xh;rw[Dc h,af];rfl
theorem xY(ps:List (List zb)):(Xh ps).length<=32:=by
 unfold Xh;have key: ∀(ps:List (List zb)) (a:List zI),a.length<=32->(ps.foldl Kg a).length<=32:=by
  intro ps
  induction ps with
  |nil=>intro a h;exact h
  |cons p ps ih=>intro a h;exact ih _ (EW h)
 exact key ps [] (ib _)
theorem gX{x:List zb}(h:szL x<big):(Dg 17 x).length<=big/\ ∀p∈Dg 17 x,szL p<=big:=by have h1:=uW 17 x;have h2:=YJ (Dg 17 x);exact⟨by omega,fun p hp=>by have:=XJ hp;omega⟩
theorem ap48{n:Nat}(h:n<=32):zF n 1 48=true:=Ai (by omega)
theorem OT{x:List zb}(h:szL x<big):Vu x=some (if errS x=0 then(Xh (Dg 17 x),0)else([],errS x)):=by
 unfold Vu;rw[oZ (k:=17) (by omega)];simp only[zg,Aa];by_cases he:errS x=0
 ·rw[Ga he,Fa (by omega),Ga he];obtain⟨hl,hp⟩:=gX h;simp only[show((0:Int) != 0)=false from rfl,Ca];generalize Dg 17 x=ps at*;refine mq (fun z=> ∃i:Nat,z=((i:Int),Xh (ps.take i))/\i<=ps.length) (fun z=>ps.length - z.1.toNat) _ ?_ ⟨0,rfl,ib _⟩;rintro _ ⟨i,rfl,hi⟩;rcases Gd i ps.length with hh|hh
  ·refine .inl ⟨_,?_,⟨i+1,rfl,hh⟩,by simp only[Bb];omega⟩;have hq:=xY (ps.take i);rw[NY hh];simp only[Qx hh,Ea,Z8 hh,Aa,R4 (hp _ (Jc hh))];obtain⟨a,ha⟩: ∃a,Xh (ps.take i)=a:=⟨_,rfl⟩;rw[ha]at hq ⊢;unfold Kg;have hd:decide ((a.length:Int)<32)=decide (a.length<32):=by
    by_cases q:a.length<32
    ·rw[Ia q,Ia (by omega)]
    ·rw[Ya q,Ya (by omega)]
   rw[hd,zB (ap48 hq)];have hw:w64 ((i:Int)+1)=((i+1:Nat):Int):=qB hh hl;cases (oneS ps[i]).2<;>cases decide (a.length<32)<;>simp only[Ea,Ca,zh,hw,Cb,Rb]
  ·have:i=ps.length:=by omega
   subst this;refine .inr (.inl ⟨Xh ps,?_,rfl⟩);simp only[Wj,Ca,Ff]
 ·rw[Fa he,Fa he];simp only[Me.2 he,Ea]
def jo(s:Str):List zI×Int:=
 if(Qq s).2=0 then(if(parS (Qq s).1).2=0 then(Xh (Dg 17 (parS (Qq s).1).1),0)else([],(parS (Qq s).1).2))else([],(Qq s).2)
def szD(l:List zI):Prop:=l.length<=big/\ ∀d∈l,szL d.value<=big
theorem U1{d:zI}(h:szL d.value<=big):Vv (d,d)=some true:=by unfold Vv;simp only[beq_self_eq_true,Ea,zQ,KW h,zg,Aa]
theorem size_le{l:List zb}{m:Nat}(h:szL l<=big)(hm:m<=1000): ∃r:Int,qJ (l,(m:Int))=some r/\0<=r/\r<=szL l/\(r<=m->r=szL l):=by
 have: ∃r,qJ (l,(m:Int))=some r/\(0<=r/\r<=(szL l:Int)/\(r<=(m:Int)->r=(szL l:Int))):=by
  refine MW M9 (fun x=>szL x.1) (fun x=>szL x.1<=big/\0<=x.2/\x.2<=1000) (fun x r=>0<=r/\r<=(szL x.1:Int)/\(r<=x.2->r=(szL x.1:Int))) (fun S x hx hS=> ?_) (x:=(l,(m:Int))) ⟨h,by omega,by omega⟩;obtain⟨l,m⟩:=x;obtain⟨hx,hm0,hm1⟩:=hx;simp only at hx hm0 hm1;have hlen:=Mh l;unfold big at hx;unfold kr;refine KV (A:=Int) l.length (fun i a=>(a,(i:Int))) (fun i a=>0<=a/\a<=(szL (l.take i):Int)/\(a<=m->a=(szL (l.take i):Int))) _ (a0:=0) rfl ⟨by omega,by simp[szL],fun _=>by simp[szL]⟩ (fun i a hi ha=> ?_) (fun a ha=> ?_)
  ·obtain⟨ha0,ha1,ha2⟩:=ha;have hsz:=Tz hi;have hsz2:=OA l (i+1);have hv:=oh l[i];have hm2:=Tj (Jc hi);cases hc:decide (a<=m)with
   |false=> simp only[Qx hi,Ea,Ca,hc];have hc:=of_decide_eq_false hc;exact .inr (.inr ⟨_,rfl,_,rfl,ha0,by omega,fun q=>absurd q hc⟩)
   |true=>
    have hc':=Ac hc;have e0:w64 (m - a)=m - a:=by rw[w64,Z0 (by omega) (by omega)]
    obtain⟨r,hr,hr0,hr1,hr2⟩:=hS (l[i].list,w64 (m - a)) ⟨by show szL l[i].list<=4194304;omega,by show 0<=w64 (m - a);omega,by show w64 (m - a)<=1000;omega⟩ (by show szL l[i].list<szL l;omega);simp only[e0]at hr2 hr1;have e1:w64 (a+w64 (w64 (w64 (1+(l[i].token.text.length:Int))+(l[i].token.unit.length:Int))+r))=a+(1+l[i].token.text.length+l[i].token.unit.length+r):=by rw[w64,w64,w64,w64,Z0 (n:=1+(l[i].token.text.length:Int)) (by omega) (by omega),Z0 (n:=1+(l[i].token.text.length:Int)+(l[i].token.unit.length:Int)) (by omega) (by omega),Z0 (n:=1+(l[i].token.text.length:Int)+(l[i].token.unit.length:Int)+r) (by omega) (by omega),Z0 (by omega) (by omega)]
    simp only[Qx hi,Ea,hc,Z8 hi,zg,Aa,hr,e1,qB hi (show l.length<=big by unfold big;omega)];exact .inl ⟨_,rfl,by omega,by omega,fun q=>by have:=ha2 hc';have:=hr2 (by omega);omega⟩
  ·obtain⟨ha0,ha1,ha2⟩:=ha;rw[Ff]at ha1 ha2;simp only[Wj,Ca];exact .inl ⟨_,rfl,_,rfl,ha0,ha1,ha2⟩
 obtain⟨r,hr,h0,h1,h2⟩:=this;exact⟨r,hr,h0,h1,h2⟩
theorem uB{α}[Inhabited α]{o:Option α}(h:o.isSome=true):o=some (o.getD default):=by
 cases o with
 |none=>cases h
 |some a=>rfl
abbrev tx5:Str:=[67,79,76,79,82,32,58,32,114,101,100,32,33,32,105,109,112,111,114,116,97,110,116,59,32,120,59,32,45,45,89,58,59,32,109,97,114,103,105,110,58,49,112,120,41]
noncomputable def tk5:List ze×Int:=(uA 400 tx5).getD default
noncomputable def vv5:List zb×Int:=(parseF tk5.1).getD default
noncomputable def dd5:List zI:=Xh (Dg 17 vv5.1)
noncomputable def ls5:Str×Int:=(OG 400 dd5).getD default
theorem sj:Q6 ()=some true:=by
 have h1:=DR 400 tx5 tk5 (uB (by decide+kernel));have h2:parseF tk5.1=some vv5:=uB (by decide+kernel);have h3:=R5 400 dd5 ls5 (uB (by decide+kernel));have h4:tk5.2=0/\vv5.2=0/\szL vv5.1<big/\errS vv5.1=0:=by decide+kernel
 obtain⟨e1,e2,e3,e4⟩:=h4;unfold Q6 SA ll;simp only[h1,zg,Aa,e1,bne_self_eq_false,Ca,h2,e2,OT e3,Ga e4];rw[show Xh (Dg 17 vv5.1)=dd5 from rfl,h3];exact congrArg some (by decide+kernel)
abbrev vSp:zb:=⟨⟨13,[],0,[],false⟩,[]⟩
theorem LJ: ∀(a b:List zb) (c:Int),shL (a++b) c=(shL a c&&shL b c)
 |[],b,c=>by rw[Nb,shL,Cb]
 |v::a,b,c=>by rw[Ra,shL,shL,LJ a b c,Bool.and_assoc]
theorem yO{l:List zI}(h:szD l):Sv (l,l)=some true:=by
 unfold Sv;have hne:((l.length:Int) != (l.length:Int))=false:=by simp
 simp only[hne,Ca];refine(dE l (fun i (_:Unit)=>(i:Int)) (fun v (_:Unit)=>some (.again ())) (fun _=>some (.out ())) (a:=()) rfl (fun i a hi=> ?_) (fun a=> ?_) (r:= .out ()) ?_)
 ·have hw:=qB hi h.1;have hn:(decide (0<=(i:Int))&&decide ((i:Int)<(l.length:Int)))=true:=by simp[hi]
  simp only[Qx hi,Ea,Z8 hi,hn,zU,Bb,Sa hi,zg,Aa,U1 (h.2 _ (Jc hi)),Lb,Ca,hw];rfl
 ·simp only[Wj,Ca];rfl
 ·rw[ul (fun a v=>a) (fun v a=>rfl)]
end Go.Lv.VT
