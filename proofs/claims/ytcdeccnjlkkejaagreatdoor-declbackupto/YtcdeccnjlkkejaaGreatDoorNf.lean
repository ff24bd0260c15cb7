/- Parsing of tokens: what the machine of nest.Parse computes is what the reference's recursion computes. -/
import Derived.Test.YtcdeccnjlkkejaaGreatDoorNa
import Derived.Test.YtcdeccnjlkkejaaGreatDoorTy
import Derived.Test.YtcdeccnjlkkejaaGreatDoorNb
import Derived.Test.YtcdeccnjlkkejaaGreatDoorNe
import Derived.KernelRfl
import Derived.Test.YtcdeccnjlkkejaaGreatDoorNd
import Derived.Test.YtcdeccnjlkkejaaGreatDoorNam
import Derived.Test.YtcdeccnjlkkejaaGreatDoorTx
import Derived.Test.YtcdeccnjlkkejaaGreatDoorMo
set_option linter.unusedSimpArgs false
set_option linter.unusedVariables false
namespace Go.Lv.VT
set_option maxRecDepth 100000
def Vf:Nat->List ze->Int->Nat->Option (List zf×List ze)
 |0,_,_,_=>none
 |_+1,[],_,_=>some ([],[])
 |n+1,t::r,c,left=>
  if c≠0/\t.kind=c then some ([],r)
  else if zA t.kind=0 then(Vf n r c left).map fun v=>(⟨t,[]⟩::v.1,v.2)
  else match left with
   |0=>none
   |m+1=>(Vf n r (zA t.kind) m).bind fun w=>(Vf n w.2 c (m+1)).map fun v=>(⟨t,w.1⟩::v.1,v.2)
theorem Uw(n:Nat)(t:ze)(r:List ze)(c:Int)(left:Nat):Vf (n+1) (t::r) c left=if c≠0/\t.kind=c then some ([],r)
  else if zA t.kind=0 then(Vf n r c left).map fun v=>(⟨t,[]⟩::v.1,v.2)
  else match left with
   |0=>none
   |m+1=>(Vf n r (zA t.kind) m).bind fun w=>(Vf n w.2 c (m+1)).map fun v=>(⟨t,w.1⟩::v.1,v.2):=rfl
theorem Sw: ∀(n:Nat) (l:List ze) (c:Int) (left:Nat) (v:List zf×List ze),Vf n l c left=some v->v.2.length<=l.length/\(l≠[]->v.2.length<l.length)
 |0,_,_,_,_,h=>by cases h
 |n+1,[],c,left,v,h=>by
  rw[Vf]at h
  grind
 |n+1,t::r,c,left,v,h=>by
  rw[Uw]at h;have e:v.2.length<=r.length:=by
   split at h
   ·grind
   split at h
   ·cases a:Vf n r c left with
    |none=>grind
    |some w=>rw[a]at h;cases h;exact(Sw n r c left w a).1
   ·cases left with
    |zero=>cases h
    |succ m=>
     simp only at h;cases b:Vf n r (zA t.kind) m with
     |none=>grind
     |some w=>
      rw[b,Aa]at h;cases a:Vf n w.2 c (m+1)with
      |none=>grind
      |some d=>
       rw[a]at h;cases h;have f:=(Sw n r _ m w b).1;have g:=(Sw n w.2 c _ d a).1
       grind
  grind
def Vl(l:List ze)(s:PSt):Option (List zf):=(rf l s).map fun s=>shutAll s.1 s.2
theorem mQ(t:ze)(l:List ze)(s:PSt):Vl (t::l) s=(Q3 s t).bind (Vl l):=by unfold Vl;rw[rf];cases Q3 s t<;>rfl
theorem JA: ∀(n:Nat) (l:List ze) (cur:List zf) (o:ze) (a:List zf) (st:List (ze×List zf)) (left:Nat),l.length<n->zA o.kind≠0->left+(st.length+1)=16->
  Vl l (cur,(o,a)::st)=(Vf n l (zA o.kind) left).bind fun v=>Vl v.2 (a++[⟨o,cur++v.1⟩],st)
 |0,_,_,_,_,_,_,h,_,_=>by omega
 |n+1,[],cur,o,a,st,left,_,_,_=>by rw[Vf,Aa];simp only[Vl,rf,jc,shutAll,Va]
 |n+1,t::r,cur,o,a,st,left,g,c,f=>by
  rw[Ja]at g;rw[Uw,mQ];unfold Q3;simp only[Wl];by_cases e:t.kind=zA o.kind
  ·rw[Ha (by grind),Ha ⟨c,e⟩,Aa,Aa];simp only[Bl,Va]
  ·rw[Ga (by grind),Ga (show¬(zA o.kind≠0/\t.kind=zA o.kind)from fun h=>e h.2)];by_cases b:zA t.kind=0
   ·rw[Ga (show¬zA t.kind≠0 from fun h=>h b),Ha b,Aa,JA n r _ o a st left (by omega) c f];cases Vf n r (zA o.kind) left with
    |none=>rfl
    |some v=>grind
   ·rw[Ha b,Ga b];cases left with
    |zero=>grind
    |succ m=>
     rw[Ga (by grind),Aa];simp only;rw[JA n r [] t cur ((o,a)::st) m (by omega) b (by grind)];cases i:Vf n r (zA t.kind) m with
     |none=>rfl
     |some w=>
      have d:=(Sw n r _ m w i).1;simp only[Aa];rw[JA n w.2 _ o a st (m+1) (by omega) c f];cases Vf n w.2 (zA o.kind) (m+1)with
      |none=>rfl
      |some v=>grind
theorem rG: ∀(n:Nat) (l:List ze) (cur:List zf),l.length<n->Vl l (cur,[])=(Vf n l 0 16).map fun v=>cur++v.1
 |0,_,_,h=>by omega
 |n+1,[],cur,_=>by rw[Vf];simp only[Vl,rf,jc,shutAll,Va]
 |n+1,t::r,cur,c=>by
  rw[Ja]at c;rw[Uw,mQ];unfold Q3;simp only[Wl];rw[Ga (by decide),Ga (show¬((0:Int)≠0/\t.kind=0)from fun h=>h.1 rfl)];by_cases a:zA t.kind=0
  ·rw[Ga (show¬zA t.kind≠0 from fun h=>h a),Ha a,Aa,rG n r _ (by omega)];cases Vf n r 0 16 with
   |none=>rfl
   |some v=>grind
  ·rw[Ha a,Ga a,Ga (by decide),Aa];rw[JA n r [] t cur [] 15 (by omega) a rfl];cases d:Vf n r (zA t.kind) 15 with
   |none=>rfl
   |some w=>
    have b:=(Sw n r _ 15 w d).1;simp only[Aa];rw[rG n w.2 _ (by omega)];cases Vf n w.2 0 16 with
    |none=>rfl
    |some v=>grind
theorem Rk: ∀(a b:List zf),tokL (a++b)=tokL a++tokL b
 |[],b=>by rw[tokL];rfl
 |v::a,b=>by rw[Ra,tokL,tokL,Rk a b,La]
theorem uz(v:zf):tokL [v]=tokV v:=by rw[tokL,tokL,Va]
def Ji(s:PSt):Nat:=(tokL s.1).length+(s.2.map fun x=>1+(tokL x.2).length).sum
def rC(s:PSt):Prop:= ∀x∈s.2,zA x.1.kind≠0
theorem M4{s s':PSt}{t:ze}(h:Q3 s t=some s')(c:rC s):rC s'/\Ji s'=Ji s+1:=by
 unfold Q3 at h;obtain⟨g,f⟩:=s;split at h
 ·rename_i d;cases f with
  |nil=>cases d
  |cons x f=> obtain⟨o,e⟩:=x;cases h;have a:zA o.kind≠0:=c (o,e) (Ab ..);refine⟨fun x b=>c x (aa _ b),?_⟩;simp only[Ji,Bl,Rk,uz,Ka,Jc,Nf,Nj,Ja,Ga a,Ka,Ic,Sb];omega
 split at h
 ·rename_i d a;split at h
  ·cases h
  ·rename_i i;cases h;refine⟨fun x b=> ?_,?_⟩
   ·rcases Cb.1 b with rfl|b
    ·exact a
    ·exact c x b
   ·simp only[Ji,Jc,Nf,tokL,Sb];omega
 ·rename_i d a;cases h;refine⟨c,?_⟩;have a:zA t.kind=0:=jd a;simp only[Ji,Rk,uz,Ka,Nj,Ja,Ha a,Sb];omega
theorem FP: ∀(l:List ze) {s s':PSt},rf l s=some s'->rC s->rC s'/\Ji s'=Ji s+l.length
 |[],s,s',h,b=>by cases h;grind
 |t::l,s,s',h,b=>by
  rw[rf]at h;cases a:Q3 s t with
  |none=>grind
  |some g=>
   rw[a,Aa]at h;obtain⟨c,f⟩:=M4 a b;obtain⟨e,d⟩:=FP l h c
   grind
theorem rQ: ∀(st:List (ze×List zf)) (cur:List zf),(∀x∈st,zA x.1.kind≠0)->(tokL (shutAll cur st)).length=Ji (cur,st)+st.length
 |[],cur,_=>by simp[shutAll,Ji]
 |(o,a)::st,cur,h=>by have c:zA o.kind≠0:=h (o,a) (Ab ..);rw[shutAll,rQ st _ (fun x b=>h x (aa _ b))];simp only[Ji,Rk,uz,Ka,Nj,Ja,Ga c,Ka,Ic,Jc,Nf,Ja,Sb];omega
def XJ(l:List ze)(c:Int)(left:Nat):Option (List zf×List ze):=Vf (l.length+1) l c left
def wtT:List ze->Nat
 |[]=>0
 |t::r=>1+t.text.length+t.unit.length+wtT r
theorem nz: ∀(n:Nat) (l:List ze) (c:Int) (left:Nat) (v:List zf×List ze),Vf n l c left=some v->szL v.1+wtT v.2<=wtT l
 |0,_,_,_,_,h=>by cases h
 |n+1,[],c,left,v,h=>by
  rw[Vf]at h;cases h;rw[szL];exact Xa _
 |n+1,t::r,c,left,v,h=>by
  rw[Uw]at h;rw[wtT];split at h
  ·cases h;rw[szL];simp only;omega
  split at h
  ·cases a:Vf n r c left with
   |none=>rw[a]at h;cases h
   |some w=> rw[a]at h;cases h;have:=nz n r c left w a;simp only[szL,szV];omega
  ·cases left with
   |zero=>cases h
   |succ m=>
    simp only at h;cases b:Vf n r (zA t.kind) m with
    |none=>rw[b]at h;cases h
    |some w=>
     rw[b,Aa]at h;cases a:Vf n w.2 c (m+1)with
     |none=>rw[a]at h;cases h
     |some d=> rw[a]at h;cases h;have e:=nz n w.2 c _ d a;have f:=nz n r _ m w b;simp only[szL,szV];omega
theorem YK(l:List ze):(rf l ([],[])).map (fun s=>shutAll s.1 s.2)=(XJ l 0 16).map Prod.fst:=rG _ l [] (Nat.lt_succ_self _)
theorem zFt{l:List ze}{s:PSt}(h:rf l ([],[])=some s):szL (shutAll s.1 s.2)<=wtT l:=by
 have a:=YK l;rw[h,jc]at a;cases b:XJ l 0 16 with
 |none=>rw[b]at a;cases a
 |some v=> rw[b,jc]at a;injection a with a;have:=nz _ _ _ _ v b;rw[a];omega
theorem aK(l:List ze):szL (parS l).1<=wtT l:=by
 unfold parS;split
 ·rw[szL];exact Ub _
 ·split
  ·rw[szL];exact Ub _
  ·rename_i s a;split
   ·rw[szL];exact Ub _
   ·exact zFt a
theorem EB: ∀(n:Nat) (l:List ze) (c:Int) (left:Nat) (v:List zf×List ze),Vf n l c left=some v->shL v.1 c=true/\QM v.1<=left/\(∀t∈v.2,t∈l)/\ ∀t∈tokL v.1,t∈l\/(t.text=[]/\t.unit=[])
 |0,_,_,_,_,h=>by cases h
 |n+1,[],c,left,v,h=>by
  rw[Vf]at h;cases h;exact⟨by rw[shL],by rw[QM];grind,fun t a=>a,fun t a=>by rw[tokL]at a;cases a⟩
 |n+1,t::r,c,left,v,h=>by
  rw[Uw]at h;split at h
  ·cases h;exact⟨by rw[shL],by rw[QM];grind,fun t a=>aa _ a,fun t a=>by rw[tokL]at a;cases a⟩
  rename_i A;have j:(c != 0&&t.kind==c)=false:=by
   cases y:(c != 0&&t.kind==c)with
   |false=>rfl
   |true=>grind
  split at h
  ·rename_i b;cases e:Vf n r c left with
   |none=>grind
   |some w=>
    rw[e]at h;cases h;obtain⟨g,p,f,q⟩:=EB n r c left w e;refine⟨?_,?_,fun t a=>aa _ (f t a),fun u d=> ?_⟩
    ·rw[shL,shV,g,j,b];rfl
    ·rw[QM,xg,Ha b];omega
    ·rw[tokL,tokV,Ha b]at d
     grind
  ·rename_i b;cases left with
   |zero=>cases h
   |succ m=>
    simp only at h;cases i:Vf n r (zA t.kind) m with
    |none=>grind
    |some w=>
     rw[i,Aa]at h;cases e:Vf n w.2 c (m+1)with
     |none=>grind
     |some k=>
      rw[e]at h;cases h;obtain⟨g,p,f,q⟩:=EB n r _ m w i;obtain⟨o,B,x,z⟩:=EB n w.2 c _ k e;have s:(zA t.kind==0)=false:=Fa.2 b;refine⟨?_,?_,fun u d=>aa _ (f u (x u d)),fun u d=> ?_⟩
      ·rw[shL,shV,g,o,j,s,ja,Rc];rfl
      ·rw[QM,xg,Ga b];omega
      ·rw[tokL,tokV,Ga b,Ra,La]at d
       grind
theorem EP{l:List ze}(h:(parS l).2=0):errS (parS l).1=0/\ ∀t∈tokL (parS l).1,t∈l\/(t.text=[]/\t.unit=[]):=by
 unfold parS at h ⊢;split at h
 ·cases h
 rename_i k;rw[Ga k];split at h
 ·cases h
 rename_i s b;split at h
 ·cases h
 rename_i m;rw[Ga m];have a:=YK l;rw[b,jc]at a;cases d:XJ l 0 16 with
 |none=>grind
 |some v=>
  rw[d,jc]at a;injection a with a;obtain⟨p,n,o,i⟩:=EB _ _ _ _ _ d;obtain⟨e,j⟩:=FP l b (fun x g=>by cases g);have c:=rQ s.2 s.1 e;have f:Ji (s.1,s.2)=l.length:=by rw[show(s.1,s.2)=s from rfl,j];simp[Ji,tokL]
  rw[f]at c;simp only[a]at c ⊢;refine⟨?_,i⟩;unfold errS
  grind
theorem kG(r:Str):(zt r).1.length+3*(zt r).2.length<=3*r.length+3:=by
 have h4:=Jw r;cases r with
 |nil=>exact Xa _
 |cons c t=>
  have h:(zt (c::t)).2.length<=t.length:=by
   show(if Qz c then(Og (hexes 6 0 (c::t)).1,unsp (hexes 6 0 (c::t)).2)else([c],t)).2.length<=t.length;cases hc:Qz c with
   |true=>
    have e:hexes 6 0 (c::t)=hexes 5 (16*0+hexN c) t:=by rw[hexes,hc,Ha rfl]
    rw[Ha rfl,e];exact((yL _).trans (Fw 5 _ t)).length_le
   |false=>exact Xa _
  rw[Ja];omega
theorem xq(l:Str):(zq l).1.length+3*(zq l).2.length<=3*l.length:=by
 match l with
 |[]=>rw[qV];exact Xa _
 |c::r=>
  rw[zR];split
  ·have:=xq r;show(c::(zq r).1).length+3*(zq r).2.length<=_;rw[Ja,Ja];omega
  ·split
   ·have h1:=Zc r;have h2:=kG r;have:=xq (zt r).2;show((zt r).1++(zq (zt r).2).1).length+3*(zq (zt r).2).2.length<=_;rw[Ka,Ja];omega
   ·show 0+3*(c::r).length<=_;omega
termination_by l.length
decreasing_by
 all_goals first|(have:=Zc r;simp only[Ja];omega)|(simp only[Ja];omega)
theorem ED{u:Str}{o:Option Str}{t:Str}{k:Nat}(h:o.map (u++ ·)=some t)(hk: ∀t',o=some t'->t'.length<=k):t.length<=u.length+k:=by
 cases o with
 |none=>cases h
 |some t'=> injection h with h;rw[<-h,Ka];have:=hk t' rfl;omega
theorem AA{m:UInt8}{q t:Str}(h:(Za m q).1=some t):t.length+3*(Za m q).2.length<=3*q.length:=by
 match q with
 |[]=>rw[Lp]at h ⊢;cases h;exact Xa _
 |c::r=>
  rw[Qu]at h ⊢;rw[Ja];split
  ·rename_i h1;rw[Ha h1]at h;cases h;show 0+3*r.length<=_;omega
  ·rename_i h1;rw[Ga h1]at h;split
   ·rename_i h2;rw[Ha h2]at h;cases h
   ·rename_i h2;rw[Ga h2]at h;split
    ·rename_i h3;rw[Ha h3]at h;split
     ·rename_i h4;rw[Ha h4]at h;cases h;show 0+3*0<=_;omega
     ·rename_i h4;rw[Ga h4]at h;split
      ·rename_i h5;rw[Ha h5]at h;have:=AA (q:=r.drop 1) h;rw[Yb]at this;omega
      ·rename_i h5;rw[Ga h5]at h;have h6:=Zc r;have h7:=kG r;have:=ED (k:=3*(zt r).2.length - 3*(Za m (zt r).2).2.length) h (fun t' ht'=>by have:=AA ht';omega);have h8:=(Ns m (zt r).2).length_le;show t.length+3*(Za m (zt r).2).2.length<=_;omega
    ·rename_i h3;rw[Ga h3]at h;have:=ED (u:=[c]) (k:=3*r.length - 3*(Za m r).2.length) h (fun t' ht'=>by have:=AA ht';omega);have h8:=(Ns m r).length_le;rw[Ic]at this;show t.length+3*(Za m r).2.length<=_;omega
termination_by q.length
decreasing_by
 all_goals first|(have:=Zc r;simp only[Ja];omega)|(simp only[Ja,Yb];omega)
theorem YJ{q t:Str}(h:(urlS q).1=some t):t.length+3*(urlS q).2.length<=3*q.length:=by
 match q with
 |[]=>rw[Oo]at h ⊢;cases h;exact Xa _
 |c::r=>
  rw[ak]at h ⊢;rw[Ja];split
  ·rename_i h1;rw[Ha h1]at h;cases h;show 0+3*r.length<=_;omega
  ·rename_i h1;rw[Ga h1]at h;split
   ·rename_i h2;rw[Ha h2]at h;have hp:=(Im spB r).length_le;split
    ·rename_i h3;rw[h3]at h;cases h;show 0+3*0<=_;omega
    ·rename_i d r' h3;rw[h3]at h hp;rw[Ja]at hp;simp only at h;split
     ·rename_i h4;rw[Ha h4]at h;cases h;show 0+3*r'.length<=_;omega
     ·rename_i h4;rw[Ga h4]at h;cases h
   ·rename_i h2;rw[Ga h2]at h;split
    ·rename_i h3;rw[Ha h3]at h;cases h
    ·rename_i h3;rw[Ga h3]at h;split
     ·rename_i h5;rw[Ha h5]at h;have h6:=Zc r;have h7:=kG r;have:=ED (k:=3*(zt r).2.length - 3*(urlS (zt r).2).2.length) h (fun t' ht'=>by have:=YJ ht';omega);have h8:=(lq (zt r).2).length_le;show t.length+3*(urlS (zt r).2).2.length<=_;omega
     ·rename_i h5;rw[Ga h5]at h;have:=ED (u:=[c]) (k:=3*r.length - 3*(urlS r).2.length) h (fun t' ht'=>by have:=YJ ht';omega);have h8:=(lq r).length_le;rw[Ic]at this;show t.length+3*(urlS r).2.length<=_;omega
termination_by q.length
decreasing_by
 all_goals first|(have:=Zc r;simp only[Ja];omega)|(simp only[Ja];omega)
theorem gW(c:UInt8)(r:Str):(Zo (c::r)).1.text.length+(Zo (c::r)).1.unit.length+3*(Zo (c::r)).2.length<=3*(r.length+1):=by
 have hs:=(mi c r).length_le;rw[wo]at hs ⊢;split
 ·rename_i h1;rw[Ha h1]at hs;simp only[Jg,Sb]at hs ⊢;omega
 rename_i h1;rw[Ga h1]at hs;split
 ·rename_i h2;rw[Ha h2]at hs;simp only at hs ⊢;cases ho:(Za c r).1 with
  |none=>show 0+0+_<=_;omega
  |some t=>have:=AA ho;show t.length+0+_<=_;omega
 rename_i h2;rw[Ga h2]at hs;split
 ·have:=xq r;simp only[Sb];omega
 rename_i h3;rw[Ga h3]at hs;split
 ·rename_i h4;have h5:=(oQ h4).length_le;rw[Ha h4]at hs;unfold zI at hs ⊢;split
  ·have:=xq (zP (c::r)).1;simp only[Sb];omega
  ·rename_i h6;rw[Ga h6]at hs;split
   ·rename_i h7;rw[Ha h7]at hs;simp only[Sb]at hs ⊢;omega
   ·rename_i h7;rw[Ga h7]at hs;simp only[Sb]at hs ⊢;omega
 rename_i h4;rw[Ga h4]at hs;split
 ·rename_i h5;rw[Ha h5]at hs;simp only[Jg,Sb]at hs ⊢;omega
 rename_i h5;rw[Ga h5]at hs;split
 ·rename_i h6;rw[Ha h6]at hs;simp only[Jg,Sb]at hs ⊢;omega
 rename_i h6;rw[Ga h6]at hs;split
 ·have:=xq r;simp only[Sb];omega
 rename_i h7;rw[Ga h7]at hs;split
 ·have hn:=xq (c::r);rw[Ja]at hn;unfold qQ;split
  ·split
   ·have h8:=(Im spB ((zq (c::r)).2.drop 1)).length_le;have h9:=(lq (past spB ((zq (c::r)).2.drop 1))).length_le;rw[Yb]at h8;simp only;cases ho:(urlS (past spB ((zq (c::r)).2.drop 1))).1 with
    |none=>show 0+0+_<=_;omega
    |some t=>have:=YJ ho;show t.length+0+_<=_;omega
   ·simp only[Sb,Yb];omega
  ·simp only[Sb];omega
 split
 ·simp only[Sb,Ic];omega
 ·simp only[Jg,Sb];omega
theorem EW(q:Str):wtT (Zy q)<=5*q.length:=by
 cases hc:cmtS q with
 |nil=>rw[Qy hc,wtT];exact Ub _
 |cons c r=>
  have h2:=(Mj q).length_le;have h3:=(mi c r).length_le;rw[hc,Ja]at h2;rw[qL hc,wtT];have h4:(Zo (c::r)).2.length<q.length:=by omega
  have:=EW (Zo (c::r)).2;have:=gW c r;omega
termination_by q.length
decreasing_by all_goals omega
theorem FW(q:Str): ∀t∈Zy q,t.text.length+t.unit.length<=3*q.length:=by
 intro t ht;cases hc:cmtS q with
 |nil=>rw[Qy hc]at ht;cases ht
 |cons c r=>
  have h2:=(Mj q).length_le;have h3:=(mi c r).length_le;rw[hc,Ja]at h2;rw[qL hc]at ht;have h4:(Zo (c::r)).2.length<q.length:=by omega
  rcases Cb.1 ht with rfl|ht
  ·have:=gW c r;omega
  ·have:=FW (Zo (c::r)).2 t ht;omega
termination_by q.length
decreasing_by all_goals omega
def topc:List (ze×List zf)->Int
 |[]=>0
 |(o,_)::_=>zA o.kind
theorem zAZ{st:List (ze×List zf)}{t:ze}(b: ∀x∈st,zA x.1.kind≠0)(h:(topc st != 0&&t.kind==topc st)=false): ¬Wl st t=true:=by
 cases st with
 |nil=>exact Bool.false_ne_true
 |cons x st=>
  obtain⟨o,a⟩:=x;have c:(zA o.kind != 0)=true:=Ue.2 (b (o,a) (Ab ..));show¬(t.kind==zA o.kind)=true;have d:(zA o.kind != 0&&t.kind==zA o.kind)=false:=h
  grind
mutual
/-- The tokens of values of their shape are read as these values. -/
theorem zF6: ∀(v:zf) (cur:List zf) (st:List (ze×List zf)) (rest:List ze),(∀x∈st,zA x.1.kind≠0)->shV v (topc st)=true->xg v+st.length<=16->rf (tokV v++rest) (cur,st)=rf rest (cur++[v],st)
 |⟨t,l⟩,cur,st,rest,d,a,c=>by
  rw[shV,Od,Oc,Oc]at a;obtain⟨⟨g,h2⟩,f⟩:=a;have j:=zAZ d h2;rw[tokV];rw[xg]at c;by_cases b:zA t.kind=0
  ·have h:l=[]:=by rw[b,show((0:Int)==0)=true from rfl,ma,decide_eq_false_iff_not]at g;exact je.1 (by omega)
   subst h;rw[Ha b,Tc,rf];unfold Q3
   grind
  ·rw[Ga b]at c ⊢;have i:(zA t.kind != 0)=true:=Ue.2 b;rw[i,ma,Bool.not_eq_false']at f;have e: ∀x∈(t,cur)::st,zA x.1.kind≠0:=fun x k=>by
    grind
   rw[Ra,La,rf];unfold Q3;rw[Ga j,Ha b,Ga (show¬st.length=16 by omega),Aa,yJ l [] ((t,cur)::st) _ e f (by grind),Ob,Tc,rf];unfold Q3;rw[Ha (show Wl ((t,cur)::st) ⟨zA t.kind,[],0,[],false⟩=true from mf _),Aa];rfl
theorem yJ: ∀(v:List zf) (cur:List zf) (st:List (ze×List zf)) (rest:List ze),(∀x∈st,zA x.1.kind≠0)->shL v (topc st)=true->QM v+st.length<=16->rf (tokL v++rest) (cur,st)=rf rest (cur++v,st)
 |[],cur,st,rest,_,_,_=>by rw[tokL,Ob,Va]
 |v::r,cur,st,rest,d,a,c=>by rw[shL,Ea]at a;rw[QM]at c;rw[tokL,La,zF6 v cur st _ d a.1 (by omega),yJ r _ st _ d a.2 (by omega),La];rfl
end
theorem VG{v:List zf}(h:errS v=0):QM v<=16/\(tokL v).length<=1500/\shL v 0=true:=by
 unfold errS at h;split at h
 ·cases h
 split at h
 ·cases h
 split at h
 ·grind
 ·cases h
theorem FY{v:List zf}(h:errS v=0):parS (tokL v)=(v,0):=by obtain⟨b,e,d⟩:=VG h;have a:=yJ v [] [] [] (fun x c=>by cases c) d (by simpa using b);rw[Va,Ob,rf]at a;unfold parS;rw[Ga (by omega),a];simp only[Sb,Ed];rw[Ga (by omega),shutAll]
theorem gQ{α:Type}(l:List α):((l.length:Int)==0)=l.isEmpty:=by
 cases l with
 |nil=>rfl
 |cons a l=>exact Fa.2 (by simp only[Ja];omega)
theorem Iw(v:zf):(⟨v.token,v.list⟩:zf)=v:=by cases v;rfl
def Yh(x:Str):Bool:= !(x==[])&&(decide (x.length<=64)&&(Zp x&&(bif List.isPrefixOf [45,45] x then !(x==[45,45])else lowS x==x)))
theorem S9{x:Str}(h:x.length<=big):Dp x=some (Yh x):=by
 have e:decide ((x.length:Int)>64)= !decide (x.length<=64):=jD _ 64;have e1:decide (Lib.indexByte x (0:Int).toNat.toUInt8>=0)= !Zp x:=XE x;have ec:=JP x (lowS x);unfold Dp Yh;simp only[Lt,qb,zb,Aa,Qr,NB h,e,ec];cases x==[]<;>cases decide (x.length<=64)<;>try rfl
 simp only[Ca,Ba,ja,Ua,ma,Fe,e1];cases Zp x<;>cases List.isPrefixOf [45,45] x<;>rfl
theorem kN(x:Str):(bif decide ((x.length:Int)>=2)then List.take 2 x==[45,45]else false)=List.isPrefixOf [45,45] x:=by
 cases x with
 |nil=>rfl
 |cons a x=>
  cases x with
  |nil=>show(bif decide _ then _ else _)=((45==a)&&false);rw[Rc];rfl
  |cons b x=> have:decide ((((a::b::x:Str)).length:Int)>=2)=true:=Ia (by simp only[Ja];omega);rw[this];show((a==45)&&((b==45)&&true))=((45==a)&&((45==b)&&true));rw[Bool.beq_comm (a:=a),Bool.beq_comm (a:=b)]
theorem lN{x:Str}(h:List.isPrefixOf [45,45] x=true):decide ((x.length:Int)>2)= !(x==[45,45]):=by
 obtain⟨t,rfl⟩:=Ef.1 h;cases t with
 |nil=>rfl
 |cons a t=> have:decide ((([45,45]++a::t:Str).length:Int)>2)=true:=Ia (by simp only[Ka,Ja];omega);rw[this];rfl
theorem znW{x:Str}(h:x.length<=big):yw x=some (Yh x):=by
 have e:decide ((x.length:Int)>64)= !decide (x.length<=64):=jD _ 64;have en:decide ((x.length:Int)<1)=(x==[]):=by cases x with
  |nil=>rfl
  |cons a x=>exact Ya (by simp only[Ja];omega)
 have ec:=JP x (lowS x);have hk:(need (decide ((2:Int)<=(x.length:Int))|| !(decide ((x.length:Int)>=2)))<|
   bif bif decide ((x.length:Int)>=2)then List.take 2 x==[45,45]else false then some (decide ((x.length:Int)>2))else zb (Qa x) fun y4=>some (x==y4))=some (bif List.isPrefixOf [45,45] x then !(x==[45,45])else lowS x==x):=by
  have e2:(decide ((2:Int)<=(x.length:Int))|| !(decide ((x.length:Int)>=2)))=true:=by show(decide _|| !decide ((2:Int)<=_))=true;cases decide ((2:Int)<=(x.length:Int))<;>rfl
  rw[e2,zX,kN];cases hp:List.isPrefixOf [45,45] x with
  |true=>rw[Ca,Ca,lN hp]
  |false=>simp only[Ba,oG h,zb,Aa,ec]
 unfold yw Yh;rw[hk];have hl: ∀b:Bool,Ze (fun(s1:Int)=>bif decide (s1<(x.length:Int))then
    zb (geti x s1) fun y2=>bif (y2.toNat:Int)==0 then some (LO.ret false)else some (LO.again (w64 (s1+1)))
   else some (LO.out ()):Int->Option (LO (Int) (Unit) _)) 0 (fun _=>some b)=some (Zp x&&b):=by
  intro b;refine(iw x (fun b=>bif (!(b==0))then none else some false) () (fun i hi=> ?_) ?_).trans ?_
  ·simp only[Z5 hi,Ca,Zq hi,zb,Aa,byte_zero,Zi hi h];cases x[i]==0<;>rfl
  ·simp only[Ph,Ba]
  ·rw[SA];unfold Zp;cases x.all (fun b=> !(b==0))<;>rfl
 rw[hl,e,en];cases x==[]<;>cases decide (x.length<=64)<;>rfl
def clK(v:zf):Bool:=v.token.kind==20||(v.token.kind==22||v.token.kind==24)
mutual
def clV:zf->Bool
 |⟨t,l⟩=>clK ⟨t,l⟩||clL l
def clL:List zf->Bool
 |[]=>false
 |v::r=>clV v||clL r
end
theorem mW(v:zf):clV v=(clK v||clL v.list):=by obtain⟨t,l⟩:=v;rw[clV]
theorem jL(l:List zf):clL l=l.any clV:=by
 induction l with
 |nil=>rw[clL];rfl
 |cons v l ih=>rw[clL,ih];rfl
theorem zl8{l:List zf}(h:szL l<=big):zm l=some (clL l):=by
 refine ik (fun l=>szL l) (fun l=>szL l<=big) (fun l=>clL l) (fun S l hl hS=> ?_) h;have hlen:=QS l;unfold Pt Zt ZQ;have:=gM (UN (step:=fun(s1:Int)=>
   bif decide (s1<(l.length:Int))then
    zb (geti l s1) fun y2=>
    zb (qP S (⟨y2.token,y2.list⟩:zf)) fun y3=>
    bif y3 then some (LO.ret s1)else some (LO.again (w64 (s1+1)))
   else some (LO.out ())) l clV (by omega) (fun i hi=> ?_) ?_) (wF _ _)
 ·rw[this,jL];rfl
 ·have hsz:=Ni (Ac hi);have hv2:=yg l[i];have hs:=hS l[i].list (by omega) (by omega);have:qP S l[i]=some (clV l[i]):=by unfold qP Zx;simp only[Iw,qb,zb,Aa,hs,mW,clK];cases l[i].token.kind==20<;>cases l[i].token.kind==22<;>cases l[i].token.kind==24<;>rfl
  simp only[Z5 hi,Ca,Zq hi,zb,Aa,Iw,this]
 ·simp only[Ph,Ba]
theorem zk1{l:List zf}(h:szL l<=big):qy l=some (clL l):=by
 refine ik (fun l=>szL l) (fun l=>szL l<=big) (fun l=>clL l) (fun S l hl hS=> ?_) h;have hlen:=QS l;unfold iC;refine(iw l (fun v=>bif clV v then some true else none) () (fun i hi=> ?_) ?_).trans ?_
 ·have hsz:=Ni (Ac hi);have hv2:=yg l[i];have hs:=hS l[i].list (by omega) (by omega);simp only[Z5 hi,Ca,Zq hi,zb,Aa,mW,clK,Zi hi (show l.length<=big by omega)];cases h1:l[i].token.kind==20<;>cases h2:l[i].token.kind==22<;>cases h3:l[i].token.kind==24<;>
   first|rfl|(simp only[Ba,Ua,zx,Aa,hs,Uc];cases clL l[i].list<;>rfl)
 ·simp only[Ph,Ba]
 ·rw[GG,jL];cases l.any clV<;>rfl
def Cj(l:List zf):Bool:=match l with
 |[]=>false
 |v::r=>isSp v||isSp ((v::r).getLast (by simp))
theorem NQ(t:List zf)(v:zf):Cj (t++[v])=((match t with|[]=>isSp v|a::_=>isSp a)||isSp v):=by
 cases t with
 |nil=>rfl
 |cons a t=> show(isSp a||isSp ((a::(t++[v])).getLast _))=_;congr 2;have:(a::(t++[v]))=(a::t)++[v]:=rfl;simp only[this,List.getLast_append_of_ne_nil,List.getLast_singleton,ne_eq,reduceCtorEq,af]
theorem BO(l:List zf):(trimB l).length<=l.length:=(ek l).length_le
theorem TZ(l:List zf):((trimS l).length==l.length)= !Cj l:=by
 rcases QC l with rfl|⟨t,v,rfl⟩
 ·rfl
 ·rw[NQ];have hl:(t++[v]).length=t.length+1:=by simp
  cases t with
  |nil=>
   show((trimB (List.dropWhile isSp [v])).length==1)= !(isSp v||isSp v);cases hv:isSp v with
   |true=>simp only[Nc,hv];rfl
   |false=> simp only[Nc,hv];have:=Tj [] v;rw[hv]at this;show((trimB [v]).length==1)=true;rw[show trimB [v]=[v]from this];rfl
  |cons a t=>
   show((trimB (List.dropWhile isSp (a::(t++[v])))).length==_)= !(isSp a||isSp v);have hb:=BO (List.dropWhile isSp (a::(t++[v])));cases ha:isSp a with
   |true=> simp only[Nc,ha,Ce]at hb ⊢;have hd:=(Ld isSp (l:=t++[v])).length_le;rw[Yd,ja,Fa];rw[hl,Ja];rw[Ka,Ic]at hd;omega
   |false=>
    have e:List.dropWhile isSp (a::(t++[v]))=(a::t)++[v]:=by rw[Nc,ha];rfl
    rw[e,Tj];cases hv:isSp v with
    |true=> have:=BO (a::t);rw[Ha rfl,Hf,ja,Fa,hl];omega
    |false=>simp
theorem uY{l:List zf}(h:l.length<=big)(g:Bool)(hg:(l.isEmpty&&g)=false)(k:Bool->Option Int):
  (zb (zo (decide ((l.length:Int)>0)&& !g) (geti l 0) (default:zf)) fun y7=>
   zb (zo (decide ((l.length:Int)>0)&& !g) (Zx ((⟨y7.token,y7.list⟩:zf),13)) (default:Bool)) fun y8=>
   zb (zo (!y8&&(decide ((l.length:Int)>0)&& !g)) (geti l (w64 ((l.length:Int) - 1))) (default:zf)) fun y9=>
   zb (zo (!y8&&(decide ((l.length:Int)>0)&& !g)) (Zx ((⟨y9.token,y9.list⟩:zf),13)) (default:Bool)) fun y10=>
   k (bif decide ((l.length:Int)>0)then bif y8 then true else y10 else false))=(if g=true/\l≠[]then(k (bif decide ((l.length:Int)>0)then bif (default:Bool)then true else(default:Bool)else false))else k (Cj l)):=by
 cases l with
 |nil=> have:decide ((([]:List zf).length:Int)>0)=false:=rfl;simp only[this,Nb,Zb,zb,Aa,Rc,Ba,ne_eq,not_true_eq_false,and_false,Pd,Cj]
 |cons v r=>
  have e1:decide (((v::r).length:Int)>0)=true:=Ia (by simp only[Ja];omega);have e2:geti (v::r) 0=some v:=rfl;cases g with
  |true=>simp only[e1,ja,Rc,Zb,zb,Aa,Ca,ne_eq,reduceCtorEq,af,and_self,Ce]
  |false=>
   simp only[e1,Ua,Pb,zx,zb,Aa,Ca,e2,Zx,false_and,Pd,reduceCtorEq];have e3:w64 (((v::r).length:Int) - 1)=(r.length:Int):=by rw[Ja]at h ⊢;rw[w64,Z4 (by omega) (by unfold big at h;omega)];omega
   have e4:geti (v::r) (r.length:Int)=some ((v::r).getLast (by simp)):=by rw[Zq (by simp),List.getLast_eq_getElem];simp
   rw[e3,e4];simp only[qb,Aa,Cj,isSp];cases v.token.kind==13<;>rfl
def badV(v:zf):Bool:=v.token.kind==17||(v.token.kind==9&&v.token.text==[33])
def Ml(custom:Bool)(l:List zf):Bool:= !(l.any badV)&&(!(l.isEmpty&& !custom)&& !Cj l)
def QZ(d:zM):Bool:=Yh d.name&&(errS d.value==0&&(gluS (tokL d.value)==0&&(!clL d.value&&Ml (List.isPrefixOf [45,45] d.name) d.value)))
mutual
theorem zBz: ∀(v:zf) (t:ze),t∈tokV v->t.text.length<=szV v/\t.unit.length<=szV v
 |⟨t,l⟩,u,h=>by
  rw[tokV]at h;rw[szV];rcases Cb.1 h with rfl|h
  ·constructor<;>omega
  ·split at h
   ·cases h
   ·rcases Kc.1 h with h|h
    ·have:=Wv l u h;omega
    ·obtain rfl:=lc.1 h;exact⟨Ub _,Ub _⟩
theorem Wv: ∀(l:List zf) (t:ze),t∈tokL l->t.text.length<=szL l/\t.unit.length<=szL l
 |[],_,h=>by rw[tokL]at h;cases h
 |v::r,u,h=>by
  rw[tokL]at h;rw[szL];rcases Kc.1 h with h|h
  ·have:=zBz v u h;omega
  ·have:=Wv r u h;omega
end
theorem zAt{l:List zf}(h:szL l<=big):Xj (tokL l)=some (gluS (tokL l)):=
 DT fun t ht=>by have:=Wv l t ht;omega
theorem zDj{l:List zf}(h:szL l<=big):Jp (tokL l)=some (gluS (tokL l)):=
 znT fun t ht=>by have:=Wv l t ht;omega
theorem C8{l:List zf}(h:l.length<=big):Zd l=some (l.any badV):=by
 unfold Zd Zz;refine gM (UN l badV h (fun i hi=> ?_) ?_) (wF _ _)
 ·have:Mt l[i]=some (badV l[i]):=by unfold Mt Xk Zx badV;simp only[Iw,qb,zb,Aa];cases l[i].token.kind==17<;>cases l[i].token.kind==9<;>rfl
  simp only[Z5 hi,Ca,Zq hi,zb,Aa,Iw,this]
 ·simp only[Ph,Ba]
theorem OI{d:zM}(hv:szL d.value<=big)(hn:d.name.length<=big):QL d=some (bif QZ d then 0 else 8):=by
 have hlen:=QS d.value;unfold QL QZ;rw[X7 hv];simp only[zb,Aa,S9 hn];cases Yh d.name with
 |false=>simp only[Ua,Ca,ja,Zb,Aa,Nb,Ba]
 |true=>
  by_cases he:errS d.value=0
  ·rw[Ha he];have he':(errS d.value==0)=true:=Jb.2 he;have this:((0:Int)==0)=true:=rfl;simp only[he',this,ja,Ba,Ua,zx,zAt hv,Aa,ma,bne];cases hg:gluS (tokL d.value)==0 with
   |false=>simp only[Ua,Ca,ja,Zb,Aa,Nb,Ba]
   |true=>
    simp only[ja,Ba,Ua,zx,zl8 hv,Aa,ma];cases clL d.value with
    |true=>rfl
    |false=>
     simp only[Ba,C8 (show d.value.length<=big by omega),Aa,Ml,Ua,ma];cases d.value.any badV with
     |true=>rfl
     |false=>
      simp only[Ba,Qr,qb,Aa,gQ,Ua,ma];have hp:=uY (l:=d.value) (by omega) (bif d.value.isEmpty then !(bif d.value.isEmpty then List.isPrefixOf [45,45] d.name else default)else false);cases hd:d.value with
      |nil=>
       cases List.isPrefixOf [45,45] d.name<;>rfl
      |cons v r=> have hp':=hp (by rw[hd];rfl) (fun b=>bif b then some 8 else some 0);rw[hd]at hp';simp only[List.isEmpty_cons,Ba,Rb,false_and,Pd]at hp';simp only[List.isEmpty_cons,Ba,Nb,Ua,ma];refine Eq.trans hp' ?_;cases Cj (v::r)<;>rfl
  ·rw[Ga he];have he':(errS d.value==0)=false:=Fa.2 he;simp only[he',bne,ja,Ba,Ua,Ca,Zb,Aa,Nb,Rc]
theorem xZ{x:Str}(hn:Yh x=true):Gx x=some (List.isPrefixOf [45,45] x):=by
 unfold Gx;have e2:(decide ((2:Int)<=(x.length:Int))|| !(decide ((x.length:Int)>2)))=true:=by
  by_cases h:2<=x.length
  ·rw[Ia (show(2:Int)<=(x.length:Int) by omega)];rfl
  ·rw[Ya (show¬((x.length:Int)>2) by omega)];simp
 rw[zB e2];have hp:=kN x;cases hpp:List.isPrefixOf [45,45] x with
 |true=> rw[hpp]at hp;have h3:=lN hpp;unfold Yh at hn;rw[hpp]at hn;simp only[Ca,Ea]at hn;rw[hn.2.2.2]at h3;rw[h3];have:decide ((x.length:Int)>=2)=true:=Ia (by have:=ib h3;omega);rw[this]at hp;exact congrArg some hp
 |false=>
  rw[hpp]at hp;cases h3:decide ((x.length:Int)>2)with
  |false=>rfl
  |true=> have:decide ((x.length:Int)>=2)=true:=Ia (by have:=ib h3;omega);rw[this]at hp;exact congrArg some hp
theorem zDs{α:Type}(a b:List α):((a.length:Int)==(b.length:Int))=(a.length==b.length):=by rw[Bool.eq_iff_iff,Jb,Jb];omega
theorem zmY{x:Str}{l:List zf}(h:szL l<=big)(hn:Yh x=true):
  Fx (x,l)=some (errS l==0&&(gluS (tokL l)==0&&(!clL l&&Ml (List.isPrefixOf [45,45] x) l))):=by
 have hlen:=QS l;unfold Fx;simp only[SY h,yP h,zb,Aa,bne,qb];cases he:errS l==0 with
 |false=>simp only[Ua,Ca,ja,Zb,Aa,Nb,Ba]
 |true=>
  simp only[ja,Ba,Ua,Ca,zx,zDj h,Aa,ma];cases hg:gluS (tokL l)==0 with
  |false=>simp only[Ua,Ca,ja,Zb,Aa,Nb,Ba]
  |true=>
   simp only[ja,Ba,Ua,zx,zk1 h,Aa,ma];cases clL l with
   |true=>rfl
   |false=>
    simp only[Ba,U5 h,Aa,zDs,TZ,gQ,Bool.not_not,Ua,ma,xZ hn,qb];have hl:Ze (fun(s7:Int)=>
     bif decide (s7<(l.length:Int))then
      zb (geti l s7) fun y8=>
      bif bif y8.token.kind==17 then true else bif y8.token.kind==9 then y8.token.text==[33]else false then
       some (LO.ret false)
      else
       some (LO.again (w64 (s7+1)))
     else
      some (LO.out ()):Int->Option (LO (Int) (Unit) _)) 0 (fun _=>some true)=some (!(l.any badV)):=by
     refine(iw l (fun v=>bif badV v then some false else none) () (fun i hi=> ?_) ?_).trans ?_
     ·simp only[Z5 hi,Ca,Zq hi,zb,Aa,badV,Zi hi (show l.length<=big by omega)];cases l[i].token.kind==17<;>cases l[i].token.kind==9<;>cases l[i].token.text==[33]<;>rfl
     ·simp only[Ph,Ba]
     ·rw[GG];cases l.any badV<;>rfl
    unfold Ml;simp only[zb]at hl;rw[hl];cases Cj l<;>cases l.isEmpty<;>cases List.isPrefixOf [45,45] x<;>cases l.any badV<;>rfl
theorem OT{d:zM}(hv:szL d.value<=big)(hn:d.name.length<=big):Gp d=some (bif QZ d then 0 else 8):=by
 unfold Gp QZ;simp only[znW hn,zb,Aa];cases hnd:Yh d.name with
 |false=>rfl
 |true=> simp only[ja,Ua,zx,zmY hv hnd,Aa,ma];cases (errS d.value==0&&(gluS (tokL d.value)==0&&(!clL d.value&&Ml (List.isPrefixOf [45,45] d.name) d.value)))<;>rfl
def Ig(l:List zf):Prop:= ∀t v,l=t++[v]->isSp v=false
def kg(l:List zf):Prop:= ∀a t,l=a::t->isSp a=false
theorem Ig.suf{a b:List zf}(h:Ig (a++b)):Ig b:=fun t v e=>h (a++t) v (by rw[e,La])
theorem Ig.id{l:List zf}(h:Ig l):trimB l=l:=by
 rcases QC l with rfl|⟨t,v,rfl⟩
 ·rfl
 ·rw[Tj,h t v rfl];rfl
theorem CO(l:List zf):Ig (trimB l):=by
 obtain⟨r,_,_,h|⟨t,v,h,hv⟩⟩:=pQ l
 ·intro t v e;rw[h]at e;simp at e
 ·intro t' v' e;rw[h]at e;have:=List.append_inj_right' e rfl;injection this with e1;rw[<-e1];exact hv
theorem kg.pre{a b:List zf}(h:kg (a++b)):kg a:=fun x t e=>h x (t++b) (by rw[e];rfl)
theorem kg.id{l:List zf}(h:kg l):l.dropWhile isSp=l:=by
 cases l with
 |nil=>rfl
 |cons a t=>rw[Nc,h a t rfl];rfl
theorem zDl(l:List zf):kg (l.dropWhile isSp):=by obtain⟨a,_,_,h⟩:=SH l;exact fun x b e=>h x b e
theorem CX(l:List zf): ∃a,l=a++l.dropWhile isSp:=by obtain⟨a,h,_⟩:=SH l;exact⟨a,h⟩
theorem AO(l:List zf): ∃r,l=trimB l++r:=by obtain⟨r,h,_⟩:=pQ l;exact⟨r,h⟩
theorem BM{l:List zf}(h1:kg l)(h2:Ig l):trimS l=l:=by unfold trimS;rw[h1.id,h2.id]
theorem left_eq{l:List zf}:oo l=some (l.dropWhile isSp):=by
 unfold oo Zx;refine(Qt (r:= .out (l.dropWhile isSp)) (ZR (fun s=>s.dropWhile isSp=l.dropWhile isSp) (fun s=>s.length) _ (fun s hs=> ?_) rfl)).trans ?_
 ·cases s with
  |nil=>exact .inr (.inl ⟨[],by simp,by rw[<-hs];rfl⟩)
  |cons v t=>
   have h1:decide (((v::t).length:Int)>0)=true:=by rw[Kr];simp
   have h2:geti (v::t) 0=some v:=rfl;have h3:decide ((1:Int)<=((v::t).length:Int))=true:=by simp;omega
   rw[Nc]at hs;cases hv:isSp v with
   |true=> rw[hv]at hs;unfold isSp at hv;refine .inl ⟨t,?_,by simpa using hs,by simp⟩;simp only[h1,h2,h3,zx,zb,Aa,hv,Ca,zX];rfl
   |false=> rw[hv]at hs;unfold isSp at hv;refine .inr (.inl ⟨v::t,?_,by rw[<-hs];rfl⟩);simp only[h1,h2,zx,zb,Aa,hv,Ca,Ba]
 ·rw[zkE]
theorem right_eq{d:List zf}(hd:szL d<=big):uk d=some (trimB d):=by
 unfold uk Zx;refine(Qt (r:= .out (trimB d)) (ZR (fun s=>trimB s=trimB d/\szL s<=big) (fun s=>s.length) _ (fun s hs=> ?_) ⟨rfl,hd⟩)).trans ?_
 ·rcases QC s with rfl|⟨t,v,rfl⟩
  ·exact .inr (.inl ⟨[],by simp,by rw[<-hs.1];rfl⟩)
  ·have hlen:=QS (t++[v]);have hl2:(t++[v]).length=t.length+1:=by simp
   have hb:=hs.2;unfold big at hb;have h1:decide (((t++[v]).length:Int)>0)=true:=by rw[Kr];simp
   have h4:w64 (((t++[v]).length:Int) - 1)=(t.length:Int):=by rw[w64,Z4 (by omega) (by omega)];omega
   have h2:geti (t++[v]) (t.length:Int)=some v:=by rw[Zq (by omega)];simp
   have h3:(decide ((0:Int)<=(t.length:Int))&&decide ((t.length:Int)<=((t++[v]).length:Int)))=true:=by simp;omega
   have hs1:=hs.1;rw[Tj]at hs1;cases hv:isSp v with
   |true=> rw[Ha hv]at hs1;unfold isSp at hv;refine .inl ⟨t,?_,⟨hs1,Xb (Mi (Pf t [v])) hs.2⟩,by simp⟩;simp only[h1,h4,h2,h3,zx,zb,Aa,hv,Ca,zX,Db];simp
   |false=> rw[Ga (by rw[hv];simp)]at hs1;unfold isSp at hv;refine .inr (.inl ⟨t++[v],?_,by rw[<-hs1]⟩);simp only[h1,h4,h2,zx,zb,Aa,hv,Ca,Ba]
 ·rw[zkE]
def Bn(v:zf):Bool:=v.token.kind==9&&v.token.text==[33]
theorem zCH(v:zf):Xk v=some (Bn v):=by unfold Xk Zx Bn;simp only[zb,Aa];cases v.token.kind==9<;>rfl
def impW:Str:=[105,109,112,111,114,116,97,110,116]
def endV(l:List zf):Option (List zf×zf):=match l.reverse with
 |[]=>none
 |v::t=>some (t.reverse,v)
theorem Kw(t:List zf)(v:zf):endV (t++[v])=some (t,v):=by unfold endV;rw[List.reverse_append];simp
def uf(v:List zf):List zf×Bool:=match endV v with
 |none=>(v,false)
 |some (t,z)=>bif !t.isEmpty&&(z.token.kind==1&&lowS z.token.text==impW)then
   (match endV (trimB t)with
   |none=>(v,false)
   |some (u,b)=>bif Bn b then(trimB u,true)else(v,false))
  else(v,false)
theorem GL{t:List zf}{v:zf}(h:szL (t++[v])<=big):w64 (((t++[v]).length:Int) - 1)=(t.length:Int):=by
 have hlen:=QS (t++[v]);have hl2:(t++[v]).length=t.length+1:=by simp
 unfold big at h;rw[w64,Z4 (by omega) (by omega)];omega
theorem xK(t:List zf)(v:zf):geti (t++[v]) (t.length:Int)=some v:=by rw[Zq (by simp)];simp
theorem RL(t:List zf)(v:zf):(decide ((0:Int)<=(t.length:Int))&&decide ((t.length:Int)<=((t++[v]).length:Int)))=true:=by simp;omega
theorem GK(t:List zf)(v:zf):List.take t.length (t++[v])=t:=by simp
theorem DL:lowS [105,109,112,111,114,116,97,110,116]=impW:=by decide+kernel
theorem JK{t:List zf}{v:zf}(h:szL (t++[v])<=big):szL t<=big/\v.token.text.length<=big:=by rw[PH,szL,yg]at h;omega
theorem yM(t:List zf):decide ((t.length:Int)>0)= !t.isEmpty:=by
 cases t with
 |nil=>rfl
 |cons a t=>exact Ia (by simp only[Ja];omega)
abbrev MK:=LX (List zf×(Str×Bool)×(Str×Bool)) (zM×Bool)
theorem KZ{v:List zf}{nm:Str}(hv:szL v<=big):(
  zb (zo (decide (w64 ((v.length:Int) - 1)>0)) (geti v (w64 ((v.length:Int) - 1))) (default:zf)) fun y13=>
  zb (zo (decide (w64 ((v.length:Int) - 1)>0)) (Zx ((⟨y13.token,y13.list⟩:zf),1)) (default:Bool)) fun y14=>
  zb (zo (bif decide (w64 ((v.length:Int) - 1)>0)then y14 else false) (geti v (w64 ((v.length:Int) - 1))) (default:zf)) fun y15=>
  zb (zo (bif decide (w64 ((v.length:Int) - 1)>0)then y14 else false) (qE (y15.token.text,[105,109,112,111,114,116,97,110,116])) (default:Bool)) fun y16=>
  bif bif bif decide (w64 ((v.length:Int) - 1)>0)then y14 else false then y16 else false then
   need (decide (0<=w64 ((v.length:Int) - 1))&&decide (w64 ((v.length:Int) - 1)<=(v.length:Int)))<|
   zb (uk (List.take (w64 ((v.length:Int) - 1)).toNat v)) fun y17=>
   zb (zo (decide ((y17.length:Int)>0)) (geti y17 (w64 ((y17.length:Int) - 1))) (default:zf)) fun y18=>
   zb (zo (decide ((y17.length:Int)>0)) (Xk (⟨y18.token,y18.list⟩:zf)) (default:Bool)) fun y19=>
   bif bif decide ((y17.length:Int)>0)then y19 else false then
    need (decide (0<=w64 ((y17.length:Int) - 1))&&decide (w64 ((y17.length:Int) - 1)<=(y17.length:Int)))<|
    zb (uk (List.take (w64 ((y17.length:Int) - 1)).toNat y17)) fun y20=>
    some (LX.out (y20,(([]:Str),false),(nm,true)))
   else
    some (LX.out (v,(([]:Str),false),(nm,false)))
  else
   some (LX.out (v,(([]:Str),false),(nm,false))))=(some (LX.out ((uf v).1,(([]:Str),false),(nm,(uf v).2))):Option MK):=by
 rcases QC v with rfl|⟨t,z,rfl⟩
 ·rfl
 ·obtain⟨ht,hz⟩:=JK hv;unfold uf;rw[Kw];simp only[GL hv,yM];cases he:t.isEmpty with
  |true=>simp only[ja,Zb,zb,Aa,Ba,Nb]
  |false=>
   simp only[Ua,zx,xK,Zx,zb,Aa,Ca,ma];cases hk:z.token.kind==1 with
   |false=>simp only[Zb,Aa,Ba,Nb]
   |true=>
    simp only[zx,Aa,OB hz (show([105,109,112,111,114,116,97,110,116]:Str).length<=big by decide),DL,Ca,ma];cases ha:lowS z.token.text==impW with
    |false=>simp only[Ba]
    |true=>
     simp only[Ca,RL,zX,Db,GK,right_eq ht,Aa,yM];have hw:szL (trimB t)<=big:=Xb (Mi (ek t)) ht;obtain⟨w,hwd⟩: ∃w,trimB t=w:=⟨_,rfl⟩;rw[hwd]at hw;simp only[hwd];rcases QC w with rfl|⟨u,b,rfl⟩
     ·rfl
     ·have hne:(u++[b]).isEmpty=false:=by cases u<;>rfl
      rw[Kw];simp only[hne,Ua,zx,GL hw,xK,Aa,Iw,zCH,Ca];cases hb:Bn b with
      |false=>simp only[Ba]
      |true=>simp only[Ca,RL,zX,Db,GK,right_eq (JK hw).1,Aa]
def nmD(s:Str):Str:=bif List.isPrefixOf [45,45] s then s else lowS s
def noD:zM×Bool:=(⟨[],[],false⟩,false)
def oneS(x:List zf):zM×Bool:=match trimS x with
 |[]=>noD
 |n::r=>bif n.token.kind==1 then
   (match r.dropWhile isSp with
   |[]=>noD
   |c::q=>bif c.token.kind==16 then
     (bif QZ ⟨nmD n.token.text,(uf (q.dropWhile isSp)).1,(uf (q.dropWhile isSp)).2⟩then(⟨nmD n.token.text,(uf (q.dropWhile isSp)).1,(uf (q.dropWhile isSp)).2⟩,true)else noD)
    else noD)
  else noD
theorem AB{v:List zf}{t:List zf}{z:zf}(h:endV v=some (t,z)):v=t++[z]:=by
 rcases QC v with rfl|⟨t',z',rfl⟩
 ·cases h
 ·rw[Kw]at h;cases h;rfl
theorem WL{v:List zf}(h1:kg v)(h2:Ig v):kg (uf v).1/\Ig (uf v).1/\(uf v).1.Sublist v:=by
 unfold uf;split
 ·exact⟨h1,h2,Vh _⟩
 ·rename_i t z he;have hv:=AB he;cases !t.isEmpty&&(z.token.kind==1&&lowS z.token.text==impW)with
  |false=>exact⟨h1,h2,Vh _⟩
  |true=>
   rw[Ca];split
   ·exact⟨h1,h2,Vh _⟩
   ·rename_i u b hb;have hw:=AB hb;cases Bn b with
    |false=>exact⟨h1,h2,Vh _⟩
    |true=>
     rw[Ca];have hht:kg t:=by rw[hv]at h1;exact h1.pre
     have hhw:kg (trimB t):=by obtain⟨r,hr⟩:=AO t;rw[hr]at hht;exact hht.pre
     have hhu:kg u:=by rw[hw]at hhw;exact hhw.pre
     refine⟨?_,CO u,?_⟩
     ·obtain⟨r,hr⟩:=AO u;rw[hr]at hhu;exact hhu.pre
     ·refine(ek u).trans ((Pf u [b]).trans ?_);rw[<-hw];refine(ek t).trans ?_;rw[hv];exact Pf t [z]
theorem zDu(s:Str):(lowS s).length=s.length:=by unfold lowS;simp
theorem zFf(s:Str):(nmD s).length=s.length:=by
 unfold nmD;cases List.isPrefixOf [45,45] s
 ·exact zDu s
 ·rfl
theorem WN(n:zf)(r:List zf):(((n::r).length:Int)==0)=false:=Fa.2 (by simp only[Ja];omega)
theorem YW(n:zf)(r:List zf):decide ((1:Int)<=((n::r).length:Int))=true:=Ia (by simp only[Ja];omega)
theorem bM(n:zf)(r:List zf):geti (n::r) 0=some n:=rfl
theorem PQ{x:List zf}(h:szL x<=big){n:zf}{r:List zf}(hy:trimS x=n::r):n.token.text.length<=big/\szL r<=big/\Ig r/\
  ∀{c:zf} {q:List zf},r.dropWhile isSp=c::q->szL (q.dropWhile isSp)<=big/\kg (q.dropWhile isSp)/\Ig (q.dropWhile isSp):=by
 have hsz:=zBC x;have he:Ig (trimS x):=CO _;rw[hy]at hsz he;rw[szL,yg]at hsz;have her:Ig r:=he.suf (a:=[n]);refine⟨by omega,by omega,her,fun {c q} hq=> ?_⟩;obtain⟨a,ha⟩:=CX r;rw[hq]at ha;obtain⟨b,hb⟩:=CX q;refine⟨?_,zDl q,?_⟩
 ·have h1:=Mi (Ld isSp (l:=q));rw[ha,PH,szL]at hsz;omega
 ·rw[ha,hb]at her;exact Ig.suf (a:=a++c::b) (by rw[La];exact her)
theorem F6{x:List zf}(h:szL x<=big):vv x=some (oneS x):=by
 have hdw:szL (x.dropWhile isSp)<=big:=Xb (Mi (Ld _)) h;unfold vv oneS;simp only[left_eq,right_eq hdw,zb,Aa,show trimB (x.dropWhile isSp)=trimS x from rfl];cases hy:trimS x with
 |nil=>rfl
 |cons n r=>
  obtain⟨hn,hr,_,hp⟩:=PQ h hy;simp only[WN,Ua,zx,bM,Aa,Zx,Ba];cases hk:n.token.kind==1 with
  |false=>simp only[Ua,Ca,Ba];rfl
  |true=>
   simp only[ja,Ba,Ca];have hj:((strings_HasPrefix (n.token.text,[45,45])).bind fun y6=>bif !y6 then(ql n.token.text).bind fun y7=>some (LX.out (n::r,(([]:Str),false),(y7,false)))else some (LX.out (n::r,([],false),(n.token.text,false))))=(some (LX.out (n::r,([],false),(nmD n.token.text,false))):Option MK):=by rw[Qr,Aa,NB hn];unfold nmD;cases List.isPrefixOf [45,45] n.token.text<;>rfl
   rw[hj,zh];simp only[YW,zX,show List.drop 1 (n::r)=r from rfl];cases hq:r.dropWhile isSp with
   |nil=>rfl
   |cons c q=>
    obtain⟨hv,hh,he⟩:=hp hq;simp only[WN,Ua,zx,bM,Aa,Ba];cases hc:c.token.kind==16 with
    |false=>simp only[Ua,Ca,Ba];rfl
    |true=>
     simp only[ja,Ba,Ca,YW,zX,show List.drop 1 (c::q)=q from rfl];obtain⟨v,hvd⟩: ∃v,q.dropWhile isSp=v:=⟨_,rfl⟩;rw[hvd]at hv hh he;simp only[hvd];have hm:=KZ (nm:=nmD n.token.text) hv;simp only[zb,Zx]at hm;rw[hm,zh];obtain⟨h1,h2,h3⟩:=WL hh he;obtain⟨w,hw⟩: ∃w,uf v=w:=⟨_,rfl⟩;rw[hw]at h1 h2 h3;simp only[hw];have hws:szL w.1<=big:=Xb (Mi h3) hv;rw[HZ hws,Aa];by_cases he0:errS w.1=0
     ·rw[Ha he0,BM h1 h2];simp only[show((0:Int) != 0)=false from rfl,Ua,zx,Ba];rw[OI (d:=⟨nmD n.token.text,w.1,w.2⟩) hws (by rw[zFf];exact hn),Aa];cases QZ ⟨nmD n.token.text,w.1,w.2⟩<;>rfl
     ·have he1:(errS w.1 != 0)=true:=Ue.2 he0;have he2:QZ ⟨nmD n.token.text,w.1,w.2⟩=false:=by unfold QZ;simp only[show(errS w.1==0)=false from Fa.2 he0,Nb,Rc]
      rw[Ga he0,he2];simp only[he1,ja,Zb,Aa,Ca,Ba];rfl
def wh(a:List zM)(p:List zf):List zM:=bif (oneS p).2&&decide (a.length<32)then a++[(oneS p).1]else a
def Mh(ps:List (List zf)):List zM:=ps.foldl wh []
theorem zBq{a:List zM}{p:List zf}(h:a.length<=32):(wh a p).length<=32:=by
 unfold wh;cases hb:(oneS p).2&&decide (a.length<32)with
 |false=>exact h
 |true=> rw[Ea,Ib]at hb;rw[Ca,Ka,Ic];omega
theorem pY{ps:List (List zf)}{i:Nat}(h:i<ps.length):Mh (ps.take (i+1))=wh (Mh (ps.take i)) ps[i]:=by unfold Mh;rw[Bc h,List.foldl_append];rfl
theorem RP(ps:List (List zf)):(Mh ps).length<=32:=by
 unfold Mh;have key: ∀(ps:List (List zf)) (a:List zM),a.length<=32->(ps.foldl wh a).length<=32:=by
  intro ps
  induction ps with
  |nil=>intro a h;exact h
  |cons p ps ih=>intro a h;exact ih _ (zBq h)
 exact key ps [] (Ub _)
theorem CP{x:List zf}(h:szL x<big):(Kg 17 x).length<=big/\ ∀p∈Kg 17 x,szL p<=big:=by have h1:=wX 17 x;have h2:=NK (Kg 17 x);exact⟨by omega,fun p hp=>by have:=LK hp;omega⟩
theorem ap48{n:Nat}(h:n<=32):zH n 1 48=true:=Si (by omega)
theorem mV{x:List zf}(h:szL x<big):Nv x=some (if errS x=0 then(Mh (Kg 17 x),0)else([],errS x)):=by
 unfold Nv;rw[O0 (k:=17) (by omega)];simp only[zb,Aa];by_cases he:errS x=0
 ·rw[Ha he,Ga (by omega),Ha he];obtain⟨hl,hp⟩:=CP h;simp only[show((0:Int) != 0)=false from rfl,Ba];generalize Kg 17 x=ps at*;refine Mm (fun z=> ∃i:Nat,z=((i:Int),Mh (ps.take i))/\i<=ps.length) (fun z=>ps.length - z.1.toNat) _ ?_ ⟨0,rfl,Ub _⟩;rintro _ ⟨i,rfl,hi⟩;rcases Xc i ps.length with hh|hh
  ·refine .inl ⟨_,?_,⟨i+1,rfl,hh⟩,by simp only[Db];omega⟩;have hq:=RP (ps.take i);rw[pY hh];simp only[Z5 hh,Ca,Zq hh,Aa,F6 (hp _ (Ac hh))];obtain⟨a,ha⟩: ∃a,Mh (ps.take i)=a:=⟨_,rfl⟩;rw[ha]at hq ⊢;unfold wh;have hd:decide ((a.length:Int)<32)=decide (a.length<32):=by
    by_cases q:a.length<32
    ·rw[Ia q,Ia (by omega)]
    ·rw[Ya q,Ya (by omega)]
   rw[hd,zB (ap48 hq)];have hw:w64 ((i:Int)+1)=((i+1:Nat):Int):=Zi hh hl;cases (oneS ps[i]).2<;>cases decide (a.length<32)<;>simp only[Ca,Ba,zh,hw,ma,Nb]
  ·have:i=ps.length:=by omega
   subst this;refine .inr (.inl ⟨Mh ps,?_,rfl⟩);simp only[Ph,Ba,ae]
 ·rw[Ga he,Ga he];simp only[Ue.2 he,Ca]
def sj(s:Str):List zM×Int:=
 if(qH s).2=0 then(if(parS (qH s).1).2=0 then(Mh (Kg 17 (parS (qH s).1).1),0)else([],(parS (qH s).1).2))else([],(qH s).2)
def szD(l:List zM):Prop:=l.length<=big/\ ∀d∈l,szL d.value<=big
theorem aZ{d:zM}(h:szL d.value<=big):xw (d,d)=some true:=by unfold xw;simp only[mf,Ca,zx,zBk h,zb,Aa]
theorem size_le{l:List zf}{m:Nat}(h:szL l<=big)(hm:m<=1000): ∃r:Int,qX (l,(m:Int))=some r/\0<=r/\r<=szL l/\(r<=m->r=szL l):=by
 have: ∃r,qX (l,(m:Int))=some r/\(0<=r/\r<=(szL l:Int)/\(r<=(m:Int)->r=(szL l:Int))):=by
  refine zBj zmy (fun x=>szL x.1) (fun x=>szL x.1<=big/\0<=x.2/\x.2<=1000) (fun x r=>0<=r/\r<=(szL x.1:Int)/\(r<=x.2->r=(szL x.1:Int))) (fun S x hx hS=> ?_) (x:=(l,(m:Int))) ⟨h,by omega,by omega⟩;obtain⟨l,m⟩:=x;obtain⟨hx,hm0,hm1⟩:=hx;simp only at hx hm0 hm1;have hlen:=QS l;unfold big at hx;unfold Ht;refine zAJ (A:=Int) l.length (fun i a=>(a,(i:Int))) (fun i a=>0<=a/\a<=(szL (l.take i):Int)/\(a<=m->a=(szL (l.take i):Int))) _ (a0:=0) rfl ⟨by omega,by simp[szL],fun _=>by simp[szL]⟩ (fun i a hi ha=> ?_) (fun a ha=> ?_)
  ·obtain⟨ha0,ha1,ha2⟩:=ha;have hsz:=Xv hi;have hsz2:=ww l (i+1);have hv:=yg l[i];have hm2:=Ni (Ac hi);cases hc:decide (a<=m)with
   |false=> simp only[Z5 hi,Ca,Ba,hc];have hc:=of_decide_eq_false hc;exact .inr (.inr ⟨_,rfl,_,rfl,ha0,by omega,fun q=>absurd q hc⟩)
   |true=>
    have hc':=ib hc;have e0:w64 (m - a)=m - a:=by rw[w64,Z4 (by omega) (by omega)]
    obtain⟨r,hr,hr0,hr1,hr2⟩:=hS (l[i].list,w64 (m - a)) ⟨by show szL l[i].list<=4194304;omega,by show 0<=w64 (m - a);omega,by show w64 (m - a)<=1000;omega⟩ (by show szL l[i].list<szL l;omega);simp only[e0]at hr2 hr1;have e1:w64 (a+w64 (w64 (w64 (1+(l[i].token.text.length:Int))+(l[i].token.unit.length:Int))+r))=a+(1+l[i].token.text.length+l[i].token.unit.length+r):=by rw[w64,w64,w64,w64,Z4 (n:=1+(l[i].token.text.length:Int)) (by omega) (by omega),Z4 (n:=1+(l[i].token.text.length:Int)+(l[i].token.unit.length:Int)) (by omega) (by omega),Z4 (n:=1+(l[i].token.text.length:Int)+(l[i].token.unit.length:Int)+r) (by omega) (by omega),Z4 (by omega) (by omega)]
    simp only[Z5 hi,Ca,hc,Zq hi,zb,Aa,hr,e1,Zi hi (show l.length<=big by unfold big;omega)];exact .inl ⟨_,rfl,by omega,by omega,fun q=>by have:=ha2 hc';have:=hr2 (by omega);omega⟩
  ·obtain⟨ha0,ha1,ha2⟩:=ha;rw[ae]at ha1 ha2;simp only[Ph,Ba];exact .inl ⟨_,rfl,_,rfl,ha0,ha1,ha2⟩
 obtain⟨r,hr,h0,h1,h2⟩:=this;exact⟨r,hr,h0,h1,h2⟩
theorem ND{α}[Inhabited α]{o:Option α}(h:o.isSome=true):o=some (o.getD default):=by
 cases o with
 |none=>cases h
 |some a=>rfl
abbrev tx5:Str:=[67,79,76,79,82,32,58,32,114,101,100,32,33,32,105,109,112,111,114,116,97,110,116,59,32,120,59,32,45,45,89,58,59,32,109,97,114,103,105,110,58,49,112,120,41]
noncomputable def tk5:List ze×Int:=(NC 400 tx5).getD default
noncomputable def vv5:List zf×Int:=(parseF tk5.1).getD default
noncomputable def dd5:List zM:=Mh (Kg 17 vv5.1)
noncomputable def ls5:Str×Int:=(tH 400 dd5).getD default
theorem Ev:Q0 ()=some true:=by
 have h1:=vT 400 tx5 tk5 (ND (by decide+kernel));have h2:parseF tk5.1=some vv5:=ND (by decide+kernel);have h3:=A7 400 dd5 ls5 (ND (by decide+kernel));have h4:tk5.2=0/\vv5.2=0/\szL vv5.1<big/\errS vv5.1=0:=by decide+kernel
 obtain⟨e1,e2,e3,e4⟩:=h4;unfold Q0 VB Sj;simp only[h1,zb,Aa,e1,bne_self_eq_false,Ba,h2,e2,mV e3,Ha e4];rw[show Mh (Kg 17 vv5.1)=dd5 from rfl,h3];exact congrArg some (by decide+kernel)
abbrev vSp:zf:=⟨⟨13,[],0,[],false⟩,[]⟩
theorem pK: ∀(a b:List zf) (c:Int),shL (a++b) c=(shL a c&&shL b c)
 |[],b,c=>by rw[Ob,shL,ma]
 |v::a,b,c=>by rw[Ra,shL,shL,pK a b c,Bool.and_assoc]
theorem uX{k:Int}{v:List zf}{ps:List (List zf)}(h:Cuts k v ps): ∀p∈ps,p.Sublist v:=by
 induction h with
 |one p _=>intro q hq;rw[lc.1 hq];exact Vh _
 |more p s v ps _ _ _ ih=>
  intro q hq;rcases Cb.1 hq with rfl|hq
  ·exact Pf _ _
  ·exact(ih q hq).trans ((List.sublist_cons_self s v).trans (List.sublist_append_right p (s::v)))
theorem O5{l:List zM}(h:szD l):Ww (l,l)=some true:=by
 unfold Ww;have hne:((l.length:Int) != (l.length:Int))=false:=by simp
 simp only[hne,Ba];refine(NA l (fun i (_:Unit)=>(i:Int)) (fun v (_:Unit)=>some (.again ())) (fun _=>some (.out ())) (a:=()) rfl (fun i a hi=> ?_) (fun a=> ?_) (r:= .out ()) ?_)
 ·have hw:=Zi hi h.1;have hn:(decide (0<=(i:Int))&&decide ((i:Int)<(l.length:Int)))=true:=by simp[hi]
  simp only[Z5 hi,Ca,Zq hi,hn,zX,Db,Ta hi,zb,Aa,aZ (h.2 _ (Ac hi)),ja,Ba,hw];rfl
 ·simp only[Ph,Ba];rfl
 ·rw[nk (fun a v=>a) (fun v a=>rfl)]
end Go.Lv.VT
