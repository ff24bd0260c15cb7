/- Parsing of tokens: what the machine of nest.Parse computes is what the reference's recursion computes. -/
import Derived.Test.YtcdeccnjlkkejaaGreatDoorNa
import Derived.Test.YtcdeccnjlkkejaaGreatDoorTy
import Derived.Test.YtcdeccnjlkkejaaGreatDoorNb
import Derived.Test.YtcdeccnjlkkejaaGreatDoorNe
import Derived.KernelRfl
import Derived.Test.YtcdeccnjlkkejaaGreatDoorNd
import Derived.Test.YtcdeccnjlkkejaaGreatDoorNam
import Derived.Test.YtcdeccnjlkkejaaGreatDoorTx
import Derived.Test.YtcdeccnjlkkejaaGreatDoorMo
set_option linter.unusedSimpArgs false
set_option linter.unusedVariables false
namespace Go.Lv.VT
set_option maxRecDepth 100000
def Gf:Nat->List ze->Int->Nat->Option (List zb×List ze)
 |0,_,_,_=>none
 |_+1,[],_,_=>some ([],[])
 |n+1,t::r,c,left=>
  if c≠0/\t.kind=c then some ([],r)
  else if zJ t.kind=0 then(Gf n r c left).map fun v=>(⟨t,[]⟩::v.1,v.2)
  else match left with
   |0=>none
   |m+1=>(Gf n r (zJ t.kind) m).bind fun w=>(Gf n w.2 c (m+1)).map fun v=>(⟨t,w.1⟩::v.1,v.2)
theorem Ot(n:Nat)(t:ze)(r:List ze)(c:Int)(left:Nat):Gf (n+1) (t::r) c left=if c≠0/\t.kind=c then some ([],r)
  else if zJ t.kind=0 then(Gf n r c left).map fun v=>(⟨t,[]⟩::v.1,v.2)
  else match left with
   |0=>none
   |m+1=>(Gf n r (zJ t.kind) m).bind fun w=>(Gf n w.2 c (m+1)).map fun v=>(⟨t,w.1⟩::v.1,v.2):=rfl
theorem Mt: ∀(n:Nat) (l:List ze) (c:Int) (left:Nat) (v:List zb×List ze),Gf n l c left=some v->v.2.length<=l.length/\(l≠[]->v.2.length<l.length)
 |0,_,_,_,_,h=>by cases h
 |n+1,[],c,left,v,h=>by
  rw[Gf]at h
  grind
 |n+1,t::r,c,left,v,h=>by
  rw[Ot]at h;have e:v.2.length<=r.length:=by
   split at h
   ·grind
   split at h
   ·cases a:Gf n r c left with
    |none=>grind
    |some w=>rw[a]at h;cases h;exact(Mt n r c left w a).1
   ·cases left with
    |zero=>cases h
    |succ m=>
     simp only at h;cases b:Gf n r (zJ t.kind) m with
     |none=>grind
     |some w=>
      rw[b,Aa]at h;cases a:Gf n w.2 c (m+1)with
      |none=>grind
      |some d=>
       rw[a]at h;cases h;have f:=(Mt n r _ m w b).1;have g:=(Mt n w.2 c _ d a).1
       grind
  grind
def aj(l:List ze)(s:PSt):Option (List zb):=(Sg l s).map fun s=>shutAll s.1 s.2
theorem pM(t:ze)(l:List ze)(s:PSt):aj (t::l) s=(bg s t).bind (aj l):=by unfold aj;rw[Sg];cases bg s t<;>rfl
theorem sw: ∀(n:Nat) (l:List ze) (cur:List zb) (o:ze) (a:List zb) (st:List (ze×List zb)) (left:Nat),l.length<n->zJ o.kind≠0->left+(st.length+1)=16->
  aj l (cur,(o,a)::st)=(Gf n l (zJ o.kind) left).bind fun v=>aj v.2 (a++[⟨o,cur++v.1⟩],st)
 |0,_,_,_,_,_,_,h,_,_=>by omega
 |n+1,[],cur,o,a,st,left,_,_,_=>by rw[Gf,Aa];simp only[aj,Sg,lc,shutAll,Cb]
 |n+1,t::r,cur,o,a,st,left,g,c,f=>by
  rw[Ka]at g;rw[Ot,pM];unfold bg;simp only[Nn];by_cases e:t.kind=zJ o.kind
  ·rw[Ia (by grind),Ia ⟨c,e⟩,Aa,Aa];simp only[Oj,Cb]
  ·rw[Fa (by grind),Fa (show¬(zJ o.kind≠0/\t.kind=zJ o.kind)from fun h=>e h.2)];by_cases b:zJ t.kind=0
   ·rw[Fa (show¬zJ t.kind≠0 from fun h=>h b),Ia b,Aa,sw n r _ o a st left (by omega) c f];cases Gf n r (zJ o.kind) left with
    |none=>rfl
    |some v=>grind
   ·rw[Ia b,Fa b];cases left with
    |zero=>grind
    |succ m=>
     rw[Fa (by grind),Aa];simp only;rw[sw n r [] t cur ((o,a)::st) m (by omega) b (by grind)];cases i:Gf n r (zJ t.kind) m with
     |none=>rfl
     |some w=>
      have d:=(Mt n r _ m w i).1;simp only[Aa];rw[sw n w.2 _ o a st (m+1) (by omega) c f];cases Gf n w.2 (zJ o.kind) (m+1)with
      |none=>rfl
      |some v=>grind
theorem ED: ∀(n:Nat) (l:List ze) (cur:List zb),l.length<n->aj l (cur,[])=(Gf n l 0 16).map fun v=>cur++v.1
 |0,_,_,h=>by omega
 |n+1,[],cur,_=>by rw[Gf];simp only[aj,Sg,lc,shutAll,Cb]
 |n+1,t::r,cur,c=>by
  rw[Ka]at c;rw[Ot,pM];unfold bg;simp only[Nn];rw[Fa (by decide),Fa (show¬((0:Int)≠0/\t.kind=0)from fun h=>h.1 rfl)];by_cases a:zJ t.kind=0
  ·rw[Fa (show¬zJ t.kind≠0 from fun h=>h a),Ia a,Aa,ED n r _ (by omega)];cases Gf n r 0 16 with
   |none=>rfl
   |some v=>grind
  ·rw[Ia a,Fa a,Fa (by decide),Aa];rw[sw n r [] t cur [] 15 (by omega) a rfl];cases d:Gf n r (zJ t.kind) 15 with
   |none=>rfl
   |some w=>
    have b:=(Mt n r _ 15 w d).1;simp only[Aa];rw[ED n w.2 _ (by omega)];cases Gf n w.2 0 16 with
    |none=>rfl
    |some v=>grind
theorem Uw: ∀(a b:List zb),tokL (a++b)=tokL a++tokL b
 |[],b=>by rw[tokL];rfl
 |v::a,b=>by rw[Ta,tokL,tokL,Uw a b,Oa]
theorem OC(v:zb):tokL [v]=tokV v:=by rw[tokL,tokL,Cb]
def Uh(s:PSt):Nat:=(tokL s.1).length+(s.2.map fun x=>1+(tokL x.2).length).sum
def Vu(s:PSt):Prop:= ∀x∈s.2,zJ x.1.kind≠0
theorem UY{s s':PSt}{t:ze}(h:bg s t=some s')(c:Vu s):Vu s'/\Uh s'=Uh s+1:=by
 unfold bg at h;obtain⟨g,f⟩:=s;split at h
 ·rename_i d;cases f with
  |nil=>cases d
  |cons x f=> obtain⟨o,e⟩:=x;cases h;have a:zJ o.kind≠0:=c (o,e) (ib ..);refine⟨fun x b=>c x (Lb _ b),?_⟩;simp only[Uh,Oj,Uw,OC,Ha,Oc,List.sum_cons,yn,Ka,Fa a,Ha,Kc,Jb];omega
 split at h
 ·rename_i d a;split at h
  ·cases h
  ·rename_i i;cases h;refine⟨fun x b=> ?_,?_⟩
   ·rcases Kb.1 b with rfl|b
    ·exact a
    ·exact c x b
   ·simp only[Uh,Oc,List.sum_cons,tokL,Jb];omega
 ·rename_i d a;cases h;refine⟨c,?_⟩;have a:zJ t.kind=0:=yc a;simp only[Uh,Uw,OC,Ha,yn,Ka,Ia a,Jb];omega
theorem yK: ∀(l:List ze) {s s':PSt},Sg l s=some s'->Vu s->Vu s'/\Uh s'=Uh s+l.length
 |[],s,s',h,b=>by cases h;grind
 |t::l,s,s',h,b=>by
  rw[Sg]at h;cases a:bg s t with
  |none=>grind
  |some g=>
   rw[a,Aa]at h;obtain⟨c,f⟩:=UY a b;obtain⟨e,d⟩:=yK l h c
   grind
theorem nM: ∀(st:List (ze×List zb)) (cur:List zb),(∀x∈st,zJ x.1.kind≠0)->(tokL (shutAll cur st)).length=Uh (cur,st)+st.length
 |[],cur,_=>by simp[shutAll,Uh]
 |(o,a)::st,cur,h=>by have c:zJ o.kind≠0:=h (o,a) (ib ..);rw[shutAll,nM st _ (fun x b=>h x (Lb _ b))];simp only[Uh,Uw,OC,Ha,yn,Ka,Fa c,Ha,Kc,Oc,List.sum_cons,Ka,Jb];omega
def xy(l:List ze)(c:Int)(left:Nat):Option (List zb×List ze):=Gf (l.length+1) l c left
def wtT:List ze->Nat
 |[]=>0
 |t::r=>1+t.text.length+t.unit.length+wtT r
theorem Ow: ∀(n:Nat) (l:List ze) (c:Int) (left:Nat) (v:List zb×List ze),Gf n l c left=some v->szL v.1+wtT v.2<=wtT l
 |0,_,_,_,_,h=>by cases h
 |n+1,[],c,left,v,h=>by
  rw[Gf]at h;cases h;rw[szL];exact Ua _
 |n+1,t::r,c,left,v,h=>by
  rw[Ot]at h;rw[wtT];split at h
  ·cases h;rw[szL];simp only;omega
  split at h
  ·cases a:Gf n r c left with
   |none=>rw[a]at h;cases h
   |some w=> rw[a]at h;cases h;have:=Ow n r c left w a;simp only[szL,szV];omega
  ·cases left with
   |zero=>cases h
   |succ m=>
    simp only at h;cases b:Gf n r (zJ t.kind) m with
    |none=>rw[b]at h;cases h
    |some w=>
     rw[b,Aa]at h;cases a:Gf n w.2 c (m+1)with
     |none=>rw[a]at h;cases h
     |some d=> rw[a]at h;cases h;have e:=Ow n w.2 c _ d a;have f:=Ow n r _ m w b;simp only[szL,szV];omega
theorem sH(l:List ze):(Sg l ([],[])).map (fun s=>shutAll s.1 s.2)=(xy l 0 16).map Prod.fst:=ED _ l [] (Nat.lt_succ_self _)
theorem TQ{l:List ze}{s:PSt}(h:Sg l ([],[])=some s):szL (shutAll s.1 s.2)<=wtT l:=by
 have a:=sH l;rw[h,lc]at a;cases b:xy l 0 16 with
 |none=>rw[b]at a;cases a
 |some v=> rw[b,lc]at a;injection a with a;have:=Ow _ _ _ _ v b;rw[a];omega
theorem UT(l:List ze):szL (parS l).1<=wtT l:=by
 unfold parS;split
 ·rw[szL];exact Vb _
 ·split
  ·rw[szL];exact Vb _
  ·rename_i s a;split
   ·rw[szL];exact Vb _
   ·exact TQ a
theorem Cy: ∀(n:Nat) (l:List ze) (c:Int) (left:Nat) (v:List zb×List ze),Gf n l c left=some v->shL v.1 c=true/\Hf v.1<=left/\(∀t∈v.2,t∈l)/\ ∀t∈tokL v.1,t∈l\/(t.text=[]/\t.unit=[])
 |0,_,_,_,_,h=>by cases h
 |n+1,[],c,left,v,h=>by
  rw[Gf]at h;cases h;exact⟨by rw[shL],by rw[Hf];grind,fun t a=>a,fun t a=>by rw[tokL]at a;cases a⟩
 |n+1,t::r,c,left,v,h=>by
  rw[Ot]at h;split at h
  ·cases h;exact⟨by rw[shL],by rw[Hf];grind,fun t a=>Lb _ a,fun t a=>by rw[tokL]at a;cases a⟩
  rename_i A;have j:(c != 0&&t.kind==c)=false:=by
   cases y:(c != 0&&t.kind==c)with
   |false=>rfl
   |true=>grind
  split at h
  ·rename_i b;cases e:Gf n r c left with
   |none=>grind
   |some w=>
    rw[e]at h;cases h;obtain⟨g,p,f,q⟩:=Cy n r c left w e;refine⟨?_,?_,fun t a=>Lb _ (f t a),fun u d=> ?_⟩
    ·rw[shL,shV,g,j,b];rfl
    ·rw[Hf,Ph,Ia b];omega
    ·rw[tokL,tokV,Ia b]at d
     grind
  ·rename_i b;cases left with
   |zero=>cases h
   |succ m=>
    simp only at h;cases i:Gf n r (zJ t.kind) m with
    |none=>grind
    |some w=>
     rw[i,Aa]at h;cases e:Gf n w.2 c (m+1)with
     |none=>grind
     |some k=>
      rw[e]at h;cases h;obtain⟨g,p,f,q⟩:=Cy n r _ m w i;obtain⟨o,B,x,z⟩:=Cy n w.2 c _ k e;have s:(zJ t.kind==0)=false:=Ja.2 b;refine⟨?_,?_,fun u d=>Lb _ (f u (x u d)),fun u d=> ?_⟩
      ·rw[shL,shV,g,o,j,s,Ib,Pd];rfl
      ·rw[Hf,Ph,Fa b];omega
      ·rw[tokL,tokV,Fa b,Ta,Oa]at d
       grind
theorem UX{l:List ze}(h:(parS l).2=0):errS (parS l).1=0/\ ∀t∈tokL (parS l).1,t∈l\/(t.text=[]/\t.unit=[]):=by
 unfold parS at h ⊢;split at h
 ·cases h
 rename_i k;rw[Fa k];split at h
 ·cases h
 rename_i s b;split at h
 ·cases h
 rename_i m;rw[Fa m];have a:=sH l;rw[b,lc]at a;cases d:xy l 0 16 with
 |none=>grind
 |some v=>
  rw[d,lc]at a;injection a with a;obtain⟨p,n,o,i⟩:=Cy _ _ _ _ _ d;obtain⟨e,j⟩:=yK l b (fun x g=>by cases g);have c:=nM s.2 s.1 e;have f:Uh (s.1,s.2)=l.length:=by rw[show(s.1,s.2)=s from rfl,j];simp[Uh,tokL]
  rw[f]at c;simp only[a]at c ⊢;refine⟨?_,i⟩;unfold errS
  grind
theorem RD(r:Str):(zo r).1.length+3*(zo r).2.length<=3*r.length+3:=by
 have h4:=Jt r;cases r with
 |nil=>exact Ua _
 |cons c t=>
  have h:(zo (c::t)).2.length<=t.length:=by
   show(if qY c then(Cg (hexes 6 0 (c::t)).1,unsp (hexes 6 0 (c::t)).2)else([c],t)).2.length<=t.length;cases hc:qY c with
   |true=>
    have e:hexes 6 0 (c::t)=hexes 5 (16*0+hexN c) t:=by rw[hexes,hc,Ia rfl]
    rw[Ia rfl,e];exact((GJ _).trans (Et 5 _ t)).length_le
   |false=>exact Ua _
  rw[Ka];omega
theorem Eo(l:Str):(zm l).1.length+3*(zm l).2.length<=3*l.length:=by
 match l with
 |[]=>rw[qA];exact Ua _
 |c::r=>
  rw[zP];split
  ·have:=Eo r;show(c::(zm r).1).length+3*(zm r).2.length<=_;rw[Ka,Ka];omega
  ·split
   ·have h1:=zX r;have h2:=RD r;have:=Eo (zo r).2;show((zo r).1++(zm (zo r).2).1).length+3*(zm (zo r).2).2.length<=_;rw[Ha,Ka];omega
   ·show 0+3*(c::r).length<=_;omega
termination_by l.length
decreasing_by
 all_goals first|(have:=zX r;simp only[Ka];omega)|(simp only[Ka];omega)
theorem Nu{u:Str}{o:Option Str}{t:Str}{k:Nat}(h:o.map (u++ ·)=some t)(hk: ∀t',o=some t'->t'.length<=k):t.length<=u.length+k:=by
 cases o with
 |none=>cases h
 |some t'=> injection h with h;rw[<-h,Ha];have:=hk t' rfl;omega
theorem Yw{m:UInt8}{q t:Str}(h:(zV m q).1=some t):t.length+3*(zV m q).2.length<=3*q.length:=by
 match q with
 |[]=>rw[Um]at h ⊢;cases h;exact Ua _
 |c::r=>
  rw[qV]at h ⊢;rw[Ka];split
  ·rename_i h1;rw[Ia h1]at h;cases h;show 0+3*r.length<=_;omega
  ·rename_i h1;rw[Fa h1]at h;split
   ·rename_i h2;rw[Ia h2]at h;cases h
   ·rename_i h2;rw[Fa h2]at h;split
    ·rename_i h3;rw[Ia h3]at h;split
     ·rename_i h4;rw[Ia h4]at h;cases h;show 0+3*0<=_;omega
     ·rename_i h4;rw[Fa h4]at h;split
      ·rename_i h5;rw[Ia h5]at h;have:=Yw (q:=r.drop 1) h;rw[Pb]at this;omega
      ·rename_i h5;rw[Fa h5]at h;have h6:=zX r;have h7:=RD r;have:=Nu (k:=3*(zo r).2.length - 3*(zV m (zo r).2).2.length) h (fun t' ht'=>by have:=Yw ht';omega);have h8:=(Tp m (zo r).2).length_le;show t.length+3*(zV m (zo r).2).2.length<=_;omega
    ·rename_i h3;rw[Fa h3]at h;have:=Nu (u:=[c]) (k:=3*r.length - 3*(zV m r).2.length) h (fun t' ht'=>by have:=Yw ht';omega);have h8:=(Tp m r).length_le;rw[Kc]at this;show t.length+3*(zV m r).2.length<=_;omega
termination_by q.length
decreasing_by
 all_goals first|(have:=zX r;simp only[Ka];omega)|(simp only[Ka,Pb];omega)
theorem iy{q t:Str}(h:(urlS q).1=some t):t.length+3*(urlS q).2.length<=3*q.length:=by
 match q with
 |[]=>rw[ol]at h ⊢;cases h;exact Ua _
 |c::r=>
  rw[Jj]at h ⊢;rw[Ka];split
  ·rename_i h1;rw[Ia h1]at h;cases h;show 0+3*r.length<=_;omega
  ·rename_i h1;rw[Fa h1]at h;split
   ·rename_i h2;rw[Ia h2]at h;have hp:=(Pk spB r).length_le;split
    ·rename_i h3;rw[h3]at h;cases h;show 0+3*0<=_;omega
    ·rename_i d r' h3;rw[h3]at h hp;rw[Ka]at hp;simp only at h;split
     ·rename_i h4;rw[Ia h4]at h;cases h;show 0+3*r'.length<=_;omega
     ·rename_i h4;rw[Fa h4]at h;cases h
   ·rename_i h2;rw[Fa h2]at h;split
    ·rename_i h3;rw[Ia h3]at h;cases h
    ·rename_i h3;rw[Fa h3]at h;split
     ·rename_i h5;rw[Ia h5]at h;have h6:=zX r;have h7:=RD r;have:=Nu (k:=3*(zo r).2.length - 3*(urlS (zo r).2).2.length) h (fun t' ht'=>by have:=iy ht';omega);have h8:=(Yn (zo r).2).length_le;show t.length+3*(urlS (zo r).2).2.length<=_;omega
     ·rename_i h5;rw[Fa h5]at h;have:=Nu (u:=[c]) (k:=3*r.length - 3*(urlS r).2.length) h (fun t' ht'=>by have:=iy ht';omega);have h8:=(Yn r).length_le;rw[Kc]at this;show t.length+3*(urlS r).2.length<=_;omega
termination_by q.length
decreasing_by
 all_goals first|(have:=zX r;simp only[Ka];omega)|(simp only[Ka];omega)
theorem rP(c:UInt8)(r:Str):(Zy (c::r)).1.text.length+(Zy (c::r)).1.unit.length+3*(Zy (c::r)).2.length<=3*(r.length+1):=by
 have hs:=(Ni c r).length_le;rw[Om]at hs ⊢;split
 ·rename_i h1;rw[Ia h1]at hs;simp only[uf,Jb]at hs ⊢;omega
 rename_i h1;rw[Fa h1]at hs;split
 ·rename_i h2;rw[Ia h2]at hs;simp only at hs ⊢;cases ho:(zV c r).1 with
  |none=>show 0+0+_<=_;omega
  |some t=>have:=Yw ho;show t.length+0+_<=_;omega
 rename_i h2;rw[Fa h2]at hs;split
 ·have:=Eo r;simp only[Jb];omega
 rename_i h3;rw[Fa h3]at hs;split
 ·rename_i h4;have h5:=(uM h4).length_le;rw[Ia h4]at hs;unfold zG at hs ⊢;split
  ·have:=Eo (zI (c::r)).1;simp only[Jb];omega
  ·rename_i h6;rw[Fa h6]at hs;split
   ·rename_i h7;rw[Ia h7]at hs;simp only[Jb]at hs ⊢;omega
   ·rename_i h7;rw[Fa h7]at hs;simp only[Jb]at hs ⊢;omega
 rename_i h4;rw[Fa h4]at hs;split
 ·rename_i h5;rw[Ia h5]at hs;simp only[uf,Jb]at hs ⊢;omega
 rename_i h5;rw[Fa h5]at hs;split
 ·rename_i h6;rw[Ia h6]at hs;simp only[uf,Jb]at hs ⊢;omega
 rename_i h6;rw[Fa h6]at hs;split
 ·have:=Eo r;simp only[Jb];omega
 rename_i h7;rw[Fa h7]at hs;split
 ·have hn:=Eo (c::r);rw[Ka]at hn;unfold qC;split
  ·split
   ·have h8:=(Pk spB ((zm (c::r)).2.drop 1)).length_le;have h9:=(Yn (past spB ((zm (c::r)).2.drop 1))).length_le;rw[Pb]at h8;simp only;cases ho:(urlS (past spB ((zm (c::r)).2.drop 1))).1 with
    |none=>show 0+0+_<=_;omega
    |some t=>have:=iy ho;show t.length+0+_<=_;omega
   ·simp only[Jb,Pb];omega
  ·simp only[Jb];omega
 split
 ·simp only[Jb,Kc];omega
 ·simp only[uf,Jb];omega
theorem OH(q:Str):wtT (qB q)<=5*q.length:=by
 cases hc:cmtS q with
 |nil=>rw[Q6 hc,wtT];exact Vb _
 |cons c r=>
  have h2:=(mi q).length_le;have h3:=(Ni c r).length_le;rw[hc,Ka]at h2;rw[QV hc,wtT];have h4:(Zy (c::r)).2.length<q.length:=by omega
  have:=OH (Zy (c::r)).2;have:=rP c r;omega
termination_by q.length
decreasing_by all_goals omega
theorem LZ{α:Type}(l:List α):((l.length:Int)==0)=l.isEmpty:=by
 cases l with
 |nil=>rfl
 |cons a l=>exact Ja.2 (by simp only[Ka];omega)
theorem Ht(v:zb):(⟨v.token,v.list⟩:zb)=v:=by cases v;rfl
def Ri(x:Str):Bool:= !(x==[])&&(decide (x.length<=64)&&(Zt x&&(bif List.isPrefixOf [45,45] x then !(x==[45,45])else lowS x==x)))
theorem U4{x:Str}(h:x.length<=big):Rm x=some (Ri x):=by
 have e:decide ((x.length:Int)>64)= !decide (x.length<=64):=rG _ 64;have e1:decide (Lib.indexByte x (0:Int).toNat.toUInt8>=0)= !Zt x:=yA x;have ec:=lX x (lowS x);unfold Rm Ri;simp only[Xp,QB,zg,Aa,qR,ax h,e,ec];cases x==[]<;>cases decide (x.length<=64)<;>try rfl
 simp only[Ea,Da,Ib,Xa,Ab,He,e1];cases Zt x<;>cases List.isPrefixOf [45,45] x<;>rfl
def clK(v:zb):Bool:=v.token.kind==20||(v.token.kind==22||v.token.kind==24)
mutual
def clV:zb->Bool
 |⟨t,l⟩=>clK ⟨t,l⟩||clL l
def clL:List zb->Bool
 |[]=>false
 |v::r=>clV v||clL r
end
theorem CR(v:zb):clV v=(clK v||clL v.list):=by obtain⟨t,l⟩:=v;rw[clV]
theorem vI(l:List zb):clL l=l.any clV:=by
 induction l with
 |nil=>rw[clL];rfl
 |cons v l ih=>rw[clL,ih];rfl
theorem I6{l:List zb}(h:szL l<=big):zk l=some (clL l):=by
 refine Px (fun l=>szL l) (fun l=>szL l<=big) (fun l=>clL l) (fun S l hl hS=> ?_) h;have hlen:=Yh l;unfold QC Zj ZF;have:=fJ (UK (step:=fun(s1:Int)=>
   bif decide (s1<(l.length:Int))then
    zg (geti l s1) fun y2=>
    zg (qz S (⟨y2.token,y2.list⟩:zb)) fun y3=>
    bif y3 then some (LO.ret s1)else some (LO.again (w64 (s1+1)))
   else some (LO.out ())) l clV (by omega) (fun i hi=> ?_) ?_) (NC _ _)
 ·rw[this,vI];rfl
 ·have hsz:=Ao (Gd hi);have hv2:=Yi l[i];have hs:=hS l[i].list (by omega) (by omega);have:qz S l[i]=some (clV l[i]):=by unfold qz Zm;simp only[Ht,QB,zg,Aa,hs,CR,clK];cases l[i].token.kind==20<;>cases l[i].token.kind==22<;>cases l[i].token.kind==24<;>rfl
  simp only[Dh hi,Ea,qI hi,zg,Aa,Ht,this]
 ·simp only[uj,Da]
def Gl(l:List zb):Bool:=match l with
 |[]=>false
 |v::r=>isSp v||isSp ((v::r).getLast (by simp))
theorem wY(t:List zb)(v:zb):Gl (t++[v])=((match t with|[]=>isSp v|a::_=>isSp a)||isSp v):=by
 cases t with
 |nil=>rfl
 |cons a t=> show(isSp a||isSp ((a::(t++[v])).getLast _))=_;congr 2;have:(a::(t++[v]))=(a::t)++[v]:=rfl;simp only[this,List.getLast_append_of_ne_nil,List.getLast_singleton,ne_eq,reduceCtorEq,Mf]
theorem LY{l:List zb}(h:l.length<=big)(g:Bool)(hg:(l.isEmpty&&g)=false)(k:Bool->Option Int):
  (zg (zx (decide ((l.length:Int)>0)&& !g) (geti l 0) (default:zb)) fun y7=>
   zg (zx (decide ((l.length:Int)>0)&& !g) (Zm ((⟨y7.token,y7.list⟩:zb),13)) (default:Bool)) fun y8=>
   zg (zx (!y8&&(decide ((l.length:Int)>0)&& !g)) (geti l (w64 ((l.length:Int) - 1))) (default:zb)) fun y9=>
   zg (zx (!y8&&(decide ((l.length:Int)>0)&& !g)) (Zm ((⟨y9.token,y9.list⟩:zb),13)) (default:Bool)) fun y10=>
   k (bif decide ((l.length:Int)>0)then bif y8 then true else y10 else false))=(if g=true/\l≠[]then(k (bif decide ((l.length:Int)>0)then bif (default:Bool)then true else(default:Bool)else false))else k (Gl l)):=by
 cases l with
 |nil=> have:decide ((([]:List zb).length:Int)>0)=false:=rfl;simp only[this,Nb,ZH,zg,Aa,Pd,Da,ne_eq,not_true_eq_false,and_false,Ld,Gl]
 |cons v r=>
  have e1:decide (((v::r).length:Int)>0)=true:=Ga (by simp only[Ka];omega);have e2:geti (v::r) 0=some v:=rfl;cases g with
  |true=>simp only[e1,Ib,Pd,ZH,zg,Aa,Ea,ne_eq,reduceCtorEq,Mf,and_self,jd]
  |false=>
   simp only[e1,Xa,Sb,zS,zg,Aa,Ea,e2,Zm,false_and,Ld,reduceCtorEq];have e3:w64 (((v::r).length:Int) - 1)=(r.length:Int):=by rw[Ka]at h ⊢;rw[w64,Qg (by omega) (by unfold big at h;omega)];omega
   have e4:geti (v::r) (r.length:Int)=some ((v::r).getLast (by simp)):=by rw[qI (by simp),List.getLast_eq_getElem];simp
   rw[e3,e4];simp only[QB,Aa,Gl,isSp];cases v.token.kind==13<;>rfl
def badV(v:zb):Bool:=v.token.kind==17||(v.token.kind==9&&v.token.text==[33])
def Wm(custom:Bool)(l:List zb):Bool:= !(l.any badV)&&(!(l.isEmpty&& !custom)&& !Gl l)
def mf(d:zT):Bool:=Ri d.name&&(errS d.value==0&&(gluS (tokL d.value)==0&&(!clL d.value&&Wm (List.isPrefixOf [45,45] d.name) d.value)))
mutual
theorem CV: ∀(v:zb) (t:ze),t∈tokV v->t.text.length<=szV v/\t.unit.length<=szV v
 |⟨t,l⟩,u,h=>by
  rw[tokV]at h;rw[szV];rcases Kb.1 h with rfl|h
  ·constructor<;>omega
  ·split at h
   ·cases h
   ·rcases Ed.1 h with h|h
    ·have:=Tw l u h;omega
    ·obtain rfl:=Ad.1 h;exact⟨Vb _,Vb _⟩
theorem Tw: ∀(l:List zb) (t:ze),t∈tokL l->t.text.length<=szL l/\t.unit.length<=szL l
 |[],_,h=>by rw[tokL]at h;cases h
 |v::r,u,h=>by
  rw[tokL]at h;rw[szL];rcases Ed.1 h with h|h
  ·have:=CV v u h;omega
  ·have:=Tw r u h;omega
end
theorem MW{l:List zb}(h:szL l<=big):QE (tokL l)=some (gluS (tokL l)):=
 BO fun t ht=>by have:=Tw l t ht;omega
theorem yZ{l:List zb}(h:l.length<=big):z8 l=some (l.any badV):=by
 unfold z8 Zn;refine fJ (UK l badV h (fun i hi=> ?_) ?_) (NC _ _)
 ·have:Yp l[i]=some (badV l[i]):=by unfold Yp Ij Zm badV;simp only[Ht,QB,zg,Aa];cases l[i].token.kind==17<;>cases l[i].token.kind==9<;>rfl
  simp only[Dh hi,Ea,qI hi,zg,Aa,Ht,this]
 ·simp only[uj,Da]
theorem uE{d:zT}(hv:szL d.value<=big)(hn:d.name.length<=big):zW d=some (bif mf d then 0 else 8):=by
 have hlen:=Yh d.value;unfold zW mf;rw[U2 hv];simp only[zg,Aa,U4 hn];cases Ri d.name with
 |false=>simp only[Xa,Ea,Ib,ZH,Aa,Nb,Da]
 |true=>
  by_cases he:errS d.value=0
  ·rw[Ia he];have he':(errS d.value==0)=true:=Db.2 he;have this:((0:Int)==0)=true:=rfl;simp only[he',this,Ib,Da,Xa,zS,MW hv,Aa,Ab,bne];cases hg:gluS (tokL d.value)==0 with
   |false=>simp only[Xa,Ea,Ib,ZH,Aa,Nb,Da]
   |true=>
    simp only[Ib,Da,Xa,zS,I6 hv,Aa,Ab];cases clL d.value with
    |true=>rfl
    |false=>
     simp only[Da,yZ (show d.value.length<=big by omega),Aa,Wm,Xa,Ab];cases d.value.any badV with
     |true=>rfl
     |false=>
      simp only[Da,qR,QB,Aa,LZ,Xa,Ab];have hp:=LY (l:=d.value) (by omega) (bif d.value.isEmpty then !(bif d.value.isEmpty then List.isPrefixOf [45,45] d.name else default)else false);cases hd:d.value with
      |nil=>
       cases List.isPrefixOf [45,45] d.name<;>rfl
      |cons v r=> have hp':=hp (by rw[hd];rfl) (fun b=>bif b then some 8 else some 0);rw[hd]at hp';simp only[List.isEmpty_cons,Da,Ob,false_and,Ld]at hp';simp only[List.isEmpty_cons,Da,Nb,Xa,Ab];refine Eq.trans hp' ?_;cases Gl (v::r)<;>rfl
  ·rw[Fa he];have he':(errS d.value==0)=false:=Ja.2 he;simp only[he',bne,Ib,Da,Xa,Ea,ZH,Aa,Nb,Pd]
def jg(l:List zb):Prop:= ∀t v,l=t++[v]->isSp v=false
def Bh(l:List zb):Prop:= ∀a t,l=a::t->isSp a=false
theorem jg.suf{a b:List zb}(h:jg (a++b)):jg b:=fun t v e=>h (a++t) v (by rw[e,Oa])
theorem jg.id{l:List zb}(h:jg l):trimB l=l:=by
 rcases Dp l with rfl|⟨t,v,rfl⟩
 ·rfl
 ·rw[Ey,h t v rfl];rfl
theorem NL(l:List zb):jg (trimB l):=by
 obtain⟨r,_,_,h|⟨t,v,h,hv⟩⟩:=wM l
 ·intro t v e;rw[h]at e;simp at e
 ·intro t' v' e;rw[h]at e;have:=List.append_inj_right' e rfl;injection this with e1;rw[<-e1];exact hv
theorem Bh.pre{a b:List zb}(h:Bh (a++b)):Bh a:=fun x t e=>h x (t++b) (by rw[e];rfl)
theorem Bh.id{l:List zb}(h:Bh l):l.dropWhile isSp=l:=by
 cases l with
 |nil=>rfl
 |cons a t=>rw[De,h a t rfl];rfl
theorem uR(l:List zb):Bh (l.dropWhile isSp):=by obtain⟨a,_,_,h⟩:=rD l;exact fun x b e=>h x b e
theorem xG(l:List zb): ∃a,l=a++l.dropWhile isSp:=by obtain⟨a,h,_⟩:=rD l;exact⟨a,h⟩
theorem ML(l:List zb): ∃r,l=trimB l++r:=by obtain⟨r,h,_⟩:=wM l;exact⟨r,h⟩
theorem BV{l:List zb}(h1:Bh l)(h2:jg l):trimS l=l:=by unfold trimS;rw[h1.id,h2.id]
theorem left_eq{l:List zb}:Sm l=some (l.dropWhile isSp):=by
 unfold Sm Zm;refine(Bi (r:= .out (l.dropWhile isSp)) (ZT (fun s=>s.dropWhile isSp=l.dropWhile isSp) (fun s=>s.length) _ (fun s hs=> ?_) rfl)).trans ?_
 ·cases s with
  |nil=>exact .inr (.inl ⟨[],by simp,by rw[<-hs];rfl⟩)
  |cons v t=>
   have h1:decide (((v::t).length:Int)>0)=true:=by rw[UB];simp
   have h2:geti (v::t) 0=some v:=rfl;have h3:decide ((1:Int)<=((v::t).length:Int))=true:=by simp;omega
   rw[De]at hs;cases hv:isSp v with
   |true=> rw[hv]at hs;unfold isSp at hv;refine .inl ⟨t,?_,by simpa using hs,by simp⟩;simp only[h1,h2,h3,zS,zg,Aa,hv,Ea,zR];rfl
   |false=> rw[hv]at hs;unfold isSp at hv;refine .inr (.inl ⟨v::t,?_,by rw[<-hs];rfl⟩);simp only[h1,h2,zS,zg,Aa,hv,Ea,Da]
 ·rw[zke]
theorem right_eq{d:List zb}(hd:szL d<=big):QZ d=some (trimB d):=by
 unfold QZ Zm;refine(Bi (r:= .out (trimB d)) (ZT (fun s=>trimB s=trimB d/\szL s<=big) (fun s=>s.length) _ (fun s hs=> ?_) ⟨rfl,hd⟩)).trans ?_
 ·rcases Dp s with rfl|⟨t,v,rfl⟩
  ·exact .inr (.inl ⟨[],by simp,by rw[<-hs.1];rfl⟩)
  ·have hlen:=Yh (t++[v]);have hl2:(t++[v]).length=t.length+1:=by simp
   have hb:=hs.2;unfold big at hb;have h1:decide (((t++[v]).length:Int)>0)=true:=by rw[UB];simp
   have h4:w64 (((t++[v]).length:Int) - 1)=(t.length:Int):=by rw[w64,Qg (by omega) (by omega)];omega
   have h2:geti (t++[v]) (t.length:Int)=some v:=by rw[qI (by omega)];simp
   have h3:(decide ((0:Int)<=(t.length:Int))&&decide ((t.length:Int)<=((t++[v]).length:Int)))=true:=by simp;omega
   have hs1:=hs.1;rw[Ey]at hs1;cases hv:isSp v with
   |true=> rw[Ia hv]at hs1;unfold isSp at hv;refine .inl ⟨t,?_,⟨hs1,Ub (ui (List.sublist_append_left t [v])) hs.2⟩,by simp⟩;simp only[h1,h4,h2,h3,zS,zg,Aa,hv,Ea,zR,Va];simp
   |false=> rw[Fa (by rw[hv];simp)]at hs1;unfold isSp at hv;refine .inr (.inl ⟨t++[v],?_,by rw[<-hs1]⟩);simp only[h1,h4,h2,zS,zg,Aa,hv,Ea,Da]
 ·rw[zke]
def Sq(v:zb):Bool:=v.token.kind==9&&v.token.text==[33]
theorem fT(v:zb):Ij v=some (Sq v):=by unfold Ij Zm Sq;simp only[zg,Aa];cases v.token.kind==9<;>rfl
def impW:Str:=[105,109,112,111,114,116,97,110,116]
def endV(l:List zb):Option (List zb×zb):=match l.reverse with
 |[]=>none
 |v::t=>some (t.reverse,v)
theorem UD(t:List zb)(v:zb):endV (t++[v])=some (t,v):=by unfold endV;rw[List.reverse_append];simp
def Nh(v:List zb):List zb×Bool:=match endV v with
 |none=>(v,false)
 |some (t,z)=>bif !t.isEmpty&&(z.token.kind==1&&lowS z.token.text==impW)then
   (match endV (trimB t)with
   |none=>(v,false)
   |some (u,b)=>bif Sq b then(trimB u,true)else(v,false))
  else(v,false)
theorem bI{t:List zb}{v:zb}(h:szL (t++[v])<=big):w64 (((t++[v]).length:Int) - 1)=(t.length:Int):=by
 have hlen:=Yh (t++[v]);have hl2:(t++[v]).length=t.length+1:=by simp
 unfold big at h;rw[w64,Qg (by omega) (by omega)];omega
theorem RI(t:List zb)(v:zb):geti (t++[v]) (t.length:Int)=some v:=by rw[qI (by simp)];simp
theorem WI(t:List zb)(v:zb):(decide ((0:Int)<=(t.length:Int))&&decide ((t.length:Int)<=((t++[v]).length:Int)))=true:=by simp;omega
theorem GI(t:List zb)(v:zb):List.take t.length (t++[v])=t:=by simp
theorem DT:lowS [105,109,112,111,114,116,97,110,116]=impW:=by decide+kernel
theorem JI{t:List zb}{v:zb}(h:szL (t++[v])<=big):szL t<=big/\v.token.text.length<=big:=by rw[mD,szL,Yi]at h;omega
theorem yJ(t:List zb):decide ((t.length:Int)>0)= !t.isEmpty:=by
 cases t with
 |nil=>rfl
 |cons a t=>exact Ga (by simp only[Ka];omega)
abbrev MK:=LX (List zb×(Str×Bool)×(Str×Bool)) (zT×Bool)
theorem RX{v:List zb}{nm:Str}(hv:szL v<=big):(
  zg (zx (decide (w64 ((v.length:Int) - 1)>0)) (geti v (w64 ((v.length:Int) - 1))) (default:zb)) fun y13=>
  zg (zx (decide (w64 ((v.length:Int) - 1)>0)) (Zm ((⟨y13.token,y13.list⟩:zb),1)) (default:Bool)) fun y14=>
  zg (zx (bif decide (w64 ((v.length:Int) - 1)>0)then y14 else false) (geti v (w64 ((v.length:Int) - 1))) (default:zb)) fun y15=>
  zg (zx (bif decide (w64 ((v.length:Int) - 1)>0)then y14 else false) (qi (y15.token.text,[105,109,112,111,114,116,97,110,116])) (default:Bool)) fun y16=>
  bif bif bif decide (w64 ((v.length:Int) - 1)>0)then y14 else false then y16 else false then
   need (decide (0<=w64 ((v.length:Int) - 1))&&decide (w64 ((v.length:Int) - 1)<=(v.length:Int)))<|
   zg (QZ (List.take (w64 ((v.length:Int) - 1)).toNat v)) fun y17=>
   zg (zx (decide ((y17.length:Int)>0)) (geti y17 (w64 ((y17.length:Int) - 1))) (default:zb)) fun y18=>
   zg (zx (decide ((y17.length:Int)>0)) (Ij (⟨y18.token,y18.list⟩:zb)) (default:Bool)) fun y19=>
   bif bif decide ((y17.length:Int)>0)then y19 else false then
    need (decide (0<=w64 ((y17.length:Int) - 1))&&decide (w64 ((y17.length:Int) - 1)<=(y17.length:Int)))<|
    zg (QZ (List.take (w64 ((y17.length:Int) - 1)).toNat y17)) fun y20=>
    some (LX.out (y20,(([]:Str),false),(nm,true)))
   else
    some (LX.out (v,(([]:Str),false),(nm,false)))
  else
   some (LX.out (v,(([]:Str),false),(nm,false))))=(some (LX.out ((Nh v).1,(([]:Str),false),(nm,(Nh v).2))):Option MK):=by
 rcases Dp v with rfl|⟨t,z,rfl⟩
 ·rfl
 ·obtain⟨ht,hz⟩:=JI hv;unfold Nh;rw[UD];simp only[bI hv,yJ];cases he:t.isEmpty with
  |true=>simp only[Ib,ZH,zg,Aa,Da,Nb]
  |false=>
   simp only[Xa,zS,RI,Zm,zg,Aa,Ea,Ab];cases hk:z.token.kind==1 with
   |false=>simp only[ZH,Aa,Da,Nb]
   |true=>
    simp only[zS,Aa,dx hz (show([105,109,112,111,114,116,97,110,116]:Str).length<=big by decide),DT,Ea,Ab];cases ha:lowS z.token.text==impW with
    |false=>simp only[Da]
    |true=>
     simp only[Ea,WI,zR,Va,GI,right_eq ht,Aa,yJ];have hw:szL (trimB t)<=big:=Ub (ui (jo t)) ht;obtain⟨w,hwd⟩: ∃w,trimB t=w:=⟨_,rfl⟩;rw[hwd]at hw;simp only[hwd];rcases Dp w with rfl|⟨u,b,rfl⟩
     ·rfl
     ·have hne:(u++[b]).isEmpty=false:=by cases u<;>rfl
      rw[UD];simp only[hne,Xa,zS,bI hw,RI,Aa,Ht,fT,Ea];cases hb:Sq b with
      |false=>simp only[Da]
      |true=>simp only[Ea,WI,zR,Va,GI,right_eq (JI hw).1,Aa]
def nmD(s:Str):Str:=bif List.isPrefixOf [45,45] s then s else lowS s
def noD:zT×Bool:=(⟨[],[],false⟩,false)
def oneS(x:List zb):zT×Bool:=match trimS x with
 |[]=>noD
 |n::r=>bif n.token.kind==1 then
   (match r.dropWhile isSp with
   |[]=>noD
   |c::q=>bif c.token.kind==16 then
     (bif mf ⟨nmD n.token.text,(Nh (q.dropWhile isSp)).1,(Nh (q.dropWhile isSp)).2⟩then(⟨nmD n.token.text,(Nh (q.dropWhile isSp)).1,(Nh (q.dropWhile isSp)).2⟩,true)else noD)
    else noD)
  else noD
theorem UL{v:List zb}{t:List zb}{z:zb}(h:endV v=some (t,z)):v=t++[z]:=by
 rcases Dp v with rfl|⟨t',z',rfl⟩
 ·cases h
 ·rw[UD]at h;cases h;rfl
theorem wS{v:List zb}(h1:Bh v)(h2:jg v):Bh (Nh v).1/\jg (Nh v).1/\(Nh v).1.Sublist v:=by
 unfold Nh;split
 ·exact⟨h1,h2,List.Sublist.refl _⟩
 ·rename_i t z he;have hv:=UL he;cases !t.isEmpty&&(z.token.kind==1&&lowS z.token.text==impW)with
  |false=>exact⟨h1,h2,List.Sublist.refl _⟩
  |true=>
   rw[Ea];split
   ·exact⟨h1,h2,List.Sublist.refl _⟩
   ·rename_i u b hb;have hw:=UL hb;cases Sq b with
    |false=>exact⟨h1,h2,List.Sublist.refl _⟩
    |true=>
     rw[Ea];have hht:Bh t:=by rw[hv]at h1;exact h1.pre
     have hhw:Bh (trimB t):=by obtain⟨r,hr⟩:=ML t;rw[hr]at hht;exact hht.pre
     have hhu:Bh u:=by rw[hw]at hhw;exact hhw.pre
     refine⟨?_,NL u,?_⟩
     ·obtain⟨r,hr⟩:=ML u;rw[hr]at hhu;exact hhu.pre
     ·refine(jo u).trans ((List.sublist_append_left u [b]).trans ?_);rw[<-hw];refine(jo t).trans ?_;rw[hv];exact List.sublist_append_left t [z]
theorem yS(s:Str):(lowS s).length=s.length:=by unfold lowS;simp
theorem nP(s:Str):(nmD s).length=s.length:=by
 unfold nmD;cases List.isPrefixOf [45,45] s
 ·exact yS s
 ·rfl
theorem WK(n:zb)(r:List zb):(((n::r).length:Int)==0)=false:=Ja.2 (by simp only[Ka];omega)
theorem bH(n:zb)(r:List zb):decide ((1:Int)<=((n::r).length:Int))=true:=Ga (by simp only[Ka];omega)
theorem aJ(n:zb)(r:List zb):geti (n::r) 0=some n:=rfl
theorem xY{x:List zb}(h:szL x<=big){n:zb}{r:List zb}(hy:trimS x=n::r):n.token.text.length<=big/\szL r<=big/\jg r/\
  ∀{c:zb} {q:List zb},r.dropWhile isSp=c::q->szL (q.dropWhile isSp)<=big/\Bh (q.dropWhile isSp)/\jg (q.dropWhile isSp):=by
 have hsz:=AV x;have he:jg (trimS x):=NL _;rw[hy]at hsz he;rw[szL,Yi]at hsz;have her:jg r:=he.suf (a:=[n]);refine⟨by omega,by omega,her,fun {c q} hq=> ?_⟩;obtain⟨a,ha⟩:=xG r;rw[hq]at ha;obtain⟨b,hb⟩:=xG q;refine⟨?_,uR q,?_⟩
 ·have h1:=ui (Xe isSp (l:=q));rw[ha,mD,szL]at hsz;omega
 ·rw[ha,hb]at her;exact jg.suf (a:=a++c::b) (by rw[Oa];exact her)
theorem uZ{x:List zb}(h:szL x<=big):Yl x=some (oneS x):=by
 have hdw:szL (x.dropWhile isSp)<=big:=Ub (ui (Xe _)) h;unfold Yl oneS;simp only[left_eq,right_eq hdw,zg,Aa,show trimB (x.dropWhile isSp)=trimS x from rfl];cases hy:trimS x with
 |nil=>rfl
 |cons n r=>
  obtain⟨hn,hr,_,hp⟩:=xY h hy;simp only[WK,Xa,zS,aJ,Aa,Zm,Da];cases hk:n.token.kind==1 with
  |false=>simp only[Xa,Ea,Da];rfl
  |true=>
   simp only[Ib,Da,Ea];have hj:((strings_HasPrefix (n.token.text,[45,45])).bind fun y6=>bif !y6 then(Z5 n.token.text).bind fun y7=>some (LX.out (n::r,(([]:Str),false),(y7,false)))else some (LX.out (n::r,([],false),(n.token.text,false))))=(some (LX.out (n::r,([],false),(nmD n.token.text,false))):Option MK):=by rw[qR,Aa,ax hn];unfold nmD;cases List.isPrefixOf [45,45] n.token.text<;>rfl
   rw[hj,zh];simp only[bH,zR,show List.drop 1 (n::r)=r from rfl];cases hq:r.dropWhile isSp with
   |nil=>rfl
   |cons c q=>
    obtain⟨hv,hh,he⟩:=hp hq;simp only[WK,Xa,zS,aJ,Aa,Da];cases hc:c.token.kind==16 with
    |false=>simp only[Xa,Ea,Da];rfl
    |true=>
     simp only[Ib,Da,Ea,bH,zR,show List.drop 1 (c::q)=q from rfl];obtain⟨v,hvd⟩: ∃v,q.dropWhile isSp=v:=⟨_,rfl⟩;rw[hvd]at hv hh he;simp only[hvd];have hm:=RX (nm:=nmD n.token.text) hv;simp only[zg,Zm]at hm;rw[hm,zh];obtain⟨h1,h2,h3⟩:=wS hh he;obtain⟨w,hw⟩: ∃w,Nh v=w:=⟨_,rfl⟩;rw[hw]at h1 h2 h3;simp only[hw];have hws:szL w.1<=big:=Ub (ui h3) hv;rw[OX hws,Aa];by_cases he0:errS w.1=0
     ·rw[Ia he0,BV h1 h2];simp only[show((0:Int) != 0)=false from rfl,Xa,zS,Da];rw[uE (d:=⟨nmD n.token.text,w.1,w.2⟩) hws (by rw[nP];exact hn),Aa];cases mf ⟨nmD n.token.text,w.1,w.2⟩<;>rfl
     ·have he1:(errS w.1 != 0)=true:=Ef.2 he0;have he2:mf ⟨nmD n.token.text,w.1,w.2⟩=false:=by unfold mf;simp only[show(errS w.1==0)=false from Ja.2 he0,Nb,Pd]
      rw[Fa he0,he2];simp only[he1,Ib,ZH,Aa,Ea,Da];rfl
def um(a:List zT)(p:List zb):List zT:=bif (oneS p).2&&decide (a.length<32)then a++[(oneS p).1]else a
def Kh(ps:List (List zb)):List zT:=ps.foldl um []
theorem fU{a:List zT}{p:List zb}(h:a.length<=32):(um a p).length<=32:=by
 unfold um;cases hb:(oneS p).2&&decide (a.length<32)with
 |false=>exact h
 |true=> rw[Ca,Eb]at hb;rw[Ea,Ha,Kc];omega
theorem IY{ps:List (List zb)}{i:Nat}(h:i<ps.length):Kh (ps.take (i+1))=um (Kh (ps.take i)) ps[i]:=by unfold Kh;rw[Gc h,List.foldl_append];rfl
theorem uX(ps:List (List zb)):(Kh ps).length<=32:=by
 unfold Kh;have key: ∀(ps:List (List zb)) (a:List zT),a.length<=32->(ps.foldl um a).length<=32:=by
  intro ps
  induction ps with
  |nil=>intro a h;exact h
  |cons p ps ih=>intro a h;exact ih _ (fU h)
 exact key ps [] (Vb _)
theorem bW{x:List zb}(h:szL x<big):(Rh 17 x).length<=big/\ ∀p∈Rh 17 x,szL p<=big:=by have h1:=sV 17 x;have h2:=tH (Rh 17 x);exact⟨by omega,fun p hp=>by have:=KI hp;omega⟩
theorem ap48{n:Nat}(h:n<=32):zD n 1 48=true:=dh (by omega)
def Su(s:Str):List zT×Int:=
 if(Qf s).2=0 then(if(parS (Qf s).1).2=0 then(Kh (Rh 17 (parS (Qf s).1).1),0)else([],(parS (Qf s).1).2))else([],(Qf s).2)
theorem rz{α}[Inhabited α]{o:Option α}(h:o.isSome=true):o=some (o.getD default):=by
 cases o with
 |none=>cases h
 |some a=>rfl
abbrev tx5:Str:=[67,79,76,79,82,32,58,32,114,101,100,32,33,32,105,109,112,111,114,116,97,110,116,59,32,120,59,32,45,45,89,58,59,32,109,97,114,103,105,110,58,49,112,120,41]
noncomputable def tk5:List ze×Int:=(Au 400 tx5).getD default
noncomputable def vv5:List zb×Int:=(parseF tk5.1).getD default
noncomputable def dd5:List zT:=Kh (Rh 17 vv5.1)
noncomputable def ls5:Str×Int:=(Fy 400 dd5).getD default
theorem yH: ∀(a b:List zb) (c:Int),shL (a++b) c=(shL a c&&shL b c)
 |[],b,c=>by rw[Xb,shL,Ab]
 |v::a,b,c=>by rw[Ta,shL,shL,yH a b c,Bool.and_assoc]
end Go.Lv.VT
