/- Parsing of tokens: what the machine of nest.Parse computes is what the reference's recursion computes. -/
import Derived.Test.YtcdeccnjlkkejaaGreatDoorNa
import Derived.Test.YtcdeccnjlkkejaaGreatDoorTy
import Derived.Test.YtcdeccnjlkkejaaGreatDoorNb
import Derived.Test.YtcdeccnjlkkejaaGreatDoorNe
import Derived.KernelRfl
import Derived.Test.YtcdeccnjlkkejaaGreatDoorNd
import Derived.Test.YtcdeccnjlkkejaaGreatDoorNam
import Derived.Test.YtcdeccnjlkkejaaGreatDoorTx
import Derived.Test.YtcdeccnjlkkejaaGreatDoorMo
set_option linter.unusedSimpArgs false
set_option linter.unusedVariables false
namespace Go.Lv.VT
set_option maxRecDepth 100000
def Nf:Nat->List ze->Int->Nat->Option (List zf×List ze)
 |0,_,_,_=>none
 |_+1,[],_,_=>some ([],[])
 |n+1,t::r,c,left=>
  if c≠0/\t.kind=c then some ([],r)
  else if zy t.kind=0 then(Nf n r c left).map fun v=>(⟨t,[]⟩::v.1,v.2)
  else match left with
   |0=>none
   |m+1=>(Nf n r (zy t.kind) m).bind fun w=>(Nf n w.2 c (m+1)).map fun v=>(⟨t,w.1⟩::v.1,v.2)
theorem Tw(n:Nat)(t:ze)(r:List ze)(c:Int)(left:Nat):Nf (n+1) (t::r) c left=if c≠0/\t.kind=c then some ([],r)
  else if zy t.kind=0 then(Nf n r c left).map fun v=>(⟨t,[]⟩::v.1,v.2)
  else match left with
   |0=>none
   |m+1=>(Nf n r (zy t.kind) m).bind fun w=>(Nf n w.2 c (m+1)).map fun v=>(⟨t,w.1⟩::v.1,v.2):=rfl
theorem Sw: ∀(n:Nat) (l:List ze) (c:Int) (left:Nat) (v:List zf×List ze),Nf n l c left=some v->v.2.length<=l.length/\(l≠[]->v.2.length<l.length)
 |0,_,_,_,_,h=>by cases h
 |n+1,[],c,left,v,h=>by
  rw[Nf]at h
  grind
 |n+1,t::r,c,left,v,h=>by
  rw[Tw]at h;have e:v.2.length<=r.length:=by
   split at h
   ·grind
   split at h
   ·cases a:Nf n r c left with
    |none=>grind
    |some w=>rw[a]at h;cases h;exact(Sw n r c left w a).1
   ·cases left with
    |zero=>cases h
    |succ m=>
     simp only at h;cases b:Nf n r (zy t.kind) m with
     |none=>grind
     |some w=>
      rw[b,Aa]at h;cases a:Nf n w.2 c (m+1)with
      |none=>grind
      |some d=>
       rw[a]at h;cases h;have f:=(Sw n r _ m w b).1;have g:=(Sw n w.2 c _ d a).1
       grind
  grind
def Ol(l:List ze)(s:PSt):Option (List zf):=(df l s).map fun s=>shutAll s.1 s.2
theorem dQ(t:ze)(l:List ze)(s:PSt):Ol (t::l) s=(Q6 s t).bind (Ol l):=by unfold Ol;rw[df];cases Q6 s t<;>rfl
theorem xz: ∀(n:Nat) (l:List ze) (cur:List zf) (o:ze) (a:List zf) (st:List (ze×List zf)) (left:Nat),l.length<n->zy o.kind≠0->left+(st.length+1)=16->
  Ol l (cur,(o,a)::st)=(Nf n l (zy o.kind) left).bind fun v=>Ol v.2 (a++[⟨o,cur++v.1⟩],st)
 |0,_,_,_,_,_,_,h,_,_=>by omega
 |n+1,[],cur,o,a,st,left,_,_,_=>by rw[Nf,Aa];simp only[Ol,df,jc,shutAll,Ra]
 |n+1,t::r,cur,o,a,st,left,g,c,f=>by
  rw[Ja]at g;rw[Tw,dQ];unfold Q6;simp only[Rl];by_cases e:t.kind=zy o.kind
  ·rw[Ha (by grind),Ha ⟨c,e⟩,Aa,Aa];simp only[jk,Ra]
  ·rw[Ga (by grind),Ga (show¬(zy o.kind≠0/\t.kind=zy o.kind)from fun h=>e h.2)];by_cases b:zy t.kind=0
   ·rw[Ga (show¬zy t.kind≠0 from fun h=>h b),Ha b,Aa,xz n r _ o a st left (by omega) c f];cases Nf n r (zy o.kind) left with
    |none=>rfl
    |some v=>grind
   ·rw[Ha b,Ga b];cases left with
    |zero=>grind
    |succ m=>
     rw[Ga (by grind),Aa];simp only;rw[xz n r [] t cur ((o,a)::st) m (by omega) b (by grind)];cases i:Nf n r (zy t.kind) m with
     |none=>rfl
     |some w=>
      have d:=(Sw n r _ m w i).1;simp only[Aa];rw[xz n w.2 _ o a st (m+1) (by omega) c f];cases Nf n w.2 (zy o.kind) (m+1)with
      |none=>rfl
      |some v=>grind
theorem sG: ∀(n:Nat) (l:List ze) (cur:List zf),l.length<n->Ol l (cur,[])=(Nf n l 0 16).map fun v=>cur++v.1
 |0,_,_,h=>by omega
 |n+1,[],cur,_=>by rw[Nf];simp only[Ol,df,jc,shutAll,Ra]
 |n+1,t::r,cur,c=>by
  rw[Ja]at c;rw[Tw,dQ];unfold Q6;simp only[Rl];rw[Ga (by decide),Ga (show¬((0:Int)≠0/\t.kind=0)from fun h=>h.1 rfl)];by_cases a:zy t.kind=0
  ·rw[Ga (show¬zy t.kind≠0 from fun h=>h a),Ha a,Aa,sG n r _ (by omega)];cases Nf n r 0 16 with
   |none=>rfl
   |some v=>grind
  ·rw[Ha a,Ga a,Ga (by decide),Aa];rw[xz n r [] t cur [] 15 (by omega) a rfl];cases d:Nf n r (zy t.kind) 15 with
   |none=>rfl
   |some w=>
    have b:=(Sw n r _ 15 w d).1;simp only[Aa];rw[sG n w.2 _ (by omega)];cases Nf n w.2 0 16 with
    |none=>rfl
    |some v=>grind
theorem Qy: ∀(a b:List zf),tokL (a++b)=tokL a++tokL b
 |[],b=>by rw[tokL];rfl
 |v::a,b=>by rw[Sa,tokL,tokL,Qy a b,La]
theorem dz(v:zf):tokL [v]=tokV v:=by rw[tokL,tokL,Ra]
def Gi(s:PSt):Nat:=(tokL s.1).length+(s.2.map fun x=>1+(tokL x.2).length).sum
def oC(s:PSt):Prop:= ∀x∈s.2,zy x.1.kind≠0
theorem WZ{s s':PSt}{t:ze}(h:Q6 s t=some s')(c:oC s):oC s'/\Gi s'=Gi s+1:=by
 unfold Q6 at h;obtain⟨g,f⟩:=s;split at h
 ·rename_i d;cases f with
  |nil=>cases d
  |cons x f=> obtain⟨o,e⟩:=x;cases h;have a:zy o.kind≠0:=c (o,e) (Db ..);refine⟨fun x b=>c x (ja _ b),?_⟩;simp only[Gi,jk,Qy,dz,Ka,Jc,Jf,Mj,Ja,Ga a,Ka,jb,Pb];omega
 split at h
 ·rename_i d a;split at h
  ·cases h
  ·rename_i i;cases h;refine⟨fun x b=> ?_,?_⟩
   ·rcases Fb.1 b with rfl|b
    ·exact a
    ·exact c x b
   ·simp only[Gi,Jc,Jf,tokL,Pb];omega
 ·rename_i d a;cases h;refine⟨c,?_⟩;have a:zy t.kind=0:=Yd a;simp only[Gi,Qy,dz,Ka,Mj,Ja,Ha a,Pb];omega
theorem UO: ∀(l:List ze) {s s':PSt},df l s=some s'->oC s->oC s'/\Gi s'=Gi s+l.length
 |[],s,s',h,b=>by cases h;grind
 |t::l,s,s',h,b=>by
  rw[df]at h;cases a:Q6 s t with
  |none=>grind
  |some g=>
   rw[a,Aa]at h;obtain⟨c,f⟩:=WZ a b;obtain⟨e,d⟩:=UO l h c
   grind
theorem jQ: ∀(st:List (ze×List zf)) (cur:List zf),(∀x∈st,zy x.1.kind≠0)->(tokL (shutAll cur st)).length=Gi (cur,st)+st.length
 |[],cur,_=>by simp[shutAll,Gi]
 |(o,a)::st,cur,h=>by have c:zy o.kind≠0:=h (o,a) (Db ..);rw[shutAll,jQ st _ (fun x b=>h x (ja _ b))];simp only[Gi,Qy,dz,Ka,Mj,Ja,Ga c,Ka,jb,Jc,Jf,Ja,Pb];omega
def XJ(l:List ze)(c:Int)(left:Nat):Option (List zf×List ze):=Nf (l.length+1) l c left
def wtT:List ze->Nat
 |[]=>0
 |t::r=>1+t.text.length+t.unit.length+wtT r
theorem VA: ∀(n:Nat) (l:List ze) (c:Int) (left:Nat) (v:List zf×List ze),Nf n l c left=some v->szL v.1+wtT v.2<=wtT l
 |0,_,_,_,_,h=>by cases h
 |n+1,[],c,left,v,h=>by
  rw[Nf]at h;cases h;rw[szL];exact Xa _
 |n+1,t::r,c,left,v,h=>by
  rw[Tw]at h;rw[wtT];split at h
  ·cases h;rw[szL];simp only;omega
  split at h
  ·cases a:Nf n r c left with
   |none=>rw[a]at h;cases h
   |some w=> rw[a]at h;cases h;have:=VA n r c left w a;simp only[szL,szV];omega
  ·cases left with
   |zero=>cases h
   |succ m=>
    simp only at h;cases b:Nf n r (zy t.kind) m with
    |none=>rw[b]at h;cases h
    |some w=>
     rw[b,Aa]at h;cases a:Nf n w.2 c (m+1)with
     |none=>rw[a]at h;cases h
     |some d=> rw[a]at h;cases h;have e:=VA n w.2 c _ d a;have f:=VA n r _ m w b;simp only[szL,szV];omega
theorem pK(l:List ze):(df l ([],[])).map (fun s=>shutAll s.1 s.2)=(XJ l 0 16).map Prod.fst:=sG _ l [] (Nat.lt_succ_self _)
theorem zFn{l:List ze}{s:PSt}(h:df l ([],[])=some s):szL (shutAll s.1 s.2)<=wtT l:=by
 have a:=pK l;rw[h,jc]at a;cases b:XJ l 0 16 with
 |none=>rw[b]at a;cases a
 |some v=> rw[b,jc]at a;injection a with a;have:=VA _ _ _ _ v b;rw[a];omega
theorem zDK(l:List ze):szL (parS l).1<=wtT l:=by
 unfold parS;split
 ·rw[szL];exact Dc _
 ·split
  ·rw[szL];exact Dc _
  ·rename_i s a;split
   ·rw[szL];exact Dc _
   ·exact zFn a
theorem EB: ∀(n:Nat) (l:List ze) (c:Int) (left:Nat) (v:List zf×List ze),Nf n l c left=some v->shL v.1 c=true/\QN v.1<=left/\(∀t∈v.2,t∈l)/\ ∀t∈tokL v.1,t∈l\/(t.text=[]/\t.unit=[])
 |0,_,_,_,_,h=>by cases h
 |n+1,[],c,left,v,h=>by
  rw[Nf]at h;cases h;exact⟨by rw[shL],by rw[QN];grind,fun t a=>a,fun t a=>by rw[tokL]at a;cases a⟩
 |n+1,t::r,c,left,v,h=>by
  rw[Tw]at h;split at h
  ·cases h;exact⟨by rw[shL],by rw[QN];grind,fun t a=>ja _ a,fun t a=>by rw[tokL]at a;cases a⟩
  rename_i A;have j:(c != 0&&t.kind==c)=false:=by
   cases y:(c != 0&&t.kind==c)with
   |false=>rfl
   |true=>grind
  split at h
  ·rename_i b;cases e:Nf n r c left with
   |none=>grind
   |some w=>
    rw[e]at h;cases h;obtain⟨g,p,f,q⟩:=EB n r c left w e;refine⟨?_,?_,fun t a=>ja _ (f t a),fun u d=> ?_⟩
    ·rw[shL,shV,g,j,b];rfl
    ·rw[QN,xg,Ha b];omega
    ·rw[tokL,tokV,Ha b]at d
     grind
  ·rename_i b;cases left with
   |zero=>cases h
   |succ m=>
    simp only at h;cases i:Nf n r (zy t.kind) m with
    |none=>grind
    |some w=>
     rw[i,Aa]at h;cases e:Nf n w.2 c (m+1)with
     |none=>grind
     |some k=>
      rw[e]at h;cases h;obtain⟨g,p,f,q⟩:=EB n r _ m w i;obtain⟨o,B,x,z⟩:=EB n w.2 c _ k e;have s:(zy t.kind==0)=false:=Fa.2 b;refine⟨?_,?_,fun u d=>ja _ (f u (x u d)),fun u d=> ?_⟩
      ·rw[shL,shV,g,o,j,s,aa,Rc];rfl
      ·rw[QN,xg,Ga b];omega
      ·rw[tokL,tokV,Ga b,Sa,La]at d
       grind
theorem tX{l:List ze}(h:(parS l).2=0):errS (parS l).1=0/\ ∀t∈tokL (parS l).1,t∈l\/(t.text=[]/\t.unit=[]):=by
 unfold parS at h ⊢;split at h
 ·cases h
 rename_i k;rw[Ga k];split at h
 ·cases h
 rename_i s b;split at h
 ·cases h
 rename_i m;rw[Ga m];have a:=pK l;rw[b,jc]at a;cases d:XJ l 0 16 with
 |none=>grind
 |some v=>
  rw[d,jc]at a;injection a with a;obtain⟨p,n,o,i⟩:=EB _ _ _ _ _ d;obtain⟨e,j⟩:=UO l b (fun x g=>by cases g);have c:=jQ s.2 s.1 e;have f:Gi (s.1,s.2)=l.length:=by rw[show(s.1,s.2)=s from rfl,j];simp[Gi,tokL]
  rw[f]at c;simp only[a]at c ⊢;refine⟨?_,i⟩;unfold errS
  grind
theorem kG(r:Str):(zt r).1.length+3*(zt r).2.length<=3*r.length+3:=by
 have h4:=Hw r;cases r with
 |nil=>exact Xa _
 |cons c t=>
  have h:(zt (c::t)).2.length<=t.length:=by
   show(if QA c then(Mg (hexes 6 0 (c::t)).1,unsp (hexes 6 0 (c::t)).2)else([c],t)).2.length<=t.length;cases hc:QA c with
   |true=>
    have e:hexes 6 0 (c::t)=hexes 5 (16*0+hexN c) t:=by rw[hexes,hc,Ha rfl]
    rw[Ha rfl,e];exact((vL _).trans (Dw 5 _ t)).length_le
   |false=>exact Xa _
  rw[Ja];omega
theorem Dr(l:Str):(zq l).1.length+3*(zq l).2.length<=3*l.length:=by
 match l with
 |[]=>rw[qR];exact Xa _
 |c::r=>
  rw[zR];split
  ·have:=Dr r;show(c::(zq r).1).length+3*(zq r).2.length<=_;rw[Ja,Ja];omega
  ·split
   ·have h1:=Zc r;have h2:=kG r;have:=Dr (zt r).2;show((zt r).1++(zq (zt r).2).1).length+3*(zq (zt r).2).2.length<=_;rw[Ka,Ja];omega
   ·show 0+3*(c::r).length<=_;omega
termination_by l.length
decreasing_by
 all_goals first|(have:=Zc r;simp only[Ja];omega)|(simp only[Ja];omega)
theorem DD{u:Str}{o:Option Str}{t:Str}{k:Nat}(h:o.map (u++ ·)=some t)(hk: ∀t',o=some t'->t'.length<=k):t.length<=u.length+k:=by
 cases o with
 |none=>cases h
 |some t'=> injection h with h;rw[<-h,Ka];have:=hk t' rfl;omega
theorem pz{m:UInt8}{q t:Str}(h:(Za m q).1=some t):t.length+3*(Za m q).2.length<=3*q.length:=by
 match q with
 |[]=>rw[Dp]at h ⊢;cases h;exact Xa _
 |c::r=>
  rw[Qu]at h ⊢;rw[Ja];split
  ·rename_i h1;rw[Ha h1]at h;cases h;show 0+3*r.length<=_;omega
  ·rename_i h1;rw[Ga h1]at h;split
   ·rename_i h2;rw[Ha h2]at h;cases h
   ·rename_i h2;rw[Ga h2]at h;split
    ·rename_i h3;rw[Ha h3]at h;split
     ·rename_i h4;rw[Ha h4]at h;cases h;show 0+3*0<=_;omega
     ·rename_i h4;rw[Ga h4]at h;split
      ·rename_i h5;rw[Ha h5]at h;have:=pz (q:=r.drop 1) h;rw[Ub]at this;omega
      ·rename_i h5;rw[Ga h5]at h;have h6:=Zc r;have h7:=kG r;have:=DD (k:=3*(zt r).2.length - 3*(Za m (zt r).2).2.length) h (fun t' ht'=>by have:=pz ht';omega);have h8:=(Js m (zt r).2).length_le;show t.length+3*(Za m (zt r).2).2.length<=_;omega
    ·rename_i h3;rw[Ga h3]at h;have:=DD (u:=[c]) (k:=3*r.length - 3*(Za m r).2.length) h (fun t' ht'=>by have:=pz ht';omega);have h8:=(Js m r).length_le;rw[jb]at this;show t.length+3*(Za m r).2.length<=_;omega
termination_by q.length
decreasing_by
 all_goals first|(have:=Zc r;simp only[Ja];omega)|(simp only[Ja,Ub];omega)
theorem YJ{q t:Str}(h:(urlS q).1=some t):t.length+3*(urlS q).2.length<=3*q.length:=by
 match q with
 |[]=>rw[Mo]at h ⊢;cases h;exact Xa _
 |c::r=>
  rw[Uk]at h ⊢;rw[Ja];split
  ·rename_i h1;rw[Ha h1]at h;cases h;show 0+3*r.length<=_;omega
  ·rename_i h1;rw[Ga h1]at h;split
   ·rename_i h2;rw[Ha h2]at h;have hp:=(Am spB r).length_le;split
    ·rename_i h3;rw[h3]at h;cases h;show 0+3*0<=_;omega
    ·rename_i d r' h3;rw[h3]at h hp;rw[Ja]at hp;simp only at h;split
     ·rename_i h4;rw[Ha h4]at h;cases h;show 0+3*r'.length<=_;omega
     ·rename_i h4;rw[Ga h4]at h;cases h
   ·rename_i h2;rw[Ga h2]at h;split
    ·rename_i h3;rw[Ha h3]at h;cases h
    ·rename_i h3;rw[Ga h3]at h;split
     ·rename_i h5;rw[Ha h5]at h;have h6:=Zc r;have h7:=kG r;have:=DD (k:=3*(zt r).2.length - 3*(urlS (zt r).2).2.length) h (fun t' ht'=>by have:=YJ ht';omega);have h8:=(fq (zt r).2).length_le;show t.length+3*(urlS (zt r).2).2.length<=_;omega
     ·rename_i h5;rw[Ga h5]at h;have:=DD (u:=[c]) (k:=3*r.length - 3*(urlS r).2.length) h (fun t' ht'=>by have:=YJ ht';omega);have h8:=(fq r).length_le;rw[jb]at this;show t.length+3*(urlS r).2.length<=_;omega
termination_by q.length
decreasing_by
 all_goals first|(have:=Zc r;simp only[Ja];omega)|(simp only[Ja];omega)
theorem zE7(c:UInt8)(r:Str):(Zq (c::r)).1.text.length+(Zq (c::r)).1.unit.length+3*(Zq (c::r)).2.length<=3*(r.length+1):=by
 have hs:=(Oj c r).length_le;rw[uo]at hs ⊢;split
 ·rename_i h1;rw[Ha h1]at hs;simp only[Hg,Pb]at hs ⊢;omega
 rename_i h1;rw[Ga h1]at hs;split
 ·rename_i h2;rw[Ha h2]at hs;simp only at hs ⊢;cases ho:(Za c r).1 with
  |none=>show 0+0+_<=_;omega
  |some t=>have:=pz ho;show t.length+0+_<=_;omega
 rename_i h2;rw[Ga h2]at hs;split
 ·have:=Dr r;simp only[Pb];omega
 rename_i h3;rw[Ga h3]at hs;split
 ·rename_i h4;have h5:=(fQ h4).length_le;rw[Ha h4]at hs;unfold zI at hs ⊢;split
  ·have:=Dr (zP (c::r)).1;simp only[Pb];omega
  ·rename_i h6;rw[Ga h6]at hs;split
   ·rename_i h7;rw[Ha h7]at hs;simp only[Pb]at hs ⊢;omega
   ·rename_i h7;rw[Ga h7]at hs;simp only[Pb]at hs ⊢;omega
 rename_i h4;rw[Ga h4]at hs;split
 ·rename_i h5;rw[Ha h5]at hs;simp only[Hg,Pb]at hs ⊢;omega
 rename_i h5;rw[Ga h5]at hs;split
 ·rename_i h6;rw[Ha h6]at hs;simp only[Hg,Pb]at hs ⊢;omega
 rename_i h6;rw[Ga h6]at hs;split
 ·have:=Dr r;simp only[Pb];omega
 rename_i h7;rw[Ga h7]at hs;split
 ·have hn:=Dr (c::r);rw[Ja]at hn;unfold qO;split
  ·split
   ·have h8:=(Am spB ((zq (c::r)).2.drop 1)).length_le;have h9:=(fq (past spB ((zq (c::r)).2.drop 1))).length_le;rw[Ub]at h8;simp only;cases ho:(urlS (past spB ((zq (c::r)).2.drop 1))).1 with
    |none=>show 0+0+_<=_;omega
    |some t=>have:=YJ ho;show t.length+0+_<=_;omega
   ·simp only[Pb,Ub];omega
  ·simp only[Pb];omega
 split
 ·simp only[Pb,jb];omega
 ·simp only[Hg,Pb];omega
theorem vV(q:Str):wtT (Zk q)<=5*q.length:=by
 cases hc:cmtS q with
 |nil=>rw[QL hc,wtT];exact Dc _
 |cons c r=>
  have h2:=(Ck q).length_le;have h3:=(Oj c r).length_le;rw[hc,Ja]at h2;rw[Qd hc,wtT];have h4:(Zq (c::r)).2.length<q.length:=by omega
  have:=vV (Zq (c::r)).2;have:=zE7 c r;omega
termination_by q.length
decreasing_by all_goals omega
def topc:List (ze×List zf)->Int
 |[]=>0
 |(o,_)::_=>zy o.kind
theorem zA0{st:List (ze×List zf)}{t:ze}(b: ∀x∈st,zy x.1.kind≠0)(h:(topc st != 0&&t.kind==topc st)=false): ¬Rl st t=true:=by
 cases st with
 |nil=>exact Bool.false_ne_true
 |cons x st=>
  obtain⟨o,a⟩:=x;have c:(zy o.kind != 0)=true:=Ue.2 (b (o,a) (Db ..));show¬(t.kind==zy o.kind)=true;have d:(zy o.kind != 0&&t.kind==zy o.kind)=false:=h
  grind
mutual
/-- The tokens of values of their shape are read as these values. -/
theorem zFZ: ∀(v:zf) (cur:List zf) (st:List (ze×List zf)) (rest:List ze),(∀x∈st,zy x.1.kind≠0)->shV v (topc st)=true->xg v+st.length<=16->df (tokV v++rest) (cur,st)=df rest (cur++[v],st)
 |⟨t,l⟩,cur,st,rest,d,a,c=>by
  rw[shV,Md,Lc,Lc]at a;obtain⟨⟨g,h2⟩,f⟩:=a;have j:=zA0 d h2;rw[tokV];rw[xg]at c;by_cases b:zy t.kind=0
  ·have h:l=[]:=by rw[b,show((0:Int)==0)=true from rfl,ma,decide_eq_false_iff_not]at g;exact Ye.1 (by omega)
   subst h;rw[Ha b,Uc,df];unfold Q6
   grind
  ·rw[Ga b]at c ⊢;have i:(zy t.kind != 0)=true:=Ue.2 b;rw[i,ma,Bool.not_eq_false']at f;have e: ∀x∈(t,cur)::st,zy x.1.kind≠0:=fun x k=>by
    grind
   rw[Sa,La,df];unfold Q6;rw[Ga j,Ha b,Ga (show¬st.length=16 by omega),Aa,EK l [] ((t,cur)::st) _ e f (by grind),Ob,Uc,df];unfold Q6;rw[Ha (show Rl ((t,cur)::st) ⟨zy t.kind,[],0,[],false⟩=true from af _),Aa];rfl
theorem EK: ∀(v:List zf) (cur:List zf) (st:List (ze×List zf)) (rest:List ze),(∀x∈st,zy x.1.kind≠0)->shL v (topc st)=true->QN v+st.length<=16->df (tokL v++rest) (cur,st)=df rest (cur++v,st)
 |[],cur,st,rest,_,_,_=>by rw[tokL,Ob,Ra]
 |v::r,cur,st,rest,d,a,c=>by rw[shL,Ea]at a;rw[QN]at c;rw[tokL,La,zFZ v cur st _ d a.1 (by omega),EK r _ st _ d a.2 (by omega),La];rfl
end
theorem GG{v:List zf}(h:errS v=0):QN v<=16/\(tokL v).length<=1500/\shL v 0=true:=by
 unfold errS at h;split at h
 ·cases h
 split at h
 ·cases h
 split at h
 ·grind
 ·cases h
theorem uX{v:List zf}(h:errS v=0):parS (tokL v)=(v,0):=by obtain⟨b,e,d⟩:=GG h;have a:=EK v [] [] [] (fun x c=>by cases c) d (by simpa using b);rw[Ra,Ob,df]at a;unfold parS;rw[Ga (by omega),a];simp only[Pb,Ad];rw[Ga (by omega),shutAll]
theorem aQ{α:Type}(l:List α):((l.length:Int)==0)=l.isEmpty:=by
 cases l with
 |nil=>rfl
 |cons a l=>exact Fa.2 (by simp only[Ja];omega)
theorem Gw(v:zf):(⟨v.token,v.list⟩:zf)=v:=by cases v;rfl
def Rh(x:Str):Bool:= !(x==[])&&(decide (x.length<=64)&&(Zi x&&(bif List.isPrefixOf [45,45] x then !(x==[45,45])else lowS x==x)))
theorem O8{x:Str}(h:x.length<=big):wo x=some (Rh x):=by
 have e:decide ((x.length:Int)>64)= !decide (x.length<=64):=kD _ 64;have e1:decide (Lib.indexByte x (0:Int).toNat.toUInt8>=0)= !Zi x:=XE x;have ec:=dP x (lowS x);unfold wo Rh;simp only[Gt,qa,zb,Aa,Qr,NB h,e,ec];cases x==[]<;>cases decide (x.length<=64)<;>try rfl
 simp only[Da,Ba,aa,Va,ma,Ke,e1];cases Zi x<;>cases List.isPrefixOf [45,45] x<;>rfl
theorem WM(x:Str):(bif decide ((x.length:Int)>=2)then List.take 2 x==[45,45]else false)=List.isPrefixOf [45,45] x:=by
 cases x with
 |nil=>rfl
 |cons a x=>
  cases x with
  |nil=>show(bif decide _ then _ else _)=((45==a)&&false);rw[Rc];rfl
  |cons b x=> have:decide ((((a::b::x:Str)).length:Int)>=2)=true:=Ia (by simp only[Ja];omega);rw[this];show((a==45)&&((b==45)&&true))=((45==a)&&((45==b)&&true));rw[Bool.beq_comm (a:=a),Bool.beq_comm (a:=b)]
theorem gN{x:Str}(h:List.isPrefixOf [45,45] x=true):decide ((x.length:Int)>2)= !(x==[45,45]):=by
 obtain⟨t,rfl⟩:=Cf.1 h;cases t with
 |nil=>rfl
 |cons a t=> have:decide ((([45,45]++a::t:Str).length:Int)>2)=true:=Ia (by simp only[Ka,Ja];omega);rw[this];rfl
theorem zn0{x:Str}(h:x.length<=big):uw x=some (Rh x):=by
 have e:decide ((x.length:Int)>64)= !decide (x.length<=64):=kD _ 64;have en:decide ((x.length:Int)<1)=(x==[]):=by cases x with
  |nil=>rfl
  |cons a x=>exact Ya (by simp only[Ja];omega)
 have ec:=dP x (lowS x);have hk:(need (decide ((2:Int)<=(x.length:Int))|| !(decide ((x.length:Int)>=2)))<|
   bif bif decide ((x.length:Int)>=2)then List.take 2 x==[45,45]else false then some (decide ((x.length:Int)>2))else zb (qY x) fun y4=>some (x==y4))=some (bif List.isPrefixOf [45,45] x then !(x==[45,45])else lowS x==x):=by
  have e2:(decide ((2:Int)<=(x.length:Int))|| !(decide ((x.length:Int)>=2)))=true:=by show(decide _|| !decide ((2:Int)<=_))=true;cases decide ((2:Int)<=(x.length:Int))<;>rfl
  rw[e2,zV,WM];cases hp:List.isPrefixOf [45,45] x with
  |true=>rw[Da,Da,gN hp]
  |false=>simp only[Ba,xG h,zb,Aa,ec]
 unfold uw Rh;rw[hk];have hl: ∀b:Bool,Zf (fun(s1:Int)=>bif decide (s1<(x.length:Int))then
    zb (geti x s1) fun y2=>bif (y2.toNat:Int)==0 then some (LO.ret false)else some (LO.again (w64 (s1+1)))
   else some (LO.out ()):Int->Option (LO (Int) (Unit) _)) 0 (fun _=>some b)=some (Zi x&&b):=by
  intro b;refine(dw x (fun b=>bif (!(b==0))then none else some false) () (fun i hi=> ?_) ?_).trans ?_
  ·simp only[ql hi,Da,ZA hi,zb,Aa,byte_zero,Zy hi h];cases x[i]==0<;>rfl
  ·simp only[Ki,Ba]
  ·rw[JA];unfold Zi;cases x.all (fun b=> !(b==0))<;>rfl
 rw[hl,e,en];cases x==[]<;>cases decide (x.length<=64)<;>rfl
def clK(v:zf):Bool:=v.token.kind==20||(v.token.kind==22||v.token.kind==24)
mutual
def clV:zf->Bool
 |⟨t,l⟩=>clK ⟨t,l⟩||clL l
def clL:List zf->Bool
 |[]=>false
 |v::r=>clV v||clL r
end
theorem bW(v:zf):clV v=(clK v||clL v.list):=by obtain⟨t,l⟩:=v;rw[clV]
theorem YL(l:List zf):clL l=l.any clV:=by
 induction l with
 |nil=>rw[clL];rfl
 |cons v l ih=>rw[clL,ih];rfl
theorem zme{l:List zf}(h:szL l<=big):zm l=some (clL l):=by
 refine Vk (fun l=>szL l) (fun l=>szL l<=big) (fun l=>clL l) (fun S l hl hS=> ?_) h;have hlen:=QV l;unfold Mt Zr ZR;have:=bM (RN (step:=fun(s1:Int)=>
   bif decide (s1<(l.length:Int))then
    zb (geti l s1) fun y2=>
    zb (qN S (⟨y2.token,y2.list⟩:zf)) fun y3=>
    bif y3 then some (LO.ret s1)else some (LO.again (w64 (s1+1)))
   else some (LO.out ())) l clV (by omega) (fun i hi=> ?_) ?_) (uF _ _)
 ·rw[this,YL];rfl
 ·have hsz:=Mi (Ic hi);have hv2:=yg l[i];have hs:=hS l[i].list (by omega) (by omega);have:qN S l[i]=some (clV l[i]):=by unfold qN Zw;simp only[Gw,qa,zb,Aa,hs,bW,clK];cases l[i].token.kind==20<;>cases l[i].token.kind==22<;>cases l[i].token.kind==24<;>rfl
  simp only[ql hi,Da,ZA hi,zb,Aa,Gw,this]
 ·simp only[Ki,Ba]
theorem zk7{l:List zf}(h:szL l<=big):qz l=some (clL l):=by
 refine Vk (fun l=>szL l) (fun l=>szL l<=big) (fun l=>clL l) (fun S l hl hS=> ?_) h;have hlen:=QV l;unfold YC;refine(dw l (fun v=>bif clV v then some true else none) () (fun i hi=> ?_) ?_).trans ?_
 ·have hsz:=Mi (Ic hi);have hv2:=yg l[i];have hs:=hS l[i].list (by omega) (by omega);simp only[ql hi,Da,ZA hi,zb,Aa,bW,clK,Zy hi (show l.length<=big by omega)];cases h1:l[i].token.kind==20<;>cases h2:l[i].token.kind==22<;>cases h3:l[i].token.kind==24<;>
   first|rfl|(simp only[Ba,Va,zA,Aa,hs,Xc];cases clL l[i].list<;>rfl)
 ·simp only[Ki,Ba]
 ·rw[CG,YL];cases l.any clV<;>rfl
def Aj(l:List zf):Bool:=match l with
 |[]=>false
 |v::r=>isSp v||isSp ((v::r).getLast (by simp))
theorem FQ(t:List zf)(v:zf):Aj (t++[v])=((match t with|[]=>isSp v|a::_=>isSp a)||isSp v):=by
 cases t with
 |nil=>rfl
 |cons a t=> show(isSp a||isSp ((a::(t++[v])).getLast _))=_;congr 2;have:(a::(t++[v]))=(a::t)++[v]:=rfl;simp only[this,List.getLast_append_of_ne_nil,List.getLast_singleton,ne_eq,reduceCtorEq,Tf]
theorem wN(l:List zf):(trimB l).length<=l.length:=(Cm l).length_le
theorem JZ(l:List zf):((trimS l).length==l.length)= !Aj l:=by
 rcases QD l with rfl|⟨t,v,rfl⟩
 ·rfl
 ·rw[FQ];have hl:(t++[v]).length=t.length+1:=by simp
  cases t with
  |nil=>
   show((trimB (List.dropWhile isSp [v])).length==1)= !(isSp v||isSp v);cases hv:isSp v with
   |true=>simp only[Oc,hv];rfl
   |false=> simp only[Oc,hv];have:=QX [] v;rw[hv]at this;show((trimB [v]).length==1)=true;rw[show trimB [v]=[v]from this];rfl
  |cons a t=>
   show((trimB (List.dropWhile isSp (a::(t++[v])))).length==_)= !(isSp a||isSp v);have hb:=wN (List.dropWhile isSp (a::(t++[v])));cases ha:isSp a with
   |true=> simp only[Oc,ha,Be]at hb ⊢;have hd:=(He isSp (l:=t++[v])).length_le;rw[Td,aa,Fa];rw[hl,Ja];rw[Ka,jb]at hd;omega
   |false=>
    have e:List.dropWhile isSp (a::(t++[v]))=(a::t)++[v]:=by rw[Oc,ha];rfl
    rw[e,QX];cases hv:isSp v with
    |true=> have:=wN (a::t);rw[Ha rfl,Ff,aa,Fa,hl];omega
    |false=>simp
theorem aY{l:List zf}(h:l.length<=big)(g:Bool)(hg:(l.isEmpty&&g)=false)(k:Bool->Option Int):
  (zb (zo (decide ((l.length:Int)>0)&& !g) (geti l 0) (default:zf)) fun y7=>
   zb (zo (decide ((l.length:Int)>0)&& !g) (Zw ((⟨y7.token,y7.list⟩:zf),13)) (default:Bool)) fun y8=>
   zb (zo (!y8&&(decide ((l.length:Int)>0)&& !g)) (geti l (w64 ((l.length:Int) - 1))) (default:zf)) fun y9=>
   zb (zo (!y8&&(decide ((l.length:Int)>0)&& !g)) (Zw ((⟨y9.token,y9.list⟩:zf),13)) (default:Bool)) fun y10=>
   k (bif decide ((l.length:Int)>0)then bif y8 then true else y10 else false))=(if g=true/\l≠[]then(k (bif decide ((l.length:Int)>0)then bif (default:Bool)then true else(default:Bool)else false))else k (Aj l)):=by
 cases l with
 |nil=> have:decide ((([]:List zf).length:Int)>0)=false:=rfl;simp only[this,Lb,Zb,zb,Aa,Rc,Ba,ne_eq,not_true_eq_false,and_false,Od,Aj]
 |cons v r=>
  have e1:decide (((v::r).length:Int)>0)=true:=Ia (by simp only[Ja];omega);have e2:geti (v::r) 0=some v:=rfl;cases g with
  |true=>simp only[e1,aa,Rc,Zb,zb,Aa,Da,ne_eq,reduceCtorEq,Tf,and_self,Be]
  |false=>
   simp only[e1,Va,Rb,zA,zb,Aa,Da,e2,Zw,false_and,Od,reduceCtorEq];have e3:w64 (((v::r).length:Int) - 1)=(r.length:Int):=by rw[Ja]at h ⊢;rw[w64,Z4 (by omega) (by unfold big at h;omega)];omega
   have e4:geti (v::r) (r.length:Int)=some ((v::r).getLast (by simp)):=by rw[ZA (by simp),List.getLast_eq_getElem];simp
   rw[e3,e4];simp only[qa,Aa,Aj,isSp];cases v.token.kind==13<;>rfl
def badV(v:zf):Bool:=v.token.kind==17||(v.token.kind==9&&v.token.text==[33])
def Hl(custom:Bool)(l:List zf):Bool:= !(l.any badV)&&(!(l.isEmpty&& !custom)&& !Aj l)
def Lf(d:zJ):Bool:=Rh d.name&&(errS d.value==0&&(gluS (tokL d.value)==0&&(!clL d.value&&Hl (List.isPrefixOf [45,45] d.name) d.value)))
mutual
theorem zBz: ∀(v:zf) (t:ze),t∈tokV v->t.text.length<=szV v/\t.unit.length<=szV v
 |⟨t,l⟩,u,h=>by
  rw[tokV]at h;rw[szV];rcases Fb.1 h with rfl|h
  ·constructor<;>omega
  ·split at h
   ·cases h
   ·rcases Nc.1 h with h|h
    ·have:=Sv l u h;omega
    ·obtain rfl:=Gc.1 h;exact⟨Dc _,Dc _⟩
theorem Sv: ∀(l:List zf) (t:ze),t∈tokL l->t.text.length<=szL l/\t.unit.length<=szL l
 |[],_,h=>by rw[tokL]at h;cases h
 |v::r,u,h=>by
  rw[tokL]at h;rw[szL];rcases Nc.1 h with h|h
  ·have:=zBz v u h;omega
  ·have:=Sv r u h;omega
end
theorem zAx{l:List zf}(h:szL l<=big):Uj (tokL l)=some (gluS (tokL l)):=
 wS fun t ht=>by have:=Sv l t ht;omega
theorem zDf{l:List zf}(h:szL l<=big):Bp (tokL l)=some (gluS (tokL l)):=
 W9 fun t ht=>by have:=Sv l t ht;omega
theorem J8{l:List zf}(h:l.length<=big):Zd l=some (l.any badV):=by
 unfold Zd Zz;refine bM (RN l badV h (fun i hi=> ?_) ?_) (uF _ _)
 ·have:Ht l[i]=some (badV l[i]):=by unfold Ht Sk Zw badV;simp only[Gw,qa,zb,Aa];cases l[i].token.kind==17<;>cases l[i].token.kind==9<;>rfl
  simp only[ql hi,Da,ZA hi,zb,Aa,Gw,this]
 ·simp only[Ki,Ba]
theorem PS{d:zJ}(hv:szL d.value<=big)(hn:d.name.length<=big):ak d=some (bif Lf d then 0 else 8):=by
 have hlen:=QV d.value;unfold ak Lf;rw[N7 hv];simp only[zb,Aa,O8 hn];cases Rh d.name with
 |false=>simp only[Va,Da,aa,Zb,Aa,Lb,Ba]
 |true=>
  by_cases he:errS d.value=0
  ·rw[Ha he];have he':(errS d.value==0)=true:=Ib.2 he;have this:((0:Int)==0)=true:=rfl;simp only[he',this,aa,Ba,Va,zA,zAx hv,Aa,ma,bne];cases hg:gluS (tokL d.value)==0 with
   |false=>simp only[Va,Da,aa,Zb,Aa,Lb,Ba]
   |true=>
    simp only[aa,Ba,Va,zA,zme hv,Aa,ma];cases clL d.value with
    |true=>rfl
    |false=>
     simp only[Ba,J8 (show d.value.length<=big by omega),Aa,Hl,Va,ma];cases d.value.any badV with
     |true=>rfl
     |false=>
      simp only[Ba,Qr,qa,Aa,aQ,Va,ma];have hp:=aY (l:=d.value) (by omega) (bif d.value.isEmpty then !(bif d.value.isEmpty then List.isPrefixOf [45,45] d.name else default)else false);cases hd:d.value with
      |nil=>
       cases List.isPrefixOf [45,45] d.name<;>rfl
      |cons v r=> have hp':=hp (by rw[hd];rfl) (fun b=>bif b then some 8 else some 0);rw[hd]at hp';simp only[List.isEmpty_cons,Ba,Sb,false_and,Od]at hp';simp only[List.isEmpty_cons,Ba,Lb,Va,ma];refine Eq.trans hp' ?_;cases Aj (v::r)<;>rfl
  ·rw[Ga he];have he':(errS d.value==0)=false:=Fa.2 he;simp only[he',bne,aa,Ba,Va,Da,Zb,Aa,Lb,Rc]
theorem nZ{x:Str}(hn:Rh x=true):Ex x=some (List.isPrefixOf [45,45] x):=by
 unfold Ex;have e2:(decide ((2:Int)<=(x.length:Int))|| !(decide ((x.length:Int)>2)))=true:=by
  by_cases h:2<=x.length
  ·rw[Ia (show(2:Int)<=(x.length:Int) by omega)];rfl
  ·rw[Ya (show¬((x.length:Int)>2) by omega)];simp
 rw[zC e2];have hp:=WM x;cases hpp:List.isPrefixOf [45,45] x with
 |true=> rw[hpp]at hp;have h3:=gN hpp;unfold Rh at hn;rw[hpp]at hn;simp only[Da,Ea]at hn;rw[hn.2.2.2]at h3;rw[h3];have:decide ((x.length:Int)>=2)=true:=Ia (by have:=Vb h3;omega);rw[this]at hp;exact congrArg some hp
 |false=>
  rw[hpp]at hp;cases h3:decide ((x.length:Int)>2)with
  |false=>rfl
  |true=> have:decide ((x.length:Int)>=2)=true:=Ia (by have:=Vb h3;omega);rw[this]at hp;exact congrArg some hp
theorem zDo{α:Type}(a b:List α):((a.length:Int)==(b.length:Int))=(a.length==b.length):=by rw[Bool.eq_iff_iff,Ib,Ib];omega
theorem zm5{x:Str}{l:List zf}(h:szL l<=big)(hn:Rh x=true):
  Dx (x,l)=some (errS l==0&&(gluS (tokL l)==0&&(!clL l&&Hl (List.isPrefixOf [45,45] x) l))):=by
 have hlen:=QV l;unfold Dx;simp only[GY h,RQ h,zb,Aa,bne,qa];cases he:errS l==0 with
 |false=>simp only[Va,Da,aa,Zb,Aa,Lb,Ba]
 |true=>
  simp only[aa,Ba,Va,Da,zA,zDf h,Aa,ma];cases hg:gluS (tokL l)==0 with
  |false=>simp only[Va,Da,aa,Zb,Aa,Lb,Ba]
  |true=>
   simp only[aa,Ba,Va,zA,zk7 h,Aa,ma];cases clL l with
   |true=>rfl
   |false=>
    simp only[Ba,I5 h,Aa,zDo,JZ,aQ,Bool.not_not,Va,ma,nZ hn,qa];have hl:Zf (fun(s7:Int)=>
     bif decide (s7<(l.length:Int))then
      zb (geti l s7) fun y8=>
      bif bif y8.token.kind==17 then true else bif y8.token.kind==9 then y8.token.text==[33]else false then
       some (LO.ret false)
      else
       some (LO.again (w64 (s7+1)))
     else
      some (LO.out ()):Int->Option (LO (Int) (Unit) _)) 0 (fun _=>some true)=some (!(l.any badV)):=by
     refine(dw l (fun v=>bif badV v then some false else none) () (fun i hi=> ?_) ?_).trans ?_
     ·simp only[ql hi,Da,ZA hi,zb,Aa,badV,Zy hi (show l.length<=big by omega)];cases l[i].token.kind==17<;>cases l[i].token.kind==9<;>cases l[i].token.text==[33]<;>rfl
     ·simp only[Ki,Ba]
     ·rw[CG];cases l.any badV<;>rfl
    unfold Hl;simp only[zb]at hl;rw[hl];cases Aj l<;>cases l.isEmpty<;>cases List.isPrefixOf [45,45] x<;>cases l.any badV<;>rfl
theorem T9{d:zJ}(hv:szL d.value<=big)(hn:d.name.length<=big):xw d=some (bif Lf d then 0 else 8):=by
 unfold xw Lf;simp only[zn0 hn,zb,Aa];cases hnd:Rh d.name with
 |false=>rfl
 |true=> simp only[aa,Va,zA,zm5 hv hnd,Aa,ma];cases (errS d.value==0&&(gluS (tokL d.value)==0&&(!clL d.value&&Hl (List.isPrefixOf [45,45] d.name) d.value)))<;>rfl
def Gg(l:List zf):Prop:= ∀t v,l=t++[v]->isSp v=false
def Og(l:List zf):Prop:= ∀a t,l=a::t->isSp a=false
theorem Gg.suf{a b:List zf}(h:Gg (a++b)):Gg b:=fun t v e=>h (a++t) v (by rw[e,La])
theorem Gg.id{l:List zf}(h:Gg l):trimB l=l:=by
 rcases QD l with rfl|⟨t,v,rfl⟩
 ·rfl
 ·rw[QX,h t v rfl];rfl
theorem xN(l:List zf):Gg (trimB l):=by
 obtain⟨r,_,_,h|⟨t,v,h,hv⟩⟩:=TQ l
 ·intro t v e;rw[h]at e;simp at e
 ·intro t' v' e;rw[h]at e;have:=List.append_inj_right' e rfl;injection this with e1;rw[<-e1];exact hv
theorem Og.pre{a b:List zf}(h:Og (a++b)):Og a:=fun x t e=>h x (t++b) (by rw[e];rfl)
theorem Og.id{l:List zf}(h:Og l):l.dropWhile isSp=l:=by
 cases l with
 |nil=>rfl
 |cons a t=>rw[Oc,h a t rfl];rfl
theorem zDi(l:List zf):Og (l.dropWhile isSp):=by obtain⟨a,_,_,h⟩:=eH l;exact fun x b e=>h x b e
theorem rW(l:List zf): ∃a,l=a++l.dropWhile isSp:=by obtain⟨a,h,_⟩:=eH l;exact⟨a,h⟩
theorem cO(l:List zf): ∃r,l=trimB l++r:=by obtain⟨r,h,_⟩:=TQ l;exact⟨r,h⟩
theorem wL{l:List zf}(h1:Og l)(h2:Gg l):trimS l=l:=by unfold trimS;rw[h1.id,h2.id]
theorem left_eq{l:List zf}:mo l=some (l.dropWhile isSp):=by
 unfold mo Zw;refine(Qt (r:= .out (l.dropWhile isSp)) (ZT (fun s=>s.dropWhile isSp=l.dropWhile isSp) (fun s=>s.length) _ (fun s hs=> ?_) rfl)).trans ?_
 ·cases s with
  |nil=>exact .inr (.inl ⟨[],by simp,by rw[<-hs];rfl⟩)
  |cons v t=>
   have h1:decide (((v::t).length:Int)>0)=true:=by rw[tq];simp
   have h2:geti (v::t) 0=some v:=rfl;have h3:decide ((1:Int)<=((v::t).length:Int))=true:=by simp;omega
   rw[Oc]at hs;cases hv:isSp v with
   |true=> rw[hv]at hs;unfold isSp at hv;refine .inl ⟨t,?_,by simpa using hs,by simp⟩;simp only[h1,h2,h3,zA,zb,Aa,hv,Da,zV];rfl
   |false=> rw[hv]at hs;unfold isSp at hv;refine .inr (.inl ⟨v::t,?_,by rw[<-hs];rfl⟩);simp only[h1,h2,zA,zb,Aa,hv,Da,Ba]
 ·rw[zkH]
theorem right_eq{d:List zf}(hd:szL d<=big):Yk d=some (trimB d):=by
 unfold Yk Zw;refine(Qt (r:= .out (trimB d)) (ZT (fun s=>trimB s=trimB d/\szL s<=big) (fun s=>s.length) _ (fun s hs=> ?_) ⟨rfl,hd⟩)).trans ?_
 ·rcases QD s with rfl|⟨t,v,rfl⟩
  ·exact .inr (.inl ⟨[],by simp,by rw[<-hs.1];rfl⟩)
  ·have hlen:=QV (t++[v]);have hl2:(t++[v]).length=t.length+1:=by simp
   have hb:=hs.2;unfold big at hb;have h1:decide (((t++[v]).length:Int)>0)=true:=by rw[tq];simp
   have h4:w64 (((t++[v]).length:Int) - 1)=(t.length:Int):=by rw[w64,Z4 (by omega) (by omega)];omega
   have h2:geti (t++[v]) (t.length:Int)=some v:=by rw[ZA (by omega)];simp
   have h3:(decide ((0:Int)<=(t.length:Int))&&decide ((t.length:Int)<=((t++[v]).length:Int)))=true:=by simp;omega
   have hs1:=hs.1;rw[QX]at hs1;cases hv:isSp v with
   |true=> rw[Ha hv]at hs1;unfold isSp at hv;refine .inl ⟨t,?_,⟨hs1,Yb (bi (List.sublist_append_left t [v])) hs.2⟩,by simp⟩;simp only[h1,h4,h2,h3,zA,zb,Aa,hv,Da,zV,Eb];simp
   |false=> rw[Ga (by rw[hv];simp)]at hs1;unfold isSp at hv;refine .inr (.inl ⟨t++[v],?_,by rw[<-hs1]⟩);simp only[h1,h4,h2,zA,zb,Aa,hv,Da,Ba]
 ·rw[zkH]
def um(v:zf):Bool:=v.token.kind==9&&v.token.text==[33]
theorem zCE(v:zf):Sk v=some (um v):=by unfold Sk Zw um;simp only[zb,Aa];cases v.token.kind==9<;>rfl
def impW:Str:=[105,109,112,111,114,116,97,110,116]
def endV(l:List zf):Option (List zf×zf):=match l.reverse with
 |[]=>none
 |v::t=>some (t.reverse,v)
theorem Iw(t:List zf)(v:zf):endV (t++[v])=some (t,v):=by unfold endV;rw[List.reverse_append];simp
def Dg(v:List zf):List zf×Bool:=match endV v with
 |none=>(v,false)
 |some (t,z)=>bif !t.isEmpty&&(z.token.kind==1&&lowS z.token.text==impW)then
   (match endV (trimB t)with
   |none=>(v,false)
   |some (u,b)=>bif um b then(trimB u,true)else(v,false))
  else(v,false)
theorem DL{t:List zf}{v:zf}(h:szL (t++[v])<=big):w64 (((t++[v]).length:Int) - 1)=(t.length:Int):=by
 have hlen:=QV (t++[v]);have hl2:(t++[v]).length=t.length+1:=by simp
 unfold big at h;rw[w64,Z4 (by omega) (by omega)];omega
theorem xK(t:List zf)(v:zf):geti (t++[v]) (t.length:Int)=some v:=by rw[ZA (by simp)];simp
theorem ML(t:List zf)(v:zf):(decide ((0:Int)<=(t.length:Int))&&decide ((t.length:Int)<=((t++[v]).length:Int)))=true:=by simp;omega
theorem GK(t:List zf)(v:zf):List.take t.length (t++[v])=t:=by simp
theorem RL:lowS [105,109,112,111,114,116,97,110,116]=impW:=by decide+kernel
theorem IK{t:List zf}{v:zf}(h:szL (t++[v])<=big):szL t<=big/\v.token.text.length<=big:=by rw[OH,szL,yg]at h;omega
theorem jN(t:List zf):decide ((t.length:Int)>0)= !t.isEmpty:=by
 cases t with
 |nil=>rfl
 |cons a t=>exact Ia (by simp only[Ja];omega)
abbrev MK:=LX (List zf×(Str×Bool)×(Str×Bool)) (zJ×Bool)
theorem DZ{v:List zf}{nm:Str}(hv:szL v<=big):(
  zb (zo (decide (w64 ((v.length:Int) - 1)>0)) (geti v (w64 ((v.length:Int) - 1))) (default:zf)) fun y13=>
  zb (zo (decide (w64 ((v.length:Int) - 1)>0)) (Zw ((⟨y13.token,y13.list⟩:zf),1)) (default:Bool)) fun y14=>
  zb (zo (bif decide (w64 ((v.length:Int) - 1)>0)then y14 else false) (geti v (w64 ((v.length:Int) - 1))) (default:zf)) fun y15=>
  zb (zo (bif decide (w64 ((v.length:Int) - 1)>0)then y14 else false) (qF (y15.token.text,[105,109,112,111,114,116,97,110,116])) (default:Bool)) fun y16=>
  bif bif bif decide (w64 ((v.length:Int) - 1)>0)then y14 else false then y16 else false then
   need (decide (0<=w64 ((v.length:Int) - 1))&&decide (w64 ((v.length:Int) - 1)<=(v.length:Int)))<|
   zb (Yk (List.take (w64 ((v.length:Int) - 1)).toNat v)) fun y17=>
   zb (zo (decide ((y17.length:Int)>0)) (geti y17 (w64 ((y17.length:Int) - 1))) (default:zf)) fun y18=>
   zb (zo (decide ((y17.length:Int)>0)) (Sk (⟨y18.token,y18.list⟩:zf)) (default:Bool)) fun y19=>
   bif bif decide ((y17.length:Int)>0)then y19 else false then
    need (decide (0<=w64 ((y17.length:Int) - 1))&&decide (w64 ((y17.length:Int) - 1)<=(y17.length:Int)))<|
    zb (Yk (List.take (w64 ((y17.length:Int) - 1)).toNat y17)) fun y20=>
    some (LX.out (y20,(([]:Str),false),(nm,true)))
   else
    some (LX.out (v,(([]:Str),false),(nm,false)))
  else
   some (LX.out (v,(([]:Str),false),(nm,false))))=(some (LX.out ((Dg v).1,(([]:Str),false),(nm,(Dg v).2))):Option MK):=by
 rcases QD v with rfl|⟨t,z,rfl⟩
 ·rfl
 ·obtain⟨ht,hz⟩:=IK hv;unfold Dg;rw[Iw];simp only[DL hv,jN];cases he:t.isEmpty with
  |true=>simp only[aa,Zb,zb,Aa,Ba,Lb]
  |false=>
   simp only[Va,zA,xK,Zw,zb,Aa,Da,ma];cases hk:z.token.kind==1 with
   |false=>simp only[Zb,Aa,Ba,Lb]
   |true=>
    simp only[zA,Aa,OB hz (show([105,109,112,111,114,116,97,110,116]:Str).length<=big by decide),RL,Da,ma];cases ha:lowS z.token.text==impW with
    |false=>simp only[Ba]
    |true=>
     simp only[Da,ML,zV,Eb,GK,right_eq ht,Aa,jN];have hw:szL (trimB t)<=big:=Yb (bi (Cm t)) ht;obtain⟨w,hwd⟩: ∃w,trimB t=w:=⟨_,rfl⟩;rw[hwd]at hw;simp only[hwd];rcases QD w with rfl|⟨u,b,rfl⟩
     ·rfl
     ·have hne:(u++[b]).isEmpty=false:=by cases u<;>rfl
      rw[Iw];simp only[hne,Va,zA,DL hw,xK,Aa,Gw,zCE,Da];cases hb:um b with
      |false=>simp only[Ba]
      |true=>simp only[Da,ML,zV,Eb,GK,right_eq (IK hw).1,Aa]
def nmD(s:Str):Str:=bif List.isPrefixOf [45,45] s then s else lowS s
def noD:zJ×Bool:=(⟨[],[],false⟩,false)
def oneS(x:List zf):zJ×Bool:=match trimS x with
 |[]=>noD
 |n::r=>bif n.token.kind==1 then
   (match r.dropWhile isSp with
   |[]=>noD
   |c::q=>bif c.token.kind==16 then
     (bif Lf ⟨nmD n.token.text,(Dg (q.dropWhile isSp)).1,(Dg (q.dropWhile isSp)).2⟩then(⟨nmD n.token.text,(Dg (q.dropWhile isSp)).1,(Dg (q.dropWhile isSp)).2⟩,true)else noD)
    else noD)
  else noD
theorem CB{v:List zf}{t:List zf}{z:zf}(h:endV v=some (t,z)):v=t++[z]:=by
 rcases QD v with rfl|⟨t',z',rfl⟩
 ·cases h
 ·rw[Iw]at h;cases h;rfl
theorem zDt{v:List zf}(h1:Og v)(h2:Gg v):Og (Dg v).1/\Gg (Dg v).1/\(Dg v).1.Sublist v:=by
 unfold Dg;split
 ·exact⟨h1,h2,List.Sublist.refl _⟩
 ·rename_i t z he;have hv:=CB he;cases !t.isEmpty&&(z.token.kind==1&&lowS z.token.text==impW)with
  |false=>exact⟨h1,h2,List.Sublist.refl _⟩
  |true=>
   rw[Da];split
   ·exact⟨h1,h2,List.Sublist.refl _⟩
   ·rename_i u b hb;have hw:=CB hb;cases um b with
    |false=>exact⟨h1,h2,List.Sublist.refl _⟩
    |true=>
     rw[Da];have hht:Og t:=by rw[hv]at h1;exact h1.pre
     have hhw:Og (trimB t):=by obtain⟨r,hr⟩:=cO t;rw[hr]at hht;exact hht.pre
     have hhu:Og u:=by rw[hw]at hhw;exact hhw.pre
     refine⟨?_,xN u,?_⟩
     ·obtain⟨r,hr⟩:=cO u;rw[hr]at hhu;exact hhu.pre
     ·refine(Cm u).trans ((List.sublist_append_left u [b]).trans ?_);rw[<-hw];refine(Cm t).trans ?_;rw[hv];exact List.sublist_append_left t [z]
theorem zDq(s:Str):(lowS s).length=s.length:=by unfold lowS;simp
theorem zFa(s:Str):(nmD s).length=s.length:=by
 unfold nmD;cases List.isPrefixOf [45,45] s
 ·exact zDq s
 ·rfl
theorem TN(n:zf)(r:List zf):(((n::r).length:Int)==0)=false:=Fa.2 (by simp only[Ja];omega)
theorem OW(n:zf)(r:List zf):decide ((1:Int)<=((n::r).length:Int))=true:=Ia (by simp only[Ja];omega)
theorem bN(n:zf)(r:List zf):geti (n::r) 0=some n:=rfl
theorem IZ{x:List zf}(h:szL x<=big){n:zf}{r:List zf}(hy:trimS x=n::r):n.token.text.length<=big/\szL r<=big/\Gg r/\
  ∀{c:zf} {q:List zf},r.dropWhile isSp=c::q->szL (q.dropWhile isSp)<=big/\Og (q.dropWhile isSp)/\Gg (q.dropWhile isSp):=by
 have hsz:=zBC x;have he:Gg (trimS x):=xN _;rw[hy]at hsz he;rw[szL,yg]at hsz;have her:Gg r:=he.suf (a:=[n]);refine⟨by omega,by omega,her,fun {c q} hq=> ?_⟩;obtain⟨a,ha⟩:=rW r;rw[hq]at ha;obtain⟨b,hb⟩:=rW q;refine⟨?_,zDi q,?_⟩
 ·have h1:=bi (He isSp (l:=q));rw[ha,OH,szL]at hsz;omega
 ·rw[ha,hb]at her;exact Gg.suf (a:=a++c::b) (by rw[La];exact her)
theorem K6{x:List zf}(h:szL x<=big):av x=some (oneS x):=by
 have hdw:szL (x.dropWhile isSp)<=big:=Yb (bi (He _)) h;unfold av oneS;simp only[left_eq,right_eq hdw,zb,Aa,show trimB (x.dropWhile isSp)=trimS x from rfl];cases hy:trimS x with
 |nil=>rfl
 |cons n r=>
  obtain⟨hn,hr,_,hp⟩:=IZ h hy;simp only[TN,Va,zA,bN,Aa,Zw,Ba];cases hk:n.token.kind==1 with
  |false=>simp only[Va,Da,Ba];rfl
  |true=>
   simp only[aa,Ba,Da];have hj:((strings_HasPrefix (n.token.text,[45,45])).bind fun y6=>bif !y6 then(qj n.token.text).bind fun y7=>some (LX.out (n::r,(([]:Str),false),(y7,false)))else some (LX.out (n::r,([],false),(n.token.text,false))))=(some (LX.out (n::r,([],false),(nmD n.token.text,false))):Option MK):=by rw[Qr,Aa,NB hn];unfold nmD;cases List.isPrefixOf [45,45] n.token.text<;>rfl
   rw[hj,zh];simp only[OW,zV,show List.drop 1 (n::r)=r from rfl];cases hq:r.dropWhile isSp with
   |nil=>rfl
   |cons c q=>
    obtain⟨hv,hh,he⟩:=hp hq;simp only[TN,Va,zA,bN,Aa,Ba];cases hc:c.token.kind==16 with
    |false=>simp only[Va,Da,Ba];rfl
    |true=>
     simp only[aa,Ba,Da,OW,zV,show List.drop 1 (c::q)=q from rfl];obtain⟨v,hvd⟩: ∃v,q.dropWhile isSp=v:=⟨_,rfl⟩;rw[hvd]at hv hh he;simp only[hvd];have hm:=DZ (nm:=nmD n.token.text) hv;simp only[zb,Zw]at hm;rw[hm,zh];obtain⟨h1,h2,h3⟩:=zDt hh he;obtain⟨w,hw⟩: ∃w,Dg v=w:=⟨_,rfl⟩;rw[hw]at h1 h2 h3;simp only[hw];have hws:szL w.1<=big:=Yb (bi h3) hv;rw[BZ hws,Aa];by_cases he0:errS w.1=0
     ·rw[Ha he0,wL h1 h2];simp only[show((0:Int) != 0)=false from rfl,Va,zA,Ba];rw[PS (d:=⟨nmD n.token.text,w.1,w.2⟩) hws (by rw[zFa];exact hn),Aa];cases Lf ⟨nmD n.token.text,w.1,w.2⟩<;>rfl
     ·have he1:(errS w.1 != 0)=true:=Ue.2 he0;have he2:Lf ⟨nmD n.token.text,w.1,w.2⟩=false:=by unfold Lf;simp only[show(errS w.1==0)=false from Fa.2 he0,Lb,Rc]
      rw[Ga he0,he2];simp only[he1,aa,Zb,Aa,Da,Ba];rfl
def Uh(a:List zJ)(p:List zf):List zJ:=bif (oneS p).2&&decide (a.length<32)then a++[(oneS p).1]else a
def jg(ps:List (List zf)):List zJ:=ps.foldl Uh []
theorem zBp{a:List zJ}{p:List zf}(h:a.length<=32):(Uh a p).length<=32:=by
 unfold Uh;cases hb:(oneS p).2&&decide (a.length<32)with
 |false=>exact h
 |true=> rw[Ea,Jb]at hb;rw[Da,Ka,jb];omega
theorem WY{ps:List (List zf)}{i:Nat}(h:i<ps.length):jg (ps.take (i+1))=Uh (jg (ps.take i)) ps[i]:=by unfold jg;rw[Tc h,List.foldl_append];rfl
theorem eY(ps:List (List zf)):(jg ps).length<=32:=by
 unfold jg;have key: ∀(ps:List (List zf)) (a:List zJ),a.length<=32->(ps.foldl Uh a).length<=32:=by
  intro ps
  induction ps with
  |nil=>intro a h;exact h
  |cons p ps ih=>intro a h;exact ih _ (zBp h)
 exact key ps [] (Dc _)
theorem SY{x:List zf}(h:szL x<big):(Sg 17 x).length<=big/\ ∀p∈Sg 17 x,szL p<=big:=by have h1:=zAd 17 x;have h2:=LK (Sg 17 x);exact⟨by omega,fun p hp=>by have:=JK hp;omega⟩
theorem ap48{n:Nat}(h:n<=32):zH n 1 48=true:=mi (by omega)
def Nh(s:Str):List zJ×Int:=
 if(QW s).2=0 then(if(parS (QW s).1).2=0 then(jg (Sg 17 (parS (QW s).1).1),0)else([],(parS (QW s).1).2))else([],(QW s).2)
def szD(l:List zJ):Prop:=l.length<=big/\ ∀d∈l,szL d.value<=big
theorem PH{d:zJ}(h:szL d.value<=big):Qa (d,d)=some true:=by unfold Qa;simp only[af,Da,zA,zBj h,zb,Aa]
theorem size_le{l:List zf}{m:Nat}(h:szL l<=big)(hm:m<=1000): ∃r:Int,qV (l,(m:Int))=some r/\0<=r/\r<=szL l/\(r<=m->r=szL l):=by
 have: ∃r,qV (l,(m:Int))=some r/\(0<=r/\r<=(szL l:Int)/\(r<=(m:Int)->r=(szL l:Int))):=by
  refine zBi zmF (fun x=>szL x.1) (fun x=>szL x.1<=big/\0<=x.2/\x.2<=1000) (fun x r=>0<=r/\r<=(szL x.1:Int)/\(r<=x.2->r=(szL x.1:Int))) (fun S x hx hS=> ?_) (x:=(l,(m:Int))) ⟨h,by omega,by omega⟩;obtain⟨l,m⟩:=x;obtain⟨hx,hm0,hm1⟩:=hx;simp only at hx hm0 hm1;have hlen:=QV l;unfold big at hx;unfold Dt;refine zAL (A:=Int) l.length (fun i a=>(a,(i:Int))) (fun i a=>0<=a/\a<=(szL (l.take i):Int)/\(a<=m->a=(szL (l.take i):Int))) _ (a0:=0) rfl ⟨by omega,by simp[szL],fun _=>by simp[szL]⟩ (fun i a hi ha=> ?_) (fun a ha=> ?_)
  ·obtain⟨ha0,ha1,ha2⟩:=ha;have hsz:=Tv hi;have hsz2:=sw l (i+1);have hv:=yg l[i];have hm2:=Mi (Ic hi);cases hc:decide (a<=m)with
   |false=> simp only[ql hi,Da,Ba,hc];have hc:=of_decide_eq_false hc;exact .inr (.inr ⟨_,rfl,_,rfl,ha0,by omega,fun q=>absurd q hc⟩)
   |true=>
    have hc':=Vb hc;have e0:w64 (m - a)=m - a:=by rw[w64,Z4 (by omega) (by omega)]
    obtain⟨r,hr,hr0,hr1,hr2⟩:=hS (l[i].list,w64 (m - a)) ⟨by show szL l[i].list<=4194304;omega,by show 0<=w64 (m - a);omega,by show w64 (m - a)<=1000;omega⟩ (by show szL l[i].list<szL l;omega);simp only[e0]at hr2 hr1;have e1:w64 (a+w64 (w64 (w64 (1+(l[i].token.text.length:Int))+(l[i].token.unit.length:Int))+r))=a+(1+l[i].token.text.length+l[i].token.unit.length+r):=by rw[w64,w64,w64,w64,Z4 (n:=1+(l[i].token.text.length:Int)) (by omega) (by omega),Z4 (n:=1+(l[i].token.text.length:Int)+(l[i].token.unit.length:Int)) (by omega) (by omega),Z4 (n:=1+(l[i].token.text.length:Int)+(l[i].token.unit.length:Int)+r) (by omega) (by omega),Z4 (by omega) (by omega)]
    simp only[ql hi,Da,hc,ZA hi,zb,Aa,hr,e1,Zy hi (show l.length<=big by unfold big;omega)];exact .inl ⟨_,rfl,by omega,by omega,fun q=>by have:=ha2 hc';have:=hr2 (by omega);omega⟩
  ·obtain⟨ha0,ha1,ha2⟩:=ha;rw[bf]at ha1 ha2;simp only[Ki,Ba];exact .inl ⟨_,rfl,_,rfl,ha0,ha1,ha2⟩
 obtain⟨r,hr,h0,h1,h2⟩:=this;exact⟨r,hr,h0,h1,h2⟩
theorem LD{α}[Inhabited α]{o:Option α}(h:o.isSome=true):o=some (o.getD default):=by
 cases o with
 |none=>cases h
 |some a=>rfl
abbrev tx5:Str:=[67,79,76,79,82,32,58,32,114,101,100,32,33,32,105,109,112,111,114,116,97,110,116,59,32,120,59,32,45,45,89,58,59,32,109,97,114,103,105,110,58,49,112,120,41]
noncomputable def tk5:List ze×Int:=(MC 400 tx5).getD default
noncomputable def vv5:List zf×Int:=(parseF tk5.1).getD default
noncomputable def dd5:List zJ:=jg (Sg 17 vv5.1)
noncomputable def ls5:Str×Int:=(sH 400 dd5).getD default
abbrev vSp:zf:=⟨⟨13,[],0,[],false⟩,[]⟩
theorem VK: ∀(a b:List zf) (c:Int),shL (a++b) c=(shL a c&&shL b c)
 |[],b,c=>by rw[Ob,shL,ma]
 |v::a,b,c=>by rw[Sa,shL,shL,VK a b c,Bool.and_assoc]
theorem F5{l:List zJ}(h:szD l):Es (l,l)=some true:=by
 unfold Es;have hne:((l.length:Int) != (l.length:Int))=false:=by simp
 simp only[hne,Ba];refine(EA l (fun i (_:Unit)=>(i:Int)) (fun v (_:Unit)=>some (.again ())) (fun _=>some (.out ())) (a:=()) rfl (fun i a hi=> ?_) (fun a=> ?_) (r:= .out ()) ?_)
 ·have hw:=Zy hi h.1;have hn:(decide (0<=(i:Int))&&decide ((i:Int)<(l.length:Int)))=true:=by simp[hi]
  simp only[ql hi,Da,ZA hi,hn,zV,Eb,Ua hi,zb,Aa,PH (h.2 _ (Ic hi)),aa,Ba,hw];rfl
 ·simp only[Ki,Ba];rfl
 ·rw[Xk (fun a v=>a) (fun v a=>rfl)]
end Go.Lv.VT
