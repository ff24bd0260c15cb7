/- Parsing of tokens: what the machine of nest.Parse computes is what the reference's recursion computes. -/
import Derived.Test.YtcdeccnjlkkejaaGreatDoorNa
import Derived.Test.YtcdeccnjlkkejaaGreatDoorTy
import Derived.Test.YtcdeccnjlkkejaaGreatDoorNb
import Derived.KernelRfl
import Derived.Test.YtcdeccnjlkkejaaGreatDoorNd
set_option linter.unusedSimpArgs false
set_option linter.unusedVariables false
namespace Go.Lv.VT
set_option maxRecDepth 100000
def Uf:Nat->List zb->Int->Nat->Option (List zg×List zb)
 |0,_,_,_=>none
 |_+1,[],_,_=>some ([],[])
 |n+1,t::r,c,left=>
  if c≠0/\t.kind=c then some ([],r)
  else if zo t.kind=0 then(Uf n r c left).map fun v=>(⟨t,[]⟩::v.1,v.2)
  else match left with
   |0=>none
   |m+1=>(Uf n r (zo t.kind) m).bind fun w=>(Uf n w.2 c (m+1)).map fun v=>(⟨t,w.1⟩::v.1,v.2)
theorem Wx(n:Nat)(t:zb)(r:List zb)(c:Int)(left:Nat):Uf (n+1) (t::r) c left=if c≠0/\t.kind=c then some ([],r)
  else if zo t.kind=0 then(Uf n r c left).map fun v=>(⟨t,[]⟩::v.1,v.2)
  else match left with
   |0=>none
   |m+1=>(Uf n r (zo t.kind) m).bind fun w=>(Uf n w.2 c (m+1)).map fun v=>(⟨t,w.1⟩::v.1,v.2):=rfl
theorem uw: ∀(n:Nat) (l:List zb) (c:Int) (left:Nat) (v:List zg×List zb),Uf n l c left=some v->v.2.length<=l.length/\(l≠[]->v.2.length<l.length)
 |0,_,_,_,_,h=>by cases h
 |n+1,[],c,left,v,h=>by
  rw[Uf]at h
  grind
 |n+1,t::r,c,left,v,h=>by
  rw[Wx]at h;have e:v.2.length<=r.length:=by
   split at h
   ·grind
   split at h
   ·cases a:Uf n r c left with
    |none=>grind
    |some w=>rw[a]at h;cases h;exact(uw n r c left w a).1
   ·cases left with
    |zero=>cases h
    |succ m=>
     simp only at h;cases b:Uf n r (zo t.kind) m with
     |none=>grind
     |some w=>
      rw[b,Aa]at h;cases a:Uf n w.2 c (m+1)with
      |none=>grind
      |some d=>
       rw[a]at h;cases h;have f:=(uw n r _ m w b).1;have g:=(uw n w.2 c _ d a).1
       grind
  grind
def yl(l:List zb)(s:PSt):Option (List zg):=(Z0 l s).map fun s=>shutAll s.1 s.2
theorem uQ(t:zb)(l:List zb)(s:PSt):yl (t::l) s=(qi s t).bind (yl l):=by unfold yl;rw[Z0];cases qi s t<;>rfl
theorem wB: ∀(n:Nat) (l:List zb) (cur:List zg) (o:zb) (a:List zg) (st:List (zb×List zg)) (left:Nat),l.length<n->zo o.kind≠0->left+(st.length+1)=16->
  yl l (cur,(o,a)::st)=(Uf n l (zo o.kind) left).bind fun v=>yl v.2 (a++[⟨o,cur++v.1⟩],st)
 |0,_,_,_,_,_,_,h,_,_=>by omega
 |n+1,[],cur,o,a,st,left,_,_,_=>by rw[Uf,Aa];simp only[yl,Z0,Pb,shutAll,Bb]
 |n+1,t::r,cur,o,a,st,left,g,c,f=>by
  rw[Sa]at g;rw[Wx,uQ];unfold qi;simp only[Yl];by_cases e:t.kind=zo o.kind
  ·rw[La (by grind),La ⟨c,e⟩,Aa,Aa];simp only[rJ,Bb]
  ·rw[Ga (by grind),Ga (show¬(zo o.kind≠0/\t.kind=zo o.kind)from fun h=>e h.2)];by_cases b:zo t.kind=0
   ·rw[Ga (show¬zo t.kind≠0 from fun h=>h b),La b,Aa,wB n r _ o a st left (by omega) c f];cases Uf n r (zo o.kind) left with
    |none=>rfl
    |some v=>grind
   ·rw[La b,Ga b];cases left with
    |zero=>grind
    |succ m=>
     rw[Ga (by grind),Aa];simp only;rw[wB n r [] t cur ((o,a)::st) m (by omega) b (by grind)];cases i:Uf n r (zo t.kind) m with
     |none=>rfl
     |some w=>
      have d:=(uw n r _ m w i).1;simp only[Aa];rw[wB n w.2 _ o a st (m+1) (by omega) c f];cases Uf n w.2 (zo o.kind) (m+1)with
      |none=>rfl
      |some v=>grind
theorem UH: ∀(n:Nat) (l:List zb) (cur:List zg),l.length<n->yl l (cur,[])=(Uf n l 0 16).map fun v=>cur++v.1
 |0,_,_,h=>by omega
 |n+1,[],cur,_=>by rw[Uf];simp only[yl,Z0,Pb,shutAll,Bb]
 |n+1,t::r,cur,c=>by
  rw[Sa]at c;rw[Wx,uQ];unfold qi;simp only[Yl];rw[Ga (by decide),Ga (show¬((0:Int)≠0/\t.kind=0)from fun h=>h.1 rfl)];by_cases a:zo t.kind=0
  ·rw[Ga (show¬zo t.kind≠0 from fun h=>h a),La a,Aa,UH n r _ (by omega)];cases Uf n r 0 16 with
   |none=>rfl
   |some v=>grind
  ·rw[La a,Ga a,Ga (by decide),Aa];rw[wB n r [] t cur [] 15 (by omega) a rfl];cases d:Uf n r (zo t.kind) 15 with
   |none=>rfl
   |some w=>
    have b:=(uw n r _ 15 w d).1;simp only[Aa];rw[UH n w.2 _ (by omega)];cases Uf n w.2 0 16 with
    |none=>rfl
    |some v=>grind
theorem FB: ∀(a b:List zg),tokL (a++b)=tokL a++tokL b
 |[],b=>by rw[tokL];rfl
 |v::a,b=>by rw[ma,tokL,tokL,FB a b,Ra]
theorem NG(v:zg):tokL [v]=tokV v:=by rw[tokL,tokL,Bb]
def Wi(s:PSt):Nat:=(tokL s.1).length+(s.2.map fun x=>1+(tokL x.2).length).sum
def xy(s:PSt):Prop:= ∀x∈s.2,zo x.1.kind≠0
theorem u6{s s':PSt}{t:zb}(h:qi s t=some s')(c:xy s):xy s'/\Wi s'=Wi s+1:=by
 unfold qi at h;obtain⟨g,f⟩:=s;split at h
 ·rename_i d;cases f with
  |nil=>cases d
  |cons x f=> obtain⟨o,e⟩:=x;cases h;have a:zo o.kind≠0:=c (o,e) (Nb ..);refine⟨fun x b=>c x (Eb _ b),?_⟩;simp only[Wi,rJ,FB,NG,Ia,ja,Nf,xn,Sa,Ga a,Ia,je,lc];omega
 split at h
 ·rename_i d a;split at h
  ·cases h
  ·rename_i i;cases h;refine⟨fun x b=> ?_,?_⟩
   ·rcases Ab.1 b with rfl|b
    ·exact a
    ·exact c x b
   ·simp only[Wi,ja,Nf,tokL,lc];omega
 ·rename_i d a;cases h;refine⟨c,?_⟩;have a:zo t.kind=0:=Classical.byContradiction a;simp only[Wi,FB,NG,Ia,xn,Sa,La a,lc];omega
theorem pO: ∀(l:List zb) {s s':PSt},Z0 l s=some s'->xy s->xy s'/\Wi s'=Wi s+l.length
 |[],s,s',h,b=>by cases h;grind
 |t::l,s,s',h,b=>by
  rw[Z0]at h;cases a:qi s t with
  |none=>grind
  |some g=>
   rw[a,Aa]at h;obtain⟨c,f⟩:=u6 a b;obtain⟨e,d⟩:=pO l h c
   grind
theorem pQ: ∀(st:List (zb×List zg)) (cur:List zg),(∀x∈st,zo x.1.kind≠0)->(tokL (shutAll cur st)).length=Wi (cur,st)+st.length
 |[],cur,_=>by simp[shutAll,Wi]
 |(o,a)::st,cur,h=>by have c:zo o.kind≠0:=h (o,a) (Nb ..);rw[shutAll,pQ st _ (fun x b=>h x (Eb _ b))];simp only[Wi,FB,NG,Ia,xn,Sa,Ga c,Ia,je,ja,Nf,Sa,lc];omega
def yJ(l:List zb)(c:Int)(left:Nat):Option (List zg×List zb):=Uf (l.length+1) l c left
def wtT:List zb->Nat
 |[]=>0
 |t::r=>1+t.text.length+t.unit.length+wtT r
theorem yA: ∀(n:Nat) (l:List zb) (c:Int) (left:Nat) (v:List zg×List zb),Uf n l c left=some v->szL v.1+wtT v.2<=wtT l
 |0,_,_,_,_,h=>by cases h
 |n+1,[],c,left,v,h=>by
  rw[Uf]at h;cases h;rw[szL];exact Ya _
 |n+1,t::r,c,left,v,h=>by
  rw[Wx]at h;rw[wtT];split at h
  ·cases h;rw[szL];simp only;omega
  split at h
  ·cases a:Uf n r c left with
   |none=>rw[a]at h;cases h
   |some w=> rw[a]at h;cases h;have:=yA n r c left w a;simp only[szL,szV];omega
  ·cases left with
   |zero=>cases h
   |succ m=>
    simp only at h;cases b:Uf n r (zo t.kind) m with
    |none=>rw[b]at h;cases h
    |some w=>
     rw[b,Aa]at h;cases a:Uf n w.2 c (m+1)with
     |none=>rw[a]at h;cases h
     |some d=> rw[a]at h;cases h;have e:=yA n w.2 c _ d a;have f:=yA n r _ m w b;simp only[szL,szV];omega
theorem pK(l:List zb):(Z0 l ([],[])).map (fun s=>shutAll s.1 s.2)=(yJ l 0 16).map Prod.fst:=UH _ l [] (Ub _)
theorem zDu{l:List zb}{s:PSt}(h:Z0 l ([],[])=some s):szL (shutAll s.1 s.2)<=wtT l:=by
 have a:=pK l;rw[h,Pb]at a;cases b:yJ l 0 16 with
 |none=>rw[b]at a;cases a
 |some v=> rw[b,Pb]at a;injection a with a;have:=yA _ _ _ _ v b;rw[a];omega
theorem zB7(l:List zb):szL (parS l).1<=wtT l:=by
 unfold parS;split
 ·rw[szL];exact Bc _
 ·split
  ·rw[szL];exact Bc _
  ·rename_i s a;split
   ·rw[szL];exact Bc _
   ·exact zDu a
theorem yC: ∀(n:Nat) (l:List zb) (c:Int) (left:Nat) (v:List zg×List zb),Uf n l c left=some v->shL v.1 c=true/\Hg v.1<=left/\(∀t∈v.2,t∈l)/\ ∀t∈tokL v.1,t∈l\/(t.text=[]/\t.unit=[])
 |0,_,_,_,_,h=>by cases h
 |n+1,[],c,left,v,h=>by
  rw[Uf]at h;cases h;exact⟨by rw[shL],by rw[Hg];grind,fun t a=>a,fun t a=>by rw[tokL]at a;cases a⟩
 |n+1,t::r,c,left,v,h=>by
  rw[Wx]at h;split at h
  ·cases h;exact⟨by rw[shL],by rw[Hg];grind,fun t a=>Eb _ a,fun t a=>by rw[tokL]at a;cases a⟩
  rename_i A;have j:(c != 0&&t.kind==c)=false:=by
   cases y:(c != 0&&t.kind==c)with
   |false=>rfl
   |true=>grind
  split at h
  ·rename_i b;cases e:Uf n r c left with
   |none=>grind
   |some w=>
    rw[e]at h;cases h;obtain⟨g,p,f,q⟩:=yC n r c left w e;refine⟨?_,?_,fun t a=>Eb _ (f t a),fun u d=> ?_⟩
    ·rw[shL,shV,g,j,b];rfl
    ·rw[Hg,Si,La b];omega
    ·rw[tokL,tokV,La b]at d
     grind
  ·rename_i b;cases left with
   |zero=>cases h
   |succ m=>
    simp only at h;cases i:Uf n r (zo t.kind) m with
    |none=>grind
    |some w=>
     rw[i,Aa]at h;cases e:Uf n w.2 c (m+1)with
     |none=>grind
     |some k=>
      rw[e]at h;cases h;obtain⟨g,p,f,q⟩:=yC n r _ m w i;obtain⟨o,B,x,z⟩:=yC n w.2 c _ k e;have s:(zo t.kind==0)=false:=Fa.2 b;refine⟨?_,?_,fun u d=>Eb _ (f u (x u d)),fun u d=> ?_⟩
      ·rw[shL,shV,g,o,j,s,Ec,Df];rfl
      ·rw[Hg,Si,Ga b];omega
      ·rw[tokL,tokV,Ga b,ma,Ra]at d
       grind
theorem jY{l:List zb}(h:(parS l).2=0):errS (parS l).1=0/\ ∀t∈tokL (parS l).1,t∈l\/(t.text=[]/\t.unit=[]):=by
 unfold parS at h ⊢;split at h
 ·cases h
 rename_i k;rw[Ga k];split at h
 ·cases h
 rename_i s b;split at h
 ·cases h
 rename_i m;rw[Ga m];have a:=pK l;rw[b,Pb]at a;cases d:yJ l 0 16 with
 |none=>grind
 |some v=>
  rw[d,Pb]at a;injection a with a;obtain⟨p,n,o,i⟩:=yC _ _ _ _ _ d;obtain⟨e,j⟩:=pO l b (fun x g=>by cases g);have c:=pQ s.2 s.1 e;have f:Wi (s.1,s.2)=l.length:=by rw[show(s.1,s.2)=s from rfl,j];simp[Wi,tokL]
  rw[f]at c;simp only[a]at c ⊢;refine⟨?_,i⟩;unfold errS
  grind
def topc:List (zb×List zg)->Int
 |[]=>0
 |(o,_)::_=>zo o.kind
theorem IX{st:List (zb×List zg)}{t:zb}(b: ∀x∈st,zo x.1.kind≠0)(h:(topc st != 0&&t.kind==topc st)=false): ¬Yl st t=true:=by
 cases st with
 |nil=>exact Bool.false_ne_true
 |cons x st=>
  obtain⟨o,a⟩:=x;have c:(zo o.kind != 0)=true:=og.2 (b (o,a) (Nb ..));show¬(t.kind==zo o.kind)=true;have d:(zo o.kind != 0&&t.kind==zo o.kind)=false:=h
  grind
mutual
/-- The tokens of values of their shape are read as these values. -/
theorem zD1: ∀(v:zg) (cur:List zg) (st:List (zb×List zg)) (rest:List zb),(∀x∈st,zo x.1.kind≠0)->shV v (topc st)=true->Si v+st.length<=16->Z0 (tokV v++rest) (cur,st)=Z0 rest (cur++[v],st)
 |⟨t,l⟩,cur,st,rest,d,a,c=>by
  rw[shV,He,jd,jd]at a;obtain⟨⟨g,h2⟩,f⟩:=a;have j:=IX d h2;rw[tokV];rw[Si]at c;by_cases b:zo t.kind=0
  ·have h:l=[]:=by rw[b,show((0:Int)==0)=true from rfl,Sb,decide_eq_false_iff_not]at g;exact Vf.1 (by omega)
   subst h;rw[La b,Yc,Z0];unfold qi
   grind
  ·rw[Ga b]at c ⊢;have i:(zo t.kind != 0)=true:=og.2 b;rw[i,Sb,Bool.not_eq_false']at f;have e: ∀x∈(t,cur)::st,zo x.1.kind≠0:=fun x k=>by
    grind
   rw[ma,Ra,Z0];unfold qi;rw[Ga j,La b,Ga (show¬st.length=16 by omega),Aa,VK l [] ((t,cur)::st) _ e f (by grind),Mc,Yc,Z0];unfold qi;rw[La (show Yl ((t,cur)::st) ⟨zo t.kind,[],0,[],false⟩=true from beq_self_eq_true _),Aa];rfl
theorem VK: ∀(v:List zg) (cur:List zg) (st:List (zb×List zg)) (rest:List zb),(∀x∈st,zo x.1.kind≠0)->shL v (topc st)=true->Hg v+st.length<=16->Z0 (tokL v++rest) (cur,st)=Z0 rest (cur++v,st)
 |[],cur,st,rest,_,_,_=>by rw[tokL,Mc,Bb]
 |v::r,cur,st,rest,d,a,c=>by rw[shL,Ca]at a;rw[Hg]at c;rw[tokL,Ra,zD1 v cur st _ d a.1 (by omega),VK r _ st _ d a.2 (by omega),Ra];rfl
end
theorem WY{v:List zg}(h:errS v=0):Hg v<=16/\(tokL v).length<=1500/\shL v 0=true:=by
 unfold errS at h;split at h
 ·cases h
 split at h
 ·cases h
 split at h
 ·grind
 ·cases h
theorem kY{v:List zg}(h:errS v=0):parS (tokL v)=(v,0):=by obtain⟨b,e,d⟩:=WY h;have a:=VK v [] [] [] (fun x c=>by cases c) d (by simpa using b);rw[Bb,Mc,Z0]at a;unfold parS;rw[Ga (by omega),a];simp only[lc,Ae];rw[Ga (by omega),shutAll]
def lA:List zb:=[⟨2,[97],0,[],false⟩,⟨1,[98],0,[],false⟩,⟨19,[],0,[],false⟩,⟨1,[99],0,[],false⟩,⟨22,[],0,[],false⟩,⟨1,[100],0,[],false⟩]
def vA:List zg:=[⟨⟨2,[97],0,[],false⟩,[⟨⟨1,[98],0,[],false⟩,[]⟩,⟨⟨19,[],0,[],false⟩,[⟨⟨1,[99],0,[],false⟩,[]⟩,⟨⟨22,[],0,[],false⟩,[]⟩,⟨⟨1,[100],0,[],false⟩,[]⟩]⟩]⟩]
theorem IL{v:List zg}(a:szL v<=big)(h:errS v=0)(c:gluS (tokL v)=0)(b:jh (tokL v) 1000):Rm v=some (if 4000<(wrS (tokL v)).length then([],28)else(wrS (tokL v),0)):=by unfold Rm;simp only[ze,BQ a,h,Aa];rw[show((0:Int) != 0)=false from rfl,Ha,sW a,Aa,zAs c b,Aa]
theorem iq:QZ ()=some true:=by
 have c:Ih [97,40,98,91,99,41,100]=(lA,0):=by kernel_rfl
 have e:parS lA=(vA,0):=by kernel_rfl
 have a:szL vA<=big:=by decide+kernel
 have d:Rm vA=some ([97,40,98,91,99,41,100,93,41],0):=by rw[IL a (by decide+kernel) (by decide+kernel) (by unfold jh;decide+kernel),show wrS (tokL vA)=[97,40,98,91,99,41,100,93,41] by decide+kernel];rfl
 have b:Us vA=some (2,0):=by rw[R5 a];kernel_rfl
 unfold QZ LD parseF;simp only[ze,XH,c,e,d,b,Aa];rfl
theorem ME: ∀{l:List zb} {n:Nat},jh l n->wtT l<=(n+1)*l.length
 |[],n,_=>by rw[wtT];grind
 |t::r,n,h=>by have c:=h t (Nb ..);have b:=ME (l:=r) (fun u a=>h u (Eb _ a));rw[wtT,Sa,Nat.mul_add];omega
theorem T9(s:Str):FE s=some true:=by
 have hbig:big=4194304:=rfl;unfold FE;by_cases hlong:500<s.length
 ·rw[Ma (by omega),Ea];simp only[ze,iq,Aa]
 ·rw[Dc (by omega),Ha];simp only[ze,XH,Aa,parseF];have hcl:=OP s;have ht4:=fV (Proofs.Cl.cleanS s);have htl:=mM (Proofs.Cl.cleanS s);have hts:Ih s=if 1500<(qj (Proofs.Cl.cleanS s)).length then([],4)else(qj (Proofs.Cl.cleanS s),0):=by unfold Ih;rw[Ga (by omega)]
  have hl0:jh (Ih s).1 6000/\(Ih s).1.length<=1500:=by
   rw[hts];split
   ·grind
   ·exact⟨fun t ht=>(by have:=ht4 t ht;omega),Nat.le_of_not_lt (by assumption)⟩
  clear hts ht4 htl hcl;obtain⟨l,hl⟩: ∃l,(Ih s).1=l:=⟨_,rfl⟩;obtain⟨e,he⟩: ∃e,(Ih s).2=e:=⟨_,rfl⟩;rw[hl]at hl0;simp only[hl,he];obtain⟨hle,hlen⟩:=hl0;have hsz:=zB7 l;have hwt:wtT l<=6001*1500:=Lb (ME hle) (Nat.mul_le_mul_left _ hlen);obtain⟨g,hg1,hg2⟩:=mW (x:=l) (fun t ht=>by have:=hle t ht;omega) (by omega);cases hz:(bif e != 0 then true else(parS l).2 != 0)with
  |true=> simp only[Ec,Qx,Aa,Ea,iq]
  |false=>
   have hz2:(parS l).2=0:=by
    cases h:e != 0 with
    |true=>grind
    |false=>grind
   simp only[Cc,Zx,hg1,Aa,Ha];cases g with
   |true=>simp only[Ec,Qx,Aa,Ea,iq]
   |false=>
    obtain⟨h1,_⟩:=hg2 rfl;obtain⟨hv,hm⟩:=jY hz2;obtain⟨v,hvd⟩: ∃v,(parS l).1=v:=⟨_,rfl⟩;rw[hvd]at hv hm hsz;have hvs:szL v<=big:=by have h3:wtT l<=1001*1500:=Lb (ME h1) (Nat.mul_le_mul_left _ hlen);omega
    have htk:jh (tokL v) 1000:=fun t ht=>by
     rcases hm t ht with q|⟨q1,q2⟩
     ·exact h1 t q
     grind
    simp only[hvd,Cc,Zx,U0 hvs,Aa,zmM (zCu htk (show 1000<=big by omega)),Ha];by_cases hgz:gluS (tokL v)=0
    ·have hnt:=IL hvs hv hgz htk;rw[hgz,show((0:Int) != 0)=false from rfl,Ha,hnt,Aa];by_cases hlong:4000<(wrS (tokL v)).length
     ·rw[La hlong];simp only[show((28:Int) != 0)=true from rfl,show((28:Int)==28)=true from rfl,Ea,Zx,iq,Aa]
     ·rw[Ga hlong];simp only[show((0:Int) != 0)=false from rfl,Ha,L8 hgz htk (by omega),Aa,kY hv,show((0:Int)==0)=true from rfl,Ea,Zx,vW hvs,iq]
    ·have:(gluS (tokL v) != 0)=true:=by rw[og];exact hgz
     rw[this,Ea];simp only[iq,Aa]
end Go.Lv.VT
