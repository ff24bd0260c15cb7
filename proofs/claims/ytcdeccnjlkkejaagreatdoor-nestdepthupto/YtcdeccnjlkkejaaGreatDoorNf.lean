/- Parsing of tokens: what the machine of nest.Parse computes is what the reference's recursion computes. -/
import Derived.Test.YtcdeccnjlkkejaaGreatDoorNa
import Derived.Test.YtcdeccnjlkkejaaGreatDoorTy
import Derived.Test.YtcdeccnjlkkejaaGreatDoorNb
set_option linter.unusedSimpArgs false
set_option linter.unusedVariables false
namespace Go.Lv.VT
set_option maxRecDepth 100000
def Qz:Nat->List ze->Int->Nat->Option (List zg×List ze)
 |0,_,_,_=>none
 |_+1,[],_,_=>some ([],[])
 |n+1,t::r,c,left=>
  if c≠0/\t.kind=c then some ([],r)
  else if zh t.kind=0 then(Qz n r c left).map fun v=>(⟨t,[]⟩::v.1,v.2)
  else match left with
   |0=>none
   |m+1=>(Qz n r (zh t.kind) m).bind fun w=>(Qz n w.2 c (m+1)).map fun v=>(⟨t,w.1⟩::v.1,v.2)
theorem Vq(n:Nat)(t:ze)(r:List ze)(c:Int)(left:Nat):Qz (n+1) (t::r) c left=if c≠0/\t.kind=c then some ([],r)
  else if zh t.kind=0 then(Qz n r c left).map fun v=>(⟨t,[]⟩::v.1,v.2)
  else match left with
   |0=>none
   |m+1=>(Qz n r (zh t.kind) m).bind fun w=>(Qz n w.2 c (m+1)).map fun v=>(⟨t,w.1⟩::v.1,v.2):=rfl
theorem Vp: ∀(n:Nat) (l:List ze) (c:Int) (left:Nat) (v:List zg×List ze),Qz n l c left=some v->v.2.length<=l.length/\(l≠[]->v.2.length<l.length)
 |0,_,_,_,_,h=>by cases h
 |n+1,[],c,left,v,h=>by
  rw[Qz]at h;cases h;exact⟨Na _,fun h=>absurd rfl h⟩
 |n+1,t::r,c,left,v,h=>by
  rw[Vq]at h;have key:v.2.length<=r.length:=by
   split at h
   ·cases h;exact Na _
   split at h
   ·cases hv:Qz n r c left with
    |none=>rw[hv]at h;cases h
    |some w=>rw[hv]at h;cases h;exact(Vp n r c left w hv).1
   ·cases left with
    |zero=>cases h
    |succ m=>
     simp only at h;cases hw:Qz n r (zh t.kind) m with
     |none=>rw[hw]at h;cases h
     |some w=>
      rw[hw,Ya]at h;cases hv:Qz n w.2 c (m+1)with
      |none=>rw[hv]at h;cases h
      |some v'=> rw[hv]at h;cases h;have h1:=(Vp n r _ m w hw).1;have h2:=(Vp n w.2 c _ v' hv).1;exact Db h2 h1
  exact⟨by rw[Sa];omega,fun _=>by rw[Sa];omega⟩
def Ti(l:List ze)(s:PSt):Option (List zg):=(ZV l s).map fun s=>shutAll s.1 s.2
theorem NG(t:ze)(l:List ze)(s:PSt):Ti (t::l) s=(ZW s t).bind (Ti l):=by unfold Ti;rw[ZV];cases ZW s t<;>rfl
theorem Nt: ∀(n:Nat) (l:List ze) (cur:List zg) (o:ze) (out:List zg) (st:List (ze×List zg)) (left:Nat),l.length<n->zh o.kind≠0->left+(st.length+1)=16->
  Ti l (cur,(o,out)::st)=(Qz n l (zh o.kind) left).bind fun v=>Ti v.2 (out++[⟨o,cur++v.1⟩],st)
 |0,_,_,_,_,_,_,h,_,_=>by omega
 |n+1,[],cur,o,out,st,left,_,_,_=>by rw[Qz,Ya];simp only[Ti,ZV,Bb,shutAll,jb]
 |n+1,t::r,cur,o,out,st,left,hn,ho,hl=>by
  rw[Sa]at hn;rw[Vq,NG];unfold ZW;simp only[dh];by_cases h1:t.kind=zh o.kind
  ·rw[Ta (by rw[h1,Bf]),Ta ⟨ho,h1⟩,Ya,Ya];simp only[lv,jb]
  ·rw[Ka (by rw[De];exact h1),Ka (show¬(zh o.kind≠0/\t.kind=zh o.kind)from fun h=>h1 h.2)];by_cases h2:zh t.kind=0
   ·rw[Ka (show¬zh t.kind≠0 from fun h=>h h2),Ta h2,Ya,Nt n r _ o out st left (by omega) ho hl];cases Qz n r (zh o.kind) left with
    |none=>rfl
    |some v=>simp only[Ya,Bb,Ic,List.singleton_append]
   ·rw[Ta h2,Ka h2];cases left with
    |zero=>rw[Ta (by rw[Sa];omega)];rfl
    |succ m=>
     rw[Ka (by rw[Sa];omega),Ya];simp only;rw[Nt n r [] t cur ((o,out)::st) m (by omega) h2 (by rw[Sa];omega)];cases hw:Qz n r (zh t.kind) m with
     |none=>rfl
     |some w=>
      have hlen:=(Vp n r _ m w hw).1;simp only[Ya];rw[Nt n w.2 _ o out st (m+1) (by omega) ho hl];cases Qz n w.2 (zh o.kind) (m+1)with
      |none=>rfl
      |some v=>simp only[Ya,Bb,Vd,Ic,List.singleton_append]
theorem Xy: ∀(n:Nat) (l:List ze) (cur:List zg),l.length<n->Ti l (cur,[])=(Qz n l 0 16).map fun v=>cur++v.1
 |0,_,_,h=>by omega
 |n+1,[],cur,_=>by rw[Qz];simp only[Ti,ZV,Bb,shutAll,jb]
 |n+1,t::r,cur,hn=>by
  rw[Sa]at hn;rw[Vq,NG];unfold ZW;simp only[dh];rw[Ka (by decide),Ka (show¬((0:Int)≠0/\t.kind=0)from fun h=>h.1 rfl)];by_cases h2:zh t.kind=0
  ·rw[Ka (show¬zh t.kind≠0 from fun h=>h h2),Ta h2,Ya,Xy n r _ (by omega)];cases Qz n r 0 16 with
   |none=>rfl
   |some v=>simp only[Bb,Ic,List.singleton_append]
  ·rw[Ta h2,Ka h2,Ka (by decide),Ya];rw[Nt n r [] t cur [] 15 (by omega) h2 rfl];cases hw:Qz n r (zh t.kind) 15 with
   |none=>rfl
   |some w=>
    have hlen:=(Vp n r _ 15 w hw).1;simp only[Ya];rw[Xy n w.2 _ (by omega)];cases Qz n w.2 0 16 with
    |none=>rfl
    |some v=>simp only[Bb,Vd,Ic,List.singleton_append]
theorem Et: ∀(a b:List zg),tokL (a++b)=tokL a++tokL b
 |[],b=>by rw[tokL];rfl
 |v::a,b=>by rw[Oc,tokL,tokL,Et a b,Ic]
theorem Rx(v:zg):tokL [v]=tokV v:=by rw[tokL,tokL,jb]
def Gg(s:PSt):Nat:=(tokL s.1).length+(s.2.map fun x=>1+(tokL x.2).length).sum
def xq(s:PSt):Prop:= ∀x∈s.2,zh x.1.kind≠0
theorem MO{s s':PSt}{t:ze}(h:ZW s t=some s')(ho:xq s):xq s'/\Gg s'=Gg s+1:=by
 unfold ZW at h;obtain⟨cur,st⟩:=s;split at h
 ·rename_i h1;cases st with
  |nil=>cases h1
  |cons x st=> obtain⟨o,out⟩:=x;cases h;have h2:zh o.kind≠0:=ho (o,out) (Ab ..);refine⟨fun x hx=>ho x (Ua _ hx),?_⟩;simp only[Gg,lv,Et,Rx,Ma,Ja,Je,Es,Sa,Ka h2,Ma,List.length_singleton,Uc];omega
 split at h
 ·rename_i h1 h2;split at h
  ·cases h
  ·rename_i h3;cases h;refine⟨fun x hx=> ?_,?_⟩
   ·rcases Oa.1 hx with rfl|hx
    ·exact h2
    ·exact ho x hx
   ·simp only[Gg,Ja,Je,tokL,Uc];omega
 ·rename_i h1 h2;cases h;refine⟨ho,?_⟩;have h2:zh t.kind=0:=Classical.byContradiction h2;simp only[Gg,Et,Rx,Ma,Es,Sa,Ta h2,Uc];omega
theorem Yy: ∀(l:List ze) {s s':PSt},ZV l s=some s'->xq s->xq s'/\Gg s'=Gg s+l.length
 |[],s,s',h,ho=>by cases h;exact⟨ho,rfl⟩
 |t::l,s,s',h,ho=>by
  rw[ZV]at h;cases hs:ZW s t with
  |none=>rw[hs]at h;cases h
  |some s1=> rw[hs,Ya]at h;obtain⟨h1,h2⟩:=MO hs ho;obtain⟨h3,h4⟩:=Yy l h h1;exact⟨h3,by rw[h4,h2,Sa];omega⟩
theorem cz: ∀(st:List (ze×List zg)) (cur:List zg),(∀x∈st,zh x.1.kind≠0)->(tokL (shutAll cur st)).length=Gg (cur,st)+st.length
 |[],cur,_=>by simp[shutAll,Gg]
 |(o,out)::st,cur,h=>by have h2:zh o.kind≠0:=h (o,out) (Ab ..);rw[shutAll,cz st _ (fun x hx=>h x (Ua _ hx))];simp only[Gg,Et,Rx,Ma,Es,Sa,Ka h2,Ma,List.length_singleton,Ja,Je,Sa,Uc];omega
def Pv(l:List ze)(c:Int)(left:Nat):Option (List zg×List ze):=Qz (l.length+1) l c left
def wtT:List ze->Nat
 |[]=>0
 |t::r=>1+t.text.length+t.unit.length+wtT r
theorem Iu: ∀(n:Nat) (l:List ze) (c:Int) (left:Nat) (v:List zg×List ze),Qz n l c left=some v->szL v.1+wtT v.2<=wtT l
 |0,_,_,_,_,h=>by cases h
 |n+1,[],c,left,v,h=>by
  rw[Qz]at h;cases h;rw[szL];exact Na _
 |n+1,t::r,c,left,v,h=>by
  rw[Vq]at h;rw[wtT];split at h
  ·cases h;rw[szL];simp only;omega
  split at h
  ·cases hv:Qz n r c left with
   |none=>rw[hv]at h;cases h
   |some w=> rw[hv]at h;cases h;have:=Iu n r c left w hv;simp only[szL,szV];omega
  ·cases left with
   |zero=>cases h
   |succ m=>
    simp only at h;cases hw:Qz n r (zh t.kind) m with
    |none=>rw[hw]at h;cases h
    |some w=>
     rw[hw,Ya]at h;cases hv:Qz n w.2 c (m+1)with
     |none=>rw[hv]at h;cases h
     |some v'=> rw[hv]at h;cases h;have h1:=Iu n w.2 c _ v' hv;have h2:=Iu n r _ m w hw;simp only[szL,szV];omega
theorem JC(l:List ze):(ZV l ([],[])).map (fun s=>shutAll s.1 s.2)=(Pv l 0 16).map Prod.fst:=Xy _ l [] (Lb _)
theorem dJ{l:List ze}{s:PSt}(h:ZV l ([],[])=some s):szL (shutAll s.1 s.2)<=wtT l:=by
 have hp:=JC l;rw[h,Bb]at hp;cases hv:Pv l 0 16 with
 |none=>rw[hv]at hp;cases hp
 |some v=> rw[hv,Bb]at hp;injection hp with hp;have:=Iu _ _ _ _ v hv;rw[hp];omega
theorem gK(l:List ze):szL (parS l).1<=wtT l:=by
 unfold parS;split
 ·rw[szL];exact Kb _
 ·split
  ·rw[szL];exact Kb _
  ·rename_i s hs;split
   ·rw[szL];exact Kb _
   ·exact dJ hs
theorem cu: ∀(n:Nat) (l:List ze) (c:Int) (left:Nat) (v:List zg×List ze),Qz n l c left=some v->shL v.1 c=true/\Zz v.1<=left/\(∀t∈v.2,t∈l)/\ ∀t∈tokL v.1,t∈l\/(t.text=[]/\t.unit=[])
 |0,_,_,_,_,h=>by cases h
 |n+1,[],c,left,v,h=>by
  rw[Qz]at h;cases h;exact⟨by rw[shL],by rw[Zz];exact Kb _,fun t ht=>ht,fun t ht=>by rw[tokL]at ht;cases ht⟩
 |n+1,t::r,c,left,v,h=>by
  rw[Vq]at h;split at h
  ·cases h;exact⟨by rw[shL],by rw[Zz];exact Kb _,fun t ht=>Ua _ ht,fun t ht=>by rw[tokL]at ht;cases ht⟩
  rename_i h1;have hc:(c != 0&&t.kind==c)=false:=by
   cases hh:(c != 0&&t.kind==c)with
   |false=>rfl
   |true=>rw[Ca,bne_iff_ne,De]at hh;exact absurd hh h1
  split at h
  ·rename_i h2;cases hv:Qz n r c left with
   |none=>rw[hv]at h;cases h
   |some w=>
    rw[hv]at h;cases h;obtain⟨a1,a2,a3,a4⟩:=cu n r c left w hv;refine⟨?_,?_,fun t ht=>Ua _ (a3 t ht),fun u hu=> ?_⟩
    ·rw[shL,shV,a1,hc,h2];rfl
    ·rw[Zz,Ug,Ta h2];omega
    ·rw[tokL,tokV,Ta h2]at hu;rcases Oa.1 hu with rfl|hu
     ·exact .inl (Ab ..)
     ·exact(a4 u hu).imp (Ua _) id
  ·rename_i h2;cases left with
   |zero=>cases h
   |succ m=>
    simp only at h;cases hw:Qz n r (zh t.kind) m with
    |none=>rw[hw]at h;cases h
    |some w=>
     rw[hw,Ya]at h;cases hv:Qz n w.2 c (m+1)with
     |none=>rw[hv]at h;cases h
     |some v'=>
      rw[hv]at h;cases h;obtain⟨a1,a2,a3,a4⟩:=cu n r _ m w hw;obtain⟨b1,b2,b3,b4⟩:=cu n w.2 c _ v' hv;have hz:(zh t.kind==0)=false:=Pb.2 h2;refine⟨?_,?_,fun u hu=>Ua _ (a3 u (b3 u hu)),fun u hu=> ?_⟩
      ·rw[shL,shV,a1,b1,hc,hz,Bool.not_true,Bool.and_false];rfl
      ·rw[Zz,Ug,Ka h2];omega
      ·rw[tokL,tokV,Ka h2,Oc,Ic]at hu;rcases Oa.1 hu with rfl|hu
       ·exact .inl (Ab ..)
       ·rcases Ib.1 hu with hu|hu
        ·exact(a4 u hu).imp (Ua _) id
        ·rcases Ib.1 hu with hu|hu
         ·rw[Fa.1 hu];exact .inr ⟨rfl,rfl⟩
         ·exact(b4 u hu).imp (fun q=>Ua _ (a3 u q)) id
theorem VM{l:List ze}(h:(parS l).2=0):errS (parS l).1=0/\ ∀t∈tokL (parS l).1,t∈l\/(t.text=[]/\t.unit=[]):=by
 unfold parS at h ⊢;split at h
 ·cases h
 rename_i h0;rw[Ka h0];split at h
 ·cases h
 rename_i s hs;split at h
 ·cases h
 rename_i hk;rw[Ka hk];have hp:=JC l;rw[hs,Bb]at hp;cases hv:Pv l 0 16 with
 |none=>rw[hv]at hp;cases hp
 |some v=>
  rw[hv,Bb]at hp;injection hp with hp;obtain⟨a1,a2,a3,a4⟩:=cu _ _ _ _ _ hv;obtain⟨b1,b2⟩:=Yy l hs (fun x hx=>by cases hx);have b3:=cz s.2 s.1 b1;have b4:Gg (s.1,s.2)=l.length:=by rw[show(s.1,s.2)=s from rfl,b2];simp[Gg,tokL]
  rw[b4]at b3;simp only[hp]at b3 ⊢;refine⟨?_,a4⟩;unfold errS;rw[Ka (by omega),Ka (by omega),Ta a1]
theorem UB: ∀l:List ze,wtT l<=zL Zq l
 |[]=>by rw[wtT];exact Kb _
 |t::r=>by rw[wtT,BJ,XM];have:=UB r;omega
def df(s:Nat×List Int)(t:ze):Nat×List Int:=
 match s.2 with
 |k::o=>if t.kind=k then(s.1,o)else if zh t.kind≠0 then(max s.1 (s.2.length+1),zh t.kind::s.2)else s
 |[]=>if zh t.kind≠0 then(max s.1 1,[zh t.kind])else s
def mRun(l:List ze)(s:Nat×List Int):Nat×List Int:=l.foldl df s
def pdf:Nat->List (ze×List zg)->Nat
 |c,[]=>c
 |c,(_,out)::st=>pdf (max (Zz out) (1+c)) st
theorem Ju: ∀(a b:List zg),Zz (a++b)=max (Zz a) (Zz b)
 |[],b=>by rw[Vd,Zz];omega
 |v::a,b=>by rw[Oc,Zz,Zz,Ju a b];omega
theorem IC: ∀(st:List (ze×List zg)) (c k:Nat),pdf (max c k) st=max (pdf c st) (k+st.length)
 |[],c,k=>by rw[pdf,pdf,Uc];omega
 |(o,out)::st,c,k=>by rw[pdf,pdf,show max (Zz out) (1+max c k)=max (max (Zz out) (1+c)) (k+1) by omega,IC st,Sa];omega
theorem FD: ∀(st:List (ze×List zg)) (cur:List zg),(∀x∈st,zh x.1.kind≠0)->Zz (shutAll cur st)=pdf (Zz cur) st
 |[],cur,_=>by rw[shutAll,pdf]
 |(o,out)::st,cur,h=>by have h2:zh o.kind≠0:=h (o,out) (Ab ..);rw[shutAll,FD st _ (fun x hx=>h x (Ua _ hx)),pdf,Ju,Zz,Zz,Ug,Ka h2];congr 1;omega
theorem iK(s:Nat×List Int)(t:ze):s.1<=(df s t).1:=by
 unfold df;split
 ·split
  ·exact Na _
  ·split
   ·simp only;omega
   ·exact Na _
 ·split
  ·simp only;omega
  ·exact Na _
theorem oC: ∀(l:List ze) (s:Nat×List Int),s.1<=(mRun l s).1
 |[],s=>Na _
 |t::l,s=>Db (iK s t) (oC l _)
theorem Ru: ∀(l:List ze) (cur:List zg) (st:List (ze×List zg)) (d:Nat),(∀x∈st,zh x.1.kind≠0)->d=pdf (Zz cur) st->d<=16->st.length<=16->
  match ZV l (cur,st)with
  |none=>16<(mRun l (d,st.map fun x=>zh x.1.kind)).1
  |some s=>(mRun l (d,st.map fun x=>zh x.1.kind)).1<=16/\(mRun l (d,st.map fun x=>zh x.1.kind)).1=Zz (shutAll s.1 s.2)
 |[],cur,st,d,ho,hd,h16,_=>by show d<=16/\d=Zz (shutAll cur st);exact⟨h16,by rw[FD st cur ho,hd]⟩
 |t::l,cur,st,d,ho,hd,h16,hs=>by
  rw[ZV];show match(ZW (cur,st) t).bind (ZV l)with
   |none=>16<(mRun l (df (d,st.map fun x=>zh x.1.kind) t)).1
   |some s=>(mRun l (df (d,st.map fun x=>zh x.1.kind) t)).1<=16/\(mRun l (df (d,st.map fun x=>zh x.1.kind) t)).1=Zz (shutAll s.1 s.2)
  have opn:dh st t=false->zh t.kind≠0->df (d,st.map fun x=>zh x.1.kind) t=(max d (st.length+1),zh t.kind::st.map fun x=>zh x.1.kind):=by
   intro h1 h2;unfold df;cases st with
   |nil=>simp only[Ob];rw[Ta h2];rfl
   |cons x st=>
    obtain⟨o,out⟩:=x;have h3: ¬t.kind=zh o.kind:=fun e=>by have:(t.kind==zh o.kind)=false:=h1;rw[e,Bf]at this;cases this
    simp only[Ja];rw[Ka h3,Ta h2,Sa,Ga,Sa]
  have pln:dh st t=false->zh t.kind=0->df (d,st.map fun x=>zh x.1.kind) t=(d,st.map fun x=>zh x.1.kind):=by
   intro h1 h2;unfold df;cases st with
   |nil=>simp only[Ob];rw[Ka (fun h=>h h2)]
   |cons x st=>
    obtain⟨o,out⟩:=x;have h3: ¬t.kind=zh o.kind:=fun e=>by have:(t.kind==zh o.kind)=false:=h1;rw[e,Bf]at this;cases this
    simp only[Ja];rw[Ka h3,Ka (fun h=>h h2)]
  unfold ZW;simp only;cases hsh:dh st t with
  |true=>
   rw[Ta rfl,Ya];cases st with
   |nil=>cases hsh
   |cons x st=>
    obtain⟨o,out⟩:=x;have h1:t.kind=zh o.kind:=De.1 hsh;have h2:zh o.kind≠0:=ho (o,out) (Ab ..);have hm:df (d,((o,out)::st).map fun x=>zh x.1.kind) t=(d,st.map fun x=>zh x.1.kind):=by unfold df;simp only[Ja];rw[Ta h1]
    rw[hm];refine Ru l (out++[⟨o,cur⟩]) st d (fun x hx=>ho x (Ua _ hx)) ?_ h16 (by rw[Sa]at hs;omega);rw[hd,pdf,Ju,Zz,Zz,Ug,Ka h2];congr 1;omega
  |false=>
   rw[Ka (by decide)];by_cases h2:zh t.kind=0
   ·rw[Ka (fun h=>h h2),Ya,pln hsh h2];refine Ru l (cur++[⟨t,[]⟩]) st d ho ?_ h16 hs;rw[hd,Ju,Zz,Zz,Ug,Ta h2];congr 1;omega
   ·rw[Ta h2,opn hsh h2];by_cases h3:st.length=16
    ·rw[Ta h3,Option.bind_none];have:=oC l (max d (st.length+1),zh t.kind::st.map fun x=>zh x.1.kind);simp only at this ⊢;omega
    ·rw[Ka h3,Ya];refine Ru l [] ((t,cur)::st) (max d (st.length+1)) (fun x hx=> ?_) ?_ (by omega) (by rw[Sa];omega)
     ·rcases Oa.1 hx with rfl|hx
      ·exact h2
      ·exact ho x hx
     ·rw[pdf,Zz,IC,hd];omega
def opB(o:List Int):List UInt8:=(o.map fun k=>UInt8.ofNat k.toNat).reverse
theorem GD(k:Int)(o:List Int):opB (k::o)=opB o++[UInt8.ofNat k.toNat]:=by unfold opB;rw[Ja,List.reverse_cons]
theorem Nj(o:List Int):(opB o).length=o.length:=by unfold opB;simp
theorem RG{k:Int}(h:zh k≠0):ZP (zh k)=some (UInt8.ofNat (zh k).toNat)/\(((UInt8.ofNat (zh k).toNat).toNat:Nat):Int)=zh k:=by
 revert h;unfold zh;split
 ·intro _;exact⟨rfl,rfl⟩
 split
 ·intro _;exact⟨rfl,rfl⟩
 split
 ·intro _;exact⟨rfl,rfl⟩
 ·intro h;exact absurd rfl h
def Yv(o:List Int):Prop:= ∀k∈o,∃q,zh q≠0/\k=zh q
theorem UN{s:Nat×List Int}{t:ze}(h:Yv s.2):Yv (df s t).2/\(df s t).2.length<=s.2.length+1/\(df s t).1<=max s.1 (s.2.length+1):=by
 obtain⟨d,o⟩:=s;unfold df;cases o with
 |nil=>
  simp only;split
  ·rename_i h0;refine⟨fun k hk=> ?_,by simp,by simp⟩;rw[Fa.1 hk];exact⟨_,h0,rfl⟩
  ·exact⟨h,by simp,by simp only;omega⟩
 |cons k o=>
  simp only;split
  ·exact⟨fun q hq=>h q (Ua _ hq),by simp only[Sa];omega,by simp only;omega⟩
  ·split
   ·rename_i h0;refine⟨fun q hq=> ?_,by simp,by simp⟩;rcases Oa.1 hq with rfl|hq
    ·exact⟨_,h0,rfl⟩
    ·exact h q hq
   ·exact⟨h,by simp only[Sa];omega,by simp only;omega⟩
theorem cB: ∀{v:List zg},shL v 0=true->(∀x∈v,(x.token.kind==24)=false)->shL v 24=true
 |[],_,_=>by rw[shL]
 |x::v,h,h2=>by rw[shL,Ca]at h;rw[shL,cB h.2 (fun y hy=>h2 y (Ua _ hy)),Bool.and_true];have h3:=h2 x (Ab ..);have h4:=h.1;rw[bB]at h4 ⊢;rw[h3,Bool.and_false];rw[show((0:Int) != 0)=false from rfl,Bool.false_and]at h4;exact h4
theorem gN(a:List UInt8)(b:UInt8)(n:Nat)(hn:a.length=n):(a++[b])[n]? =some b/\List.take n (a++[b])=a:=by subst hn;simp
theorem CR{l:List ze}(h:wtT l<=2000000):Q3 l=some true:=by
 have hbig:big=4194304:=rfl;unfold Q3;by_cases hlong:200<l.length
 ·rw[Yd (show(l.length:Int)>200 by omega),Cc];simp only[zf,mo,Ya]
 ·rw[decide_eq_false (show¬(l.length:Int)>200 by omega),Gd];refine KE (fun z=> ∃i:Nat,z=((((mRun (l.take i) (0,[])).1:Int),(i:Int)),opB (mRun (l.take i) (0,[])).2)/\i<=l.length/\Yv (mRun (l.take i) (0,[])).2/\(mRun (l.take i) (0,[])).2.length<=i/\(mRun (l.take i) (0,[])).1<=i+1) (fun z=>l.length - z.1.2.toNat) true ?_ ⟨0,rfl,Kb _,(fun k hk=>by cases hk),Na _,Kb _⟩;rintro _ ⟨i,rfl,hi,hc,hol,hdl⟩;rcases Bc i l.length with hh|hh
  ·have hst:mRun (l.take (i+1)) (0,[])=df (mRun (l.take i) (0,[])) l[i]:=by unfold mRun;rw[List.take_succ_eq_append_getElem hh,List.foldl_append];rfl
   refine .inl ⟨_,?_,⟨i+1,rfl,hh,?_⟩,by simp only[Jd];omega⟩
   ·rw[hst];obtain⟨m,hm⟩: ∃m,mRun (l.take i) (0,[])=m:=⟨_,rfl⟩;rw[hm]at hc hol hdl ⊢;obtain⟨d,o⟩:=m;simp only at hc hol hdl ⊢;have hw:w64 ((i:Int)+1)=((i+1:Nat):Int):=Hu hh (by omega);simp only[Dx hh,Cc,Ww hh,zf,BO,WP,Ya];have hadd:zh l[i].kind≠0->(bif zh l[i].kind != 0 then(ZP (zh l[i].kind)).bind fun y7=>need (zJ (opB o).length 1 1) (some (LX.out ((if w64 (((opB o).length:Int)+1)>(d:Int)then w64 (((opB o).length:Int)+1)else(d:Int),(i:Int)),opB o++[y7])))
      else some (LX.out (((d:Int),(i:Int)),opB o)))=(some (LX.out ((((max d (o.length+1):Nat):Int),(i:Int)),opB (zh l[i].kind::o))):Option (LX ((Int×Int)×List UInt8) (LO ((Int×Int)×List UInt8) Int Bool))):=by
     intro h0;have e1:w64 ((o.length:Int)+1)=((o.length+1:Nat):Int):=by rw[w64,mh (by omega) (by omega)];omega
     rw[bne_iff_ne.2 h0,Cc,(RG h0).1,Ya,Nj,CK (pM (by omega)),GD,e1];congr 4;split<;>omega
    have hno:zh l[i].kind=0->(bif zh l[i].kind != 0 then(ZP (zh l[i].kind)).bind fun y7=>need (zJ (opB o).length 1 1) (some (LX.out ((if w64 (((opB o).length:Int)+1)>(d:Int)then w64 (((opB o).length:Int)+1)else(d:Int),(i:Int)),opB o++[y7])))
      else some (LX.out (((d:Int),(i:Int)),opB o)))=(some (LX.out (((d:Int),(i:Int)),opB o)):Option (LX ((Int×Int)×List UInt8) (LO ((Int×Int)×List UInt8) Int Bool))):=by
     intro h0;rw[h0];rfl
    cases o with
    |nil=>
     have e0:decide (((opB []).length:Int)>0)=false:=rfl;have e1:w64 (((opB []).length:Int) - 1)= -1:=rfl;simp only[e0,e1,Gd,zme,Bool.not_false,Bool.or_true,zhv,Ya];unfold df;simp only;by_cases h0:zh l[i].kind=0
     ·rw[hno h0,Ka (fun q=>q h0),Q0,hw]
     ·rw[hadd h0,Ta h0,Q0,hw];rfl
    |cons k o=>
     obtain⟨q,hq,rfl⟩:=hc k (Ab ..);obtain⟨b1,b2⟩:=RG hq;have e0:decide (((opB (zh q::o)).length:Int)>0)=true:=by rw[Nj];exact Yd (by simp only[Sa];omega)
     have e1:w64 (((opB (zh q::o)).length:Int) - 1)=(o.length:Int):=by rw[Nj,Sa,w64,mh (by omega) (by rw[Sa]at hol;omega)];omega
     have e2:(decide ((0:Int)<=(o.length:Int))&&decide ((o.length:Int)<((opB (zh q::o)).length:Int)))=true:=by rw[Nj,Sa,Yd (show(0:Int)<=(o.length:Int) by omega),Yd (show(o.length:Int)<((o.length+1:Nat):Int) by omega)];rfl
     have e3:(decide ((0:Int)<=(o.length:Int))&&decide ((o.length:Int)<=((opB (zh q::o)).length:Int)))=true:=by rw[Nj,Sa,Yd (show(0:Int)<=(o.length:Int) by omega),Yd (show(o.length:Int)<=((o.length+1:Nat):Int) by omega)];rfl
     have e4:Nat.ble o.length (opB (zh q::o)).length=true:=by rw[Nj,Sa];exact Nat.ble_eq_true_of_le (by omega)
     obtain⟨e5,e6⟩:=gN (opB o) (UInt8.ofNat (zh q).toNat) o.length (Nj o);rw[<-GD]at e5 e6;simp only[e0,e1,e2,Cc,zdj,Bool.true_or,zhv,Jd,e5,Ya,b2];unfold df;simp only;by_cases h1:l[i].kind=zh q
     ·rw[Ta h1,show(l[i].kind==zh q)=true from De.2 h1];simp only[Cc,e3,zhv,e4,e6,Q0,hw]
     ·rw[Ka h1,show(l[i].kind==zh q)=false from Pb.2 h1];simp only[Gd];by_cases h0:zh l[i].kind=0
      ·rw[hno h0,Ka (fun q=>q h0),Q0,hw]
      ·rw[hadd h0,Ta h0,Q0,hw]
   ·rw[hst];obtain⟨g1,g2,g3⟩:=UN (t:=l[i]) hc;exact⟨g1,by omega,by omega⟩
  ·have:i=l.length:=by omega
   subst this;rw[Pe]at hdl ⊢;have hpd:=Ru l [] [] 0 (fun x hx=>by cases hx) (by rw[pdf,Zz]) (by omega) (by simp);rw[Ob]at hpd;obtain⟨d,hd⟩: ∃d,(mRun l (0,[])).1=d:=⟨_,rfl⟩;rw[hd]at hpd hdl;refine .inr (.inl ⟨(d:Int),?_,?_⟩)
   ·simp only[hd,rC,Gd]
   ·simp only[parseF,zf,Ya];have hps:=gK l;have hgood:=fun q=>VM (l:=l) q;cases hr:ZV l ([],[])with
    |none=>
     rw[hr]at hpd;have hS:parS l=([],20):=by unfold parS;rw[Ka (by omega),hr]
     rw[hS,Yd (show(d:Int)>16 by omega),Cc];simp only[show((20:Int)==20)=true from rfl,zdj,Cc,mo,Ya]
    |some s=>
     rw[hr]at hpd;obtain⟨p1,p2⟩:=hpd;obtain⟨q1,q2⟩:=Yy l hr (fun x hx=>by cases hx);have q3:=cz s.2 s.1 q1;have q4:Gg (s.1,s.2)=l.length:=by rw[show(s.1,s.2)=s from rfl,q2];simp[Gg,tokL]
     have q5:s.2.length<=l.length:=by
      have:s.2.length<=Gg (s.1,s.2):=by
       unfold Gg;have: ∀st:List (ze×List zg),st.length<=(st.map fun x=>1+(tokL x.2).length).sum:=by
        intro st
        induction st with
        |nil=>exact Na _
        |cons x st ih=>simp only[Sa,Ja,Je];omega
       have:=this s.2;simp only;omega
      omega
     have hS:parS l=(shutAll s.1 s.2,0):=by unfold parS;rw[Ka (by omega),hr];simp only;rw[Ka (by omega)]
     rw[hS]at hps hgood ⊢;obtain⟨v,hv⟩: ∃v,shutAll s.1 s.2=v:=⟨_,rfl⟩;simp only[hv]at hps hgood p2 q3 ⊢;obtain⟨he,_⟩:=hgood (by first|rfl|trivial);rw[decide_eq_false (show¬(d:Int)>16 by omega),Gd,tF (show szL v<=big by omega),Ta he];simp only[Ya,show((0:Int) != 0)=false from rfl,Gd,p2,bne_self_eq_false];rw[p2]at p1;have hvl:=lw v;have hloop: ∀(K:Unit->Option Bool),((∀x∈v,(x.token.kind==24)=false)->K ()=some true)->Qv (fun(s13:Int)=>bif decide (s13<(v.length:Int))then(geti v s13).bind fun y14=>bif y14.token.kind==24 then(ZU ()).bind fun y15=>some (LO.ret y15)else some (LO.again (w64 (s13+1)))else some (LO.out ()):Int->Option (LO Int Unit Bool)) 0 K=some true:=by
      intro K hK;refine KE (fun z=> ∃i:Nat,z=(i:Int)/\i<=v.length/\ ∀x∈v.take i,(x.token.kind==24)=false) (fun z=>v.length - z.toNat) true ?_ ⟨0,rfl,Kb _,fun x hx=>by cases hx⟩;rintro _ ⟨i,rfl,hi,hx⟩;rcases Bc i v.length with hh|hh
      ·simp only[Dx hh,Cc,Ww hh,Ya];cases hk:v[i].token.kind==24 with
       |true=>exact .inr (.inr (by simp only[Cc,mo,Ya]))
       |false=>
        refine .inl ⟨_,rfl,⟨i+1,Hu hh (by omega),hh,fun x hx'=> ?_⟩,by rw[Hu hh (show v.length<=big by omega)];simp only[Jd];omega⟩;rw[List.take_succ_eq_append_getElem hh]at hx';rcases Ib.1 hx' with h1|h1
        ·exact hx x h1
        ·rw[Fa.1 h1];exact hk
      ·have:i=v.length:=by omega
       subst this;rw[Pe]at hx;exact .inr (.inl ⟨(),by simp only[rC,Gd],hK hx⟩)
     refine hloop _ fun h24=> ?_;have hsz:szL [(⟨(⟨23,[],0,[],false⟩:ze),v⟩:zg)]<=big:=by simp only[szL,szV,Uc];omega
     obtain⟨a1,a2,a3⟩:Zz v<=16/\(tokL v).length<=1500/\shL v 0=true:=by
      unfold errS at he;split at he
      ·cases he
      split at he
      ·cases he
      split at he
      ·exact⟨by omega,by omega,by assumption⟩
      ·cases he
     have hdp:Zz [(⟨(⟨23,[],0,[],false⟩:ze),v⟩:zg)]=1+Zz v:=by rw[Zz,Zz,Ug,Ka (by decide)];omega
     have htl:(tokL [(⟨(⟨23,[],0,[],false⟩:ze),v⟩:zg)]).length=(tokL v).length+2:=by rw[tokL,tokL,tokV,Ka (by decide)];simp
     have hsh:shL [(⟨(⟨23,[],0,[],false⟩:ze),v⟩:zg)] 0=true:=by rw[shL,shL,shV,show zh 23=24 from rfl,cB a3 h24];rfl
     rw[tF hsz];by_cases h16:Zz v=16
     ·have e1:errS [(⟨(⟨23,[],0,[],false⟩:ze),v⟩:zg)]=20:=by unfold errS;rw[Ta (by omega)]
      rw[e1,Ka (by decide),h16];simp only[show(((16:Nat):Int)==16)=true from rfl,show((20:Int)==20)=true from rfl,Cc,zdj,mo,Ya]
     ·have e1:errS [(⟨(⟨23,[],0,[],false⟩:ze),v⟩:zg)]=0:=by unfold errS;rw[Ka (by omega),Ka (by omega),Ta hsh]
      have e2:((Zz v:Int)==16)=false:=Pb.2 (by omega);have e3:w64 ((Zz v:Int)+1)=((1+Zz v:Nat):Int):=by rw[w64,mh (by omega) (by omega)];omega
      rw[e1,Ta rfl,hdp];simp only[e2,Gd,Ya,show((0:Int)==0)=true from rfl,Cc,e3,Bf,zdj,mo]
end Go.Lv.VT
