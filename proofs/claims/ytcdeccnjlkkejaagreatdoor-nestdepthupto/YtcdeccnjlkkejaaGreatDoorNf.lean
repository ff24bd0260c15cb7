/- Parsing of tokens: what the machine of nest.Parse computes is what the reference's recursion computes. -/
import Derived.Test.YtcdeccnjlkkejaaGreatDoorNa
import Derived.Test.YtcdeccnjlkkejaaGreatDoorTy
import Derived.Test.YtcdeccnjlkkejaaGreatDoorNb
set_option linter.unusedSimpArgs false
set_option linter.unusedVariables false
namespace Go.Lv.VT
set_option maxRecDepth 100000
def Qz:Nat->List ze->Int->Nat->Option (List zg×List ze)
 |0,_,_,_=>none
 |_+1,[],_,_=>some ([],[])
 |n+1,t::r,c,left=>
  if c≠0/\t.kind=c then some ([],r)
  else if zh t.kind=0 then(Qz n r c left).map fun v=>(⟨t,[]⟩::v.1,v.2)
  else match left with
   |0=>none
   |m+1=>(Qz n r (zh t.kind) m).bind fun w=>(Qz n w.2 c (m+1)).map fun v=>(⟨t,w.1⟩::v.1,v.2)
theorem Xq(n:Nat)(t:ze)(r:List ze)(c:Int)(left:Nat):Qz (n+1) (t::r) c left=if c≠0/\t.kind=c then some ([],r)
  else if zh t.kind=0 then(Qz n r c left).map fun v=>(⟨t,[]⟩::v.1,v.2)
  else match left with
   |0=>none
   |m+1=>(Qz n r (zh t.kind) m).bind fun w=>(Qz n w.2 c (m+1)).map fun v=>(⟨t,w.1⟩::v.1,v.2):=rfl
theorem Xp: ∀(n:Nat) (l:List ze) (c:Int) (left:Nat) (v:List zg×List ze),Qz n l c left=some v->v.2.length<=l.length/\(l≠[]->v.2.length<l.length)
 |0,_,_,_,_,h=>by cases h
 |n+1,[],c,left,v,h=>by
  rw[Qz]at h;cases h;exact⟨Na _,fun h=>absurd rfl h⟩
 |n+1,t::r,c,left,v,h=>by
  rw[Xq]at h;have key:v.2.length<=r.length:=by
   split at h
   ·cases h;exact Na _
   split at h
   ·cases hv:Qz n r c left with
    |none=>rw[hv]at h;cases h
    |some w=>rw[hv]at h;cases h;exact(Xp n r c left w hv).1
   ·cases left with
    |zero=>cases h
    |succ m=>
     simp only at h;cases hw:Qz n r (zh t.kind) m with
     |none=>rw[hw]at h;cases h
     |some w=>
      rw[hw,aa]at h;cases hv:Qz n w.2 c (m+1)with
      |none=>rw[hv]at h;cases h
      |some v'=> rw[hv]at h;cases h;have h1:=(Xp n r _ m w hw).1;have h2:=(Xp n w.2 c _ v' hv).1;exact Eb h2 h1
  exact⟨by rw[Ta];omega,fun _=>by rw[Ta];omega⟩
def Vi(l:List ze)(s:PSt):Option (List zg):=(ZV l s).map fun s=>shutAll s.1 s.2
theorem PG(t:ze)(l:List ze)(s:PSt):Vi (t::l) s=(ZW s t).bind (Vi l):=by unfold Vi;rw[ZV];cases ZW s t<;>rfl
theorem Pt: ∀(n:Nat) (l:List ze) (cur:List zg) (o:ze) (out:List zg) (st:List (ze×List zg)) (left:Nat),l.length<n->zh o.kind≠0->left+(st.length+1)=16->
  Vi l (cur,(o,out)::st)=(Qz n l (zh o.kind) left).bind fun v=>Vi v.2 (out++[⟨o,cur++v.1⟩],st)
 |0,_,_,_,_,_,_,h,_,_=>by omega
 |n+1,[],cur,o,out,st,left,_,_,_=>by rw[Qz,aa];simp only[Vi,ZV,Cb,shutAll,Ac]
 |n+1,t::r,cur,o,out,st,left,hn,ho,hl=>by
  rw[Ta]at hn;rw[Xq,PG];unfold ZW;simp only[mh];by_cases h1:t.kind=zh o.kind
  ·rw[Ra (by rw[h1,Gf]),Ra ⟨ho,h1⟩,aa,aa];simp only[Aw,Ac]
  ·rw[Ha (by rw[Je];exact h1),Ha (show¬(zh o.kind≠0/\t.kind=zh o.kind)from fun h=>h1 h.2)];by_cases h2:zh t.kind=0
   ·rw[Ha (show¬zh t.kind≠0 from fun h=>h h2),Ra h2,aa,Pt n r _ o out st left (by omega) ho hl];cases Qz n r (zh o.kind) left with
    |none=>rfl
    |some v=>simp only[aa,Cb,ib,List.singleton_append]
   ·rw[Ra h2,Ha h2];cases left with
    |zero=>rw[Ra (by rw[Ta];omega)];rfl
    |succ m=>
     rw[Ha (by rw[Ta];omega),aa];simp only;rw[Pt n r [] t cur ((o,out)::st) m (by omega) h2 (by rw[Ta];omega)];cases hw:Qz n r (zh t.kind) m with
     |none=>rfl
     |some w=>
      have hlen:=(Xp n r _ m w hw).1;simp only[aa];rw[Pt n w.2 _ o out st (m+1) (by omega) ho hl];cases Qz n w.2 (zh o.kind) (m+1)with
      |none=>rfl
      |some v=>simp only[aa,Cb,Td,ib,List.singleton_append]
theorem gy: ∀(n:Nat) (l:List ze) (cur:List zg),l.length<n->Vi l (cur,[])=(Qz n l 0 16).map fun v=>cur++v.1
 |0,_,_,h=>by omega
 |n+1,[],cur,_=>by rw[Qz];simp only[Vi,ZV,Cb,shutAll,Ac]
 |n+1,t::r,cur,hn=>by
  rw[Ta]at hn;rw[Xq,PG];unfold ZW;simp only[mh];rw[Ha (by decide),Ha (show¬((0:Int)≠0/\t.kind=0)from fun h=>h.1 rfl)];by_cases h2:zh t.kind=0
  ·rw[Ha (show¬zh t.kind≠0 from fun h=>h h2),Ra h2,aa,gy n r _ (by omega)];cases Qz n r 0 16 with
   |none=>rfl
   |some v=>simp only[Cb,ib,List.singleton_append]
  ·rw[Ra h2,Ha h2,Ha (by decide),aa];rw[Pt n r [] t cur [] 15 (by omega) h2 rfl];cases hw:Qz n r (zh t.kind) 15 with
   |none=>rfl
   |some w=>
    have hlen:=(Xp n r _ 15 w hw).1;simp only[aa];rw[gy n w.2 _ (by omega)];cases Qz n w.2 0 16 with
    |none=>rfl
    |some v=>simp only[Cb,Td,ib,List.singleton_append]
theorem Ht: ∀(a b:List zg),tokL (a++b)=tokL a++tokL b
 |[],b=>by rw[tokL];rfl
 |v::a,b=>by rw[Sc,tokL,tokL,Ht a b,ib]
theorem Vx(v:zg):tokL [v]=tokV v:=by rw[tokL,tokL,Ac]
def Ig(s:PSt):Nat:=(tokL s.1).length+(s.2.map fun x=>1+(tokL x.2).length).sum
def Br(s:PSt):Prop:= ∀x∈s.2,zh x.1.kind≠0
theorem PO{s s':PSt}{t:ze}(h:ZW s t=some s')(ho:Br s):Br s'/\Ig s'=Ig s+1:=by
 unfold ZW at h;obtain⟨cur,st⟩:=s;split at h
 ·rename_i h1;cases st with
  |nil=>cases h1
  |cons x st=> obtain⟨o,out⟩:=x;cases h;have h2:zh o.kind≠0:=ho (o,out) (Ab ..);refine⟨fun x hx=>ho x (Ua _ hx),?_⟩;simp only[Ig,Aw,Ht,Vx,Ma,La,Pe,Gs,Ta,Ha h2,Ma,List.length_singleton,Gc];omega
 split at h
 ·rename_i h1 h2;split at h
  ·cases h
  ·rename_i h3;cases h;refine⟨fun x hx=> ?_,?_⟩
   ·rcases Oa.1 hx with rfl|hx
    ·exact h2
    ·exact ho x hx
   ·simp only[Ig,La,Pe,tokL,Gc];omega
 ·rename_i h1 h2;cases h;refine⟨ho,?_⟩;have h2:zh t.kind=0:=Classical.byContradiction h2;simp only[Ig,Ht,Vx,Ma,Gs,Ta,Ra h2,Gc];omega
theorem iy: ∀(l:List ze) {s s':PSt},ZV l s=some s'->Br s->Br s'/\Ig s'=Ig s+l.length
 |[],s,s',h,ho=>by cases h;exact⟨ho,rfl⟩
 |t::l,s,s',h,ho=>by
  rw[ZV]at h;cases hs:ZW s t with
  |none=>rw[hs]at h;cases h
  |some s1=> rw[hs,aa]at h;obtain⟨h1,h2⟩:=PO hs ho;obtain⟨h3,h4⟩:=iy l h h1;exact⟨h3,by rw[h4,h2,Ta];omega⟩
theorem kz: ∀(st:List (ze×List zg)) (cur:List zg),(∀x∈st,zh x.1.kind≠0)->(tokL (shutAll cur st)).length=Ig (cur,st)+st.length
 |[],cur,_=>by simp[shutAll,Ig]
 |(o,out)::st,cur,h=>by have h2:zh o.kind≠0:=h (o,out) (Ab ..);rw[shutAll,kz st _ (fun x hx=>h x (Ua _ hx))];simp only[Ig,Ht,Vx,Ma,Gs,Ta,Ha h2,Ma,List.length_singleton,La,Pe,Ta,Gc];omega
def Sv(l:List ze)(c:Int)(left:Nat):Option (List zg×List ze):=Qz (l.length+1) l c left
def wtT:List ze->Nat
 |[]=>0
 |t::r=>1+t.text.length+t.unit.length+wtT r
theorem Ku: ∀(n:Nat) (l:List ze) (c:Int) (left:Nat) (v:List zg×List ze),Qz n l c left=some v->szL v.1+wtT v.2<=wtT l
 |0,_,_,_,_,h=>by cases h
 |n+1,[],c,left,v,h=>by
  rw[Qz]at h;cases h;rw[szL];exact Na _
 |n+1,t::r,c,left,v,h=>by
  rw[Xq]at h;rw[wtT];split at h
  ·cases h;rw[szL];simp only;omega
  split at h
  ·cases hv:Qz n r c left with
   |none=>rw[hv]at h;cases h
   |some w=> rw[hv]at h;cases h;have:=Ku n r c left w hv;simp only[szL,szV];omega
  ·cases left with
   |zero=>cases h
   |succ m=>
    simp only at h;cases hw:Qz n r (zh t.kind) m with
    |none=>rw[hw]at h;cases h
    |some w=>
     rw[hw,aa]at h;cases hv:Qz n w.2 c (m+1)with
     |none=>rw[hv]at h;cases h
     |some v'=> rw[hv]at h;cases h;have h1:=Ku n w.2 c _ v' hv;have h2:=Ku n r _ m w hw;simp only[szL,szV];omega
theorem MC(l:List ze):(ZV l ([],[])).map (fun s=>shutAll s.1 s.2)=(Sv l 0 16).map Prod.fst:=gy _ l [] (Lb _)
theorem gJ{l:List ze}{s:PSt}(h:ZV l ([],[])=some s):szL (shutAll s.1 s.2)<=wtT l:=by
 have hp:=MC l;rw[h,Cb]at hp;cases hv:Sv l 0 16 with
 |none=>rw[hv]at hp;cases hp
 |some v=> rw[hv,Cb]at hp;injection hp with hp;have:=Ku _ _ _ _ v hv;rw[hp];omega
theorem jK(l:List ze):szL (parS l).1<=wtT l:=by
 unfold parS;split
 ·rw[szL];exact Kb _
 ·split
  ·rw[szL];exact Kb _
  ·rename_i s hs;split
   ·rw[szL];exact Kb _
   ·exact gJ hs
theorem fu: ∀(n:Nat) (l:List ze) (c:Int) (left:Nat) (v:List zg×List ze),Qz n l c left=some v->shL v.1 c=true/\Zt v.1<=left/\(∀t∈v.2,t∈l)/\ ∀t∈tokL v.1,t∈l\/(t.text=[]/\t.unit=[])
 |0,_,_,_,_,h=>by cases h
 |n+1,[],c,left,v,h=>by
  rw[Qz]at h;cases h;exact⟨by rw[shL],by rw[Zt];exact Kb _,fun t ht=>ht,fun t ht=>by rw[tokL]at ht;cases ht⟩
 |n+1,t::r,c,left,v,h=>by
  rw[Xq]at h;split at h
  ·cases h;exact⟨by rw[shL],by rw[Zt];exact Kb _,fun t ht=>Ua _ ht,fun t ht=>by rw[tokL]at ht;cases ht⟩
  rename_i h1;have hc:(c != 0&&t.kind==c)=false:=by
   cases hh:(c != 0&&t.kind==c)with
   |false=>rfl
   |true=>rw[Ca,bne_iff_ne,Je]at hh;exact absurd hh h1
  split at h
  ·rename_i h2;cases hv:Qz n r c left with
   |none=>rw[hv]at h;cases h
   |some w=>
    rw[hv]at h;cases h;obtain⟨a1,a2,a3,a4⟩:=fu n r c left w hv;refine⟨?_,?_,fun t ht=>Ua _ (a3 t ht),fun u hu=> ?_⟩
    ·rw[shL,shV,a1,hc,h2];rfl
    ·rw[Zt,Vg,Ra h2];omega
    ·rw[tokL,tokV,Ra h2]at hu;rcases Oa.1 hu with rfl|hu
     ·exact .inl (Ab ..)
     ·exact(a4 u hu).imp (Ua _) id
  ·rename_i h2;cases left with
   |zero=>cases h
   |succ m=>
    simp only at h;cases hw:Qz n r (zh t.kind) m with
    |none=>rw[hw]at h;cases h
    |some w=>
     rw[hw,aa]at h;cases hv:Qz n w.2 c (m+1)with
     |none=>rw[hv]at h;cases h
     |some v'=>
      rw[hv]at h;cases h;obtain⟨a1,a2,a3,a4⟩:=fu n r _ m w hw;obtain⟨b1,b2,b3,b4⟩:=fu n w.2 c _ v' hv;have hz:(zh t.kind==0)=false:=Sb.2 h2;refine⟨?_,?_,fun u hu=>Ua _ (a3 u (b3 u hu)),fun u hu=> ?_⟩
      ·rw[shL,shV,a1,b1,hc,hz,Bool.not_true,Bool.and_false];rfl
      ·rw[Zt,Vg,Ha h2];omega
      ·rw[tokL,tokV,Ha h2,Sc,ib]at hu;rcases Oa.1 hu with rfl|hu
       ·exact .inl (Ab ..)
       ·rcases Ib.1 hu with hu|hu
        ·exact(a4 u hu).imp (Ua _) id
        ·rcases Ib.1 hu with hu|hu
         ·rw[Fa.1 hu];exact .inr ⟨rfl,rfl⟩
         ·exact(b4 u hu).imp (fun q=>Ua _ (a3 u q)) id
theorem XM{l:List ze}(h:(parS l).2=0):errS (parS l).1=0/\ ∀t∈tokL (parS l).1,t∈l\/(t.text=[]/\t.unit=[]):=by
 unfold parS at h ⊢;split at h
 ·cases h
 rename_i h0;rw[Ha h0];split at h
 ·cases h
 rename_i s hs;split at h
 ·cases h
 rename_i hk;rw[Ha hk];have hp:=MC l;rw[hs,Cb]at hp;cases hv:Sv l 0 16 with
 |none=>rw[hv]at hp;cases hp
 |some v=>
  rw[hv,Cb]at hp;injection hp with hp;obtain⟨a1,a2,a3,a4⟩:=fu _ _ _ _ _ hv;obtain⟨b1,b2⟩:=iy l hs (fun x hx=>by cases hx);have b3:=kz s.2 s.1 b1;have b4:Ig (s.1,s.2)=l.length:=by rw[show(s.1,s.2)=s from rfl,b2];simp[Ig,tokL]
  rw[b4]at b3;simp only[hp]at b3 ⊢;refine⟨?_,a4⟩;unfold errS;rw[Ha (by omega),Ha (by omega),Ra a1]
theorem XB: ∀l:List ze,wtT l<=zL Zq l
 |[]=>by rw[wtT];exact Kb _
 |t::r=>by rw[wtT,DJ,aM];have:=XB r;omega
def uf(s:Nat×List Int)(t:ze):Nat×List Int:=
 match s.2 with
 |k::o=>if t.kind=k then(s.1,o)else if zh t.kind≠0 then(max s.1 (s.2.length+1),zh t.kind::s.2)else s
 |[]=>if zh t.kind≠0 then(max s.1 1,[zh t.kind])else s
def mRun(l:List ze)(s:Nat×List Int):Nat×List Int:=l.foldl uf s
def pdf:Nat->List (ze×List zg)->Nat
 |c,[]=>c
 |c,(_,out)::st=>pdf (max (Zt out) (1+c)) st
theorem Lu: ∀(a b:List zg),Zt (a++b)=max (Zt a) (Zt b)
 |[],b=>by rw[Td,Zt];omega
 |v::a,b=>by rw[Sc,Zt,Zt,Lu a b];omega
theorem LC: ∀(st:List (ze×List zg)) (c k:Nat),pdf (max c k) st=max (pdf c st) (k+st.length)
 |[],c,k=>by rw[pdf,pdf,Gc];omega
 |(o,out)::st,c,k=>by rw[pdf,pdf,show max (Zt out) (1+max c k)=max (max (Zt out) (1+c)) (k+1) by omega,LC st,Ta];omega
theorem JD: ∀(st:List (ze×List zg)) (cur:List zg),(∀x∈st,zh x.1.kind≠0)->Zt (shutAll cur st)=pdf (Zt cur) st
 |[],cur,_=>by rw[shutAll,pdf]
 |(o,out)::st,cur,h=>by have h2:zh o.kind≠0:=h (o,out) (Ab ..);rw[shutAll,JD st _ (fun x hx=>h x (Ua _ hx)),pdf,Lu,Zt,Zt,Vg,Ha h2];congr 1;omega
theorem kK(s:Nat×List Int)(t:ze):s.1<=(uf s t).1:=by
 unfold uf;split
 ·split
  ·exact Na _
  ·split
   ·simp only;omega
   ·exact Na _
 ·split
  ·simp only;omega
  ·exact Na _
theorem uC: ∀(l:List ze) (s:Nat×List Int),s.1<=(mRun l s).1
 |[],s=>Na _
 |t::l,s=>Eb (kK s t) (uC l _)
theorem Tu: ∀(l:List ze) (cur:List zg) (st:List (ze×List zg)) (d:Nat),(∀x∈st,zh x.1.kind≠0)->d=pdf (Zt cur) st->d<=16->st.length<=16->
  match ZV l (cur,st)with
  |none=>16<(mRun l (d,st.map fun x=>zh x.1.kind)).1
  |some s=>(mRun l (d,st.map fun x=>zh x.1.kind)).1<=16/\(mRun l (d,st.map fun x=>zh x.1.kind)).1=Zt (shutAll s.1 s.2)
 |[],cur,st,d,ho,hd,h16,_=>by show d<=16/\d=Zt (shutAll cur st);exact⟨h16,by rw[JD st cur ho,hd]⟩
 |t::l,cur,st,d,ho,hd,h16,hs=>by
  rw[ZV];show match(ZW (cur,st) t).bind (ZV l)with
   |none=>16<(mRun l (uf (d,st.map fun x=>zh x.1.kind) t)).1
   |some s=>(mRun l (uf (d,st.map fun x=>zh x.1.kind) t)).1<=16/\(mRun l (uf (d,st.map fun x=>zh x.1.kind) t)).1=Zt (shutAll s.1 s.2)
  have opn:mh st t=false->zh t.kind≠0->uf (d,st.map fun x=>zh x.1.kind) t=(max d (st.length+1),zh t.kind::st.map fun x=>zh x.1.kind):=by
   intro h1 h2;unfold uf;cases st with
   |nil=>simp only[Pb];rw[Ra h2];rfl
   |cons x st=>
    obtain⟨o,out⟩:=x;have h3: ¬t.kind=zh o.kind:=fun e=>by have:(t.kind==zh o.kind)=false:=h1;rw[e,Gf]at this;cases this
    simp only[La];rw[Ha h3,Ra h2,Ta,Ga,Ta]
  have pln:mh st t=false->zh t.kind=0->uf (d,st.map fun x=>zh x.1.kind) t=(d,st.map fun x=>zh x.1.kind):=by
   intro h1 h2;unfold uf;cases st with
   |nil=>simp only[Pb];rw[Ha (fun h=>h h2)]
   |cons x st=>
    obtain⟨o,out⟩:=x;have h3: ¬t.kind=zh o.kind:=fun e=>by have:(t.kind==zh o.kind)=false:=h1;rw[e,Gf]at this;cases this
    simp only[La];rw[Ha h3,Ha (fun h=>h h2)]
  unfold ZW;simp only;cases hsh:mh st t with
  |true=>
   rw[Ra rfl,aa];cases st with
   |nil=>cases hsh
   |cons x st=>
    obtain⟨o,out⟩:=x;have h1:t.kind=zh o.kind:=Je.1 hsh;have h2:zh o.kind≠0:=ho (o,out) (Ab ..);have hm:uf (d,((o,out)::st).map fun x=>zh x.1.kind) t=(d,st.map fun x=>zh x.1.kind):=by unfold uf;simp only[La];rw[Ra h1]
    rw[hm];refine Tu l (out++[⟨o,cur⟩]) st d (fun x hx=>ho x (Ua _ hx)) ?_ h16 (by rw[Ta]at hs;omega);rw[hd,pdf,Lu,Zt,Zt,Vg,Ha h2];congr 1;omega
  |false=>
   rw[Ha (by decide)];by_cases h2:zh t.kind=0
   ·rw[Ha (fun h=>h h2),aa,pln hsh h2];refine Tu l (cur++[⟨t,[]⟩]) st d ho ?_ h16 hs;rw[hd,Lu,Zt,Zt,Vg,Ra h2];congr 1;omega
   ·rw[Ra h2,opn hsh h2];by_cases h3:st.length=16
    ·rw[Ra h3,Option.bind_none];have:=uC l (max d (st.length+1),zh t.kind::st.map fun x=>zh x.1.kind);simp only at this ⊢;omega
    ·rw[Ha h3,aa];refine Tu l [] ((t,cur)::st) (max d (st.length+1)) (fun x hx=> ?_) ?_ (by omega) (by rw[Ta];omega)
     ·rcases Oa.1 hx with rfl|hx
      ·exact h2
      ·exact ho x hx
     ·rw[pdf,Zt,LC,hd];omega
def opB(o:List Int):List UInt8:=(o.map fun k=>UInt8.ofNat k.toNat).reverse
theorem KD(k:Int)(o:List Int):opB (k::o)=opB o++[UInt8.ofNat k.toNat]:=by unfold opB;rw[La,List.reverse_cons]
theorem Pj(o:List Int):(opB o).length=o.length:=by unfold opB;simp
theorem TG{k:Int}(h:zh k≠0):ZP (zh k)=some (UInt8.ofNat (zh k).toNat)/\(((UInt8.ofNat (zh k).toNat).toNat:Nat):Int)=zh k:=by
 revert h;unfold zh;split
 ·intro _;exact⟨rfl,rfl⟩
 split
 ·intro _;exact⟨rfl,rfl⟩
 split
 ·intro _;exact⟨rfl,rfl⟩
 ·intro h;exact absurd rfl h
def jv(o:List Int):Prop:= ∀k∈o,∃q,zh q≠0/\k=zh q
theorem WN{s:Nat×List Int}{t:ze}(h:jv s.2):jv (uf s t).2/\(uf s t).2.length<=s.2.length+1/\(uf s t).1<=max s.1 (s.2.length+1):=by
 obtain⟨d,o⟩:=s;unfold uf;cases o with
 |nil=>
  simp only;split
  ·rename_i h0;refine⟨fun k hk=> ?_,by simp,by simp⟩;rw[Fa.1 hk];exact⟨_,h0,rfl⟩
  ·exact⟨h,by simp,by simp only;omega⟩
 |cons k o=>
  simp only;split
  ·exact⟨fun q hq=>h q (Ua _ hq),by simp only[Ta];omega,by simp only;omega⟩
  ·split
   ·rename_i h0;refine⟨fun q hq=> ?_,by simp,by simp⟩;rcases Oa.1 hq with rfl|hq
    ·exact⟨_,h0,rfl⟩
    ·exact h q hq
   ·exact⟨h,by simp only[Ta];omega,by simp only;omega⟩
theorem fB: ∀{v:List zg},shL v 0=true->(∀x∈v,(x.token.kind==24)=false)->shL v 24=true
 |[],_,_=>by rw[shL]
 |x::v,h,h2=>by rw[shL,Ca]at h;rw[shL,fB h.2 (fun y hy=>h2 y (Ua _ hy)),Bool.and_true];have h3:=h2 x (Ab ..);have h4:=h.1;rw[eB]at h4 ⊢;rw[h3,Bool.and_false];rw[show((0:Int) != 0)=false from rfl,Bool.false_and]at h4;exact h4
theorem jN(a:List UInt8)(b:UInt8)(n:Nat)(hn:a.length=n):(a++[b])[n]? =some b/\List.take n (a++[b])=a:=by subst hn;simp
theorem ER{l:List ze}(h:wtT l<=2000000):Q4 l=some true:=by
 have hbig:big=4194304:=rfl;unfold Q4;by_cases hlong:200<l.length
 ·rw[Ld (show(l.length:Int)>200 by omega),Ic];simp only[zf,vo,aa]
 ·rw[ae (show¬(l.length:Int)>200 by omega),Md];refine NE (fun z=> ∃i:Nat,z=((((mRun (l.take i) (0,[])).1:Int),(i:Int)),opB (mRun (l.take i) (0,[])).2)/\i<=l.length/\jv (mRun (l.take i) (0,[])).2/\(mRun (l.take i) (0,[])).2.length<=i/\(mRun (l.take i) (0,[])).1<=i+1) (fun z=>l.length - z.1.2.toNat) true ?_ ⟨0,rfl,Kb _,(fun k hk=>by cases hk),Na _,Kb _⟩;rintro _ ⟨i,rfl,hi,hc,hol,hdl⟩;rcases Bc i l.length with hh|hh
  ·have hst:mRun (l.take (i+1)) (0,[])=uf (mRun (l.take i) (0,[])) l[i]:=by unfold mRun;rw[List.take_succ_eq_append_getElem hh,List.foldl_append];rfl
   refine .inl ⟨_,?_,⟨i+1,rfl,hh,?_⟩,by simp only[Wd];omega⟩
   ·rw[hst];obtain⟨m,hm⟩: ∃m,mRun (l.take i) (0,[])=m:=⟨_,rfl⟩;rw[hm]at hc hol hdl ⊢;obtain⟨d,o⟩:=m;simp only at hc hol hdl ⊢;have hw:w64 ((i:Int)+1)=((i+1:Nat):Int):=Ju hh (by omega);simp only[Ex hh,Ic,Yw hh,zf,FO,YP,aa];have hadd:zh l[i].kind≠0->(bif zh l[i].kind != 0 then(ZP (zh l[i].kind)).bind fun y7=>need (zJ (opB o).length 1 1) (some (LX.out ((if w64 (((opB o).length:Int)+1)>(d:Int)then w64 (((opB o).length:Int)+1)else(d:Int),(i:Int)),opB o++[y7])))
      else some (LX.out (((d:Int),(i:Int)),opB o)))=(some (LX.out ((((max d (o.length+1):Nat):Int),(i:Int)),opB (zh l[i].kind::o))):Option (LX ((Int×Int)×List UInt8) (LO ((Int×Int)×List UInt8) Int Bool))):=by
     intro h0;have e1:w64 ((o.length:Int)+1)=((o.length+1:Nat):Int):=by rw[w64,uh (by omega) (by omega)];omega
     rw[bne_iff_ne.2 h0,Ic,(TG h0).1,aa,Pj,EK (sM (by omega)),KD,e1];congr 4;split<;>omega
    have hno:zh l[i].kind=0->(bif zh l[i].kind != 0 then(ZP (zh l[i].kind)).bind fun y7=>need (zJ (opB o).length 1 1) (some (LX.out ((if w64 (((opB o).length:Int)+1)>(d:Int)then w64 (((opB o).length:Int)+1)else(d:Int),(i:Int)),opB o++[y7])))
      else some (LX.out (((d:Int),(i:Int)),opB o)))=(some (LX.out (((d:Int),(i:Int)),opB o)):Option (LX ((Int×Int)×List UInt8) (LO ((Int×Int)×List UInt8) Int Bool))):=by
     intro h0;rw[h0];rfl
    cases o with
    |nil=>
     have e0:decide (((opB []).length:Int)>0)=false:=rfl;have e1:w64 (((opB []).length:Int) - 1)= -1:=rfl;simp only[e0,e1,Md,zme,Bool.not_false,Bool.or_true,zhv,aa];unfold uf;simp only;by_cases h0:zh l[i].kind=0
     ·rw[hno h0,Ha (fun q=>q h0),Q3,hw]
     ·rw[hadd h0,Ra h0,Q3,hw];rfl
    |cons k o=>
     obtain⟨q,hq,rfl⟩:=hc k (Ab ..);obtain⟨b1,b2⟩:=TG hq;have e0:decide (((opB (zh q::o)).length:Int)>0)=true:=by rw[Pj];exact Ld (by simp only[Ta];omega)
     have e1:w64 (((opB (zh q::o)).length:Int) - 1)=(o.length:Int):=by rw[Pj,Ta,w64,uh (by omega) (by rw[Ta]at hol;omega)];omega
     have e2:(decide ((0:Int)<=(o.length:Int))&&decide ((o.length:Int)<((opB (zh q::o)).length:Int)))=true:=by rw[Pj,Ta,Ld (show(0:Int)<=(o.length:Int) by omega),Ld (show(o.length:Int)<((o.length+1:Nat):Int) by omega)];rfl
     have e3:(decide ((0:Int)<=(o.length:Int))&&decide ((o.length:Int)<=((opB (zh q::o)).length:Int)))=true:=by rw[Pj,Ta,Ld (show(0:Int)<=(o.length:Int) by omega),Ld (show(o.length:Int)<=((o.length+1:Nat):Int) by omega)];rfl
     have e4:Nat.ble o.length (opB (zh q::o)).length=true:=by rw[Pj,Ta];exact Nat.ble_eq_true_of_le (by omega)
     obtain⟨e5,e6⟩:=jN (opB o) (UInt8.ofNat (zh q).toNat) o.length (Pj o);rw[<-KD]at e5 e6;simp only[e0,e1,e2,Ic,zdj,Bool.true_or,zhv,Wd,e5,aa,b2];unfold uf;simp only;by_cases h1:l[i].kind=zh q
     ·rw[Ra h1,show(l[i].kind==zh q)=true from Je.2 h1];simp only[Ic,e3,zhv,e4,e6,Q3,hw]
     ·rw[Ha h1,show(l[i].kind==zh q)=false from Sb.2 h1];simp only[Md];by_cases h0:zh l[i].kind=0
      ·rw[hno h0,Ha (fun q=>q h0),Q3,hw]
      ·rw[hadd h0,Ra h0,Q3,hw]
   ·rw[hst];obtain⟨g1,g2,g3⟩:=WN (t:=l[i]) hc;exact⟨g1,by omega,by omega⟩
  ·have:i=l.length:=by omega
   subst this;rw[Ve]at hdl ⊢;have hpd:=Tu l [] [] 0 (fun x hx=>by cases hx) (by rw[pdf,Zt]) (by omega) (by simp);rw[Pb]at hpd;obtain⟨d,hd⟩: ∃d,(mRun l (0,[])).1=d:=⟨_,rfl⟩;rw[hd]at hpd hdl;refine .inr (.inl ⟨(d:Int),?_,?_⟩)
   ·simp only[hd,Fx,Md]
   ·simp only[parseF,zf,aa];have hps:=jK l;have hgood:=fun q=>XM (l:=l) q;cases hr:ZV l ([],[])with
    |none=>
     rw[hr]at hpd;have hS:parS l=([],20):=by unfold parS;rw[Ha (by omega),hr]
     rw[hS,Ld (show(d:Int)>16 by omega),Ic];simp only[show((20:Int)==20)=true from rfl,zdj,Ic,vo,aa]
    |some s=>
     rw[hr]at hpd;obtain⟨p1,p2⟩:=hpd;obtain⟨q1,q2⟩:=iy l hr (fun x hx=>by cases hx);have q3:=kz s.2 s.1 q1;have q4:Ig (s.1,s.2)=l.length:=by rw[show(s.1,s.2)=s from rfl,q2];simp[Ig,tokL]
     have q5:s.2.length<=l.length:=by
      have:s.2.length<=Ig (s.1,s.2):=by
       unfold Ig;have: ∀st:List (ze×List zg),st.length<=(st.map fun x=>1+(tokL x.2).length).sum:=by
        intro st
        induction st with
        |nil=>exact Na _
        |cons x st ih=>simp only[Ta,La,Pe];omega
       have:=this s.2;simp only;omega
      omega
     have hS:parS l=(shutAll s.1 s.2,0):=by unfold parS;rw[Ha (by omega),hr];simp only;rw[Ha (by omega)]
     rw[hS]at hps hgood ⊢;obtain⟨v,hv⟩: ∃v,shutAll s.1 s.2=v:=⟨_,rfl⟩;simp only[hv]at hps hgood p2 q3 ⊢;obtain⟨he,_⟩:=hgood (by first|rfl|trivial);rw[ae (show¬(d:Int)>16 by omega),Md,vF (show szL v<=big by omega),Ra he];simp only[aa,show((0:Int) != 0)=false from rfl,Md,p2,bne_self_eq_false];rw[p2]at p1;have hvl:=ow v;have hloop: ∀(K:Unit->Option Bool),((∀x∈v,(x.token.kind==24)=false)->K ()=some true)->Qv (fun(s13:Int)=>bif decide (s13<(v.length:Int))then(geti v s13).bind fun y14=>bif y14.token.kind==24 then(ZU ()).bind fun y15=>some (LO.ret y15)else some (LO.again (w64 (s13+1)))else some (LO.out ()):Int->Option (LO Int Unit Bool)) 0 K=some true:=by
      intro K hK;refine NE (fun z=> ∃i:Nat,z=(i:Int)/\i<=v.length/\ ∀x∈v.take i,(x.token.kind==24)=false) (fun z=>v.length - z.toNat) true ?_ ⟨0,rfl,Kb _,fun x hx=>by cases hx⟩;rintro _ ⟨i,rfl,hi,hx⟩;rcases Bc i v.length with hh|hh
      ·simp only[Ex hh,Ic,Yw hh,aa];cases hk:v[i].token.kind==24 with
       |true=>exact .inr (.inr (by simp only[Ic,vo,aa]))
       |false=>
        refine .inl ⟨_,rfl,⟨i+1,Ju hh (by omega),hh,fun x hx'=> ?_⟩,by rw[Ju hh (show v.length<=big by omega)];simp only[Wd];omega⟩;rw[List.take_succ_eq_append_getElem hh]at hx';rcases Ib.1 hx' with h1|h1
        ·exact hx x h1
        ·rw[Fa.1 h1];exact hk
      ·have:i=v.length:=by omega
       subst this;rw[Ve]at hx;exact .inr (.inl ⟨(),by simp only[Fx,Md],hK hx⟩)
     refine hloop _ fun h24=> ?_;have hsz:szL [(⟨(⟨23,[],0,[],false⟩:ze),v⟩:zg)]<=big:=by simp only[szL,szV,Gc];omega
     obtain⟨a1,a2,a3⟩:Zt v<=16/\(tokL v).length<=1500/\shL v 0=true:=by
      unfold errS at he;split at he
      ·cases he
      split at he
      ·cases he
      split at he
      ·exact⟨by omega,by omega,by assumption⟩
      ·cases he
     have hdp:Zt [(⟨(⟨23,[],0,[],false⟩:ze),v⟩:zg)]=1+Zt v:=by rw[Zt,Zt,Vg,Ha (by decide)];omega
     have htl:(tokL [(⟨(⟨23,[],0,[],false⟩:ze),v⟩:zg)]).length=(tokL v).length+2:=by rw[tokL,tokL,tokV,Ha (by decide)];simp
     have hsh:shL [(⟨(⟨23,[],0,[],false⟩:ze),v⟩:zg)] 0=true:=by rw[shL,shL,shV,show zh 23=24 from rfl,fB a3 h24];rfl
     rw[vF hsz];by_cases h16:Zt v=16
     ·have e1:errS [(⟨(⟨23,[],0,[],false⟩:ze),v⟩:zg)]=20:=by unfold errS;rw[Ra (by omega)]
      rw[e1,Ha (by decide),h16];simp only[show(((16:Nat):Int)==16)=true from rfl,show((20:Int)==20)=true from rfl,Ic,zdj,vo,aa]
     ·have e1:errS [(⟨(⟨23,[],0,[],false⟩:ze),v⟩:zg)]=0:=by unfold errS;rw[Ha (by omega),Ha (by omega),Ra hsh]
      have e2:((Zt v:Int)==16)=false:=Sb.2 (by omega);have e3:w64 ((Zt v:Int)+1)=((1+Zt v:Nat):Int):=by rw[w64,uh (by omega) (by omega)];omega
      rw[e1,Ra rfl,hdp];simp only[e2,Md,aa,show((0:Int)==0)=true from rfl,Ic,e3,Gf,zdj,vo]
end Go.Lv.VT
