/- Parsing of tokens: what the machine of nest.Parse computes is what the reference's recursion computes. -/
import Derived.Test.YtcdeccnjlkkejaaGreatDoorNa
import Derived.Test.YtcdeccnjlkkejaaGreatDoorTy
import Derived.Test.YtcdeccnjlkkejaaGreatDoorNb
import Derived.Test.YtcdeccnjlkkejaaGreatDoorNe
import Derived.Test.YtcdeccnjlkkejaaGreatDoorNam
set_option linter.unusedSimpArgs false
set_option linter.unusedVariables false
namespace Go.Lv.VT
set_option maxRecDepth 100000
def qZ:Nat→List zf→Int→Nat→Option (List zb×List zf)
 |0,_,_,_=>none
 |_+1,[],_,_=>some ([],[])
 |n+1,t::r,c,left=>
  if c≠0∧t.kind=c then some ([],r)
  else if zq t.kind=0 then(qZ n r c left).map fun v=>(⟨t,[]⟩::v.1,v.2)
  else match left with
   |0=>none
   |m+1=>(qZ n r (zq t.kind) m).bind fun w=>(qZ n w.2 c (m+1)).map fun v=>(⟨t,w.1⟩::v.1,v.2)
theorem zaz(n:Nat)(t:zf)(r:List zf)(c:Int)(left:Nat):qZ (n+1) (t::r) c left=if c≠0∧t.kind=c then some ([],r)
  else if zq t.kind=0 then(qZ n r c left).map fun v=>(⟨t,[]⟩::v.1,v.2)
  else match left with
   |0=>none
   |m+1=>(qZ n r (zq t.kind) m).bind fun w=>(qZ n w.2 c (m+1)).map fun v=>(⟨t,w.1⟩::v.1,v.2):=rfl
theorem ziK: ∀(n:Nat) (l:List zf) (c:Int) (left:Nat) (v:List zb×List zf),qZ n l c left=some v→v.2<:+l
 |0,_,_,_,_,h=>by cases h
 |n+1,[],c,left,v,h=>by
  rw[qZ]at h
  cases h
  exact List.suffix_refl _
 |n+1,t::r,c,left,v,h=>by
  rw[zaz]at h
  refine List.IsSuffix.trans ?_ (List.suffix_cons t r)
  split at h
  ·cases h;exact List.suffix_refl _
  split at h
  ·cases hv:qZ n r c left with
   |none=>rw[hv]at h;cases h
   |some w=>rw[hv]at h;cases h;exact ziK n r c left w hv
  ·cases left with
   |zero=>cases h
   |succ m=>
    simp only at h
    cases hw:qZ n r (zq t.kind) m with
    |none=>rw[hw]at h;cases h
    |some w=>
     rw[hw,Option.bind_some]at h
     cases hv:qZ n w.2 c (m+1)with
     |none=>rw[hv]at h;cases h
     |some v'=>
      rw[hv]at h;cases h
      exact(ziK n w.2 c _ v' hv).trans (ziK n r _ m w hw)
theorem zdK: ∀(n:Nat) (l:List zf) (c:Int) (left:Nat) (v:List zb×List zf),qZ n l c left=some v→v.2.length≤l.length∧(l≠[]→v.2.length<l.length)
 |0,_,_,_,_,h=>by cases h
 |n+1,[],c,left,v,h=>by
  rw[qZ]at h
  cases h
  exact⟨Nat.le_refl _,fun h=>absurd rfl h⟩
 |n+1,t::r,c,left,v,h=>by
  rw[zaz]at h
  have key:v.2.length≤r.length:=by
   split at h
   ·cases h;exact Nat.le_refl _
   split at h
   ·cases hv:qZ n r c left with
    |none=>rw[hv]at h;cases h
    |some w=>rw[hv]at h;cases h;exact(zdK n r c left w hv).1
   ·cases left with
    |zero=>cases h
    |succ m=>
     simp only at h
     cases hw:qZ n r (zq t.kind) m with
     |none=>rw[hw]at h;cases h
     |some w=>
      rw[hw,Option.bind_some]at h
      cases hv:qZ n w.2 c (m+1)with
      |none=>rw[hv]at h;cases h
      |some v'=>
       rw[hv]at h;cases h
       have h1:=(zdK n r _ m w hw).1
       have h2:=(zdK n w.2 c _ v' hv).1
       exact Nat.le_trans h2 h1
  exact⟨by rw[List.length_cons];omega,fun _=>by rw[List.length_cons];omega⟩
theorem zgt: ∀(n m:Nat) (l:List zf) (c:Int) (left:Nat),l.length<n→l.length<m→qZ n l c left=qZ m l c left
 |0,_,_,_,_,h,_=>by omega
 |_+1,0,_,_,_,_,h=>by omega
 |n+1,m+1,[],c,left,_,_=>by rw[qZ,qZ]
 |n+1,m+1,t::r,c,left,hn,hm=>by
  rw[List.length_cons]at hn hm
  rw[zaz,zaz]
  rw[zgt n m r c left (by omega) (by omega)]
  cases left with
  |zero=>rfl
  |succ k=>
   simp only
   rw[zgt n m r (zq t.kind) k (by omega) (by omega)]
   cases hw:qZ m r (zq t.kind) k with
   |none=>rfl
   |some w=>
    have:=(zdK m r _ k w hw).1
    simp only[Option.bind_some]
    rw[zgt n m w.2 c (k+1) (by omega) (by omega)]
def zj4(l:List zf)(s:PSt):Option (List zb):=(qN l s).map fun s=>shutAll s.1 s.2
theorem zmA(t:zf)(l:List zf)(s:PSt):zj4 (t::l) s=(Qr s t).bind (zj4 l):=by
 unfold zj4
 rw[qN]
 cases Qr s t<;>rfl
theorem zkE: ∀(n:Nat) (l:List zf) (cur:List zb) (o:zf) (out:List zb) (st:List (zf×List zb)) (left:Nat),l.length<n→zq o.kind≠0→left+(st.length+1)=16→
  zj4 l (cur,(o,out)::st)=(qZ n l (zq o.kind) left).bind fun v=>zj4 v.2 (out++[⟨o,cur++v.1⟩],st)
 |0,_,_,_,_,_,_,h,_,_=>by omega
 |n+1,[],cur,o,out,st,left,_,_,_=>by
  rw[qZ,Option.bind_some]
  simp only[zj4,qN,Option.map_some,shutAll,List.append_nil]
 |n+1,t::r,cur,o,out,st,left,hn,ho,hl=>by
  rw[List.length_cons]at hn
  rw[zaz,zmA]
  unfold Qr
  simp only[zoo]
  by_cases h1:t.kind=zq o.kind
  ·rw[if_pos (by rw[h1,beq_self_eq_true]),if_pos ⟨ho,h1⟩,Option.bind_some,Option.bind_some]
   simp only[zBB,List.append_nil]
  ·rw[if_neg (by rw[beq_iff_eq];exact h1),if_neg (show¬(zq o.kind≠0∧t.kind=zq o.kind)from fun h=>h1 h.2)]
   by_cases h2:zq t.kind=0
   ·rw[if_neg (show¬zq t.kind≠0 from fun h=>h h2),if_pos h2,Option.bind_some,zkE n r _ o out st left (by omega) ho hl]
    cases qZ n r (zq o.kind) left with
    |none=>rfl
    |some v=>simp only[Option.bind_some,Option.map_some,List.append_assoc,List.singleton_append]
   ·rw[if_pos h2,if_neg h2]
    cases left with
    |zero=>rw[if_pos (by rw[List.length_cons];omega)];rfl
    |succ m=>
     rw[if_neg (by rw[List.length_cons];omega),Option.bind_some]
     simp only
     rw[zkE n r [] t cur ((o,out)::st) m (by omega) h2 (by rw[List.length_cons];omega)]
     cases hw:qZ n r (zq t.kind) m with
     |none=>rfl
     |some w=>
      have hlen:=(zdK n r _ m w hw).1
      simp only[Option.bind_some]
      rw[zkE n w.2 _ o out st (m+1) (by omega) ho hl]
      cases qZ n w.2 (zq o.kind) (m+1)with
      |none=>rfl
      |some v=>simp only[Option.bind_some,Option.map_some,List.nil_append,List.append_assoc,List.singleton_append]
theorem zmC: ∀(n:Nat) (l:List zf) (cur:List zb),l.length<n→zj4 l (cur,[])=(qZ n l 0 16).map fun v=>cur++v.1
 |0,_,_,h=>by omega
 |n+1,[],cur,_=>by
  rw[qZ]
  simp only[zj4,qN,Option.map_some,shutAll,List.append_nil]
 |n+1,t::r,cur,hn=>by
  rw[List.length_cons]at hn
  rw[zaz,zmA]
  unfold Qr
  simp only[zoo]
  rw[if_neg (by decide),if_neg (show¬((0:Int)≠0∧t.kind=0)from fun h=>h.1 rfl)]
  by_cases h2:zq t.kind=0
  ·rw[if_neg (show¬zq t.kind≠0 from fun h=>h h2),if_pos h2,Option.bind_some,zmC n r _ (by omega)]
   cases qZ n r 0 16 with
   |none=>rfl
   |some v=>simp only[Option.map_some,List.append_assoc,List.singleton_append]
  ·rw[if_pos h2,if_neg h2,if_neg (by decide),Option.bind_some]
   rw[zkE n r [] t cur [] 15 (by omega) h2 rfl]
   cases hw:qZ n r (zq t.kind) 15 with
   |none=>rfl
   |some w=>
    have hlen:=(zdK n r _ 15 w hw).1
    simp only[Option.bind_some]
    rw[zmC n w.2 _ (by omega)]
    cases qZ n w.2 0 16 with
    |none=>rfl
    |some v=>simp only[Option.map_some,List.nil_append,List.append_assoc,List.singleton_append]
theorem zkO: ∀(a b:List zb),tokL (a++b)=tokL a++tokL b
 |[],b=>by rw[tokL];rfl
 |v::a,b=>by rw[List.cons_append,tokL,tokL,zkO a b,List.append_assoc]
theorem zqk(v:zb):tokL [v]=tokV v:=by rw[tokL,tokL,List.append_nil]
def zdS(s:PSt):Nat:=(tokL s.1).length+(s.2.map fun x=>1+(tokL x.2).length).sum
def zzt(s:PSt):Prop:= ∀x∈s.2,zq x.1.kind≠0
theorem zvx{s s':PSt}{t:zf}(h:Qr s t=some s')(ho:zzt s):zzt s'∧zdS s'=zdS s+1:=by
 unfold Qr at h
 obtain⟨cur,st⟩:=s
 split at h
 ·rename_i h1
  cases st with
  |nil=>cases h1
  |cons x st=>
   obtain⟨o,out⟩:=x
   cases h
   have h2:zq o.kind≠0:=ho (o,out) (List.mem_cons_self ..)
   refine⟨fun x hx=>ho x (List.mem_cons_of_mem _ hx),?_⟩
   simp only[zdS,zBB,zkO,zqk,List.length_append,List.map_cons,List.sum_cons,zhF,List.length_cons,if_neg h2,List.length_append,List.length_singleton,List.length_nil]
   omega
 split at h
 ·rename_i h1 h2
  split at h
  ·cases h
  ·rename_i h3
   cases h
   refine⟨fun x hx=> ?_,?_⟩
   ·rcases List.mem_cons.1 hx with rfl|hx
    ·exact h2
    ·exact ho x hx
   ·simp only[zdS,List.map_cons,List.sum_cons,tokL,List.length_nil]
    omega
 ·rename_i h1 h2
  cases h
  refine⟨ho,?_⟩
  have h2:zq t.kind=0:=Classical.byContradiction h2
  simp only[zdS,zkO,zqk,List.length_append,zhF,List.length_cons,if_pos h2,List.length_nil]
  omega
theorem zmB: ∀(l:List zf) {s s':PSt},qN l s=some s'→zzt s→zzt s'∧zdS s'=zdS s+l.length
 |[],s,s',h,ho=>by cases h;exact⟨ho,rfl⟩
 |t::l,s,s',h,ho=>by
  rw[qN]at h
  cases hs:Qr s t with
  |none=>rw[hs]at h;cases h
  |some s1=>
   rw[hs,Option.bind_some]at h
   obtain⟨h1,h2⟩:=zvx hs ho
   obtain⟨h3,h4⟩:=zmB l h h1
   exact⟨h3,by rw[h4,h2,List.length_cons];omega⟩
theorem zhC: ∀(st:List (zf×List zb)) (cur:List zb),(∀x∈st,zq x.1.kind≠0)→(tokL (shutAll cur st)).length=zdS (cur,st)+st.length
 |[],cur,_=>by simp[shutAll,zdS]
 |(o,out)::st,cur,h=>by
  have h2:zq o.kind≠0:=h (o,out) (List.mem_cons_self ..)
  rw[shutAll,zhC st _ (fun x hx=>h x (List.mem_cons_of_mem _ hx))]
  simp only[zdS,zkO,zqk,List.length_append,zhF,List.length_cons,if_neg h2,List.length_append,List.length_singleton,List.map_cons,List.sum_cons,List.length_cons,List.length_nil]
  omega
def zeQ(l:List zf)(c:Int)(left:Nat):Option (List zb×List zf):=qZ (l.length+1) l c left
theorem zys(c:Int)(left:Nat):zeQ [] c left=some ([],[]):=by unfold zeQ;rw[qZ]
theorem zqw{n:Nat}{l:List zf}{c:Int}{left:Nat}(h:l.length<n):qZ n l c left=zeQ l c left:=zgt n _ l c left h (Nat.lt_succ_self _)
theorem zvU(t:zf)(r:List zf)(c:Int)(left:Nat):zeQ (t::r) c left=if c≠0∧t.kind=c then some ([],r)
  else if zq t.kind=0 then(zeQ r c left).map fun v=>(⟨t,[]⟩::v.1,v.2)
  else match left with
   |0=>none
   |m+1=>(zeQ r (zq t.kind) m).bind fun w=>(zeQ w.2 c (m+1)).map fun v=>(⟨t,w.1⟩::v.1,v.2):=by
 conv=>lhs;unfold zeQ;rw[List.length_cons,zaz]
 rw[zqw (show r.length<r.length+1 from Nat.lt_succ_self _)]
 cases left with
 |zero=>rfl
 |succ m=>
  simp only
  rw[zqw (show r.length<r.length+1 from Nat.lt_succ_self _)]
  cases hw:zeQ r (zq t.kind) m with
  |none=>rfl
  |some w=>
   have:=(zdK _ _ _ _ w hw).1
   simp only[Option.bind_some]
   rw[zqw (show w.2.length<r.length+1 by omega)]
def valI(n:Nat):Option (List zb×List zf)→List zb×Int
 |none=>([], -1)
 |some v=>(v.1,((n - v.2.length:Nat):Int))
theorem ap80{n:Nat}(h:n≤big):Zv n 1 80=true:=zb8 (by unfold big at h;omega)
theorem zvG{l:List zf}{i:Nat}{c:Int}{left:Nat}(hl:l.length≤big)(hi:i≤l.length)(hf:left≤100):ZZ (l,(i:Int),c,(left:Int))=some (valI l.length (zeQ (l.drop i) c left)):=by
 have key: ∀x:List zf×Int×Int×Int,(∃(i left:Nat) (c:Int),x=(l,(i:Int),c,(left:Int))∧i≤l.length∧left≤100)→ZZ x=some (valI l.length (zeQ (l.drop x.2.1.toNat) x.2.2.1 x.2.2.2.toNat)):=by
  intro x hx
  refine zaS (fun x=>l.length - x.2.1.toNat) (fun x=> ∃(i left:Nat) (c:Int),x=(l,(i:Int),c,(left:Int))∧i≤l.length∧left≤100) (fun x=>valI l.length (zeQ (l.drop x.2.1.toNat) x.2.2.1 x.2.2.2.toNat)) (fun S x hx hS=> ?_) hx
  obtain⟨i,left,c,rfl,hi,hf⟩:=hx
  simp only[Int.toNat_natCast]at hS ⊢
  unfold zci
  refine zae (fun z=> ∃(j:Nat) (a:List zb),z=((j:Int),a)∧i≤j∧j≤l.length∧a.length≤j∧zeQ (l.drop i) c left=(zeQ (l.drop j) c left).map fun v=>(a++v.1,v.2)) (fun z=>l.length - z.1.toNat) _ ?_ ⟨i,[],rfl,Nat.le_refl _,hi,Nat.zero_le _,?_⟩
  ·rintro _ ⟨j,a,rfl,hij,hj,ha,he⟩
   rcases Nat.lt_or_eq_of_le hj with hlt|rfl
   ·rw[List.drop_eq_getElem_cons hlt,zvU]at he
    have hw:w64 ((j:Int)+1)=((j+1:Nat):Int):=Zb hlt hl
    simp only[ZJ hlt,cond_true,Bool.and_true,Zw hlt,ZW,ze,Option.bind_some]
    by_cases hc:c≠0∧l[j].kind=c
    ·rw[if_pos hc]at he
     have e1:(c==0)=false:=beq_eq_false_iff_ne.2 hc.1
     have e2:(l[j].kind != c)=false:=by rw[hc.2,bne_self_eq_false]
     simp only[e1,cond_false,Bool.not_false,cond_true,e2]
     refine .inr (.inl ⟨_,rfl,?_⟩)
     rw[he]
     simp only[Option.map_some,List.append_nil,valI,hw,List.length_drop]
     congr 2
     rw[show l.length - (l.length - (j+1))=j+1 by omega]
     split<;>omega
    ·rw[if_neg hc]at he
     have e2:(bif c==0 then true else(bif !(c==0)then l[j]else default).kind != c)=true:=by
      cases e1:c==0 with
      |true=>rfl
      |false=>exact bne_iff_ne.2 fun q=>hc ⟨beq_eq_false_iff_ne.1 e1,q⟩
     simp only[e2,cond_true,zgn,Option.bind_some]
     by_cases h0:zq l[j].kind=0
     ·rw[if_pos h0]at he
      simp only[h0,show((0:Int) != 0)=false from rfl,cond_false,zh,hw]
      rw[zD (ap80 (by omega))]
      refine .inl ⟨_,rfl,⟨j+1,_,rfl,by omega,hlt,by rw[List.length_append,List.length_singleton];omega,?_⟩,by simp only[Int.toNat_natCast];omega⟩
      rw[he,Option.map_map]
      congr 1
      funext v
      simp only[Function.comp,List.append_assoc,List.singleton_append]
     ·rw[if_neg h0]at he
      simp only[show(zq l[j].kind != 0)=true from bne_iff_ne.2 h0,cond_true,hw]
      cases left with
      |zero=>
       refine .inr (.inr ?_)
       simp only at he
       rw[he]
       rfl
      |succ m=>
       have el:(((m+1:Nat):Int)==0)=false:=beq_eq_false_iff_ne.2 (by omega)
       have ew:w64 (((m+1:Nat):Int) - 1)=(m:Int):=by rw[w64,ZV (by omega) (by omega)];omega
       have hs:=hS (l,((j+1:Nat):Int),zq l[j].kind,(m:Int)) ⟨j+1,m,_,rfl,hlt,by omega⟩ (by simp only[Int.toNat_natCast];omega)
       simp only[Int.toNat_natCast]at hs
       simp only[el,cond_false,ew,hs,Option.bind_some]
       simp only at he
       cases hv:zeQ (l.drop (j+1)) (zq l[j].kind) m with
       |none=>
        rw[hv]at he
        refine .inr (.inr ?_)
        rw[he]
        rfl
       |some w=>
        rw[hv,Option.bind_some]at he
        have hsuf:w.2<:+l.drop (j+1):=ziK _ _ _ _ w hv
        have hle:=hsuf.length_le
        rw[List.length_drop]at hle
        have hd:l.drop (l.length - w.2.length)=w.2:=(List.suffix_iff_eq_drop.1 (hsuf.trans (List.drop_suffix _ _))).symm
        have hneg:decide (((l.length - w.2.length:Nat):Int)<0)=false:=decide_eq_false (by omega)
        rw[show valI l.length (some w)=(w.1,((l.length - w.2.length:Nat):Int))from rfl]
        simp only[hneg,cond_false,zh]
        rw[zD (ap80 (by omega))]
        refine .inl ⟨_,rfl,⟨l.length - w.2.length,_,rfl,by omega,by omega,by rw[List.length_append,List.length_singleton];omega,?_⟩,by simp only[Int.toNat_natCast];omega⟩
        rw[he,hd,Option.map_map]
        congr 1
        funext v
        simp only[Function.comp,List.append_assoc,List.singleton_append]
   ·rw[List.drop_length,zys]at he
    refine .inr (.inl ⟨((l.length:Int),a),?_,?_⟩)
    ·simp only[Z6,cond_false,Bool.and_false,zC,ze,Option.bind_some]
    ·rw[he]
     simp only[Option.map_some,List.append_nil,valI,List.length_nil,Nat.sub_zero]
     rw[show w64 ((l.length:Int)+1)=(l.length:Int)+1 by rw[w64,ZV (by omega) (by unfold big at hl;omega)]]
     rw[if_neg (by omega)]
  ·cases zeQ (l.drop i) c left with
   |none=>rfl
   |some v=>rfl
 have:=key (l,(i:Int),c,(left:Int)) ⟨i,left,c,rfl,hi,hf⟩
 simp only[Int.toNat_natCast]at this
 exact this
def wtT:List zf→Nat
 |[]=>0
 |t::r=>1+t.text.length+t.unit.length+wtT r
theorem zyx: ∀l:List zf,l.length≤wtT l
 |[]=>Nat.le_refl _
 |t::r=>by rw[wtT,List.length_cons];have:=zyx r;omega
theorem zkR: ∀(n:Nat) (l:List zf) (c:Int) (left:Nat) (v:List zb×List zf),qZ n l c left=some v→szL v.1+wtT v.2≤wtT l
 |0,_,_,_,_,h=>by cases h
 |n+1,[],c,left,v,h=>by
  rw[qZ]at h
  cases h
  rw[szL]
  exact Nat.le_refl _
 |n+1,t::r,c,left,v,h=>by
  rw[zaz]at h
  rw[wtT]
  split at h
  ·cases h;rw[szL];simp only;omega
  split at h
  ·cases hv:qZ n r c left with
   |none=>rw[hv]at h;cases h
   |some w=>
    rw[hv]at h;cases h
    have:=zkR n r c left w hv
    simp only[szL,szV];omega
  ·cases left with
   |zero=>cases h
   |succ m=>
    simp only at h
    cases hw:qZ n r (zq t.kind) m with
    |none=>rw[hw]at h;cases h
    |some w=>
     rw[hw,Option.bind_some]at h
     cases hv:qZ n w.2 c (m+1)with
     |none=>rw[hv]at h;cases h
     |some v'=>
      rw[hv]at h;cases h
      have h1:=zkR n w.2 c _ v' hv
      have h2:=zkR n r _ m w hw
      simp only[szL,szV];omega
theorem ztn(l:List zf):(qN l ([],[])).map (fun s=>shutAll s.1 s.2)=(zeQ l 0 16).map Prod.fst:=zmC _ l [] (Nat.lt_succ_self _)
theorem zAq{l:List zf}{s:PSt}(h:qN l ([],[])=some s):szL (shutAll s.1 s.2)≤wtT l:=by
 have hp:=ztn l
 rw[h,Option.map_some]at hp
 cases hv:zeQ l 0 16 with
 |none=>rw[hv]at hp;cases hp
 |some v=>
  rw[hv,Option.map_some]at hp
  injection hp with hp
  have:=zkR _ _ _ _ v hv
  rw[hp];omega
theorem ztm(l:List zf):szL (parS l).1≤wtT l:=by
 unfold parS
 split
 ·rw[szL];exact Nat.zero_le _
 ·split
  ·rw[szL];exact Nat.zero_le _
  ·rename_i s hs
   split
   ·rw[szL];exact Nat.zero_le _
   ·exact zAq hs
theorem zvD{l:List zf}(hl:l.length≤big):zcy l=some (match qN l ([],[])with|none=>([],false)|some s=>(shutAll s.1 s.2,true)):=by
 unfold zcy
 have h:=zvG (l:=l) (i:=0) (c:=0) (left:=16) hl (Nat.zero_le _) (by omega)
 rw[List.drop_zero]at h
 replace h:ZZ (l,0,0,16)=_:=h
 rw[h,ze,Option.bind_some]
 have hp:=ztn l
 cases hv:zeQ l 0 16 with
 |none=>
  rw[hv]at hp
  cases hr:qN l ([],[])with
  |none=>rfl
  |some s=>rw[hr]at hp;cases hp
 |some v=>
  rw[hv]at hp
  cases hr:qN l ([],[])with
  |none=>rw[hr]at hp;cases hp
  |some s=>
   rw[hr,Option.map_some,Option.map_some]at hp
   injection hp with hp
   exact congrArg some (Prod.ext hp.symm (decide_eq_true (show((l.length - v.2.length:Nat):Int)≥0 by omega)))
theorem zxV{l:List zf}(h:wtT l≤big):zdD l=some (parS l):=by
 have hl:=zyx l
 unfold zdD parS
 by_cases hm:1500<l.length
 ·rw[if_pos hm,decide_eq_true (show(l.length:Int)>1500 by omega)]
  rfl
 ·rw[if_neg hm,decide_eq_false (show¬(l.length:Int)>1500 by omega),cond_false,zvD (by omega)]
  simp only[ze,Option.bind_some]
  cases hr:qN l ([],[])with
  |none=>rfl
  |some s=>
   have hsz:=zAq hr
   obtain⟨h1,h2⟩:=zmB l hr (fun x hx=>by cases hx)
   have h3:=zhC s.2 s.1 h1
   have h4:zdS (s.1,s.2)=l.length:=by rw[show(s.1,s.2)=s from rfl,h2];simp[zdS,tokL]
   simp only[Bool.not_true,cond_false,zju (show szL (shutAll s.1 s.2)≤big by omega),Option.bind_some]
   rw[h4]at h3
   by_cases hk:1500<l.length+s.2.length
   ·rw[if_pos hk,decide_eq_true (show((tokL (shutAll s.1 s.2)).length:Int)>1500 by omega)]
    rfl
   ·rw[if_neg hk,decide_eq_false (show¬((tokL (shutAll s.1 s.2)).length:Int)>1500 by omega)]
    rfl
end Go.Lv.VT

namespace Go.Lv.VT
set_option maxRecDepth 100000
theorem zgu: ∀(n:Nat) (l:List zf) (c:Int) (left:Nat) (v:List zb×List zf),qZ n l c left=some v→shL v.1 c=true∧zar v.1≤left∧(∀t∈v.2,t∈l)∧ ∀t∈tokL v.1,t∈l∨(t.text=[]∧t.unit=[])
 |0,_,_,_,_,h=>by cases h
 |n+1,[],c,left,v,h=>by
  rw[qZ]at h
  cases h
  exact⟨by rw[shL],by rw[zar];exact Nat.zero_le _,fun t ht=>ht,fun t ht=>by rw[tokL]at ht;cases ht⟩
 |n+1,t::r,c,left,v,h=>by
  rw[zaz]at h
  split at h
  ·cases h
   exact⟨by rw[shL],by rw[zar];exact Nat.zero_le _,fun t ht=>List.mem_cons_of_mem _ ht,fun t ht=>by rw[tokL]at ht;cases ht⟩
  rename_i h1
  have hc:(c != 0&&t.kind==c)=false:=by
   cases hh:(c != 0&&t.kind==c)with
   |false=>rfl
   |true=>rw[Bool.and_eq_true,bne_iff_ne,beq_iff_eq]at hh;exact absurd hh h1
  split at h
  ·rename_i h2
   cases hv:qZ n r c left with
   |none=>rw[hv]at h;cases h
   |some w=>
    rw[hv]at h;cases h
    obtain⟨a1,a2,a3,a4⟩:=zgu n r c left w hv
    refine⟨?_,?_,fun t ht=>List.mem_cons_of_mem _ (a3 t ht),fun u hu=> ?_⟩
    ·rw[shL,shV,a1,hc,h2];rfl
    ·rw[zar,zi1,if_pos h2];omega
    ·rw[tokL,tokV,if_pos h2]at hu
     rcases List.mem_cons.1 hu with rfl|hu
     ·exact .inl (List.mem_cons_self ..)
     ·exact(a4 u hu).imp (List.mem_cons_of_mem _) id
  ·rename_i h2
   cases left with
   |zero=>cases h
   |succ m=>
    simp only at h
    cases hw:qZ n r (zq t.kind) m with
    |none=>rw[hw]at h;cases h
    |some w=>
     rw[hw,Option.bind_some]at h
     cases hv:qZ n w.2 c (m+1)with
     |none=>rw[hv]at h;cases h
     |some v'=>
      rw[hv]at h;cases h
      obtain⟨a1,a2,a3,a4⟩:=zgu n r _ m w hw
      obtain⟨b1,b2,b3,b4⟩:=zgu n w.2 c _ v' hv
      have hz:(zq t.kind==0)=false:=beq_eq_false_iff_ne.2 h2
      refine⟨?_,?_,fun u hu=>List.mem_cons_of_mem _ (a3 u (b3 u hu)),fun u hu=> ?_⟩
      ·rw[shL,shV,a1,b1,hc,hz,Bool.not_true,Bool.and_false];rfl
      ·rw[zar,zi1,if_neg h2];omega
      ·rw[tokL,tokV,if_neg h2,List.cons_append,List.append_assoc]at hu
       rcases List.mem_cons.1 hu with rfl|hu
       ·exact .inl (List.mem_cons_self ..)
       ·rcases List.mem_append.1 hu with hu|hu
        ·exact(a4 u hu).imp (List.mem_cons_of_mem _) id
        ·rcases List.mem_append.1 hu with hu|hu
         ·rw[List.mem_singleton.1 hu];exact .inr ⟨rfl,rfl⟩
         ·exact(b4 u hu).imp (fun q=>List.mem_cons_of_mem _ (a3 u q)) id
theorem zxH{l:List zf}(h:(parS l).2=0):errS (parS l).1=0∧ ∀t∈tokL (parS l).1,t∈l∨(t.text=[]∧t.unit=[]):=by
 unfold parS at h ⊢
 split at h
 ·cases h
 rename_i h0
 rw[if_neg h0]
 split at h
 ·cases h
 rename_i s hs
 split at h
 ·cases h
 rename_i hk
 rw[if_neg hk]
 have hp:=ztn l
 rw[hs,Option.map_some]at hp
 cases hv:zeQ l 0 16 with
 |none=>rw[hv]at hp;cases hp
 |some v=>
  rw[hv,Option.map_some]at hp
  injection hp with hp
  obtain⟨a1,a2,a3,a4⟩:=zgu _ _ _ _ _ hv
  obtain⟨b1,b2⟩:=zmB l hs (fun x hx=>by cases hx)
  have b3:=zhC s.2 s.1 b1
  have b4:zdS (s.1,s.2)=l.length:=by rw[show(s.1,s.2)=s from rfl,b2];simp[zdS,tokL]
  rw[b4]at b3
  simp only[hp]at b3 ⊢
  refine⟨?_,a4⟩
  unfold errS
  rw[if_neg (by omega),if_neg (by omega),if_pos a1]
end Go.Lv.VT

namespace Go.Lv.VT
set_option maxRecDepth 100000
theorem zjg(l:Str):(zH l).1.length+4*(zH l).2.length≤4*l.length:=by
 match l with
 |[]=>rw[zeE];exact Nat.le_refl _
 |c::r=>
  rw[zbX]
  split
  ·have:=zjg r
   show(c::(zH r).1).length+4*(zH r).2.length≤_
   rw[List.length_cons,List.length_cons];omega
  ·split
   ·have h1:=zJ r
    have h2:=zaK r
    have:=zjg (zu r).2
    show((zu r).1++(zH (zu r).2).1).length+4*(zH (zu r).2).2.length≤_
    rw[List.length_append,List.length_cons];omega
   ·show 0+4*(c::r).length≤_;omega
termination_by l.length
decreasing_by
 all_goals first|(have:=zJ r;simp only[List.length_cons];omega)|(simp only[List.length_cons];omega)
theorem zze{u:Str}{o:Option Str}{t:Str}{k:Nat}(h:o.map (u++ ·)=some t)(hk: ∀t',o=some t'→t'.length≤k):t.length≤u.length+k:=by
 cases o with
 |none=>cases h
 |some t'=>
  injection h with h
  rw[←h,List.length_append]
  have:=hk t' rfl;omega
theorem zkG{m:UInt8}{q t:Str}(h:(zZ m q).1=some t):t.length+4*(zZ m q).2.length≤4*q.length:=by
 match q with
 |[]=>rw[zai]at h ⊢;cases h;exact Nat.le_refl _
 |c::r=>
  rw[zdU]at h ⊢
  rw[List.length_cons]
  split
  ·rename_i h1;rw[if_pos h1]at h;cases h;show 0+4*r.length≤_;omega
  ·rename_i h1
   rw[if_neg h1]at h
   split
   ·rename_i h2;rw[if_pos h2]at h;cases h
   ·rename_i h2
    rw[if_neg h2]at h
    split
    ·rename_i h3
     rw[if_pos h3]at h
     split
     ·rename_i h4;rw[if_pos h4]at h;cases h;show 0+4*0≤_;omega
     ·rename_i h4
      rw[if_neg h4]at h
      split
      ·rename_i h5
       rw[if_pos h5]at h
       have:=zkG (q:=r.drop 1) h
       rw[List.length_drop]at this;omega
      ·rename_i h5
       rw[if_neg h5]at h
       have h6:=zJ r
       have h7:=zaK r
       have:=zze (k:=4*(zu r).2.length - 4*(zZ m (zu r).2).2.length) h (fun t' ht'=>by have:=zkG ht';omega)
       have h8:=(zdc m (zu r).2).length_le
       show t.length+4*(zZ m (zu r).2).2.length≤_
       omega
    ·rename_i h3
     rw[if_neg h3]at h
     have:=zze (u:=[c]) (k:=4*r.length - 4*(zZ m r).2.length) h (fun t' ht'=>by have:=zkG ht';omega)
     have h8:=(zdc m r).length_le
     rw[List.length_singleton]at this
     show t.length+4*(zZ m r).2.length≤_
     omega
termination_by q.length
decreasing_by
 all_goals first|(have:=zJ r;simp only[List.length_cons];omega)|(simp only[List.length_cons,List.length_drop];omega)
theorem zBJ{q t:Str}(h:(urlS q).1=some t):t.length+4*(urlS q).2.length≤4*q.length:=by
 match q with
 |[]=>rw[zgs]at h ⊢;cases h;exact Nat.le_refl _
 |c::r=>
  rw[zdI]at h ⊢
  rw[List.length_cons]
  split
  ·rename_i h1;rw[if_pos h1]at h;cases h;show 0+4*r.length≤_;omega
  ·rename_i h1
   rw[if_neg h1]at h
   split
   ·rename_i h2
    rw[if_pos h2]at h
    have hp:=(zdT spB r).length_le
    split
    ·rename_i h3;rw[h3]at h;cases h;show 0+4*0≤_;omega
    ·rename_i d r' h3
     rw[h3]at h hp
     rw[List.length_cons]at hp
     simp only at h
     split
     ·rename_i h4;rw[if_pos h4]at h;cases h;show 0+4*r'.length≤_;omega
     ·rename_i h4;rw[if_neg h4]at h;cases h
   ·rename_i h2
    rw[if_neg h2]at h
    split
    ·rename_i h3;rw[if_pos h3]at h;cases h
    ·rename_i h3
     rw[if_neg h3]at h
     split
     ·rename_i h5
      rw[if_pos h5]at h
      have h6:=zJ r
      have h7:=zaK r
      have:=zze (k:=4*(zu r).2.length - 4*(urlS (zu r).2).2.length) h (fun t' ht'=>by have:=zBJ ht';omega)
      have h8:=(zjz (zu r).2).length_le
      show t.length+4*(urlS (zu r).2).2.length≤_
      omega
     ·rename_i h5
      rw[if_neg h5]at h
      have:=zze (u:=[c]) (k:=4*r.length - 4*(urlS r).2.length) h (fun t' ht'=>by have:=zBJ ht';omega)
      have h8:=(zjz r).length_le
      rw[List.length_singleton]at this
      show t.length+4*(urlS r).2.length≤_
      omega
termination_by q.length
decreasing_by
 all_goals first|(have:=zJ r;simp only[List.length_cons];omega)|(simp only[List.length_cons];omega)
theorem zCd(c:UInt8)(r:Str):(zcH (c::r)).1.text.length+(zcH (c::r)).1.unit.length+4*(zcH (c::r)).2.length≤4*(r.length+1):=by
 have hs:=(zdR c r).length_le
 rw[zot]at hs ⊢
 split
 ·rename_i h1;rw[if_pos h1]at hs;simp only[zi7,List.length_nil]at hs ⊢;omega
 rename_i h1
 rw[if_neg h1]at hs
 split
 ·rename_i h2
  rw[if_pos h2]at hs
  simp only at hs ⊢
  cases ho:(zZ c r).1 with
  |none=>show 0+0+_≤_;omega
  |some t=>have:=zkG ho;show t.length+0+_≤_;omega
 rename_i h2
 rw[if_neg h2]at hs
 split
 ·have:=zjg r;simp only[List.length_nil];omega
 rename_i h3
 rw[if_neg h3]at hs
 split
 ·rename_i h4
  have h5:=(zmg h4).length_le
  rw[if_pos h4]at hs
  unfold zby at hs ⊢
  split
  ·have:=zjg (Zp (c::r)).1;simp only[List.length_nil];omega
  ·rename_i h6
   rw[if_neg h6]at hs
   split
   ·rename_i h7;rw[if_pos h7]at hs;simp only[List.length_nil]at hs ⊢;omega
   ·rename_i h7;rw[if_neg h7]at hs;simp only[List.length_nil]at hs ⊢;omega
 rename_i h4
 rw[if_neg h4]at hs
 split
 ·rename_i h5;rw[if_pos h5]at hs;simp only[zi7,List.length_nil]at hs ⊢;omega
 rename_i h5
 rw[if_neg h5]at hs
 split
 ·rename_i h6;rw[if_pos h6]at hs;simp only[zi7,List.length_nil]at hs ⊢;omega
 rename_i h6
 rw[if_neg h6]at hs
 split
 ·have:=zjg r;simp only[List.length_nil];omega
 rename_i h7
 rw[if_neg h7]at hs
 split
 ·have hn:=zjg (c::r)
  rw[List.length_cons]at hn
  unfold zfG
  split
  ·split
   ·have h8:=(zdT spB ((zH (c::r)).2.drop 1)).length_le
    have h9:=(zjz (past spB ((zH (c::r)).2.drop 1))).length_le
    rw[List.length_drop]at h8
    simp only
    cases ho:(urlS (past spB ((zH (c::r)).2.drop 1))).1 with
    |none=>show 0+0+_≤_;omega
    |some t=>have:=zBJ ho;show t.length+0+_≤_;omega
   ·simp only[List.length_nil,List.length_drop];omega
  ·simp only[List.length_nil];omega
 split
 ·simp only[List.length_nil,List.length_singleton];omega
 ·simp only[zi7,List.length_nil];omega
theorem zAy(q:Str):wtT (zbK q)≤5*q.length:=by
 cases hc:cmtS q with
 |nil=>rw[zgr hc,wtT];exact Nat.zero_le _
 |cons c r=>
  have h2:=(zdq q).length_le
  have h3:=(zdR c r).length_le
  rw[hc,List.length_cons]at h2
  rw[zeO hc,wtT]
  have h4:(zcH (c::r)).2.length<q.length:=by omega
  have:=zAy (zcH (c::r)).2
  have:=zCd c r
  omega
termination_by q.length
decreasing_by all_goals omega
end Go.Lv.VT

namespace Go.Lv.VT
set_option maxRecDepth 100000
def clnB(c:UInt8):Str:=if c=0 then [239,191,189]else if c=12∨c=13 then [10]else [c]
def clR:Bool→Str→Str
 |_,[]=>[]
 |cr,c::r=>(if c=10∧cr=true then []else clnB c)++clR (c==13) r
theorem zyK(c:UInt8):(clnB c).length≤3:=by
 unfold clnB
 split
 ·decide
 ·split<;>simp
theorem zwh: ∀(s:Str) (b:Bool),(clR b s).length≤3*s.length
 |[],_=>Nat.le_refl _
 |c::r,b=>by
  rw[clR,List.length_append,List.length_cons]
  have:=zwh r (c==13)
  have:=zyK c
  split<;>simp<;>omega
theorem zn2{c:UInt8}{r:Str}(h:c=13→ ∀q,r≠10::q):Proofs.Cl.cleanS (c::r)=clnB c++Proofs.Cl.cleanS r:=by
 rw[Proofs.Cl.cleanS]
 ·unfold clnB
  by_cases h0:c=0
  ·subst h0;rfl
  ·have e0:(c==0)=false:=beq_eq_false_iff_ne.2 h0
   rw[e0,if_neg h0,cond_false]
   by_cases h1:c=12∨c=13
   ·rw[if_pos h1]
    rcases h1 with rfl|rfl<;>rfl
   ·rw[if_neg h1]
    have e1:(c==12||c==13)=false:=by simp only[Bool.or_eq_false_iff,beq_eq_false_iff_ne];exact⟨fun q=>h1 (.inl q),fun q=>h1 (.inr q)⟩
    rw[e1,cond_false];rfl
 ·intro r' e1 e2
  exact h e1 r' e2
theorem ztW: ∀(n:Nat) (s:Str),s.length≤n→clR false s=Proofs.Cl.cleanS s
 |0,s,h=>by
  obtain rfl:=List.length_eq_zero_iff.1 (Nat.le_zero.1 h)
  rw[clR,Proofs.Cl.cleanS]
 |n+1,[],_=>by rw[clR,Proofs.Cl.cleanS]
 |n+1,c::r,h=>by
  rw[List.length_cons]at h
  rw[clR,if_neg (fun q=>by cases q.2)]
  by_cases hc:c=13
  ·subst hc
   rcases r with _|⟨d,r⟩
   ·rfl
   ·rw[List.length_cons]at h
    by_cases hd:d=10
    ·subst hd
     rw[Proofs.Cl.cleanS,clR,if_pos ⟨rfl,rfl⟩,←ztW n r (by omega)]
     rfl
    ·rw[zn2 (fun _ q e=>hd (List.cons.inj e).1)]
     rw[←ztW n (d::r) (by rw[List.length_cons];omega),clR,clR,if_neg (fun q=>hd q.1),if_neg (fun q=>hd q.1)]
  ·rw[zn2 (fun q=>absurd q hc),←ztW n r (by omega),show(c==13)=false from beq_eq_false_iff_ne.2 hc]
def pv13(x:Str):Nat→Bool
 |0=>false
 |i+1=>x[i]? ==some 13
theorem zAN{a:Str}{c:UInt8}{i:Int}(ha:a.length≤9000):(zS (X:=Str×Int) (R:=LX (Str×Int) (LO (Str×Int) Str Str)) (
  bif bif (c.toNat:Int)==13 then true else(c.toNat:Int)==12 then some (LX.out (a,10))else some (LX.out (a,(c.toNat:Int)))) fun j4=>
  bif j4.2==0 then
   need (zay j4.1.length [(239:UInt8),(191:UInt8),(189:UInt8)].length)<|
   some (LX.out (j4.1++[(239:UInt8),(191:UInt8),(189:UInt8)],i))
  else
   ze (Z4 j4.2) fun y5=>
   need (zay j4.1.length [y5].length)<|
   some (LX.out (j4.1++[y5],i)))=some (LX.out (a++clnB c,i)):=by
 have hs: ∀m:Str,m.length≤3→zay a.length m.length=true:=fun m hm=>QU.2 (by omega)
 rw[show((c.toNat:Int)==13)=(c==13)from qD c 13,show((c.toNat:Int)==12)=(c==12)from qD c 12]
 by_cases h13:c=13
 ·subst h13
  simp only[beq_self_eq_true,cond_true,zh]
  rw[show((10:Int)==0)=false from rfl,cond_false,show Z4 10=some 10 from rfl,ze,Option.bind_some,zD (hs _ (by decide))]
  rfl
 ·have e13:(c==13)=false:=beq_eq_false_iff_ne.2 h13
  by_cases h12:c=12
  ·subst h12
   simp only[beq_self_eq_true,cond_true,e13,cond_false,zh]
   rw[show((10:Int)==0)=false from rfl,cond_false,show Z4 10=some 10 from rfl,ze,Option.bind_some,zD (hs _ (by decide))]
   rfl
  ·have e12:(c==12)=false:=beq_eq_false_iff_ne.2 h12
   simp only[e12,e13,cond_false,zh]
   rw[show((c.toNat:Int)==0)=(c==0)from qD c 0]
   by_cases h0:c=0
   ·subst h0
    simp only[beq_self_eq_true,cond_true]
    rw[zD (hs _ (by decide))]
    rfl
   ·have e0:(c==0)=false:=beq_eq_false_iff_ne.2 h0
    simp only[e0,cond_false,ztQ,ze,Option.bind_some]
    rw[zD (hs _ (by simp)),clnB,if_neg h0,if_neg (fun q=>q.elim h12 h13)]
theorem ztz{x:Str}(hx:x.length≤3000):zbD x=some (Proofs.Cl.cleanS x):=by
 rw[←ztW x.length x (Nat.le_refl _)]
 have hl0:=zwh x false
 unfold zbD
 refine zae (fun z=> ∃(i:Nat) (a:Str),z=(a,(i:Int))∧i≤x.length∧a++clR (pv13 x i) (x.drop i)=clR false x) (fun z=>x.length - z.2.toNat) (clR false x) ?_ ⟨0,[],rfl,Nat.zero_le _,rfl⟩
 rintro _ ⟨i,a,rfl,hi,he⟩
 rcases Nat.lt_or_eq_of_le hi with hlt|rfl
 ·refine .inl ⟨(a++(if x[i]=10∧pv13 x i=true then []else clnB x[i]),((i+1:Nat):Int)),?_,⟨i+1,_,rfl,hlt,?_⟩,?_⟩
  ·have hal:a.length≤9000:=by have:=congrArg List.length he;rw[List.length_append]at this;omega
   have hprev:zo (bif (x[i].toNat:Int)==10 then decide ((i:Int)>0)else false) (geti x (w64 ((i:Int) - 1))) 0=some (bif (bif (x[i].toNat:Int)==10 then decide ((i:Int)>0)else false)then(x[i - 1]?).getD 0 else 0):=by
    cases hb:(bif (x[i].toNat:Int)==10 then decide ((i:Int)>0)else false)with
    |false=>rfl
    |true=>
     have h0:0<i:=by
      cases h10:((x[i].toNat:Int)==10)with
      |false=>rw[h10]at hb;cases hb
      |true=>rw[h10,cond_true]at hb;have:=of_decide_eq_true hb;omega
     rw[zn,cond_true,w64,ZV (by omega) (by omega),show(i:Int) - 1=((i - 1:Nat):Int) by omega,Zw (show i - 1<x.length by omega),List.getElem?_eq_getElem (show i - 1<x.length by omega)]
     rfl
   have hpv:(bif bif (x[i].toNat:Int)==10 then decide ((i:Int)>0)else false then((((bif (bif (x[i].toNat:Int)==10 then decide ((i:Int)>0)else false)then(x[i - 1]?).getD 0 else 0):UInt8).toNat:Int)==13)else false)=decide (x[i]=10∧pv13 x i=true):=by
    rw[show((x[i].toNat:Int)==10)=(x[i]==10)from qD _ 10]
    by_cases h10:x[i]=10
    ·have e:(x[i]==10)=true:=by rw[h10];rfl
     simp only[e,cond_true]
     cases i with
     |zero=>exact(decide_eq_false (fun q=>by cases q.2)).symm
     |succ j=>
      have e0:decide (((j+1:Nat):Int)>0)=true:=decide_eq_true (by omega)
      have ej:x[j+1 - 1]? =some x[j]:=List.getElem?_eq_getElem (show j<x.length by omega)
      simp only[e0,cond_true,ej,Option.getD_some]
      rw[show((x[j].toNat:Int)==13)=(x[j]==13)from qD _ 13]
      have ep:pv13 x (j+1)=(x[j]==13):=by
       show(x[j]? ==some 13)=_
       rw[List.getElem?_eq_getElem (show j<x.length by omega)]
       rfl
      rw[ep]
      cases hq:x[j]==13 with
      |true=>exact(decide_eq_true ⟨h10,rfl⟩).symm
      |false=>exact(decide_eq_false (fun q=>by cases q.2)).symm
    ·have e:(x[i]==10)=false:=beq_eq_false_iff_ne.2 h10
     simp only[e,cond_false]
     exact(decide_eq_false (fun q=>h10 q.1)).symm
   simp only[ZJ hlt,cond_true,Zw hlt,ze,Option.bind_some,hprev,hpv]
   by_cases hc:x[i]=10∧pv13 x i=true
   ·rw[decide_eq_true hc,cond_true,if_pos hc,zh,List.append_nil,Zb hlt (by unfold big;omega)]
   ·have hp:=zAN (a:=a) (c:=x[i]) (i:=(i:Int)) hal
    simp only[ze]at hp
    rw[decide_eq_false hc,cond_false,hp,zh,if_neg hc,Zb hlt (by unfold big;omega)]
  ·rw[←he,List.drop_eq_getElem_cons hlt,clR,List.append_assoc]
   congr 3
   show(x[i]? ==some 13)=_
   rw[List.getElem?_eq_getElem hlt]
   rfl
  ·simp only[Int.toNat_natCast];omega
 ·refine .inr (.inl ⟨a,?_,?_⟩)
  ·simp only[Z6,cond_false]
  ·rw[List.drop_length,clR,List.append_nil]at he
   rw[he]
theorem zvE{x:Str}(hx:x.length≤3000∨4000<x.length):zcx x=some (qY x):=by
 unfold zcx zfd qY
 by_cases hlong:4000<x.length
 ·rw[if_pos hlong,decide_eq_true (show(x.length:Int)>4000 by omega)]
  rfl
 ·have h3:x.length≤3000:=by omega
  have hc:=zlm x
  obtain⟨sp,hcut⟩:=zC7 (s:=Proofs.Cl.cleanS x) (by omega)
  rw[if_neg hlong,decide_eq_false (show¬(x.length:Int)>4000 by omega)]
  simp only[cond_false,ztz h3,ze,Option.bind_some,hcut]
  rw[show((0:Int) != 0)=false from rfl,cond_false]
  by_cases hm:1500<(zbK (Proofs.Cl.cleanS x)).length
  ·rw[if_pos hm,decide_eq_true (show((zbK (Proofs.Cl.cleanS x)).length:Int)>1500 by omega)]
   rfl
  ·rw[if_neg hm,decide_eq_false (show¬((zbK (Proofs.Cl.cleanS x)).length:Int)>1500 by omega)]
   rfl
end Go.Lv.VT

namespace Go.Lv.VT
set_option maxRecDepth 100000
theorem zhp{α:Type}(l:List α):((l.length:Int)==0)=l.isEmpty:=by
 cases l with
 |nil=>rfl
 |cons a l=>exact beq_eq_false_iff_ne.2 (by simp only[List.length_cons];omega)
theorem zfC(v:zb):(⟨v.token,v.list⟩:zb)=v:=by cases v;rfl
def znz(x:Str):Bool:= !(x==[])&&(decide (x.length≤64)&&(zat x&&(bif List.isPrefixOf [45,45] x then !(x==[45,45])else lowS x==x)))
theorem zo7{x:Str}(h:x.length≤big):zes x=some (znz x):=by
 have e:decide ((x.length:Int)>64)= !decide (x.length≤64):=zwQ _ 64
 have e1:decide (Lib.indexByte x (0:Int).toNat.toUInt8≥0)= !zat x:=zw1 x
 have ec:=zqH x (lowS x)
 unfold zes znz
 simp only[zfH,ZW,ze,Option.bind_some,zac,zgl h,e,ec]
 cases x==[]<;>cases decide (x.length≤64)<;>try rfl
 simp only[cond_true,cond_false,Bool.not_true,Bool.not_false,Bool.true_and,Bool.or_false,e1]
 cases zat x<;>cases List.isPrefixOf [45,45] x<;>rfl
theorem zpZ(x:Str):(bif decide ((x.length:Int)≥2)then List.take 2 x==[45,45]else false)=List.isPrefixOf [45,45] x:=by
 cases x with
 |nil=>rfl
 |cons a x=>
  cases x with
  |nil=>show(bif decide _ then _ else _)=((45==a)&&false);rw[Bool.and_false];rfl
  |cons b x=>
   have:decide ((((a::b::x:Str)).length:Int)≥2)=true:=decide_eq_true (by simp only[List.length_cons];omega)
   rw[this]
   show((a==45)&&((b==45)&&true))=((45==a)&&((45==b)&&true))
   rw[Bool.beq_comm (a:=a),Bool.beq_comm (a:=b)]
theorem zuu{x:Str}(h:List.isPrefixOf [45,45] x=true):decide ((x.length:Int)>2)= !(x==[45,45]):=by
 obtain⟨t,rfl⟩:=List.isPrefixOf_iff_prefix.1 h
 cases t with
 |nil=>rfl
 |cons a t=>
  have:decide ((([45,45]++a::t:Str).length:Int)>2)=true:=decide_eq_true (by simp only[List.length_append,List.length_cons];omega)
  rw[this];rfl
theorem znS{x:Str}(h:x.length≤big):zdH x=some (znz x):=by
 have e:decide ((x.length:Int)>64)= !decide (x.length≤64):=zwQ _ 64
 have en:decide ((x.length:Int)<1)=(x==[]):=by cases x with
  |nil=>rfl
  |cons a x=>exact decide_eq_false (by simp only[List.length_cons];omega)
 have ec:=zqH x (lowS x)
 have hk:(need (decide ((2:Int)≤(x.length:Int))|| !(decide ((x.length:Int)≥2)))<|
   bif bif decide ((x.length:Int)≥2)then List.take 2 x==[45,45]else false then some (decide ((x.length:Int)>2))else ze (ZR x) fun y4=>some (x==y4))=some (bif List.isPrefixOf [45,45] x then !(x==[45,45])else lowS x==x):=by
  have e2:(decide ((2:Int)≤(x.length:Int))|| !(decide ((x.length:Int)≥2)))=true:=by
   show(decide _|| !decide ((2:Int)≤_))=true
   cases decide ((2:Int)≤(x.length:Int))<;>rfl
  rw[e2,Ze,zpZ]
  cases hp:List.isPrefixOf [45,45] x with
  |true=>rw[cond_true,cond_true,zuu hp]
  |false=>simp only[cond_false,ziv h,ze,Option.bind_some,ec]
 unfold zdH znz
 rw[hk]
 have hl: ∀b:Bool,zX (fun(s1:Int)=>bif decide (s1<(x.length:Int))then
    ze (geti x s1) fun y2=>bif (y2.toNat:Int)==0 then some (LO.ret false)else some (LO.again (w64 (s1+1)))
   else some (LO.out ()):Int→Option (LO (Int) (Unit) _)) 0 (fun _=>some b)=some (zat x&&b):=by
  intro b
  refine(zeC x (fun b=>bif (!(b==0))then none else some false) () (fun i hi=> ?_) ?_).trans ?_
  ·simp only[ZJ hi,cond_true,Zw hi,ze,Option.bind_some,byte_zero,Zb hi h]
   cases x[i]==0<;>rfl
  ·simp only[Z6,cond_false]
  ·rw[zkq]
   unfold zat
   cases x.all (fun b=> !(b==0))<;>rfl
 rw[hl,e,en]
 cases x==[]<;>cases decide (x.length≤64)<;>rfl
def clK(v:zb):Bool:=v.token.kind==20||(v.token.kind==22||v.token.kind==24)
mutual
def clV:zb→Bool
 |⟨t,l⟩=>clK ⟨t,l⟩||clL l
def clL:List zb→Bool
 |[]=>false
 |v::r=>clV v||clL r
end
theorem zAh(v:zb):clV v=(clK v||clL v.list):=by obtain⟨t,l⟩:=v;rw[clV]
theorem zwg(l:List zb):clL l=l.any clV:=by
 induction l with
 |nil=>rw[clL];rfl
 |cons v l ih=>rw[clL,ih];rfl
theorem zlt{l:List zb}(h:szL l≤big):zz l=some (clL l):=by
 refine zaS (fun l=>szL l) (fun l=>szL l≤big) (fun l=>clL l) (fun S l hl hS=> ?_) h
 have hlen:=Qt l
 unfold zcb qf qV
 have:=zt6 (zum (step:=fun(s1:Int)=>
   bif decide (s1<(l.length:Int))then
    ze (geti l s1) fun y2=>
    ze (QY S (⟨y2.token,y2.list⟩:zb)) fun y3=>
    bif y3 then some (LO.ret s1)else some (LO.again (w64 (s1+1)))
   else some (LO.out ())) l clV (by omega) (fun i hi=> ?_) ?_) (zpl _ _)
 ·rw[this,zwg];rfl
 ·have hsz:=zcL (List.getElem_mem hi)
  have hv2:=zcR l[i]
  have hs:=hS l[i].list (by omega) (by omega)
  have:QY S l[i]=some (clV l[i]):=by
   unfold QY ZG
   simp only[zfC,ZW,ze,Option.bind_some,hs,zAh,clK]
   cases l[i].token.kind==20<;>cases l[i].token.kind==22<;>cases l[i].token.kind==24<;>rfl
  simp only[ZJ hi,cond_true,Zw hi,ze,Option.bind_some,zfC,this]
 ·simp only[Z6,cond_false]
theorem zkd{l:List zb}(h:szL l≤big):qd l=some (clL l):=by
 refine zaS (fun l=>szL l) (fun l=>szL l≤big) (fun l=>clL l) (fun S l hl hS=> ?_) h
 have hlen:=Qt l
 unfold zbF
 refine(zeC l (fun v=>bif clV v then some true else none) () (fun i hi=> ?_) ?_).trans ?_
 ·have hsz:=zcL (List.getElem_mem hi)
  have hv2:=zcR l[i]
  have hs:=hS l[i].list (by omega) (by omega)
  simp only[ZJ hi,cond_true,Zw hi,ze,Option.bind_some,zAh,clK,Zb hi (show l.length≤big by omega)]
  cases h1:l[i].token.kind==20<;>cases h2:l[i].token.kind==22<;>cases h3:l[i].token.kind==24<;>
   first|rfl|(simp only[cond_false,Bool.not_false,zn,Option.bind_some,hs,Bool.false_or];cases clL l[i].list<;>rfl)
 ·simp only[Z6,cond_false]
 ·rw[zpa,zwg]
  cases l.any clV<;>rfl
def zq5(l:List zb):Bool:=match l with
 |[]=>false
 |v::r=>isSp v||isSp ((v::r).getLast (by simp))
theorem zu8(t:List zb)(v:zb):zq5 (t++[v])=((match t with|[]=>isSp v|a::_=>isSp a)||isSp v):=by
 cases t with
 |nil=>rfl
 |cons a t=>
  show(isSp a||isSp ((a::(t++[v])).getLast _))=_
  congr 2
  have:(a::(t++[v]))=(a::t)++[v]:=rfl
  simp only[this,List.getLast_append_of_ne_nil,List.getLast_singleton,ne_eq,reduceCtorEq,not_false_eq_true]
theorem zsr(l:List zb):(trimB l).length≤l.length:=(zcG l).length_le
theorem zvP(l:List zb):((trimS l).length==l.length)= !zq5 l:=by
 rcases Qo l with rfl|⟨t,v,rfl⟩
 ·rfl
 ·rw[zu8]
  have hl:(t++[v]).length=t.length+1:=by simp
  cases t with
  |nil=>
   show((trimB (List.dropWhile isSp [v])).length==1)= !(isSp v||isSp v)
   cases hv:isSp v with
   |true=>simp only[List.dropWhile_cons,hv];rfl
   |false=>
    simp only[List.dropWhile_cons,hv]
    have:=zb7 [] v
    rw[hv]at this
    show((trimB [v]).length==1)=true
    rw[show trimB [v]=[v]from this];rfl
  |cons a t=>
   show((trimB (List.dropWhile isSp (a::(t++[v])))).length==_)= !(isSp a||isSp v)
   have hb:=zsr (List.dropWhile isSp (a::(t++[v])))
   cases ha:isSp a with
   |true=>
    simp only[List.dropWhile_cons,ha,if_true]at hb ⊢
    have hd:=(List.dropWhile_sublist isSp (l:=t++[v])).length_le
    rw[Bool.true_or,Bool.not_true,beq_eq_false_iff_ne]
    rw[hl,List.length_cons]
    rw[List.length_append,List.length_singleton]at hd
    omega
   |false=>
    have e:List.dropWhile isSp (a::(t++[v]))=(a::t)++[v]:=by
     rw[List.dropWhile_cons,ha];rfl
    rw[e,zb7]
    cases hv:isSp v with
    |true=>
     have:=zsr (a::t)
     rw[if_pos rfl,Bool.or_true,Bool.not_true,beq_eq_false_iff_ne,hl]
     omega
    |false=>simp
theorem zwI{l:List zb}(h:l.length≤big)(g:Bool)(hg:(l.isEmpty&&g)=false)(k:Bool→Option Int):
  (ze (zo (decide ((l.length:Int)>0)&& !g) (geti l 0) (default:zb)) fun y7=>
   ze (zo (decide ((l.length:Int)>0)&& !g) (ZG ((⟨y7.token,y7.list⟩:zb),13)) (default:Bool)) fun y8=>
   ze (zo (!y8&&(decide ((l.length:Int)>0)&& !g)) (geti l (w64 ((l.length:Int) - 1))) (default:zb)) fun y9=>
   ze (zo (!y8&&(decide ((l.length:Int)>0)&& !g)) (ZG ((⟨y9.token,y9.list⟩:zb),13)) (default:Bool)) fun y10=>
   k (bif decide ((l.length:Int)>0)then bif y8 then true else y10 else false))=(if g=true∧l≠[]then(k (bif decide ((l.length:Int)>0)then bif (default:Bool)then true else(default:Bool)else false))else k (zq5 l)):=by
 cases l with
 |nil=>
  have:decide ((([]:List zb).length:Int)>0)=false:=rfl
  simp only[this,Bool.false_and,zC,ze,Option.bind_some,Bool.and_false,cond_false,ne_eq,not_true_eq_false,and_false,if_false,zq5]
 |cons v r=>
  have e1:decide (((v::r).length:Int)>0)=true:=decide_eq_true (by simp only[List.length_cons];omega)
  have e2:geti (v::r) 0=some v:=rfl
  cases g with
  |true=>simp only[e1,Bool.not_true,Bool.and_false,zC,ze,Option.bind_some,cond_true,ne_eq,reduceCtorEq,not_false_eq_true,and_self,if_true]
  |false=>
   simp only[e1,Bool.not_false,Bool.and_true,zn,ze,Option.bind_some,cond_true,e2,ZG,false_and,if_false,reduceCtorEq]
   have e3:w64 (((v::r).length:Int) - 1)=(r.length:Int):=by
    rw[List.length_cons]at h ⊢
    rw[w64,ZV (by omega) (by unfold big at h;omega)];omega
   have e4:geti (v::r) (r.length:Int)=some ((v::r).getLast (by simp)):=by
    rw[Zw (by simp),List.getLast_eq_getElem]
    simp
   rw[e3,e4]
   simp only[ZW,Option.bind_some,zq5,isSp]
   cases v.token.kind==13<;>rfl
def badV(v:zb):Bool:=v.token.kind==17||(v.token.kind==9&&v.token.text==[33])
def zv6(custom:Bool)(l:List zb):Bool:= !(l.any badV)&&(!(l.isEmpty&& !custom)&& !zq5 l)
def znp(d:Za):Bool:=znz d.name&&(errS d.value==0&&(gluS (tokL d.value)==0&&(!clL d.value&&zv6 (List.isPrefixOf [45,45] d.name) d.value)))
mutual
theorem zzT: ∀(v:zb) (t:zf),t∈tokV v→t.text.length≤szV v∧t.unit.length≤szV v
 |⟨t,l⟩,u,h=>by
  rw[tokV]at h
  rw[szV]
  rcases List.mem_cons.1 h with rfl|h
  ·constructor<;>omega
  ·split at h
   ·cases h
   ·rcases List.mem_append.1 h with h|h
    ·have:=zkP l u h;omega
    ·obtain rfl:=List.mem_singleton.1 h
     exact⟨Nat.zero_le _,Nat.zero_le _⟩
theorem zkP: ∀(l:List zb) (t:zf),t∈tokL l→t.text.length≤szL l∧t.unit.length≤szL l
 |[],_,h=>by rw[tokL]at h;cases h
 |v::r,u,h=>by
  rw[tokL]at h
  rw[szL]
  rcases List.mem_append.1 h with h|h
  ·have:=zzT v u h;omega
  ·have:=zkP r u h;omega
end
theorem zy1{l:List zb}(h:szL l≤big):zda (tokL l)=some (gluS (tokL l)):=
 zpf fun t ht=>by have:=zkP l t ht;omega
theorem zA1{l:List zb}(h:szL l≤big):za1 (tokL l)=some (gluS (tokL l)):=
 znO fun t ht=>by have:=zkP l t ht;omega
theorem zqE{l:List zb}(h:l.length≤big):Zt l=some (l.any badV):=by
 unfold Zt qm
 refine zt6 (zum l badV h (fun i hi=> ?_) ?_) (zpl _ _)
 ·have:zcs l[i]=some (badV l[i]):=by
   unfold zcs zbo ZG badV
   simp only[zfC,ZW,ze,Option.bind_some]
   cases l[i].token.kind==17<;>cases l[i].token.kind==9<;>rfl
  simp only[ZJ hi,cond_true,Zw hi,ze,Option.bind_some,zfC,this]
 ·simp only[Z6,cond_false]
theorem zo6{d:Za}(hv:szL d.value≤big)(hn:d.name.length≤big):zer d=some (bif znp d then 0 else 8):=by
 have hlen:=Qt d.value
 unfold zer znp
 rw[zrD hv]
 simp only[ze,Option.bind_some,zo7 hn]
 cases znz d.name with
 |false=>simp only[Bool.not_false,cond_true,Bool.not_true,zC,Option.bind_some,Bool.false_and,cond_false]
 |true=>
  by_cases he:errS d.value=0
  ·rw[if_pos he]
   have he':(errS d.value==0)=true:=beq_iff_eq.2 he
   have this:((0:Int)==0)=true:=rfl
   simp only[he',this,Bool.not_true,cond_false,Bool.not_false,zn,zy1 hv,Option.bind_some,Bool.true_and,bne]
   cases hg:gluS (tokL d.value)==0 with
   |false=>simp only[Bool.not_false,cond_true,Bool.not_true,zC,Option.bind_some,Bool.false_and,cond_false]
   |true=>
    simp only[Bool.not_true,cond_false,Bool.not_false,zn,zlt hv,Option.bind_some,Bool.true_and]
    cases clL d.value with
    |true=>rfl
    |false=>
     simp only[cond_false,zqE (show d.value.length≤big by omega),Option.bind_some,zv6,Bool.not_false,Bool.true_and]
     cases d.value.any badV with
     |true=>rfl
     |false=>
      simp only[cond_false,zac,ZW,Option.bind_some,zhp,Bool.not_false,Bool.true_and]
      have hp:=zwI (l:=d.value) (by omega) (bif d.value.isEmpty then !(bif d.value.isEmpty then List.isPrefixOf [45,45] d.name else default)else false)
      cases hd:d.value with
      |nil=>
       cases List.isPrefixOf [45,45] d.name<;>rfl
      |cons v r=>
       have hp':=hp (by rw[hd];rfl) (fun b=>bif b then some 8 else some 0)
       rw[hd]at hp'
       simp only[List.isEmpty_cons,cond_false,Bool.false_eq_true,false_and,if_false]at hp'
       simp only[List.isEmpty_cons,cond_false,Bool.false_and,Bool.not_false,Bool.true_and]
       refine Eq.trans hp' ?_
       cases zq5 (v::r)<;>rfl
  ·rw[if_neg he]
   have he':(errS d.value==0)=false:=beq_eq_false_iff_ne.2 he
   simp only[he',bne,Bool.not_true,cond_false,Bool.not_false,cond_true,zC,Option.bind_some,Bool.false_and,Bool.and_false]
theorem zwv{x:Str}(hn:znz x=true):zcz x=some (List.isPrefixOf [45,45] x):=by
 unfold zcz
 have e2:(decide ((2:Int)≤(x.length:Int))|| !(decide ((x.length:Int)>2)))=true:=by
  by_cases h:2≤x.length
  ·rw[decide_eq_true (show(2:Int)≤(x.length:Int) by omega)];rfl
  ·rw[decide_eq_false (show¬((x.length:Int)>2) by omega)];simp
 rw[zD e2]
 have hp:=zpZ x
 cases hpp:List.isPrefixOf [45,45] x with
 |true=>
  rw[hpp]at hp
  have h3:=zuu hpp
  unfold znz at hn
  rw[hpp]at hn
  simp only[cond_true,Bool.and_eq_true]at hn
  rw[hn.2.2.2]at h3
  rw[h3]
  have:decide ((x.length:Int)≥2)=true:=decide_eq_true (by have:=of_decide_eq_true h3;omega)
  rw[this]at hp
  exact congrArg some hp
 |false=>
  rw[hpp]at hp
  cases h3:decide ((x.length:Int)>2)with
  |false=>rfl
  |true=>
   have:decide ((x.length:Int)≥2)=true:=decide_eq_true (by have:=of_decide_eq_true h3;omega)
   rw[this]at hp
   exact congrArg some hp
theorem zBc{α:Type}(a b:List α):((a.length:Int)==(b.length:Int))=(a.length==b.length):=by
 rw[Bool.eq_iff_iff,beq_iff_eq,beq_iff_eq];omega
theorem zmG{x:Str}{l:List zb}(h:szL l≤big)(hn:znz x=true):
  zcA (x,l)=some (errS l==0&&(gluS (tokL l)==0&&(!clL l&&zv6 (List.isPrefixOf [45,45] x) l))):=by
 have hlen:=Qt l
 unfold zcA
 simp only[zmI h,zju h,ze,Option.bind_some,bne,ZW]
 cases he:errS l==0 with
 |false=>simp only[Bool.not_false,cond_true,Bool.not_true,zC,Option.bind_some,Bool.false_and,cond_false]
 |true=>
  simp only[Bool.not_true,cond_false,Bool.not_false,cond_true,zn,zA1 h,Option.bind_some,Bool.true_and]
  cases hg:gluS (tokL l)==0 with
  |false=>simp only[Bool.not_false,cond_true,Bool.not_true,zC,Option.bind_some,Bool.false_and,cond_false]
  |true=>
   simp only[Bool.not_true,cond_false,Bool.not_false,zn,zkd h,Option.bind_some,Bool.true_and]
   cases clL l with
   |true=>rfl
   |false=>
    simp only[cond_false,zb5 h,Option.bind_some,zBc,zvP,zhp,Bool.not_not,Bool.not_false,Bool.true_and,zwv hn,ZW]
    have hl:zX (fun(s7:Int)=>
     bif decide (s7<(l.length:Int))then
      ze (geti l s7) fun y8=>
      bif bif y8.token.kind==17 then true else bif y8.token.kind==9 then y8.token.text==[33]else false then
       some (LO.ret false)
      else
       some (LO.again (w64 (s7+1)))
     else
      some (LO.out ()):Int→Option (LO (Int) (Unit) _)) 0 (fun _=>some true)=some (!(l.any badV)):=by
     refine(zeC l (fun v=>bif badV v then some false else none) () (fun i hi=> ?_) ?_).trans ?_
     ·simp only[ZJ hi,cond_true,Zw hi,ze,Option.bind_some,badV,Zb hi (show l.length≤big by omega)]
      cases l[i].token.kind==17<;>cases l[i].token.kind==9<;>cases l[i].token.text==[33]<;>rfl
     ·simp only[Z6,cond_false]
     ·rw[zpa]
      cases l.any badV<;>rfl
    unfold zv6
    simp only[ze]at hl
    rw[hl]
    cases zq5 l<;>cases l.isEmpty<;>cases List.isPrefixOf [45,45] x<;>cases l.any badV<;>rfl
theorem znR{d:Za}(hv:szL d.value≤big)(hn:d.name.length≤big):zdG d=some (bif znp d then 0 else 8):=by
 unfold zdG znp
 simp only[znS hn,ze,Option.bind_some]
 cases hnd:znz d.name with
 |false=>rfl
 |true=>
  simp only[Bool.not_true,Bool.not_false,zn,zmG hv hnd,Option.bind_some,Bool.true_and]
  cases (errS d.value==0&&(gluS (tokL d.value)==0&&(!clL d.value&&zv6 (List.isPrefixOf [45,45] d.name) d.value)))<;>rfl
end Go.Lv.VT

namespace Go.Lv.VT
set_option maxRecDepth 100000
def zhG(l:List zb):Prop:= ∀t v,l=t++[v]→isSp v=false
def zbN(l:List zb):Prop:= ∀a t,l=a::t→isSp a=false
theorem zhG.suf{a b:List zb}(h:zhG (a++b)):zhG b:=fun t v e=>h (a++t) v (by rw[e,List.append_assoc])
theorem zhG.id{l:List zb}(h:zhG l):trimB l=l:=by
 rcases Qo l with rfl|⟨t,v,rfl⟩
 ·rfl
 ·rw[zb7,h t v rfl];rfl
theorem zsq(l:List zb):zhG (trimB l):=by
 obtain⟨r,_,_,h|⟨t,v,h,hv⟩⟩:=zm9 l
 ·intro t v e;rw[h]at e;simp at e
 ·intro t' v' e
  rw[h]at e
  have:=List.append_inj_right' e rfl
  injection this with e1
  rw[←e1];exact hv
theorem zbN.pre{a b:List zb}(h:zbN (a++b)):zbN a:=fun x t e=>h x (t++b) (by rw[e];rfl)
theorem zbN.id{l:List zb}(h:zbN l):l.dropWhile isSp=l:=by
 cases l with
 |nil=>rfl
 |cons a t=>rw[List.dropWhile_cons,h a t rfl];rfl
theorem zA5(l:List zb):zbN (l.dropWhile isSp):=by
 obtain⟨a,_,_,h⟩:=zi8 l
 exact fun x b e=>h x b e
theorem zt4(l:List zb): ∃a,l=a++l.dropWhile isSp:=by
 obtain⟨a,h,_⟩:=zi8 l
 exact⟨a,h⟩
theorem zm8(l:List zb): ∃r,l=trimB l++r:=by
 obtain⟨r,h,_⟩:=zm9 l
 exact⟨r,h⟩
theorem zzY{l:List zb}(h1:zbN l)(h2:zhG l):trimS l=l:=by
 unfold trimS;rw[h1.id,h2.id]
theorem zoH{l:List zb}(h:zbN l):trimS l=trimB l:=by
 unfold trimS;rw[h.id]
theorem left_eq{l:List zb}:zds l=some (l.dropWhile isSp):=by
 unfold zds ZG
 refine(Qv (r:= .out (l.dropWhile isSp)) (ZM (fun s=>s.dropWhile isSp=l.dropWhile isSp) (fun s=>s.length) _ (fun s hs=> ?_) rfl)).trans ?_
 ·cases s with
  |nil=>exact .inr (.inl ⟨[],by simp,by rw[←hs];rfl⟩)
  |cons v t=>
   have h1:decide (((v::t).length:Int)>0)=true:=by rw[zjs];simp
   have h2:geti (v::t) 0=some v:=rfl
   have h3:decide ((1:Int)≤((v::t).length:Int))=true:=by simp;omega
   rw[List.dropWhile_cons]at hs
   cases hv:isSp v with
   |true=>
    rw[hv]at hs
    unfold isSp at hv
    refine .inl ⟨t,?_,by simpa using hs,by simp⟩
    simp only[h1,h2,h3,zn,ze,Option.bind_some,hv,cond_true,Ze]
    rfl
   |false=>
    rw[hv]at hs
    unfold isSp at hv
    refine .inr (.inl ⟨v::t,?_,by rw[←hs];rfl⟩)
    simp only[h1,h2,zn,ze,Option.bind_some,hv,cond_true,cond_false]
 ·rw[zlJ]
theorem right_eq{d:List zb}(hd:szL d≤big):zaq d=some (trimB d):=by
 unfold zaq ZG
 refine(Qv (r:= .out (trimB d)) (ZM (fun s=>trimB s=trimB d∧szL s≤big) (fun s=>s.length) _ (fun s hs=> ?_) ⟨rfl,hd⟩)).trans ?_
 ·rcases Qo s with rfl|⟨t,v,rfl⟩
  ·exact .inr (.inl ⟨[],by simp,by rw[←hs.1];rfl⟩)
  ·have hlen:=Qt (t++[v])
   have hl2:(t++[v]).length=t.length+1:=by simp
   have hb:=hs.2
   unfold big at hb
   have h1:decide (((t++[v]).length:Int)>0)=true:=by rw[zjs];simp
   have h4:w64 (((t++[v]).length:Int) - 1)=(t.length:Int):=by rw[w64,ZV (by omega) (by omega)];omega
   have h2:geti (t++[v]) (t.length:Int)=some v:=by rw[Zw (by omega)];simp
   have h3:(decide ((0:Int)≤(t.length:Int))&&decide ((t.length:Int)≤((t++[v]).length:Int)))=true:=by simp;omega
   have hs1:=hs.1
   rw[zb7]at hs1
   cases hv:isSp v with
   |true=>
    rw[if_pos hv]at hs1
    unfold isSp at hv
    refine .inl ⟨t,?_,⟨hs1,Nat.le_trans (zbJ (List.sublist_append_left t [v])) hs.2⟩,by simp⟩
    simp only[h1,h4,h2,h3,zn,ze,Option.bind_some,hv,cond_true,Ze,Int.toNat_natCast]
    simp
   |false=>
    rw[if_neg (by rw[hv];simp)]at hs1
    unfold isSp at hv
    refine .inr (.inl ⟨t++[v],?_,by rw[←hs1]⟩)
    simp only[h1,h4,h2,zn,ze,Option.bind_some,hv,cond_true,cond_false]
 ·rw[zlJ]
def zuV(v:zb):Bool:=v.token.kind==9&&v.token.text==[33]
theorem zAH(v:zb):zbo v=some (zuV v):=by
 unfold zbo ZG zuV
 simp only[ze,Option.bind_some]
 cases v.token.kind==9<;>rfl
def impW:Str:=[105,109,112,111,114,116,97,110,116]
def endV(l:List zb):Option (List zb×zb):=match l.reverse with
 |[]=>none
 |v::t=>some (t.reverse,v)
theorem zfB(t:List zb)(v:zb):endV (t++[v])=some (t,v):=by
 unfold endV
 rw[List.reverse_append]
 simp
def zfJ(v:List zb):List zb×Bool:=match endV v with
 |none=>(v,false)
 |some (t,z)=>bif !t.isEmpty&&(z.token.kind==1&&lowS z.token.text==impW)then
   (match endV (trimB t)with
   |none=>(v,false)
   |some (u,b)=>bif zuV b then(trimB u,true)else(v,false))
  else(v,false)
theorem zps{t:List zb}{v:zb}(h:szL (t++[v])≤big):w64 (((t++[v]).length:Int) - 1)=(t.length:Int):=by
 have hlen:=Qt (t++[v])
 have hl2:(t++[v]).length=t.length+1:=by simp
 unfold big at h
 rw[w64,ZV (by omega) (by omega)];omega
theorem zpk(t:List zb)(v:zb):geti (t++[v]) (t.length:Int)=some v:=by rw[Zw (by simp)];simp
theorem zpz(t:List zb)(v:zb):(decide ((0:Int)≤(t.length:Int))&&decide ((t.length:Int)≤((t++[v]).length:Int)))=true:=by simp;omega
theorem zqj(t:List zb)(v:zb):List.take t.length (t++[v])=t:=by simp
theorem zxh:lowS [105,109,112,111,114,116,97,110,116]=impW:=by decide+kernel
theorem zqi{t:List zb}{v:zb}(h:szL (t++[v])≤big):szL t≤big∧v.token.text.length≤big:=by
 rw[zgp,szL,zcR]at h
 omega
theorem zut(t:List zb):decide ((t.length:Int)>0)= !t.isEmpty:=by
 cases t with
 |nil=>rfl
 |cons a t=>exact decide_eq_true (by simp only[List.length_cons];omega)
abbrev MK:=LX (List zb×(Str×Bool)×(Str×Bool)) (Za×Bool)
theorem zxm{v:List zb}{nm:Str}(hv:szL v≤big):(
  ze (zo (decide (w64 ((v.length:Int) - 1)>0)) (geti v (w64 ((v.length:Int) - 1))) (default:zb)) fun y13=>
  ze (zo (decide (w64 ((v.length:Int) - 1)>0)) (ZG ((⟨y13.token,y13.list⟩:zb),1)) (default:Bool)) fun y14=>
  ze (zo (bif decide (w64 ((v.length:Int) - 1)>0)then y14 else false) (geti v (w64 ((v.length:Int) - 1))) (default:zb)) fun y15=>
  ze (zo (bif decide (w64 ((v.length:Int) - 1)>0)then y14 else false) (Qm (y15.token.text,[105,109,112,111,114,116,97,110,116])) (default:Bool)) fun y16=>
  bif bif bif decide (w64 ((v.length:Int) - 1)>0)then y14 else false then y16 else false then
   need (decide (0≤w64 ((v.length:Int) - 1))&&decide (w64 ((v.length:Int) - 1)≤(v.length:Int)))<|
   ze (zaq (List.take (w64 ((v.length:Int) - 1)).toNat v)) fun y17=>
   ze (zo (decide ((y17.length:Int)>0)) (geti y17 (w64 ((y17.length:Int) - 1))) (default:zb)) fun y18=>
   ze (zo (decide ((y17.length:Int)>0)) (zbo (⟨y18.token,y18.list⟩:zb)) (default:Bool)) fun y19=>
   bif bif decide ((y17.length:Int)>0)then y19 else false then
    need (decide (0≤w64 ((y17.length:Int) - 1))&&decide (w64 ((y17.length:Int) - 1)≤(y17.length:Int)))<|
    ze (zaq (List.take (w64 ((y17.length:Int) - 1)).toNat y17)) fun y20=>
    some (LX.out (y20,(([]:Str),false),(nm,true)))
   else
    some (LX.out (v,(([]:Str),false),(nm,false)))
  else
   some (LX.out (v,(([]:Str),false),(nm,false))))=(some (LX.out ((zfJ v).1,(([]:Str),false),(nm,(zfJ v).2))):Option MK):=by
 rcases Qo v with rfl|⟨t,z,rfl⟩
 ·rfl
 ·obtain⟨ht,hz⟩:=zqi hv
  unfold zfJ
  rw[zfB]
  simp only[zps hv,zut]
  cases he:t.isEmpty with
  |true=>simp only[Bool.not_true,zC,ze,Option.bind_some,cond_false,Bool.false_and]
  |false=>
   simp only[Bool.not_false,zn,zpk,ZG,ze,Option.bind_some,cond_true,Bool.true_and]
   cases hk:z.token.kind==1 with
   |false=>simp only[zC,Option.bind_some,cond_false,Bool.false_and]
   |true=>
    simp only[zn,Option.bind_some,zjt hz (show([105,109,112,111,114,116,97,110,116]:Str).length≤big by decide),zxh,cond_true,Bool.true_and]
    cases ha:lowS z.token.text==impW with
    |false=>simp only[cond_false]
    |true=>
     simp only[cond_true,zpz,Ze,Int.toNat_natCast,zqj,right_eq ht,Option.bind_some,zut]
     have hw:szL (trimB t)≤big:=Nat.le_trans (zbJ (zcG t)) ht
     obtain⟨w,hwd⟩: ∃w,trimB t=w:=⟨_,rfl⟩
     rw[hwd]at hw
     simp only[hwd]
     rcases Qo w with rfl|⟨u,b,rfl⟩
     ·rfl
     ·have hne:(u++[b]).isEmpty=false:=by cases u<;>rfl
      rw[zfB]
      simp only[hne,Bool.not_false,zn,zps hw,zpk,Option.bind_some,zfC,zAH,cond_true]
      cases hb:zuV b with
      |false=>simp only[cond_false]
      |true=>simp only[cond_true,zpz,Ze,Int.toNat_natCast,zqj,right_eq (zqi hw).1,Option.bind_some]
theorem zzg{v:List zb}(hv:szL v≤big)(hh:zbN v):zcB v=some (zfJ v):=by
 unfold zcB
 rcases Qo v with rfl|⟨t,z,rfl⟩
 ·rfl
 ·obtain⟨ht,hz⟩:=zqi hv
  have hht:zbN t:=hh.pre
  unfold zfJ
  rw[zfB]
  have hlt:decide ((t.length:Int)<1)=t.isEmpty:=by
   cases t with
   |nil=>rfl
   |cons a t=>exact decide_eq_false (by simp only[List.length_cons];omega)
  simp only[zps hv,hlt]
  cases he:t.isEmpty with
  |true=>simp only[Bool.not_true,zC,ze,Option.bind_some,cond_true,cond_false,Bool.false_and]
  |false=>
   simp only[Bool.not_false,zn,zpk,ze,Option.bind_some,cond_false,Bool.true_and,bne]
   cases hk:z.token.kind==1 with
   |false=>simp only[Bool.not_false,Bool.not_true,zC,Option.bind_some,cond_true,cond_false,Bool.false_and]
   |true=>
    simp only[Bool.not_true,Bool.not_false,zn,Option.bind_some,zmH hz (show([105,109,112,111,114,116,97,110,116]:Str).length≤big by decide),zxh,cond_false,Bool.true_and]
    cases ha:lowS z.token.text==impW with
    |false=>simp only[Bool.not_false,cond_true,cond_false]
    |true=>
     simp only[Bool.not_true,cond_false,cond_true,zpz,Ze,Int.toNat_natCast,zqj,zb5 ht,zoH hht,Option.bind_some,zhp]
     have hw:szL (trimB t)≤big:=Nat.le_trans (zbJ (zcG t)) ht
     have hhw:zbN (trimB t):=by
      obtain⟨r,hr⟩:=zm8 t
      rw[hr]at hht
      exact hht.pre
     obtain⟨w,hwd⟩: ∃w,trimB t=w:=⟨_,rfl⟩
     rw[hwd]at hw hhw
     simp only[hwd]
     rcases Qo w with rfl|⟨u,b,rfl⟩
     ·rfl
     ·have hne:(u++[b]).isEmpty=false:=by cases u<;>rfl
      rw[zfB]
      simp only[hne,Bool.not_false,zn,zps hw,zpk,Option.bind_some,cond_false,zuV]
      cases hb:b.token.kind==9 with
      |false=>simp only[Bool.not_false,Bool.not_true,zC,Option.bind_some,cond_true,cond_false,Bool.false_and]
      |true=>
       simp only[Bool.not_true,Bool.not_false,zn,Option.bind_some,cond_false,Bool.true_and]
       cases hc:b.token.text==[33]with
       |false=>simp only[Bool.not_false,cond_true,cond_false]
       |true=>simp only[Bool.not_true,cond_false,cond_true,zpz,Ze,Int.toNat_natCast,zqj,zb5 (zqi hw).1,zoH (zbN.pre hhw),Option.bind_some]
def nmD(s:Str):Str:=bif List.isPrefixOf [45,45] s then s else lowS s
def noD:Za×Bool:=(⟨[],[],false⟩,false)
def oneS(x:List zb):Za×Bool:=match trimS x with
 |[]=>noD
 |n::r=>bif n.token.kind==1 then
   (match r.dropWhile isSp with
   |[]=>noD
   |c::q=>bif c.token.kind==16 then
     (bif znp ⟨nmD n.token.text,(zfJ (q.dropWhile isSp)).1,(zfJ (q.dropWhile isSp)).2⟩then(⟨nmD n.token.text,(zfJ (q.dropWhile isSp)).1,(zfJ (q.dropWhile isSp)).2⟩,true)else noD)
    else noD)
  else noD
theorem zq4{v:List zb}{t:List zb}{z:zb}(h:endV v=some (t,z)):v=t++[z]:=by
 rcases Qo v with rfl|⟨t',z',rfl⟩
 ·cases h
 ·rw[zfB]at h;cases h;rfl
theorem zte{v:List zb}(h1:zbN v)(h2:zhG v):zbN (zfJ v).1∧zhG (zfJ v).1∧(zfJ v).1.Sublist v:=by
 unfold zfJ
 split
 ·exact⟨h1,h2,List.Sublist.refl _⟩
 ·rename_i t z he
  have hv:=zq4 he
  cases !t.isEmpty&&(z.token.kind==1&&lowS z.token.text==impW)with
  |false=>exact⟨h1,h2,List.Sublist.refl _⟩
  |true=>
   rw[cond_true]
   split
   ·exact⟨h1,h2,List.Sublist.refl _⟩
   ·rename_i u b hb
    have hw:=zq4 hb
    cases zuV b with
    |false=>exact⟨h1,h2,List.Sublist.refl _⟩
    |true=>
     rw[cond_true]
     have hht:zbN t:=by rw[hv]at h1;exact h1.pre
     have hhw:zbN (trimB t):=by
      obtain⟨r,hr⟩:=zm8 t
      rw[hr]at hht
      exact hht.pre
     have hhu:zbN u:=by rw[hw]at hhw;exact hhw.pre
     refine⟨?_,zsq u,?_⟩
     ·obtain⟨r,hr⟩:=zm8 u
      rw[hr]at hhu
      exact hhu.pre
     ·refine(zcG u).trans ((List.sublist_append_left u [b]).trans ?_)
      rw[←hw]
      refine(zcG t).trans ?_
      rw[hv]
      exact List.sublist_append_left t [z]
theorem zBe(s:Str):(lowS s).length=s.length:=by unfold lowS;simp
theorem zAm(s:Str):(nmD s).length=s.length:=by
 unfold nmD
 cases List.isPrefixOf [45,45] s
 ·exact zBe s
 ·rfl
theorem zkx(n:zb)(r:List zb):(((n::r).length:Int)==0)=false:=beq_eq_false_iff_ne.2 (by simp only[List.length_cons];omega)
theorem zur(n:zb)(r:List zb):decide ((1:Int)≤((n::r).length:Int))=true:=decide_eq_true (by simp only[List.length_cons];omega)
theorem zks(n:zb)(r:List zb):geti (n::r) 0=some n:=rfl
theorem zjw{x:List zb}(h:szL x≤big){n:zb}{r:List zb}(hy:trimS x=n::r):n.token.text.length≤big∧szL r≤big∧zhG r∧
  ∀{c:zb} {q:List zb},r.dropWhile isSp=c::q→szL (q.dropWhile isSp)≤big∧zbN (q.dropWhile isSp)∧zhG (q.dropWhile isSp):=by
 have hsz:=zzZ x
 have he:zhG (trimS x):=zsq _
 rw[hy]at hsz he
 rw[szL,zcR]at hsz
 have her:zhG r:=he.suf (a:=[n])
 refine⟨by omega,by omega,her,fun {c q} hq=> ?_⟩
 obtain⟨a,ha⟩:=zt4 r
 rw[hq]at ha
 obtain⟨b,hb⟩:=zt4 q
 refine⟨?_,zA5 q,?_⟩
 ·have h1:=zbJ (List.dropWhile_sublist isSp (l:=q))
  rw[ha,zgp,szL]at hsz
  omega
 ·rw[ha,hb]at her
  exact zhG.suf (a:=a++c::b) (by rw[List.append_assoc];exact her)
theorem zlu{x:List zb}(h:szL x≤big):zeW x=some (oneS x):=by
 have hdw:szL (x.dropWhile isSp)≤big:=Nat.le_trans (zbJ (List.dropWhile_sublist _)) h
 unfold zeW oneS
 simp only[left_eq,right_eq hdw,ze,Option.bind_some,show trimB (x.dropWhile isSp)=trimS x from rfl]
 cases hy:trimS x with
 |nil=>rfl
 |cons n r=>
  obtain⟨hn,hr,_,hp⟩:=zjw h hy
  simp only[zkx,Bool.not_false,zn,zks,Option.bind_some,ZG,cond_false]
  cases hk:n.token.kind==1 with
  |false=>simp only[Bool.not_false,cond_true,cond_false];rfl
  |true=>
   simp only[Bool.not_true,cond_false,cond_true]
   have hj:((strings_HasPrefix (n.token.text,[45,45])).bind fun y6=>bif !y6 then(qM n.token.text).bind fun y7=>some (LX.out (n::r,(([]:Str),false),(y7,false)))else some (LX.out (n::r,([],false),(n.token.text,false))))=(some (LX.out (n::r,([],false),(nmD n.token.text,false))):Option MK):=by
    rw[zac,Option.bind_some,zgl hn]
    unfold nmD
    cases List.isPrefixOf [45,45] n.token.text<;>rfl
   rw[hj,zh]
   simp only[zur,Ze,show List.drop 1 (n::r)=r from rfl]
   cases hq:r.dropWhile isSp with
   |nil=>rfl
   |cons c q=>
    obtain⟨hv,hh,he⟩:=hp hq
    simp only[zkx,Bool.not_false,zn,zks,Option.bind_some,cond_false]
    cases hc:c.token.kind==16 with
    |false=>simp only[Bool.not_false,cond_true,cond_false];rfl
    |true=>
     simp only[Bool.not_true,cond_false,cond_true,zur,Ze,show List.drop 1 (c::q)=q from rfl]
     obtain⟨v,hvd⟩: ∃v,q.dropWhile isSp=v:=⟨_,rfl⟩
     rw[hvd]at hv hh he
     simp only[hvd]
     have hm:=zxm (nm:=nmD n.token.text) hv
     simp only[ze,ZG]at hm
     rw[hm,zh]
     obtain⟨h1,h2,h3⟩:=zte hh he
     obtain⟨w,hw⟩: ∃w,zfJ v=w:=⟨_,rfl⟩
     rw[hw]at h1 h2 h3
     simp only[hw]
     have hws:szL w.1≤big:=Nat.le_trans (zbJ h3) hv
     rw[zxo hws,Option.bind_some]
     by_cases he0:errS w.1=0
     ·rw[if_pos he0,zzY h1 h2]
      simp only[show((0:Int) != 0)=false from rfl,Bool.not_false,zn,cond_false]
      rw[zo6 (d:=⟨nmD n.token.text,w.1,w.2⟩) hws (by rw[zAm];exact hn),Option.bind_some]
      cases znp ⟨nmD n.token.text,w.1,w.2⟩<;>rfl
     ·have he1:(errS w.1 != 0)=true:=bne_iff_ne.2 he0
      have he2:znp ⟨nmD n.token.text,w.1,w.2⟩=false:=by
       unfold znp
       simp only[show(errS w.1==0)=false from beq_eq_false_iff_ne.2 he0,Bool.false_and,Bool.and_false]
      rw[if_neg he0,he2]
      simp only[he1,Bool.not_true,zC,Option.bind_some,cond_true,cond_false]
      rfl
theorem zoA{x:List zb}(h:szL x≤big):za2 x=some (oneS x):=by
 unfold za2 oneS
 simp only[zb5 h,ze,Option.bind_some]
 cases hy:trimS x with
 |nil=>rfl
 |cons n r=>
  obtain⟨hn,hr,her,hp⟩:=zjw h hy
  simp only[zkx,Bool.not_false,zn,zks,Option.bind_some,cond_false,bne]
  cases hk:n.token.kind==1 with
  |false=>simp only[Bool.not_false,cond_true,cond_false];rfl
  |true=>
   simp only[Bool.not_true,cond_false,cond_true]
   have hj:(need (decide (2≤(n.token.text.length:Int))|| !(!(decide ((n.token.text.length:Int)<2))))<|
     bif bif decide ((n.token.text.length:Int)<2)then true else !(List.take 2 n.token.text==[45,45])then
      (ZR n.token.text).bind fun y4=>some (LX.out (n::r,(([]:Str),false),(y4,false)))
     else some (LX.out (n::r,([],false),(n.token.text,false))))=(some (LX.out (n::r,([],false),(nmD n.token.text,false))):Option MK):=by
    have hpt:=zpZ n.token.text
    rw[ziv hn]
    unfold nmD
    rw[←hpt]
    by_cases h2:n.token.text.length<2
    ·rw[decide_eq_true (show(n.token.text.length:Int)<2 by omega),decide_eq_false (show¬(n.token.text.length:Int)≥2 by omega),Bool.not_true,Bool.not_false,Bool.or_true]
     rfl
    ·rw[decide_eq_false (show¬(n.token.text.length:Int)<2 by omega),decide_eq_true (show(2:Int)≤(n.token.text.length:Int) by omega),Bool.true_or]
     cases List.take 2 n.token.text==[45,45]<;>rfl
   rw[hj,zh]
   simp only[zur,Ze,show List.drop 1 (n::r)=r from rfl,zb5 hr,Option.bind_some]
   have hrt:trimS r=r.dropWhile isSp:=by
    unfold trimS
    obtain⟨a,ha⟩:=zt4 r
    rw[ha]at her
    exact her.suf.id
   rw[hrt]
   cases hq:r.dropWhile isSp with
   |nil=>rfl
   |cons c q=>
    obtain⟨hv,hh,he⟩:=hp hq
    simp only[zkx,Bool.not_false,zn,zks,Option.bind_some,cond_false]
    cases hc:c.token.kind==16 with
    |false=>simp only[Bool.not_false,cond_true,cond_false];rfl
    |true=>
     have hqs:szL q≤big:=by
      obtain⟨a,ha⟩:=zt4 r
      rw[hq]at ha
      rw[ha,zgp,szL]at hr
      omega
     simp only[Bool.not_true,cond_false,cond_true,zur,Ze,show List.drop 1 (c::q)=q from rfl,zb5 hqs,Option.bind_some]
     have hqt:trimS q=q.dropWhile isSp:=he.id
     rw[hqt]
     obtain⟨v,hvd⟩: ∃v,q.dropWhile isSp=v:=⟨_,rfl⟩
     rw[hvd]at hv hh he
     simp only[hvd]
     obtain⟨h1,h2,h3⟩:=zte hh he
     rw[zzg hv hh,Option.bind_some]
     obtain⟨w,hw⟩: ∃w,zfJ v=w:=⟨_,rfl⟩
     rw[hw]at h1 h2 h3
     simp only[hw]
     have hws:szL w.1≤big:=Nat.le_trans (zbJ h3) hv
     rw[znR (d:=⟨nmD n.token.text,w.1,w.2⟩) hws (by rw[zAm];exact hn),Option.bind_some]
     cases znp ⟨nmD n.token.text,w.1,w.2⟩<;>rfl
end Go.Lv.VT

namespace Go.Lv.VT
set_option maxRecDepth 100000
def zkg(a:List Za)(p:List zb):List Za:=bif (oneS p).2&&decide (a.length<32)then a++[(oneS p).1]else a
def QR(ps:List (List zb)):List Za:=ps.foldl zkg []
theorem zzN{a:List Za}{p:List zb}(h:a.length≤32):(zkg a p).length≤32:=by
 unfold zkg
 cases hb:(oneS p).2&&decide (a.length<32)with
 |false=>exact h
 |true=>
  rw[Bool.and_eq_true,decide_eq_true_eq]at hb
  rw[cond_true,List.length_append,List.length_singleton];omega
theorem zsm: ∀(ps:List (List zb)) {a:List Za},32≤a.length→ps.foldl zkg a=a
 |[],_,_=>rfl
 |p::ps,a,h=>by
  have:zkg a p=a:=by
   unfold zkg
   rw[decide_eq_false (by omega),Bool.and_false];rfl
  rw[List.foldl_cons,this]
  exact zsm ps h
theorem zrb{ps:List (List zb)}{i:Nat}(h:i<ps.length):QR (ps.take (i+1))=zkg (QR (ps.take i)) ps[i]:=by
 unfold QR
 rw[List.take_succ_eq_append_getElem h,List.foldl_append]
 rfl
theorem zlv(ps:List (List zb)):(QR ps).length≤32:=by
 unfold QR
 have key: ∀(ps:List (List zb)) (a:List Za),a.length≤32→(ps.foldl zkg a).length≤32:=by
  intro ps
  induction ps with
  |nil=>intro a h;exact h
  |cons p ps ih=>intro a h;exact ih _ (zzN h)
 exact key ps [] (Nat.zero_le _)
theorem zir{x:List zb}(h:szL x<big):(zhg 17 x).length≤big∧ ∀p∈zhg 17 x,szL p≤big:=by
 have h1:=zyO 17 x
 have h2:=zyb (zhg 17 x)
 exact⟨by omega,fun p hp=>by have:=zyc hp;omega⟩
theorem ap48{n:Nat}(h:n≤32):Zv n 1 48=true:=zb8 (by omega)
theorem zBQ{x:List zb}(h:szL x<big):zhj x=some (if errS x=0 then(QR (zhg 17 x),0)else([],errS x)):=by
 unfold zhj
 rw[zvs (k:=17) (by omega)]
 simp only[ze,Option.bind_some]
 by_cases he:errS x=0
 ·rw[if_pos he,if_neg (by omega),if_pos he]
  obtain⟨hl,hp⟩:=zir h
  simp only[show((0:Int) != 0)=false from rfl,cond_false]
  generalize zhg 17 x=ps at*
  refine zae (fun z=> ∃i:Nat,z=((i:Int),QR (ps.take i))∧i≤ps.length) (fun z=>ps.length - z.1.toNat) _ ?_ ⟨0,rfl,Nat.zero_le _⟩
  rintro _ ⟨i,rfl,hi⟩
  rcases Nat.lt_or_ge i ps.length with hh|hh
  ·refine .inl ⟨_,?_,⟨i+1,rfl,hh⟩,by simp only[Int.toNat_natCast];omega⟩
   have hq:=zlv (ps.take i)
   rw[zrb hh]
   simp only[ZJ hh,cond_true,Zw hh,Option.bind_some,zlu (hp _ (List.getElem_mem hh))]
   obtain⟨a,ha⟩: ∃a,QR (ps.take i)=a:=⟨_,rfl⟩
   rw[ha]at hq ⊢
   unfold zkg
   have hd:decide ((a.length:Int)<32)=decide (a.length<32):=by
    by_cases q:a.length<32
    ·rw[decide_eq_true q,decide_eq_true (by omega)]
    ·rw[decide_eq_false q,decide_eq_false (by omega)]
   rw[hd,zD (ap48 hq)]
   have hw:w64 ((i:Int)+1)=((i+1:Nat):Int):=Zb hh hl
   cases (oneS ps[i]).2<;>cases decide (a.length<32)<;>simp only[cond_true,cond_false,zh,hw,Bool.true_and,Bool.false_and]
  ·have:i=ps.length:=by omega
   subst this
   refine .inr (.inl ⟨QR ps,?_,rfl⟩)
   simp only[Z6,cond_false,List.take_length]
 ·rw[if_neg he,if_neg he]
  simp only[bne_iff_ne.2 he,cond_true]
theorem zz7{x:List zb}(h:szL x<big):zdF x=some (QR (zhg 17 x)):=by
 unfold zdF
 rw[zxW (k:=17) (by omega)]
 simp only[ze,Option.bind_some]
 obtain⟨hl,hp⟩:=zir h
 generalize zhg 17 x=ps at*
 refine zae (fun z=> ∃i:Nat,z=((i:Int),QR (ps.take i))∧i≤ps.length) (fun z=>ps.length - z.1.toNat) _ ?_ ⟨0,rfl,Nat.zero_le _⟩
 rintro _ ⟨i,rfl,hi⟩
 have hq:=zlv (ps.take i)
 rcases Nat.lt_or_ge i ps.length with hh|hh
 ·by_cases hf:(QR (ps.take i)).length<32
  ·refine .inl ⟨_,?_,⟨i+1,rfl,hh⟩,by simp only[Int.toNat_natCast];omega⟩
   rw[zrb hh]
   simp only[ZJ hh,cond_true,Zw hh,Option.bind_some,zoA (hp _ (List.getElem_mem hh))]
   obtain⟨a,ha⟩: ∃a,QR (ps.take i)=a:=⟨_,rfl⟩
   rw[ha]at hq hf ⊢
   unfold zkg
   rw[decide_eq_true (show(a.length:Int)<32 by omega),decide_eq_true hf,cond_true,zD (ap48 hq)]
   have hw:w64 ((i:Int)+1)=((i+1:Nat):Int):=Zb hh hl
   cases (oneS ps[i]).2<;>simp only[cond_true,cond_false,zh,hw,Bool.true_and,Bool.false_and]
  ·refine .inr (.inl ⟨QR (ps.take i),?_,?_⟩)
   ·simp only[ZJ hh,cond_true,decide_eq_false (show¬((QR (ps.take i)).length:Int)<32 by omega),cond_false]
   ·have hd:QR ps=QR (ps.take i):=by
     conv=>lhs;rw[←List.take_append_drop i ps]
     unfold QR at hf ⊢
     rw[List.foldl_append]
     exact zsm _ (by omega)
    rw[hd]
 ·have:i=ps.length:=by omega
  subst this
  refine .inr (.inl ⟨QR ps,?_,rfl⟩)
  simp only[Z6,cond_false,List.take_length]
theorem zCo{x:List zb}(h:szL x<big):ziu x=some (if errS x=0 then(QR (zhg 17 x),0)else([],errS x)):=by
 unfold ziu
 rw[zmI (by omega)]
 simp only[ze,Option.bind_some]
 by_cases he:errS x=0
 ·rw[if_pos he,he]
  simp only[show((0:Int) != 0)=false from rfl,cond_false,zz7 h,Option.bind_some]
 ·rw[if_neg he]
  simp only[bne_iff_ne.2 he,cond_true]
theorem zBR{x:List zb}(h:szL x≤big):zh2 x=some (if errS x=0 then((oneS x).1,(oneS x).2,0)else(⟨[],[],false⟩,false,errS x)):=by
 unfold zh2
 simp only[zgk h,zlu h,ze,Option.bind_some]
 by_cases he:errS x=0
 ·rw[if_pos he,he];rfl
 ·rw[if_neg he,bne_iff_ne.2 he,cond_true]
theorem zBv{x:List zb}(h:szL x≤big):zfZ x=some (if errS x=0 then((oneS x).1,(oneS x).2,0)else(⟨[],[],false⟩,false,errS x)):=by
 unfold zfZ
 simp only[zmI h,zoA h,ze,Option.bind_some]
 by_cases he:errS x=0
 ·rw[if_pos he,he];rfl
 ·rw[if_neg he,bne_iff_ne.2 he,cond_true]
theorem zql{s:Str}(h:s.length≤500∨4000<s.length):wtT (qY s).1<big:=by
 have hbig:big=4194304:=rfl
 unfold qY
 split
 ·rw[wtT];omega
 split
 ·rw[wtT];omega
 have h1:=zlm s
 have h2:=zAy (Proofs.Cl.cleanS s)
 show wtT (zbK (Proofs.Cl.cleanS s))<big
 omega
def ztx(s:Str):List Za×Int:=
 if(qY s).2=0 then(if(parS (qY s).1).2=0 then(QR (zhg 17 (parS (qY s).1).1),0)else([],(parS (qY s).1).2))else([],(qY s).2)
theorem zAD{s:Str}(h:s.length≤500∨4000<s.length):zfA s=some (ztx s):=by
 have hw:=zql h
 have hs:=ztm (qY s).1
 unfold zfA ztx
 simp only[zvZ,ze,Option.bind_some,parseF]
 by_cases h1:(qY s).2=0
 ·rw[if_pos h1,h1]
  simp only[show((0:Int) != 0)=false from rfl,cond_false]
  by_cases h2:(parS (qY s).1).2=0
  ·have h3:=(zxH h2).1
   rw[if_pos h2,h2]
   simp only[show((0:Int) != 0)=false from rfl,cond_false,zBQ (x:=(parS (qY s).1).1) (by omega),if_pos h3,Option.bind_some]
  ·rw[if_neg h2]
   simp only[bne_iff_ne.2 h2,cond_true]
 ·rw[if_neg h1]
  simp only[bne_iff_ne.2 h1,cond_true]
theorem zzx{s:Str}(h:s.length≤500∨4000<s.length):zeM s=some (ztx s):=by
 have hw:=zql h
 have hs:=ztm (qY s).1
 unfold zeM ztx
 rw[zvE (by omega)]
 simp only[ze,Option.bind_some]
 by_cases h1:(qY s).2=0
 ·rw[if_pos h1,h1]
  simp only[show((0:Int) != 0)=false from rfl,cond_false,zxV (l:=(qY s).1) (by omega),Option.bind_some]
  by_cases h2:(parS (qY s).1).2=0
  ·rw[if_pos h2,h2]
   simp only[show((0:Int) != 0)=false from rfl,cond_false,zz7 (x:=(parS (qY s).1).1) (by omega),Option.bind_some]
  ·rw[if_neg h2]
   simp only[bne_iff_ne.2 h2,cond_true]
 ·rw[if_neg h1]
  simp only[bne_iff_ne.2 h1,cond_true]
def szD(l:List Za):Prop:=l.length≤big∧ ∀d∈l,szL d.value≤big
theorem zoC{d:Za}(h:szL d.value≤big):za3 (d,d)=some true:=by
 unfold za3
 simp only[beq_self_eq_true,cond_true,zn,zzD h,ze,Option.bind_some]
theorem zoD{l:List Za}(h:szD l):zde (l,l)=some true:=by
 unfold zde
 have hne:((l.length:Int) != (l.length:Int))=false:=by simp
 simp only[hne,cond_false]
 refine(zkA l (fun i (_:Unit)=>(i:Int)) (fun v (_:Unit)=>some (.again ())) (fun _=>some (.out ())) (a:=()) rfl (fun i a hi=> ?_) (fun a=> ?_) (r:= .out ()) ?_)
 ·have hw:=Zb hi h.1
  simp only[ZJ hi,cond_true,Zw hi,ze,Option.bind_some,zoC (h.2 _ (List.getElem_mem hi)),Bool.not_true,cond_false,hw]
  rfl
 ·simp only[Z6,cond_false]
  rfl
 ·rw[QZ (fun a v=>a) (fun v a=>rfl)]
theorem zAp{x:List zb}(h:szL x≤big):szL (oneS x).1.value≤big:=by
 have hno:szL noD.1.value≤big:=by show szL []≤big;rw[szL];exact Nat.zero_le _
 unfold oneS
 split
 ·exact hno
 ·rename_i n r hy
  obtain⟨hn,hr,her,hp⟩:=zjw h hy
  cases n.token.kind==1 with
  |false=>exact hno
  |true=>
   rw[cond_true]
   split
   ·exact hno
   ·rename_i c q hq
    obtain⟨hv,hh,he⟩:=hp hq
    cases c.token.kind==16 with
    |false=>exact hno
    |true=>
     rw[cond_true]
     cases znp ⟨nmD n.token.text,(zfJ (q.dropWhile isSp)).1,(zfJ (q.dropWhile isSp)).2⟩with
     |false=>exact hno
     |true=>exact Nat.le_trans (zbJ (zte hh he).2.2) hv
theorem zt1{ps:List (List zb)}(h: ∀p∈ps,szL p≤big):szD (QR ps):=by
 refine⟨Nat.le_trans (zlv ps) (by decide),?_⟩
 unfold QR
 have key: ∀(ps:List (List zb)) (a:List Za),(∀p∈ps,szL p≤big)→(∀d∈a,szL d.value≤big)→ ∀d∈ps.foldl zkg a,szL d.value≤big:=by
  intro ps
  induction ps with
  |nil=>intro a _ h;exact h
  |cons p ps ih=>
   intro a h1 h2
   refine ih _ (fun q hq=>h1 q (List.mem_cons_of_mem _ hq)) (fun d hd=> ?_)
   unfold zkg at hd
   cases hb:(oneS p).2&&decide (a.length<32)with
   |false=>rw[hb]at hd;exact h2 d hd
   |true=>
    rw[hb,cond_true]at hd
    rcases List.mem_append.1 hd with hd|hd
    ·exact h2 d hd
    ·rw[List.mem_singleton.1 hd];exact zAp (h1 p (List.mem_cons_self ..))
 exact key ps [] h (fun d hd=>by cases hd)
theorem zqC{v:List zb}{s:Str}(h:szL v<big):zbr (v,s)=some true:=by
 unfold zbr
 obtain⟨g,hg⟩:=zwP (l:=v) (by omega)
 simp only[hg,ze,Option.bind_some]
 cases hb:(bif bif g then true else bif decide ((s.length:Int)>500)then decide ((s.length:Int)≤4000)else false then true else decide ((s.length:Int)>4100))with
 |true=>rfl
 |false=>
  have hl:s.length≤500∨4000<s.length:=by
   rcases Nat.lt_or_ge 500 s.length with q|q
   ·rcases Nat.lt_or_ge 4000 s.length with q2|q2
    ·exact .inr q2
    ·rw[decide_eq_true (show(s.length:Int)>500 by omega),decide_eq_true (show(s.length:Int)≤4000 by omega),cond_true]at hb
     cases g<;>cases hb
   ·exact .inl q
  have h1: ∀(b:Bool) (o:Za×Bool×Int),(bif (bif b then o.2.1==o.2.1 else false)then o.2.2==o.2.2 else false)=b:=by
   intro b o
   rw[beq_self_eq_true,beq_self_eq_true];cases b<;>rfl
  have hd1:szD (if errS v=0 then(QR (zhg 17 v),(0:Int))else([],errS v)).1:=by
   split
   ·exact zt1 (zir h).2
   ·exact⟨Nat.zero_le _,fun d hd=>by cases hd⟩
  have hd2:szD (ztx s).1:=by
   have hw:=zql hl
   have hs:=ztm (qY s).1
   unfold ztx
   split
   ·split
    ·exact zt1 (zir (x:=(parS (qY s).1).1) (by omega)).2
    ·exact⟨Nat.zero_le _,fun d hd=>by cases hd⟩
   ·exact⟨Nat.zero_le _,fun d hd=>by cases hd⟩
  have hs1:szL (if errS v=0 then((oneS v).1,(oneS v).2,(0:Int))else((⟨[],[],false⟩:Za),false,errS v)).1.value≤big:=by
   split
   ·exact zAp (by omega)
   ·show szL []≤big;rw[szL];exact Nat.zero_le _
  simp only[cond_false,zBR (x:=v) (by omega),zBv (x:=v) (by omega),zBQ h,zCo h,zAD hl,zzx hl,Option.bind_some]
  generalize (if errS v=0 then(QR (zhg 17 v),(0:Int))else([],errS v))=A at*
  generalize (if errS v=0 then((oneS v).1,(oneS v).2,(0:Int))else((⟨[],[],false⟩:Za),false,errS v))=B at*
  generalize ztx s=C at*
  simp only[zoC hs1,beq_self_eq_true,cond_true,zn,zoD hd1,zoD hd2,Option.bind_some]
end Go.Lv.VT
