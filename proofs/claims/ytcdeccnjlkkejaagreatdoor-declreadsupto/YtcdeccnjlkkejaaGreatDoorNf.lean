/- Parsing of tokens: what the machine of nest.Parse computes is what the reference's recursion computes. -/
import Derived.Test.YtcdeccnjlkkejaaGreatDoorNa
import Derived.Test.YtcdeccnjlkkejaaGreatDoorTy
import Derived.Test.YtcdeccnjlkkejaaGreatDoorNb
import Derived.Test.YtcdeccnjlkkejaaGreatDoorNe
import Derived.Test.YtcdeccnjlkkejaaGreatDoorNam
set_option linter.unusedSimpArgs false
set_option linter.unusedVariables false
namespace Go.Lv.VT
set_option maxRecDepth 100000
def qZ:Nat->List zf->Int->Nat->Option (List zb×List zf)
 |0,_,_,_=>none
 |_+1,[],_,_=>some ([],[])
 |n+1,t::r,c,left=>
  if c≠0/\t.kind=c then some ([],r)
  else if zq t.kind=0 then(qZ n r c left).map fun v=>(⟨t,[]⟩::v.1,v.2)
  else match left with
   |0=>none
   |m+1=>(qZ n r (zq t.kind) m).bind fun w=>(qZ n w.2 c (m+1)).map fun v=>(⟨t,w.1⟩::v.1,v.2)
theorem Gm(n:Nat)(t:zf)(r:List zf)(c:Int)(left:Nat):qZ (n+1) (t::r) c left=if c≠0/\t.kind=c then some ([],r)
  else if zq t.kind=0 then(qZ n r c left).map fun v=>(⟨t,[]⟩::v.1,v.2)
  else match left with
   |0=>none
   |m+1=>(qZ n r (zq t.kind) m).bind fun w=>(qZ n w.2 c (m+1)).map fun v=>(⟨t,w.1⟩::v.1,v.2):=rfl
theorem rC: ∀(n:Nat) (l:List zf) (c:Int) (left:Nat) (v:List zb×List zf),qZ n l c left=some v->v.2<:+l
 |0,_,_,_,_,h=>by cases h
 |n+1,[],c,left,v,h=>by
  rw[qZ]at h;cases h;exact Hd _
 |n+1,t::r,c,left,v,h=>by
  rw[Gm]at h;refine List.IsSuffix.trans ?_ (Pe t r);split at h
  ·cases h;exact Hd _
  split at h
  ·cases hv:qZ n r c left with
   |none=>rw[hv]at h;cases h
   |some w=>rw[hv]at h;cases h;exact rC n r c left w hv
  ·cases left with
   |zero=>cases h
   |succ m=>
    simp only at h;cases hw:qZ n r (zq t.kind) m with
    |none=>rw[hw]at h;cases h
    |some w=>
     rw[hw,Aa]at h;cases hv:qZ n w.2 c (m+1)with
     |none=>rw[hv]at h;cases h
     |some v'=> rw[hv]at h;cases h;exact(rC n w.2 c _ v' hv).trans (rC n r _ m w hw)
theorem Vp: ∀(n:Nat) (l:List zf) (c:Int) (left:Nat) (v:List zb×List zf),qZ n l c left=some v->v.2.length<=l.length/\(l≠[]->v.2.length<l.length)
 |0,_,_,_,_,h=>by cases h
 |n+1,[],c,left,v,h=>by
  rw[qZ]at h;cases h;exact⟨Xa _,fun h=>absurd rfl h⟩
 |n+1,t::r,c,left,v,h=>by
  rw[Gm]at h;have key:v.2.length<=r.length:=by
   split at h
   ·cases h;exact Xa _
   split at h
   ·cases hv:qZ n r c left with
    |none=>rw[hv]at h;cases h
    |some w=>rw[hv]at h;cases h;exact(Vp n r c left w hv).1
   ·cases left with
    |zero=>cases h
    |succ m=>
     simp only at h;cases hw:qZ n r (zq t.kind) m with
     |none=>rw[hw]at h;cases h
     |some w=>
      rw[hw,Aa]at h;cases hv:qZ n w.2 c (m+1)with
      |none=>rw[hv]at h;cases h
      |some v'=> rw[hv]at h;cases h;have h1:=(Vp n r _ m w hw).1;have h2:=(Vp n w.2 c _ v' hv).1;exact Lb h2 h1
  exact⟨by rw[Ca];omega,fun _=>by rw[Ca];omega⟩
theorem DD: ∀(n m:Nat) (l:List zf) (c:Int) (left:Nat),l.length<n->l.length<m->qZ n l c left=qZ m l c left
 |0,_,_,_,_,h,_=>by omega
 |_+1,0,_,_,_,_,h=>by omega
 |n+1,m+1,[],c,left,_,_=>by rw[qZ,qZ]
 |n+1,m+1,t::r,c,left,hn,hm=>by
  rw[Ca]at hn hm;rw[Gm,Gm];rw[DD n m r c left (by omega) (by omega)];cases left with
  |zero=>rfl
  |succ k=>
   simp only;rw[DD n m r (zq t.kind) k (by omega) (by omega)];cases hw:qZ m r (zq t.kind) k with
   |none=>rfl
   |some w=> have:=(Vp m r _ k w hw).1;simp only[Aa];rw[DD n m w.2 c (k+1) (by omega) (by omega)]
def Ym(l:List zf)(s:PSt):Option (List zb):=(qN l s).map fun s=>shutAll s.1 s.2
theorem xP(t:zf)(l:List zf)(s:PSt):Ym (t::l) s=(Qt s t).bind (Ym l):=by unfold Ym;rw[qN];cases Qt s t<;>rfl
theorem NC: ∀(n:Nat) (l:List zf) (cur:List zb) (o:zf) (out:List zb) (st:List (zf×List zb)) (left:Nat),l.length<n->zq o.kind≠0->left+(st.length+1)=16->
  Ym l (cur,(o,out)::st)=(qZ n l (zq o.kind) left).bind fun v=>Ym v.2 (out++[⟨o,cur++v.1⟩],st)
 |0,_,_,_,_,_,_,h,_,_=>by omega
 |n+1,[],cur,o,out,st,left,_,_,_=>by rw[qZ,Aa];simp only[Ym,qN,Bb,shutAll,Ib]
 |n+1,t::r,cur,o,out,st,left,hn,ho,hl=>by
  rw[Ca]at hn;rw[Gm,xP];unfold Qt;simp only[Br];by_cases h1:t.kind=zq o.kind
  ·rw[La (by rw[h1,Vd]),La ⟨ho,h1⟩,Aa,Aa];simp only[TK,Ib]
  ·rw[Ka (by rw[Lc];exact h1),Ka (show¬(zq o.kind≠0/\t.kind=zq o.kind)from fun h=>h1 h.2)];by_cases h2:zq t.kind=0
   ·rw[Ka (show¬zq t.kind≠0 from fun h=>h h2),La h2,Aa,NC n r _ o out st left (by omega) ho hl];cases qZ n r (zq o.kind) left with
    |none=>rfl
    |some v=>simp only[Aa,Bb,Kb,yf]
   ·rw[La h2,Ka h2];cases left with
    |zero=>rw[La (by rw[Ca];omega)];rfl
    |succ m=>
     rw[Ka (by rw[Ca];omega),Aa];simp only;rw[NC n r [] t cur ((o,out)::st) m (by omega) h2 (by rw[Ca];omega)];cases hw:qZ n r (zq t.kind) m with
     |none=>rfl
     |some w=>
      have hlen:=(Vp n r _ m w hw).1;simp only[Aa];rw[NC n w.2 _ o out st (m+1) (by omega) ho hl];cases qZ n w.2 (zq o.kind) (m+1)with
      |none=>rfl
      |some v=>simp only[Aa,Bb,Yc,Kb,yf]
theorem NH: ∀(n:Nat) (l:List zf) (cur:List zb),l.length<n->Ym l (cur,[])=(qZ n l 0 16).map fun v=>cur++v.1
 |0,_,_,h=>by omega
 |n+1,[],cur,_=>by rw[qZ];simp only[Ym,qN,Bb,shutAll,Ib]
 |n+1,t::r,cur,hn=>by
  rw[Ca]at hn;rw[Gm,xP];unfold Qt;simp only[Br];rw[Ka (by decide),Ka (show¬((0:Int)≠0/\t.kind=0)from fun h=>h.1 rfl)];by_cases h2:zq t.kind=0
  ·rw[Ka (show¬zq t.kind≠0 from fun h=>h h2),La h2,Aa,NH n r _ (by omega)];cases qZ n r 0 16 with
   |none=>rfl
   |some v=>simp only[Bb,Kb,yf]
  ·rw[La h2,Ka h2,Ka (by decide),Aa];rw[NC n r [] t cur [] 15 (by omega) h2 rfl];cases hw:qZ n r (zq t.kind) 15 with
   |none=>rfl
   |some w=>
    have hlen:=(Vp n r _ 15 w hw).1;simp only[Aa];rw[NH n w.2 _ (by omega)];cases qZ n w.2 0 16 with
    |none=>rfl
    |some v=>simp only[Bb,Yc,Kb,yf]
theorem AC: ∀(a b:List zb),tokL (a++b)=tokL a++tokL b
 |[],b=>by rw[tokL];rfl
 |v::a,b=>by rw[Tc,tokL,tokL,AC a b,Kb]
theorem JG(v:zb):tokL [v]=tokV v:=by rw[tokL,tokL,Ib]
def Yi(s:PSt):Nat:=(tokL s.1).length+(s.2.map fun x=>1+(tokL x.2).length).sum
def Xz(s:PSt):Prop:= ∀x∈s.2,zq x.1.kind≠0
theorem U2{s s':PSt}{t:zf}(h:Qt s t=some s')(ho:Xz s):Xz s'/\Yi s'=Yi s+1:=by
 unfold Qt at h;obtain⟨cur,st⟩:=s;split at h
 ·rename_i h1;cases st with
  |nil=>cases h1
  |cons x st=> obtain⟨o,out⟩:=x;cases h;have h2:zq o.kind≠0:=ho (o,out) (jb ..);refine⟨fun x hx=>ho x (Ob _ hx),?_⟩;simp only[Yi,TK,AC,JG,Ga,ja,Eg,Bp,Ca,Ka h2,Ga,Cc,Db];omega
 split at h
 ·rename_i h1 h2;split at h
  ·cases h
  ·rename_i h3;cases h;refine⟨fun x hx=> ?_,?_⟩
   ·rcases Ab.1 hx with rfl|hx
    ·exact h2
    ·exact ho x hx
   ·simp only[Yi,ja,Eg,tokL,Db];omega
 ·rename_i h1 h2;cases h;refine⟨ho,?_⟩;have h2:zq t.kind=0:=Classical.byContradiction h2;simp only[Yi,AC,JG,Ga,Bp,Ca,La h2,Db];omega
theorem OH: ∀(l:List zf) {s s':PSt},qN l s=some s'->Xz s->Xz s'/\Yi s'=Yi s+l.length
 |[],s,s',h,ho=>by cases h;exact⟨ho,rfl⟩
 |t::l,s,s',h,ho=>by
  rw[qN]at h;cases hs:Qt s t with
  |none=>rw[hs]at h;cases h
  |some s1=> rw[hs,Aa]at h;obtain⟨h1,h2⟩:=U2 hs ho;obtain⟨h3,h4⟩:=OH l h h1;exact⟨h3,by rw[h4,h2,Ca];omega⟩
theorem BJ: ∀(st:List (zf×List zb)) (cur:List zb),(∀x∈st,zq x.1.kind≠0)->(tokL (shutAll cur st)).length=Yi (cur,st)+st.length
 |[],cur,_=>by simp[shutAll,Yi]
 |(o,out)::st,cur,h=>by have h2:zq o.kind≠0:=h (o,out) (jb ..);rw[shutAll,BJ st _ (fun x hx=>h x (Ob _ hx))];simp only[Yi,AC,JG,Ga,Bp,Ca,Ka h2,Ga,Cc,ja,Eg,Ca,Db];omega
def Eh(l:List zf)(c:Int)(left:Nat):Option (List zb×List zf):=qZ (l.length+1) l c left
theorem rW(c:Int)(left:Nat):Eh [] c left=some ([],[]):=by unfold Eh;rw[qZ]
theorem vF{n:Nat}{l:List zf}{c:Int}{left:Nat}(h:l.length<n):qZ n l c left=Eh l c left:=DD n _ l c left h (Vb _)
theorem mZ(t:zf)(r:List zf)(c:Int)(left:Nat):Eh (t::r) c left=if c≠0/\t.kind=c then some ([],r)
  else if zq t.kind=0 then(Eh r c left).map fun v=>(⟨t,[]⟩::v.1,v.2)
  else match left with
   |0=>none
   |m+1=>(Eh r (zq t.kind) m).bind fun w=>(Eh w.2 c (m+1)).map fun v=>(⟨t,w.1⟩::v.1,v.2):=by
 conv=>lhs;unfold Eh;rw[Ca,Gm]
 rw[vF (show r.length<r.length+1 from Vb _)];cases left with
 |zero=>rfl
 |succ m=>
  simp only;rw[vF (show r.length<r.length+1 from Vb _)];cases hw:Eh r (zq t.kind) m with
  |none=>rfl
  |some w=> have:=(Vp _ _ _ _ w hw).1;simp only[Aa];rw[vF (show w.2.length<r.length+1 by omega)]
def valI(n:Nat):Option (List zb×List zf)->List zb×Int
 |none=>([], -1)
 |some v=>(v.1,((n - v.2.length:Nat):Int))
theorem ap80{n:Nat}(h:n<=big):Zr n 1 80=true:=Dl (by unfold big at h;omega)
theorem yZ{l:List zf}{i:Nat}{c:Int}{left:Nat}(hl:l.length<=big)(hi:i<=l.length)(hf:left<=100):ZZ (l,(i:Int),c,(left:Int))=some (valI l.length (Eh (l.drop i) c left)):=by
 have key: ∀x:List zf×Int×Int×Int,(∃(i left:Nat) (c:Int),x=(l,(i:Int),c,(left:Int))/\i<=l.length/\left<=100)->ZZ x=some (valI l.length (Eh (l.drop x.2.1.toNat) x.2.2.1 x.2.2.2.toNat)):=by
  intro x hx;refine Hl (fun x=>l.length - x.2.1.toNat) (fun x=> ∃(i left:Nat) (c:Int),x=(l,(i:Int),c,(left:Int))/\i<=l.length/\left<=100) (fun x=>valI l.length (Eh (l.drop x.2.1.toNat) x.2.2.1 x.2.2.2.toNat)) (fun S x hx hS=> ?_) hx;obtain⟨i,left,c,rfl,hi,hf⟩:=hx;simp only[Va]at hS ⊢;unfold lD;refine Nk (fun z=> ∃(j:Nat) (a:List zb),z=((j:Int),a)/\i<=j/\j<=l.length/\a.length<=j/\Eh (l.drop i) c left=(Eh (l.drop j) c left).map fun v=>(a++v.1,v.2)) (fun z=>l.length - z.1.toNat) _ ?_ ⟨i,[],rfl,Xa _,hi,Jb _,?_⟩
  ·rintro _ ⟨j,a,rfl,hij,hj,ha,he⟩;rcases Nat.lt_or_eq_of_le hj with hlt|rfl
   ·rw[Yb hlt,mZ]at he;have hw:w64 ((j:Int)+1)=((j+1:Nat):Int):=Zb hlt hl;simp only[ZJ hlt,Da,Uc,Zw hlt,ZW,ze,Aa];by_cases hc:c≠0/\l[j].kind=c
    ·rw[La hc]at he;have e1:(c==0)=false:=Ja.2 hc.1;have e2:(l[j].kind != c)=false:=by rw[hc.2,bne_self_eq_false]
     simp only[e1,Ba,Ya,Da,e2];refine .inr (.inl ⟨_,rfl,?_⟩);rw[he];simp only[Bb,Ib,valI,hw,Ac];congr 2;rw[show l.length - (l.length - (j+1))=j+1 by omega];split<;>omega
    ·rw[Ka hc]at he;have e2:(bif c==0 then true else(bif !(c==0)then l[j]else default).kind != c)=true:=by
      cases e1:c==0 with
      |true=>rfl
      |false=>exact Te.2 fun q=>hc ⟨Ja.1 e1,q⟩
     simp only[e2,Da,GD,Aa];by_cases h0:zq l[j].kind=0
     ·rw[La h0]at he;simp only[h0,show((0:Int) != 0)=false from rfl,Ba,zh,hw];rw[zD (ap80 (by omega))];refine .inl ⟨_,rfl,⟨j+1,_,rfl,by omega,hlt,by rw[Ga,Cc];omega,?_⟩,by simp only[Va];omega⟩;rw[he,Option.map_map];congr 1;funext v;simp only[Function.comp,Kb,yf]
     ·rw[Ka h0]at he;simp only[show(zq l[j].kind != 0)=true from Te.2 h0,Da,hw];cases left with
      |zero=> refine .inr (.inr ?_);simp only at he;rw[he];rfl
      |succ m=>
       have el:(((m+1:Nat):Int)==0)=false:=Ja.2 (by omega);have ew:w64 (((m+1:Nat):Int) - 1)=(m:Int):=by rw[w64,ZV (by omega) (by omega)];omega
       have hs:=hS (l,((j+1:Nat):Int),zq l[j].kind,(m:Int)) ⟨j+1,m,_,rfl,hlt,by omega⟩ (by simp only[Va];omega);simp only[Va]at hs;simp only[el,Ba,ew,hs,Aa];simp only at he;cases hv:Eh (l.drop (j+1)) (zq l[j].kind) m with
       |none=> rw[hv]at he;refine .inr (.inr ?_);rw[he];rfl
       |some w=> rw[hv,Aa]at he;have hsuf:w.2<:+l.drop (j+1):=rC _ _ _ _ w hv;have hle:=hsuf.length_le;rw[Ac]at hle;have hd:l.drop (l.length - w.2.length)=w.2:=(List.suffix_iff_eq_drop.1 (hsuf.trans (Mf _ _))).symm;have hneg:decide (((l.length - w.2.length:Nat):Int)<0)=false:=Sa (by omega);rw[show valI l.length (some w)=(w.1,((l.length - w.2.length:Nat):Int))from rfl];simp only[hneg,Ba,zh];rw[zD (ap80 (by omega))];refine .inl ⟨_,rfl,⟨l.length - w.2.length,_,rfl,by omega,by omega,by rw[Ga,Cc];omega,?_⟩,by simp only[Va];omega⟩;rw[he,hd,Option.map_map];congr 1;funext v;simp only[Function.comp,Kb,yf]
   ·rw[List.drop_length,rW]at he;refine .inr (.inl ⟨((l.length:Int),a),?_,?_⟩)
    ·simp only[Z6,Ba,Xd,zC,ze,Aa]
    ·rw[he];simp only[Bb,Ib,valI,Db,Nat.sub_zero];rw[show w64 ((l.length:Int)+1)=(l.length:Int)+1 by rw[w64,ZV (by omega) (by unfold big at hl;omega)]];rw[Ka (by omega)]
  ·cases Eh (l.drop i) c left with
   |none=>rfl
   |some v=>rfl
 have:=key (l,(i:Int),c,(left:Int)) ⟨i,left,c,rfl,hi,hf⟩;simp only[Va]at this;exact this
def wtT:List zf->Nat
 |[]=>0
 |t::r=>1+t.text.length+t.unit.length+wtT r
theorem pK: ∀l:List zf,l.length<=wtT l
 |[]=>Xa _
 |t::r=>by rw[wtT,Ca];have:=pK r;omega
theorem wB: ∀(n:Nat) (l:List zf) (c:Int) (left:Nat) (v:List zb×List zf),qZ n l c left=some v->szL v.1+wtT v.2<=wtT l
 |0,_,_,_,_,h=>by cases h
 |n+1,[],c,left,v,h=>by
  rw[qZ]at h;cases h;rw[szL];exact Xa _
 |n+1,t::r,c,left,v,h=>by
  rw[Gm]at h;rw[wtT];split at h
  ·cases h;rw[szL];simp only;omega
  split at h
  ·cases hv:qZ n r c left with
   |none=>rw[hv]at h;cases h
   |some w=> rw[hv]at h;cases h;have:=wB n r c left w hv;simp only[szL,szV];omega
  ·cases left with
   |zero=>cases h
   |succ m=>
    simp only at h;cases hw:qZ n r (zq t.kind) m with
    |none=>rw[hw]at h;cases h
    |some w=>
     rw[hw,Aa]at h;cases hv:qZ n w.2 c (m+1)with
     |none=>rw[hv]at h;cases h
     |some v'=> rw[hv]at h;cases h;have h1:=wB n w.2 c _ v' hv;have h2:=wB n r _ m w hw;simp only[szL,szV];omega
theorem UF(l:List zf):(qN l ([],[])).map (fun s=>shutAll s.1 s.2)=(Eh l 0 16).map Prod.fst:=NH _ l [] (Vb _)
theorem rU{l:List zf}{s:PSt}(h:qN l ([],[])=some s):szL (shutAll s.1 s.2)<=wtT l:=by
 have hp:=UF l;rw[h,Bb]at hp;cases hv:Eh l 0 16 with
 |none=>rw[hv]at hp;cases hp
 |some v=> rw[hv,Bb]at hp;injection hp with hp;have:=wB _ _ _ _ v hv;rw[hp];omega
theorem VF(l:List zf):szL (parS l).1<=wtT l:=by
 unfold parS;split
 ·rw[szL];exact Jb _
 ·split
  ·rw[szL];exact Jb _
  ·rename_i s hs;split
   ·rw[szL];exact Jb _
   ·exact rU hs
theorem X0{l:List zf}(hl:l.length<=big):gy l=some (match qN l ([],[])with|none=>([],false)|some s=>(shutAll s.1 s.2,true)):=by
 unfold gy;have h:=yZ (l:=l) (i:=0) (c:=0) (left:=16) hl (Jb _) (by omega);rw[Cf]at h;replace h:ZZ (l,0,0,16)=_:=h;rw[h,ze,Aa];have hp:=UF l;cases hv:Eh l 0 16 with
 |none=>
  rw[hv]at hp;cases hr:qN l ([],[])with
  |none=>rfl
  |some s=>rw[hr]at hp;cases hp
 |some v=>
  rw[hv]at hp;cases hr:qN l ([],[])with
  |none=>rw[hr]at hp;cases hp
  |some s=> rw[hr,Bb,Bb]at hp;injection hp with hp;exact congrArg some (Prod.ext hp.symm (Ia (show((l.length - v.2.length:Nat):Int)>=0 by omega)))
theorem GY{l:List zf}(h:wtT l<=big):Yy l=some (parS l):=by
 have hl:=pK l;unfold Yy parS;by_cases hm:1500<l.length
 ·rw[La hm,Ia (show(l.length:Int)>1500 by omega)];rfl
 ·rw[Ka hm,Sa (show¬(l.length:Int)>1500 by omega),Ba,X0 (by omega)];simp only[ze,Aa];cases hr:qN l ([],[])with
  |none=>rfl
  |some s=>
   have hsz:=rU hr;obtain⟨h1,h2⟩:=OH l hr (fun x hx=>by cases hx);have h3:=BJ s.2 s.1 h1;have h4:Yi (s.1,s.2)=l.length:=by rw[show(s.1,s.2)=s from rfl,h2];simp[Yi,tokL]
   simp only[Fb,Ba,uH (show szL (shutAll s.1 s.2)<=big by omega),Aa];rw[h4]at h3;by_cases hk:1500<l.length+s.2.length
   ·rw[La hk,Ia (show((tokL (shutAll s.1 s.2)).length:Int)>1500 by omega)];rfl
   ·rw[Ka hk,Sa (show¬((tokL (shutAll s.1 s.2)).length:Int)>1500 by omega)];rfl
theorem BD: ∀(n:Nat) (l:List zf) (c:Int) (left:Nat) (v:List zb×List zf),qZ n l c left=some v->shL v.1 c=true/\Ig v.1<=left/\(∀t∈v.2,t∈l)/\ ∀t∈tokL v.1,t∈l\/(t.text=[]/\t.unit=[])
 |0,_,_,_,_,h=>by cases h
 |n+1,[],c,left,v,h=>by
  rw[qZ]at h;cases h;exact⟨by rw[shL],by rw[Ig];exact Jb _,fun t ht=>ht,fun t ht=>by rw[tokL]at ht;cases ht⟩
 |n+1,t::r,c,left,v,h=>by
  rw[Gm]at h;split at h
  ·cases h;exact⟨by rw[shL],by rw[Ig];exact Jb _,fun t ht=>Ob _ ht,fun t ht=>by rw[tokL]at ht;cases ht⟩
  rename_i h1;have hc:(c != 0&&t.kind==c)=false:=by
   cases hh:(c != 0&&t.kind==c)with
   |false=>rfl
   |true=>rw[Ha,Te,Lc]at hh;exact absurd hh h1
  split at h
  ·rename_i h2;cases hv:qZ n r c left with
   |none=>rw[hv]at h;cases h
   |some w=>
    rw[hv]at h;cases h;obtain⟨a1,a2,a3,a4⟩:=BD n r c left w hv;refine⟨?_,?_,fun t ht=>Ob _ (a3 t ht),fun u hu=> ?_⟩
    ·rw[shL,shV,a1,hc,h2];rfl
    ·rw[Ig,ni,La h2];omega
    ·rw[tokL,tokV,La h2]at hu;rcases Ab.1 hu with rfl|hu
     ·exact .inl (jb ..)
     ·exact(a4 u hu).imp (Ob _) id
  ·rename_i h2;cases left with
   |zero=>cases h
   |succ m=>
    simp only at h;cases hw:qZ n r (zq t.kind) m with
    |none=>rw[hw]at h;cases h
    |some w=>
     rw[hw,Aa]at h;cases hv:qZ n w.2 c (m+1)with
     |none=>rw[hv]at h;cases h
     |some v'=>
      rw[hv]at h;cases h;obtain⟨a1,a2,a3,a4⟩:=BD n r _ m w hw;obtain⟨b1,b2,b3,b4⟩:=BD n w.2 c _ v' hv;have hz:(zq t.kind==0)=false:=Ja.2 h2;refine⟨?_,?_,fun u hu=>Ob _ (a3 u (b3 u hu)),fun u hu=> ?_⟩
      ·rw[shL,shV,a1,b1,hc,hz,Fb,Xd];rfl
      ·rw[Ig,ni,Ka h2];omega
      ·rw[tokL,tokV,Ka h2,Tc,Kb]at hu;rcases Ab.1 hu with rfl|hu
       ·exact .inl (jb ..)
       ·rcases Sb.1 hu with hu|hu
        ·exact(a4 u hu).imp (Ob _) id
        ·rcases Sb.1 hu with hu|hu
         ·rw[Ra.1 hu];exact .inr ⟨rfl,rfl⟩
         ·exact(b4 u hu).imp (fun q=>Ob _ (a3 u q)) id
theorem OY{l:List zf}(h:(parS l).2=0):errS (parS l).1=0/\ ∀t∈tokL (parS l).1,t∈l\/(t.text=[]/\t.unit=[]):=by
 unfold parS at h ⊢;split at h
 ·cases h
 rename_i h0;rw[Ka h0];split at h
 ·cases h
 rename_i s hs;split at h
 ·cases h
 rename_i hk;rw[Ka hk];have hp:=UF l;rw[hs,Bb]at hp;cases hv:Eh l 0 16 with
 |none=>rw[hv]at hp;cases hp
 |some v=>
  rw[hv,Bb]at hp;injection hp with hp;obtain⟨a1,a2,a3,a4⟩:=BD _ _ _ _ _ hv;obtain⟨b1,b2⟩:=OH l hs (fun x hx=>by cases hx);have b3:=BJ s.2 s.1 b1;have b4:Yi (s.1,s.2)=l.length:=by rw[show(s.1,s.2)=s from rfl,b2];simp[Yi,tokL]
  rw[b4]at b3;simp only[hp]at b3 ⊢;refine⟨?_,a4⟩;unfold errS;rw[Ka (by omega),Ka (by omega),La a1]
theorem Ls(l:Str):(zG l).1.length+4*(zG l).2.length<=4*l.length:=by
 match l with
 |[]=>rw[Ky];exact Xa _
 |c::r=>
  rw[Du];split
  ·have:=Ls r;show(c::(zG r).1).length+4*(zG r).2.length<=_;rw[Ca,Ca];omega
  ·split
   ·have h1:=zJ r;have h2:=Ll r;have:=Ls (zu r).2;show((zu r).1++(zG (zu r).2).1).length+4*(zG (zu r).2).2.length<=_;rw[Ga,Ca];omega
   ·show 0+4*(c::r).length<=_;omega
termination_by l.length
decreasing_by
 all_goals first|(have:=zJ r;simp only[Ca];omega)|(simp only[Ca];omega)
theorem cz{u:Str}{o:Option Str}{t:Str}{k:Nat}(h:o.map (u++ ·)=some t)(hk: ∀t',o=some t'->t'.length<=k):t.length<=u.length+k:=by
 cases o with
 |none=>cases h
 |some t'=> injection h with h;rw[<-h,Ga];have:=hk t' rfl;omega
theorem LC{m:UInt8}{q t:Str}(h:(zS m q).1=some t):t.length+4*(zS m q).2.length<=4*q.length:=by
 match q with
 |[]=>rw[Pn]at h ⊢;cases h;exact Xa _
 |c::r=>
  rw[jD]at h ⊢;rw[Ca];split
  ·rename_i h1;rw[La h1]at h;cases h;show 0+4*r.length<=_;omega
  ·rename_i h1;rw[Ka h1]at h;split
   ·rename_i h2;rw[La h2]at h;cases h
   ·rename_i h2;rw[Ka h2]at h;split
    ·rename_i h3;rw[La h3]at h;split
     ·rename_i h4;rw[La h4]at h;cases h;show 0+4*0<=_;omega
     ·rename_i h4;rw[Ka h4]at h;split
      ·rename_i h5;rw[La h5]at h;have:=LC (q:=r.drop 1) h;rw[Ac]at this;omega
      ·rename_i h5;rw[Ka h5]at h;have h6:=zJ r;have h7:=Ll r;have:=cz (k:=4*(zu r).2.length - 4*(zS m (zu r).2).2.length) h (fun t' ht'=>by have:=LC ht';omega);have h8:=(Yt m (zu r).2).length_le;show t.length+4*(zS m (zu r).2).2.length<=_;omega
    ·rename_i h3;rw[Ka h3]at h;have:=cz (u:=[c]) (k:=4*r.length - 4*(zS m r).2.length) h (fun t' ht'=>by have:=LC ht';omega);have h8:=(Yt m r).length_le;rw[Cc]at this;show t.length+4*(zS m r).2.length<=_;omega
termination_by q.length
decreasing_by
 all_goals first|(have:=zJ r;simp only[Ca];omega)|(simp only[Ca,Ac];omega)
theorem SK{q t:Str}(h:(urlS q).1=some t):t.length+4*(urlS q).2.length<=4*q.length:=by
 match q with
 |[]=>rw[Dt]at h ⊢;cases h;exact Xa _
 |c::r=>
  rw[Xp]at h ⊢;rw[Ca];split
  ·rename_i h1;rw[La h1]at h;cases h;show 0+4*r.length<=_;omega
  ·rename_i h1;rw[Ka h1]at h;split
   ·rename_i h2;rw[La h2]at h;have hp:=(xm spB r).length_le;split
    ·rename_i h3;rw[h3]at h;cases h;show 0+4*0<=_;omega
    ·rename_i d r' h3;rw[h3]at h hp;rw[Ca]at hp;simp only at h;split
     ·rename_i h4;rw[La h4]at h;cases h;show 0+4*r'.length<=_;omega
     ·rename_i h4;rw[Ka h4]at h;cases h
   ·rename_i h2;rw[Ka h2]at h;split
    ·rename_i h3;rw[La h3]at h;cases h
    ·rename_i h3;rw[Ka h3]at h;split
     ·rename_i h5;rw[La h5]at h;have h6:=zJ r;have h7:=Ll r;have:=cz (k:=4*(zu r).2.length - 4*(urlS (zu r).2).2.length) h (fun t' ht'=>by have:=SK ht';omega);have h8:=(Us (zu r).2).length_le;show t.length+4*(urlS (zu r).2).2.length<=_;omega
     ·rename_i h5;rw[Ka h5]at h;have:=cz (u:=[c]) (k:=4*r.length - 4*(urlS r).2.length) h (fun t' ht'=>by have:=SK ht';omega);have h8:=(Us r).length_le;rw[Cc]at this;show t.length+4*(urlS r).2.length<=_;omega
termination_by q.length
decreasing_by
 all_goals first|(have:=zJ r;simp only[Ca];omega)|(simp only[Ca];omega)
theorem zCl(c:UInt8)(r:Str):(Ng (c::r)).1.text.length+(Ng (c::r)).1.unit.length+4*(Ng (c::r)).2.length<=4*(r.length+1):=by
 have hs:=(ym c r).length_le;rw[FI]at hs ⊢;split
 ·rename_i h1;rw[La h1]at hs;simp only[xg,Db]at hs ⊢;omega
 rename_i h1;rw[Ka h1]at hs;split
 ·rename_i h2;rw[La h2]at hs;simp only at hs ⊢;cases ho:(zS c r).1 with
  |none=>show 0+0+_<=_;omega
  |some t=>have:=LC ho;show t.length+0+_<=_;omega
 rename_i h2;rw[Ka h2]at hs;split
 ·have:=Ls r;simp only[Db];omega
 rename_i h3;rw[Ka h3]at hs;split
 ·rename_i h4;have h5:=(oP h4).length_le;rw[La h4]at hs;unfold Jj at hs ⊢;split
  ·have:=Ls (Zc (c::r)).1;simp only[Db];omega
  ·rename_i h6;rw[Ka h6]at hs;split
   ·rename_i h7;rw[La h7]at hs;simp only[Db]at hs ⊢;omega
   ·rename_i h7;rw[Ka h7]at hs;simp only[Db]at hs ⊢;omega
 rename_i h4;rw[Ka h4]at hs;split
 ·rename_i h5;rw[La h5]at hs;simp only[xg,Db]at hs ⊢;omega
 rename_i h5;rw[Ka h5]at hs;split
 ·rename_i h6;rw[La h6]at hs;simp only[xg,Db]at hs ⊢;omega
 rename_i h6;rw[Ka h6]at hs;split
 ·have:=Ls r;simp only[Db];omega
 rename_i h7;rw[Ka h7]at hs;split
 ·have hn:=Ls (c::r);rw[Ca]at hn;unfold si;split
  ·split
   ·have h8:=(xm spB ((zG (c::r)).2.drop 1)).length_le;have h9:=(Us (past spB ((zG (c::r)).2.drop 1))).length_le;rw[Ac]at h8;simp only;cases ho:(urlS (past spB ((zG (c::r)).2.drop 1))).1 with
    |none=>show 0+0+_<=_;omega
    |some t=>have:=SK ho;show t.length+0+_<=_;omega
   ·simp only[Db,Ac];omega
  ·simp only[Db];omega
 split
 ·simp only[Db,Cc];omega
 ·simp only[xg,Db];omega
theorem VV(q:Str):wtT (Kg q)<=5*q.length:=by
 cases hc:cmtS q with
 |nil=>rw[Et hc,wtT];exact Jb _
 |cons c r=>
  have h2:=(Ck q).length_le;have h3:=(ym c r).length_le;rw[hc,Ca]at h2;rw[Pt hc,wtT];have h4:(Ng (c::r)).2.length<q.length:=by omega
  have:=VV (Ng (c::r)).2;have:=zCl c r;omega
termination_by q.length
decreasing_by all_goals omega
def clnB(c:UInt8):Str:=if c=0 then [239,191,189]else if c=12\/c=13 then [10]else [c]
def clR:Bool->Str->Str
 |_,[]=>[]
 |cr,c::r=>(if c=10/\cr=true then []else clnB c)++clR (c==13) r
theorem PX(c:UInt8):(clnB c).length<=3:=by
 unfold clnB;split
 ·decide
 ·split<;>simp
theorem JL: ∀(s:Str) (b:Bool),(clR b s).length<=3*s.length
 |[],_=>Xa _
 |c::r,b=>by rw[clR,Ga,Ca];have:=JL r (c==13);have:=PX c;split<;>simp<;>omega
theorem dP{c:UInt8}{r:Str}(h:c=13-> ∀q,r≠10::q):Proofs.Cl.cleanS (c::r)=clnB c++Proofs.Cl.cleanS r:=by
 rw[Proofs.Cl.cleanS]
 ·unfold clnB;by_cases h0:c=0
  ·subst h0;rfl
  ·have e0:(c==0)=false:=Ja.2 h0;rw[e0,Ka h0,Ba];by_cases h1:c=12\/c=13
   ·rw[La h1];rcases h1 with rfl|rfl<;>rfl
   ·rw[Ka h1];have e1:(c==12||c==13)=false:=by simp only[Gf,Ja];exact⟨fun q=>h1 (.inl q),fun q=>h1 (.inr q)⟩
    rw[e1,Ba];rfl
 ·intro r' e1 e2;exact h e1 r' e2
theorem RA: ∀(n:Nat) (s:Str),s.length<=n->clR false s=Proofs.Cl.cleanS s
 |0,s,h=>by obtain rfl:=List.length_eq_zero_iff.1 (Nat.le_zero.1 h);rw[clR,Proofs.Cl.cleanS]
 |n+1,[],_=>by rw[clR,Proofs.Cl.cleanS]
 |n+1,c::r,h=>by
  rw[Ca]at h;rw[clR,Ka (fun q=>by cases q.2)];by_cases hc:c=13
  ·subst hc;rcases r with _|⟨d,r⟩
   ·rfl
   ·rw[Ca]at h;by_cases hd:d=10
    ·subst hd;rw[Proofs.Cl.cleanS,clR,La ⟨rfl,rfl⟩,<-RA n r (by omega)];rfl
    ·rw[dP (fun _ q e=>hd (List.cons.inj e).1)];rw[<-RA n (d::r) (by rw[Ca];omega),clR,clR,Ka (fun q=>hd q.1),Ka (fun q=>hd q.1)]
  ·rw[dP (fun q=>absurd q hc),<-RA n r (by omega),show(c==13)=false from Ja.2 hc]
def pv13(x:Str):Nat->Bool
 |0=>false
 |i+1=>x[i]? ==some 13
theorem zAR{a:Str}{c:UInt8}{i:Int}(ha:a.length<=9000):(zT (X:=Str×Int) (R:=LX (Str×Int) (LO (Str×Int) Str Str)) (
  bif bif (c.toNat:Int)==13 then true else(c.toNat:Int)==12 then some (LX.out (a,10))else some (LX.out (a,(c.toNat:Int)))) fun j4=>
  bif j4.2==0 then
   need (Gg j4.1.length [(239:UInt8),(191:UInt8),(189:UInt8)].length)<|
   some (LX.out (j4.1++[(239:UInt8),(191:UInt8),(189:UInt8)],i))
  else
   ze (Z4 j4.2) fun y5=>
   need (Gg j4.1.length [y5].length)<|
   some (LX.out (j4.1++[y5],i)))=some (LX.out (a++clnB c,i)):=by
 have hs: ∀m:Str,m.length<=3->Gg a.length m.length=true:=fun m hm=>QW.2 (by omega);rw[show((c.toNat:Int)==13)=(c==13)from qE c 13,show((c.toNat:Int)==12)=(c==12)from qE c 12];by_cases h13:c=13
 ·subst h13;simp only[Vd,Da,zh];rw[show((10:Int)==0)=false from rfl,Ba,show Z4 10=some 10 from rfl,ze,Aa,zD (hs _ (by decide))];rfl
 ·have e13:(c==13)=false:=Ja.2 h13;by_cases h12:c=12
  ·subst h12;simp only[Vd,Da,e13,Ba,zh];rw[show((10:Int)==0)=false from rfl,Ba,show Z4 10=some 10 from rfl,ze,Aa,zD (hs _ (by decide))];rfl
  ·have e12:(c==12)=false:=Ja.2 h12;simp only[e12,e13,Ba,zh];rw[show((c.toNat:Int)==0)=(c==0)from qE c 0];by_cases h0:c=0
   ·subst h0;simp only[Vd,Da];rw[zD (hs _ (by decide))];rfl
   ·have e0:(c==0)=false:=Ja.2 h0;simp only[e0,Ba,ztR,ze,Aa];rw[zD (hs _ (by simp)),clnB,Ka h0,Ka (fun q=>q.elim h12 h13)]
theorem D6{x:Str}(hx:x.length<=3000):Hz x=some (Proofs.Cl.cleanS x):=by
 rw[<-RA x.length x (Xa _)];have hl0:=JL x false;unfold Hz;refine Nk (fun z=> ∃(i:Nat) (a:Str),z=(a,(i:Int))/\i<=x.length/\a++clR (pv13 x i) (x.drop i)=clR false x) (fun z=>x.length - z.2.toNat) (clR false x) ?_ ⟨0,[],rfl,Jb _,rfl⟩;rintro _ ⟨i,a,rfl,hi,he⟩;rcases Nat.lt_or_eq_of_le hi with hlt|rfl
 ·refine .inl ⟨(a++(if x[i]=10/\pv13 x i=true then []else clnB x[i]),((i+1:Nat):Int)),?_,⟨i+1,_,rfl,hlt,?_⟩,?_⟩
  ·have hal:a.length<=9000:=by have:=congrArg List.length he;rw[Ga]at this;omega
   have hprev:zo (bif (x[i].toNat:Int)==10 then decide ((i:Int)>0)else false) (geti x (w64 ((i:Int) - 1))) 0=some (bif (bif (x[i].toNat:Int)==10 then decide ((i:Int)>0)else false)then(x[i - 1]?).getD 0 else 0):=by
    cases hb:(bif (x[i].toNat:Int)==10 then decide ((i:Int)>0)else false)with
    |false=>rfl
    |true=>
     have h0:0<i:=by
      cases h10:((x[i].toNat:Int)==10)with
      |false=>rw[h10]at hb;cases hb
      |true=>rw[h10,Da]at hb;have:=Dc hb;omega
     rw[zn,Da,w64,ZV (by omega) (by omega),show(i:Int) - 1=((i - 1:Nat):Int) by omega,Zw (show i - 1<x.length by omega),Ma (show i - 1<x.length by omega)];rfl
   have hpv:(bif bif (x[i].toNat:Int)==10 then decide ((i:Int)>0)else false then((((bif (bif (x[i].toNat:Int)==10 then decide ((i:Int)>0)else false)then(x[i - 1]?).getD 0 else 0):UInt8).toNat:Int)==13)else false)=decide (x[i]=10/\pv13 x i=true):=by
    rw[show((x[i].toNat:Int)==10)=(x[i]==10)from qE _ 10];by_cases h10:x[i]=10
    ·have e:(x[i]==10)=true:=by rw[h10];rfl
     simp only[e,Da];cases i with
     |zero=>exact(Sa (fun q=>by cases q.2)).symm
     |succ j=>
      have e0:decide (((j+1:Nat):Int)>0)=true:=Ia (by omega);have ej:x[j+1 - 1]? =some x[j]:=Ma (show j<x.length by omega);simp only[e0,Da,ej,Option.getD_some];rw[show((x[j].toNat:Int)==13)=(x[j]==13)from qE _ 13];have ep:pv13 x (j+1)=(x[j]==13):=by show(x[j]? ==some 13)=_;rw[Ma (show j<x.length by omega)];rfl
      rw[ep];cases hq:x[j]==13 with
      |true=>exact(Ia ⟨h10,rfl⟩).symm
      |false=>exact(Sa (fun q=>by cases q.2)).symm
    ·have e:(x[i]==10)=false:=Ja.2 h10;simp only[e,Ba];exact(Sa (fun q=>h10 q.1)).symm
   simp only[ZJ hlt,Da,Zw hlt,ze,Aa,hprev,hpv];by_cases hc:x[i]=10/\pv13 x i=true
   ·rw[Ia hc,Da,La hc,zh,Ib,Zb hlt (by unfold big;omega)]
   ·have hp:=zAR (a:=a) (c:=x[i]) (i:=(i:Int)) hal;simp only[ze]at hp;rw[Sa hc,Ba,hp,zh,Ka hc,Zb hlt (by unfold big;omega)]
  ·rw[<-he,Yb hlt,clR,Kb];congr 3;show(x[i]? ==some 13)=_;rw[Ma hlt];rfl
  ·simp only[Va];omega
 ·refine .inr (.inl ⟨a,?_,?_⟩)
  ·simp only[Z6,Ba]
  ·rw[List.drop_length,clR,Ib]at he;rw[he]
theorem U0{x:Str}(hx:x.length<=3000\/4000<x.length):iy x=some (qY x):=by
 unfold iy XD qY;by_cases hlong:4000<x.length
 ·rw[La hlong,Ia (show(x.length:Int)>4000 by omega)];rfl
 ·have h3:x.length<=3000:=by omega
  have hc:=WH x;obtain⟨sp,hcut⟩:=zDu (s:=Proofs.Cl.cleanS x) (by omega);rw[Ka hlong,Sa (show¬(x.length:Int)>4000 by omega)];simp only[Ba,D6 h3,ze,Aa,hcut];rw[show((0:Int) != 0)=false from rfl,Ba];by_cases hm:1500<(Kg (Proofs.Cl.cleanS x)).length
  ·rw[La hm,Ia (show((Kg (Proofs.Cl.cleanS x)).length:Int)>1500 by omega)];rfl
  ·rw[Ka hm,Sa (show¬((Kg (Proofs.Cl.cleanS x)).length:Int)>1500 by omega)];rfl
theorem kI{α:Type}(l:List α):((l.length:Int)==0)=l.isEmpty:=by
 cases l with
 |nil=>rfl
 |cons a l=>exact Ja.2 (by simp only[Ca];omega)
theorem Ox(v:zb):(⟨v.token,v.list⟩:zb)=v:=by cases v;rfl
def Xk(x:Str):Bool:= !(x==[])&&(decide (x.length<=64)&&(Qq x&&(bif List.isPrefixOf [45,45] x then !(x==[45,45])else lowS x==x)))
theorem H9{x:Str}(h:x.length<=big):Cy x=some (Xk x):=by have e:decide ((x.length:Int)>64)= !decide (x.length<=64):=BF _ 64;have e1:decide (Lib.indexByte x (0:Int).toNat.toUInt8>=0)= !Qq x:=WL x;have ec:=bO x (lowS x);unfold Cy Xk;simp only[RJ,ZW,ze,Aa,Jq,JD h,e,ec];cases x==[]<;>cases decide (x.length<=64)<;>try rfl;simp only[Da,Ba,Fb,Ya,Rb,Fg,e1];cases Qq x<;>cases List.isPrefixOf [45,45] x<;>rfl
theorem aG(x:Str):(bif decide ((x.length:Int)>=2)then List.take 2 x==[45,45]else false)=List.isPrefixOf [45,45] x:=by
 cases x with
 |nil=>rfl
 |cons a x=>
  cases x with
  |nil=>show(bif decide _ then _ else _)=((45==a)&&false);rw[Xd];rfl
  |cons b x=> have:decide ((((a::b::x:Str)).length:Int)>=2)=true:=Ia (by simp only[Ca];omega);rw[this];show((a==45)&&((b==45)&&true))=((45==a)&&((45==b)&&true));rw[Bool.beq_comm (a:=a),Bool.beq_comm (a:=b)]
theorem oL{x:Str}(h:List.isPrefixOf [45,45] x=true):decide ((x.length:Int)>2)= !(x==[45,45]):=by
 obtain⟨t,rfl⟩:=Uh.1 h;cases t with
 |nil=>rfl
 |cons a t=> have:decide ((([45,45]++a::t:Str).length:Int)>2)=true:=Ia (by simp only[Ga,Ca];omega);rw[this];rfl
theorem znV{x:Str}(h:x.length<=big):Vy x=some (Xk x):=by
 have e:decide ((x.length:Int)>64)= !decide (x.length<=64):=BF _ 64;have en:decide ((x.length:Int)<1)=(x==[]):=by cases x with
  |nil=>rfl
  |cons a x=>exact Sa (by simp only[Ca];omega)
 have ec:=bO x (lowS x);have hk:(need (decide ((2:Int)<=(x.length:Int))|| !(decide ((x.length:Int)>=2)))<|
   bif bif decide ((x.length:Int)>=2)then List.take 2 x==[45,45]else false then some (decide ((x.length:Int)>2))else ze (ZR x) fun y4=>some (x==y4))=some (bif List.isPrefixOf [45,45] x then !(x==[45,45])else lowS x==x):=by
  have e2:(decide ((2:Int)<=(x.length:Int))|| !(decide ((x.length:Int)>=2)))=true:=by show(decide _|| !decide ((2:Int)<=_))=true;cases decide ((2:Int)<=(x.length:Int))<;>rfl
  rw[e2,Zi,aG];cases hp:List.isPrefixOf [45,45] x with
  |true=>rw[Da,Da,oL hp]
  |false=>simp only[Ba,iC h,ze,Aa,ec]
 unfold Vy Xk;rw[hk];have hl: ∀b:Bool,zY (fun(s1:Int)=>bif decide (s1<(x.length:Int))then
    ze (geti x s1) fun y2=>bif (y2.toNat:Int)==0 then some (LO.ret false)else some (LO.again (w64 (s1+1)))
   else some (LO.out ()):Int->Option (LO (Int) (Unit) _)) 0 (fun _=>some b)=some (Qq x&&b):=by
  intro b;refine(Ny x (fun b=>bif (!(b==0))then none else some false) () (fun i hi=> ?_) ?_).trans ?_
  ·simp only[ZJ hi,Da,Zw hi,ze,Aa,byte_zero,Zb hi h];cases x[i]==0<;>rfl
  ·simp only[Z6,Ba]
  ·rw[cB];unfold Qq;cases x.all (fun b=> !(b==0))<;>rfl
 rw[hl,e,en];cases x==[]<;>cases decide (x.length<=64)<;>rfl
def clK(v:zb):Bool:=v.token.kind==20||(v.token.kind==22||v.token.kind==24)
mutual
def clV:zb->Bool
 |⟨t,l⟩=>clK ⟨t,l⟩||clL l
def clL:List zb->Bool
 |[]=>false
 |v::r=>clV v||clL r
end
theorem DV(v:zb):clV v=(clK v||clL v.list):=by obtain⟨t,l⟩:=v;rw[clV]
theorem KL(l:List zb):clL l=l.any clV:=by
 induction l with
 |nil=>rw[clL];rfl
 |cons v l ih=>rw[clL,ih];rfl
theorem zlw{l:List zb}(h:szL l<=big):zz l=some (clL l):=by
 refine Hl (fun l=>szL l) (fun l=>szL l<=big) (fun l=>clL l) (fun S l hl hS=> ?_) h;have hlen:=Qv l;unfold uD qf qV;have:=wM (EM (step:=fun(s1:Int)=>
   bif decide (s1<(l.length:Int))then
    ze (geti l s1) fun y2=>
    ze (QZ S (⟨y2.token,y2.list⟩:zb)) fun y3=>
    bif y3 then some (LO.ret s1)else some (LO.again (w64 (s1+1)))
   else some (LO.out ())) l clV (by omega) (fun i hi=> ?_) ?_) (TG _ _)
 ·rw[this,KL];rfl
 ·have hsz:=Tj (Ad hi);have hv2:=yh l[i];have hs:=hS l[i].list (by omega) (by omega);have:QZ S l[i]=some (clV l[i]):=by unfold QZ ZG;simp only[Ox,ZW,ze,Aa,hs,DV,clK];cases l[i].token.kind==20<;>cases l[i].token.kind==22<;>cases l[i].token.kind==24<;>rfl
  simp only[ZJ hi,Da,Zw hi,ze,Aa,Ox,this]
 ·simp only[Z6,Ba]
theorem zkg{l:List zb}(h:szL l<=big):qd l=some (clL l):=by
 refine Hl (fun l=>szL l) (fun l=>szL l<=big) (fun l=>clL l) (fun S l hl hS=> ?_) h;have hlen:=Qv l;unfold VE;refine(Ny l (fun v=>bif clV v then some true else none) () (fun i hi=> ?_) ?_).trans ?_
 ·have hsz:=Tj (Ad hi);have hv2:=yh l[i];have hs:=hS l[i].list (by omega) (by omega);simp only[ZJ hi,Da,Zw hi,ze,Aa,DV,clK,Zb hi (show l.length<=big by omega)];cases h1:l[i].token.kind==20<;>cases h2:l[i].token.kind==22<;>cases h3:l[i].token.kind==24<;>
   first|rfl|(simp only[Ba,Ya,zn,Aa,hs,Xe];cases clL l[i].list<;>rfl)
 ·simp only[Z6,Ba]
 ·rw[WG,KL];cases l.any clV<;>rfl
def Um(l:List zb):Bool:=match l with
 |[]=>false
 |v::r=>isSp v||isSp ((v::r).getLast (by simp))
theorem Y3(t:List zb)(v:zb):Um (t++[v])=((match t with|[]=>isSp v|a::_=>isSp a)||isSp v):=by
 cases t with
 |nil=>rfl
 |cons a t=> show(isSp a||isSp ((a::(t++[v])).getLast _))=_;congr 2;have:(a::(t++[v]))=(a::t)++[v]:=rfl;simp only[this,List.getLast_append_of_ne_nil,List.getLast_singleton,ne_eq,reduceCtorEq,Ed]
theorem JN(l:List zb):(trimB l).length<=l.length:=(Dn l).length_le
theorem nZ(l:List zb):((trimS l).length==l.length)= !Um l:=by
 rcases Qp l with rfl|⟨t,v,rfl⟩
 ·rfl
 ·rw[Y3];have hl:(t++[v]).length=t.length+1:=by simp
  cases t with
  |nil=>
   show((trimB (List.dropWhile isSp [v])).length==1)= !(isSp v||isSp v);cases hv:isSp v with
   |true=>simp only[Wd,hv];rfl
   |false=> simp only[Wd,hv];have:=Bq [] v;rw[hv]at this;show((trimB [v]).length==1)=true;rw[show trimB [v]=[v]from this];rfl
  |cons a t=>
   show((trimB (List.dropWhile isSp (a::(t++[v])))).length==_)= !(isSp a||isSp v);have hb:=JN (List.dropWhile isSp (a::(t++[v])));cases ha:isSp a with
   |true=> simp only[Wd,ha,Ae]at hb ⊢;have hd:=(Ye isSp (l:=t++[v])).length_le;rw[jf,Fb,Ja];rw[hl,Ca];rw[Ga,Cc]at hd;omega
   |false=>
    have e:List.dropWhile isSp (a::(t++[v]))=(a::t)++[v]:=by rw[Wd,ha];rfl
    rw[e,Bq];cases hv:isSp v with
    |true=> have:=JN (a::t);rw[La rfl,Bool.or_true,Fb,Ja,hl];omega
    |false=>simp
theorem HZ{l:List zb}(h:l.length<=big)(g:Bool)(hg:(l.isEmpty&&g)=false)(k:Bool->Option Int):
  (ze (zo (decide ((l.length:Int)>0)&& !g) (geti l 0) (default:zb)) fun y7=>
   ze (zo (decide ((l.length:Int)>0)&& !g) (ZG ((⟨y7.token,y7.list⟩:zb),13)) (default:Bool)) fun y8=>
   ze (zo (!y8&&(decide ((l.length:Int)>0)&& !g)) (geti l (w64 ((l.length:Int) - 1))) (default:zb)) fun y9=>
   ze (zo (!y8&&(decide ((l.length:Int)>0)&& !g)) (ZG ((⟨y9.token,y9.list⟩:zb),13)) (default:Bool)) fun y10=>
   k (bif decide ((l.length:Int)>0)then bif y8 then true else y10 else false))=(if g=true/\l≠[]then(k (bif decide ((l.length:Int)>0)then bif (default:Bool)then true else(default:Bool)else false))else k (Um l)):=by
 cases l with
 |nil=> have:decide ((([]:List zb).length:Int)>0)=false:=rfl;simp only[this,Sc,zC,ze,Aa,Xd,Ba,ne_eq,not_true_eq_false,and_false,Nf,Um]
 |cons v r=>
  have e1:decide (((v::r).length:Int)>0)=true:=Ia (by simp only[Ca];omega);have e2:geti (v::r) 0=some v:=rfl;cases g with
  |true=>simp only[e1,Fb,Xd,zC,ze,Aa,Da,ne_eq,reduceCtorEq,Ed,and_self,Ae]
  |false=>
   simp only[e1,Ya,Uc,zn,ze,Aa,Da,e2,ZG,false_and,Nf,reduceCtorEq];have e3:w64 (((v::r).length:Int) - 1)=(r.length:Int):=by rw[Ca]at h ⊢;rw[w64,ZV (by omega) (by unfold big at h;omega)];omega
   have e4:geti (v::r) (r.length:Int)=some ((v::r).getLast (by simp)):=by rw[Zw (by simp),List.getLast_eq_getElem];simp
   rw[e3,e4];simp only[ZW,Aa,Um,isSp];cases v.token.kind==13<;>rfl
def badV(v:zb):Bool:=v.token.kind==17||(v.token.kind==9&&v.token.text==[33])
def nu(custom:Bool)(l:List zb):Bool:= !(l.any badV)&&(!(l.isEmpty&& !custom)&& !Um l)
def Sk(d:Za):Bool:=Xk d.name&&(errS d.value==0&&(gluS (tokL d.value)==0&&(!clL d.value&&nu (List.isPrefixOf [45,45] d.name) d.value)))
mutual
theorem yV: ∀(v:zb) (t:zf),t∈tokV v->t.text.length<=szV v/\t.unit.length<=szV v
 |⟨t,l⟩,u,h=>by
  rw[tokV]at h;rw[szV];rcases Ab.1 h with rfl|h
  ·constructor<;>omega
  ·split at h
   ·cases h
   ·rcases Sb.1 h with h|h
    ·have:=yB l u h;omega
    ·obtain rfl:=Ra.1 h;exact⟨Jb _,Jb _⟩
theorem yB: ∀(l:List zb) (t:zf),t∈tokL l->t.text.length<=szL l/\t.unit.length<=szL l
 |[],_,h=>by rw[tokL]at h;cases h
 |v::r,u,h=>by
  rw[tokL]at h;rw[szL];rcases Sb.1 h with h|h
  ·have:=yV v u h;omega
  ·have:=yB r u h;omega
end
theorem iX{l:List zb}(h:szL l<=big):yt (tokL l)=some (gluS (tokL l)):=
 G9 fun t ht=>by have:=yB l t ht;omega
theorem zA6{l:List zb}(h:szL l<=big):Pq (tokL l)=some (gluS (tokL l)):=
 znR fun t ht=>by have:=yB l t ht;omega
theorem Y8{l:List zb}(h:l.length<=big):Zu l=some (l.any badV):=by
 unfold Zu qm;refine wM (EM l badV h (fun i hi=> ?_) ?_) (TG _ _)
 ·have:ny l[i]=some (badV l[i]):=by unfold ny Am ZG badV;simp only[Ox,ZW,ze,Aa];cases l[i].token.kind==17<;>cases l[i].token.kind==9<;>rfl
  simp only[ZJ hi,Da,Zw hi,ze,Aa,Ox,this]
 ·simp only[Z6,Ba]
theorem zo9{d:Za}(hv:szL d.value<=big)(hn:d.name.length<=big):Dy d=some (bif Sk d then 0 else 8):=by
 have hlen:=Qv d.value;unfold Dy Sk;rw[I8 hv];simp only[ze,Aa,H9 hn];cases Xk d.name with
 |false=>simp only[Ya,Da,Fb,zC,Aa,Sc,Ba]
 |true=>
  by_cases he:errS d.value=0
  ·rw[La he];have he':(errS d.value==0)=true:=Lc.2 he;have this:((0:Int)==0)=true:=rfl;simp only[he',this,Fb,Ba,Ya,zn,iX hv,Aa,Rb,bne];cases hg:gluS (tokL d.value)==0 with
   |false=>simp only[Ya,Da,Fb,zC,Aa,Sc,Ba]
   |true=>
    simp only[Fb,Ba,Ya,zn,zlw hv,Aa,Rb];cases clL d.value with
    |true=>rfl
    |false=>
     simp only[Ba,Y8 (show d.value.length<=big by omega),Aa,nu,Ya,Rb];cases d.value.any badV with
     |true=>rfl
     |false=>
      simp only[Ba,Jq,ZW,Aa,kI,Ya,Rb];have hp:=HZ (l:=d.value) (by omega) (bif d.value.isEmpty then !(bif d.value.isEmpty then List.isPrefixOf [45,45] d.name else default)else false);cases hd:d.value with
      |nil=>
       cases List.isPrefixOf [45,45] d.name<;>rfl
      |cons v r=> have hp':=hp (by rw[hd];rfl) (fun b=>bif b then some 8 else some 0);rw[hd]at hp';simp only[List.isEmpty_cons,Ba,Yd,false_and,Nf]at hp';simp only[List.isEmpty_cons,Ba,Sc,Ya,Rb];refine Eq.trans hp' ?_;cases Um (v::r)<;>rfl
  ·rw[Ka he];have he':(errS d.value==0)=false:=Ja.2 he;simp only[he',bne,Fb,Ba,Ya,Da,zC,Aa,Sc,Xd]
theorem bY{x:Str}(hn:Xk x=true):Dz x=some (List.isPrefixOf [45,45] x):=by
 unfold Dz;have e2:(decide ((2:Int)<=(x.length:Int))|| !(decide ((x.length:Int)>2)))=true:=by
  by_cases h:2<=x.length
  ·rw[Ia (show(2:Int)<=(x.length:Int) by omega)];rfl
  ·rw[Sa (show¬((x.length:Int)>2) by omega)];simp
 rw[zD e2];have hp:=aG x;cases hpp:List.isPrefixOf [45,45] x with
 |true=> rw[hpp]at hp;have h3:=oL hpp;unfold Xk at hn;rw[hpp]at hn;simp only[Da,Ha]at hn;rw[hn.2.2.2]at h3;rw[h3];have:decide ((x.length:Int)>=2)=true:=Ia (by have:=Dc h3;omega);rw[this]at hp;exact congrArg some hp
 |false=>
  rw[hpp]at hp;cases h3:decide ((x.length:Int)>2)with
  |false=>rfl
  |true=> have:decide ((x.length:Int)>=2)=true:=Ia (by have:=Dc h3;omega);rw[this]at hp;exact congrArg some hp
theorem zBh{α:Type}(a b:List α):((a.length:Int)==(b.length:Int))=(a.length==b.length):=by rw[ug,Lc,Lc];omega
theorem zmJ{x:Str}{l:List zb}(h:szL l<=big)(hn:Xk x=true):
  Cz (x,l)=some (errS l==0&&(gluS (tokL l)==0&&(!clL l&&nu (List.isPrefixOf [45,45] x) l))):=by
 have hlen:=Qv l;unfold Cz;simp only[JH h,uH h,ze,Aa,bne,ZW];cases he:errS l==0 with
 |false=>simp only[Ya,Da,Fb,zC,Aa,Sc,Ba]
 |true=>
  simp only[Fb,Ba,Ya,Da,zn,zA6 h,Aa,Rb];cases hg:gluS (tokL l)==0 with
  |false=>simp only[Ya,Da,Fb,zC,Aa,Sc,Ba]
  |true=>
   simp only[Fb,Ba,Ya,zn,zkg h,Aa,Rb];cases clL l with
   |true=>rfl
   |false=>
    simp only[Ba,Fu h,Aa,zBh,nZ,kI,Bool.not_not,Ya,Rb,bY hn,ZW];have hl:zY (fun(s7:Int)=>
     bif decide (s7<(l.length:Int))then
      ze (geti l s7) fun y8=>
      bif bif y8.token.kind==17 then true else bif y8.token.kind==9 then y8.token.text==[33]else false then
       some (LO.ret false)
      else
       some (LO.again (w64 (s7+1)))
     else
      some (LO.out ()):Int->Option (LO (Int) (Unit) _)) 0 (fun _=>some true)=some (!(l.any badV)):=by
     refine(Ny l (fun v=>bif badV v then some false else none) () (fun i hi=> ?_) ?_).trans ?_
     ·simp only[ZJ hi,Da,Zw hi,ze,Aa,badV,Zb hi (show l.length<=big by omega)];cases l[i].token.kind==17<;>cases l[i].token.kind==9<;>cases l[i].token.text==[33]<;>rfl
     ·simp only[Z6,Ba]
     ·rw[WG];cases l.any badV<;>rfl
    unfold nu;simp only[ze]at hl;rw[hl];cases Um l<;>cases l.isEmpty<;>cases List.isPrefixOf [45,45] x<;>cases l.any badV<;>rfl
theorem znU{d:Za}(hv:szL d.value<=big)(hn:d.name.length<=big):Wy d=some (bif Sk d then 0 else 8):=by
 unfold Wy Sk;simp only[znV hn,ze,Aa];cases hnd:Xk d.name with
 |false=>rfl
 |true=> simp only[Fb,Ya,zn,zmJ hv hnd,Aa,Rb];cases (errS d.value==0&&(gluS (tokL d.value)==0&&(!clL d.value&&nu (List.isPrefixOf [45,45] d.name) d.value)))<;>rfl
def Ui(l:List zb):Prop:= ∀t v,l=t++[v]->isSp v=false
def Nh(l:List zb):Prop:= ∀a t,l=a::t->isSp a=false
theorem Ui.suf{a b:List zb}(h:Ui (a++b)):Ui b:=fun t v e=>h (a++t) v (by rw[e,Kb])
theorem Ui.id{l:List zb}(h:Ui l):trimB l=l:=by
 rcases Qp l with rfl|⟨t,v,rfl⟩
 ·rfl
 ·rw[Bq,h t v rfl];rfl
theorem KN(l:List zb):Ui (trimB l):=by
 obtain⟨r,_,_,h|⟨t,v,h,hv⟩⟩:=WP l
 ·intro t v e;rw[h]at e;simp at e
 ·intro t' v' e;rw[h]at e;have:=List.append_inj_right' e rfl;injection this with e1;rw[<-e1];exact hv
theorem Nh.pre{a b:List zb}(h:Nh (a++b)):Nh a:=fun x t e=>h x (t++b) (by rw[e];rfl)
theorem Nh.id{l:List zb}(h:Nh l):l.dropWhile isSp=l:=by
 cases l with
 |nil=>rfl
 |cons a t=>rw[Wd,h a t rfl];rfl
theorem zBa(l:List zb):Nh (l.dropWhile isSp):=by obtain⟨a,_,_,h⟩:=WI l;exact fun x b e=>h x b e
theorem TA(l:List zb): ∃a,l=a++l.dropWhile isSp:=by obtain⟨a,h,_⟩:=WI l;exact⟨a,h⟩
theorem uG(l:List zb): ∃r,l=trimB l++r:=by obtain⟨r,h,_⟩:=WP l;exact⟨r,h⟩
theorem nW{l:List zb}(h1:Nh l)(h2:Ui l):trimS l=l:=by unfold trimS;rw[h1.id,h2.id]
theorem KP{l:List zb}(h:Nh l):trimS l=trimB l:=by unfold trimS;rw[h.id]
theorem left_eq{l:List zb}:Tp l=some (l.dropWhile isSp):=by
 unfold Tp ZG;refine(Qg (r:= .out (l.dropWhile isSp)) (ZM (fun s=>s.dropWhile isSp=l.dropWhile isSp) (fun s=>s.length) _ (fun s hs=> ?_) rfl)).trans ?_
 ·cases s with
  |nil=>exact .inr (.inl ⟨[],by simp,by rw[<-hs];rfl⟩)
  |cons v t=>
   have h1:decide (((v::t).length:Int)>0)=true:=by rw[Gs];simp
   have h2:geti (v::t) 0=some v:=rfl;have h3:decide ((1:Int)<=((v::t).length:Int))=true:=by simp;omega
   rw[Wd]at hs;cases hv:isSp v with
   |true=> rw[hv]at hs;unfold isSp at hv;refine .inl ⟨t,?_,by simpa using hs,by simp⟩;simp only[h1,h2,h3,zn,ze,Aa,hv,Da,Zi];rfl
   |false=> rw[hv]at hs;unfold isSp at hv;refine .inr (.inl ⟨v::t,?_,by rw[<-hs];rfl⟩);simp only[h1,h2,zn,ze,Aa,hv,Da,Ba]
 ·rw[zlL]
theorem right_eq{d:List zb}(hd:szL d<=big):Em d=some (trimB d):=by
 unfold Em ZG;refine(Qg (r:= .out (trimB d)) (ZM (fun s=>trimB s=trimB d/\szL s<=big) (fun s=>s.length) _ (fun s hs=> ?_) ⟨rfl,hd⟩)).trans ?_
 ·rcases Qp s with rfl|⟨t,v,rfl⟩
  ·exact .inr (.inl ⟨[],by simp,by rw[<-hs.1];rfl⟩)
  ·have hlen:=Qv (t++[v]);have hl2:(t++[v]).length=t.length+1:=by simp
   have hb:=hs.2;unfold big at hb;have h1:decide (((t++[v]).length:Int)>0)=true:=by rw[Gs];simp
   have h4:w64 (((t++[v]).length:Int) - 1)=(t.length:Int):=by rw[w64,ZV (by omega) (by omega)];omega
   have h2:geti (t++[v]) (t.length:Int)=some v:=by rw[Zw (by omega)];simp
   have h3:(decide ((0:Int)<=(t.length:Int))&&decide ((t.length:Int)<=((t++[v]).length:Int)))=true:=by simp;omega
   have hs1:=hs.1;rw[Bq]at hs1;cases hv:isSp v with
   |true=> rw[La hv]at hs1;unfold isSp at hv;refine .inl ⟨t,?_,⟨hs1,Lb (bi (List.sublist_append_left t [v])) hs.2⟩,by simp⟩;simp only[h1,h4,h2,h3,zn,ze,Aa,hv,Da,Zi,Va];simp
   |false=> rw[Ka (by rw[hv];simp)]at hs1;unfold isSp at hv;refine .inr (.inl ⟨t++[v],?_,by rw[<-hs1]⟩);simp only[h1,h4,h2,zn,ze,Aa,hv,Da,Ba]
 ·rw[zlL]
def oq(v:zb):Bool:=v.token.kind==9&&v.token.text==[33]
theorem zAL(v:zb):Am v=some (oq v):=by unfold Am ZG oq;simp only[ze,Aa];cases v.token.kind==9<;>rfl
def impW:Str:=[105,109,112,111,114,116,97,110,116]
def endV(l:List zb):Option (List zb×zb):=match l.reverse with
 |[]=>none
 |v::t=>some (t.reverse,v)
theorem Px(t:List zb)(v:zb):endV (t++[v])=some (t,v):=by unfold endV;rw[List.reverse_append];simp
def Wh(v:List zb):List zb×Bool:=match endV v with
 |none=>(v,false)
 |some (t,z)=>bif !t.isEmpty&&(z.token.kind==1&&lowS z.token.text==impW)then
   (match endV (trimB t)with
   |none=>(v,false)
   |some (u,b)=>bif oq b then(trimB u,true)else(v,false))
  else(v,false)
theorem xA{t:List zb}{v:zb}(h:szL (t++[v])<=big):w64 (((t++[v]).length:Int) - 1)=(t.length:Int):=by
 have hlen:=Qv (t++[v]);have hl2:(t++[v]).length=t.length+1:=by simp
 unfold big at h;rw[w64,ZV (by omega) (by omega)];omega
theorem BB(t:List zb)(v:zb):geti (t++[v]) (t.length:Int)=some v:=by rw[Zw (by simp)];simp
theorem MB(t:List zb)(v:zb):(decide ((0:Int)<=(t.length:Int))&&decide ((t.length:Int)<=((t++[v]).length:Int)))=true:=by simp;omega
theorem YA(t:List zb)(v:zb):List.take t.length (t++[v])=t:=by simp
theorem wK:lowS [105,109,112,111,114,116,97,110,116]=impW:=by decide+kernel
theorem aA{t:List zb}{v:zb}(h:szL (t++[v])<=big):szL t<=big/\v.token.text.length<=big:=by rw[FD,szL,yh]at h;omega
theorem tL(t:List zb):decide ((t.length:Int)>0)= !t.isEmpty:=by
 cases t with
 |nil=>rfl
 |cons a t=>exact Ia (by simp only[Ca];omega)
abbrev MK:=LX (List zb×(Str×Bool)×(Str×Bool)) (Za×Bool)
theorem tX{v:List zb}{nm:Str}(hv:szL v<=big):(
  ze (zo (decide (w64 ((v.length:Int) - 1)>0)) (geti v (w64 ((v.length:Int) - 1))) (default:zb)) fun y13=>
  ze (zo (decide (w64 ((v.length:Int) - 1)>0)) (ZG ((⟨y13.token,y13.list⟩:zb),1)) (default:Bool)) fun y14=>
  ze (zo (bif decide (w64 ((v.length:Int) - 1)>0)then y14 else false) (geti v (w64 ((v.length:Int) - 1))) (default:zb)) fun y15=>
  ze (zo (bif decide (w64 ((v.length:Int) - 1)>0)then y14 else false) (Qn (y15.token.text,[105,109,112,111,114,116,97,110,116])) (default:Bool)) fun y16=>
  bif bif bif decide (w64 ((v.length:Int) - 1)>0)then y14 else false then y16 else false then
   need (decide (0<=w64 ((v.length:Int) - 1))&&decide (w64 ((v.length:Int) - 1)<=(v.length:Int)))<|
   ze (Em (List.take (w64 ((v.length:Int) - 1)).toNat v)) fun y17=>
   ze (zo (decide ((y17.length:Int)>0)) (geti y17 (w64 ((y17.length:Int) - 1))) (default:zb)) fun y18=>
   ze (zo (decide ((y17.length:Int)>0)) (Am (⟨y18.token,y18.list⟩:zb)) (default:Bool)) fun y19=>
   bif bif decide ((y17.length:Int)>0)then y19 else false then
    need (decide (0<=w64 ((y17.length:Int) - 1))&&decide (w64 ((y17.length:Int) - 1)<=(y17.length:Int)))<|
    ze (Em (List.take (w64 ((y17.length:Int) - 1)).toNat y17)) fun y20=>
    some (LX.out (y20,(([]:Str),false),(nm,true)))
   else
    some (LX.out (v,(([]:Str),false),(nm,false)))
  else
   some (LX.out (v,(([]:Str),false),(nm,false))))=(some (LX.out ((Wh v).1,(([]:Str),false),(nm,(Wh v).2))):Option MK):=by
 rcases Qp v with rfl|⟨t,z,rfl⟩
 ·rfl
 ·obtain⟨ht,hz⟩:=aA hv;unfold Wh;rw[Px];simp only[xA hv,tL];cases he:t.isEmpty with
  |true=>simp only[Fb,zC,ze,Aa,Ba,Sc]
  |false=>
   simp only[Ya,zn,BB,ZG,ze,Aa,Da,Rb];cases hk:z.token.kind==1 with
   |false=>simp only[zC,Aa,Ba,Sc]
   |true=>
    simp only[zn,Aa,vH hz (show([105,109,112,111,114,116,97,110,116]:Str).length<=big by decide),wK,Da,Rb];cases ha:lowS z.token.text==impW with
    |false=>simp only[Ba]
    |true=>
     simp only[Da,MB,Zi,Va,YA,right_eq ht,Aa,tL];have hw:szL (trimB t)<=big:=Lb (bi (Dn t)) ht;obtain⟨w,hwd⟩: ∃w,trimB t=w:=⟨_,rfl⟩;rw[hwd]at hw;simp only[hwd];rcases Qp w with rfl|⟨u,b,rfl⟩
     ·rfl
     ·have hne:(u++[b]).isEmpty=false:=by cases u<;>rfl
      rw[Px];simp only[hne,Ya,zn,xA hw,BB,Aa,Ox,zAL,Da];cases hb:oq b with
      |false=>simp only[Ba]
      |true=>simp only[Da,MB,Zi,Va,YA,right_eq (aA hw).1,Aa]
theorem mV{v:List zb}(hv:szL v<=big)(hh:Nh v):Bz v=some (Wh v):=by
 unfold Bz;rcases Qp v with rfl|⟨t,z,rfl⟩
 ·rfl
 ·obtain⟨ht,hz⟩:=aA hv;have hht:Nh t:=hh.pre;unfold Wh;rw[Px];have hlt:decide ((t.length:Int)<1)=t.isEmpty:=by
   cases t with
   |nil=>rfl
   |cons a t=>exact Sa (by simp only[Ca];omega)
  simp only[xA hv,hlt];cases he:t.isEmpty with
  |true=>simp only[Fb,zC,ze,Aa,Da,Ba,Sc]
  |false=>
   simp only[Ya,zn,BB,ze,Aa,Ba,Rb,bne];cases hk:z.token.kind==1 with
   |false=>simp only[Ya,Fb,zC,Aa,Da,Ba,Sc]
   |true=>
    simp only[Fb,Ya,zn,Aa,KH hz (show([105,109,112,111,114,116,97,110,116]:Str).length<=big by decide),wK,Ba,Rb];cases ha:lowS z.token.text==impW with
    |false=>simp only[Ya,Da,Ba]
    |true=>
     simp only[Fb,Ba,Da,MB,Zi,Va,YA,Fu ht,KP hht,Aa,kI];have hw:szL (trimB t)<=big:=Lb (bi (Dn t)) ht;have hhw:Nh (trimB t):=by obtain⟨r,hr⟩:=uG t;rw[hr]at hht;exact hht.pre
     obtain⟨w,hwd⟩: ∃w,trimB t=w:=⟨_,rfl⟩;rw[hwd]at hw hhw;simp only[hwd];rcases Qp w with rfl|⟨u,b,rfl⟩
     ·rfl
     ·have hne:(u++[b]).isEmpty=false:=by cases u<;>rfl
      rw[Px];simp only[hne,Ya,zn,xA hw,BB,Aa,Ba,oq];cases hb:b.token.kind==9 with
      |false=>simp only[Ya,Fb,zC,Aa,Da,Ba,Sc]
      |true=>
       simp only[Fb,Ya,zn,Aa,Ba,Rb];cases hc:b.token.text==[33]with
       |false=>simp only[Ya,Da,Ba]
       |true=>simp only[Fb,Ba,Da,MB,Zi,Va,YA,Fu (aA hw).1,KP (Nh.pre hhw),Aa]
def nmD(s:Str):Str:=bif List.isPrefixOf [45,45] s then s else lowS s
def noD:Za×Bool:=(⟨[],[],false⟩,false)
def oneS(x:List zb):Za×Bool:=match trimS x with
 |[]=>noD
 |n::r=>bif n.token.kind==1 then
   (match r.dropWhile isSp with
   |[]=>noD
   |c::q=>bif c.token.kind==16 then
     (bif Sk ⟨nmD n.token.text,(Wh (q.dropWhile isSp)).1,(Wh (q.dropWhile isSp)).2⟩then(⟨nmD n.token.text,(Wh (q.dropWhile isSp)).1,(Wh (q.dropWhile isSp)).2⟩,true)else noD)
    else noD)
  else noD
theorem fO{v:List zb}{t:List zb}{z:zb}(h:endV v=some (t,z)):v=t++[z]:=by
 rcases Qp v with rfl|⟨t',z',rfl⟩
 ·cases h
 ·rw[Px]at h;cases h;rfl
theorem aF{v:List zb}(h1:Nh v)(h2:Ui v):Nh (Wh v).1/\Ui (Wh v).1/\(Wh v).1.Sublist v:=by
 unfold Wh;split
 ·exact⟨h1,h2,List.Sublist.refl _⟩
 ·rename_i t z he;have hv:=fO he;cases !t.isEmpty&&(z.token.kind==1&&lowS z.token.text==impW)with
  |false=>exact⟨h1,h2,List.Sublist.refl _⟩
  |true=>
   rw[Da];split
   ·exact⟨h1,h2,List.Sublist.refl _⟩
   ·rename_i u b hb;have hw:=fO hb;cases oq b with
    |false=>exact⟨h1,h2,List.Sublist.refl _⟩
    |true=>
     rw[Da];have hht:Nh t:=by rw[hv]at h1;exact h1.pre
     have hhw:Nh (trimB t):=by obtain⟨r,hr⟩:=uG t;rw[hr]at hht;exact hht.pre
     have hhu:Nh u:=by rw[hw]at hhw;exact hhw.pre
     refine⟨?_,KN u,?_⟩
     ·obtain⟨r,hr⟩:=uG u;rw[hr]at hhu;exact hhu.pre
     ·refine(Dn u).trans ((List.sublist_append_left u [b]).trans ?_);rw[<-hw];refine(Dn t).trans ?_;rw[hv];exact List.sublist_append_left t [z]
theorem zBj(s:Str):(lowS s).length=s.length:=by unfold lowS;simp
theorem wU(s:Str):(nmD s).length=s.length:=by
 unfold nmD;cases List.isPrefixOf [45,45] s
 ·exact zBj s
 ·rfl
theorem YC(n:zb)(r:List zb):(((n::r).length:Int)==0)=false:=Ja.2 (by simp only[Ca];omega)
theorem yz(n:zb)(r:List zb):decide ((1:Int)<=((n::r).length:Int))=true:=Ia (by simp only[Ca];omega)
theorem aB(n:zb)(r:List zb):geti (n::r) 0=some n:=rfl
theorem tH{x:List zb}(h:szL x<=big){n:zb}{r:List zb}(hy:trimS x=n::r):n.token.text.length<=big/\szL r<=big/\Ui r/\
  ∀{c:zb} {q:List zb},r.dropWhile isSp=c::q->szL (q.dropWhile isSp)<=big/\Nh (q.dropWhile isSp)/\Ui (q.dropWhile isSp):=by
 have hsz:=mW x;have he:Ui (trimS x):=KN _;rw[hy]at hsz he;rw[szL,yh]at hsz;have her:Ui r:=he.suf (a:=[n]);refine⟨by omega,by omega,her,fun {c q} hq=> ?_⟩;obtain⟨a,ha⟩:=TA r;rw[hq]at ha;obtain⟨b,hb⟩:=TA q;refine⟨?_,zBa q,?_⟩
 ·have h1:=bi (Ye isSp (l:=q));rw[ha,FD,szL]at hsz;omega
 ·rw[ha,hb]at her;exact Ui.suf (a:=a++c::b) (by rw[Kb];exact her)
theorem CQ{x:List zb}(h:szL x<=big):Ep x=some (oneS x):=by
 have hdw:szL (x.dropWhile isSp)<=big:=Lb (bi (Ye _)) h;unfold Ep oneS;simp only[left_eq,right_eq hdw,ze,Aa,show trimB (x.dropWhile isSp)=trimS x from rfl];cases hy:trimS x with
 |nil=>rfl
 |cons n r=>
  obtain⟨hn,hr,_,hp⟩:=tH h hy;simp only[YC,Ya,zn,aB,Aa,ZG,Ba];cases hk:n.token.kind==1 with
  |false=>simp only[Ya,Da,Ba];rfl
  |true=>
   simp only[Fb,Ba,Da];have hj:((strings_HasPrefix (n.token.text,[45,45])).bind fun y6=>bif !y6 then(qM n.token.text).bind fun y7=>some (LX.out (n::r,(([]:Str),false),(y7,false)))else some (LX.out (n::r,([],false),(n.token.text,false))))=(some (LX.out (n::r,([],false),(nmD n.token.text,false))):Option MK):=by rw[Jq,Aa,JD hn];unfold nmD;cases List.isPrefixOf [45,45] n.token.text<;>rfl
   rw[hj,zh];simp only[yz,Zi,show List.drop 1 (n::r)=r from rfl];cases hq:r.dropWhile isSp with
   |nil=>rfl
   |cons c q=>
    obtain⟨hv,hh,he⟩:=hp hq;simp only[YC,Ya,zn,aB,Aa,Ba];cases hc:c.token.kind==16 with
    |false=>simp only[Ya,Da,Ba];rfl
    |true=>
     simp only[Fb,Ba,Da,yz,Zi,show List.drop 1 (c::q)=q from rfl];obtain⟨v,hvd⟩: ∃v,q.dropWhile isSp=v:=⟨_,rfl⟩;rw[hvd]at hv hh he;simp only[hvd];have hm:=tX (nm:=nmD n.token.text) hv;simp only[ze,ZG]at hm;rw[hm,zh];obtain⟨h1,h2,h3⟩:=aF hh he;obtain⟨w,hw⟩: ∃w,Wh v=w:=⟨_,rfl⟩;rw[hw]at h1 h2 h3;simp only[hw];have hws:szL w.1<=big:=Lb (bi h3) hv;rw[rX hws,Aa];by_cases he0:errS w.1=0
     ·rw[La he0,nW h1 h2];simp only[show((0:Int) != 0)=false from rfl,Ya,zn,Ba];rw[zo9 (d:=⟨nmD n.token.text,w.1,w.2⟩) hws (by rw[wU];exact hn),Aa];cases Sk ⟨nmD n.token.text,w.1,w.2⟩<;>rfl
     ·have he1:(errS w.1 != 0)=true:=Te.2 he0;have he2:Sk ⟨nmD n.token.text,w.1,w.2⟩=false:=by unfold Sk;simp only[show(errS w.1==0)=false from Ja.2 he0,Sc,Xd]
      rw[Ka he0,he2];simp only[he1,Fb,zC,Aa,Da,Ba];rfl
theorem TP{x:List zb}(h:szL x<=big):Oq x=some (oneS x):=by
 unfold Oq oneS;simp only[Fu h,ze,Aa];cases hy:trimS x with
 |nil=>rfl
 |cons n r=>
  obtain⟨hn,hr,her,hp⟩:=tH h hy;simp only[YC,Ya,zn,aB,Aa,Ba,bne];cases hk:n.token.kind==1 with
  |false=>simp only[Ya,Da,Ba];rfl
  |true=>
   simp only[Fb,Ba,Da];have hj:(need (decide (2<=(n.token.text.length:Int))|| !(!(decide ((n.token.text.length:Int)<2))))<|
     bif bif decide ((n.token.text.length:Int)<2)then true else !(List.take 2 n.token.text==[45,45])then
      (ZR n.token.text).bind fun y4=>some (LX.out (n::r,(([]:Str),false),(y4,false)))
     else some (LX.out (n::r,([],false),(n.token.text,false))))=(some (LX.out (n::r,([],false),(nmD n.token.text,false))):Option MK):=by
    have hpt:=aG n.token.text;rw[iC hn];unfold nmD;rw[<-hpt];by_cases h2:n.token.text.length<2
    ·rw[Ia (show(n.token.text.length:Int)<2 by omega),Sa (show¬(n.token.text.length:Int)>=2 by omega),Fb,Ya,Bool.or_true];rfl
    ·rw[Sa (show¬(n.token.text.length:Int)<2 by omega),Ia (show(2:Int)<=(n.token.text.length:Int) by omega),jf];cases List.take 2 n.token.text==[45,45]<;>rfl
   rw[hj,zh];simp only[yz,Zi,show List.drop 1 (n::r)=r from rfl,Fu hr,Aa];have hrt:trimS r=r.dropWhile isSp:=by unfold trimS;obtain⟨a,ha⟩:=TA r;rw[ha]at her;exact her.suf.id
   rw[hrt];cases hq:r.dropWhile isSp with
   |nil=>rfl
   |cons c q=>
    obtain⟨hv,hh,he⟩:=hp hq;simp only[YC,Ya,zn,aB,Aa,Ba];cases hc:c.token.kind==16 with
    |false=>simp only[Ya,Da,Ba];rfl
    |true=>
     have hqs:szL q<=big:=by obtain⟨a,ha⟩:=TA r;rw[hq]at ha;rw[ha,FD,szL]at hr;omega
     simp only[Fb,Ba,Da,yz,Zi,show List.drop 1 (c::q)=q from rfl,Fu hqs,Aa];have hqt:trimS q=q.dropWhile isSp:=he.id;rw[hqt];obtain⟨v,hvd⟩: ∃v,q.dropWhile isSp=v:=⟨_,rfl⟩;rw[hvd]at hv hh he;simp only[hvd];obtain⟨h1,h2,h3⟩:=aF hh he;rw[mV hv hh,Aa];obtain⟨w,hw⟩: ∃w,Wh v=w:=⟨_,rfl⟩;rw[hw]at h1 h2 h3;simp only[hw];have hws:szL w.1<=big:=Lb (bi h3) hv;rw[znU (d:=⟨nmD n.token.text,w.1,w.2⟩) hws (by rw[wU];exact hn),Aa];cases Sk ⟨nmD n.token.text,w.1,w.2⟩<;>rfl
def Mj(a:List Za)(p:List zb):List Za:=bif (oneS p).2&&decide (a.length<32)then a++[(oneS p).1]else a
def QT(ps:List (List zb)):List Za:=ps.foldl Mj []
theorem FW{a:List Za}{p:List zb}(h:a.length<=32):(Mj a p).length<=32:=by
 unfold Mj;cases hb:(oneS p).2&&decide (a.length<32)with
 |false=>exact h
 |true=> rw[Ha,Gc]at hb;rw[Da,Ga,Cc];omega
theorem RN: ∀(ps:List (List zb)) {a:List Za},32<=a.length->ps.foldl Mj a=a
 |[],_,_=>rfl
 |p::ps,a,h=>by
  have:Mj a p=a:=by unfold Mj;rw[Sa (by omega),Xd];rfl
  rw[Uf,this];exact RN ps h
theorem jN{ps:List (List zb)}{i:Nat}(h:i<ps.length):QT (ps.take (i+1))=Mj (QT (ps.take i)) ps[i]:=by unfold QT;rw[Re h,List.foldl_append];rfl
theorem SH(ps:List (List zb)):(QT ps).length<=32:=by
 unfold QT;have key: ∀(ps:List (List zb)) (a:List Za),a.length<=32->(ps.foldl Mj a).length<=32:=by
  intro ps
  induction ps with
  |nil=>intro a h;exact h
  |cons p ps ih=>intro a h;exact ih _ (FW h)
 exact key ps [] (Jb _)
theorem kC{x:List zb}(h:szL x<big):(Ei 17 x).length<=big/\ ∀p∈Ei 17 x,szL p<=big:=by have h1:=JX 17 x;have h2:=lK (Ei 17 x);exact⟨by omega,fun p hp=>by have:=kK hp;omega⟩
theorem ap48{n:Nat}(h:n<=32):Zr n 1 48=true:=Dl (by omega)
theorem gU{x:List zb}(h:szL x<big):vo x=some (if errS x=0 then(QT (Ei 17 x),0)else([],errS x)):=by
 unfold vo;rw[UZ (k:=17) (by omega)];simp only[ze,Aa];by_cases he:errS x=0
 ·rw[La he,Ka (by omega),La he];obtain⟨hl,hp⟩:=kC h;simp only[show((0:Int) != 0)=false from rfl,Ba];generalize Ei 17 x=ps at*;refine Nk (fun z=> ∃i:Nat,z=((i:Int),QT (ps.take i))/\i<=ps.length) (fun z=>ps.length - z.1.toNat) _ ?_ ⟨0,rfl,Jb _⟩;rintro _ ⟨i,rfl,hi⟩;rcases Mc i ps.length with hh|hh
  ·refine .inl ⟨_,?_,⟨i+1,rfl,hh⟩,by simp only[Va];omega⟩;have hq:=SH (ps.take i);rw[jN hh];simp only[ZJ hh,Da,Zw hh,Aa,CQ (hp _ (Ad hh))];obtain⟨a,ha⟩: ∃a,QT (ps.take i)=a:=⟨_,rfl⟩;rw[ha]at hq ⊢;unfold Mj;have hd:decide ((a.length:Int)<32)=decide (a.length<32):=by
    by_cases q:a.length<32
    ·rw[Ia q,Ia (by omega)]
    ·rw[Sa q,Sa (by omega)]
   rw[hd,zD (ap48 hq)];have hw:w64 ((i:Int)+1)=((i+1:Nat):Int):=Zb hh hl;cases (oneS ps[i]).2<;>cases decide (a.length<32)<;>simp only[Da,Ba,zh,hw,Rb,Sc]
  ·have:i=ps.length:=by omega
   subst this;refine .inr (.inl ⟨QT ps,?_,rfl⟩);simp only[Z6,Ba,ve]
 ·rw[Ka he,Ka he];simp only[Te.2 he,Da]
theorem OV{x:List zb}(h:szL x<big):Yp x=some (QT (Ei 17 x)):=by
 unfold Yp;rw[aY (k:=17) (by omega)];simp only[ze,Aa];obtain⟨hl,hp⟩:=kC h;generalize Ei 17 x=ps at*;refine Nk (fun z=> ∃i:Nat,z=((i:Int),QT (ps.take i))/\i<=ps.length) (fun z=>ps.length - z.1.toNat) _ ?_ ⟨0,rfl,Jb _⟩;rintro _ ⟨i,rfl,hi⟩;have hq:=SH (ps.take i);rcases Mc i ps.length with hh|hh
 ·by_cases hf:(QT (ps.take i)).length<32
  ·refine .inl ⟨_,?_,⟨i+1,rfl,hh⟩,by simp only[Va];omega⟩;rw[jN hh];simp only[ZJ hh,Da,Zw hh,Aa,TP (hp _ (Ad hh))];obtain⟨a,ha⟩: ∃a,QT (ps.take i)=a:=⟨_,rfl⟩;rw[ha]at hq hf ⊢;unfold Mj;rw[Ia (show(a.length:Int)<32 by omega),Ia hf,Da,zD (ap48 hq)];have hw:w64 ((i:Int)+1)=((i+1:Nat):Int):=Zb hh hl;cases (oneS ps[i]).2<;>simp only[Da,Ba,zh,hw,Rb,Sc]
  ·refine .inr (.inl ⟨QT (ps.take i),?_,?_⟩)
   ·simp only[ZJ hh,Da,Sa (show¬((QT (ps.take i)).length:Int)<32 by omega),Ba]
   ·have hd:QT ps=QT (ps.take i):=by
     conv=>lhs;rw[<-Pf i ps]
     unfold QT at hf ⊢;rw[List.foldl_append];exact RN _ (by omega)
    rw[hd]
 ·have:i=ps.length:=by omega
  subst this;refine .inr (.inl ⟨QT ps,?_,rfl⟩);simp only[Z6,Ba,ve]
theorem zCw{x:List zb}(h:szL x<big):Sw x=some (if errS x=0 then(QT (Ei 17 x),0)else([],errS x)):=by
 unfold Sw;rw[JH (by omega)];simp only[ze,Aa];by_cases he:errS x=0
 ·rw[La he,he];simp only[show((0:Int) != 0)=false from rfl,Ba,OV h,Aa]
 ·rw[Ka he];simp only[Te.2 he,Da]
theorem zBX{x:List zb}(h:szL x<=big):ow x=some (if errS x=0 then((oneS x).1,(oneS x).2,0)else(⟨[],[],false⟩,false,errS x)):=by
 unfold ow;simp only[KD h,CQ h,ze,Aa];by_cases he:errS x=0
 ·rw[La he,he];rfl
 ·rw[Ka he,Te.2 he,Da]
theorem zBB{x:List zb}(h:szL x<=big):Yx x=some (if errS x=0 then((oneS x).1,(oneS x).2,0)else(⟨[],[],false⟩,false,errS x)):=by
 unfold Yx;simp only[JH h,TP h,ze,Aa];by_cases he:errS x=0
 ·rw[La he,he];rfl
 ·rw[Ka he,Te.2 he,Da]
theorem IG{s:Str}(h:s.length<=500\/4000<s.length):wtT (qY s).1<big:=by
 have hbig:big=4194304:=rfl;unfold qY;split
 ·rw[wtT];omega
 split
 ·rw[wtT];omega
 have h1:=WH s;have h2:=VV (Proofs.Cl.cleanS s);show wtT (Kg (Proofs.Cl.cleanS s))<big;omega
def Sn(s:Str):List Za×Int:=
 if(qY s).2=0 then(if(parS (qY s).1).2=0 then(QT (Ei 17 (parS (qY s).1).1),0)else([],(parS (qY s).1).2))else([],(qY s).2)
theorem zAH{s:Str}(h:s.length<=500\/4000<s.length):Rx s=some (Sn s):=by
 have hw:=IG h;have hs:=VF (qY s).1;unfold Rx Sn;simp only[O3,ze,Aa,parseF];by_cases h1:(qY s).2=0
 ·rw[La h1,h1];simp only[show((0:Int) != 0)=false from rfl,Ba];by_cases h2:(parS (qY s).1).2=0
  ·have h3:=(OY h2).1;rw[La h2,h2];simp only[show((0:Int) != 0)=false from rfl,Ba,gU (x:=(parS (qY s).1).1) (by omega),La h3,Aa]
  ·rw[Ka h2];simp only[Te.2 h2,Da]
 ·rw[Ka h1];simp only[Te.2 h1,Da]
theorem aW{s:Str}(h:s.length<=500\/4000<s.length):Gy s=some (Sn s):=by
 have hw:=IG h;have hs:=VF (qY s).1;unfold Gy Sn;rw[U0 (by omega)];simp only[ze,Aa];by_cases h1:(qY s).2=0
 ·rw[La h1,h1];simp only[show((0:Int) != 0)=false from rfl,Ba,GY (l:=(qY s).1) (by omega),Aa];by_cases h2:(parS (qY s).1).2=0
  ·rw[La h2,h2];simp only[show((0:Int) != 0)=false from rfl,Ba,OV (x:=(parS (qY s).1).1) (by omega),Aa]
  ·rw[Ka h2];simp only[Te.2 h2,Da]
 ·rw[Ka h1];simp only[Te.2 h1,Da]
def szD(l:List Za):Prop:=l.length<=big/\ ∀d∈l,szL d.value<=big
theorem PP{d:Za}(h:szL d.value<=big):Nq (d,d)=some true:=by unfold Nq;simp only[Vd,Da,zn,UW h,ze,Aa]
theorem OP{l:List Za}(h:szD l):Wt (l,l)=some true:=by
 unfold Wt;have hne:((l.length:Int) != (l.length:Int))=false:=by simp
 simp only[hne,Ba];refine(VC l (fun i (_:Unit)=>(i:Int)) (fun v (_:Unit)=>some (.again ())) (fun _=>some (.out ())) (a:=()) rfl (fun i a hi=> ?_) (fun a=> ?_) (r:= .out ()) ?_)
 ·have hw:=Zb hi h.1;simp only[ZJ hi,Da,Zw hi,ze,Aa,PP (h.2 _ (Ad hi)),Fb,Ba,hw];rfl
 ·simp only[Z6,Ba];rfl
 ·rw[Q0 (fun a v=>a) (fun v a=>rfl)]
theorem sU{x:List zb}(h:szL x<=big):szL (oneS x).1.value<=big:=by
 have hno:szL noD.1.value<=big:=by show szL []<=big;rw[szL];exact Jb _
 unfold oneS;split
 ·exact hno
 ·rename_i n r hy;obtain⟨hn,hr,her,hp⟩:=tH h hy;cases n.token.kind==1 with
  |false=>exact hno
  |true=>
   rw[Da];split
   ·exact hno
   ·rename_i c q hq;obtain⟨hv,hh,he⟩:=hp hq;cases c.token.kind==16 with
    |false=>exact hno
    |true=>
     rw[Da];cases Sk ⟨nmD n.token.text,(Wh (q.dropWhile isSp)).1,(Wh (q.dropWhile isSp)).2⟩with
     |false=>exact hno
     |true=>exact Lb (bi (aF hh he).2.2) hv
theorem DN{ps:List (List zb)}(h: ∀p∈ps,szL p<=big):szD (QT ps):=by
 refine⟨Lb (SH ps) (by decide),?_⟩;unfold QT;have key: ∀(ps:List (List zb)) (a:List Za),(∀p∈ps,szL p<=big)->(∀d∈a,szL d.value<=big)-> ∀d∈ps.foldl Mj a,szL d.value<=big:=by
  intro ps
  induction ps with
  |nil=>intro a _ h;exact h
  |cons p ps ih=>
   intro a h1 h2;refine ih _ (fun q hq=>h1 q (Ob _ hq)) (fun d hd=> ?_);unfold Mj at hd;cases hb:(oneS p).2&&decide (a.length<32)with
   |false=>rw[hb]at hd;exact h2 d hd
   |true=>
    rw[hb,Da]at hd;rcases Sb.1 hd with hd|hd
    ·exact h2 d hd
    ·rw[Ra.1 hd];exact sU (h1 p (jb ..))
 exact key ps [] h (fun d hd=>by cases hd)
theorem l8{v:List zb}{s:Str}(h:szL v<big):TE (v,s)=some true:=by
 unfold TE;obtain⟨g,hg⟩:=EZ (l:=v) (by omega);simp only[hg,ze,Aa];cases hb:(bif bif g then true else bif decide ((s.length:Int)>500)then decide ((s.length:Int)<=4000)else false then true else decide ((s.length:Int)>4100))with
 |true=>rfl
 |false=>
  have hl:s.length<=500\/4000<s.length:=by
   rcases Mc 500 s.length with q|q
   ·rcases Mc 4000 s.length with q2|q2
    ·exact .inr q2
    ·rw[Ia (show(s.length:Int)>500 by omega),Ia (show(s.length:Int)<=4000 by omega),Da]at hb;cases g<;>cases hb
   ·exact .inl q
  have h1: ∀(b:Bool) (o:Za×Bool×Int),(bif (bif b then o.2.1==o.2.1 else false)then o.2.2==o.2.2 else false)=b:=by intro b o;rw[Vd,Vd];cases b<;>rfl
  have hd1:szD (if errS v=0 then(QT (Ei 17 v),(0:Int))else([],errS v)).1:=by
   split
   ·exact DN (kC h).2
   ·exact⟨Jb _,fun d hd=>by cases hd⟩
  have hd2:szD (Sn s).1:=by
   have hw:=IG hl;have hs:=VF (qY s).1;unfold Sn;split
   ·split
    ·exact DN (kC (x:=(parS (qY s).1).1) (by omega)).2
    ·exact⟨Jb _,fun d hd=>by cases hd⟩
   ·exact⟨Jb _,fun d hd=>by cases hd⟩
  have hs1:szL (if errS v=0 then((oneS v).1,(oneS v).2,(0:Int))else((⟨[],[],false⟩:Za),false,errS v)).1.value<=big:=by
   split
   ·exact sU (by omega)
   ·show szL []<=big;rw[szL];exact Jb _
  simp only[Ba,zBX (x:=v) (by omega),zBB (x:=v) (by omega),gU h,zCw h,zAH hl,aW hl,Aa];generalize (if errS v=0 then(QT (Ei 17 v),(0:Int))else([],errS v))=A at*;generalize (if errS v=0 then((oneS v).1,(oneS v).2,(0:Int))else((⟨[],[],false⟩:Za),false,errS v))=B at*;generalize Sn s=C at*;simp only[PP hs1,Vd,Da,zn,OP hd1,OP hd2,Aa]
end Go.Lv.VT
