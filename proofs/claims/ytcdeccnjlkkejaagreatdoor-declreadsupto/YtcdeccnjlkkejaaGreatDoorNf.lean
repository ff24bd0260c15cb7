/- Parsing of tokens: what the machine of nest.Parse computes is what the reference's recursion computes. -/
import Derived.Test.YtcdeccnjlkkejaaGreatDoorNa
import Derived.Test.YtcdeccnjlkkejaaGreatDoorTy
import Derived.Test.YtcdeccnjlkkejaaGreatDoorNb
import Derived.Test.YtcdeccnjlkkejaaGreatDoorNe
import Derived.Test.YtcdeccnjlkkejaaGreatDoorNam
set_option linter.unusedSimpArgs false
set_option linter.unusedVariables false
namespace Go.Lv.VT
set_option maxRecDepth 100000
def qW:Nat->List zf->Int->Nat->Option (List zb×List zf)
 |0,_,_,_=>none
 |_+1,[],_,_=>some ([],[])
 |n+1,t::r,c,left=>
  if c≠0/\t.kind=c then some ([],r)
  else if zq t.kind=0 then(qW n r c left).map fun v=>(⟨t,[]⟩::v.1,v.2)
  else match left with
   |0=>none
   |m+1=>(qW n r (zq t.kind) m).bind fun w=>(qW n w.2 c (m+1)).map fun v=>(⟨t,w.1⟩::v.1,v.2)
theorem Nl(n:Nat)(t:zf)(r:List zf)(c:Int)(left:Nat):qW (n+1) (t::r) c left=if c≠0/\t.kind=c then some ([],r)
  else if zq t.kind=0 then(qW n r c left).map fun v=>(⟨t,[]⟩::v.1,v.2)
  else match left with
   |0=>none
   |m+1=>(qW n r (zq t.kind) m).bind fun w=>(qW n w.2 c (m+1)).map fun v=>(⟨t,w.1⟩::v.1,v.2):=rfl
theorem EC: ∀(n:Nat) (l:List zf) (c:Int) (left:Nat) (v:List zb×List zf),qW n l c left=some v->v.2<:+l
 |0,_,_,_,_,h=>by cases h
 |n+1,[],c,left,v,h=>by
  rw[qW]at h
  grind
 |n+1,t::r,c,left,v,h=>by
  rw[Nl]at h;refine List.IsSuffix.trans ?_ (Ae t r);split at h
  ·grind
  split at h
  ·cases a:qW n r c left with
   |none=>grind
   |some w=>rw[a]at h;cases h;exact EC n r c left w a
  ·cases left with
   |zero=>cases h
   |succ m=>
    simp only at h;cases b:qW n r (zq t.kind) m with
    |none=>grind
    |some w=>
     rw[b,Aa]at h;cases a:qW n w.2 c (m+1)with
     |none=>grind
     |some d=> rw[a]at h;cases h;exact(EC n w.2 c _ d a).trans (EC n r _ m w b)
theorem Vo: ∀(n:Nat) (l:List zf) (c:Int) (left:Nat) (v:List zb×List zf),qW n l c left=some v->v.2.length<=l.length/\(l≠[]->v.2.length<l.length)
 |0,_,_,_,_,h=>by cases h
 |n+1,[],c,left,v,h=>by
  rw[qW]at h
  grind
 |n+1,t::r,c,left,v,h=>by
  rw[Nl]at h;have e:v.2.length<=r.length:=by
   split at h
   ·grind
   split at h
   ·cases a:qW n r c left with
    |none=>grind
    |some w=>rw[a]at h;cases h;exact(Vo n r c left w a).1
   ·cases left with
    |zero=>cases h
    |succ m=>
     simp only at h;cases b:qW n r (zq t.kind) m with
     |none=>grind
     |some w=>
      rw[b,Aa]at h;cases a:qW n w.2 c (m+1)with
      |none=>grind
      |some d=>
       rw[a]at h;cases h;have f:=(Vo n r _ m w b).1;have g:=(Vo n w.2 c _ d a).1
       grind
  grind
theorem OC: ∀(n m:Nat) (l:List zf) (c:Int) (left:Nat),l.length<n->l.length<m->qW n l c left=qW m l c left
 |0,_,_,_,_,h,_=>by omega
 |_+1,0,_,_,_,_,h=>by omega
 |n+1,m+1,[],c,left,_,_=>by rw[qW,qW]
 |n+1,m+1,t::r,c,left,a,d=>by
  rw[Ea]at a d;rw[Nl,Nl];rw[OC n m r c left (by omega) (by omega)];cases left with
  |zero=>rfl
  |succ k=>
   simp only;rw[OC n m r (zq t.kind) k (by omega) (by omega)];cases b:qW m r (zq t.kind) k with
   |none=>rfl
   |some w=> have:=(Vo m r _ k w b).1;simp only[Aa];rw[OC n m w.2 c (k+1) (by omega) (by omega)]
def Dm(l:List zf)(s:PSt):Option (List zb):=(qL l s).map fun s=>shutAll s.1 s.2
theorem PP(t:zf)(l:List zf)(s:PSt):Dm (t::l) s=(Qp s t).bind (Dm l):=by unfold Dm;rw[qL];cases Qp s t<;>rfl
theorem eB: ∀(n:Nat) (l:List zf) (cur:List zb) (o:zf) (a:List zb) (st:List (zf×List zb)) (left:Nat),l.length<n->zq o.kind≠0->left+(st.length+1)=16->
  Dm l (cur,(o,a)::st)=(qW n l (zq o.kind) left).bind fun v=>Dm v.2 (a++[⟨o,cur++v.1⟩],st)
 |0,_,_,_,_,_,_,h,_,_=>by omega
 |n+1,[],cur,o,a,st,left,_,_,_=>by rw[qW,Aa];simp only[Dm,qL,Bb,shutAll,Lb]
 |n+1,t::r,cur,o,a,st,left,g,c,f=>by
  rw[Ea]at g;rw[Nl,PP];unfold Qp;simp only[Pq];by_cases e:t.kind=zq o.kind
  ·rw[Na (by grind),Na ⟨c,e⟩,Aa,Aa];simp only[mJ,Lb]
  ·rw[Ka (by grind),Ka (show¬(zq o.kind≠0/\t.kind=zq o.kind)from fun h=>e h.2)];by_cases b:zq t.kind=0
   ·rw[Ka (show¬zq t.kind≠0 from fun h=>h b),Na b,Aa,eB n r _ o a st left (by omega) c f];cases qW n r (zq o.kind) left with
    |none=>rfl
    |some v=>grind
   ·rw[Na b,Ka b];cases left with
    |zero=>grind
    |succ m=>
     rw[Ka (by grind),Aa];simp only;rw[eB n r [] t cur ((o,a)::st) m (by omega) b (by grind)];cases i:qW n r (zq t.kind) m with
     |none=>rfl
     |some w=>
      have d:=(Vo n r _ m w i).1;simp only[Aa];rw[eB n w.2 _ o a st (m+1) (by omega) c f];cases qW n w.2 (zq o.kind) (m+1)with
      |none=>rfl
      |some v=>grind
theorem gG: ∀(n:Nat) (l:List zf) (cur:List zb),l.length<n->Dm l (cur,[])=(qW n l 0 16).map fun v=>cur++v.1
 |0,_,_,h=>by omega
 |n+1,[],cur,_=>by rw[qW];simp only[Dm,qL,Bb,shutAll,Lb]
 |n+1,t::r,cur,c=>by
  rw[Ea]at c;rw[Nl,PP];unfold Qp;simp only[Pq];rw[Ka (by decide),Ka (show¬((0:Int)≠0/\t.kind=0)from fun h=>h.1 rfl)];by_cases a:zq t.kind=0
  ·rw[Ka (show¬zq t.kind≠0 from fun h=>h a),Na a,Aa,gG n r _ (by omega)];cases qW n r 0 16 with
   |none=>rfl
   |some v=>grind
  ·rw[Na a,Ka a,Ka (by decide),Aa];rw[eB n r [] t cur [] 15 (by omega) a rfl];cases d:qW n r (zq t.kind) 15 with
   |none=>rfl
   |some w=>
    have b:=(Vo n r _ 15 w d).1;simp only[Aa];rw[gG n w.2 _ (by omega)];cases qW n w.2 0 16 with
    |none=>rfl
    |some v=>grind
theorem TB: ∀(a b:List zb),tokL (a++b)=tokL a++tokL b
 |[],b=>by rw[tokL];rfl
 |v::a,b=>by rw[Tc,tokL,tokL,TB a b,Ec]
theorem fF(v:zb):tokL [v]=tokV v:=by rw[tokL,tokL,Lb]
def Di(s:PSt):Nat:=(tokL s.1).length+(s.2.map fun x=>1+(tokL x.2).length).sum
def ry(s:PSt):Prop:= ∀x∈s.2,zq x.1.kind≠0
theorem pY{s s':PSt}{t:zf}(h:Qp s t=some s')(c:ry s):ry s'/\Di s'=Di s+1:=by
 unfold Qp at h;obtain⟨g,f⟩:=s;split at h
 ·rename_i d;cases f with
  |nil=>cases d
  |cons x f=> obtain⟨o,e⟩:=x;cases h;have a:zq o.kind≠0:=c (o,e) (Dc ..);refine⟨fun x b=>c x (Xb _ b),?_⟩;simp only[Di,mJ,TB,fF,Ha,Va,Rf,Eo,Ea,Ka a,Ha,Lc,Db];omega
 split at h
 ·rename_i d a;split at h
  ·cases h
  ·rename_i i;cases h;refine⟨fun x b=> ?_,?_⟩
   ·rcases Jb.1 b with rfl|b
    ·exact a
    ·exact c x b
   ·simp only[Di,Va,Rf,tokL,Db];omega
 ·rename_i d a;cases h;refine⟨c,?_⟩;have a:zq t.kind=0:=Classical.byContradiction a;simp only[Di,TB,fF,Ha,Eo,Ea,Na a,Db];omega
theorem iG: ∀(l:List zf) {s s':PSt},qL l s=some s'->ry s->ry s'/\Di s'=Di s+l.length
 |[],s,s',h,b=>by cases h;grind
 |t::l,s,s',h,b=>by
  rw[qL]at h;cases a:Qp s t with
  |none=>grind
  |some g=>
   rw[a,Aa]at h;obtain⟨c,f⟩:=pY a b;obtain⟨e,d⟩:=iG l h c
   grind
theorem VI: ∀(st:List (zf×List zb)) (cur:List zb),(∀x∈st,zq x.1.kind≠0)->(tokL (shutAll cur st)).length=Di (cur,st)+st.length
 |[],cur,_=>by simp[shutAll,Di]
 |(o,a)::st,cur,h=>by have c:zq o.kind≠0:=h (o,a) (Dc ..);rw[shutAll,VI st _ (fun x b=>h x (Xb _ b))];simp only[Di,TB,fF,Ha,Eo,Ea,Ka c,Ha,Lc,Va,Rf,Ea,Db];omega
def Ug(l:List zf)(c:Int)(left:Nat):Option (List zb×List zf):=qW (l.length+1) l c left
theorem DW(c:Int)(left:Nat):Ug [] c left=some ([],[]):=by unfold Ug;rw[qW]
theorem VF{n:Nat}{l:List zf}{c:Int}{left:Nat}(h:l.length<n):qW n l c left=Ug l c left:=OC n _ l c left h (Ub _)
theorem IZ(t:zf)(r:List zf)(c:Int)(left:Nat):Ug (t::r) c left=if c≠0/\t.kind=c then some ([],r)
  else if zq t.kind=0 then(Ug r c left).map fun v=>(⟨t,[]⟩::v.1,v.2)
  else match left with
   |0=>none
   |m+1=>(Ug r (zq t.kind) m).bind fun w=>(Ug w.2 c (m+1)).map fun v=>(⟨t,w.1⟩::v.1,v.2):=by
 conv=>lhs;unfold Ug;rw[Ea,Nl]
 rw[VF (show r.length<r.length+1 from Ub _)];cases left with
 |zero=>rfl
 |succ m=>
  simp only;rw[VF (show r.length<r.length+1 from Ub _)];cases a:Ug r (zq t.kind) m with
  |none=>rfl
  |some w=> have:=(Vo _ _ _ _ w a).1;simp only[Aa];rw[VF (show w.2.length<r.length+1 by omega)]
def valI(n:Nat):Option (List zb×List zf)->List zb×Int
 |none=>([], -1)
 |some v=>(v.1,((n - v.2.length:Nat):Int))
theorem ap80{n:Nat}(h:n<=big):Zo n 1 80=true:=Nk (by grind)
theorem UZ{l:List zf}{i:Nat}{c:Int}{left:Nat}(s:l.length<=big)(hi:i<=l.length)(F:left<=100):ZX (l,(i:Int),c,(left:Int))=some (valI l.length (Ug (l.drop i) c left)):=by
 have y: ∀x:List zf×Int×Int×Int,(∃(i left:Nat) (c:Int),x=(l,(i:Int),c,(left:Int))/\i<=l.length/\left<=100)->ZX x=some (valI l.length (Ug (l.drop x.2.1.toNat) x.2.2.1 x.2.2.2.toNat)):=by
  intro x p;refine Sk (fun x=>l.length - x.2.1.toNat) (fun x=> ∃(i left:Nat) (c:Int),x=(l,(i:Int),c,(left:Int))/\i<=l.length/\left<=100) (fun x=>valI l.length (Ug (l.drop x.2.1.toNat) x.2.2.1 x.2.2.2.toNat)) (fun S x p u=> ?_) p;obtain⟨i,left,c,rfl,hi,F⟩:=p;simp only[Xa]at u ⊢;unfold GD;refine Rj (fun z=> ∃(j:Nat) (a:List zb),z=((j:Int),a)/\i<=j/\j<=l.length/\a.length<=j/\Ug (l.drop i) c left=(Ug (l.drop j) c left).map fun v=>(a++v.1,v.2)) (fun z=>l.length - z.1.toNat) _ ?_ ⟨i,[],rfl,ma _,hi,Kb _,?_⟩
  ·rintro _ ⟨j,a,rfl,E,C,G,b⟩;rcases Nat.lt_or_eq_of_le C with d|rfl
   ·rw[Pb d,IZ]at b;have o:w64 ((j:Int)+1)=((j+1:Nat):Int):=Za d s;simp only[ZH d,Ca,Mc,Zt d,ZU,ze,Aa];by_cases g:c≠0/\l[j].kind=c
    ·rw[Na g]at b;have r:(c==0)=false:=Ia.2 g.1;have q:(l[j].kind != c)=false:=by rw[g.2,bne_self_eq_false]
     simp only[r,Ba,Ta,Ca,q];refine .inr (.inl ⟨_,rfl,?_⟩);rw[b];simp only[Bb,Lb,valI,o,Oc];congr 2
     grind
    ·rw[Ka g]at b;have q:(bif c==0 then true else(bif !(c==0)then l[j]else default).kind != c)=true:=by
      cases r:c==0 with
      |true=>rfl
      |false=>grind
     simp only[q,Ca,VC,Aa];by_cases h:zq l[j].kind=0
     ·rw[Na h]at b;simp only[h,show((0:Int) != 0)=false from rfl,Ba,zh,o];rw[zC (ap80 (by omega))];refine .inl ⟨_,rfl,⟨j+1,_,rfl,by omega,d,by grind,?_⟩,by grind⟩;rw[b,Option.map_map];congr 1
      grind
     ·rw[Ka h]at b;simp only[show(zq l[j].kind != 0)=true from He.2 h,Ca,o];cases left with
      |zero=> refine .inr (.inr ?_);simp only at b;rw[b];rfl
      |succ m=>
       have D:(((m+1:Nat):Int)==0)=false:=Ia.2 (by omega);have B:w64 (((m+1:Nat):Int) - 1)=(m:Int):=by rw[w64,ZT (by omega) (by omega)];omega
       have t:=u (l,((j+1:Nat):Int),zq l[j].kind,(m:Int)) ⟨j+1,m,_,rfl,d,by omega⟩ (by grind);simp only[Xa]at t;simp only[D,Ba,B,t,Aa];simp only at b;cases k:Ug (l.drop (j+1)) (zq l[j].kind) m with
       |none=> rw[k]at b;refine .inr (.inr ?_);rw[b];rfl
       |some w=> rw[k,Aa]at b;have e:w.2<:+l.drop (j+1):=EC _ _ _ _ w k;have n:=e.length_le;rw[Oc]at n;have A:l.drop (l.length - w.2.length)=w.2:=(List.suffix_iff_eq_drop.1 (e.trans (We _ _))).symm;have f:decide (((l.length - w.2.length:Nat):Int)<0)=false:=Ya (by omega);rw[show valI l.length (some w)=(w.1,((l.length - w.2.length:Nat):Int))from rfl];simp only[f,Ba,zh];rw[zC (ap80 (by omega))];refine .inl ⟨_,rfl,⟨l.length - w.2.length,_,rfl,by omega,by omega,by rw[Ha,Lc];omega,?_⟩,by simp only[Xa];omega⟩;rw[b,A,Option.map_map];congr 1;funext v;simp only[Function.comp,Ec,List.singleton_append]
   ·rw[List.drop_length,DW]at b;refine .inr (.inl ⟨((l.length:Int),a),?_,?_⟩)
    ·simp only[ah,Ba,Md,zG,ze,Aa]
    ·rw[b];simp only[Bb,Lb,valI,Db,Nat.sub_zero];rw[show w64 ((l.length:Int)+1)=(l.length:Int)+1 by rw[w64,ZT (by omega) (by unfold big at s;omega)]];rw[Ka (by omega)]
  ·cases Ug (l.drop i) c left with
   |none=>rfl
   |some v=>rfl
 grind
def wtT:List zf->Nat
 |[]=>0
 |t::r=>1+t.text.length+t.unit.length+wtT r
theorem uJ: ∀l:List zf,l.length<=wtT l
 |[]=>ma _
 |t::r=>by rw[wtT,Ea];have:=uJ r;omega
theorem NB: ∀(n:Nat) (l:List zf) (c:Int) (left:Nat) (v:List zb×List zf),qW n l c left=some v->szL v.1+wtT v.2<=wtT l
 |0,_,_,_,_,h=>by cases h
 |n+1,[],c,left,v,h=>by
  rw[qW]at h;cases h;rw[szL];exact ma _
 |n+1,t::r,c,left,v,h=>by
  rw[Nl]at h;rw[wtT];split at h
  ·cases h;rw[szL];simp only;omega
  split at h
  ·cases a:qW n r c left with
   |none=>rw[a]at h;cases h
   |some w=> rw[a]at h;cases h;have:=NB n r c left w a;simp only[szL,szV];omega
  ·cases left with
   |zero=>cases h
   |succ m=>
    simp only at h;cases b:qW n r (zq t.kind) m with
    |none=>rw[b]at h;cases h
    |some w=>
     rw[b,Aa]at h;cases a:qW n w.2 c (m+1)with
     |none=>rw[a]at h;cases h
     |some d=> rw[a]at h;cases h;have e:=NB n w.2 c _ d a;have f:=NB n r _ m w b;simp only[szL,szV];omega
theorem uE(l:List zf):(qL l ([],[])).map (fun s=>shutAll s.1 s.2)=(Ug l 0 16).map Prod.fst:=gG _ l [] (Ub _)
theorem RU{l:List zf}{s:PSt}(h:qL l ([],[])=some s):szL (shutAll s.1 s.2)<=wtT l:=by
 have a:=uE l;rw[h,Bb]at a;cases b:Ug l 0 16 with
 |none=>rw[b]at a;cases a
 |some v=> rw[b,Bb]at a;injection a with a;have:=NB _ _ _ _ v b;rw[a];omega
theorem vE(l:List zf):szL (parS l).1<=wtT l:=by
 unfold parS;split
 ·rw[szL];exact Kb _
 ·split
  ·rw[szL];exact Kb _
  ·rename_i s a;split
   ·rw[szL];exact Kb _
   ·exact RU a
theorem iY{l:List zf}(e:l.length<=big):Cy l=some (match qL l ([],[])with|none=>([],false)|some s=>(shutAll s.1 s.2,true)):=by
 unfold Cy;have h:=UZ (l:=l) (i:=0) (c:=0) (left:=16) e (Kb _) (by omega);rw[Ye]at h;replace h:ZX (l,0,0,16)=_:=h;rw[h,ze,Aa];have a:=uE l;cases d:Ug l 0 16 with
 |none=>
  rw[d]at a;cases b:qL l ([],[])with
  |none=>rfl
  |some s=>rw[b]at a;cases a
 |some v=>
  rw[d]at a;cases b:qL l ([],[])with
  |none=>rw[b]at a;cases a
  |some s=> rw[b,Bb,Bb]at a;injection a with a;exact congrArg some (Prod.ext a.symm (La (show((l.length - v.2.length:Nat):Int)>=0 by omega)))
theorem XX{l:List zf}(h:wtT l<=big):ax l=some (parS l):=by
 have k:=uJ l;unfold ax parS;by_cases a:1500<l.length
 ·rw[Na a,La (show(l.length:Int)>1500 by omega)];rfl
 ·rw[Ka a,Ya (show¬(l.length:Int)>1500 by omega),Ba,iY (by omega)];simp only[ze,Aa];cases b:qL l ([],[])with
  |none=>rfl
  |some s=>
   have f:=RU b;obtain⟨e,j⟩:=iG l b (fun x g=>by cases g);have i:=VI s.2 s.1 e;have d:Di (s.1,s.2)=l.length:=by rw[show(s.1,s.2)=s from rfl,j];simp[Di,tokL]
   simp only[Cb,Ba,SH (show szL (shutAll s.1 s.2)<=big by omega),Aa];rw[d]at i;by_cases c:1500<l.length+s.2.length
   ·rw[Na c,La (show((tokL (shutAll s.1 s.2)).length:Int)>1500 by omega)];rfl
   ·rw[Ka c,Ya (show¬((tokL (shutAll s.1 s.2)).length:Int)>1500 by omega)];rfl
theorem NC: ∀(n:Nat) (l:List zf) (c:Int) (left:Nat) (v:List zb×List zf),qW n l c left=some v->shL v.1 c=true/\yf v.1<=left/\(∀t∈v.2,t∈l)/\ ∀t∈tokL v.1,t∈l\/(t.text=[]/\t.unit=[])
 |0,_,_,_,_,h=>by cases h
 |n+1,[],c,left,v,h=>by
  rw[qW]at h;cases h;exact⟨by rw[shL],by rw[yf];grind,fun t a=>a,fun t a=>by rw[tokL]at a;cases a⟩
 |n+1,t::r,c,left,v,h=>by
  rw[Nl]at h;split at h
  ·cases h;exact⟨by rw[shL],by rw[yf];grind,fun t a=>Xb _ a,fun t a=>by rw[tokL]at a;cases a⟩
  rename_i A;have j:(c != 0&&t.kind==c)=false:=by
   cases y:(c != 0&&t.kind==c)with
   |false=>rfl
   |true=>grind
  split at h
  ·rename_i b;cases e:qW n r c left with
   |none=>grind
   |some w=>
    rw[e]at h;cases h;obtain⟨g,p,f,q⟩:=NC n r c left w e;refine⟨?_,?_,fun t a=>Xb _ (f t a),fun u d=> ?_⟩
    ·rw[shL,shV,g,j,b];rfl
    ·rw[yf,Li,Na b];omega
    ·rw[tokL,tokV,Na b]at d
     grind
  ·rename_i b;cases left with
   |zero=>cases h
   |succ m=>
    simp only at h;cases i:qW n r (zq t.kind) m with
    |none=>grind
    |some w=>
     rw[i,Aa]at h;cases e:qW n w.2 c (m+1)with
     |none=>grind
     |some k=>
      rw[e]at h;cases h;obtain⟨g,p,f,q⟩:=NC n r _ m w i;obtain⟨o,B,x,z⟩:=NC n w.2 c _ k e;have s:(zq t.kind==0)=false:=Ia.2 b;refine⟨?_,?_,fun u d=>Xb _ (f u (x u d)),fun u d=> ?_⟩
      ·rw[shL,shV,g,o,j,s,Cb,Md];rfl
      ·rw[yf,Li,Ka b];omega
      ·rw[tokL,tokV,Ka b,Tc,Ec]at d
       grind
theorem iX{l:List zf}(h:(parS l).2=0):errS (parS l).1=0/\ ∀t∈tokL (parS l).1,t∈l\/(t.text=[]/\t.unit=[]):=by
 unfold parS at h ⊢;split at h
 ·cases h
 rename_i k;rw[Ka k];split at h
 ·cases h
 rename_i s b;split at h
 ·cases h
 rename_i m;rw[Ka m];have a:=uE l;rw[b,Bb]at a;cases d:Ug l 0 16 with
 |none=>grind
 |some v=>
  rw[d,Bb]at a;injection a with a;obtain⟨p,n,o,i⟩:=NC _ _ _ _ _ d;obtain⟨e,j⟩:=iG l b (fun x g=>by cases g);have c:=VI s.2 s.1 e;have f:Di (s.1,s.2)=l.length:=by rw[show(s.1,s.2)=s from rfl,j];simp[Di,tokL]
  rw[f]at c;simp only[a]at c ⊢;refine⟨?_,i⟩;unfold errS
  grind
theorem Dr(l:Str):(zF l).1.length+4*(zF l).2.length<=4*l.length:=by
 match l with
 |[]=>rw[Mx];exact ma _
 |c::r=>
  rw[Dt];split
  ·have:=Dr r;show(c::(zF r).1).length+4*(zF r).2.length<=_;rw[Ea,Ea];omega
  ·split
   ·have h1:=zT r;have h2:=Xk r;have:=Dr (zu r).2;show((zu r).1++(zF (zu r).2).1).length+4*(zF (zu r).2).2.length<=_;rw[Ha,Ea];omega
   ·show 0+4*(c::r).length<=_;omega
termination_by l.length
decreasing_by
 all_goals first|(have:=zT r;simp only[Ea];omega)|(simp only[Ea];omega)
theorem Az{u:Str}{o:Option Str}{t:Str}{k:Nat}(h:o.map (u++ ·)=some t)(hk: ∀t',o=some t'->t'.length<=k):t.length<=u.length+k:=by
 cases o with
 |none=>cases h
 |some t'=> injection h with h;rw[<-h,Ha];have:=hk t' rfl;omega
theorem cB{m:UInt8}{q t:Str}(h:(zR m q).1=some t):t.length+4*(zR m q).2.length<=4*q.length:=by
 match q with
 |[]=>rw[Vm]at h ⊢;cases h;exact ma _
 |c::r=>
  rw[ED]at h ⊢;rw[Ea];split
  ·rename_i h1;rw[Na h1]at h;cases h;show 0+4*r.length<=_;omega
  ·rename_i h1;rw[Ka h1]at h;split
   ·rename_i h2;rw[Na h2]at h;cases h
   ·rename_i h2;rw[Ka h2]at h;split
    ·rename_i h3;rw[Na h3]at h;split
     ·rename_i h4;rw[Na h4]at h;cases h;show 0+4*0<=_;omega
     ·rename_i h4;rw[Ka h4]at h;split
      ·rename_i h5;rw[Na h5]at h;have:=cB (q:=r.drop 1) h;rw[Oc]at this;omega
      ·rename_i h5;rw[Ka h5]at h;have h6:=zT r;have h7:=Xk r;have:=Az (k:=4*(zu r).2.length - 4*(zR m (zu r).2).2.length) h (fun t' ht'=>by have:=cB ht';omega);have h8:=(Ns m (zu r).2).length_le;show t.length+4*(zR m (zu r).2).2.length<=_;omega
    ·rename_i h3;rw[Ka h3]at h;have:=Az (u:=[c]) (k:=4*r.length - 4*(zR m r).2.length) h (fun t' ht'=>by have:=cB ht';omega);have h8:=(Ns m r).length_le;rw[Lc]at this;show t.length+4*(zR m r).2.length<=_;omega
termination_by q.length
decreasing_by
 all_goals first|(have:=zT r;simp only[Ea];omega)|(simp only[Ea,Oc];omega)
theorem lJ{q t:Str}(h:(urlS q).1=some t):t.length+4*(urlS q).2.length<=4*q.length:=by
 match q with
 |[]=>rw[Nr]at h ⊢;cases h;exact ma _
 |c::r=>
  rw[Xo]at h ⊢;rw[Ea];split
  ·rename_i h1;rw[Na h1]at h;cases h;show 0+4*r.length<=_;omega
  ·rename_i h1;rw[Ka h1]at h;split
   ·rename_i h2;rw[Na h2]at h;have hp:=(Mm spB r).length_le;split
    ·rename_i h3;rw[h3]at h;cases h;show 0+4*0<=_;omega
    ·rename_i d r' h3;rw[h3]at h hp;rw[Ea]at hp;simp only at h;split
     ·rename_i h4;rw[Na h4]at h;cases h;show 0+4*r'.length<=_;omega
     ·rename_i h4;rw[Ka h4]at h;cases h
   ·rename_i h2;rw[Ka h2]at h;split
    ·rename_i h3;rw[Na h3]at h;cases h
    ·rename_i h3;rw[Ka h3]at h;split
     ·rename_i h5;rw[Na h5]at h;have h6:=zT r;have h7:=Xk r;have:=Az (k:=4*(zu r).2.length - 4*(urlS (zu r).2).2.length) h (fun t' ht'=>by have:=lJ ht';omega);have h8:=(tq (zu r).2).length_le;show t.length+4*(urlS (zu r).2).2.length<=_;omega
     ·rename_i h5;rw[Ka h5]at h;have:=Az (u:=[c]) (k:=4*r.length - 4*(urlS r).2.length) h (fun t' ht'=>by have:=lJ ht';omega);have h8:=(tq r).length_le;rw[Lc]at this;show t.length+4*(urlS r).2.length<=_;omega
termination_by q.length
decreasing_by
 all_goals first|(have:=zT r;simp only[Ea];omega)|(simp only[Ea];omega)
theorem zCi(c:UInt8)(r:Str):(mf (c::r)).1.text.length+(mf (c::r)).1.unit.length+4*(mf (c::r)).2.length<=4*(r.length+1):=by
 have hs:=(Om c r).length_le;rw[bH]at hs ⊢;split
 ·rename_i h1;rw[Na h1]at hs;simp only[Og,Db]at hs ⊢;omega
 rename_i h1;rw[Ka h1]at hs;split
 ·rename_i h2;rw[Na h2]at hs;simp only at hs ⊢;cases ho:(zR c r).1 with
  |none=>show 0+0+_<=_;omega
  |some t=>have:=cB ho;show t.length+0+_<=_;omega
 rename_i h2;rw[Ka h2]at hs;split
 ·have:=Dr r;simp only[Db];omega
 rename_i h3;rw[Ka h3]at hs;split
 ·rename_i h4;have h5:=(JP h4).length_le;rw[Na h4]at hs;unfold Xi at hs ⊢;split
  ·have:=Dr (Zb (c::r)).1;simp only[Db];omega
  ·rename_i h6;rw[Ka h6]at hs;split
   ·rename_i h7;rw[Na h7]at hs;simp only[Db]at hs ⊢;omega
   ·rename_i h7;rw[Ka h7]at hs;simp only[Db]at hs ⊢;omega
 rename_i h4;rw[Ka h4]at hs;split
 ·rename_i h5;rw[Na h5]at hs;simp only[Og,Db]at hs ⊢;omega
 rename_i h5;rw[Ka h5]at hs;split
 ·rename_i h6;rw[Na h6]at hs;simp only[Og,Db]at hs ⊢;omega
 rename_i h6;rw[Ka h6]at hs;split
 ·have:=Dr r;simp only[Db];omega
 rename_i h7;rw[Ka h7]at hs;split
 ·have hn:=Dr (c::r);rw[Ea]at hn;unfold Mi;split
  ·split
   ·have h8:=(Mm spB ((zF (c::r)).2.drop 1)).length_le;have h9:=(tq (past spB ((zF (c::r)).2.drop 1))).length_le;rw[Oc]at h8;simp only;cases ho:(urlS (past spB ((zF (c::r)).2.drop 1))).1 with
    |none=>show 0+0+_<=_;omega
    |some t=>have:=lJ ho;show t.length+0+_<=_;omega
   ·simp only[Db,Oc];omega
  ·simp only[Db];omega
 split
 ·simp only[Db,Lc];omega
 ·simp only[Og,Db];omega
theorem IU(q:Str):wtT (Xf q)<=5*q.length:=by
 cases hc:cmtS q with
 |nil=>rw[Sr hc,wtT];exact Kb _
 |cons c r=>
  have h2:=(Kj q).length_le;have h3:=(Om c r).length_le;rw[hc,Ea]at h2;rw[Cs hc,wtT];have h4:(mf (c::r)).2.length<q.length:=by omega
  have:=IU (mf (c::r)).2;have:=zCi c r;omega
termination_by q.length
decreasing_by all_goals omega
def clnB(c:UInt8):Str:=if c=0 then [239,191,189]else if c=12\/c=13 then [10]else [c]
def clR:Bool->Str->Str
 |_,[]=>[]
 |cr,c::r=>(if c=10/\cr=true then []else clnB c)++clR (c==13) r
theorem iW(c:UInt8):(clnB c).length<=3:=by
 unfold clnB;split
 ·decide
 ·split<;>simp
theorem fK: ∀(s:Str) (b:Bool),(clR b s).length<=3*s.length
 |[],_=>ma _
 |c::r,b=>by rw[clR,Ha,Ea];have:=fK r (c==13);have:=iW c;split<;>simp<;>omega
theorem BP{c:UInt8}{r:Str}(h:c=13-> ∀q,r≠10::q):Proofs.Cl.cleanS (c::r)=clnB c++Proofs.Cl.cleanS r:=by
 rw[Proofs.Cl.cleanS]
 ·unfold clnB;by_cases h0:c=0
  ·subst h0;rfl
  ·have e0:(c==0)=false:=Ia.2 h0;rw[e0,Ka h0,Ba];by_cases h1:c=12\/c=13
   ·rw[Na h1];rcases h1 with rfl|rfl<;>rfl
   ·rw[Ka h1];have e1:(c==12||c==13)=false:=by simp only[Bf,Ia];exact⟨fun q=>h1 (.inl q),fun q=>h1 (.inr q)⟩
    rw[e1,Ba];rfl
 ·intro r' e1 e2;exact h e1 r' e2
theorem dz: ∀(n:Nat) (s:Str),s.length<=n->clR false s=Proofs.Cl.cleanS s
 |0,s,h=>by obtain rfl:=List.length_eq_zero_iff.1 (Nat.le_zero.1 h);rw[clR,Proofs.Cl.cleanS]
 |n+1,[],_=>by rw[clR,Proofs.Cl.cleanS]
 |n+1,c::r,h=>by
  rw[Ea]at h;rw[clR,Ka (fun q=>by cases q.2)];by_cases hc:c=13
  ·subst hc;rcases r with _|⟨d,r⟩
   ·rfl
   ·rw[Ea]at h;by_cases hd:d=10
    ·subst hd;rw[Proofs.Cl.cleanS,clR,Na ⟨rfl,rfl⟩,<-dz n r (by omega)];rfl
    ·rw[BP (fun _ q e=>hd (List.cons.inj e).1)];rw[<-dz n (d::r) (by rw[Ea];omega),clR,clR,Ka (fun q=>hd q.1),Ka (fun q=>hd q.1)]
  ·rw[BP (fun q=>absurd q hc),<-dz n r (by omega),show(c==13)=false from Ia.2 hc]
def pv13(x:Str):Nat->Bool
 |0=>false
 |i+1=>x[i]? ==some 13
theorem zAO{a:Str}{c:UInt8}{i:Int}(ha:a.length<=9000):(zS (X:=Str×Int) (R:=LX (Str×Int) (LO (Str×Int) Str Str)) (
  bif bif (c.toNat:Int)==13 then true else(c.toNat:Int)==12 then some (LX.out (a,10))else some (LX.out (a,(c.toNat:Int)))) fun j4=>
  bif j4.2==0 then
   need (Uf j4.1.length [(239:UInt8),(191:UInt8),(189:UInt8)].length)<|
   some (LX.out (j4.1++[(239:UInt8),(191:UInt8),(189:UInt8)],i))
  else
   ze (Z0 j4.2) fun y5=>
   need (Uf j4.1.length [y5].length)<|
   some (LX.out (j4.1++[y5],i)))=some (LX.out (a++clnB c,i)):=by
 have hs: ∀m:Str,m.length<=3->Uf a.length m.length=true:=fun m hm=>QT.2 (by omega);rw[show((c.toNat:Int)==13)=(c==13)from qC c 13,show((c.toNat:Int)==12)=(c==12)from qC c 12];by_cases h13:c=13
 ·subst h13;simp only[jd,Ca,zh];rw[show((10:Int)==0)=false from rfl,Ba,show Z0 10=some 10 from rfl,ze,Aa,zC (hs _ (by decide))];rfl
 ·have e13:(c==13)=false:=Ia.2 h13;by_cases h12:c=12
  ·subst h12;simp only[jd,Ca,e13,Ba,zh];rw[show((10:Int)==0)=false from rfl,Ba,show Z0 10=some 10 from rfl,ze,Aa,zC (hs _ (by decide))];rfl
  ·have e12:(c==12)=false:=Ia.2 h12;simp only[e12,e13,Ba,zh];rw[show((c.toNat:Int)==0)=(c==0)from qC c 0];by_cases h0:c=0
   ·subst h0;simp only[jd,Ca];rw[zC (hs _ (by decide))];rfl
   ·have e0:(c==0)=false:=Ia.2 h0;simp only[e0,Ba,ztI,ze,Aa];rw[zC (hs _ (by simp)),clnB,Ka h0,Ka (fun q=>q.elim h12 h13)]
theorem I1{x:Str}(hx:x.length<=3000):Sy x=some (Proofs.Cl.cleanS x):=by
 rw[<-dz x.length x (ma _)];have hl0:=fK x false;unfold Sy;refine Rj (fun z=> ∃(i:Nat) (a:Str),z=(a,(i:Int))/\i<=x.length/\a++clR (pv13 x i) (x.drop i)=clR false x) (fun z=>x.length - z.2.toNat) (clR false x) ?_ ⟨0,[],rfl,Kb _,rfl⟩;rintro _ ⟨i,a,rfl,hi,he⟩;rcases Nat.lt_or_eq_of_le hi with hlt|rfl
 ·refine .inl ⟨(a++(if x[i]=10/\pv13 x i=true then []else clnB x[i]),((i+1:Nat):Int)),?_,⟨i+1,_,rfl,hlt,?_⟩,?_⟩
  ·have hal:a.length<=9000:=by have:=congrArg List.length he;rw[Ha]at this;omega
   have hprev:zn (bif (x[i].toNat:Int)==10 then decide ((i:Int)>0)else false) (geti x (w64 ((i:Int) - 1))) 0=some (bif (bif (x[i].toNat:Int)==10 then decide ((i:Int)>0)else false)then(x[i - 1]?).getD 0 else 0):=by
    cases hb:(bif (x[i].toNat:Int)==10 then decide ((i:Int)>0)else false)with
    |false=>rfl
    |true=>
     have h0:0<i:=by
      cases h10:((x[i].toNat:Int)==10)with
      |false=>rw[h10]at hb;cases hb
      |true=>rw[h10,Ca]at hb;have:=jb hb;omega
     rw[zo,Ca,w64,ZT (by omega) (by omega),show(i:Int) - 1=((i - 1:Nat):Int) by omega,Zt (show i - 1<x.length by omega),Ja (show i - 1<x.length by omega)];rfl
   have hpv:(bif bif (x[i].toNat:Int)==10 then decide ((i:Int)>0)else false then((((bif (bif (x[i].toNat:Int)==10 then decide ((i:Int)>0)else false)then(x[i - 1]?).getD 0 else 0):UInt8).toNat:Int)==13)else false)=decide (x[i]=10/\pv13 x i=true):=by
    rw[show((x[i].toNat:Int)==10)=(x[i]==10)from qC _ 10];by_cases h10:x[i]=10
    ·have e:(x[i]==10)=true:=by rw[h10];rfl
     simp only[e,Ca];cases i with
     |zero=>exact(Ya (fun q=>by cases q.2)).symm
     |succ j=>
      have e0:decide (((j+1:Nat):Int)>0)=true:=La (by omega);have ej:x[j+1 - 1]? =some x[j]:=Ja (show j<x.length by omega);simp only[e0,Ca,ej,Option.getD_some];rw[show((x[j].toNat:Int)==13)=(x[j]==13)from qC _ 13];have ep:pv13 x (j+1)=(x[j]==13):=by show(x[j]? ==some 13)=_;rw[Ja (show j<x.length by omega)];rfl
      rw[ep];cases hq:x[j]==13 with
      |true=>exact(La ⟨h10,rfl⟩).symm
      |false=>exact(Ya (fun q=>by cases q.2)).symm
    ·have e:(x[i]==10)=false:=Ia.2 h10;simp only[e,Ba];exact(Ya (fun q=>h10 q.1)).symm
   simp only[ZH hlt,Ca,Zt hlt,ze,Aa,hprev,hpv];by_cases hc:x[i]=10/\pv13 x i=true
   ·rw[La hc,Ca,Na hc,zh,Lb,Za hlt (by unfold big;omega)]
   ·have hp:=zAO (a:=a) (c:=x[i]) (i:=(i:Int)) hal;simp only[ze]at hp;rw[Ya hc,Ba,hp,zh,Ka hc,Za hlt (by unfold big;omega)]
  ·rw[<-he,Pb hlt,clR,Ec];congr 3;show(x[i]? ==some 13)=_;rw[Ja hlt];rfl
  ·simp only[Xa];omega
 ·refine .inr (.inl ⟨a,?_,?_⟩)
  ·simp only[ah,Ba]
  ·rw[List.drop_length,clR,Lb]at he;rw[he]
theorem WZ{x:Str}(hx:x.length<=3000\/4000<x.length):Dy x=some (qV x):=by
 unfold Dy rC qV;by_cases hlong:4000<x.length
 ·rw[Na hlong,La (show(x.length:Int)>4000 by omega)];rfl
 ·have h3:x.length<=3000:=by omega
  have hc:=sG x;obtain⟨sp,hcut⟩:=zDr (s:=Proofs.Cl.cleanS x) (by omega);rw[Ka hlong,Ya (show¬(x.length:Int)>4000 by omega)];simp only[Ba,I1 h3,ze,Aa,hcut];rw[show((0:Int) != 0)=false from rfl,Ba];by_cases hm:1500<(Xf (Proofs.Cl.cleanS x)).length
  ·rw[Na hm,La (show((Xf (Proofs.Cl.cleanS x)).length:Int)>1500 by omega)];rfl
  ·rw[Ka hm,Ya (show¬((Xf (Proofs.Cl.cleanS x)).length:Int)>1500 by omega)];rfl
theorem EI{α:Type}(l:List α):((l.length:Int)==0)=l.isEmpty:=by
 cases l with
 |nil=>rfl
 |cons a l=>exact Ia.2 (by simp only[Ea];omega)
theorem Uw(v:zb):(⟨v.token,v.list⟩:zb)=v:=by cases v;rfl
def Uj(x:Str):Bool:= !(x==[])&&(decide (x.length<=64)&&(QE x&&(bif List.isPrefixOf [45,45] x then !(x==[45,45])else lowS x==x)))
theorem G9{x:Str}(h:x.length<=big):ww x=some (Uj x):=by
 have e:decide ((x.length:Int)>64)= !decide (x.length<=64):=VE _ 64;have e1:decide (Lib.indexByte x (0:Int).toNat.toUInt8>=0)= !QE x:=iK x;have ec:=oN x (lowS x);unfold ww Uj;simp only[nI,ZU,ze,Aa,Ep,WC h,e,ec];cases x==[]<;>cases decide (x.length<=64)<;>try rfl
 simp only[Ca,Ba,Cb,Ta,Ob,Gg,e1];cases QE x<;>cases List.isPrefixOf [45,45] x<;>rfl
theorem rF(x:Str):(bif decide ((x.length:Int)>=2)then List.take 2 x==[45,45]else false)=List.isPrefixOf [45,45] x:=by
 cases x with
 |nil=>rfl
 |cons a x=>
  cases x with
  |nil=>show(bif decide _ then _ else _)=((45==a)&&false);rw[Md];rfl
  |cons b x=> have:decide ((((a::b::x:Str)).length:Int)>=2)=true:=La (by simp only[Ea];omega);rw[this];show((a==45)&&((b==45)&&true))=((45==a)&&((45==b)&&true));rw[Bool.beq_comm (a:=a),Bool.beq_comm (a:=b)]
theorem KL{x:Str}(h:List.isPrefixOf [45,45] x=true):decide ((x.length:Int)>2)= !(x==[45,45]):=by
 obtain⟨t,rfl⟩:=pg.1 h;cases t with
 |nil=>rfl
 |cons a t=> have:decide ((([45,45]++a::t:Str).length:Int)>2)=true:=La (by simp only[Ha,Ea];omega);rw[this];rfl
theorem W9{x:Str}(h:x.length<=big):Wx x=some (Uj x):=by
 have e:decide ((x.length:Int)>64)= !decide (x.length<=64):=VE _ 64;have en:decide ((x.length:Int)<1)=(x==[]):=by cases x with
  |nil=>rfl
  |cons a x=>exact Ya (by simp only[Ea];omega)
 have ec:=oN x (lowS x);have hk:(need (decide ((2:Int)<=(x.length:Int))|| !(decide ((x.length:Int)>=2)))<|
   bif bif decide ((x.length:Int)>=2)then List.take 2 x==[45,45]else false then some (decide ((x.length:Int)>2))else ze (ZP x) fun y4=>some (x==y4))=some (bif List.isPrefixOf [45,45] x then !(x==[45,45])else lowS x==x):=by
  have e2:(decide ((2:Int)<=(x.length:Int))|| !(decide ((x.length:Int)>=2)))=true:=by show(decide _|| !decide ((2:Int)<=_))=true;cases decide ((2:Int)<=(x.length:Int))<;>rfl
  rw[e2,Zu,rF];cases hp:List.isPrefixOf [45,45] x with
  |true=>rw[Ca,Ca,KL hp]
  |false=>simp only[Ba,wB h,ze,Aa,ec]
 unfold Wx Uj;rw[hk];have hl: ∀b:Bool,zY (fun(s1:Int)=>bif decide (s1<(x.length:Int))then
    ze (geti x s1) fun y2=>bif (y2.toNat:Int)==0 then some (LO.ret false)else some (LO.again (w64 (s1+1)))
   else some (LO.out ()):Int->Option (LO (Int) (Unit) _)) 0 (fun _=>some b)=some (QE x&&b):=by
  intro b;refine(Ox x (fun b=>bif (!(b==0))then none else some false) () (fun i hi=> ?_) ?_).trans ?_
  ·simp only[ZH hi,Ca,Zt hi,ze,Aa,byte_zero,Za hi h];cases x[i]==0<;>rfl
  ·simp only[ah,Ba]
  ·rw[AB];unfold QE;cases x.all (fun b=> !(b==0))<;>rfl
 rw[hl,e,en];cases x==[]<;>cases decide (x.length<=64)<;>rfl
def clK(v:zb):Bool:=v.token.kind==20||(v.token.kind==22||v.token.kind==24)
mutual
def clV:zb->Bool
 |⟨t,l⟩=>clK ⟨t,l⟩||clL l
def clL:List zb->Bool
 |[]=>false
 |v::r=>clV v||clL r
end
theorem bU(v:zb):clV v=(clK v||clL v.list):=by obtain⟨t,l⟩:=v;rw[clV]
theorem gK(l:List zb):clL l=l.any clV:=by
 induction l with
 |nil=>rw[clL];rfl
 |cons v l ih=>rw[clL,ih];rfl
theorem zlu{l:List zb}(h:szL l<=big):zz l=some (clL l):=by
 refine Sk (fun l=>szL l) (fun l=>szL l<=big) (fun l=>clL l) (fun S l hl hS=> ?_) h;have hlen:=Qr l;unfold PD qc qQ;have:=tL (XL (step:=fun(s1:Int)=>
   bif decide (s1<(l.length:Int))then
    ze (geti l s1) fun y2=>
    ze (QW S (⟨y2.token,y2.list⟩:zb)) fun y3=>
    bif y3 then some (LO.ret s1)else some (LO.again (w64 (s1+1)))
   else some (LO.out ())) l clV (by omega) (fun i hi=> ?_) ?_) (lF _ _)
 ·rw[this,gK];rfl
 ·have hsz:=ui (Sc hi);have hv2:=Jh l[i];have hs:=hS l[i].list (by omega) (by omega);have:QW S l[i]=some (clV l[i]):=by unfold QW ZE;simp only[Uw,ZU,ze,Aa,hs,bU,clK];cases l[i].token.kind==20<;>cases l[i].token.kind==22<;>cases l[i].token.kind==24<;>rfl
  simp only[ZH hi,Ca,Zt hi,ze,Aa,Uw,this]
 ·simp only[ah,Ba]
theorem zkf{l:List zb}(h:szL l<=big):qb l=some (clL l):=by
 refine Sk (fun l=>szL l) (fun l=>szL l<=big) (fun l=>clL l) (fun S l hl hS=> ?_) h;have hlen:=Qr l;unfold oD;refine(Ox l (fun v=>bif clV v then some true else none) () (fun i hi=> ?_) ?_).trans ?_
 ·have hsz:=ui (Sc hi);have hv2:=Jh l[i];have hs:=hS l[i].list (by omega) (by omega);simp only[ZH hi,Ca,Zt hi,ze,Aa,bU,clK,Za hi (show l.length<=big by omega)];cases h1:l[i].token.kind==20<;>cases h2:l[i].token.kind==22<;>cases h3:l[i].token.kind==24<;>
   first|rfl|(simp only[Ba,Ta,zo,Aa,hs,Ve];cases clL l[i].list<;>rfl)
 ·simp only[ah,Ba]
 ·rw[IG,gK];cases l.any clV<;>rfl
def ul(l:List zb):Bool:=match l with
 |[]=>false
 |v::r=>isSp v||isSp ((v::r).getLast (by simp))
theorem eZ(t:List zb)(v:zb):ul (t++[v])=((match t with|[]=>isSp v|a::_=>isSp a)||isSp v):=by
 cases t with
 |nil=>rfl
 |cons a t=> show(isSp a||isSp ((a::(t++[v])).getLast _))=_;congr 2;have:(a::(t++[v]))=(a::t)++[v]:=rfl;simp only[this,List.getLast_append_of_ne_nil,List.getLast_singleton,ne_eq,reduceCtorEq,Gf]
theorem fM(l:List zb):(trimB l).length<=l.length:=(Rm l).length_le
theorem JZ(l:List zb):((trimS l).length==l.length)= !ul l:=by
 rcases Qm l with rfl|⟨t,v,rfl⟩
 ·rfl
 ·rw[eZ];have hl:(t++[v]).length=t.length+1:=by simp
  cases t with
  |nil=>
   show((trimB (List.dropWhile isSp [v])).length==1)= !(isSp v||isSp v);cases hv:isSp v with
   |true=>simp only[yc,hv];rfl
   |false=> simp only[yc,hv];have:=uo [] v;rw[hv]at this;show((trimB [v]).length==1)=true;rw[show trimB [v]=[v]from this];rfl
  |cons a t=>
   show((trimB (List.dropWhile isSp (a::(t++[v])))).length==_)= !(isSp a||isSp v);have hb:=fM (List.dropWhile isSp (a::(t++[v])));cases ha:isSp a with
   |true=> simp only[yc,ha,Od]at hb ⊢;have hd:=(Je isSp (l:=t++[v])).length_le;rw[Nf,Cb,Ia];rw[hl,Ea];rw[Ha,Lc]at hd;omega
   |false=>
    have e:List.dropWhile isSp (a::(t++[v]))=(a::t)++[v]:=by rw[yc,ha];rfl
    rw[e,uo];cases hv:isSp v with
    |true=> have:=fM (a::t);rw[Na rfl,Bool.or_true,Cb,Ia,hl];omega
    |false=>simp
theorem YY{l:List zb}(h:l.length<=big)(g:Bool)(hg:(l.isEmpty&&g)=false)(k:Bool->Option Int):
  (ze (zn (decide ((l.length:Int)>0)&& !g) (geti l 0) (default:zb)) fun y7=>
   ze (zn (decide ((l.length:Int)>0)&& !g) (ZE ((⟨y7.token,y7.list⟩:zb),13)) (default:Bool)) fun y8=>
   ze (zn (!y8&&(decide ((l.length:Int)>0)&& !g)) (geti l (w64 ((l.length:Int) - 1))) (default:zb)) fun y9=>
   ze (zn (!y8&&(decide ((l.length:Int)>0)&& !g)) (ZE ((⟨y9.token,y9.list⟩:zb),13)) (default:Bool)) fun y10=>
   k (bif decide ((l.length:Int)>0)then bif y8 then true else y10 else false))=(if g=true/\l≠[]then(k (bif decide ((l.length:Int)>0)then bif (default:Bool)then true else(default:Bool)else false))else k (ul l)):=by
 cases l with
 |nil=> have:decide ((([]:List zb).length:Int)>0)=false:=rfl;simp only[this,Rc,zG,ze,Aa,Md,Ba,ne_eq,not_true_eq_false,and_false,Cf,ul]
 |cons v r=>
  have e1:decide (((v::r).length:Int)>0)=true:=La (by simp only[Ea];omega);have e2:geti (v::r) 0=some v:=rfl;cases g with
  |true=>simp only[e1,Cb,Md,zG,ze,Aa,Ca,ne_eq,reduceCtorEq,Gf,and_self,Od]
  |false=>
   simp only[e1,Ta,Mc,zo,ze,Aa,Ca,e2,ZE,false_and,Cf,reduceCtorEq];have e3:w64 (((v::r).length:Int) - 1)=(r.length:Int):=by rw[Ea]at h ⊢;rw[w64,ZT (by omega) (by unfold big at h;omega)];omega
   have e4:geti (v::r) (r.length:Int)=some ((v::r).getLast (by simp)):=by rw[Zt (by simp),List.getLast_eq_getElem];simp
   rw[e3,e4];simp only[ZU,Aa,ul,isSp];cases v.token.kind==13<;>rfl
def badV(v:zb):Bool:=v.token.kind==17||(v.token.kind==9&&v.token.text==[33])
def Ku(custom:Bool)(l:List zb):Bool:= !(l.any badV)&&(!(l.isEmpty&& !custom)&& !ul l)
def Vj(d:z8):Bool:=Uj d.name&&(errS d.value==0&&(gluS (tokL d.value)==0&&(!clL d.value&&Ku (List.isPrefixOf [45,45] d.name) d.value)))
mutual
theorem UV: ∀(v:zb) (t:zf),t∈tokV v->t.text.length<=szV v/\t.unit.length<=szV v
 |⟨t,l⟩,u,h=>by
  rw[tokV]at h;rw[szV];rcases Jb.1 h with rfl|h
  ·constructor<;>omega
  ·split at h
   ·cases h
   ·rcases Vb.1 h with h|h
    ·have:=SB l u h;omega
    ·obtain rfl:=Oa.1 h;exact⟨Kb _,Kb _⟩
theorem SB: ∀(l:List zb) (t:zf),t∈tokL l->t.text.length<=szL l/\t.unit.length<=szL l
 |[],_,h=>by rw[tokL]at h;cases h
 |v::r,u,h=>by
  rw[tokL]at h;rw[szL];rcases Vb.1 h with h|h
  ·have:=UV v u h;omega
  ·have:=SB r u h;omega
end
theorem BX{l:List zb}(h:szL l<=big):Rs (tokL l)=some (gluS (tokL l)):=
 u7 fun t ht=>by have:=SB l t ht;omega
theorem zA3{l:List zb}(h:szL l<=big):Jp (tokL l)=some (gluS (tokL l)):=
 l9 fun t ht=>by have:=SB l t ht;omega
theorem M7{l:List zb}(h:l.length<=big):Zp l=some (l.any badV):=by
 unfold Zp qj;refine tL (XL l badV h (fun i hi=> ?_) ?_) (lF _ _)
 ·have:Gy l[i]=some (badV l[i]):=by unfold Gy Kl ZE badV;simp only[Uw,ZU,ze,Aa];cases l[i].token.kind==17<;>cases l[i].token.kind==9<;>rfl
  simp only[ZH hi,Ca,Zt hi,ze,Aa,Uw,this]
 ·simp only[ah,Ba]
theorem H9{d:z8}(hv:szL d.value<=big)(hn:d.name.length<=big):xw d=some (bif Vj d then 0 else 8):=by
 have hlen:=Qr d.value;unfold xw Vj;rw[l6 hv];simp only[ze,Aa,G9 hn];cases Uj d.name with
 |false=>simp only[Ta,Ca,Cb,zG,Aa,Rc,Ba]
 |true=>
  by_cases he:errS d.value=0
  ·rw[Na he];have he':(errS d.value==0)=true:=Uc.2 he;have this:((0:Int)==0)=true:=rfl;simp only[he',this,Cb,Ba,Ta,zo,BX hv,Aa,Ob,bne];cases hg:gluS (tokL d.value)==0 with
   |false=>simp only[Ta,Ca,Cb,zG,Aa,Rc,Ba]
   |true=>
    simp only[Cb,Ba,Ta,zo,zlu hv,Aa,Ob];cases clL d.value with
    |true=>rfl
    |false=>
     simp only[Ba,M7 (show d.value.length<=big by omega),Aa,Ku,Ta,Ob];cases d.value.any badV with
     |true=>rfl
     |false=>
      simp only[Ba,Ep,ZU,Aa,EI,Ta,Ob];have hp:=YY (l:=d.value) (by omega) (bif d.value.isEmpty then !(bif d.value.isEmpty then List.isPrefixOf [45,45] d.name else default)else false);cases hd:d.value with
      |nil=>
       cases List.isPrefixOf [45,45] d.name<;>rfl
      |cons v r=> have hp':=hp (by rw[hd];rfl) (fun b=>bif b then some 8 else some 0);rw[hd]at hp';simp only[List.isEmpty_cons,Ba,Xd,false_and,Cf]at hp';simp only[List.isEmpty_cons,Ba,Rc,Ta,Ob];refine Eq.trans hp' ?_;cases ul (v::r)<;>rfl
  ·rw[Ka he];have he':(errS d.value==0)=false:=Ia.2 he;simp only[he',bne,Cb,Ba,Ta,Ca,zG,Aa,Rc,Md]
theorem yX{x:Str}(hn:Uj x=true):Ay x=some (List.isPrefixOf [45,45] x):=by
 unfold Ay;have e2:(decide ((2:Int)<=(x.length:Int))|| !(decide ((x.length:Int)>2)))=true:=by
  by_cases h:2<=x.length
  ·rw[La (show(2:Int)<=(x.length:Int) by omega)];rfl
  ·rw[Ya (show¬((x.length:Int)>2) by omega)];simp
 rw[zC e2];have hp:=rF x;cases hpp:List.isPrefixOf [45,45] x with
 |true=> rw[hpp]at hp;have h3:=KL hpp;unfold Uj at hn;rw[hpp]at hn;simp only[Ca,Fa]at hn;rw[hn.2.2.2]at h3;rw[h3];have:decide ((x.length:Int)>=2)=true:=La (by have:=jb h3;omega);rw[this]at hp;exact congrArg some hp
 |false=>
  rw[hpp]at hp;cases h3:decide ((x.length:Int)>2)with
  |false=>rfl
  |true=> have:decide ((x.length:Int)>=2)=true:=La (by have:=jb h3;omega);rw[this]at hp;exact congrArg some hp
theorem zBe{α:Type}(a b:List α):((a.length:Int)==(b.length:Int))=(a.length==b.length):=by rw[Bool.eq_iff_iff,Uc,Uc];omega
theorem zmH{x:Str}{l:List zb}(h:szL l<=big)(hn:Uj x=true):
  yx (x,l)=some (errS l==0&&(gluS (tokL l)==0&&(!clL l&&Ku (List.isPrefixOf [45,45] x) l))):=by
 have hlen:=Qr l;unfold yx;simp only[dG h,SH h,ze,Aa,bne,ZU];cases he:errS l==0 with
 |false=>simp only[Ta,Ca,Cb,zG,Aa,Rc,Ba]
 |true=>
  simp only[Cb,Ba,Ta,Ca,zo,zA3 h,Aa,Ob];cases hg:gluS (tokL l)==0 with
  |false=>simp only[Ta,Ca,Cb,zG,Aa,Rc,Ba]
  |true=>
   simp only[Cb,Ba,Ta,zo,zkf h,Aa,Ob];cases clL l with
   |true=>rfl
   |false=>
    simp only[Ba,Gt h,Aa,zBe,JZ,EI,Bool.not_not,Ta,Ob,yX hn,ZU];have hl:zY (fun(s7:Int)=>
     bif decide (s7<(l.length:Int))then
      ze (geti l s7) fun y8=>
      bif bif y8.token.kind==17 then true else bif y8.token.kind==9 then y8.token.text==[33]else false then
       some (LO.ret false)
      else
       some (LO.again (w64 (s7+1)))
     else
      some (LO.out ()):Int->Option (LO (Int) (Unit) _)) 0 (fun _=>some true)=some (!(l.any badV)):=by
     refine(Ox l (fun v=>bif badV v then some false else none) () (fun i hi=> ?_) ?_).trans ?_
     ·simp only[ZH hi,Ca,Zt hi,ze,Aa,badV,Za hi (show l.length<=big by omega)];cases l[i].token.kind==17<;>cases l[i].token.kind==9<;>cases l[i].token.text==[33]<;>rfl
     ·simp only[ah,Ba]
     ·rw[IG];cases l.any badV<;>rfl
    unfold Ku;simp only[ze]at hl;rw[hl];cases ul l<;>cases l.isEmpty<;>cases List.isPrefixOf [45,45] x<;>cases l.any badV<;>rfl
theorem X9{d:z8}(hv:szL d.value<=big)(hn:d.name.length<=big):Xx d=some (bif Vj d then 0 else 8):=by
 unfold Xx Vj;simp only[W9 hn,ze,Aa];cases hnd:Uj d.name with
 |false=>rfl
 |true=> simp only[Cb,Ta,zo,zmH hv hnd,Aa,Ob];cases (errS d.value==0&&(gluS (tokL d.value)==0&&(!clL d.value&&Ku (List.isPrefixOf [45,45] d.name) d.value)))<;>rfl
def xh(l:List zb):Prop:= ∀t v,l=t++[v]->isSp v=false
def lg(l:List zb):Prop:= ∀a t,l=a::t->isSp a=false
theorem xh.suf{a b:List zb}(h:xh (a++b)):xh b:=fun t v e=>h (a++t) v (by rw[e,Ec])
theorem xh.id{l:List zb}(h:xh l):trimB l=l:=by
 rcases Qm l with rfl|⟨t,v,rfl⟩
 ·rfl
 ·rw[uo,h t v rfl];rfl
theorem gM(l:List zb):xh (trimB l):=by
 obtain⟨r,_,_,h|⟨t,v,h,hv⟩⟩:=RP l
 ·intro t v e;rw[h]at e;simp at e
 ·intro t' v' e;rw[h]at e;have:=List.append_inj_right' e rfl;injection this with e1;rw[<-e1];exact hv
theorem lg.pre{a b:List zb}(h:lg (a++b)):lg a:=fun x t e=>h x (t++b) (by rw[e];rfl)
theorem lg.id{l:List zb}(h:lg l):l.dropWhile isSp=l:=by
 cases l with
 |nil=>rfl
 |cons a t=>rw[yc,h a t rfl];rfl
theorem zA7(l:List zb):lg (l.dropWhile isSp):=by obtain⟨a,_,_,h⟩:=rH l;exact fun x b e=>h x b e
theorem bz(l:List zb): ∃a,l=a++l.dropWhile isSp:=by obtain⟨a,h,_⟩:=rH l;exact⟨a,h⟩
theorem jG(l:List zb): ∃r,l=trimB l++r:=by obtain⟨r,h,_⟩:=RP l;exact⟨r,h⟩
theorem yV{l:List zb}(h1:lg l)(h2:xh l):trimS l=l:=by unfold trimS;rw[h1.id,h2.id]
theorem jO{l:List zb}(h:lg l):trimS l=trimB l:=by unfold trimS;rw[h.id]
theorem left_eq{l:List zb}:Uo l=some (l.dropWhile isSp):=by
 unfold Uo ZE;refine(Qd (r:= .out (l.dropWhile isSp)) (ZK (fun s=>s.dropWhile isSp=l.dropWhile isSp) (fun s=>s.length) _ (fun s hs=> ?_) rfl)).trans ?_
 ·cases s with
  |nil=>exact .inr (.inl ⟨[],by simp,by rw[<-hs];rfl⟩)
  |cons v t=>
   have h1:decide (((v::t).length:Int)>0)=true:=by rw[Br];simp
   have h2:geti (v::t) 0=some v:=rfl;have h3:decide ((1:Int)<=((v::t).length:Int))=true:=by simp;omega
   rw[yc]at hs;cases hv:isSp v with
   |true=> rw[hv]at hs;unfold isSp at hv;refine .inl ⟨t,?_,by simpa using hs,by simp⟩;simp only[h1,h2,h3,zo,ze,Aa,hv,Ca,Zu];rfl
   |false=> rw[hv]at hs;unfold isSp at hv;refine .inr (.inl ⟨v::t,?_,by rw[<-hs];rfl⟩);simp only[h1,h2,zo,ze,Aa,hv,Ca,Ba]
 ·rw[zlJ]
theorem right_eq{d:List zb}(hd:szL d<=big):Ol d=some (trimB d):=by
 unfold Ol ZE;refine(Qd (r:= .out (trimB d)) (ZK (fun s=>trimB s=trimB d/\szL s<=big) (fun s=>s.length) _ (fun s hs=> ?_) ⟨rfl,hd⟩)).trans ?_
 ·rcases Qm s with rfl|⟨t,v,rfl⟩
  ·exact .inr (.inl ⟨[],by simp,by rw[<-hs.1];rfl⟩)
  ·have hlen:=Qr (t++[v]);have hl2:(t++[v]).length=t.length+1:=by simp
   have hb:=hs.2;unfold big at hb;have h1:decide (((t++[v]).length:Int)>0)=true:=by rw[Br];simp
   have h4:w64 (((t++[v]).length:Int) - 1)=(t.length:Int):=by rw[w64,ZT (by omega) (by omega)];omega
   have h2:geti (t++[v]) (t.length:Int)=some v:=by rw[Zt (by omega)];simp
   have h3:(decide ((0:Int)<=(t.length:Int))&&decide ((t.length:Int)<=((t++[v]).length:Int)))=true:=by simp;omega
   have hs1:=hs.1;rw[uo]at hs1;cases hv:isSp v with
   |true=> rw[Na hv]at hs1;unfold isSp at hv;refine .inl ⟨t,?_,⟨hs1,Eb (Ii (List.sublist_append_left t [v])) hs.2⟩,by simp⟩;simp only[h1,h4,h2,h3,zo,ze,Aa,hv,Ca,Zu,Xa];simp
   |false=> rw[Ka (by rw[hv];simp)]at hs1;unfold isSp at hv;refine .inr (.inl ⟨t++[v],?_,by rw[<-hs1]⟩);simp only[h1,h4,h2,zo,ze,Aa,hv,Ca,Ba]
 ·rw[zlJ]
def Hq(v:zb):Bool:=v.token.kind==9&&v.token.text==[33]
theorem zAI(v:zb):Kl v=some (Hq v):=by unfold Kl ZE Hq;simp only[ze,Aa];cases v.token.kind==9<;>rfl
def impW:Str:=[105,109,112,111,114,116,97,110,116]
def endV(l:List zb):Option (List zb×zb):=match l.reverse with
 |[]=>none
 |v::t=>some (t.reverse,v)
theorem Ww(t:List zb)(v:zb):endV (t++[v])=some (t,v):=by unfold endV;rw[List.reverse_append];simp
def ug(v:List zb):List zb×Bool:=match endV v with
 |none=>(v,false)
 |some (t,z)=>bif !t.isEmpty&&(z.token.kind==1&&lowS z.token.text==impW)then
   (match endV (trimB t)with
   |none=>(v,false)
   |some (u,b)=>bif Hq b then(trimB u,true)else(v,false))
  else(v,false)
theorem LA{t:List zb}{v:zb}(h:szL (t++[v])<=big):w64 (((t++[v]).length:Int) - 1)=(t.length:Int):=by
 have hlen:=Qr (t++[v]);have hl2:(t++[v]).length=t.length+1:=by simp
 unfold big at h;rw[w64,ZT (by omega) (by omega)];omega
theorem RA(t:List zb)(v:zb):geti (t++[v]) (t.length:Int)=some v:=by rw[Zt (by simp)];simp
theorem GA(t:List zb)(v:zb):(decide ((0:Int)<=(t.length:Int))&&decide ((t.length:Int)<=((t++[v]).length:Int)))=true:=by simp;omega
theorem wz(t:List zb)(v:zb):List.take t.length (t++[v])=t:=by simp
theorem UK:lowS [105,109,112,111,114,116,97,110,116]=impW:=by decide+kernel
theorem xz{t:List zb}{v:zb}(h:szL (t++[v])<=big):szL t<=big/\v.token.text.length<=big:=by rw[UC,szL,Jh]at h;omega
theorem ML(t:List zb):decide ((t.length:Int)>0)= !t.isEmpty:=by
 cases t with
 |nil=>rfl
 |cons a t=>exact La (by simp only[Ea];omega)
abbrev MK:=LX (List zb×(Str×Bool)×(Str×Bool)) (z8×Bool)
theorem IX{v:List zb}{nm:Str}(hv:szL v<=big):(
  ze (zn (decide (w64 ((v.length:Int) - 1)>0)) (geti v (w64 ((v.length:Int) - 1))) (default:zb)) fun y13=>
  ze (zn (decide (w64 ((v.length:Int) - 1)>0)) (ZE ((⟨y13.token,y13.list⟩:zb),1)) (default:Bool)) fun y14=>
  ze (zn (bif decide (w64 ((v.length:Int) - 1)>0)then y14 else false) (geti v (w64 ((v.length:Int) - 1))) (default:zb)) fun y15=>
  ze (zn (bif decide (w64 ((v.length:Int) - 1)>0)then y14 else false) (Qk (y15.token.text,[105,109,112,111,114,116,97,110,116])) (default:Bool)) fun y16=>
  bif bif bif decide (w64 ((v.length:Int) - 1)>0)then y14 else false then y16 else false then
   need (decide (0<=w64 ((v.length:Int) - 1))&&decide (w64 ((v.length:Int) - 1)<=(v.length:Int)))<|
   ze (Ol (List.take (w64 ((v.length:Int) - 1)).toNat v)) fun y17=>
   ze (zn (decide ((y17.length:Int)>0)) (geti y17 (w64 ((y17.length:Int) - 1))) (default:zb)) fun y18=>
   ze (zn (decide ((y17.length:Int)>0)) (Kl (⟨y18.token,y18.list⟩:zb)) (default:Bool)) fun y19=>
   bif bif decide ((y17.length:Int)>0)then y19 else false then
    need (decide (0<=w64 ((y17.length:Int) - 1))&&decide (w64 ((y17.length:Int) - 1)<=(y17.length:Int)))<|
    ze (Ol (List.take (w64 ((y17.length:Int) - 1)).toNat y17)) fun y20=>
    some (LX.out (y20,(([]:Str),false),(nm,true)))
   else
    some (LX.out (v,(([]:Str),false),(nm,false)))
  else
   some (LX.out (v,(([]:Str),false),(nm,false))))=(some (LX.out ((ug v).1,(([]:Str),false),(nm,(ug v).2))):Option MK):=by
 rcases Qm v with rfl|⟨t,z,rfl⟩
 ·rfl
 ·obtain⟨ht,hz⟩:=xz hv;unfold ug;rw[Ww];simp only[LA hv,ML];cases he:t.isEmpty with
  |true=>simp only[Cb,zG,ze,Aa,Ba,Rc]
  |false=>
   simp only[Ta,zo,RA,ZE,ze,Aa,Ca,Ob];cases hk:z.token.kind==1 with
   |false=>simp only[zG,Aa,Ba,Rc]
   |true=>
    simp only[zo,Aa,TH hz (show([105,109,112,111,114,116,97,110,116]:Str).length<=big by decide),UK,Ca,Ob];cases ha:lowS z.token.text==impW with
    |false=>simp only[Ba]
    |true=>
     simp only[Ca,GA,Zu,Xa,wz,right_eq ht,Aa,ML];have hw:szL (trimB t)<=big:=Eb (Ii (Rm t)) ht;obtain⟨w,hwd⟩: ∃w,trimB t=w:=⟨_,rfl⟩;rw[hwd]at hw;simp only[hwd];rcases Qm w with rfl|⟨u,b,rfl⟩
     ·rfl
     ·have hne:(u++[b]).isEmpty=false:=by cases u<;>rfl
      rw[Ww];simp only[hne,Ta,zo,LA hw,RA,Aa,Uw,zAI,Ca];cases hb:Hq b with
      |false=>simp only[Ba]
      |true=>simp only[Ca,GA,Zu,Xa,wz,right_eq (xz hw).1,Aa]
theorem DV{v:List zb}(hv:szL v<=big)(hh:lg v):Oy v=some (ug v):=by
 unfold Oy;rcases Qm v with rfl|⟨t,z,rfl⟩
 ·rfl
 ·obtain⟨ht,hz⟩:=xz hv;have hht:lg t:=hh.pre;unfold ug;rw[Ww];have hlt:decide ((t.length:Int)<1)=t.isEmpty:=by
   cases t with
   |nil=>rfl
   |cons a t=>exact Ya (by simp only[Ea];omega)
  simp only[LA hv,hlt];cases he:t.isEmpty with
  |true=>simp only[Cb,zG,ze,Aa,Ca,Ba,Rc]
  |false=>
   simp only[Ta,zo,RA,ze,Aa,Ba,Ob,bne];cases hk:z.token.kind==1 with
   |false=>simp only[Ta,Cb,zG,Aa,Ca,Ba,Rc]
   |true=>
    simp only[Cb,Ta,zo,Aa,eG hz (show([105,109,112,111,114,116,97,110,116]:Str).length<=big by decide),UK,Ba,Ob];cases ha:lowS z.token.text==impW with
    |false=>simp only[Ta,Ca,Ba]
    |true=>
     simp only[Cb,Ba,Ca,GA,Zu,Xa,wz,Gt ht,jO hht,Aa,EI];have hw:szL (trimB t)<=big:=Eb (Ii (Rm t)) ht;have hhw:lg (trimB t):=by obtain⟨r,hr⟩:=jG t;rw[hr]at hht;exact hht.pre
     obtain⟨w,hwd⟩: ∃w,trimB t=w:=⟨_,rfl⟩;rw[hwd]at hw hhw;simp only[hwd];rcases Qm w with rfl|⟨u,b,rfl⟩
     ·rfl
     ·have hne:(u++[b]).isEmpty=false:=by cases u<;>rfl
      rw[Ww];simp only[hne,Ta,zo,LA hw,RA,Aa,Ba,Hq];cases hb:b.token.kind==9 with
      |false=>simp only[Ta,Cb,zG,Aa,Ca,Ba,Rc]
      |true=>
       simp only[Cb,Ta,zo,Aa,Ba,Ob];cases hc:b.token.text==[33]with
       |false=>simp only[Ta,Ca,Ba]
       |true=>simp only[Cb,Ba,Ca,GA,Zu,Xa,wz,Gt (xz hw).1,jO (lg.pre hhw),Aa]
def nmD(s:Str):Str:=bif List.isPrefixOf [45,45] s then s else lowS s
def noD:z8×Bool:=(⟨[],[],false⟩,false)
def oneS(x:List zb):z8×Bool:=match trimS x with
 |[]=>noD
 |n::r=>bif n.token.kind==1 then
   (match r.dropWhile isSp with
   |[]=>noD
   |c::q=>bif c.token.kind==16 then
     (bif Vj ⟨nmD n.token.text,(ug (q.dropWhile isSp)).1,(ug (q.dropWhile isSp)).2⟩then(⟨nmD n.token.text,(ug (q.dropWhile isSp)).1,(ug (q.dropWhile isSp)).2⟩,true)else noD)
    else noD)
  else noD
theorem AO{v:List zb}{t:List zb}{z:zb}(h:endV v=some (t,z)):v=t++[z]:=by
 rcases Qm v with rfl|⟨t',z',rfl⟩
 ·cases h
 ·rw[Ww]at h;cases h;rfl
theorem RF{v:List zb}(h1:lg v)(h2:xh v):lg (ug v).1/\xh (ug v).1/\(ug v).1.Sublist v:=by
 unfold ug;split
 ·exact⟨h1,h2,List.Sublist.refl _⟩
 ·rename_i t z he;have hv:=AO he;cases !t.isEmpty&&(z.token.kind==1&&lowS z.token.text==impW)with
  |false=>exact⟨h1,h2,List.Sublist.refl _⟩
  |true=>
   rw[Ca];split
   ·exact⟨h1,h2,List.Sublist.refl _⟩
   ·rename_i u b hb;have hw:=AO hb;cases Hq b with
    |false=>exact⟨h1,h2,List.Sublist.refl _⟩
    |true=>
     rw[Ca];have hht:lg t:=by rw[hv]at h1;exact h1.pre
     have hhw:lg (trimB t):=by obtain⟨r,hr⟩:=jG t;rw[hr]at hht;exact hht.pre
     have hhu:lg u:=by rw[hw]at hhw;exact hhw.pre
     refine⟨?_,gM u,?_⟩
     ·obtain⟨r,hr⟩:=jG u;rw[hr]at hhu;exact hhu.pre
     ·refine(Rm u).trans ((List.sublist_append_left u [b]).trans ?_);rw[<-hw];refine(Rm t).trans ?_;rw[hv];exact List.sublist_append_left t [z]
theorem zBg(s:Str):(lowS s).length=s.length:=by unfold lowS;simp
theorem WU(s:Str):(nmD s).length=s.length:=by
 unfold nmD;cases List.isPrefixOf [45,45] s
 ·exact zBg s
 ·rfl
theorem iA(n:zb)(r:List zb):(((n::r).length:Int)==0)=false:=Ia.2 (by simp only[Ea];omega)
theorem Uz(n:zb)(r:List zb):decide ((1:Int)<=((n::r).length:Int))=true:=La (by simp only[Ea];omega)
theorem xA(n:zb)(r:List zb):geti (n::r) 0=some n:=rfl
theorem RH{x:List zb}(h:szL x<=big){n:zb}{r:List zb}(hy:trimS x=n::r):n.token.text.length<=big/\szL r<=big/\xh r/\
  ∀{c:zb} {q:List zb},r.dropWhile isSp=c::q->szL (q.dropWhile isSp)<=big/\lg (q.dropWhile isSp)/\xh (q.dropWhile isSp):=by
 have hsz:=xV x;have he:xh (trimS x):=gM _;rw[hy]at hsz he;rw[szL,Jh]at hsz;have her:xh r:=he.suf (a:=[n]);refine⟨by omega,by omega,her,fun {c q} hq=> ?_⟩;obtain⟨a,ha⟩:=bz r;rw[hq]at ha;obtain⟨b,hb⟩:=bz q;refine⟨?_,zA7 q,?_⟩
 ·have h1:=Ii (Je isSp (l:=q));rw[ha,UC,szL]at hsz;omega
 ·rw[ha,hb]at her;exact xh.suf (a:=a++c::b) (by rw[Ec];exact her)
theorem VP{x:List zb}(h:szL x<=big):Io x=some (oneS x):=by
 have hdw:szL (x.dropWhile isSp)<=big:=Eb (Ii (Je _)) h;unfold Io oneS;simp only[left_eq,right_eq hdw,ze,Aa,show trimB (x.dropWhile isSp)=trimS x from rfl];cases hy:trimS x with
 |nil=>rfl
 |cons n r=>
  obtain⟨hn,hr,_,hp⟩:=RH h hy;simp only[iA,Ta,zo,xA,Aa,ZE,Ba];cases hk:n.token.kind==1 with
  |false=>simp only[Ta,Ca,Ba];rfl
  |true=>
   simp only[Cb,Ba,Ca];have hj:((strings_HasPrefix (n.token.text,[45,45])).bind fun y6=>bif !y6 then(qK n.token.text).bind fun y7=>some (LX.out (n::r,(([]:Str),false),(y7,false)))else some (LX.out (n::r,([],false),(n.token.text,false))))=(some (LX.out (n::r,([],false),(nmD n.token.text,false))):Option MK):=by rw[Ep,Aa,WC hn];unfold nmD;cases List.isPrefixOf [45,45] n.token.text<;>rfl
   rw[hj,zh];simp only[Uz,Zu,show List.drop 1 (n::r)=r from rfl];cases hq:r.dropWhile isSp with
   |nil=>rfl
   |cons c q=>
    obtain⟨hv,hh,he⟩:=hp hq;simp only[iA,Ta,zo,xA,Aa,Ba];cases hc:c.token.kind==16 with
    |false=>simp only[Ta,Ca,Ba];rfl
    |true=>
     simp only[Cb,Ba,Ca,Uz,Zu,show List.drop 1 (c::q)=q from rfl];obtain⟨v,hvd⟩: ∃v,q.dropWhile isSp=v:=⟨_,rfl⟩;rw[hvd]at hv hh he;simp only[hvd];have hm:=IX (nm:=nmD n.token.text) hv;simp only[ze,ZE]at hm;rw[hm,zh];obtain⟨h1,h2,h3⟩:=RF hh he;obtain⟨w,hw⟩: ∃w,ug v=w:=⟨_,rfl⟩;rw[hw]at h1 h2 h3;simp only[hw];have hws:szL w.1<=big:=Eb (Ii h3) hv;rw[GX hws,Aa];by_cases he0:errS w.1=0
     ·rw[Na he0,yV h1 h2];simp only[show((0:Int) != 0)=false from rfl,Ta,zo,Ba];rw[H9 (d:=⟨nmD n.token.text,w.1,w.2⟩) hws (by rw[WU];exact hn),Aa];cases Vj ⟨nmD n.token.text,w.1,w.2⟩<;>rfl
     ·have he1:(errS w.1 != 0)=true:=He.2 he0;have he2:Vj ⟨nmD n.token.text,w.1,w.2⟩=false:=by unfold Vj;simp only[show(errS w.1==0)=false from Ia.2 he0,Rc,Md]
      rw[Ka he0,he2];simp only[he1,Cb,zG,Aa,Ca,Ba];rfl
theorem JO{x:List zb}(h:szL x<=big):Gp x=some (oneS x):=by
 unfold Gp oneS;simp only[Gt h,ze,Aa];cases hy:trimS x with
 |nil=>rfl
 |cons n r=>
  obtain⟨hn,hr,her,hp⟩:=RH h hy;simp only[iA,Ta,zo,xA,Aa,Ba,bne];cases hk:n.token.kind==1 with
  |false=>simp only[Ta,Ca,Ba];rfl
  |true=>
   simp only[Cb,Ba,Ca];have hj:(need (decide (2<=(n.token.text.length:Int))|| !(!(decide ((n.token.text.length:Int)<2))))<|
     bif bif decide ((n.token.text.length:Int)<2)then true else !(List.take 2 n.token.text==[45,45])then
      (ZP n.token.text).bind fun y4=>some (LX.out (n::r,(([]:Str),false),(y4,false)))
     else some (LX.out (n::r,([],false),(n.token.text,false))))=(some (LX.out (n::r,([],false),(nmD n.token.text,false))):Option MK):=by
    have hpt:=rF n.token.text;rw[wB hn];unfold nmD;rw[<-hpt];by_cases h2:n.token.text.length<2
    ·rw[La (show(n.token.text.length:Int)<2 by omega),Ya (show¬(n.token.text.length:Int)>=2 by omega),Cb,Ta,Bool.or_true];rfl
    ·rw[Ya (show¬(n.token.text.length:Int)<2 by omega),La (show(2:Int)<=(n.token.text.length:Int) by omega),Nf];cases List.take 2 n.token.text==[45,45]<;>rfl
   rw[hj,zh];simp only[Uz,Zu,show List.drop 1 (n::r)=r from rfl,Gt hr,Aa];have hrt:trimS r=r.dropWhile isSp:=by unfold trimS;obtain⟨a,ha⟩:=bz r;rw[ha]at her;exact her.suf.id
   rw[hrt];cases hq:r.dropWhile isSp with
   |nil=>rfl
   |cons c q=>
    obtain⟨hv,hh,he⟩:=hp hq;simp only[iA,Ta,zo,xA,Aa,Ba];cases hc:c.token.kind==16 with
    |false=>simp only[Ta,Ca,Ba];rfl
    |true=>
     have hqs:szL q<=big:=by obtain⟨a,ha⟩:=bz r;rw[hq]at ha;rw[ha,UC,szL]at hr;omega
     simp only[Cb,Ba,Ca,Uz,Zu,show List.drop 1 (c::q)=q from rfl,Gt hqs,Aa];have hqt:trimS q=q.dropWhile isSp:=he.id;rw[hqt];obtain⟨v,hvd⟩: ∃v,q.dropWhile isSp=v:=⟨_,rfl⟩;rw[hvd]at hv hh he;simp only[hvd];obtain⟨h1,h2,h3⟩:=RF hh he;rw[DV hv hh,Aa];obtain⟨w,hw⟩: ∃w,ug v=w:=⟨_,rfl⟩;rw[hw]at h1 h2 h3;simp only[hw];have hws:szL w.1<=big:=Eb (Ii h3) hv;rw[X9 (d:=⟨nmD n.token.text,w.1,w.2⟩) hws (by rw[WU];exact hn),Aa];cases Vj ⟨nmD n.token.text,w.1,w.2⟩<;>rfl
def bi(a:List z8)(p:List zb):List z8:=bif (oneS p).2&&decide (a.length<32)then a++[(oneS p).1]else a
def QQ(ps:List (List zb)):List z8:=ps.foldl bi []
theorem YV{a:List z8}{p:List zb}(h:a.length<=32):(bi a p).length<=32:=by
 unfold bi;cases hb:(oneS p).2&&decide (a.length<32)with
 |false=>exact h
 |true=> rw[Fa,Ac]at hb;rw[Ca,Ha,Lc];omega
theorem lM: ∀(ps:List (List zb)) {a:List z8},32<=a.length->ps.foldl bi a=a
 |[],_,_=>rfl
 |p::ps,a,h=>by
  have:bi a p=a:=by unfold bi;rw[Ya (by omega),Md];rfl
  rw[xe,this];exact lM ps h
theorem wN{ps:List (List zb)}{i:Nat}(h:i<ps.length):QQ (ps.take (i+1))=bi (QQ (ps.take i)) ps[i]:=by unfold QQ;rw[Sd h,List.foldl_append];rfl
theorem nG(ps:List (List zb)):(QQ ps).length<=32:=by
 unfold QQ;have key: ∀(ps:List (List zb)) (a:List z8),a.length<=32->(ps.foldl bi a).length<=32:=by
  intro ps
  induction ps with
  |nil=>intro a h;exact h
  |cons p ps ih=>intro a h;exact ih _ (YV h)
 exact key ps [] (Kb _)
theorem yB{x:List zb}(h:szL x<big):(Ph 17 x).length<=big/\ ∀p∈Ph 17 x,szL p<=big:=by have h1:=aW 17 x;have h2:=JK (Ph 17 x);exact⟨by omega,fun p hp=>by have:=IK hp;omega⟩
theorem ap48{n:Nat}(h:n<=32):Zo n 1 48=true:=Nk (by omega)
theorem BU{x:List zb}(h:szL x<big):yn x=some (if errS x=0 then(QQ (Ph 17 x),0)else([],errS x)):=by
 unfold yn;rw[uY (k:=17) (by omega)];simp only[ze,Aa];by_cases he:errS x=0
 ·rw[Na he,Ka (by omega),Na he];obtain⟨hl,hp⟩:=yB h;simp only[show((0:Int) != 0)=false from rfl,Ba];generalize Ph 17 x=ps at*;refine Rj (fun z=> ∃i:Nat,z=((i:Int),QQ (ps.take i))/\i<=ps.length) (fun z=>ps.length - z.1.toNat) _ ?_ ⟨0,rfl,Kb _⟩;rintro _ ⟨i,rfl,hi⟩;rcases Gc i ps.length with hh|hh
  ·refine .inl ⟨_,?_,⟨i+1,rfl,hh⟩,by simp only[Xa];omega⟩;have hq:=nG (ps.take i);rw[wN hh];simp only[ZH hh,Ca,Zt hh,Aa,VP (hp _ (Sc hh))];obtain⟨a,ha⟩: ∃a,QQ (ps.take i)=a:=⟨_,rfl⟩;rw[ha]at hq ⊢;unfold bi;have hd:decide ((a.length:Int)<32)=decide (a.length<32):=by
    by_cases q:a.length<32
    ·rw[La q,La (by omega)]
    ·rw[Ya q,Ya (by omega)]
   rw[hd,zC (ap48 hq)];have hw:w64 ((i:Int)+1)=((i+1:Nat):Int):=Za hh hl;cases (oneS ps[i]).2<;>cases decide (a.length<32)<;>simp only[Ca,Ba,zh,hw,Ob,Rc]
  ·have:i=ps.length:=by omega
   subst this;refine .inr (.inl ⟨QQ ps,?_,rfl⟩);simp only[ah,Ba,Pe]
 ·rw[Ka he,Ka he];simp only[He.2 he,Ca]
theorem tJ{x:List zb}(h:szL x<big):Yo x=some (QQ (Ph 17 x)):=by
 unfold Yo;rw[WX (k:=17) (by omega)];simp only[ze,Aa];obtain⟨hl,hp⟩:=yB h;generalize Ph 17 x=ps at*;refine Rj (fun z=> ∃i:Nat,z=((i:Int),QQ (ps.take i))/\i<=ps.length) (fun z=>ps.length - z.1.toNat) _ ?_ ⟨0,rfl,Kb _⟩;rintro _ ⟨i,rfl,hi⟩;have hq:=nG (ps.take i);rcases Gc i ps.length with hh|hh
 ·by_cases hf:(QQ (ps.take i)).length<32
  ·refine .inl ⟨_,?_,⟨i+1,rfl,hh⟩,by simp only[Xa];omega⟩;rw[wN hh];simp only[ZH hh,Ca,Zt hh,Aa,JO (hp _ (Sc hh))];obtain⟨a,ha⟩: ∃a,QQ (ps.take i)=a:=⟨_,rfl⟩;rw[ha]at hq hf ⊢;unfold bi;rw[La (show(a.length:Int)<32 by omega),La hf,Ca,zC (ap48 hq)];have hw:w64 ((i:Int)+1)=((i+1:Nat):Int):=Za hh hl;cases (oneS ps[i]).2<;>simp only[Ca,Ba,zh,hw,Ob,Rc]
  ·refine .inr (.inl ⟨QQ (ps.take i),?_,?_⟩)
   ·simp only[ZH hh,Ca,Ya (show¬((QQ (ps.take i)).length:Int)<32 by omega),Ba]
   ·have hd:QQ ps=QQ (ps.take i):=by
     conv=>lhs;rw[<-Ff i ps]
     unfold QQ at hf ⊢;rw[List.foldl_append];exact lM _ (by omega)
    rw[hd]
 ·have:i=ps.length:=by omega
  subst this;refine .inr (.inl ⟨QQ ps,?_,rfl⟩);simp only[ah,Ba,Pe]
theorem zCt{x:List zb}(h:szL x<big):Xv x=some (if errS x=0 then(QQ (Ph 17 x),0)else([],errS x)):=by
 unfold Xv;rw[dG (by omega)];simp only[ze,Aa];by_cases he:errS x=0
 ·rw[Na he,he];simp only[show((0:Int) != 0)=false from rfl,Ba,tJ h,Aa]
 ·rw[Ka he];simp only[He.2 he,Ca]
theorem zBU{x:List zb}(h:szL x<=big):Gw x=some (if errS x=0 then((oneS x).1,(oneS x).2,0)else(⟨[],[],false⟩,false,errS x)):=by
 unfold Gw;simp only[XC h,VP h,ze,Aa];by_cases he:errS x=0
 ·rw[Na he,he];rfl
 ·rw[Ka he,He.2 he,Ca]
theorem zBy{x:List zb}(h:szL x<=big):Kw x=some (if errS x=0 then((oneS x).1,(oneS x).2,0)else(⟨[],[],false⟩,false,errS x)):=by
 unfold Kw;simp only[dG h,JO h,ze,Aa];by_cases he:errS x=0
 ·rw[Na he,he];rfl
 ·rw[Ka he,He.2 he,Ca]
theorem eF{s:Str}(h:s.length<=500\/4000<s.length):wtT (qV s).1<big:=by
 have hbig:big=4194304:=rfl;unfold qV;split
 ·rw[wtT];omega
 split
 ·rw[wtT];omega
 have h1:=sG s;have h2:=IU (Proofs.Cl.cleanS s);show wtT (Xf (Proofs.Cl.cleanS s))<big;omega
def Ym(s:Str):List z8×Int:=
 if(qV s).2=0 then(if(parS (qV s).1).2=0 then(QQ (Ph 17 (parS (qV s).1).1),0)else([],(parS (qV s).1).2))else([],(qV s).2)
theorem zAE{s:Str}(h:s.length<=500\/4000<s.length):Xw s=some (Ym s):=by
 have hw:=eF h;have hs:=vE (qV s).1;unfold Xw Ym;simp only[FZ,ze,Aa,parseF];by_cases h1:(qV s).2=0
 ·rw[Na h1,h1];simp only[show((0:Int) != 0)=false from rfl,Ba];by_cases h2:(parS (qV s).1).2=0
  ·have h3:=(iX h2).1;rw[Na h2,h2];simp only[show((0:Int) != 0)=false from rfl,Ba,BU (x:=(parS (qV s).1).1) (by omega),Na h3,Aa]
  ·rw[Ka h2];simp only[He.2 h2,Ca]
 ·rw[Ka h1];simp only[He.2 h1,Ca]
theorem pV{s:Str}(h:s.length<=500\/4000<s.length):Ex s=some (Ym s):=by
 have hw:=eF h;have hs:=vE (qV s).1;unfold Ex Ym;rw[WZ (by omega)];simp only[ze,Aa];by_cases h1:(qV s).2=0
 ·rw[Na h1,h1];simp only[show((0:Int) != 0)=false from rfl,Ba,XX (l:=(qV s).1) (by omega),Aa];by_cases h2:(parS (qV s).1).2=0
  ·rw[Na h2,h2];simp only[show((0:Int) != 0)=false from rfl,Ba,tJ (x:=(parS (qV s).1).1) (by omega),Aa]
  ·rw[Ka h2];simp only[He.2 h2,Ca]
 ·rw[Ka h1];simp only[He.2 h1,Ca]
def szD(l:List z8):Prop:=l.length<=big/\ ∀d∈l,szL d.value<=big
theorem CO{d:z8}(h:szL d.value<=big):Pp (d,d)=some true:=by unfold Pp;simp only[jd,Ca,zo,kV h,ze,Aa]
theorem pO{l:List z8}(h:szD l):Ls (l,l)=some true:=by
 unfold Ls;have hne:((l.length:Int) != (l.length:Int))=false:=by simp
 simp only[hne,Ba];refine(jB l (fun i (_:Unit)=>(i:Int)) (fun v (_:Unit)=>some (.again ())) (fun _=>some (.out ())) (a:=()) rfl (fun i a hi=> ?_) (fun a=> ?_) (r:= .out ()) ?_)
 ·have hw:=Za hi h.1;simp only[ZH hi,Ca,Zt hi,ze,Aa,CO (h.2 _ (Sc hi)),Cb,Ba,hw];rfl
 ·simp only[ah,Ba];rfl
 ·rw[QX (fun a v=>a) (fun v a=>rfl)]
theorem TU{x:List zb}(h:szL x<=big):szL (oneS x).1.value<=big:=by
 have hno:szL noD.1.value<=big:=by show szL []<=big;rw[szL];exact Kb _
 unfold oneS;split
 ·exact hno
 ·rename_i n r hy;obtain⟨hn,hr,her,hp⟩:=RH h hy;cases n.token.kind==1 with
  |false=>exact hno
  |true=>
   rw[Ca];split
   ·exact hno
   ·rename_i c q hq;obtain⟨hv,hh,he⟩:=hp hq;cases c.token.kind==16 with
    |false=>exact hno
    |true=>
     rw[Ca];cases Vj ⟨nmD n.token.text,(ug (q.dropWhile isSp)).1,(ug (q.dropWhile isSp)).2⟩with
     |false=>exact hno
     |true=>exact Eb (Ii (RF hh he).2.2) hv
theorem yL{ps:List (List zb)}(h: ∀p∈ps,szL p<=big):szD (QQ ps):=by
 refine⟨Eb (nG ps) (by decide),?_⟩;unfold QQ;have key: ∀(ps:List (List zb)) (a:List z8),(∀p∈ps,szL p<=big)->(∀d∈a,szL d.value<=big)-> ∀d∈ps.foldl bi a,szL d.value<=big:=by
  intro ps
  induction ps with
  |nil=>intro a _ h;exact h
  |cons p ps ih=>
   intro a h1 h2;refine ih _ (fun q hq=>h1 q (Xb _ hq)) (fun d hd=> ?_);unfold bi at hd;cases hb:(oneS p).2&&decide (a.length<32)with
   |false=>rw[hb]at hd;exact h2 d hd
   |true=>
    rw[hb,Ca]at hd;rcases Vb.1 hd with hd|hd
    ·exact h2 d hd
    ·rw[Oa.1 hd];exact TU (h1 p (Dc ..))
 exact key ps [] h (fun d hd=>by cases hd)
theorem N7{v:List zb}{s:Str}(h:szL v<big):mD (v,s)=some true:=by
 unfold mD;obtain⟨g,hg⟩:=VY (l:=v) (by omega);simp only[hg,ze,Aa];cases hb:(bif bif g then true else bif decide ((s.length:Int)>500)then decide ((s.length:Int)<=4000)else false then true else decide ((s.length:Int)>4100))with
 |true=>rfl
 |false=>
  have hl:s.length<=500\/4000<s.length:=by
   rcases Gc 500 s.length with q|q
   ·rcases Gc 4000 s.length with q2|q2
    ·exact .inr q2
    ·rw[La (show(s.length:Int)>500 by omega),La (show(s.length:Int)<=4000 by omega),Ca]at hb;cases g<;>cases hb
   ·exact .inl q
  have h1: ∀(b:Bool) (o:z8×Bool×Int),(bif (bif b then o.2.1==o.2.1 else false)then o.2.2==o.2.2 else false)=b:=by intro b o;rw[jd,jd];cases b<;>rfl
  have hd1:szD (if errS v=0 then(QQ (Ph 17 v),(0:Int))else([],errS v)).1:=by
   split
   ·exact yL (yB h).2
   ·exact⟨Kb _,fun d hd=>by cases hd⟩
  have hd2:szD (Ym s).1:=by
   have hw:=eF hl;have hs:=vE (qV s).1;unfold Ym;split
   ·split
    ·exact yL (yB (x:=(parS (qV s).1).1) (by omega)).2
    ·exact⟨Kb _,fun d hd=>by cases hd⟩
   ·exact⟨Kb _,fun d hd=>by cases hd⟩
  have hs1:szL (if errS v=0 then((oneS v).1,(oneS v).2,(0:Int))else((⟨[],[],false⟩:z8),false,errS v)).1.value<=big:=by
   split
   ·exact TU (by omega)
   ·show szL []<=big;rw[szL];exact Kb _
  simp only[Ba,zBU (x:=v) (by omega),zBy (x:=v) (by omega),BU h,zCt h,zAE hl,pV hl,Aa];generalize (if errS v=0 then(QQ (Ph 17 v),(0:Int))else([],errS v))=A at*;generalize (if errS v=0 then((oneS v).1,(oneS v).2,(0:Int))else((⟨[],[],false⟩:z8),false,errS v))=B at*;generalize Ym s=C at*;simp only[CO hs1,jd,Ca,zo,pO hd1,pO hd2,Aa]
end Go.Lv.VT
