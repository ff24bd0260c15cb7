/- Parsing of tokens: what the machine of nest.Parse computes is what the reference's recursion computes. -/
import Derived.Test.YtcdeccnjlkkejaaGreatDoorNa
import Derived.Test.YtcdeccnjlkkejaaGreatDoorTy
import Derived.Test.YtcdeccnjlkkejaaGreatDoorNb
import Derived.Test.YtcdeccnjlkkejaaGreatDoorNe
set_option linter.unusedSimpArgs false
set_option linter.unusedVariables false
namespace Go.Lv.VT
set_option maxRecDepth 100000
def Qh:Nat->List zb->Int->Nat->Option (List zg×List zb)
 |0,_,_,_=>none
 |_+1,[],_,_=>some ([],[])
 |n+1,t::r,c,left=>
  if c≠0/\t.kind=c then some ([],r)
  else if zw t.kind=0 then(Qh n r c left).map fun v=>(⟨t,[]⟩::v.1,v.2)
  else match left with
   |0=>none
   |m+1=>(Qh n r (zw t.kind) m).bind fun w=>(Qh n w.2 c (m+1)).map fun v=>(⟨t,w.1⟩::v.1,v.2)
theorem Yk(n:Nat)(t:zb)(r:List zb)(c:Int)(left:Nat):Qh (n+1) (t::r) c left=if c≠0/\t.kind=c then some ([],r)
  else if zw t.kind=0 then(Qh n r c left).map fun v=>(⟨t,[]⟩::v.1,v.2)
  else match left with
   |0=>none
   |m+1=>(Qh n r (zw t.kind) m).bind fun w=>(Qh n w.2 c (m+1)).map fun v=>(⟨t,w.1⟩::v.1,v.2):=rfl
theorem Gz: ∀(n:Nat) (l:List zb) (c:Int) (left:Nat) (v:List zg×List zb),Qh n l c left=some v->v.2<:+l
 |0,_,_,_,_,h=>by cases h
 |n+1,[],c,left,v,h=>by
  rw[Qh]at h
  grind
 |n+1,t::r,c,left,v,h=>by
  rw[Yk]at h;refine List.IsSuffix.trans ?_ (lc t r);split at h
  ·grind
  split at h
  ·cases a:Qh n r c left with
   |none=>grind
   |some w=>rw[a]at h;cases h;exact Gz n r c left w a
  ·cases left with
   |zero=>cases h
   |succ m=>
    simp only at h;cases b:Qh n r (zw t.kind) m with
    |none=>grind
    |some w=>
     rw[b,Aa]at h;cases a:Qh n w.2 c (m+1)with
     |none=>grind
     |some d=> rw[a]at h;cases h;exact(Gz n w.2 c _ d a).trans (Gz n r _ m w b)
theorem Um: ∀(n:Nat) (l:List zb) (c:Int) (left:Nat) (v:List zg×List zb),Qh n l c left=some v->v.2.length<=l.length/\(l≠[]->v.2.length<l.length)
 |0,_,_,_,_,h=>by cases h
 |n+1,[],c,left,v,h=>by
  rw[Qh]at h
  grind
 |n+1,t::r,c,left,v,h=>by
  rw[Yk]at h;have e:v.2.length<=r.length:=by
   split at h
   ·grind
   split at h
   ·cases a:Qh n r c left with
    |none=>grind
    |some w=>rw[a]at h;cases h;exact(Um n r c left w a).1
   ·cases left with
    |zero=>cases h
    |succ m=>
     simp only at h;cases b:Qh n r (zw t.kind) m with
     |none=>grind
     |some w=>
      rw[b,Aa]at h;cases a:Qh n w.2 c (m+1)with
      |none=>grind
      |some d=>
       rw[a]at h;cases h;have f:=(Um n r _ m w b).1;have g:=(Um n w.2 c _ d a).1
       grind
  grind
theorem az: ∀(n m:Nat) (l:List zb) (c:Int) (left:Nat),l.length<n->l.length<m->Qh n l c left=Qh m l c left
 |0,_,_,_,_,h,_=>by omega
 |_+1,0,_,_,_,_,h=>by omega
 |n+1,m+1,[],c,left,_,_=>by rw[Qh,Qh]
 |n+1,m+1,t::r,c,left,a,d=>by
  rw[Ia]at a d;rw[Yk,Yk];rw[az n m r c left (by omega) (by omega)];cases left with
  |zero=>rfl
  |succ k=>
   simp only;rw[az n m r (zw t.kind) k (by omega) (by omega)];cases b:Qh m r (zw t.kind) k with
   |none=>rfl
   |some w=> have:=(Um m r _ k w b).1;simp only[Aa];rw[az n m w.2 c (k+1) (by omega) (by omega)]
def yj(l:List zb)(s:PSt):Option (List zg):=(Bg l s).map fun s=>shutAll s.1 s.2
theorem oN(t:zb)(l:List zb)(s:PSt):yj (t::l) s=(Q9 s t).bind (yj l):=by unfold yj;rw[Bg];cases Q9 s t<;>rfl
theorem Ez: ∀(n:Nat) (l:List zb) (cur:List zg) (o:zb) (a:List zg) (st:List (zb×List zg)) (left:Nat),l.length<n->zw o.kind≠0->left+(st.length+1)=16->
  yj l (cur,(o,a)::st)=(Qh n l (zw o.kind) left).bind fun v=>yj v.2 (a++[⟨o,cur++v.1⟩],st)
 |0,_,_,_,_,_,_,h,_,_=>by omega
 |n+1,[],cur,o,a,st,left,_,_,_=>by rw[Qh,Aa];simp only[yj,Bg,Ec,shutAll,Xa]
 |n+1,t::r,cur,o,a,st,left,g,c,f=>by
  rw[Ia]at g;rw[Yk,oN];unfold Q9;simp only[Eo];by_cases e:t.kind=zw o.kind
  ·rw[Ka (by grind),Ka ⟨c,e⟩,Aa,Aa];simp only[Vj,Xa]
  ·rw[Ja (by grind),Ja (show¬(zw o.kind≠0/\t.kind=zw o.kind)from fun h=>e h.2)];by_cases b:zw t.kind=0
   ·rw[Ja (show¬zw t.kind≠0 from fun h=>h b),Ka b,Aa,Ez n r _ o a st left (by omega) c f];cases Qh n r (zw o.kind) left with
    |none=>rfl
    |some v=>grind
   ·rw[Ka b,Ja b];cases left with
    |zero=>grind
    |succ m=>
     rw[Ja (by grind),Aa];simp only;rw[Ez n r [] t cur ((o,a)::st) m (by omega) b (by grind)];cases i:Qh n r (zw t.kind) m with
     |none=>rfl
     |some w=>
      have d:=(Um n r _ m w i).1;simp only[Aa];rw[Ez n w.2 _ o a st (m+1) (by omega) c f];cases Qh n w.2 (zw o.kind) (m+1)with
      |none=>rfl
      |some v=>grind
theorem uF: ∀(n:Nat) (l:List zb) (cur:List zg),l.length<n->yj l (cur,[])=(Qh n l 0 16).map fun v=>cur++v.1
 |0,_,_,h=>by omega
 |n+1,[],cur,_=>by rw[Qh];simp only[yj,Bg,Ec,shutAll,Xa]
 |n+1,t::r,cur,c=>by
  rw[Ia]at c;rw[Yk,oN];unfold Q9;simp only[Eo];rw[Ja (by decide),Ja (show¬((0:Int)≠0/\t.kind=0)from fun h=>h.1 rfl)];by_cases a:zw t.kind=0
  ·rw[Ja (show¬zw t.kind≠0 from fun h=>h a),Ka a,Aa,uF n r _ (by omega)];cases Qh n r 0 16 with
   |none=>rfl
   |some v=>grind
  ·rw[Ka a,Ja a,Ja (by decide),Aa];rw[Ez n r [] t cur [] 15 (by omega) a rfl];cases d:Qh n r (zw t.kind) 15 with
   |none=>rfl
   |some w=>
    have b:=(Um n r _ 15 w d).1;simp only[Aa];rw[uF n w.2 _ (by omega)];cases Qh n w.2 0 16 with
    |none=>rfl
    |some v=>grind
theorem wy: ∀(a b:List zg),tokL (a++b)=tokL a++tokL b
 |[],b=>by rw[tokL];rfl
 |v::a,b=>by rw[Ya,tokL,tokL,wy a b,Oa]
theorem IE(v:zg):tokL [v]=tokV v:=by rw[tokL,tokL,Xa]
def Rh(s:PSt):Nat:=(tokL s.1).length+(s.2.map fun x=>1+(tokL x.2).length).sum
def Hw(s:PSt):Prop:= ∀x∈s.2,zw x.1.kind≠0
theorem rY{s s':PSt}{t:zb}(h:Q9 s t=some s')(c:Hw s):Hw s'/\Rh s'=Rh s+1:=by
 unfold Q9 at h;obtain⟨g,f⟩:=s;split at h
 ·rename_i d;cases f with
  |nil=>cases d
  |cons x f=> obtain⟨o,e⟩:=x;cases h;have a:zw o.kind≠0:=c (o,e) (Vb ..);refine⟨fun x b=>c x (Rb _ b),?_⟩;simp only[Rh,Vj,wy,IE,Ha,Mc,Gf,Dm,Ia,Ja a,Ha,Bb,Kb];omega
 split at h
 ·rename_i d a;split at h
  ·cases h
  ·rename_i i;cases h;refine⟨fun x b=> ?_,?_⟩
   ·rcases Lb.1 b with rfl|b
    ·exact a
    ·exact c x b
   ·simp only[Rh,Mc,Gf,tokL,Kb];omega
 ·rename_i d a;cases h;refine⟨c,?_⟩;have a:zw t.kind=0:=Sd a;simp only[Rh,wy,IE,Ha,Dm,Ia,Ka a,Kb];omega
theorem uL: ∀(l:List zb) {s s':PSt},Bg l s=some s'->Hw s->Hw s'/\Rh s'=Rh s+l.length
 |[],s,s',h,b=>by cases h;grind
 |t::l,s,s',h,b=>by
  rw[Bg]at h;cases a:Q9 s t with
  |none=>grind
  |some g=>
   rw[a,Aa]at h;obtain⟨c,f⟩:=rY a b;obtain⟨e,d⟩:=uL l h c
   grind
theorem VN: ∀(st:List (zb×List zg)) (cur:List zg),(∀x∈st,zw x.1.kind≠0)->(tokL (shutAll cur st)).length=Rh (cur,st)+st.length
 |[],cur,_=>by simp[shutAll,Rh]
 |(o,a)::st,cur,h=>by have c:zw o.kind≠0:=h (o,a) (Vb ..);rw[shutAll,VN st _ (fun x b=>h x (Rb _ b))];simp only[Rh,wy,IE,Ha,Dm,Ia,Ja c,Ha,Bb,Mc,Gf,Ia,Kb];omega
def Jg(l:List zb)(c:Int)(left:Nat):Option (List zg×List zb):=Qh (l.length+1) l c left
theorem OW(c:Int)(left:Nat):Jg [] c left=some ([],[]):=by unfold Jg;rw[Qh]
theorem yD{n:Nat}{l:List zb}{c:Int}{left:Nat}(h:l.length<n):Qh n l c left=Jg l c left:=az n _ l c left h (Ve _)
theorem aY(t:zb)(r:List zb)(c:Int)(left:Nat):Jg (t::r) c left=if c≠0/\t.kind=c then some ([],r)
  else if zw t.kind=0 then(Jg r c left).map fun v=>(⟨t,[]⟩::v.1,v.2)
  else match left with
   |0=>none
   |m+1=>(Jg r (zw t.kind) m).bind fun w=>(Jg w.2 c (m+1)).map fun v=>(⟨t,w.1⟩::v.1,v.2):=by
 conv=>lhs;unfold Jg;rw[Ia,Yk]
 rw[yD (show r.length<r.length+1 from Ve _)];cases left with
 |zero=>rfl
 |succ m=>
  simp only;rw[yD (show r.length<r.length+1 from Ve _)];cases a:Jg r (zw t.kind) m with
  |none=>rfl
  |some w=> have:=(Um _ _ _ _ w a).1;simp only[Aa];rw[yD (show w.2.length<r.length+1 by omega)]
def valI(n:Nat):Option (List zg×List zb)->List zg×Int
 |none=>([], -1)
 |some v=>(v.1,((n - v.2.length:Nat):Int))
theorem ap80{n:Nat}(h:n<=big):zQ n 1 80=true:=Oj (by grind)
theorem iY{l:List zb}{i:Nat}{c:Int}{left:Nat}(s:l.length<=big)(hi:i<=l.length)(F:left<=100):ZL (l,(i:Int),c,(left:Int))=some (valI l.length (Jg (l.drop i) c left)):=by
 have y: ∀x:List zb×Int×Int×Int,(∃(i left:Nat) (c:Int),x=(l,(i:Int),c,(left:Int))/\i<=l.length/\left<=100)->ZL x=some (valI l.length (Jg (l.drop x.2.1.toNat) x.2.2.1 x.2.2.2.toNat)):=by
  intro x p;refine Pj (fun x=>l.length - x.2.1.toNat) (fun x=> ∃(i left:Nat) (c:Int),x=(l,(i:Int),c,(left:Int))/\i<=l.length/\left<=100) (fun x=>valI l.length (Jg (l.drop x.2.1.toNat) x.2.2.1 x.2.2.2.toNat)) (fun S x p u=> ?_) p;obtain⟨i,left,c,rfl,hi,F⟩:=p;simp only[Ra]at u ⊢;unfold IA;refine QM (fun z=> ∃(j:Nat) (a:List zg),z=((j:Int),a)/\i<=j/\j<=l.length/\a.length<=j/\Jg (l.drop i) c left=(Jg (l.drop j) c left).map fun v=>(a++v.1,v.2)) (fun z=>l.length - z.1.toNat) _ ?_ ⟨i,[],rfl,Va _,hi,Ub _,?_⟩
  ·rintro _ ⟨j,a,rfl,E,C,G,b⟩;rcases Nat.lt_or_eq_of_le C with d|rfl
   ·rw[ja d,aY]at b;have o:w64 ((j:Int)+1)=((j+1:Nat):Int):=Z6 d s;simp only[Q7 d,Ca,Ib,Z8 d,Qy,ze,Aa];by_cases g:c≠0/\l[j].kind=c
    ·rw[Ka g]at b;have r:(c==0)=false:=Ga.2 g.1;have q:(l[j].kind != c)=false:=by rw[g.2,bne_self_eq_false]
     simp only[r,Ba,ma,Ca,q];refine .inr (.inl ⟨_,rfl,?_⟩);rw[b];simp only[Ec,Xa,valI,o,ib];congr 2
     grind
    ·rw[Ja g]at b;have q:(bif c==0 then true else(bif !(c==0)then l[j]else default).kind != c)=true:=by
      cases r:c==0 with
      |true=>rfl
      |false=>grind
     simp only[q,Ca,dz,Aa];by_cases h:zw l[j].kind=0
     ·rw[Ka h]at b;simp only[h,show((0:Int) != 0)=false from rfl,Ba,zh,o];rw[zm (ap80 (by omega))];refine .inl ⟨_,rfl,⟨j+1,_,rfl,by omega,d,by grind,?_⟩,by grind⟩;rw[b,Option.map_map];congr 1
      grind
     ·rw[Ja h]at b;simp only[show(zw l[j].kind != 0)=true from Xe.2 h,Ca,o];cases left with
      |zero=> refine .inr (.inr ?_);simp only at b;rw[b];rfl
      |succ m=>
       have D:(((m+1:Nat):Int)==0)=false:=Ga.2 (by omega);have B:w64 (((m+1:Nat):Int) - 1)=(m:Int):=by rw[w64,qc (by omega) (by omega)];omega
       have t:=u (l,((j+1:Nat):Int),zw l[j].kind,(m:Int)) ⟨j+1,m,_,rfl,d,by omega⟩ (by grind);simp only[Ra]at t;simp only[D,Ba,B,t,Aa];simp only at b;cases k:Jg (l.drop (j+1)) (zw l[j].kind) m with
       |none=> rw[k]at b;refine .inr (.inr ?_);rw[b];rfl
       |some w=> rw[k,Aa]at b;have e:w.2<:+l.drop (j+1):=Gz _ _ _ _ w k;have n:=e.length_le;rw[ib]at n;have A:l.drop (l.length - w.2.length)=w.2:=(List.suffix_iff_eq_drop.1 (e.trans (Xd _ _))).symm;have f:decide (((l.length - w.2.length:Nat):Int)<0)=false:=Ua (by omega);rw[show valI l.length (some w)=(w.1,((l.length - w.2.length:Nat):Int))from rfl];simp only[f,Ba,zh];rw[zm (ap80 (by omega))];refine .inl ⟨_,rfl,⟨l.length - w.2.length,_,rfl,by omega,by omega,by rw[Ha,Bb];omega,?_⟩,by simp only[Ra];omega⟩;rw[b,A,Option.map_map];congr 1;funext v;simp only[Function.comp,Oa,Lc]
   ·rw[List.drop_length,OW]at b;refine .inr (.inl ⟨((l.length:Int),a),?_,?_⟩)
    ·simp only[Tx,Ba,Be,Zb,ze,Aa]
    ·rw[b];simp only[Ec,Xa,valI,Kb,Nat.sub_zero];rw[show w64 ((l.length:Int)+1)=(l.length:Int)+1 by rw[w64,qc (by omega) (by unfold big at s;omega)]];rw[Ja (by omega)]
  ·cases Jg (l.drop i) c left with
   |none=>rfl
   |some v=>rfl
 grind
def wtT:List zb->Nat
 |[]=>0
 |t::r=>1+t.text.length+t.unit.length+wtT r
theorem tC: ∀l:List zb,l.length<=wtT l
 |[]=>Va _
 |t::r=>by rw[wtT,Ia];have:=tC r;omega
theorem ny: ∀(n:Nat) (l:List zb) (c:Int) (left:Nat) (v:List zg×List zb),Qh n l c left=some v->szL v.1+wtT v.2<=wtT l
 |0,_,_,_,_,h=>by cases h
 |n+1,[],c,left,v,h=>by
  rw[Qh]at h;cases h;rw[szL];exact Va _
 |n+1,t::r,c,left,v,h=>by
  rw[Yk]at h;rw[wtT];split at h
  ·cases h;rw[szL];simp only;omega
  split at h
  ·cases a:Qh n r c left with
   |none=>rw[a]at h;cases h
   |some w=> rw[a]at h;cases h;have:=ny n r c left w a;simp only[szL,szV];omega
  ·cases left with
   |zero=>cases h
   |succ m=>
    simp only at h;cases b:Qh n r (zw t.kind) m with
    |none=>rw[b]at h;cases h
    |some w=>
     rw[b,Aa]at h;cases a:Qh n w.2 c (m+1)with
     |none=>rw[a]at h;cases h
     |some d=> rw[a]at h;cases h;have e:=ny n w.2 c _ d a;have f:=ny n r _ m w b;simp only[szL,szV];omega
theorem YI(l:List zb):(Bg l ([],[])).map (fun s=>shutAll s.1 s.2)=(Jg l 0 16).map Prod.fst:=uF _ l [] (Ve _)
theorem uH{l:List zb}{s:PSt}(h:Bg l ([],[])=some s):szL (shutAll s.1 s.2)<=wtT l:=by
 have a:=YI l;rw[h,Ec]at a;cases b:Jg l 0 16 with
 |none=>rw[b]at a;cases a
 |some v=> rw[b,Ec]at a;injection a with a;have:=ny _ _ _ _ v b;rw[a];omega
theorem TU(l:List zb):szL (parS l).1<=wtT l:=by
 unfold parS;split
 ·rw[szL];exact Ub _
 ·split
  ·rw[szL];exact Ub _
  ·rename_i s a;split
   ·rw[szL];exact Ub _
   ·exact uH a
theorem kY{l:List zb}(e:l.length<=big):Ev l=some (match Bg l ([],[])with|none=>([],false)|some s=>(shutAll s.1 s.2,true)):=by
 unfold Ev;have h:=iY (l:=l) (i:=0) (c:=0) (left:=16) e (Ub _) (by omega);rw[Rf]at h;replace h:ZL (l,0,0,16)=_:=h;rw[h,ze,Aa];have a:=YI l;cases d:Jg l 0 16 with
 |none=>
  rw[d]at a;cases b:Bg l ([],[])with
  |none=>rfl
  |some s=>rw[b]at a;cases a
 |some v=>
  rw[d]at a;cases b:Bg l ([],[])with
  |none=>rw[b]at a;cases a
  |some s=> rw[b,Ec,Ec]at a;injection a with a;exact congrArg some (Prod.ext a.symm (Fa (show((l.length - v.2.length:Nat):Int)>=0 by omega)))
theorem dX{l:List zb}(h:wtT l<=big):su l=some (parS l):=by
 have k:=tC l;unfold su parS;by_cases a:1500<l.length
 ·rw[Ka a,Fa (show(l.length:Int)>1500 by omega)];rfl
 ·rw[Ja a,Ua (show¬(l.length:Int)>1500 by omega),Ba,kY (by omega)];simp only[ze,Aa];cases b:Bg l ([],[])with
  |none=>rfl
  |some s=>
   have f:=uH b;obtain⟨e,j⟩:=uL l b (fun x g=>by cases g);have i:=VN s.2 s.1 e;have d:Rh (s.1,s.2)=l.length:=by rw[show(s.1,s.2)=s from rfl,j];simp[Rh,tokL]
   simp only[Db,Ba,cz (show szL (shutAll s.1 s.2)<=big by omega),Aa];rw[d]at i;by_cases c:1500<l.length+s.2.length
   ·rw[Ka c,Fa (show((tokL (shutAll s.1 s.2)).length:Int)>1500 by omega)];rfl
   ·rw[Ja c,Ua (show¬((tokL (shutAll s.1 s.2)).length:Int)>1500 by omega)];rfl
theorem eH: ∀l:List zb,wtT l<=zL Qz l
 |[]=>by rw[wtT];grind
 |t::r=>by rw[wtT,KI,KW];have:=eH r;omega
theorem size_le{l:List zg}{m:Nat}(h:szL l<=big)(hm:m<=1000): ∃r:Int,qC (l,(m:Int))=some r/\0<=r/\r<=szL l/\(r<=m->r=szL l):=by
 have: ∃r,qC (l,(m:Int))=some r/\(0<=r/\r<=(szL l:Int)/\(r<=(m:Int)->r=(szL l:Int))):=by
  refine dV U8 (fun x=>szL x.1) (fun x=>szL x.1<=big/\0<=x.2/\x.2<=1000) (fun x r=>0<=r/\r<=(szL x.1:Int)/\(r<=x.2->r=(szL x.1:Int))) (fun S x hx hS=> ?_) (x:=(l,(m:Int))) ⟨h,by omega,by omega⟩;obtain⟨l,m⟩:=x;obtain⟨hx,hm0,hm1⟩:=hx;simp only at hx hm0 hm1;have hlen:=Ej l;unfold big at hx;unfold Vq;refine MV (A:=Int) l.length (fun i a=>(a,(i:Int))) (fun i a=>0<=a/\a<=(szL (l.take i):Int)/\(a<=m->a=(szL (l.take i):Int))) _ (a0:=0) rfl ⟨by omega,by simp[szL],fun _=>by simp[szL]⟩ (fun i a hi ha=> ?_) (fun a ha=> ?_)
  ·obtain⟨ha0,ha1,ha2⟩:=ha;have hsz:=Vt hi;have hsz2:=pu l (i+1);have hv:=Oi l[i];have hm2:=Dj (Xc hi);cases hc:decide (a<=m)with
   |false=> simp only[Q7 hi,Ca,Ba,hc];have hc:=of_decide_eq_false hc;exact .inr (.inr ⟨_,rfl,_,rfl,ha0,by omega,fun q=>absurd q hc⟩)
   |true=>
    have hc':=Pb hc;have e0:w64 (m - a)=m - a:=by rw[w64,qc (by omega) (by omega)]
    obtain⟨r,hr,hr0,hr1,hr2⟩:=hS (l[i].list,w64 (m - a)) ⟨by show szL l[i].list<=4194304;omega,by show 0<=w64 (m - a);omega,by show w64 (m - a)<=1000;omega⟩ (by show szL l[i].list<szL l;omega);simp only[e0]at hr2 hr1;have e1:w64 (a+w64 (w64 (w64 (1+(l[i].token.text.length:Int))+(l[i].token.unit.length:Int))+r))=a+(1+l[i].token.text.length+l[i].token.unit.length+r):=by rw[w64,w64,w64,w64,qc (n:=1+(l[i].token.text.length:Int)) (by omega) (by omega),qc (n:=1+(l[i].token.text.length:Int)+(l[i].token.unit.length:Int)) (by omega) (by omega),qc (n:=1+(l[i].token.text.length:Int)+(l[i].token.unit.length:Int)+r) (by omega) (by omega),qc (by omega) (by omega)]
    simp only[Q7 hi,Ca,hc,Z8 hi,ze,Aa,hr,e1,Z6 hi (show l.length<=big by unfold big;omega)];exact .inl ⟨_,rfl,by omega,by omega,fun q=>by have:=ha2 hc';have:=hr2 (by omega);omega⟩
  ·obtain⟨ha0,ha1,ha2⟩:=ha;rw[List.take_length]at ha1 ha2;simp only[Tx,Ba];exact .inl ⟨_,rfl,_,rfl,ha0,ha1,ha2⟩
 obtain⟨r,hr,h0,h1,h2⟩:=this;exact⟨r,hr,h0,h1,h2⟩
theorem EY{l:List zg}(h:szL l<=big): ∃g,tu l=some g/\(g=false->szL l<=300):=by
 obtain⟨r,hr,h0,h1,h2⟩:=size_le (m:=300) h (by omega);unfold tu;replace hr:qC (l,300)=some r:=hr;simp only[ze,hr,Aa];cases hd:decide (r>300)with
 |true=>exact⟨_,rfl,fun e=>by cases e⟩
 |false=> have hd:=of_decide_eq_false hd;simp only[ma,zH,pJ h,Aa];exact⟨_,rfl,fun _=>by have:=h2 (by omega);omega⟩
mutual
theorem TS: ∀v:zg,wtS (tokV v)<=30*szV v
 |⟨t,l⟩=>by
  rw[tokV,szV];have h1:=rC l;have h2:=Cw t.kind;split
  ·rw[wtS,wtS];omega
  ·rename_i h0;rw[wtS,iw,wtS,wtS];have h3:kw t.kind=10:=by unfold kw;rw[Ja];rintro(q|q|q)<;>exact h0 (by rw[q];rfl)
   have h4:kw (zw t.kind)=10:=by
    unfold zw;split
    ·rfl
    split
    ·rfl
    split<;>rfl
   simp only[h3,h4,Kb];omega
theorem rC: ∀l:List zg,wtS (tokL l)<=30*szL l
 |[]=>by rw[tokL,wtS];exact Ub _
 |v::r=>by rw[tokL,szL,iw];have:=TS v;have:=rC r;omega
end
mutual
theorem tk_V: ∀(v:zg),iq (tokV v) (szV v)
 |⟨t,l⟩,u,h=>by
  rw[tokV]at h;rw[szV];rcases Lb.1 h with rfl|h
  ·omega
  ·split at h
   ·cases h
   ·rcases Od.1 h with h|h
    ·have:=tk_L l u h;omega
    ·obtain rfl:=Oe.1 h;exact Ub _
theorem tk_L: ∀(l:List zg),iq (tokL l) (szL l)
 |[],_,h=>by rw[tokL]at h;cases h
 |v::r,u,h=>by
  rw[tokL]at h;rw[szL];rcases Od.1 h with h|h
  ·have:=tk_V v u h;omega
  ·have:=tk_L r u h;omega
end
theorem bV{l:List zg}(h:szL l<=big):eu l=some (if errS l=0 then(tokL l,0)else([],errS l)):=by
 unfold eu;simp only[iL h,ze,Aa];by_cases he:errS l=0
 ·rw[Ka he,he];simp only[show((0:Int) != 0)=false from rfl,Ba,cz h,Aa]
 ·rw[Xe.2 he,Ca,Ja he]
def kv(l:List zg):Str×Int:=if errS l=0 then(if gluS (tokL l)=0 then(if 4000<(wrS (tokL l)).length then([],28)else(wrS (tokL l),0))else([],gluS (tokL l)))else([],errS l)
theorem R3{l:List zg}(h:szL l<=300):Ou l=some (kv l):=by
 have hb:szL l<=big:=by unfold big;omega
 unfold Ou kv;simp only[wM hb,ze,Aa];by_cases he:errS l=0
 ·rw[Ka he,he];simp only[show((0:Int) != 0)=false from rfl,Ba,mK hb,Aa];rw[IW (fun t ht=>by have:=tk_L l t ht;omega),Aa]
 ·rw[Xe.2 he,Ca,Ja he]
theorem Y1{l:List zg}(h:szL l<=300):cu l=some (kv l):=by
 have hb:szL l<=big:=by unfold big;omega
 unfold cu kv;simp only[iL hb,ze,Aa];by_cases he:errS l=0
 ·rw[Ka he,he];simp only[show((0:Int) != 0)=false from rfl,Ba,cz hb,Aa];rw[fV (fun t ht=>by have:=tk_L l t ht;omega) (fun _=>by have:=rC l;omega),Aa]
 ·rw[Xe.2 he,Ca,Ja he]
theorem U6{l:List zb}{v:List zg}(h:szL v<=big)(hl:wtT l<=big):YA (l,v)=some true:=by
 have hll:=tC l;obtain⟨g,hg,hg2⟩:=EY h;unfold YA;simp only[hg,ze];obtain⟨c,hc⟩: ∃c,(bif bif decide ((l.length:Int)>200)then decide ((l.length:Int)<1480)else false then true else decide ((l.length:Int)>1510))=c:=⟨_,rfl⟩;rw[hc];cases c with
 |true=>simp only[Db,Zb,Aa,Ca]
 |false=>
  simp only[ma,zH,Aa,Ba];cases g with
  |true=>rfl
  |false=>
   have hs:=hg2 rfl;have hap:zQ 0 l.length 56=true:=Oj (by unfold big at hl;omega);have hps:=TU l;have htl:=Em v;have hf:((if errS v=0 then(tokL v,(0:Int))else([],errS v)).1).length<=big:=by
    split
    ·show(tokL v).length<=4194304;omega
    ·exact Ub _
   simp only[Ba,hap,Zd,parseF,dX hl,U3 h,bV h,R3 hs,Y1 hs,Aa,FW (show szL (parS l).1<=big by omega),same_eq hf,Vm.2 rfl,Xf,Ca,zH,
    yV (show l.length<=big by omega)]
end Go.Lv.VT
