/- The statement about the reading of conditions. -/
import Derived.Test.YtkecjfeffabgiaaGreatDoorXj
import Derived.Test.YtkecjfeffabgiaaGreatDoorXi
import Derived.Test.YtkecjfeffabgiaaGreatDoorXb
import Derived.Test.YtkecjfeffabgiaaGreatDoorXh
import Derived.Test.YtkecjfeffabgiaaGreatDoorXf
import Derived.Test.YtkecjfeffabgiaaGreatDoorXa
set_option linter.unusedSimpArgs false
set_option linter.unusedVariables false
namespace Go.Lv.VT
theorem zIw{l:List zb}(hz:zL zo l<=big)(he:errS l=0): ∃y,zH ⟨l⟩=some y/\MayR y.1 (Mh l):=by refine Ws zhl (fun x=>zL zo x.v) (fun x=>zL zo x.v<=big/\errS x.v=0) (fun x y=>MayR y.1 (Mh x.v)) (fun S x hx hS=> ?_) (x:=(⟨l⟩:zk)) ⟨hz,he⟩;obtain⟨l⟩:=x;obtain⟨hz,he⟩:=hx;simp only at hz he hS ⊢;rw[nz];have hl:=ED wJ l;refine zCc (by omega) fun a ha=> ?_;obtain⟨h1,h2,h3,h4⟩:=tq hz ha;refine⟨h1,h3,fun hk=>⟨d9 he ha hk,hS ⟨a.list⟩ ⟨h3,d9 he ha hk⟩ h4⟩⟩
theorem zEC(v:List zb):(Ug v).1.Sublist v:=by
 unfold Ug;split
 ·exact ve _
 ·rename_i t z he;have hv:=iw he;cases !t.isEmpty&&(z.token.kind==1&&lowS z.token.text==impW)with
  |false=>exact ve _
  |true=>
   rw[Da];split
   ·exact ve _
   ·rename_i u b hb;have hw:=iw hb;cases wo b with
    |false=>exact ve _
    |true=> rw[Da,hv];refine(ek u).trans (List.Sublist.trans ?_ ((ek t).trans (Ue t [z])));rw[hw];exact Ue u [b]
theorem zEW{x:List zb}{d:zD}(h:oneO x=some d):zx (Qs d)<=zL zo x:=by
 have hx:zL zo (trimS x)<=zL zo x:=Bi ((ek _).trans (kg _));unfold oneO at h;cases h2:(oneS x).2 with
 |false=>rw[h2]at h;cases h
 |true=>
  rw[h2,Da]at h;injection h with h;subst h;unfold oneS at h2 ⊢;generalize trimS x=m at*;cases m with
  |nil=>cases h2
  |cons a r=>
   simp only at h2 ⊢;cases h1:a.token.kind==1 with
   |false=>rw[h1]at h2;cases h2
   |true=>
    rw[h1]at h2;simp only[Da]at h2 ⊢;have hsr:zL zo (r.dropWhile isSp)<=zL zo r:=Bi (Sd _);cases hs:r.dropWhile isSp with
    |nil=>rw[hs]at h2;cases h2
    |cons c r2=>
     rw[hs]at h2 hsr;simp only at h2 ⊢;cases h3:c.token.kind==16 with
     |false=>rw[h3]at h2;cases h2
     |true=>
      rw[h3]at h2;simp only[Da]at h2 ⊢;cases h4:Dg ⟨nmD a.token.text,(Ug (r2.dropWhile isSp)).1,(Ug (r2.dropWhile isSp)).2⟩with
      |false=>rw[h4]at h2;cases h2
      |true=> rw[Da,Uq];have hv:zL zo (Ug (r2.dropWhile isSp)).1<=zL zo r2:=Bi ((zEC _).trans (Sd _));have hva:=Im a;rw[Qf]at hx hsr;simp only[U5];omega
theorem JH:zx (Qs noDC)=3:=by rw[Uq];rfl
theorem zCnd(k:Int)(n:Str)(u:Int)(d:zD)(l:List zf):zx (zm ⟨k,n,u,d,l⟩)=4+n.length+zx (Qs d)+zL zm l:=by rw[Vn];simp only;omega
theorem zNil:zL zm []=0:=rfl
theorem bK{f:List zb->Option zf}{a:zb}{c:zf}(hf: ∀c,f a.list=some c->zx (zm c)<=2*zL zo a.list)(h:mg f a=some c):zx (zm c)<=2*zx (zo a):=by
 have hva:=Im a;have ho:zx (zm LD)=7:=by unfold LD;rw[zCnd,JH,zNil];rfl
 unfold mg at h;cases h2:a.token.kind==2 with
 |true=>rw[h2]at h;injection h with h;subst h;omega
 |false=>
  rw[h2]at h;cases h3:a.token.kind==21 with
  |false=>rw[h3]at h;cases h
  |true=>
   rw[h3]at h;simp only[Da,Ba]at h;cases hd:oneO a.list with
   |some d=> rw[hd]at h;injection h with h;subst h;have:=zEW hd;unfold vZ;rw[zCnd,zNil];simp only[Eb];omega
   |none=>
    rw[hd]at h;simp only at h;cases hfl:f a.list with
    |none=>rw[hfl]at h;injection h with h;subst h;omega
    |some z=> rw[hfl]at h;injection h with h;subst h;have:=hf z hfl;omega
theorem BU{f:List zb->Option zf}{op:Str}: ∀(n:Nat) {flag:Bool} {l:List zb} {q:List zf},l.length<n->(∀a∈l,∀c,f a.list=some c->zx (zm c)<=2*zL zo a.list)->
  xg f op flag l=some q->zL zm q<=2*zL zo l.tail
 |0,_,_,_,h,_,_=>by omega
 |n+1,flag,[],q,_,_,h=>by rw[CL]at h;injection h with h;subst h;exact Kc _
 |n+1,flag,a::r,q,hn,hf,h=>by
  rw[VG]at h;have hl:=Ai r;have hz:=Bi (f:=zo) (kg r);rw[Fa]at hn;have hfr: ∀a∈sp r,∀c,f a.list=some c->zx (zm c)<=2*zL zo a.list:=fun b hb=>hf b (ja _ ((kg r).subset hb));cases hg:flag&&(isW op a&&decide ((sp r).length<r.length))with
  |false=>rw[hg]at h;cases h
  |true=>
   rw[hg]at h;simp only[Da]at h;cases hs:sp r with
   |nil=>rw[hs]at h;cases h
   |cons b r'=>
    rw[hs]at h hl hz hfr;simp only at h;cases ht:mg f b with
    |none=>rw[ht]at h;cases h
    |some x=>
     rw[ht]at h;simp only at h;cases hm:xg f op (decide ((sp r').length<r'.length)) (sp r')with
     |none=>rw[hm]at h;cases h
     |some z=> rw[hm]at h;injection h with h;subst h;have hl':=Ai r';rw[Fa]at hl;have h1:=bK (hfr b Fb) ht;have h2:=BU n (l:=sp r') (by omega) (fun c hc=>hfr c (ja _ ((kg r').subset hc))) hm;have h3:=Bi (f:=zo) ((List.tail_sublist (sp r')).trans (kg r'));rw[Qf]at hz;rw[Qf,Ef];omega
theorem zzc{f:List zb->Option zf}{l:List zb}{c:zf}(hf: ∀a∈l,∀c,f a.list=some c->zx (zm c)<=2*zL zo a.list)(h:Ni f l=some c):zx (zm c)<=2*zL zo l:=by
 rw[zFu]at h;have hz:=Bi (f:=zo) (kg l);have hf0: ∀a∈sp l,∀c,f a.list=some c->zx (zm c)<=2*zL zo a.list:=fun b hb=>hf b ((kg l).subset hb);generalize sp l=m at*;cases m with
 |nil=>cases h
 |cons a r=>
  unfold iN at h;simp only at h;have hva:=Im a;rw[Qf]at hz;have hr:=Bi (f:=zo) (kg r);have hfr: ∀a∈sp r,∀c,f a.list=some c->zx (zm c)<=2*zL zo a.list:=fun b hb=>hf0 b (ja _ ((kg r).subset hb));cases hn:isW notW a with
  |true=>
   rw[hn]at h;simp only[Da]at h;cases hg:decide ((sp r).length<r.length)&&(sp (sp r).tail).isEmpty with
   |false=>rw[hg]at h;cases h
   |true=>
    rw[hg]at h;simp only[Da]at h;cases hs:sp r with
    |nil=>rw[hs]at h;cases h
    |cons b t=>
     rw[hs]at h hr hfr;simp only[Sj]at h;cases ht:mg f b with
     |none=>rw[ht]at h;cases h
     |some x=> rw[ht]at h;injection h with h;subst h;have:=bK (hfr b Fb) ht;unfold notC;rw[zCnd,JH,Qf,zNil];rw[Qf]at hr;simp only[Eb];omega
  |false=>
   rw[hn]at h;simp only[Ba]at h;cases ht:mg f a with
   |none=>rw[ht]at h;cases h
   |some x=>
    rw[ht]at h;simp only at h;have h1:=bK (hf0 a Fb) ht;cases hs:sp r with
    |nil=>rw[hs]at h;injection h with h;subst h;omega
    |cons w t=>
     rw[hs]at h hr hfr;simp only at h;have hvw:=Im w;rw[Qf]at hr;have more: ∀op q,xg f op (decide ((w::t).length<r.length)) (w::t)=some q->zL zm q<=2*zL zo t:=fun op q hq=>BU _ (Bf _) hfr hq;cases ho:isW orW w with
     |true=>
      rw[ho]at h;simp only[Da]at h;cases hm:xg f orW (decide ((w::t).length<r.length)) (w::t)with
      |none=>rw[hm]at h;cases h
      |some q=> rw[hm]at h;injection h with h;subst h;have:=more _ _ hm;unfold orC;rw[zCnd,JH,Qf];simp only[Eb];omega
     |false=>
      rw[ho]at h;simp only[Ba]at h;cases hm:xg f andW (decide ((w::t).length<r.length)) (w::t)with
      |none=>rw[hm]at h;cases h
      |some q=> rw[hm]at h;injection h with h;subst h;have:=more _ _ hm;unfold allC;rw[zCnd,JH,Qf];simp only[Eb];omega
theorem WS: ∀(n:Nat) {l:List zb} {c:zf},zL zo l<n->Mh l=some c->zx (zm c)<=2*zL zo l
 |0,_,_,h,_=>by omega
 |n+1,l,c,hn,h=>by rw[nz]at h;refine zzc (fun a ha c hc=> ?_) h;have:=dN ha;exact WS n (by omega) hc
def supS(x:List zb):zf×Int:=
 if errS x=0 then(match Mh x with
  |some c=>bif ZW c then(c,0)else(nilC,12)
  |none=>(nilC,12))else(nilC,errS x)
theorem nV{x:List zb}(hz:2*zL zo x<=big):Iu x=some (supS x):=by
 unfold Iu supS;have hsz:=Nr x;simp only[ut (show szL x<=big by omega),ze,Aa];by_cases he:errS x=0
 ·have e0:((0:Int) != 0)=false:=rfl;obtain⟨⟨⟨c,b⟩,rd⟩,g1,g2,g3⟩:=zIw (show zL zo x<=big by omega) he;simp only[he,e0,Ba,Te,g1,Aa,Zd];cases ht:Mh x with
  |none=> rw[ht]at g2;obtain rfl:b=false:=g2;rfl
  |some z=> rw[ht]at g2;obtain rfl:b=true:=g2;obtain rfl:c=z:=g3 z ht;have:=WS _ (Bf _) ht;simp only[Va,Ta,zB,MN (show zx (zm c)<=big by omega),Aa,Ba];cases ZW c<;>rfl
 ·have e0:(errS x != 0)=true:=Lf.2 he;simp only[Ia he,e0,Da];rfl
theorem zCw{a:List zb}(h:szL a<=big):QG (a,a)=some true:=by
 refine Ul (fun x:List zb×List zb=>szL x.1) (fun x=>szL x.1<=big/\x.1=x.2) (fun x=>true) (fun S x hl hS=> ?_) (show szL (a,a).1<=big/\(a,a).1=(a,a).2 from⟨h,rfl⟩);obtain⟨l,l'⟩:=x;obtain⟨hl,he⟩:=hl;simp only at hl hS he;subst he;unfold Cu;have hlen:=Wi l;have hne:((l.length:Int) != (l.length:Int))=false:=by simp
 simp only[hne,Ba];refine(YJ l (fun i (_:Unit)=>(i:Int)) (fun v (_:Unit)=>some (.again ())) (fun _=>some (.out ())) (a:=()) rfl (fun i a hi=> ?_) (fun a=> ?_) (r:= .out ()) ?_)
 ·have hsz:=Am (jb hi);have hv2:=Aj l[i];have hs1:szL l[i].list<=big:=by omega
  have hs2:szL l[i].list<szL l:=by omega
  have hSq:S (l[i].list,l[i].list)=some true:=hS (l[i].list,l[i].list) ⟨hs1,rfl⟩ hs2;simp[hi,Zo hi,hSq,Zp hi (by omega)]
 ·simp only[qA,Ba];rfl
 ·rw[iq (fun a v=>a) (fun v a=>rfl)]
theorem zy4{d:zD}(h:zL zo d.value<=big):Eu (d,d)=some true:=by unfold Eu;have:=Nr d.value;have e1:(d.name==d.name)=true:=Jd _;have e2:(d.important==d.important)=true:=Jd _;simp only[e1,e2,Da,zB,zCw (show szL d.value<=big by omega),ze,Aa]
theorem zz2{c:zf}(h:zx (zm c)<=big):Qn (c,c)=some true:=by
 refine Ul (fun x:zf×zf=>zx (zm x.1)) (fun x=>zx (zm x.1)<=big/\x.1=x.2) (fun x=>true) (fun S x hl hS=> ?_) (show zx (zm (c,c).1)<=big/\(c,c).1=(c,c).2 from⟨h,rfl⟩);obtain⟨c,c'⟩:=x;obtain⟨hl,he⟩:=hl;simp only at hl hS he;subst he;unfold Bu;have hlen:=Nl c;have hd:=JB c;rw[Uq]at hd;have e1:(c.kind != c.kind)=false:=by simp
 have e2:(c.name==c.name)=true:=Jd _;have e3:(c.num != c.num)=false:=by simp
 have e4:((c.list.length:Int) != (c.list.length:Int))=false:=by simp
 simp only[e1,e2,e3,e4,Ba,Va,Ta,zB,zy4 (show zL zo c.decl.value<=big by omega),ze,Aa];refine(YJ c.list (fun i (_:Unit)=>(i:Int)) (fun v (_:Unit)=>some (.again ())) (fun _=>some (.out ())) (a:=()) rfl (fun i a hi=> ?_) (fun a=> ?_) (r:= .out ()) ?_)
 ·have hsz:=qx (jb hi);have hSq:S (c.list[i],c.list[i])=some true:=hS (c.list[i],c.list[i]) ⟨by show zx (zm c.list[i])<=big;omega,rfl⟩ hsz;simp[hi,Zo hi,hSq,Zp hi (by omega),Zd]
 ·simp only[qA,Ba];rfl
 ·rw[iq (fun a v=>a) (fun v a=>rfl)]
theorem zC3{l:List zb}(h:(trimS l).length=l.length):trimS l=l:=(zze l).eq_of_length h
theorem zAe{d:zD}(h:Dg d=true):trimS d.value=d.value:=by unfold Dg Xu at h;simp only[Ca]at h;refine zC3 ?_;have:=zzd d.value;rw[h.2.2.2.2.2.2]at this;exact eq_of_beq this
theorem zyv{d:zD}(h:Dg d=true)(hz:szL d.value<=big):Vl d.value=some (d.value,0):=by
 have he:errS d.value=0:=by unfold Dg at h;simp only[Ca,Bb]at h;exact h.2.1
 rw[wT hz,Ka he,zAe h]
theorem Dt{S X R:Type}{step:S->Option (LO S X R)}{k:X->Option R}(n:Nat)(st:Nat->S)(x:X){s0:S}(h0:s0=st 0)(hg: ∀i,i<n->step (st i)=some (.again (st (i+1))))(hf:step (st n)=some (.out x)):Zj step s0 k=k x:=by
 have key: ∀(m i:Nat),i+m=n-> ∃j,ZT step j (st i)=some (.out x):=by
  intro m
  induction m with
  |zero=>
   intro i hi;obtain rfl:i=n:=by omega
   exact⟨1,by simp only[ZT,hf]⟩
  |succ m ih=> intro i hi;obtain⟨j,hj⟩:=ih (i+1) (by omega);exact⟨j+1,by simp only[ZT,hg i (by omega)];exact hj⟩
 obtain⟨j,hj⟩:=key n 0 (by omega);rw[h0,Go.Lv.qK (Q4 hj)]
theorem lK{α β:Type}(f:α->List β){l:List α}{i:Nat}(h:i<l.length):(l.take (i+1)).flatMap f=(l.take i).flatMap f++f l[i]:=by rw[Xb h,List.flatMap_append];simp
theorem zs7{α β:Type}(f:α->List β)(l:List α)(i:Nat):((l.take i).flatMap f).length<=(l.flatMap f).length:=by have:=congrArg (fun l=>(l.flatMap f).length) (List.take_append_drop i l);simp only[List.flatMap_append,Ja]at this;omega
theorem DK{α β:Type}(f:α->List β)(g:α->Nat): ∀{l:List α},(∀y∈l,(f y).length<=g y)->(l.flatMap f).length<=(l.map g).sum
 |[],_=>Ua _
 |c::r,h=>by rw[uf,Ja,Yb,Me];have h1:=h c (by simp);have h2:=DK f g (l:=r) fun y hy=>h y (by simp[hy]);omega
theorem kR: ∀c:zf,(Zn c).length<=sizC c:=by
 have key: ∀(n:Nat) (c:zf),sizC c<=n->(Zn c).length<=sizC c:=by
  intro n
  induction n with
  |zero=>intro c hc;have:=Qe c;omega
  |succ n ih=>
   intro c hc;have hs:=QD c;rw[QK];cases c.kind==7 with
   |true=>have:=Qe c;simp only[Da,Fa,Eb];omega
   |false=> have:=DK Zn sizC (l:=c.list) fun y hy=>ih y (by have:=Qx hy;omega);simp only[Ba];omega
 exact fun c=>key _ c (Ua _)
theorem zAg{l:List zf}{i:Nat}(hi:i<l.length):((l.take i).flatMap Zn).length+(Zn l[i]).length<=(l.map sizC).sum:=by have h1:=DK Zn sizC (l:=l.take i) fun y _=>kR y;have h2:=kR l[i];have h3:=Rq sizC hi;have h4:=yx sizC l (i+1);omega
theorem zDP{c:zf}(h:zx (zm c)<=big){i:Nat}(hi:i<c.list.length):zW ((c.list.take i).flatMap Zn).length (Zn c.list[i]).length 48=true:=by have h1:=zAg hi;have h2:=QD c;have h3:=DI c;unfold big at h;exact QH (by omega)
theorem OX{c:zf}(h:zx (zm c)<=big)(ht: ∀d∈Zn c,Vl d.value=some (d.value,0)):qR c=some (Zn c):=by
 refine Ul (fun c=>zx (zm c)) (fun c=>zx (zm c)<=big/\ ∀d∈Zn c,Vl d.value=some (d.value,0)) Zn (fun S c hc hS=> ?_) ⟨h,ht⟩;obtain⟨hc,ht⟩:=hc;unfold fG;rw[QK]at ht ⊢;cases h7:c.kind==7 with
 |true=> rw[h7,Da]at ht;simp only[Da,ht c.decl (by simp),ze,Aa]
 |false=>
  rw[h7,Ba]at ht;simp only[Ba];have hlen:=Nl c;refine(Dt c.list.length (fun i=>((i:Int),(c.list.take i).flatMap Zn)) (c.list.flatMap Zn) rfl (fun i hi=> ?_) ?_).trans rfl
  ·have hm:=jb hi;have hs:=hS c.list[i] ⟨by have:=qx hm;omega,fun d hd=>ht d (Pd.2 ⟨_,hm,hd⟩)⟩ (qx hm);simp only[ZF hi,Da,Zo hi,ze,Aa,Zd,hs,zDP hc hi,zK,lK Zn hi,Zp hi (show c.list.length<=big by omega)]
  ·simp only[qA,Ba,Yc]
mutual
def lfC:zf->Bool
 |⟨k,_,_,_,l⟩=>bif k==4||(k==5||(k==6||(k==7||k==8)))then l.isEmpty else(bif k==3 then l.length==1 else k==1||k==2)&&lfCs l
def lfCs:List zf->Bool
 |[]=>true
 |c::r=>lfC c&&lfCs r
end
theorem SQ: ∀l:List zf,lfCs l=l.all lfC
 |[]=>by rw[lfCs];rfl
 |c::r=>by rw[lfCs,SQ r];rfl
theorem Np(c:zf):lfC c=bif c.kind==4||(c.kind==5||(c.kind==6||(c.kind==7||c.kind==8)))then c.list.isEmpty else(bif c.kind==3 then c.list.length==1 else c.kind==1||c.kind==2)&&c.list.all lfC:=by obtain⟨⟩:=c;rw[lfC,SQ]
theorem zHJ{f:Bool}{y:zf}(h:ag f y=true):lfC y=true:=by
 unfold ag at h;simp only[Ca]at h;rw[Np,h.1];have:(y.kind==4||(y.kind==5||(y.kind==6||(y.kind==7||y.kind==8))))=true:=by have h2:=h.2;clear h;cases h4:y.kind==4<;>cases h5:y.kind==5<;>cases h6:y.kind==6<;>simp[h4,h5,h6]at h2 ⊢
 rw[this];rfl
theorem RQ{c:zf}(h:qL c=true):lfC c=true:=by unfold qL at h;simp only[Ca,Bb]at h;rw[Np,h.1];exact aa.2 fun y hy=>let⟨_,e⟩:=yw h.2.2.2 hy;zHJ e
theorem zHI{c:zf}(h:Vg c=true):lfC c=true:=by
 unfold Vg at h;cases h3:c.kind==3 with
 |false=>rw[h3]at h;exact RQ h
 |true=>
  rw[h3,Da,Ca]at h;have:=h.2;revert this;rw[Np,eq_of_beq h3];cases hl:c.list with
  |nil=>intro h;cases h
  |cons y r=>
   cases r with
   |nil=> intro hq;simp only[Ca]at hq;simp[RQ hq.1]
   |cons z r=>intro hq;cases hq
theorem zEs{c:zf}(h:Zu c=true):lfC c=true:=by
 unfold Zu at h;simp only[Ca,Vb,Bb,Uc,aa]at h;rw[Np];rcases h.2 with⟨hk,hl⟩|⟨hk,_,_,hl⟩
 ·rw[hk,hl];rfl
 ·rw[hk];exact aa.2 fun y hy=>zHI (hl y hy)
theorem G6: ∀{c:zf},supC c=true->lfC c=true:=by
 have key: ∀(n:Nat) (c:zf),sizC c<=n->supC c=true->lfC c=true:=by
  intro n
  induction n with
  |zero=>intro c hc;have:=Qe c;omega
  |succ n ih=>
   intro c hc hs;rw[Jj]at hs;rw[Np];have hsz:=QD c;have ha:(c.list.all supC)=true->c.list.all lfC=true:=fun h=>aa.2 fun y hy=>ih y (by have:=Qx hy;omega) (aa.1 h y hy);cases h7:c.kind==7 with
   |true=> rw[h7,Da]at hs;simp only[Ca]at hs;simp only[Td,Df,Da];exact hs.1
   |false=>
    cases h8:c.kind==8 with
    |true=> rw[h7,h8,Ba,Da]at hs;simp only[Ca]at hs;simp only[Td,Df,Da];exact hs.1
    |false=>
     rw[h7,h8,Ba,Ba]at hs;simp only[Ca]at hs;obtain⟨hk,_,hl,hall⟩:=hs;have h4:(c.kind==4||(c.kind==5||(c.kind==6||(false||false))))=false:=by simp only[Vb,Bb]at hk;rcases hk with e|e|e<;>rw[e]<;>rfl
     rw[h4,Ba,ha hall,ib];cases h3:c.kind==3 with
     |true=>rw[h3]at hl;exact hl
     |false=>rw[h3,Jc]at hk;exact hk
 intro c hs;exact key _ c (Ua _) hs
theorem RV(w:Int): ∀(a b:List zf) (ys:List Bool),Eh w (a++b) ys=(Eh w a ys&&Eh w b (ys.drop (a.flatMap Zn).length))
 |[],b,ys=>by rw[Pb,Eh];rfl
 |c::a,b,ys=>by rw[Sa,Eh,Eh,RV w a b,af,Ve,uf,Ja]
theorem OV(w:Int): ∀(a b:List zf) (ys:List Bool),ug w (a++b) ys=(ug w a ys||ug w b (ys.drop (a.flatMap Zn).length))
 |[],b,ys=>by rw[Pb,ug];rfl
 |c::a,b,ys=>by rw[Sa,ug,ug,OV w a b,Bool.or_assoc,Ve,uf,Ja]
theorem YV(w:Int): ∀(l:List zf) (ys:List Bool) (m:Nat),(l.flatMap Zn).length<=m->Eh w l (ys.take m)=Eh w l ys
 |[],ys,m,_=>by rw[Eh,Eh]
 |c::a,ys,m,h=>by rw[uf,Ja]at h;rw[Eh,Eh,List.take_take,Nat.min_eq_left (by omega),Li,YV w a _ _ (by omega)]
theorem mV(w:Int): ∀(l:List zf) (ys:List Bool) (m:Nat),(l.flatMap Zn).length<=m->ug w l (ys.take m)=ug w l ys
 |[],ys,m,_=>by rw[ug,ug]
 |c::a,ys,m,h=>by rw[uf,Ja]at h;rw[ug,ug,List.take_take,Nat.min_eq_left (by omega),Li,mV w a _ _ (by omega)]
theorem zvl{w:Int}{l:List zf}{i:Nat}(hi:i<l.length)(ys:List Bool):Eh w (l.take (i+1)) ys=(Eh w (l.take i) ys&&holC w l[i] ((ys.drop ((l.take i).flatMap Zn).length).take (Zn l[i]).length)):=by rw[Xb hi,RV,Eh,Eh,ib]
theorem zvm{w:Int}{l:List zf}{i:Nat}(hi:i<l.length)(ys:List Bool):ug w (l.take (i+1)) ys=(ug w (l.take i) ys||holC w l[i] ((ys.drop ((l.take i).flatMap Zn).length).take (Zn l[i]).length)):=by rw[Xb hi,OV,ug,ug,Gd]
def hldF(x:(zf×Int)×Int×List Bool):Bool×Int:=
 (holC x.1.2 x.1.1 ((x.2.2.drop x.2.1.toNat).take (Zn x.1.1).length),((x.2.1.toNat+(Zn x.1.1).length:Nat):Int))
theorem RD{c:zf}(hl:lfC c=true)(hk:c.kind=4\/c.kind=5\/c.kind=6\/c.kind=8):Zn c=[]:=by rw[Np]at hl;rw[QK];rcases hk with e|e|e|e<;>rw[e]at hl ⊢ <;>(have:=Uc.1 hl;rw[this];rfl)
theorem zEp{c:zf}(h:(c.kind==7)=false):Zn c=c.list.flatMap Zn:=by rw[QK,h];rfl
theorem zqs{c:zf}{w:Int}{a:Nat}{ys:List Bool}(h:zx (zm c)<=big)(hl:lfC c=true)(hb:ys.length<=big)(ha:a+(Zn c).length<=ys.length):
  Q9 ((c,w),(a:Int),ys)=some (hldF ((c,w),(a:Int),ys)):=by
 refine Ul (fun x:(zf×Int)×Int×List Bool=>zx (zm x.1.1)) (fun x=>zx (zm x.1.1)<=big/\lfC x.1.1=true/\x.2.2.length<=big/\ ∃a:Nat,x.2.1=a/\a+(Zn x.1.1).length<=x.2.2.length) hldF (fun S x hx hS=> ?_) ⟨h,hl,hb,a,rfl,ha⟩;obtain⟨⟨c,w⟩,at_,ys⟩:=x;obtain⟨hc,hl,hb,a,ea,ha⟩:=hx;simp only at hc hl hb ea ha;subst ea;clear h;have hlen:=Nl c;unfold Py hldF;simp only[Nb];rw[zHx];cases h4:c.kind==4 with
 |true=>
  rw[RD hl (.inl (eq_of_beq h4))];show some (bif c.name==allW then true else c.name==FE,(a:Int))=some (c.name==allW||c.name==FE,((a+0:Nat):Int));cases c.name==allW<;>rfl
 |false=>
 cases h5:c.kind==5 with
 |true=>rw[RD hl (.inr (.inl (eq_of_beq h5)))];rfl
 |false=>
 cases h6:c.kind==6 with
 |true=>rw[RD hl (.inr (.inr (.inl (eq_of_beq h6))))];rfl
 |false=>
 cases h7:c.kind==7 with
 |true=>
  have hd:Zn c=[c.decl]:=by rw[QK,h7];rfl
  rw[hd]at ha ⊢;simp only[Fa,Eb]at ha ⊢;have hi:a<ys.length:=by omega
  unfold Gy;have e1:w64 ((a:Int)+1)=((a+1:Nat):Int):=Zp hi hb;have e2:w64 (((a+1:Nat):Int) - 1)=(a:Int):=by rw[show(((a+1:Nat):Int) - 1)=(a:Int) by omega,w64,Zz (by omega) (by unfold big at hb;omega)]
  have e3:((ys.drop a).take (0+1)).headD false=ys[a]:=by rw[Lb hi];rfl
  simp only[Ba,Da,e1,e2,Zo hi,ze,Aa,e3]
 |false=>
 cases h8:c.kind==8 with
 |true=>rw[RD hl (.inr (.inr (.inr (eq_of_beq h8))))];rfl
 |false=>
  have hlf:c.list.all lfC=true:=by rw[Np,h4,h5,h6,h7,h8]at hl;simp only[Nf,Ba,Ca]at hl;exact hl.2
  have hd:=zEp h7;simp only[Ba];refine(Dt c.list.length (fun i=>((Eh w (c.list.take i) (ys.drop a),ug w (c.list.take i) (ys.drop a),(i:Int)),((a+((c.list.take i).flatMap Zn).length:Nat):Int))) ((Eh w c.list (ys.drop a),ug w c.list (ys.drop a)),((a+(c.list.flatMap Zn).length:Nat):Int)) ?_ (fun i hi=> ?_) ?_).trans ?_
  ·rw[Gi,Eh,ug];rfl
  ·have hm:=jb hi;have hq:((c.list.take i).flatMap Zn).length+(Zn c.list[i]).length<=(Zn c).length:=by rw[hd];have e:=lK Zn hi;have e2:((c.list.take (i+1)).flatMap Zn).length<=(c.list.flatMap Zn).length:=zs7 Zn _ _;rw[e,Ja]at e2;exact e2
   have hs:=hS ((c.list[i],w),((a+((c.list.take i).flatMap Zn).length:Nat):Int),ys) ⟨by have:=qx hm;simp only;omega,aa.1 hlf _ hm,hb,_,rfl,by simp only;omega⟩ (qx hm);simp only[hldF,Nb]at hs;simp only[ZF hi,Da,Zo hi,ze,Aa,Zd,hs,Zp hi (show c.list.length<=big by omega)];rw[zvl hi,zvm hi,lK Zn hi,Ja,Ve,Rf];cases Eh w (c.list.take i) (ys.drop a)<;>cases ug w (c.list.take i) (ys.drop a)<;>rfl
  ·simp only[qA,Ba,Yc]
  ·rw[hd,YV w _ _ _ (Ua _),mV w _ _ _ (Ua _)];cases c.kind==1<;>cases c.kind==2<;>rfl
theorem PX{c:zf}(h:zx (zm c)<=big):Oo c=some (bif Zu c||ZW c then 0 else 8):=by unfold Oo;simp only[Zd,mY h,MN h,ze,Aa];cases Zu c<;>rfl
theorem w_in{w:Int}(h:(decide (w<0)||decide (w>1000000000))=false):w64 (1000*w)=1000*w:=by simp only[ic,decide_eq_false_iff_not]at h;rw[w64,Zz (by omega) (by omega)]
theorem Sv{c:zf}(h:ZW c=true):supC c=true:=by unfold ZW at h;exact(Ca _ _▸h).1
theorem zKS{c:zf}(h:(Zu c||ZW c)=true):lfC c=true:=by rw[Vb]at h;exact h.elim zEs fun h=>G6 (Sv h)
theorem zAf: ∀{c:zf},∀d∈Zn c,zx (Qs d)<=zx (zm c):=by
 have key: ∀(n:Nat) (c:zf),sizC c<=n-> ∀d∈Zn c,zx (Qs d)<=zx (zm c):=by
  intro n
  induction n with
  |zero=>intro c hc;have:=Qe c;omega
  |succ n ih=>
   intro c hc d hd;rw[QK]at hd;cases h7:c.kind==7 with
   |true=>rw[h7,Da]at hd;rw[Gc.1 hd];exact JB c
   |false=> rw[h7,Ba]at hd;obtain⟨y,hy,hd⟩:=Pd.1 hd;have h1:=QD c;have h2:=Qx hy;have h3:=qx hy;have:=ih y (by omega) d hd;omega
 intro c d hd;exact key _ c (Ua _) d hd
theorem Y8{c:zf}(h:zx (zm c)<=big)(hv:(Zu c||ZW c)=true): ∀d∈Zn c,Vl d.value=some (d.value,0):=by
 intro d hd;rw[Vb]at hv;rcases hv with hv|hv
 ·rw[zyM hv]at hd;cases hd
 ·exact zyv (jR (Sv hv) d hd) (Pz (Ob (zAf d hd) h)).1
theorem mO(a b:Nat):((a:Int) != (b:Int))= !(a==b):=by
 cases h:a==b with
 |true=>rw[eq_of_beq h];simp
 |false=>have:=ne_of_beq_false h;simp only[Ta,Lf];omega
theorem mM{c:zf}{e:VEnv}{ys:List Bool}(h:zx (zm c)<=big)(hb:ys.length<=big):Au (c,e,ys)=some (ny c e.width ys):=by
 unfold Au ny;simp only[Zd,PX h,ze,Aa];cases hv:Zu c||ZW c with
 |false=>rfl
 |true=>
  simp only[Da,OX h (Y8 h hv),show((0:Int) != 0)=false from rfl,Ba,Va];have hor:(bif decide (e.width<0)then true else decide (e.width>1000000000))=(decide (e.width<0)||decide (e.width>1000000000)):=by cases decide (e.width<0)<;>rfl
  rw[hor,<-Bool.or_assoc];cases ho:decide (e.width<0)||decide (e.width>1000000000)with
  |true=>rfl
  |false=>
   simp only[Ta,zB,Aa,Ba,Jc,mO];cases hy:ys.length==(Zn c).length with
   |false=>rfl
   |true=> have hy:=eq_of_beq hy;have hh:=zqs (a:=0) (w:=w64 (1000*e.width)) (ys:=ys) h (zKS hv) hb (by omega);simp only[Va,Ba,show(0:Int)=((0:Nat):Int)from rfl,hh,Aa];simp only[hldF,Nb,Ki,<-hy,Yc,w_in ho]
theorem zqr{c:zf}(h:zx (zm c)<=big):Ex c=some (bif ZW c then(Zn c,0)else([],8)):=by
 unfold Ex;simp only[Zd,MN h,ze,Aa];cases hv:ZW c with
 |false=>rfl
 |true=>simp only[Da,OX h (Y8 h (by rw[hv,Df])),show((0:Int) != 0)=false from rfl,Ba,Aa]
set_option maxRecDepth 100000
theorem BR{α:Type}{a b:List α}{i:Nat}(ha:i<a.length)(hb:i<b.length)(h:a.take i=b.take i)(e:a[i]=b[i]):a.take (i+1)=b.take (i+1):=by rw[Xb ha,Xb hb,h,e]
def tkE(x y:zg):Bool:=x.kind==y.kind&&(x.text==y.text&&(x.num==y.num&&(x.unit==y.unit&&(x.flag==y.flag&&true))))
theorem K8{x y:zg}:tkE x y=true↔x=y:=by obtain⟨a,b,c,d,e⟩:=x;obtain⟨a',b',c',d',e'⟩:=y;unfold tkE;simp only[Ca,Bb,zg.mk.injEq,and_true]
theorem zCu{a b:List zb}(h:szL a<=big): ∃r,QG (a,b)=some r/\(r=true↔a=b):=by
 refine Ws znL (fun x:List zb×List zb=>szL x.1) (fun x=>szL x.1<=big) (fun x r=>(r=true↔x.1=x.2)) (fun S x hc hS=> ?_) (x:=(a,b)) h;obtain⟨a,b⟩:=x;have hc:szL a<=big:=hc;have hS: ∀z:List zb×List zb,szL z.1<=big->szL z.1<szL a-> ∃y,S z=some y/\(y=true↔z.1=z.2):=hS;unfold Cu;simp only[mO];cases hl:a.length==b.length with
 |false=>exact⟨false,rfl,⟨fun e=>(by cases e),fun e=>absurd (congrArg List.length e) (ne_of_beq_false hl)⟩⟩
 |true=>
  have hl:=eq_of_beq hl;simp only[Va,Ba];refine Yw a.length (fun i (_:Unit)=>(i:Int)) (fun i _=>a.take i=b.take i) (fun r=>(r=true↔a=b)) (a0:=()) rfl (by simp) (fun i _ hi hI=> ?_) (fun _ hI=> ?_)
  ·have hib:i<b.length:=by omega
   have e1:(a[i].token.kind==b[i].token.kind&&(a[i].token.text==b[i].token.text&&(a[i].token.num==b[i].token.num&&(a[i].token.unit==b[i].token.unit&&(a[i].token.flag==b[i].token.flag&&true)))))=tkE a[i].token b[i].token:=rfl;simp only[ZF hi,Da,Zo hi,Zo hib,ze,Aa,e1,Cg];cases ht:tkE a[i].token b[i].token with
   |false=>
    refine .inr (.inl ⟨false,rfl,⟨fun e=>(by cases e),fun e=> ?_⟩⟩);subst e;rw[K8.2 rfl]at ht;cases ht
   |true=>
    have hte:=K8.1 ht;have hm:=jb hi;have hz:szL a[i].list<szL a:=by have:=Am hm;have:=Aj a[i];omega
    obtain⟨r,hr,hri⟩:=hS (a[i].list,b[i].list) (by show szL a[i].list<=big;omega) hz;simp only[zB,Aa,hr];have hlen:a.length<=big:=Ob (Wi a) hc;cases r with
    |false=>
     refine .inr (.inl ⟨false,rfl,⟨fun e=>(by cases e),fun e=> ?_⟩⟩);subst e;exact absurd (hri.2 rfl) (by decide)
    |true=>
     have hli:a[i].list=b[i].list:=hri.1 rfl;refine .inl ⟨(),?_,BR hi hib hI ?_⟩
     ·simp only[Va,Ba,Zp hi hlen]
     ·have: ∀x y:zb,x.token=y.token->x.list=y.list->x=y:=fun x y h1 h2=>by cases x;cases y;simp only at h1 h2;rw[h1,h2]
      exact this _ _ hte hli
  ·refine .inl ⟨(),by simp only[qA,Ba],true,rfl,⟨fun _=> ?_,fun _=>rfl⟩⟩;rw[Yc,hl,Yc]at hI;exact hI
theorem zCt{d e:zD}(h:szL d.value<=big): ∃r,Eu (d,e)=some r/\(r=true↔d=e):=by
 obtain⟨r,hr,hri⟩:=zCu (a:=d.value) (b:=e.value) h;unfold Eu;simp only[hr,ze];obtain⟨n,v,i⟩:=d;obtain⟨n',v',i'⟩:=e;simp only at hri ⊢;cases hb:(bif n==n' then i==i' else false)with
 |false=>
  refine⟨false,rfl,⟨fun e=>(by cases e),fun e=> ?_⟩⟩;injection e with e1 e2 e3;subst e1;subst e3;rw[Jd,Jd]at hb;cases hb
 |true=>
  refine⟨r,rfl,?_⟩;cases hn:n==n' with
  |false=>rw[hn]at hb;cases hb
  |true=> rw[hn,Da]at hb;rw[hri,zD.mk.injEq];exact⟨fun e=>⟨eq_of_beq hn,e,eq_of_beq hb⟩,fun e=>e.2.1⟩
theorem zDF{a b:zf}(h:zx (zm a)<=big): ∃r,Qn (a,b)=some r/\(r=true↔a=b):=by
 refine Ws znN (fun x:zf×zf=>zx (zm x.1)) (fun x=>zx (zm x.1)<=big) (fun x r=>(r=true↔x.1=x.2)) (fun S x hc hS=> ?_) (x:=(a,b)) h;obtain⟨a,b⟩:=x;have hc:zx (zm a)<=big:=hc;have hS: ∀z:zf×zf,zx (zm z.1)<=big->zx (zm z.1)<zx (zm a)-> ∃y,S z=some y/\(y=true↔z.1=z.2):=hS;obtain⟨r1,hr1,hi1⟩:=zCt (d:=a.decl) (e:=b.decl) (Pz (Ob (JB a) hc)).1;have hlen:=Nl a;unfold Bu;simp only[Zd,hr1,ze];have no: ∀{α:Type} {p:α},(a≠b)->(∃r,(some false:Option Bool)=some r/\(r=true↔a=b)):=fun h=>⟨false,rfl,⟨fun e=>(by cases e),fun e=>absurd e h⟩⟩;cases h1:(bif bif a.kind != b.kind then true else !(a.name==b.name)then true else a.num != b.num)with
 |true=> refine no (α:=Unit) (p:=()) fun e=> ?_;subst e;simp at h1
 |false=>
  simp only[Ta,zB,Aa,Ba];have hk:a.kind=b.kind/\a.name=b.name/\a.num=b.num:=by
   cases q1:a.kind != b.kind with
   |true=>rw[q1]at h1;cases h1
   |false=>
   cases q2:a.name==b.name with
   |false=>rw[q1,q2]at h1;cases h1
   |true=> rw[q1,q2]at h1;exact⟨by simpa using q1,eq_of_beq q2,by simpa using h1⟩
  cases r1 with
  |false=> refine no (α:=Unit) (p:=()) fun e=> ?_;subst e;exact absurd (hi1.2 rfl) (by decide)
  |true=>
   have hd:=hi1.1 rfl;simp only[Va,Ba,mO];cases hl:a.list.length==b.list.length with
   |false=>
    refine no (α:=Unit) (p:=()) fun e=> ?_;subst e;rw[Jd]at hl;cases hl
   |true=>
    have hl:=eq_of_beq hl;simp only[Va,Ba];refine Yw a.list.length (fun i (_:Unit)=>(i:Int)) (fun i _=>a.list.take i=b.list.take i) (fun r=>(r=true↔a=b)) (a0:=()) rfl (by simp) (fun i _ hi hI=> ?_) (fun _ hI=> ?_)
    ·have hib:i<b.list.length:=by omega
     have hm:=jb hi;have hz:=qx hm;obtain⟨r,hr,hri⟩:=hS (a.list[i],b.list[i]) (by show zx (zm a.list[i])<=big;omega) hz;simp only[ZF hi,Da,Zo hi,Zo hib,Aa,hr];cases r with
     |false=>
      refine .inr (.inl ⟨false,rfl,⟨fun e=>(by cases e),fun e=> ?_⟩⟩);subst e;exact absurd (hri.2 rfl) (by decide)
     |true=> refine .inl ⟨(),?_,BR hi hib hI (hri.1 rfl)⟩;simp only[Va,Ba,Zp hi (show a.list.length<=big by omega)]
    ·refine .inl ⟨(),by simp only[qA,Ba],true,rfl,⟨fun _=> ?_,fun _=>rfl⟩⟩;rw[Yc,hl,Yc]at hI;have: ∀x y:zf,x.kind=y.kind->x.name=y.name->x.num=y.num->x.decl=y.decl->x.list=y.list->x=y:=fun x y h1 h2 h3 h4 h5=>by cases x;cases y;simp only at h1 h2 h3 h4 h5;rw[h1,h2,h3,h4,h5]
     exact this _ _ hk.1 hk.2.1 hk.2.2 hd hI
def Dk(acc:Str)(d:Nat):Str:=bif d==0&&acc.isEmpty then acc else d48 d::acc
def bk3(r:Nat):Str:=Dk (Dk (Dk [] (r%10)) (r / 10%10)) (r / 10 / 10%10)
def dotB(c:Str):Str:=bif c.isEmpty then c else 46::c
def bkOK(r:Nat):Bool:=dotB (bk3 r)==Ck r false&&decide ((bk3 r).length<=3)
theorem D7: ∀r,r<1000->bkOK r=true:=by decide+kernel
theorem zGT{r:Nat}(h:r<1000):dotB (bk3 r)=Ck r false:=by have:=D7 r h;unfold bkOK at this;rw[Ca]at this;exact eq_of_beq this.1
theorem oH{r:Nat}(h:r<1000):(bk3 r).length<=3:=by have:=D7 r h;unfold bkOK at this;rw[Ca]at this;exact Ac this.2
def putD:Nat->Nat->Str->Str
 |0,_,acc=>acc
 |f+1,m,acc=>if m<10 then d48 m::acc else putD f (m / 10) (d48 (m%10)::acc)
theorem S9: ∀{f m:Nat} {acc:Str},m<10 ^ f->0<f->putD f m acc=Lib.decDigits m++acc
 |0,_,_,_,h=>absurd h (by omega)
 |f+1,m,acc,h,_=>by
  rw[putD,Lib.decDigits];by_cases hm:m<10
  ·rw[Ka hm,dif_pos hm];rfl
  ·rw[Ia hm,dif_neg hm];have h2:m / 10<10 ^ f:=by rw[Nat.pow_succ]at h;omega
   have hf:0<f:=by
    rcases bf f with rfl|hf
    ·simp at h;omega
    ·exact hf
   rw[S9 h2 hf,La];rfl
theorem FQ{n:Nat}(h:n<=1000000000000):putD 10 (n / 1000) (dotB (bk3 (n%1000)))=ig n false:=by rw[S9 (by omega) (by omega),zGT (pg _ (by omega))];rfl
def arrB(s:Str):Str:=List.replicate (20 - s.length) 0++s
def atB(s:Str):Int:=((20 - s.length:Nat):Int)
theorem JR{s:Str}(h:s.length<=20):(arrB s).length=20:=by unfold arrB;rw[Ja,List.length_replicate];omega
theorem D5{c:Nat}{s:Str}(hc:c<256)(hs:s.length<20):Z0 ((c:Int),atB s,arrB s)=some (atB (UInt8.ofNat c::s),arrB (UInt8.ofNat c::s)):=by
 have e1:w64 (atB s - 1)=((20 - (s.length+1):Nat):Int):=by unfold atB;rw[w64,Zz (by omega) (by omega)];omega
 have hl:=JR (s:=s) (by omega);have hn:(decide ((0:Int)<=((20 - (s.length+1):Nat):Int))&&(decide (((20 - (s.length+1):Nat):Int)<20)&&decide (((20 - (s.length+1):Nat):Int)<((arrB s).length:Int))))=true:=by rw[hl,Ga (by omega),Ga (by omega)];exact Ga (by omega)
 obtain⟨k,hk⟩: ∃k,20 - s.length=k+1:=⟨19 - s.length,by omega⟩;have hk2:20 - (s.length+1)=k:=by omega
 have ha:arrB s=List.replicate k 0++0::s:=by unfold arrB;rw[hk,List.replicate_succ'];simp
 have g:(List.replicate k (0:UInt8)++0::s)[k]? =some 0:=by rw[Ji (by simp)];simp
 have hset:List.set (List.replicate k (0:UInt8)++0::s) k (UInt8.ofNat c)=List.replicate k 0++UInt8.ofNat c::s:=by rw[List.set_append_right _ _ (by simp)];simp
 rw[hk2]at hn;unfold Z0;simp only[e1,hk2];rw[hn,zK,Nb,ha,g];simp only[ze,Aa,ZX hc,hset];unfold atB arrB;rw[Fa,hk2]
theorem zKP: ∀d:Nat,d<10->wu8 (w64 (48+(d:Int)))=((48+d:Nat):Int):=by decide+kernel
theorem kZ{d:Nat}{s:Str}(hd:d<10)(hs:s.length<20):Z0 (wu8 (w64 (48+(d:Int))),atB s,arrB s)=some (atB (d48 d::s),arrB (d48 d::s)):=by rw[zKP d hd];exact D5 (by omega) hs
theorem I4(s:Str)(h:s.length<=20):decide (atB s<20)= !s.isEmpty:=by
 unfold atB;cases s with
 |nil=>rfl
 |cons a r=>exact Ga (by simp only[Fa]at *; omega)
theorem zE8{R:Type}{p:Nat}{acc:Str}(ha:acc.length<20):
  ((bif bif Int.tmod (p:Int) 10 != 0 then true else decide (atB acc<20)then
   ze (Z0 (wu8 (w64 (48+Int.tmod (p:Int) 10)),atB acc,arrB acc)) fun y4=>some (LX.out ((p:Int),y4.2,y4.1))
  else some (LX.out ((p:Int),arrB acc,atB acc))):Option (LX (Int×List UInt8×Int) R))=some (LX.out ((p:Int),arrB (Dk acc (p%10)),atB (Dk acc (p%10)))):=by
 have e:Int.tmod (p:Int) 10=((p%10:Nat):Int):=rfl;rw[e,I4 acc (by omega),kZ (pg _ (by omega)) ha];simp only[ze,Aa];have e2:(((p%10:Nat):Int) != 0)= !(p%10==0):=by
  cases h:p%10==0 with
  |true=>rw[eq_of_beq h];rfl
  |false=>have:=ne_of_beq_false h;simp only[Ta,Lf];omega
 rw[e2];unfold Dk;cases p%10==0<;>cases acc.isEmpty<;>rfl
def ccB(r:Nat):Nat->Str
 |0=>[]
 |1=>Dk [] (r%10)
 |2=>Dk (Dk [] (r%10)) (r / 10%10)
 |_=>dotB (bk3 r)
def ppB(r:Nat):Nat->Nat
 |0=>r
 |1=>r / 10
 |2=>r / 10 / 10
 |_=>r / 10 / 10 / 10
theorem dS(acc:Str)(d:Nat):(Dk acc d).length<=acc.length+1:=by unfold Dk;cases d==0&&acc.isEmpty<;>simp only[Da,Ba,Fa]<;>omega
theorem l9{r:Nat}(h:r<1000):(dotB (bk3 r)).length<=4:=by have:=oH h;unfold dotB;cases (bk3 r).isEmpty<;>simp only[Da,Ba,Fa]<;>omega
theorem NU {R:Type} {step:Int×List UInt8×Int->Option (LO (Int×List UInt8×Int) (List UInt8×Int) R)}
  (hstep: ∀(m:Nat) (s:Str),s.length<20->m<10000000000->step ((m:Int),arrB s,atB s)=if m<10 then some (.out (arrB (d48 m::s),atB (d48 m::s)))else some (.again (((m / 10:Nat):Int),arrB (d48 (m%10)::s),atB (d48 (m%10)::s)))):
  ∀(f m:Nat) (s:Str),m<10 ^ f->m<10000000000->0<f->s.length+f<=20-> ∃j,ZT step j ((m:Int),arrB s,atB s)=some (.out (arrB (putD f m s),atB (putD f m s)))
 |0,_,_,_,_,h,_=>absurd h (by omega)
 |f+1,m,s,h,hm,_,hl=>by
  have e:=hstep m s (by omega) hm;rw[putD];by_cases h1:m<10
  ·rw[Ka h1]at e ⊢;exact⟨1,by simp only[ZT,e]⟩
  ·rw[Ia h1]at e ⊢;have h2:m / 10<10 ^ f:=by rw[Nat.pow_succ]at h;omega
   have hf:0<f:=by
    rcases bf f with rfl|hf
    ·simp at h;omega
    ·exact hf
   obtain⟨j,hj⟩:=NU hstep f (m / 10) (d48 (m%10)::s) h2 (by omega) hf (by rw[Fa];omega);exact⟨j+1,by simp only[ZT,e];exact hj⟩
theorem iJ: ∀(f m:Nat) (s:Str),(putD f m s).length<=s.length+f
 |0,_,s=>by rw[putD];omega
 |f+1,m,s=>by
  rw[putD];split
  ·rw[Fa];omega
  ·have:=iJ f (m / 10) (d48 (m%10)::s);rw[Fa]at this;omega
theorem zs4{n:Int}(h0: -1000000000000<=n)(h:n<=1000000000000):mq [n]=some 0:=by
 have:=jM n;unfold Qt isN at this;rw[Ga h0,Ga h]at this;cases hc:mq [n]with
 |none=>rw[hc]at this;cases this
 |some z=>rw[hc]at this;simpa [ze] using this
theorem zoS{n:Nat}(h:n<=1000000000000):WB (n:Int)=some (numT n false,0):=by
 have hr:n%1000<1000:=pg _ (by omega);have hneg:decide ((n:Int)<0)=false:=Db (by omega);have hT:numT n false=putD 10 (n / 1000) (dotB (bk3 (n%1000))):=by rw[FQ h];unfold numT;rw[Ia (by omega)];rfl
 have hlen:=iJ 10 (n / 1000) (dotB (bk3 (n%1000)));have hdl:=l9 hr;have e1:Int.tmod (n:Int) 1000=((n%1000:Nat):Int):=rfl;have e2:w64 (Int.tdiv (n:Int) 1000)=((n / 1000:Nat):Int):=by rw[show Int.tdiv (n:Int) 1000=((n / 1000:Nat):Int)from rfl,Zq (by omega) (by omega)]
 unfold WB;rw[zs4 (by omega) (by omega)];simp only[ze,Aa,jf,Ba,hneg,zq,e1,e2];refine(Dt 3 (fun i=>(((ppB (n%1000) i:Int),(i:Int)),arrB (ccB (n%1000) i),atB (ccB (n%1000) i))) (arrB (dotB (bk3 (n%1000))),atB (dotB (bk3 (n%1000)))) rfl (fun i hi=> ?_) rfl).trans ?_
 ·have hp: ∀i,ppB (n%1000) i<1000:=fun i=>by unfold ppB;split<;>omega
  have hc:(ccB (n%1000) i).length<20:=by have a1:=dS [] (n%1000%10);have a2:=dS (Dk [] (n%1000%10)) (n%1000 / 10%10);unfold ccB;split<;>simp only[Eb]at* <;>omega
  have hs:=zE8 (R:=LX ((Int×Int)×List UInt8×Int) (LO ((Int×Int)×List UInt8×Int) (List UInt8×Int) (Str×Int))) (p:=ppB (n%1000) i) hc;simp only[ze]at hs;have d1:decide ((i:Int)<3)=true:=Ga (by omega);have hd10:w64 (Int.tdiv (ppB (n%1000) i:Int) 10)=((ppB (n%1000) i / 10:Nat):Int):=by rw[show Int.tdiv (ppB (n%1000) i:Int) 10=((ppB (n%1000) i / 10:Nat):Int)from rfl,Zq (by omega) (by have:=hp i;omega)]
  simp only[d1,Da];rw[hs];simp only[zq,hd10]
  match i,hi with
  |0,_=>rfl
  |1,_=>rfl
  |2,_=> show Zk (bif bif ((2:Int)==2)then decide (atB (bk3 (n%1000))<20)else false then _ else _) _=_;rw[I4 _ (by have:=oH hr;omega)];show Zk (bif !(bk3 (n%1000)).isEmpty then(Z0 (46,atB (bk3 (n%1000)),arrB (bk3 (n%1000)))).bind _ else _) _=_;rw[show((46:Int),atB (bk3 (n%1000)),arrB (bk3 (n%1000)))=(((46:Nat):Int),atB (bk3 (n%1000)),arrB (bk3 (n%1000)))from rfl,D5 (by omega) (by have:=oH hr;omega)];show _=some (LO.again (((_,_)),arrB (dotB (bk3 (n%1000))),atB (dotB (bk3 (n%1000)))));unfold dotB;cases (bk3 (n%1000)).isEmpty<;>rfl
 ·obtain⟨j,hj⟩:=NU (R:=Str×Int) (step:=fun(s9:Int×List UInt8×Int)=>
    (Z0 (wu8 (w64 (48+Int.tmod s9.1 10)),s9.2.2,s9.2.1)).bind fun y10=>
    bif decide (s9.1<10)then
     some (LO.out (y10.2,y10.1))
    else
     some (LO.again (w64 (Int.tdiv s9.1 10),y10.2,y10.1))) (fun m s hs hm=>by
   simp only[show Int.tmod (m:Int) 10=((m%10:Nat):Int)from rfl,kZ (pg m (show 0<10 by omega)) hs,Aa];by_cases h1:m<10
   ·rw[Ka h1,Ga (by omega),Da,Vf h1]
   ·rw[Ia h1,Db (by omega),Ba,show Int.tdiv (m:Int) 10=((m / 10:Nat):Int)from rfl,Zq (by omega) (by omega)]) 10 (n / 1000) (dotB (bk3 (n%1000))) (by omega) (by omega) (by omega) (by omega)
  rw[Go.Lv.qK (Q4 hj)];simp only[zq];rw[<-hT]at hlen ⊢;have hs20:(numT (n:Int) false).length<=20:=by omega
  have hL:=JR hs20;have n1:(decide ((0:Int)<=atB (numT (n:Int) false))&&decide (atB (numT (n:Int) false)<=20)&&Nat.beq (arrB (numT (n:Int) false)).length 20)=true:=by rw[hL];unfold atB;rw[Ga (by omega),Ga (by omega)];rfl
  have t1:(atB (numT (n:Int) false)).toNat=20 - (numT (n:Int) false).length:=Nb _;rw[n1,zK,t1,zF (Ga (by rw[hL];omega))];have hdrop:List.drop (20 - (numT (n:Int) false).length) (arrB (numT (n:Int) false))=numT n false:=by
   unfold arrB;have:=List.drop_left (l₁:=List.replicate (20 - (numT (n:Int) false).length) (0:UInt8)) (l₂:=numT n false)
   rwa [List.length_replicate]at this
  rw[hdrop,Tg (by omega)]
theorem zJ2{v:List zb}(h:szL v<=5000):okT (tokL v):=fun t ht=>by have:=aF v t ht;omega
structure SzD (d:zD):Prop where
 v:szL d.value<=big
 n:d.name.length<=big
theorem zJF{l:List zD}(h: ∀d∈l,SzD d)(hlen:l.length<=big): ∃g,YB l=some g/\(g=false->l.length<=40/\ ∀d∈l,d.name.length+szL d.value<=300):=by
 have hbig:big=4194304:=rfl;unfold YB;by_cases h40:40<l.length
 ·rw[Ga (by omega),Da];exact⟨true,rfl,fun e=>by cases e⟩
 ·rw[Db (by omega),Ba];refine zyJ (fun s=> ∃(i n:Nat),s=((n:Int),(i:Int))/\i<=l.length/\n<=300/\ ∀d∈l.take i,d.name.length+szL d.value<=300) (fun s=>l.length - s.2.toNat) (fun g=>g=false->l.length<=40/\ ∀d∈l,d.name.length+szL d.value<=300) ?_ ⟨0,0,rfl,by omega,by omega,(fun d hd=>by cases hd)⟩;rintro _ ⟨i,n,rfl,hi,hn,hlt⟩;simp only[ze];rcases Xd i l.length with hh|hh
  ·obtain⟨hv,hnm⟩:=h _ (jb hh);obtain⟨r,hr,r0,r1,r2⟩:=size_le (m:=300) hv (by omega);replace hr:Qm (l[i].value,300)=some r:=hr;obtain⟨k,rfl⟩: ∃k:Nat,r=(k:Int):=⟨r.toNat,by omega⟩;have e2:w64 ((n:Int)+w64 ((l[i].name.length:Int)+(k:Int)))=((n+(l[i].name.length+k):Nat):Int):=by rw[Zq (n:=(l[i].name.length:Int)+(k:Int)) (by omega) (by omega),Zq (by omega) (by omega)];omega
   simp only[ZF hh,Da,Zo hh,Aa,hr,e2];by_cases hb:n+(l[i].name.length+k)>300
   ·rw[Ga (show((n+(l[i].name.length+k):Nat):Int)>300 by omega)];simp only[Va,Zw,Aa,Da];exact .inr (.inr ⟨true,rfl,fun e=>by cases e⟩)
   ·rw[Db (show¬((n+(l[i].name.length+k):Nat):Int)>300 by omega)];simp only[Ta,zB,Aa,Ba,zFb hv];cases hd:decide ((ZP l[i].value:Int)>40)with
    |true=>exact .inr (.inr ⟨true,rfl,fun e=>by cases e⟩)
    |false=>
     refine .inl ⟨_,rfl,⟨i+1,n+(l[i].name.length+k),by rw[Zq (by omega) (by omega)];rfl,by omega,by omega,?_⟩,by simp only;rw[Zq (by omega) (by omega)];omega⟩;rw[Xb hh];intro d hd;rcases Ed.1 hd with hd|hd
     ·exact hlt d hd
     ·rw[Gc]at hd;subst hd;omega
  ·have:i=l.length:=by omega
   subst this;simp only[qA,Ba];rw[Yc]at hlt;exact .inr (.inl ⟨(),false,(by first|rfl|trivial),rfl,fun _=>⟨by omega,hlt⟩⟩)
theorem zy8{l:List zD}(h: ∀d∈l,d.name.length+szL d.value<=300): ∀d∈l,OkD d:=fun d hd=>by have hbig:big=4194304:=rfl;have:=h d hd;exact⟨by omega,by omega,zJ2 (by omega)⟩
end Go.Lv.VT
