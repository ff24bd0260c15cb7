/- Declarations: reading one, in the program and in the reference. -/
import Derived.Test.YtkecjfeffabgiaaGreatDoorXa
import Derived.Test.YtkecjfeffabgiaaGreatDoorXb
import Derived.Test.YtkecjfeffabgiaaGreatDoorTy
import Derived.Test.YtkecjfeffabgiaaGreatDoorMo
set_option linter.unusedSimpArgs false
set_option linter.unusedVariables false
namespace Go.Lv.VT
set_option maxRecDepth 100000
def uy(l:List ze):Prop:= ∀t v,l=t++[v]->isSp v=false
def Wl(l:List ze):Prop:= ∀a t,l=a::t->isSp a=false
theorem uy.id{l:List ze}(h:uy l):trimB l=l:=by
 rcases MK l with rfl|⟨t,v,rfl⟩
 ·rfl
 ·rw[Ow,h t v rfl];rfl
theorem Wl.pre{a b:List ze}(h:Wl (a++b)):Wl a:=fun x t e=>h x (t++b) (by rw[e];rfl)
theorem Wl.id{l:List ze}(h:Wl l):l.dropWhile isSp=l:=by
 cases l with
 |nil=>rfl
 |cons a t=>rw[Ld,h a t rfl];rfl
--< pulled
--p zValue_pos
--p sp
abbrev sp(l:List ze):List ze:=l.dropWhile isSp
--p sp_nil
--p sp_cons
--p sp_sub
--p sp_len
--p sp_idem
--p EndS
--p trimB_idem
--p end_tail
--p end_sp
--p trimS_end
--p sp_pre
--p loop_fold
--> pulled
theorem wT{l:List ze}(h:(trimS l).length=l.length):trimS l=l:=(UV l).eq_of_length h
theorem FU{d:zA}(h:Jg d=true):trimS d.value=d.value:=by unfold Jg Fu at h;simp only[Ca]at h;refine wT ?_;have:=VV d.value;rw[h.2.2.2.2.2.2]at this;exact eq_of_beq this
theorem KV{d:zA}(h:Jg d=true)(hz:szL d.value<=big):QZ d.value=some (d.value,0):=by
 have he:errS d.value=0:=by unfold Jg at h;simp only[Ca,Sb]at h;exact h.2.1
 rw[eT hz,Na he,FU h]
theorem bv{S X R:Type}{step:S->Option (LO S X R)}{k:X->Option R}(n:Nat)(st:Nat->S)(x:X){s0:S}(h0:s0=st 0)(hg: ∀i,i<n->step (st i)=some (.again (st (i+1))))(hf:step (st n)=some (.out x)):Zb step s0 k=k x:=by
 have key: ∀(m i:Nat),i+m=n-> ∃j,qG step j (st i)=some (.out x):=by
  intro m
  induction m with
  |zero=>
   intro i hi;obtain rfl:i=n:=by omega
   exact⟨1,by simp only[qG,hf]⟩
  |succ m ih=> intro i hi;obtain⟨j,hj⟩:=ih (i+1) (by omega);exact⟨j+1,by simp only[qG,hg i (by omega)];exact hj⟩
 obtain⟨j,hj⟩:=key n 0 (by omega);rw[h0,Go.Lv.PI (Fh hj)]
theorem MC{α β:Type}(f:α->List β){l:List α}{i:Nat}(h:i<l.length):(l.take (i+1)).flatMap f=(l.take i).flatMap f++f l[i]:=by rw[Vb h,List.flatMap_append];simp
theorem vX{α β:Type}(f:α->List β)(l:List α)(i:Nat):((l.take i).flatMap f).length<=(l.flatMap f).length:=by have:=congrArg (fun l=>(l.flatMap f).length) (List.take_append_drop i l);simp only[List.flatMap_append,Sa]at this;omega
theorem TB{α β:Type}(f:α->List β)(g:α->Nat): ∀{l:List α},(∀y∈l,(f y).length<=g y)->(l.flatMap f).length<=(l.map g).sum
 |[],_=>La _
 |c::r,h=>by rw[xe,Sa,Ub,Ee];have h1:=h c (by simp);have h2:=TB f g (l:=r) fun y hy=>h y (by simp[hy]);omega
theorem RH: ∀c:zg,(Zn c).length<=sizC c:=by
 have key: ∀(n:Nat) (c:zg),sizC c<=n->(Zn c).length<=sizC c:=by
  intro n
  induction n with
  |zero=>intro c hc;have:=Yq c;omega
  |succ n ih=>
   intro c hc;have hs:=uh c;rw[Yg];cases c.kind==7 with
   |true=>have:=Yq c;simp only[Ia,Db,Lf];omega
   |false=> have:=TB Zn sizC (l:=c.list) fun y hy=>ih y (by have:=Oq hy;omega);simp only[Ea];omega
 exact fun c=>key _ c (La _)
theorem DU{l:List zg}{i:Nat}(hi:i<l.length):((l.take i).flatMap Zn).length+(Zn l[i]).length<=(l.map sizC).sum:=by have h1:=TB Zn sizC (l:=l.take i) fun y _=>RH y;have h2:=RH l[i];have h3:=mi sizC hi;have h4:=Hr sizC l (i+1);omega
theorem XR{c:zg}(h:zF (zo c)<=big){i:Nat}(hi:i<c.list.length):zQ ((c.list.take i).flatMap Zn).length (Zn c.list[i]).length 48=true:=by have h1:=DU hi;have h2:=uh c;have h3:=yA c;unfold big at h;exact ji (by omega)
theorem rY{c:zg}(h:zF (zo c)<=big)(ht: ∀d∈Zn c,QZ d.value=some (d.value,0)):Zl c=some (Zn c):=by
 refine Nk (fun c=>zF (zo c)) (fun c=>zF (zo c)<=big/\ ∀d∈Zn c,QZ d.value=some (d.value,0)) Zn (fun S c hc hS=> ?_) ⟨h,ht⟩;obtain⟨hc,ht⟩:=hc;unfold Ko;rw[Yg]at ht ⊢;cases h7:c.kind==7 with
 |true=> rw[h7,Ia]at ht;simp only[Ia,ht c.decl (by simp),zb,Ba]
 |false=>
  rw[h7,Ea]at ht;simp only[Ea];have hlen:=Q8 c;refine(bv c.list.length (fun i=>((i:Int),(c.list.take i).flatMap Zn)) (c.list.flatMap Zn) rfl (fun i hi=> ?_) ?_).trans rfl
  ·have hm:=Ib hi;have hs:=hS c.list[i] ⟨by have:=Z5 hm;omega,fun d hd=>ht d (Wd.2 ⟨_,hm,hd⟩)⟩ (Z5 hm);simp only[ZK hi,Ia,ZT hi,zb,Ba,qA,hs,XR hc hi,Qy,MC Zn hi,Zo hi (show c.list.length<=big by omega)]
  ·simp only[QY,Ea,Md]
mutual
def lfC:zg->Bool
 |⟨k,_,_,_,l⟩=>bif k==4||(k==5||(k==6||(k==7||k==8)))then l.isEmpty else(bif k==3 then l.length==1 else k==1||k==2)&&lfCs l
def lfCs:List zg->Bool
 |[]=>true
 |c::r=>lfC c&&lfCs r
end
theorem sH: ∀l:List zg,lfCs l=l.all lfC
 |[]=>by rw[lfCs];rfl
 |c::r=>by rw[lfCs,sH r];rfl
theorem Tj(c:zg):lfC c=bif c.kind==4||(c.kind==5||(c.kind==6||(c.kind==7||c.kind==8)))then c.list.isEmpty else(bif c.kind==3 then c.list.length==1 else c.kind==1||c.kind==2)&&c.list.all lfC:=by obtain⟨⟩:=c;rw[lfC,sH]
theorem kP{f:Bool}{y:zg}(h:Pf f y=true):lfC y=true:=by
 unfold Pf at h;simp only[Ca]at h;rw[Tj,h.1];have:(y.kind==4||(y.kind==5||(y.kind==6||(y.kind==7||y.kind==8))))=true:=by have h2:=h.2;clear h;cases h4:y.kind==4<;>cases h5:y.kind==5<;>cases h6:y.kind==6<;>simp[h4,h5,h6]at h2 ⊢
 rw[this];rfl
theorem rH{c:zg}(h:mf c=true):lfC c=true:=by unfold mf at h;simp only[Ca,Sb]at h;rw[Tj,h.1];exact Xa.2 fun y hy=>let⟨_,e⟩:=Tw h.2.2.2 hy;kP e
theorem mP{c:zg}(h:Gf c=true):lfC c=true:=by
 unfold Gf at h;cases h3:c.kind==3 with
 |false=>rw[h3]at h;exact rH h
 |true=>
  rw[h3,Ia,Ca]at h;have:=h.2;revert this;rw[Tj,eq_of_beq h3];cases hl:c.list with
  |nil=>intro h;cases h
  |cons y r=>
   cases r with
   |nil=> intro hq;simp only[Ca]at hq;simp[rH hq.1]
   |cons z r=>intro hq;cases hq
theorem CS{c:zg}(h:qH c=true):lfC c=true:=by
 unfold qH at h;simp only[Ca,Cc,Sb,Ad,Xa]at h;rw[Tj];rcases h.2 with⟨hk,hl⟩|⟨hk,_,_,hl⟩
 ·rw[hk,hl];rfl
 ·rw[hk];exact Xa.2 fun y hy=>mP (hl y hy)
theorem eO: ∀{c:zg},supC c=true->lfC c=true:=by
 have key: ∀(n:Nat) (c:zg),sizC c<=n->supC c=true->lfC c=true:=by
  intro n
  induction n with
  |zero=>intro c hc;have:=Yq c;omega
  |succ n ih=>
   intro c hc hs;rw[IA]at hs;rw[Tj];have hsz:=uh c;have ha:(c.list.all supC)=true->c.list.all lfC=true:=fun h=>Xa.2 fun y hy=>ih y (by have:=Oq hy;omega) (Xa.1 h y hy);cases h7:c.kind==7 with
   |true=> rw[h7,Ia]at hs;simp only[Ca]at hs;simp only[Pe,Bool.or_true,Ia];exact hs.1
   |false=>
    cases h8:c.kind==8 with
    |true=> rw[h7,h8,Ea,Ia]at hs;simp only[Ca]at hs;simp only[Pe,Bool.or_true,Ia];exact hs.1
    |false=>
     rw[h7,h8,Ea,Ea]at hs;simp only[Ca]at hs;obtain⟨hk,_,hl,hall⟩:=hs;have h4:(c.kind==4||(c.kind==5||(c.kind==6||(false||false))))=false:=by simp only[Cc,Sb]at hk;rcases hk with e|e|e<;>rw[e]<;>rfl
     rw[h4,Ea,ha hall,Jc];cases h3:c.kind==3 with
     |true=>rw[h3]at hl;exact hl
     |false=>rw[h3,Ud]at hk;exact hk
 intro c hs;exact key _ c (La _) hs
theorem RJ(w:Int): ∀(a b:List zg) (ys:List Bool),QO w (a++b) ys=(QO w a ys&&QO w b (ys.drop (a.flatMap Zn).length))
 |[],b,ys=>by rw[Rc,QO];rfl
 |c::a,b,ys=>by rw[Dc,QO,QO,RJ w a b,Je,Bf,xe,Sa]
theorem OJ(w:Int): ∀(a b:List zg) (ys:List Bool),Qa w (a++b) ys=(Qa w a ys||Qa w b (ys.drop (a.flatMap Zn).length))
 |[],b,ys=>by rw[Rc,Qa];rfl
 |c::a,b,ys=>by rw[Dc,Qa,Qa,OJ w a b,Bool.or_assoc,Bf,xe,Sa]
theorem IK(w:Int): ∀(l:List zg) (ys:List Bool) (m:Nat),(l.flatMap Zn).length<=m->QO w l (ys.take m)=QO w l ys
 |[],ys,m,_=>by rw[QO,QO]
 |c::a,ys,m,h=>by rw[xe,Sa]at h;rw[QO,QO,List.take_take,Nat.min_eq_left (by omega),List.drop_take,IK w a _ _ (by omega)]
theorem GK(w:Int): ∀(l:List zg) (ys:List Bool) (m:Nat),(l.flatMap Zn).length<=m->Qa w l (ys.take m)=Qa w l ys
 |[],ys,m,_=>by rw[Qa,Qa]
 |c::a,ys,m,h=>by rw[xe,Sa]at h;rw[Qa,Qa,List.take_take,Nat.min_eq_left (by omega),List.drop_take,GK w a _ _ (by omega)]
theorem tV{w:Int}{l:List zg}{i:Nat}(hi:i<l.length)(ys:List Bool):QO w (l.take (i+1)) ys=(QO w (l.take i) ys&&holC w l[i] ((ys.drop ((l.take i).flatMap Zn).length).take (Zn l[i]).length)):=by rw[Vb hi,RJ,QO,QO,Jc]
theorem sV{w:Int}{l:List zg}{i:Nat}(hi:i<l.length)(ys:List Bool):Qa w (l.take (i+1)) ys=(Qa w (l.take i) ys||holC w l[i] ((ys.drop ((l.take i).flatMap Zn).length).take (Zn l[i]).length)):=by rw[Vb hi,OJ,Qa,Qa,Ed]
def hldF(x:(zg×Int)×Int×List Bool):Bool×Int:=
 (holC x.1.2 x.1.1 ((x.2.2.drop x.2.1.toNat).take (Zn x.1.1).length),((x.2.1.toNat+(Zn x.1.1).length:Nat):Int))
theorem Wu{c:zg}(hl:lfC c=true)(hk:c.kind=4\/c.kind=5\/c.kind=6\/c.kind=8):Zn c=[]:=by rw[Tj]at hl;rw[Yg];rcases hk with e|e|e|e<;>rw[e]at hl ⊢ <;>(have:=Ad.1 hl;rw[this];rfl)
theorem KS{c:zg}(h:(c.kind==7)=false):Zn c=c.list.flatMap Zn:=by rw[Yg,h];rfl
theorem pY{c:zg}{w:Int}{a:Nat}{ys:List Bool}(h:zF (zo c)<=big)(hl:lfC c=true)(hb:ys.length<=big)(ha:a+(Zn c).length<=ys.length):
  Z7 ((c,w),(a:Int),ys)=some (hldF ((c,w),(a:Int),ys)):=by
 refine Nk (fun x:(zg×Int)×Int×List Bool=>zF (zo x.1.1)) (fun x=>zF (zo x.1.1)<=big/\lfC x.1.1=true/\x.2.2.length<=big/\ ∃a:Nat,x.2.1=a/\a+(Zn x.1.1).length<=x.2.2.length) hldF (fun S x hx hS=> ?_) ⟨h,hl,hb,a,rfl,ha⟩;obtain⟨⟨c,w⟩,at_,ys⟩:=x;obtain⟨hc,hl,hb,a,ea,ha⟩:=hx;simp only at hc hl hb ea ha;subst ea;clear h;have hlen:=Q8 c;unfold Jo hldF;simp only[ib];rw[Xi];cases h4:c.kind==4 with
 |true=>
  rw[Wu hl (.inl (eq_of_beq h4))];show some (bif c.name==allW then true else c.name==nu,(a:Int))=some (c.name==allW||c.name==nu,((a+0:Nat):Int));cases c.name==allW<;>rfl
 |false=>
 cases h5:c.kind==5 with
 |true=>rw[Wu hl (.inr (.inl (eq_of_beq h5)))];rfl
 |false=>
 cases h6:c.kind==6 with
 |true=>rw[Wu hl (.inr (.inr (.inl (eq_of_beq h6))))];rfl
 |false=>
 cases h7:c.kind==7 with
 |true=>
  have hd:Zn c=[c.decl]:=by rw[Yg,h7];rfl
  rw[hd]at ha ⊢;simp only[Db,Lf]at ha ⊢;have hi:a<ys.length:=by omega
  unfold Ws;have e1:w64 ((a:Int)+1)=((a+1:Nat):Int):=Zo hi hb;have e2:w64 (((a+1:Nat):Int) - 1)=(a:Int):=by rw[show(((a+1:Nat):Int) - 1)=(a:Int) by omega,w64,ZG (by omega) (by unfold big at hb;omega)]
  have e3:((ys.drop a).take (0+1)).headD false=ys[a]:=by rw[ja hi];rfl
  simp only[Ea,Ia,e1,e2,ZT hi,zb,Ba,e3]
 |false=>
 cases h8:c.kind==8 with
 |true=>rw[Wu hl (.inr (.inr (.inr (eq_of_beq h8))))];rfl
 |false=>
  have hlf:c.list.all lfC=true:=by rw[Tj,h4,h5,h6,h7,h8]at hl;simp only[Bool.or_self,Ea,Ca]at hl;exact hl.2
  have hd:=KS h7;simp only[Ea];refine(bv c.list.length (fun i=>((QO w (c.list.take i) (ys.drop a),Qa w (c.list.take i) (ys.drop a),(i:Int)),((a+((c.list.take i).flatMap Zn).length:Nat):Int))) ((QO w c.list (ys.drop a),Qa w c.list (ys.drop a)),((a+(c.list.flatMap Zn).length:Nat):Int)) ?_ (fun i hi=> ?_) ?_).trans ?_
  ·rw[Ie,QO,Qa];rfl
  ·have hm:=Ib hi;have hq:((c.list.take i).flatMap Zn).length+(Zn c.list[i]).length<=(Zn c).length:=by rw[hd];have e:=MC Zn hi;have e2:((c.list.take (i+1)).flatMap Zn).length<=(c.list.flatMap Zn).length:=vX Zn _ _;rw[e,Sa]at e2;exact e2
   have hs:=hS ((c.list[i],w),((a+((c.list.take i).flatMap Zn).length:Nat):Int),ys) ⟨by have:=Z5 hm;simp only;omega,Xa.1 hlf _ hm,hb,_,rfl,by simp only;omega⟩ (Z5 hm);simp only[hldF,ib]at hs;simp only[ZK hi,Ia,ZT hi,zb,Ba,qA,hs,Zo hi (show c.list.length<=big by omega)];rw[tV hi,sV hi,MC Zn hi,Sa,Bf,Yd];cases QO w (c.list.take i) (ys.drop a)<;>cases Qa w (c.list.take i) (ys.drop a)<;>rfl
  ·simp only[QY,Ea,Md]
  ·rw[hd,IK w _ _ _ (La _),GK w _ _ _ (La _)];cases c.kind==1<;>cases c.kind==2<;>rfl
theorem tY{c:zg}(h:zF (zo c)<=big):QT c=some (bif qH c||Oh c then 0 else 8):=by unfold QT;simp only[qA,O5 h,J6 h,zb,Ba];cases qH c<;>rfl
theorem w_in{w:Int}(h:(decide (w<0)||decide (w>1000000000))=false):w64 (1000*w)=1000*w:=by simp only[Hf,decide_eq_false_iff_not]at h;rw[w64,ZG (by omega) (by omega)]
theorem SG{c:zg}(h:Oh c=true):supC c=true:=by unfold Oh at h;exact(Ca _ _▸h).1
theorem dP{c:zg}(h:(qH c||Oh c)=true):lfC c=true:=by rw[Cc]at h;exact h.elim CS fun h=>eO (SG h)
theorem EU: ∀{c:zg},∀d∈Zn c,zF (QV d)<=zF (zo c):=by
 have key: ∀(n:Nat) (c:zg),sizC c<=n-> ∀d∈Zn c,zF (QV d)<=zF (zo c):=by
  intro n
  induction n with
  |zero=>intro c hc;have:=Yq c;omega
  |succ n ih=>
   intro c hc d hd;rw[Yg]at hd;cases h7:c.kind==7 with
   |true=>rw[h7,Ia]at hd;rw[Pb.1 hd];exact rC c
   |false=> rw[h7,Ea]at hd;obtain⟨y,hy,hd⟩:=Wd.1 hd;have h1:=uh c;have h2:=Oq hy;have h3:=Z5 hy;have:=ih y (by omega) d hd;omega
 intro c d hd;exact key _ c (La _) d hd
theorem MQ{c:zg}(h:zF (zo c)<=big)(hv:(qH c||Oh c)=true): ∀d∈Zn c,QZ d.value=some (d.value,0):=by
 intro d hd;rw[Cc]at hv;rcases hv with hv|hv
 ·rw[IJ hv]at hd;cases hd
 ·exact KV (WR (SG hv) d hd) (fu (Ob (EU d hd) h)).1
theorem YO(a b:Nat):((a:Int) != (b:Int))= !(a==b):=by
 cases h:a==b with
 |true=>rw[eq_of_beq h];simp
 |false=>have:=ne_of_beq_false h;simp only[Ab,bne_iff_ne];omega
theorem Xx{c:zg}{e:VEnv}{ys:List Bool}(h:zF (zo c)<=big)(hb:ys.length<=big):Z6 (c,e,ys)=some (Np c e.width ys):=by
 unfold Z6 Np;simp only[qA,tY h,zb,Ba];cases hv:qH c||Oh c with
 |false=>rfl
 |true=>
  simp only[Ia,rY h (MQ h hv),show((0:Int) != 0)=false from rfl,Ea,Jb];have hor:(bif decide (e.width<0)then true else decide (e.width>1000000000))=(decide (e.width<0)||decide (e.width>1000000000)):=by cases decide (e.width<0)<;>rfl
  rw[hor,<-Bool.or_assoc];cases ho:decide (e.width<0)||decide (e.width>1000000000)with
  |true=>rfl
  |false=>
   simp only[Ab,ZN,Ba,Ea,Ud,YO];cases hy:ys.length==(Zn c).length with
   |false=>rfl
   |true=> have hy:=eq_of_beq hy;have hh:=pY (a:=0) (w:=w64 (1000*e.width)) (ys:=ys) h (dP hv) hb (by omega);simp only[Jb,Ea,show(0:Int)=((0:Nat):Int)from rfl,hh,Ba];simp only[hldF,ib,Af,<-hy,Md,w_in ho]
def atS(l:Str)(n:Nat):UInt8:=l.getD n 0
def digB(b:UInt8):Bool:=decide (48<=b.toNat)&&decide (b.toNat<=57)
def spB(b:UInt8):Bool:=b==10||b==9||b==32
def alB(b:UInt8):Bool:=decide (65<=b.toNat)&&decide (b.toNat<=90)||decide (97<=b.toNat)&&decide (b.toNat<=122)
def fstB(b:UInt8):Bool:=alB b||b==95||decide (128<=b.toNat)
def letB(b:UInt8):Bool:=fstB b||digB b||b==45
def hexN(b:UInt8):Nat:=
 if digB b then b.toNat - 48 else if 97<=b.toNat/\b.toNat<=102 then b.toNat - 87 else if 65<=b.toNat/\b.toNat<=70 then b.toNat - 55 else 16
def Uy(b:UInt8):Bool:=decide (hexN b<16)
def escS(l:Str):Bool:=atS l 0==92&& !(atS l 1==10)
def nmS(l:Str):Bool:=if atS l 0==45 then fstB (atS l 1)||atS l 1==45||escS (l.drop 1)else fstB (atS l 0)||escS l
def Kl(b:UInt8):Bool:=b==43||b==45
def unsign(l:Str):Str:=if Kl (atS l 0)then l.drop 1 else l
def undot(l:Str):Str:=if atS l 0==46 then l.drop 1 else l
def nbS(l:Str):Bool:=digB (atS (undot (unsign l)) 0)
def oF:Str:=[239,191,189]
def sF(n:Nat):Str:=
 if n=0\/(55296<=n/\n<=57343)\/1114111<n then oF
 else if n<128 then [UInt8.ofNat n]
 else if n<2048 then [UInt8.ofNat (192+n / 64),UInt8.ofNat (128+n%64)]
 else if n<65536 then [UInt8.ofNat (224+n / 4096),UInt8.ofNat (128+n / 64%64),UInt8.ofNat (128+n%64)]
 else [UInt8.ofNat (240+n / 262144),UInt8.ofNat (128+n / 4096%64),UInt8.ofNat (128+n / 64%64),UInt8.ofNat (128+n%64)]
def hexes:Nat->Nat->Str->Nat×Str
 |0,n,l=>(n,l)
 |_+1,n,[]=>(n,[])
 |k+1,n,c::r=>if Uy c then hexes k (16*n+hexN c) r else(n,c::r)
def unsp:Str->Str
 |[]=>[]
 |c::r=>if spB c then r else c::r
def ZA:Str->Str×Str
 |[]=>(oF,[])
 |c::r=>if Uy c then(sF (hexes 6 0 (c::r)).1,unsp (hexes 6 0 (c::r)).2)else([c],r)
theorem WI: ∀(k n:Nat) (l:Str),(hexes k n l).2<:+l
 |0,n,l=>List.suffix_refl l
 |k+1,n,[]=>List.suffix_refl _
 |k+1,n,c::r=>by
  unfold hexes;split
  ·exact(WI k _ r).trans (Vd c r)
  grind
theorem nQ(l:Str):unsp l<:+l:=by
 cases l with
 |nil=>exact List.suffix_refl _
 |cons c r=>
  show(if spB c then r else c::r)<:+c::r
  grind
theorem bn(l:Str):(ZA l).2<:+l:=by
 cases l with
 |nil=>exact List.suffix_refl _
 |cons c r=>
  show(if Uy c then(sF (hexes 6 0 (c::r)).1,unsp (hexes 6 0 (c::r)).2)else([c],r)).2<:+c::r;split
  ·exact(nQ _).trans (WI 6 0 _)
  grind
theorem Fj(l:Str):(ZA l).2.length<=l.length:=(bn l).length_le
def qm:Str->Str×Str
 |[]=>([],[])
 |c::r=>
  if letB c then((c::(qm r).1),(qm r).2)
  else if escS (c::r)then((ZA r).1++(qm (ZA r).2).1,(qm (ZA r).2).2)
  else([],c::r)
termination_by l=>l.length
decreasing_by
 all_goals first|(have:=Fj r;simp only[Db];omega)|(simp only[Db];omega)
def past(p:UInt8->Bool):Str->Str
 |[]=>[]
 |c::r=>if p c then past p r else c::r
theorem Wv(p:UInt8->Bool): ∀l:Str,past p l<:+l
 |[]=>List.suffix_refl _
 |c::r=>by
  unfold past;split
  ·exact(Wv p r).trans (Vd c r)
  grind
def Tg(l:Str):Str×Bool:=
 if atS l 0==46&&digB (atS l 1)then(past digB (l.drop 1),false)else(l,true)
def expS(l:Str):Option Str:=
 if atS l 0==101||atS l 0==69 then(if digB (atS (unsign (l.drop 1)) 0)then some (past digB (unsign (l.drop 1)))else none)else none
def Dg(l:Str):Str×Bool:=
 let x:=Tg (past digB (unsign l))
 match expS x.1 with
 |some r=>(r,false)
 |none=>x
def decN(n:Nat)(b:UInt8):Nat:=10*n+(b.toNat - 48)
def upto(l r:Str):Str:=l.take (l.length - r.length)
def rf(m:UInt8):Str->Option Str×Str
 |[]=>(some [],[])
 |c::r=>
  if c==m then(some [],r)
  else if c==10 then(none,c::r)
  else if c==92 then
   (if r.isEmpty then(some [],[])
   else if atS r 0==10 then rf m (r.drop 1)
   else((rf m (ZA r).2).1.map ((ZA r).1++ ·),(rf m (ZA r).2).2))
  else((rf m r).1.map (c:: ·),(rf m r).2)
termination_by l=>l.length
decreasing_by
 all_goals first|(have:=Fj r;simp only[Db];omega)|(simp only[Db,yc];omega)
def badS:Str->Str
 |[]=>[]
 |c::r=>if c==41 then r else if escS (c::r)then badS (ZA r).2 else badS r
termination_by l=>l.length
decreasing_by
 all_goals first|(have:=Fj r;simp only[Db];omega)|(simp only[Db];omega)
def unB(b:UInt8):Bool:=decide (b.toNat<=8)||b==11||decide (14<=b.toNat)&&decide (b.toNat<=31)||b==127
def urlS:Str->Option Str×Str
 |[]=>(some [],[])
 |c::r=>
  if c==41 then(some [],r)
  else if spB c then(match past spB r with
   |[]=>(some [],[])
   |d::a=>if d==41 then(some [],a)else(none,badS (d::a)))
  else if c==34||c==39||c==40||unB c||c==92&& !escS (c::r)then(none,badS (c::r))
  else if c==92 then((urlS (ZA r).2).1.map ((ZA r).1++ ·),(urlS (ZA r).2).2)
  else((urlS r).1.map (c:: ·),(urlS r).2)
termination_by l=>l.length
decreasing_by
 all_goals first|(have:=Fj r;simp only[Db];omega)|(simp only[Db];omega)
def Nu(b:UInt8):Int:=
 if b==58 then 16 else if b==59 then 17 else if b==44 then 18 else if b==91 then 19 else if b==93 then 20 else if b==40 then 21 else if b==41 then 22 else if b==123 then 23 else if b==125 then 24 else 0
def Ki(k:Int):zk:=⟨k,[],0,[],false⟩
def jy:Nat:=1000000000000
def RG:Nat->Nat->Nat
 |0,n=>n
 |k+1,n=>if n=0\/jy<=n then n else RG k (min jy (10*n))
theorem Ru{n:Int}(a: -9223372036854775808<=n)(h2:n<=9223372036854775807):w64 n=n:=ZG a h2
theorem bH(l:Str)(k n:Nat):atS (l.drop k) n=atS l (k+n):=by
 unfold atS
 grind
theorem yO{l:Str}{n:Nat}(h:atS l n≠0):n<l.length:=by
 rcases ve n l.length with a|a
 ·exact a
 ·exact absurd (by unfold atS;grind) h
def valG(n:Nat)(l:Str):Nat:=l.foldl decN n
def d48(k:Nat):UInt8:=UInt8.ofNat (48+k)
def xg(r:Nat):Str:=Lib.trimRightB [d48 (r / 100),d48 (r / 10%10),d48 (r%10)] 48
def JG(r:Nat):Bool:=(xg r).all digB&&decide ((xg r).length<=3)&&decide (valG 0 (xg r)*10 ^ (3 - (xg r).length)=r)&&((xg r).isEmpty==(r==0))&& !((xg r).getLast? ==some 48)
theorem dS: ∀r,r<1000->JG r=true:=by decide+kernel
def Xy(r:Nat)(p:Bool):Str:=bif (xg r).isEmpty then(bif p then [46,48]else [])else 46::xg r
def xO(m:Nat)(p:Bool):Str:=Lib.decDigits (m / 1000)++Xy (m%1000) p
def numT(n:Int)(p:Bool):Str:=(if n<0 then [45]else [])++xO n.natAbs p
abbrev tS:zk:=⟨13,[],0,[],false⟩
theorem c1:Qo [⟨9,[92],0,[],false⟩]=some 8:=Px 60 _ _ (by decide+kernel)
theorem c2:Qo [⟨2,[85,114,108],0,[],false⟩,tS]=some 8:=Px 60 _ _ (by decide+kernel)
def partT(r:Nat)(p:Bool):Str:=bif (xg r).isEmpty then(bif p then [48]else [])else xg r
theorem gG{r:Nat}(h:r<1000)(p:Bool):(partT r p).all digB=true/\(partT r p).length<=3/\valG 0 (partT r p)*10 ^ (3 - (partT r p).length)=r/\Xy r p=(bif (partT r p).isEmpty then []else 46::partT r p)/\((partT r p).isEmpty=((r==0)&& !p)):=by
 have f:=dS r h;simp only[JG,Ca,aa,Sb]at f;obtain⟨⟨⟨⟨a,b⟩,c⟩,d⟩,e⟩:=f;unfold partT Xy;cases g:(xg r).isEmpty with
 |true=>
  have i:r=0:=by rw[g]at d;exact Sb.1 d.symm
  subst i;cases p<;>refine⟨by decide,by decide,by decide,rfl,rfl⟩
 |false=>
  grind
end Go.Lv.VT
