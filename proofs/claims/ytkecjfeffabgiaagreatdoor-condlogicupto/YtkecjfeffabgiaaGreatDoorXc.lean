/- Declarations: reading one, in the program and in the reference. -/
import Derived.Test.YtkecjfeffabgiaaGreatDoorXa
import Derived.Test.YtkecjfeffabgiaaGreatDoorXb
import Derived.Test.YtkecjfeffabgiaaGreatDoorTy
import Derived.Test.YtkecjfeffabgiaaGreatDoorMo
set_option linter.unusedSimpArgs false
set_option linter.unusedVariables false
namespace Go.Lv.VT
set_option maxRecDepth 100000
def BI(l:List ze):Prop:= ∀t v,l=t++[v]->isSp v=false
def Pn(l:List ze):Prop:= ∀a t,l=a::t->isSp a=false
theorem BI.id{l:List ze}(h:BI l):trimB l=l:=by
 rcases iE l with rfl|⟨t,v,rfl⟩
 ·rfl
 ·rw[Vt,h t v rfl];rfl
theorem Pn.pre{a b:List ze}(h:Pn (a++b)):Pn a:=fun x t e=>h x (t++b) (by rw[e];rfl)
theorem Pn.id{l:List ze}(h:Pn l):l.dropWhile isSp=l:=by
 cases l with
 |nil=>rfl
 |cons a t=>rw[Ad,h a t rfl];rfl
--< pulled
--p zValue_pos
--p sp
abbrev sp(l:List ze):List ze:=l.dropWhile isSp
--p sp_nil
--p sp_cons
--p sp_sub
--p sp_len
--p sp_idem
--p EndS
--p trimB_idem
--p end_tail
--p end_sp
--p trimS_end
--p sp_pre
--p loop_fold
--> pulled
theorem WU{l:List ze}(h:(trimS l).length=l.length):trimS l=l:=(uV l).eq_of_length h
theorem jU{d:zB}(h:mf d=true):trimS d.value=d.value:=by unfold mf Jk at h;simp only[Ca]at h;refine WU ?_;have:=wK d.value;rw[h.2.2.2.2.2.2]at this;exact eq_of_beq this
theorem mV{d:zB}(h:mf d=true)(hz:szL d.value<=big):lg d.value=some (d.value,0):=by
 have he:errS d.value=0:=by unfold mf at h;simp only[Ca,Sb]at h;exact h.2.1
 rw[IU hz,Na he,jU h]
theorem iJ{S X R:Type}{step:S->Option (LO S X R)}{k:X->Option R}(n:Nat)(st:Nat->S)(x:X){s0:S}(h0:s0=st 0)(hg: ∀i,i<n->step (st i)=some (.again (st (i+1))))(hf:step (st n)=some (.out x)):zY step s0 k=k x:=by
 have key: ∀(m i:Nat),i+m=n-> ∃j,qD step j (st i)=some (.out x):=by
  intro m
  induction m with
  |zero=>
   intro i hi;obtain rfl:i=n:=by omega
   exact⟨1,by simp only[qD,hf]⟩
  |succ m ih=> intro i hi;obtain⟨j,hj⟩:=ih (i+1) (by omega);exact⟨j+1,by simp only[qD,hg i (by omega)];exact hj⟩
 obtain⟨j,hj⟩:=key n 0 (by omega);rw[h0,Go.Lv.EK (Bh hj)]
theorem mD{α β:Type}(f:α->List β){l:List α}{i:Nat}(h:i<l.length):(l.take (i+1)).flatMap f=(l.take i).flatMap f++f l[i]:=by rw[Mc h,List.flatMap_append];simp
theorem OY{α β:Type}(f:α->List β)(l:List α)(i:Nat):((l.take i).flatMap f).length<=(l.flatMap f).length:=by have:=congrArg (fun l=>(l.flatMap f).length) (List.take_append_drop i l);simp only[List.flatMap_append,Ma]at this;omega
theorem JD{α β:Type}(f:α->List β)(g:α->Nat): ∀{l:List α},(∀y∈l,(f y).length<=g y)->(l.flatMap f).length<=(l.map g).sum
 |[],_=>La _
 |c::r,h=>by rw[Af,Ma,Ub,Me];have h1:=h c (by simp);have h2:=JD f g (l:=r) fun y hy=>h y (by simp[hy]);omega
theorem DJ: ∀c:zh,(Zc c).length<=sizC c:=by
 have key: ∀(n:Nat) (c:zh),sizC c<=n->(Zc c).length<=sizC c:=by
  intro n
  induction n with
  |zero=>intro c hc;have:=Es c;omega
  |succ n ih=>
   intro c hc;have hs:=Vh c;rw[Og];cases c.kind==7 with
   |true=>have:=Es c;simp only[Ea,Ab,List.length_nil];omega
   |false=> have:=JD Zc sizC (l:=c.list) fun y hy=>ih y (by have:=Sr hy;omega);simp only[Da];omega
 exact fun c=>key _ c (La _)
theorem gU{l:List zh}{i:Nat}(hi:i<l.length):((l.take i).flatMap Zc).length+(Zc l[i]).length<=(l.map sizC).sum:=by have h1:=JD Zc sizC (l:=l.take i) fun y _=>DJ y;have h2:=DJ l[i];have h3:=Nj sizC hi;have h4:=Au sizC l (i+1);omega
theorem JS{c:zh}(h:zC (zq c)<=big){i:Nat}(hi:i<c.list.length):zQ ((c.list.take i).flatMap Zc).length (Zc c.list[i]).length 48=true:=by have h1:=gU hi;have h2:=Vh c;have h3:=YC c;unfold big at h;exact Yh (by omega)
theorem XZ{c:zh}(h:zC (zq c)<=big)(ht: ∀d∈Zc c,lg d.value=some (d.value,0)):Zx c=some (Zc c):=by
 refine Dh (fun c=>zC (zq c)) (fun c=>zC (zq c)<=big/\ ∀d∈Zc c,lg d.value=some (d.value,0)) Zc (fun S c hc hS=> ?_) ⟨h,ht⟩;obtain⟨hc,ht⟩:=hc;unfold Aq;rw[Og]at ht ⊢;cases h7:c.kind==7 with
 |true=> rw[h7,Ea]at ht;simp only[Ea,ht c.decl (by simp),zb,Aa]
 |false=>
  rw[h7,Da]at ht;simp only[Da];have hlen:=Yi c;refine(iJ c.list.length (fun i=>((i:Int),(c.list.take i).flatMap Zc)) (c.list.flatMap Zc) rfl (fun i hi=> ?_) ?_).trans rfl
  ·have hm:=Fb hi;have hs:=hS c.list[i] ⟨by have:=Qc hm;omega,fun d hd=>ht d (Wd.2 ⟨_,hm,hd⟩)⟩ (Qc hm);simp only[Zw hi,Ea,ZF hi,zb,Aa,qO,hs,JS hc hi,Qs,mD Zc hi,Zh hi (show c.list.length<=big by omega)]
  ·simp only[af,Da,jc]
mutual
def lfC:zh->Bool
 |⟨k,_,_,_,l⟩=>bif k==4||(k==5||(k==6||(k==7||k==8)))then l.isEmpty else(bif k==3 then l.length==1 else k==1||k==2)&&lfCs l
def lfCs:List zh->Bool
 |[]=>true
 |c::r=>lfC c&&lfCs r
end
theorem lJ: ∀l:List zh,lfCs l=l.all lfC
 |[]=>by rw[lfCs];rfl
 |c::r=>by rw[lfCs,lJ r];rfl
theorem Nk(c:zh):lfC c=bif c.kind==4||(c.kind==5||(c.kind==6||(c.kind==7||c.kind==8)))then c.list.isEmpty else(bif c.kind==3 then c.list.length==1 else c.kind==1||c.kind==2)&&c.list.all lfC:=by obtain⟨⟩:=c;rw[lfC,lJ]
theorem zBB{f:Bool}{y:zh}(h:Fh f y=true):lfC y=true:=by
 unfold Fh at h;simp only[Ca]at h;rw[Nk,h.1];have:(y.kind==4||(y.kind==5||(y.kind==6||(y.kind==7||y.kind==8))))=true:=by have h2:=h.2;clear h;cases h4:y.kind==4<;>cases h5:y.kind==5<;>cases h6:y.kind==6<;>simp[h4,h5,h6]at h2 ⊢
 rw[this];rfl
theorem kJ{c:zh}(h:Li c=true):lfC c=true:=by unfold Li at h;simp only[Ca,Sb]at h;rw[Nk,h.1];exact Bb.2 fun y hy=>let⟨_,e⟩:=YL h.2.2.2 hy;zBB e
theorem zBA{c:zh}(h:Lh c=true):lfC c=true:=by
 unfold Lh at h;cases h3:c.kind==3 with
 |false=>rw[h3]at h;exact kJ h
 |true=>
  rw[h3,Ea,Ca]at h;have:=h.2;revert this;rw[Nk,eq_of_beq h3];cases hl:c.list with
  |nil=>intro h;cases h
  |cons y r=>
   cases r with
   |nil=> intro hq;simp only[Ca]at hq;simp[kJ hq.1]
   |cons z r=>intro hq;cases hq
theorem wT{c:zh}(h:yf c=true):lfC c=true:=by
 unfold yf at h;simp only[Ca,Yc,Sb,Xd,Bb]at h;rw[Nk];rcases h.2 with⟨hk,hl⟩|⟨hk,_,_,hl⟩
 ·rw[hk,hl];rfl
 ·rw[hk];exact Bb.2 fun y hy=>zBA (hl y hy)
theorem zCs: ∀{c:zh},supC c=true->lfC c=true:=by
 have key: ∀(n:Nat) (c:zh),sizC c<=n->supC c=true->lfC c=true:=by
  intro n
  induction n with
  |zero=>intro c hc;have:=Es c;omega
  |succ n ih=>
   intro c hc hs;rw[Tn]at hs;rw[Nk];have hsz:=Vh c;have ha:(c.list.all supC)=true->c.list.all lfC=true:=fun h=>Bb.2 fun y hy=>ih y (by have:=Sr hy;omega) (Bb.1 h y hy);cases h7:c.kind==7 with
   |true=> rw[h7,Ea]at hs;simp only[Ca]at hs;simp only[Yd,jd,Ea];exact hs.1
   |false=>
    cases h8:c.kind==8 with
    |true=> rw[h7,h8,Da,Ea]at hs;simp only[Ca]at hs;simp only[Yd,jd,Ea];exact hs.1
    |false=>
     rw[h7,h8,Da,Da]at hs;simp only[Ca]at hs;obtain⟨hk,_,hl,hall⟩:=hs;have h4:(c.kind==4||(c.kind==5||(c.kind==6||(false||false))))=false:=by simp only[Yc,Sb]at hk;rcases hk with e|e|e<;>rw[e]<;>rfl
     rw[h4,Da,ha hall,Vb];cases h3:c.kind==3 with
     |true=>rw[h3]at hl;exact hl
     |false=>rw[h3,Ld]at hk;exact hk
 intro c hs;exact key _ c (La _) hs
theorem iL(w:Int): ∀(a b:List zh) (ys:List Bool),Ff w (a++b) ys=(Ff w a ys&&Ff w b (ys.drop (a.flatMap Zc).length))
 |[],b,ys=>by rw[Uc,Ff];rfl
 |c::a,b,ys=>by rw[Dc,Ff,Ff,iL w a b,Te,Bf,Af,Ma]
theorem gL(w:Int): ∀(a b:List zh) (ys:List Bool),Qg w (a++b) ys=(Qg w a ys||Qg w b (ys.drop (a.flatMap Zc).length))
 |[],b,ys=>by rw[Uc,Qg];rfl
 |c::a,b,ys=>by rw[Dc,Qg,Qg,gL w a b,Bool.or_assoc,Bf,Af,Ma]
theorem PM(w:Int): ∀(l:List zh) (ys:List Bool) (m:Nat),(l.flatMap Zc).length<=m->Ff w l (ys.take m)=Ff w l ys
 |[],ys,m,_=>by rw[Ff,Ff]
 |c::a,ys,m,h=>by rw[Af,Ma]at h;rw[Ff,Ff,List.take_take,Nat.min_eq_left (by omega),List.drop_take,PM w a _ _ (by omega)]
theorem OM(w:Int): ∀(l:List zh) (ys:List Bool) (m:Nat),(l.flatMap Zc).length<=m->Qg w l (ys.take m)=Qg w l ys
 |[],ys,m,_=>by rw[Qg,Qg]
 |c::a,ys,m,h=>by rw[Af,Ma]at h;rw[Qg,Qg,List.take_take,Nat.min_eq_left (by omega),List.drop_take,OM w a _ _ (by omega)]
theorem dW{w:Int}{l:List zh}{i:Nat}(hi:i<l.length)(ys:List Bool):Ff w (l.take (i+1)) ys=(Ff w (l.take i) ys&&holC w l[i] ((ys.drop ((l.take i).flatMap Zc).length).take (Zc l[i]).length)):=by rw[Mc hi,iL,Ff,Ff,Vb]
theorem bW{w:Int}{l:List zh}{i:Nat}(hi:i<l.length)(ys:List Bool):Qg w (l.take (i+1)) ys=(Qg w (l.take i) ys||holC w l[i] ((ys.drop ((l.take i).flatMap Zc).length).take (Zc l[i]).length)):=by rw[Mc hi,gL,Qg,Qg,Ud]
def hldF(x:(zh×Int)×Int×List Bool):Bool×Int:=
 (holC x.1.2 x.1.1 ((x.2.2.drop x.2.1.toNat).take (Zc x.1.1).length),((x.2.1.toNat+(Zc x.1.1).length:Nat):Int))
theorem Iw{c:zh}(hl:lfC c=true)(hk:c.kind=4\/c.kind=5\/c.kind=6\/c.kind=8):Zc c=[]:=by rw[Nk]at hl;rw[Og];rcases hk with e|e|e|e<;>rw[e]at hl ⊢ <;>(have:=Xd.1 hl;rw[this];rfl)
theorem uS{c:zh}(h:(c.kind==7)=false):Zc c=c.list.flatMap Zc:=by rw[Og,h];rfl
theorem WZ{c:zh}{w:Int}{a:Nat}{ys:List Bool}(h:zC (zq c)<=big)(hl:lfC c=true)(hb:ys.length<=big)(ha:a+(Zc c).length<=ys.length):
  Z0 ((c,w),(a:Int),ys)=some (hldF ((c,w),(a:Int),ys)):=by
 refine Dh (fun x:(zh×Int)×Int×List Bool=>zC (zq x.1.1)) (fun x=>zC (zq x.1.1)<=big/\lfC x.1.1=true/\x.2.2.length<=big/\ ∃a:Nat,x.2.1=a/\a+(Zc x.1.1).length<=x.2.2.length) hldF (fun S x hx hS=> ?_) ⟨h,hl,hb,a,rfl,ha⟩;obtain⟨⟨c,w⟩,at_,ys⟩:=x;obtain⟨hc,hl,hb,a,ea,ha⟩:=hx;simp only at hc hl hb ea ha;subst ea;clear h;have hlen:=Yi c;unfold sj hldF;simp only[Ec];rw[Mx];cases h4:c.kind==4 with
 |true=>
  rw[Iw hl (.inl (eq_of_beq h4))];show some (bif c.name==allW then true else c.name==ow,(a:Int))=some (c.name==allW||c.name==ow,((a+0:Nat):Int));cases c.name==allW<;>rfl
 |false=>
 cases h5:c.kind==5 with
 |true=>rw[Iw hl (.inr (.inl (eq_of_beq h5)))];rfl
 |false=>
 cases h6:c.kind==6 with
 |true=>rw[Iw hl (.inr (.inr (.inl (eq_of_beq h6))))];rfl
 |false=>
 cases h7:c.kind==7 with
 |true=>
  have hd:Zc c=[c.decl]:=by rw[Og,h7];rfl
  rw[hd]at ha ⊢;simp only[Ab,List.length_nil]at ha ⊢;have hi:a<ys.length:=by omega
  unfold ll;have e1:w64 ((a:Int)+1)=((a+1:Nat):Int):=Zh hi hb;have e2:w64 (((a+1:Nat):Int) - 1)=(a:Int):=by rw[show(((a+1:Nat):Int) - 1)=(a:Int) by omega,w64,Zo (by omega) (by unfold big at hb;omega)]
  have e3:((ys.drop a).take (0+1)).headD false=ys[a]:=by rw[Xa hi];rfl
  simp only[Da,Ea,e1,e2,ZF hi,zb,Aa,e3]
 |false=>
 cases h8:c.kind==8 with
 |true=>rw[Iw hl (.inr (.inr (.inr (eq_of_beq h8))))];rfl
 |false=>
  have hlf:c.list.all lfC=true:=by rw[Nk,h4,h5,h6,h7,h8]at hl;simp only[Bool.or_self,Da,Ca]at hl;exact hl.2
  have hd:=uS h7;simp only[Da];refine(iJ c.list.length (fun i=>((Ff w (c.list.take i) (ys.drop a),Qg w (c.list.take i) (ys.drop a),(i:Int)),((a+((c.list.take i).flatMap Zc).length:Nat):Int))) ((Ff w c.list (ys.drop a),Qg w c.list (ys.drop a)),((a+(c.list.flatMap Zc).length:Nat):Int)) ?_ (fun i hi=> ?_) ?_).trans ?_
  ·rw[List.take_zero,Ff,Qg];rfl
  ·have hm:=Fb hi;have hq:((c.list.take i).flatMap Zc).length+(Zc c.list[i]).length<=(Zc c).length:=by rw[hd];have e:=mD Zc hi;have e2:((c.list.take (i+1)).flatMap Zc).length<=(c.list.flatMap Zc).length:=OY Zc _ _;rw[e,Ma]at e2;exact e2
   have hs:=hS ((c.list[i],w),((a+((c.list.take i).flatMap Zc).length:Nat):Int),ys) ⟨by have:=Qc hm;simp only;omega,Bb.1 hlf _ hm,hb,_,rfl,by simp only;omega⟩ (Qc hm);simp only[hldF,Ec]at hs;simp only[Zw hi,Ea,ZF hi,zb,Aa,qO,hs,Zh hi (show c.list.length<=big by omega)];rw[dW hi,bW hi,mD Zc hi,Ma,Bf,Be];cases Ff w (c.list.take i) (ys.drop a)<;>cases Qg w (c.list.take i) (ys.drop a)<;>rfl
  ·simp only[af,Da,jc]
  ·rw[hd,PM w _ _ _ (La _),OM w _ _ _ (La _)];cases c.kind==1<;>cases c.kind==2<;>rfl
theorem YZ{c:zh}(h:zC (zq c)<=big):mh c=some (bif yf c||ZH c then 0 else 8):=by unfold mh;simp only[qO,N8 h,X9 h,zb,Aa];cases yf c<;>rfl
theorem w_in{w:Int}(h:(decide (w<0)||decide (w>1000000000))=false):w64 (1000*w)=1000*w:=by simp only[Gf,decide_eq_false_iff_not]at h;rw[w64,Zo (by omega) (by omega)]
theorem iR{c:zh}(h:ZH c=true):supC c=true:=by unfold ZH at h;exact(Ca _ _▸h).1
theorem zC1{c:zh}(h:(yf c||ZH c)=true):lfC c=true:=by rw[Yc]at h;exact h.elim wT fun h=>zCs (iR h)
theorem iU: ∀{c:zh},∀d∈Zc c,zC (Qq d)<=zC (zq c):=by
 have key: ∀(n:Nat) (c:zh),sizC c<=n-> ∀d∈Zc c,zC (Qq d)<=zC (zq c):=by
  intro n
  induction n with
  |zero=>intro c hc;have:=Es c;omega
  |succ n ih=>
   intro c hc d hd;rw[Og]at hd;cases h7:c.kind==7 with
   |true=>rw[h7,Ea]at hd;rw[Yb.1 hd];exact ky c
   |false=> rw[h7,Da]at hd;obtain⟨y,hy,hd⟩:=Wd.1 hd;have h1:=Vh c;have h2:=Sr hy;have h3:=Qc hy;have:=ih y (by omega) d hd;omega
 intro c d hd;exact key _ c (La _) d hd
theorem zBX{c:zh}(h:zC (zq c)<=big)(hv:(yf c||ZH c)=true): ∀d∈Zc c,lg d.value=some (d.value,0):=by
 intro d hd;rw[Yc]at hv;rcases hv with hv|hv
 ·rw[VV hv]at hd;cases hd
 ·exact mV (jT (iR hv) d hd) (Ho (Lb (iU d hd) h)).1
theorem zCy(a b:Nat):((a:Int) != (b:Int))= !(a==b):=by
 cases h:a==b with
 |true=>rw[eq_of_beq h];simp
 |false=>have:=ne_of_beq_false h;simp only[Ua,Bg];omega
theorem uu{c:zh}{e:VEnv}{ys:List Bool}(h:zC (zq c)<=big)(hb:ys.length<=big):Qk (c,e,ys)=some (Nw c e.width ys):=by
 unfold Qk Nw;simp only[qO,YZ h,zb,Aa];cases hv:yf c||ZH c with
 |false=>rfl
 |true=>
  simp only[Ea,XZ h (zBX h hv),show((0:Int) != 0)=false from rfl,Da,ja];have hor:(bif decide (e.width<0)then true else decide (e.width>1000000000))=(decide (e.width<0)||decide (e.width>1000000000)):=by cases decide (e.width<0)<;>rfl
  rw[hor,<-Bool.or_assoc];cases ho:decide (e.width<0)||decide (e.width>1000000000)with
  |true=>rfl
  |false=>
   simp only[Ua,zU,Aa,Da,Ld,zCy];cases hy:ys.length==(Zc c).length with
   |false=>rfl
   |true=> have hy:=eq_of_beq hy;have hh:=WZ (a:=0) (w:=w64 (1000*e.width)) (ys:=ys) h (zC1 hv) hb (by omega);simp only[ja,Da,show(0:Int)=((0:Nat):Int)from rfl,hh,Aa];simp only[hldF,Ec,List.drop_zero,<-hy,jc,w_in ho]
def atS(l:Str)(n:Nat):UInt8:=l.getD n 0
def digB(b:UInt8):Bool:=decide (48<=b.toNat)&&decide (b.toNat<=57)
def spB(b:UInt8):Bool:=b==10||b==9||b==32
def alB(b:UInt8):Bool:=decide (65<=b.toNat)&&decide (b.toNat<=90)||decide (97<=b.toNat)&&decide (b.toNat<=122)
def fstB(b:UInt8):Bool:=alB b||b==95||decide (128<=b.toNat)
def letB(b:UInt8):Bool:=fstB b||digB b||b==45
def hexN(b:UInt8):Nat:=
 if digB b then b.toNat - 48 else if 97<=b.toNat/\b.toNat<=102 then b.toNat - 87 else if 65<=b.toNat/\b.toNat<=70 then b.toNat - 55 else 16
def kH(b:UInt8):Bool:=decide (hexN b<16)
def escS(l:Str):Bool:=atS l 0==92&& !(atS l 1==10)
def nmS(l:Str):Bool:=if atS l 0==45 then fstB (atS l 1)||atS l 1==45||escS (l.drop 1)else fstB (atS l 0)||escS l
def Sm(b:UInt8):Bool:=b==43||b==45
def unsign(l:Str):Str:=if Sm (atS l 0)then l.drop 1 else l
def undot(l:Str):Str:=if atS l 0==46 then l.drop 1 else l
def nbS(l:Str):Bool:=digB (atS (undot (unsign l)) 0)
def BR:Str:=[239,191,189]
def FR(n:Nat):Str:=
 if n=0\/(55296<=n/\n<=57343)\/1114111<n then BR
 else if n<128 then [UInt8.ofNat n]
 else if n<2048 then [UInt8.ofNat (192+n / 64),UInt8.ofNat (128+n%64)]
 else if n<65536 then [UInt8.ofNat (224+n / 4096),UInt8.ofNat (128+n / 64%64),UInt8.ofNat (128+n%64)]
 else [UInt8.ofNat (240+n / 262144),UInt8.ofNat (128+n / 4096%64),UInt8.ofNat (128+n / 64%64),UInt8.ofNat (128+n%64)]
def hexes:Nat->Nat->Str->Nat×Str
 |0,n,l=>(n,l)
 |_+1,n,[]=>(n,[])
 |k+1,n,c::r=>if kH c then hexes k (16*n+hexN c) r else(n,c::r)
def unsp:Str->Str
 |[]=>[]
 |c::r=>if spB c then r else c::r
def ZN:Str->Str×Str
 |[]=>(BR,[])
 |c::r=>if kH c then(FR (hexes 6 0 (c::r)).1,unsp (hexes 6 0 (c::r)).2)else([c],r)
theorem uK: ∀(k n:Nat) (l:Str),(hexes k n l).2<:+l
 |0,n,l=>List.suffix_refl l
 |k+1,n,[]=>List.suffix_refl _
 |k+1,n,c::r=>by
  unfold hexes;split
  ·exact(uK k _ r).trans (Vd c r)
  grind
theorem zAq(l:Str):unsp l<:+l:=by
 cases l with
 |nil=>exact List.suffix_refl _
 |cons c r=>
  show(if spB c then r else c::r)<:+c::r
  grind
theorem Jp(l:Str):(ZN l).2<:+l:=by
 cases l with
 |nil=>exact List.suffix_refl _
 |cons c r=>
  show(if kH c then(FR (hexes 6 0 (c::r)).1,unsp (hexes 6 0 (c::r)).2)else([c],r)).2<:+c::r;split
  ·exact(zAq _).trans (uK 6 0 _)
  grind
theorem Xj(l:Str):(ZN l).2.length<=l.length:=(Jp l).length_le
def qG:Str->Str×Str
 |[]=>([],[])
 |c::r=>
  if letB c then((c::(qG r).1),(qG r).2)
  else if escS (c::r)then((ZN r).1++(qG (ZN r).2).1,(qG (ZN r).2).2)
  else([],c::r)
termination_by l=>l.length
decreasing_by
 all_goals first|(have:=Xj r;simp only[Ab];omega)|(simp only[Ab];omega)
def past(p:UInt8->Bool):Str->Str
 |[]=>[]
 |c::r=>if p c then past p r else c::r
theorem Vx(p:UInt8->Bool): ∀l:Str,past p l<:+l
 |[]=>List.suffix_refl _
 |c::r=>by
  unfold past;split
  ·exact(Vx p r).trans (Vd c r)
  grind
def ag(l:Str):Str×Bool:=
 if atS l 0==46&&digB (atS l 1)then(past digB (l.drop 1),false)else(l,true)
def expS(l:Str):Option Str:=
 if atS l 0==101||atS l 0==69 then(if digB (atS (unsign (l.drop 1)) 0)then some (past digB (unsign (l.drop 1)))else none)else none
def Fg(l:Str):Str×Bool:=
 let x:=ag (past digB (unsign l))
 match expS x.1 with
 |some r=>(r,false)
 |none=>x
def decN(n:Nat)(b:UInt8):Nat:=10*n+(b.toNat - 48)
def upto(l r:Str):Str:=l.take (l.length - r.length)
def rf(m:UInt8):Str->Option Str×Str
 |[]=>(some [],[])
 |c::r=>
  if c==m then(some [],r)
  else if c==10 then(none,c::r)
  else if c==92 then
   (if r.isEmpty then(some [],[])
   else if atS r 0==10 then rf m (r.drop 1)
   else((rf m (ZN r).2).1.map ((ZN r).1++ ·),(rf m (ZN r).2).2))
  else((rf m r).1.map (c:: ·),(rf m r).2)
termination_by l=>l.length
decreasing_by
 all_goals first|(have:=Xj r;simp only[Ab];omega)|(simp only[Ab,Jd];omega)
def badS:Str->Str
 |[]=>[]
 |c::r=>if c==41 then r else if escS (c::r)then badS (ZN r).2 else badS r
termination_by l=>l.length
decreasing_by
 all_goals first|(have:=Xj r;simp only[Ab];omega)|(simp only[Ab];omega)
def unB(b:UInt8):Bool:=decide (b.toNat<=8)||b==11||decide (14<=b.toNat)&&decide (b.toNat<=31)||b==127
def urlS:Str->Option Str×Str
 |[]=>(some [],[])
 |c::r=>
  if c==41 then(some [],r)
  else if spB c then(match past spB r with
   |[]=>(some [],[])
   |d::a=>if d==41 then(some [],a)else(none,badS (d::a)))
  else if c==34||c==39||c==40||unB c||c==92&& !escS (c::r)then(none,badS (c::r))
  else if c==92 then((urlS (ZN r).2).1.map ((ZN r).1++ ·),(urlS (ZN r).2).2)
  else((urlS r).1.map (c:: ·),(urlS r).2)
termination_by l=>l.length
decreasing_by
 all_goals first|(have:=Xj r;simp only[Ab];omega)|(simp only[Ab];omega)
def bv(b:UInt8):Int:=
 if b==58 then 16 else if b==59 then 17 else if b==44 then 18 else if b==91 then 19 else if b==93 then 20 else if b==40 then 21 else if b==41 then 22 else if b==123 then 23 else if b==125 then 24 else 0
def Aj(k:Int):zf:=⟨k,[],0,[],false⟩
def uH:Nat:=1000000000000
def dR:Nat->Nat->Nat
 |0,n=>n
 |k+1,n=>if n=0\/uH<=n then n else dR k (min uH (10*n))
theorem kv{n:Int}(a: -9223372036854775808<=n)(h2:n<=9223372036854775807):w64 n=n:=Zo a h2
theorem NJ(l:Str)(k n:Nat):atS (l.drop k) n=atS l (k+n):=by
 unfold atS
 grind
theorem zCW{l:Str}{n:Nat}(h:atS l n≠0):n<l.length:=by
 rcases Fe n l.length with a|a
 ·exact a
 ·exact absurd (by unfold atS;grind) h
def valG(n:Nat)(l:Str):Nat:=l.foldl decN n
def d48(k:Nat):UInt8:=UInt8.ofNat (48+k)
def Nh(r:Nat):Str:=Lib.trimRightB [d48 (r / 100),d48 (r / 10%10),d48 (r%10)] 48
def UR(r:Nat):Bool:=(Nh r).all digB&&decide ((Nh r).length<=3)&&decide (valG 0 (Nh r)*10 ^ (3 - (Nh r).length)=r)&&((Nh r).isEmpty==(r==0))&& !((Nh r).getLast? ==some 48)
theorem WT: ∀r,r<1000->UR r=true:=by decide+kernel
def oH(r:Nat)(p:Bool):Str:=bif (Nh r).isEmpty then(bif p then [46,48]else [])else 46::Nh r
def zCX(m:Nat)(p:Bool):Str:=Lib.decDigits (m / 1000)++oH (m%1000) p
def numT(n:Int)(p:Bool):Str:=(if n<0 then [45]else [])++zCX n.natAbs p
abbrev tS:zf:=⟨13,[],0,[],false⟩
theorem c1:QJ [⟨9,[92],0,[],false⟩]=some 8:=Tz 60 _ _ (by decide+kernel)
theorem c2:QJ [⟨2,[85,114,108],0,[],false⟩,tS]=some 8:=Tz 60 _ _ (by decide+kernel)
def partT(r:Nat)(p:Bool):Str:=bif (Nh r).isEmpty then(bif p then [48]else [])else Nh r
theorem MI{r:Nat}(h:r<1000)(p:Bool):(partT r p).all digB=true/\(partT r p).length<=3/\valG 0 (partT r p)*10 ^ (3 - (partT r p).length)=r/\oH r p=(bif (partT r p).isEmpty then []else 46::partT r p)/\((partT r p).isEmpty=((r==0)&& !p)):=by
 have f:=WT r h;simp only[UR,Ca,ma,Sb]at f;obtain⟨⟨⟨⟨a,b⟩,c⟩,d⟩,e⟩:=f;unfold partT oH;cases g:(Nh r).isEmpty with
 |true=>
  have i:r=0:=by rw[g]at d;exact Sb.1 d.symm
  subst i;cases p<;>refine⟨by decide,by decide,by decide,rfl,rfl⟩
 |false=>
  grind
end Go.Lv.VT
