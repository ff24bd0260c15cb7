/- Declarations: reading one, in the program and in the reference. -/
import Derived.Test.YtkecjfeffabgiaaGreatDoorXa
import Derived.Test.YtkecjfeffabgiaaGreatDoorXb
import Derived.Test.YtkecjfeffabgiaaGreatDoorTy
import Derived.Test.YtkecjfeffabgiaaGreatDoorMo
set_option linter.unusedSimpArgs false
set_option linter.unusedVariables false
namespace Go.Lv.VT
set_option maxRecDepth 100000
def KI(l:List ze):Prop:= ∀t v,l=t++[v]->isSp v=false
def Kn(l:List ze):Prop:= ∀a t,l=a::t->isSp a=false
theorem KI.id{l:List ze}(h:KI l):trimB l=l:=by
 rcases VE l with rfl|⟨t,v,rfl⟩
 ·rfl
 ·rw[Vt,h t v rfl];rfl
theorem Kn.pre{a b:List ze}(h:Kn (a++b)):Kn a:=fun x t e=>h x (t++b) (by rw[e];rfl)
theorem Kn.id{l:List ze}(h:Kn l):l.dropWhile isSp=l:=by
 cases l with
 |nil=>rfl
 |cons a t=>rw[yc,h a t rfl];rfl
--< pulled
--p zValue_pos
--p sp
abbrev sp(l:List ze):List ze:=l.dropWhile isSp
--p sp_nil
--p sp_cons
--p sp_sub
--p sp_len
--p sp_idem
--p EndS
--p trimB_idem
--p end_tail
--p end_sp
--p trimS_end
--p sp_pre
--p loop_fold
--> pulled
theorem YS{l:List ze}(h:(trimS l).length=l.length):trimS l=l:=(NW l).eq_of_length h
theorem LV{d:zA}(h:jf d=true):trimS d.value=d.value:=by unfold jf Ck at h;simp only[Ca]at h;refine YS ?_;have:=wK d.value;rw[h.2.2.2.2.2.2]at this;exact eq_of_beq this
theorem fV{d:zA}(h:jf d=true)(hz:szL d.value<=big):og d.value=some (d.value,0):=by
 have he:errS d.value=0:=by unfold jf at h;simp only[Ca,Sb]at h;exact h.2.1
 rw[AU hz,Ma he,LV h]
theorem Ms{S X R:Type}{step:S->Option (LO S X R)}{k:X->Option R}(n:Nat)(st:Nat->S)(x:X){s0:S}(h0:s0=st 0)(hg: ∀i,i<n->step (st i)=some (.again (st (i+1))))(hf:step (st n)=some (.out x)):zX step s0 k=k x:=by
 have key: ∀(m i:Nat),i+m=n-> ∃j,qD step j (st i)=some (.out x):=by
  intro m
  induction m with
  |zero=>
   intro i hi;obtain rfl:i=n:=by omega
   exact⟨1,by simp only[qD,hf]⟩
  |succ m ih=> intro i hi;obtain⟨j,hj⟩:=ih (i+1) (by omega);exact⟨j+1,by simp only[qD,hg i (by omega)];exact hj⟩
 obtain⟨j,hj⟩:=key n 0 (by omega);rw[h0,Go.Lv.EK (Fh hj)]
theorem Ty{α β:Type}(f:α->List β){l:List α}{i:Nat}(h:i<l.length):(l.take (i+1)).flatMap f=(l.take i).flatMap f++f l[i]:=by rw[Mc h,List.flatMap_append];simp
theorem VY{α β:Type}(f:α->List β)(l:List α)(i:Nat):((l.take i).flatMap f).length<=(l.flatMap f).length:=by have:=congrArg (fun l=>(l.flatMap f).length) (List.take_append_drop i l);simp only[List.flatMap_append,Sa]at this;omega
theorem aD{α β:Type}(f:α->List β)(g:α->Nat): ∀{l:List α},(∀y∈l,(f y).length<=g y)->(l.flatMap f).length<=(l.map g).sum
 |[],_=>La _
 |c::r,h=>by rw[ve,Sa,Ub,Ie];have h1:=h c (by simp);have h2:=aD f g (l:=r) fun y hy=>h y (by simp[hy]);omega
theorem yx: ∀c:zh,(Zh c).length<=sizC c:=by
 have key: ∀(n:Nat) (c:zh),sizC c<=n->(Zh c).length<=sizC c:=by
  intro n
  induction n with
  |zero=>intro c hc;have:=Po c;omega
  |succ n ih=>
   intro c hc;have hs:=uh c;rw[mg];cases c.kind==7 with
   |true=>have:=Po c;simp only[Ea,Bb,List.length_nil];omega
   |false=> have:=aD Zh sizC (l:=c.list) fun y hy=>ih y (by have:=Eo hy;omega);simp only[Da];omega
 exact fun c=>key _ c (La _)
theorem KV{l:List zh}{i:Nat}(hi:i<l.length):((l.take i).flatMap Zh).length+(Zh l[i]).length<=(l.map sizC).sum:=by have h1:=aD Zh sizC (l:=l.take i) fun y _=>yx y;have h2:=yx l[i];have h3:=Kj sizC hi;have h4:=yt sizC l (i+1);omega
theorem pJ{c:zh}(h:zJ (zq c)<=big){i:Nat}(hi:i<c.list.length):zR ((c.list.take i).flatMap Zh).length (Zh c.list[i]).length 48=true:=by have h1:=KV hi;have h2:=uh c;have h3:=Nr c;unfold big at h;exact Ti (by omega)
theorem sN{c:zh}(h:zJ (zq c)<=big)(ht: ∀d∈Zh c,og d.value=some (d.value,0)):Zw c=some (Zh c):=by
 refine ng (fun c=>zJ (zq c)) (fun c=>zJ (zq c)<=big/\ ∀d∈Zh c,og d.value=some (d.value,0)) Zh (fun S c hc hS=> ?_) ⟨h,ht⟩;obtain⟨hc,ht⟩:=hc;unfold Bq;rw[mg]at ht ⊢;cases h7:c.kind==7 with
 |true=> rw[h7,Ea]at ht;simp only[Ea,ht c.decl (by simp),zb,Ba]
 |false=>
  rw[h7,Da]at ht;simp only[Da];have hlen:=yh c;refine(Ms c.list.length (fun i=>((i:Int),(c.list.take i).flatMap Zh)) (c.list.flatMap Zh) rfl (fun i hi=> ?_) ?_).trans rfl
  ·have hm:=ja hi;have hs:=hS c.list[i] ⟨by have:=qJ hm;omega,fun d hd=>ht d (Wd.2 ⟨_,hm,hd⟩)⟩ (qJ hm);simp only[Zl hi,Ea,Zo hi,zb,Ba,qB,hs,pJ hc hi,Qo,Ty Zh hi,Zb hi (show c.list.length<=big by omega)]
  ·simp only[Qc,Da,Od]
mutual
def lfC:zh->Bool
 |⟨k,_,_,_,l⟩=>bif k==4||(k==5||(k==6||(k==7||k==8)))then l.isEmpty else(bif k==3 then l.length==1 else k==1||k==2)&&lfCs l
def lfCs:List zh->Bool
 |[]=>true
 |c::r=>lfC c&&lfCs r
end
theorem YJ: ∀l:List zh,lfCs l=l.all lfC
 |[]=>by rw[lfCs];rfl
 |c::r=>by rw[lfCs,YJ r];rfl
theorem Kk(c:zh):lfC c=bif c.kind==4||(c.kind==5||(c.kind==6||(c.kind==7||c.kind==8)))then c.list.isEmpty else(bif c.kind==3 then c.list.length==1 else c.kind==1||c.kind==2)&&c.list.all lfC:=by obtain⟨⟩:=c;rw[lfC,YJ]
theorem zBJ{f:Bool}{y:zh}(h:Ih f y=true):lfC y=true:=by
 unfold Ih at h;simp only[Ca]at h;rw[Kk,h.1];have:(y.kind==4||(y.kind==5||(y.kind==6||(y.kind==7||y.kind==8))))=true:=by have h2:=h.2;clear h;cases h4:y.kind==4<;>cases h5:y.kind==5<;>cases h6:y.kind==6<;>simp[h4,h5,h6]at h2 ⊢
 rw[this];rfl
theorem XJ{c:zh}(h:Ji c=true):lfC c=true:=by unfold Ji at h;simp only[Ca,Sb]at h;rw[Kk,h.1];exact Cb.2 fun y hy=>let⟨_,e⟩:=JL h.2.2.2 hy;zBJ e
theorem zBI{c:zh}(h:Nh c=true):lfC c=true:=by
 unfold Nh at h;cases h3:c.kind==3 with
 |false=>rw[h3]at h;exact XJ h
 |true=>
  rw[h3,Ea,Ca]at h;have:=h.2;revert this;rw[Kk,eq_of_beq h3];cases hl:c.list with
  |nil=>intro h;cases h
  |cons y r=>
   cases r with
   |nil=> intro hq;simp only[Ca]at hq;simp[XJ hq.1]
   |cons z r=>intro hq;cases hq
theorem iT{c:zh}(h:Tg c=true):lfC c=true:=by
 unfold Tg at h;simp only[Ca,Yc,Sb,Jd,Cb]at h;rw[Kk];rcases h.2 with⟨hk,hl⟩|⟨hk,_,_,hl⟩
 ·rw[hk,hl];rfl
 ·rw[hk];exact Cb.2 fun y hy=>zBI (hl y hy)
theorem zCy: ∀{c:zh},supC c=true->lfC c=true:=by
 have key: ∀(n:Nat) (c:zh),sizC c<=n->supC c=true->lfC c=true:=by
  intro n
  induction n with
  |zero=>intro c hc;have:=Po c;omega
  |succ n ih=>
   intro c hc hs;rw[Mr]at hs;rw[Kk];have hsz:=uh c;have ha:(c.list.all supC)=true->c.list.all lfC=true:=fun h=>Cb.2 fun y hy=>ih y (by have:=Eo hy;omega) (Cb.1 h y hy);cases h7:c.kind==7 with
   |true=> rw[h7,Ea]at hs;simp only[Ca]at hs;simp only[Xd,Af,Ea];exact hs.1
   |false=>
    cases h8:c.kind==8 with
    |true=> rw[h7,h8,Da,Ea]at hs;simp only[Ca]at hs;simp only[Xd,Af,Ea];exact hs.1
    |false=>
     rw[h7,h8,Da,Da]at hs;simp only[Ca]at hs;obtain⟨hk,_,hl,hall⟩:=hs;have h4:(c.kind==4||(c.kind==5||(c.kind==6||(false||false))))=false:=by simp only[Yc,Sb]at hk;rcases hk with e|e|e<;>rw[e]<;>rfl
     rw[h4,Da,ha hall,Vb];cases h3:c.kind==3 with
     |true=>rw[h3]at hl;exact hl
     |false=>rw[h3,Ld]at hk;exact hk
 intro c hs;exact key _ c (La _) hs
theorem WL(w:Int): ∀(a b:List zh) (ys:List Bool),Jf w (a++b) ys=(Jf w a ys&&Jf w b (ys.drop (a.flatMap Zh).length))
 |[],b,ys=>by rw[Uc,Jf];rfl
 |c::a,b,ys=>by rw[Dc,Jf,Jf,WL w a b,Pe,xe,ve,Sa]
theorem PL(w:Int): ∀(a b:List zh) (ys:List Bool),Ff w (a++b) ys=(Ff w a ys||Ff w b (ys.drop (a.flatMap Zh).length))
 |[],b,ys=>by rw[Uc,Ff];rfl
 |c::a,b,ys=>by rw[Dc,Ff,Ff,PL w a b,Bool.or_assoc,xe,ve,Sa]
theorem lL(w:Int): ∀(l:List zh) (ys:List Bool) (m:Nat),(l.flatMap Zh).length<=m->Jf w l (ys.take m)=Jf w l ys
 |[],ys,m,_=>by rw[Jf,Jf]
 |c::a,ys,m,h=>by rw[ve,Sa]at h;rw[Jf,Jf,List.take_take,Nat.min_eq_left (by omega),List.drop_take,lL w a _ _ (by omega)]
theorem kL(w:Int): ∀(l:List zh) (ys:List Bool) (m:Nat),(l.flatMap Zh).length<=m->Ff w l (ys.take m)=Ff w l ys
 |[],ys,m,_=>by rw[Ff,Ff]
 |c::a,ys,m,h=>by rw[ve,Sa]at h;rw[Ff,Ff,List.take_take,Nat.min_eq_left (by omega),List.drop_take,kL w a _ _ (by omega)]
theorem AX{w:Int}{l:List zh}{i:Nat}(hi:i<l.length)(ys:List Bool):Jf w (l.take (i+1)) ys=(Jf w (l.take i) ys&&holC w l[i] ((ys.drop ((l.take i).flatMap Zh).length).take (Zh l[i]).length)):=by rw[Mc hi,WL,Jf,Jf,Vb]
theorem xW{w:Int}{l:List zh}{i:Nat}(hi:i<l.length)(ys:List Bool):Ff w (l.take (i+1)) ys=(Ff w (l.take i) ys||holC w l[i] ((ys.drop ((l.take i).flatMap Zh).length).take (Zh l[i]).length)):=by rw[Mc hi,PL,Ff,Ff,Je]
def hldF(x:(zh×Int)×Int×List Bool):Bool×Int:=
 (holC x.1.2 x.1.1 ((x.2.2.drop x.2.1.toNat).take (Zh x.1.1).length),((x.2.1.toNat+(Zh x.1.1).length:Nat):Int))
theorem Dw{c:zh}(hl:lfC c=true)(hk:c.kind=4\/c.kind=5\/c.kind=6\/c.kind=8):Zh c=[]:=by rw[Kk]at hl;rw[mg];rcases hk with e|e|e|e<;>rw[e]at hl ⊢ <;>(have:=Jd.1 hl;rw[this];rfl)
theorem jT{c:zh}(h:(c.kind==7)=false):Zh c=c.list.flatMap Zh:=by rw[mg,h];rfl
theorem WZ{c:zh}{w:Int}{a:Nat}{ys:List Bool}(h:zJ (zq c)<=big)(hl:lfC c=true)(hb:ys.length<=big)(ha:a+(Zh c).length<=ys.length):
  qd ((c,w),(a:Int),ys)=some (hldF ((c,w),(a:Int),ys)):=by
 refine ng (fun x:(zh×Int)×Int×List Bool=>zJ (zq x.1.1)) (fun x=>zJ (zq x.1.1)<=big/\lfC x.1.1=true/\x.2.2.length<=big/\ ∃a:Nat,x.2.1=a/\a+(Zh x.1.1).length<=x.2.2.length) hldF (fun S x hx hS=> ?_) ⟨h,hl,hb,a,rfl,ha⟩;obtain⟨⟨c,w⟩,at_,ys⟩:=x;obtain⟨hc,hl,hb,a,ea,ha⟩:=hx;simp only at hc hl hb ea ha;subst ea;clear h;have hlen:=yh c;unfold Aq hldF;simp only[Ec];rw[zBx];cases h4:c.kind==4 with
 |true=>
  rw[Dw hl (.inl (eq_of_beq h4))];show some (bif c.name==allW then true else c.name==Tw,(a:Int))=some (c.name==allW||c.name==Tw,((a+0:Nat):Int));cases c.name==allW<;>rfl
 |false=>
 cases h5:c.kind==5 with
 |true=>rw[Dw hl (.inr (.inl (eq_of_beq h5)))];rfl
 |false=>
 cases h6:c.kind==6 with
 |true=>rw[Dw hl (.inr (.inr (.inl (eq_of_beq h6))))];rfl
 |false=>
 cases h7:c.kind==7 with
 |true=>
  have hd:Zh c=[c.decl]:=by rw[mg,h7];rfl
  rw[hd]at ha ⊢;simp only[Bb,List.length_nil]at ha ⊢;have hi:a<ys.length:=by omega
  unfold Wu;have e1:w64 ((a:Int)+1)=((a+1:Nat):Int):=Zb hi hb;have e2:w64 (((a+1:Nat):Int) - 1)=(a:Int):=by rw[show(((a+1:Nat):Int) - 1)=(a:Int) by omega,w64,Zp (by omega) (by unfold big at hb;omega)]
  have e3:((ys.drop a).take (0+1)).headD false=ys[a]:=by rw[Va hi];rfl
  simp only[Da,Ea,e1,e2,Zo hi,zb,Ba,e3]
 |false=>
 cases h8:c.kind==8 with
 |true=>rw[Dw hl (.inr (.inr (.inr (eq_of_beq h8))))];rfl
 |false=>
  have hlf:c.list.all lfC=true:=by rw[Kk,h4,h5,h6,h7,h8]at hl;simp only[Bool.or_self,Da,Ca]at hl;exact hl.2
  have hd:=jT h7;simp only[Da];refine(Ms c.list.length (fun i=>((Jf w (c.list.take i) (ys.drop a),Ff w (c.list.take i) (ys.drop a),(i:Int)),((a+((c.list.take i).flatMap Zh).length:Nat):Int))) ((Jf w c.list (ys.drop a),Ff w c.list (ys.drop a)),((a+(c.list.flatMap Zh).length:Nat):Int)) ?_ (fun i hi=> ?_) ?_).trans ?_
  ·rw[List.take_zero,Jf,Ff];rfl
  ·have hm:=ja hi;have hq:((c.list.take i).flatMap Zh).length+(Zh c.list[i]).length<=(Zh c).length:=by rw[hd];have e:=Ty Zh hi;have e2:((c.list.take (i+1)).flatMap Zh).length<=(c.list.flatMap Zh).length:=VY Zh _ _;rw[e,Sa]at e2;exact e2
   have hs:=hS ((c.list[i],w),((a+((c.list.take i).flatMap Zh).length:Nat):Int),ys) ⟨by have:=qJ hm;simp only;omega,Cb.1 hlf _ hm,hb,_,rfl,by simp only;omega⟩ (qJ hm);simp only[hldF,Ec]at hs;simp only[Zl hi,Ea,Zo hi,zb,Ba,qB,hs,Zb hi (show c.list.length<=big by omega)];rw[AX hi,xW hi,Ty Zh hi,Sa,xe,jd];cases Jf w (c.list.take i) (ys.drop a)<;>cases Ff w (c.list.take i) (ys.drop a)<;>rfl
  ·simp only[Qc,Da,Od]
  ·rw[hd,lL w _ _ _ (La _),kL w _ _ _ (La _)];cases c.kind==1<;>cases c.kind==2<;>rfl
theorem XZ{c:zh}(h:zJ (zq c)<=big):ah c=some (bif Tg c||qm c then 0 else 8):=by unfold ah;simp only[qB,R8 h,dQ h,zb,Ba];cases Tg c<;>rfl
theorem w_in{w:Int}(h:(decide (w<0)||decide (w>1000000000))=false):w64 (1000*w)=1000*w:=by simp only[Gf,decide_eq_false_iff_not]at h;rw[w64,Zp (by omega) (by omega)]
theorem jA{c:zh}(h:qm c=true):supC c=true:=by unfold qm at h;exact(Ca _ _▸h).1
theorem zC8{c:zh}(h:(Tg c||qm c)=true):lfC c=true:=by rw[Yc]at h;exact h.elim iT fun h=>zCy (jA h)
theorem sD: ∀{c:zh},∀d∈Zh c,zJ (QL d)<=zJ (zq c):=by
 have key: ∀(n:Nat) (c:zh),sizC c<=n-> ∀d∈Zh c,zJ (QL d)<=zJ (zq c):=by
  intro n
  induction n with
  |zero=>intro c hc;have:=Po c;omega
  |succ n ih=>
   intro c hc d hd;rw[mg]at hd;cases h7:c.kind==7 with
   |true=>rw[h7,Ea]at hd;rw[Yb.1 hd];exact jy c
   |false=> rw[h7,Da]at hd;obtain⟨y,hy,hd⟩:=Wd.1 hd;have h1:=uh c;have h2:=Eo hy;have h3:=qJ hy;have:=ih y (by omega) d hd;omega
 intro c d hd;exact key _ c (La _) d hd
theorem MI{c:zh}(h:zJ (zq c)<=big)(hv:(Tg c||qm c)=true): ∀d∈Zh c,og d.value=some (d.value,0):=by
 intro d hd;rw[Yc]at hv;rcases hv with hv|hv
 ·rw[CW hv]at hd;cases hd
 ·exact fV (oJ (jA hv) d hd) (Co (Jb (sD d hd) h)).1
theorem zCE(a b:Nat):((a:Int) != (b:Int))= !(a==b):=by
 cases h:a==b with
 |true=>rw[eq_of_beq h];simp
 |false=>have:=ne_of_beq_false h;simp only[Ya,Ag];omega
theorem YZ{c:zh}{e:VEnv}{ys:List Bool}(h:zJ (zq c)<=big)(hb:ys.length<=big):Yi (c,e,ys)=some (Hw c e.width ys):=by
 unfold Yi Hw;simp only[qB,XZ h,zb,Ba];cases hv:Tg c||qm c with
 |false=>rfl
 |true=>
  simp only[Ea,sN h (MI h hv),show((0:Int) != 0)=false from rfl,Da,Ab];have hor:(bif decide (e.width<0)then true else decide (e.width>1000000000))=(decide (e.width<0)||decide (e.width>1000000000)):=by cases decide (e.width<0)<;>rfl
  rw[hor,<-Bool.or_assoc];cases ho:decide (e.width<0)||decide (e.width>1000000000)with
  |true=>rfl
  |false=>
   simp only[Ya,zY,Ba,Da,Ld,zCE];cases hy:ys.length==(Zh c).length with
   |false=>rfl
   |true=> have hy:=eq_of_beq hy;have hh:=WZ (a:=0) (w:=w64 (1000*e.width)) (ys:=ys) h (zC8 hv) hb (by omega);simp only[Ab,Da,show(0:Int)=((0:Nat):Int)from rfl,hh,Ba];simp only[hldF,Ec,List.drop_zero,<-hy,Od,w_in ho]
theorem aZ{c:zh}(h:zJ (zq c)<=big):dh c=some (bif qm c then(Zh c,0)else([],8)):=by
 unfold dh;simp only[qB,dQ h,zb,Ba];cases hv:qm c with
 |false=>rfl
 |true=>simp only[Ea,sN h (MI h (by rw[hv,Af])),show((0:Int) != 0)=false from rfl,Da,Ba]
def atS(l:Str)(n:Nat):UInt8:=l.getD n 0
def digB(b:UInt8):Bool:=decide (48<=b.toNat)&&decide (b.toNat<=57)
def spB(b:UInt8):Bool:=b==10||b==9||b==32
def alB(b:UInt8):Bool:=decide (65<=b.toNat)&&decide (b.toNat<=90)||decide (97<=b.toNat)&&decide (b.toNat<=122)
def fstB(b:UInt8):Bool:=alB b||b==95||decide (128<=b.toNat)
def letB(b:UInt8):Bool:=fstB b||digB b||b==45
def hexN(b:UInt8):Nat:=
 if digB b then b.toNat - 48 else if 97<=b.toNat/\b.toNat<=102 then b.toNat - 87 else if 65<=b.toNat/\b.toNat<=70 then b.toNat - 55 else 16
def kH(b:UInt8):Bool:=decide (hexN b<16)
def escS(l:Str):Bool:=atS l 0==92&& !(atS l 1==10)
def nmS(l:Str):Bool:=if atS l 0==45 then fstB (atS l 1)||atS l 1==45||escS (l.drop 1)else fstB (atS l 0)||escS l
def Sm(b:UInt8):Bool:=b==43||b==45
def unsign(l:Str):Str:=if Sm (atS l 0)then l.drop 1 else l
def undot(l:Str):Str:=if atS l 0==46 then l.drop 1 else l
def nbS(l:Str):Bool:=digB (atS (undot (unsign l)) 0)
def FR:Str:=[239,191,189]
def MR(n:Nat):Str:=
 if n=0\/(55296<=n/\n<=57343)\/1114111<n then FR
 else if n<128 then [UInt8.ofNat n]
 else if n<2048 then [UInt8.ofNat (192+n / 64),UInt8.ofNat (128+n%64)]
 else if n<65536 then [UInt8.ofNat (224+n / 4096),UInt8.ofNat (128+n / 64%64),UInt8.ofNat (128+n%64)]
 else [UInt8.ofNat (240+n / 262144),UInt8.ofNat (128+n / 4096%64),UInt8.ofNat (128+n / 64%64),UInt8.ofNat (128+n%64)]
def hexes:Nat->Nat->Str->Nat×Str
 |0,n,l=>(n,l)
 |_+1,n,[]=>(n,[])
 |k+1,n,c::r=>if kH c then hexes k (16*n+hexN c) r else(n,c::r)
def unsp:Str->Str
 |[]=>[]
 |c::r=>if spB c then r else c::r
def ZL:Str->Str×Str
 |[]=>(FR,[])
 |c::r=>if kH c then(MR (hexes 6 0 (c::r)).1,unsp (hexes 6 0 (c::r)).2)else([c],r)
theorem LK: ∀(k n:Nat) (l:Str),(hexes k n l).2<:+l
 |0,n,l=>List.suffix_refl l
 |k+1,n,[]=>List.suffix_refl _
 |k+1,n,c::r=>by
  unfold hexes;split
  ·exact(LK k _ r).trans (Vd c r)
  grind
theorem zAz(l:Str):unsp l<:+l:=by
 cases l with
 |nil=>exact List.suffix_refl _
 |cons c r=>
  show(if spB c then r else c::r)<:+c::r
  grind
theorem Gp(l:Str):(ZL l).2<:+l:=by
 cases l with
 |nil=>exact List.suffix_refl _
 |cons c r=>
  show(if kH c then(MR (hexes 6 0 (c::r)).1,unsp (hexes 6 0 (c::r)).2)else([c],r)).2<:+c::r;split
  ·exact(zAz _).trans (LK 6 0 _)
  grind
theorem Wj(l:Str):(ZL l).2.length<=l.length:=(Gp l).length_le
def qF:Str->Str×Str
 |[]=>([],[])
 |c::r=>
  if letB c then((c::(qF r).1),(qF r).2)
  else if escS (c::r)then((ZL r).1++(qF (ZL r).2).1,(qF (ZL r).2).2)
  else([],c::r)
termination_by l=>l.length
decreasing_by
 all_goals first|(have:=Wj r;simp only[Bb];omega)|(simp only[Bb];omega)
def past(p:UInt8->Bool):Str->Str
 |[]=>[]
 |c::r=>if p c then past p r else c::r
theorem Rx(p:UInt8->Bool): ∀l:Str,past p l<:+l
 |[]=>List.suffix_refl _
 |c::r=>by
  unfold past;split
  ·exact(Rx p r).trans (Vd c r)
  grind
def Yg(l:Str):Str×Bool:=
 if atS l 0==46&&digB (atS l 1)then(past digB (l.drop 1),false)else(l,true)
def expS(l:Str):Option Str:=
 if atS l 0==101||atS l 0==69 then(if digB (atS (unsign (l.drop 1)) 0)then some (past digB (unsign (l.drop 1)))else none)else none
def Fg(l:Str):Str×Bool:=
 let x:=Yg (past digB (unsign l))
 match expS x.1 with
 |some r=>(r,false)
 |none=>x
def decN(n:Nat)(b:UInt8):Nat:=10*n+(b.toNat - 48)
def upto(l r:Str):Str:=l.take (l.length - r.length)
def mf(m:UInt8):Str->Option Str×Str
 |[]=>(some [],[])
 |c::r=>
  if c==m then(some [],r)
  else if c==10 then(none,c::r)
  else if c==92 then
   (if r.isEmpty then(some [],[])
   else if atS r 0==10 then mf m (r.drop 1)
   else((mf m (ZL r).2).1.map ((ZL r).1++ ·),(mf m (ZL r).2).2))
  else((mf m r).1.map (c:: ·),(mf m r).2)
termination_by l=>l.length
decreasing_by
 all_goals first|(have:=Wj r;simp only[Bb];omega)|(simp only[Bb,Gd];omega)
def badS:Str->Str
 |[]=>[]
 |c::r=>if c==41 then r else if escS (c::r)then badS (ZL r).2 else badS r
termination_by l=>l.length
decreasing_by
 all_goals first|(have:=Wj r;simp only[Bb];omega)|(simp only[Bb];omega)
def unB(b:UInt8):Bool:=decide (b.toNat<=8)||b==11||decide (14<=b.toNat)&&decide (b.toNat<=31)||b==127
def urlS:Str->Option Str×Str
 |[]=>(some [],[])
 |c::r=>
  if c==41 then(some [],r)
  else if spB c then(match past spB r with
   |[]=>(some [],[])
   |d::a=>if d==41 then(some [],a)else(none,badS (d::a)))
  else if c==34||c==39||c==40||unB c||c==92&& !escS (c::r)then(none,badS (c::r))
  else if c==92 then((urlS (ZL r).2).1.map ((ZL r).1++ ·),(urlS (ZL r).2).2)
  else((urlS r).1.map (c:: ·),(urlS r).2)
termination_by l=>l.length
decreasing_by
 all_goals first|(have:=Wj r;simp only[Bb];omega)|(simp only[Bb];omega)
def fA(b:UInt8):Int:=
 if b==58 then 16 else if b==59 then 17 else if b==44 then 18 else if b==91 then 19 else if b==93 then 20 else if b==40 then 21 else if b==41 then 22 else if b==123 then 23 else if b==125 then 24 else 0
def di(k:Int):zf:=⟨k,[],0,[],false⟩
def xH:Nat:=1000000000000
def bR:Nat->Nat->Nat
 |0,n=>n
 |k+1,n=>if n=0\/xH<=n then n else bR k (min xH (10*n))
theorem kv{n:Int}(a: -9223372036854775808<=n)(h2:n<=9223372036854775807):w64 n=n:=Zp a h2
theorem OJ(l:Str)(k n:Nat):atS (l.drop k) n=atS l (k+n):=by
 unfold atS
 grind
theorem zC3{l:Str}{n:Nat}(h:atS l n≠0):n<l.length:=by
 rcases Ce n l.length with a|a
 ·exact a
 ·exact absurd (by unfold atS;grind) h
def valG(n:Nat)(l:Str):Nat:=l.foldl decN n
def d48(k:Nat):UInt8:=UInt8.ofNat (48+k)
def Kh(r:Nat):Str:=Lib.trimRightB [d48 (r / 100),d48 (r / 10%10),d48 (r%10)] 48
def BS(r:Nat):Bool:=(Kh r).all digB&&decide ((Kh r).length<=3)&&decide (valG 0 (Kh r)*10 ^ (3 - (Kh r).length)=r)&&((Kh r).isEmpty==(r==0))&& !((Kh r).getLast? ==some 48)
theorem vS: ∀r,r<1000->BS r=true:=by decide+kernel
def II(r:Nat)(p:Bool):Str:=bif (Kh r).isEmpty then(bif p then [46,48]else [])else 46::Kh r
def zC4(m:Nat)(p:Bool):Str:=Lib.decDigits (m / 1000)++II (m%1000) p
def numT(n:Int)(p:Bool):Str:=(if n<0 then [45]else [])++zC4 n.natAbs p
abbrev tS:zf:=⟨13,[],0,[],false⟩
theorem c1:QF [⟨9,[92],0,[],false⟩]=some 8:=Pz 60 _ _ (by decide+kernel)
theorem c2:QF [⟨2,[85,114,108],0,[],false⟩,tS]=some 8:=Pz 60 _ _ (by decide+kernel)
def partT(r:Nat)(p:Bool):Str:=bif (Kh r).isEmpty then(bif p then [48]else [])else Kh r
theorem fI{r:Nat}(h:r<1000)(p:Bool):(partT r p).all digB=true/\(partT r p).length<=3/\valG 0 (partT r p)*10 ^ (3 - (partT r p).length)=r/\II r p=(bif (partT r p).isEmpty then []else 46::partT r p)/\((partT r p).isEmpty=((r==0)&& !p)):=by
 have f:=vS r h;simp only[BS,Ca,ma,Sb]at f;obtain⟨⟨⟨⟨a,b⟩,c⟩,d⟩,e⟩:=f;unfold partT II;cases g:(Kh r).isEmpty with
 |true=>
  have i:r=0:=by rw[g]at d;exact Sb.1 d.symm
  subst i;cases p<;>refine⟨by decide,by decide,by decide,rfl,rfl⟩
 |false=>
  grind
end Go.Lv.VT
