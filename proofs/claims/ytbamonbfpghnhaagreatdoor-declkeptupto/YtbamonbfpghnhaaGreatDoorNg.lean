/- Names as glue writes them (glue.Name); beside PdWrt. -/
import Derived.Test.YtbamonbfpghnhaaGreatDoorNd
import Derived.Test.YtbamonbfpghnhaaGreatDoorNf
set_option linter.unusedSimpArgs false
set_option linter.unusedVariables false
namespace Go.Lv.VT
set_option maxRecDepth 100000
theorem AV{l:Str}{k:Nat}(hl:l.length<=100000):Vo (l,(k:Int))=some (encW (Vh k l) k l):=by
 unfold Vo;rw[qM (sI (dash:=Vh k l) (k:=k) (l:=l) (acc:=[]) hl (by simp) (fun i a hi ha=> ?_) (fun a=> ?_))]
 ·rfl
 ·have d1:decide ((i:Int)<(l.length:Int))=true:=Ia (by omega);have d2:geti l (i:Int)=some l[i]:=Z8 hi;have d3:decide ((i:Int)>=(k:Int))=(k - i==0):=by
   by_cases h:k<=i
   ·rw[Ia (by omega),show k - i=0 by omega];rfl
   ·rw[Ya (by omega)];symm;rw[Ha];omega
  have d4:((k:Int)==0)=(k==0):=by
   by_cases h:k=0
   ·subst h;rfl
   ·rw[Ha.2 h,Ha];omega
  simp only[d1,Ea,d2,d3,d4,zg,Aa,kJ,XD];have hd:(bif k==0 then true else !(l==[45]))= !Vh k l:=by unfold Vh;cases k==0<;>cases l==[45]<;>rfl
  rw[hd];unfold pcW;cases letB l[i]with
  |false=>
   cases k - i==0<;>simp only[zA,Lb,ja,Uc,Rb,Vb,Ea,Ca,Aa,jl l[i] (show a.length<=1000000000 by omega),zh]
  |true=> cases k - i==0<;>cases digB l[i]<;>cases Vh k l<;>simp only[zA,Lb,ja,Uc,Rb,Vb,Vg,Ke,Cb,Ld,Je,Ea,Ca,Aa,Ju,zB (Tg (show a.length+1<=2000000000 by omega)),jl l[i] (show a.length<=1000000000 by omega),zh]
 ·simp only;rw[Ya (by omega),Ca]
theorem nT{l:Str}(hl:l.length<=1000):Eo l=some (if l.isEmpty|| !Zv l then([],8)else(ZF l,0)):=by
 unfold Eo;simp only[zg,Xr];cases l with
 |nil=>rfl
 |cons c r=>
  rw[show((c::r:Str)==[])=false from rfl];simp only[zA,ja,Ea,Ca,Aa,nD];rw[show(c::r:Str).isEmpty=false from rfl,Ld];cases Zv (c::r)with
  |false=>rfl
  |true=>
   rw[Lb,Ca,Yq];simp only[Aa,AV (show(c::r:Str).length<=100000 by omega)];have hd:Vh (Qr (c::r)) (c::r)=((c::r:Str)==[45]):=by unfold Vh Qr;split<;>rfl
   rw[hd];have:=Wn ((c::r:Str)==[45]) (Qr (c::r)) (c::r);rw[Ya (by omega),Ca,Ya (by omega),Ca];rfl
def sfB(d:UInt8)(y:Str):Prop:=d=58\/d=59\/d=32\/d=33/\atS y 0≠45
structure Sf (d:UInt8) (y:Str):Prop where
 f:fstB d=false
 l:letB d=false
 g:digB d=false
 s:Rf d=false
 a:(d==45)=false
 b:(d==46)=false
 c:(d==92)=false
 n:(d==10)=false
 e:(d==40)=false
 p:(d==37)=false
 m:d≠42
 o:[33,45,45].isPrefixOf (d::y)=false
 x:(d==101||d==69)=false
 k:d≠60/\d≠62
theorem xR{d:UInt8}{y:Str}(h:sfB d y):Sf d y:=by
 rcases h with rfl|rfl|rfl|⟨rfl,h⟩
 ·exact⟨rfl,rfl,rfl,rfl,rfl,rfl,rfl,rfl,rfl,rfl,by decide,rfl,rfl,by decide⟩
 ·exact⟨rfl,rfl,rfl,rfl,rfl,rfl,rfl,rfl,rfl,rfl,by decide,rfl,rfl,by decide⟩
 ·exact⟨rfl,rfl,rfl,rfl,rfl,rfl,rfl,rfl,rfl,rfl,by decide,rfl,rfl,by decide⟩
 ·refine⟨rfl,rfl,rfl,rfl,rfl,rfl,rfl,rfl,rfl,rfl,by decide,?_,rfl,by decide⟩;show((33:UInt8)==33&&[45,45].isPrefixOf y)=false;rw[CJ (by decide) (Ha.2 h),Uc]
theorem Jp{d:UInt8}{y:Str}(h:Sf d y)(q:Str):escS (q++d::y)=escS q:=by
 match q with
 |[]=>show(d==92&&_)=false;rw[h.c];rfl
 |[c]=>show(c==92&& !(d==10))=(c==92&& !((0:UInt8)==10));rw[h.n];rfl
 |c::e::t=>rfl
theorem ik{d:UInt8}{y:Str}(h:Sf d y)(q:Str):nmS (q++d::y)=nmS q:=by
 have h0:escS (d::y)=false:=Jp h []
 match q with
 |[]=> show(if d==45 then _ else fstB d||escS (d::y))=false;rw[h.a,Fa (by decide),h.f,h0];rfl
 |[c]=> unfold nmS;show(if c==45 then fstB d||d==45||escS (d::y)else fstB c||escS ([c]++d::y))=(if c==45 then fstB 0||(0:UInt8)==45||escS []else fstB c||escS [c]);rw[Jp h [c],h0,h.f,h.a];rfl
 |c::e::t=> unfold nmS;show(if c==45 then fstB e||e==45||escS ((e::t)++d::y)else fstB c||escS ((c::e::t)++d::y))=(if c==45 then fstB e||e==45||escS (e::t)else fstB c||escS (c::e::t));rw[Jp h,Jp h]
theorem YC{d:UInt8}{y:Str}(h:Sf d y)(q:Str):digB (atS (q++d::y) 0)=digB (atS q 0):=by
 cases q with
 |nil=>show digB d=false;exact h.g
 |cons c t=>rfl
theorem KF{d:UInt8}{y:Str}(h:Sf d y)(q:Str):unsign (q++d::y)=unsign q++d::y:=by
 cases q with
 |nil=>show(if Rf d then _ else _)=_;rw[h.s];rfl
 |cons c t=>exact(Jk (d::y) (by simp)).1
theorem oU{d:UInt8}{y:Str}(h:Sf d y)(q:Str):undot (q++d::y)=undot q++d::y:=by
 cases q with
 |nil=>show(if d==46 then _ else _)=_;rw[h.b];rfl
 |cons c t=>exact LF (d::y) (by simp)
theorem zCP{d:UInt8}{y:Str}(h:Sf d y)(q:Str):nbS (q++d::y)=nbS q:=by unfold nbS;rw[KF h,oU h,YC h]
theorem vH{d:UInt8}{y m:Str}(hm: ∀b∈m,b≠d): ∀q:Str,m.isPrefixOf (q++d::y)=m.isPrefixOf q:=by
 induction m with
 |nil=>intros;rw[List.isPrefixOf,List.isPrefixOf]
 |cons a m ih=>
  intro q;cases q with
  |nil=> have:(a==d)=false:=Ha.2 (hm a (aa ..));show((a==d)&&m.isPrefixOf y)=false;rw[this];rfl
  |cons b t=>rw[Ra,List.isPrefixOf,List.isPrefixOf,ih (fun b hb=>hm b (Va _ hb))]
theorem zBn{d:UInt8}{y:Str}(h:Sf d y)(q:Str):[60,33,45,45].isPrefixOf (q++d::y)=[60,33,45,45].isPrefixOf q:=by
 have h45:(45:UInt8)≠d:=fun e=>by have:=h.a;rw[<-e]at this;cases this
 match q with
 |[]=> show((60:UInt8)==d&&_)=false;rw[Ha.2 (fun e=>h.k.1 e.symm)];rfl
 |[c]=> show((60:UInt8)==c&&[33,45,45].isPrefixOf (d::y))=((60:UInt8)==c&&false);rw[h.o]
 |c::e::t=> show((60:UInt8)==c&&((33:UInt8)==e&&[45,45].isPrefixOf (t++d::y)))=((60:UInt8)==c&&((33:UInt8)==e&&[45,45].isPrefixOf t));rw[vH (m:=[45,45]) (fun b hb=>by simp only[Ab,Jd,Lf,or_self]at hb;rw[hb];exact h45)]
theorem SS{d:UInt8}{y:Str}(h:Sf d y)(c:UInt8)(r:Str):brS c (r++d::y)=brS c r:=by
 have e:c::(r++d::y)=(c::r)++d::y:=rfl;have h45:(45:UInt8)≠d:=fun e=>by have:=h.a;rw[<-e]at this;cases this
 have hl:letB (atS (r++d::y) 0)=letB (atS r 0):=by
  cases r with
  |nil=>show letB d=false;exact h.l
  |cons c t=>rfl
 unfold brS;rw[e,zCP h,vH (m:=[45,45,62]) (fun b hb=>by
  simp only[Ab,Jd,Lf]at hb;rcases hb with rfl|rfl|rfl
  ·exact h45
  ·exact h45
  ·exact fun e=>h.k.2 e.symm),zBn h,ik h,ik h,hl,Jp h]
theorem zAf{d:UInt8}{y:Str}(hs:Sf d y){c:UInt8}{r:Str}(h:(Zk (c::r)).2≠[]):Zk (c::(r++d::y))=((Zk (c::r)).1,(Zk (c::r)).2++d::y):=by
 refine cu (SS hs c r) h (fun _=>ik hs r) (fun hb=> ?_);rw[ZW,hb,Mi]at h;obtain⟨a,b⟩:=Gy (q:=c::r) (x:=d::y) (mF h) (fun _=>hs.g) (fun hn=>by
  generalize (zY (Hf (c::r))).1=w at hn ⊢;rw[Ui]at hn ⊢;cases w with
  |nil=>show((d==101||d==69)&&_)=false;rw[hs.x];rfl
  |cons c t=>
   show((c==101||c==69)&&digB (atS (unsign (t++d::y)) 0))=false;rw[KF hs,YC hs];exact hn)
 exact⟨a,b,ik hs _⟩
theorem zBp{d:UInt8}{y:Str}(hs:Sf d y){q:Str}(h:cmtS q≠[]):cmtS (q++d::y)=cmtS q++d::y:=by
 refine Oq h ?_;have hp:=Nq q;cases hq:cmtS q with
 |nil=>exact absurd hq h
 |cons c t=>
  cases t with
  |nil=> show((47==c)&&((42==d)&&_))=false;rw[Ha.2 (fun e=>hs.m e.symm),Rb,Uc]
  |cons e u=>rw[XL,<-hq];exact hp
theorem mI{d:UInt8}{y:Str}(hs:Sf d y): ∀{ts:List ze} {q R:Str},run q ts R->R≠[]->run (q++d::y) ts (R++d::y)
 |[],q,R,h,_=>by rw[run]at h;subst h;rfl
 |t::ts,q,R,h,hl=>by
  obtain⟨c,r,h1,h2,h3⟩:=h;have h4:(Zk (c::r)).2≠[]:=by intro e;have:=(Uq h3).length_le;rw[e]at this;exact hl (ae.1 (by simpa using this))
  have h5:=zAf hs h4;refine⟨c,r++d::y,by rw[zBp hs (by rw[h1];simp),h1];rfl,by rw[h5];exact h2,?_⟩;rw[h5];exact mI hs h3 hl
theorem zBm{d:UInt8}{y:Str}(hs:Sf d y){t:ze}(h:zeB t)(hb: ¬(t.kind=9/\t.text=[92]))(hu:ig t=false)(h13:t.kind=13->spB d=false):Zk (txS t++d::y)=(t,d::y):=by
 have hn0:nmS (d::y)=false:=ik hs [];have ha:atS (d::y) 0=d:=rfl;have hnd0:zm (d::y)=([],d::y):=by rw[zN,Fa (by rw[hs.l];decide),Fa (by rw[show escS (d::y)=false from Jp hs []];decide)]
 have e1:past digB (d::y)=d::y:=by rw[past,hs.g];rfl
 have e2:zY (d::y)=(d::y,true):=by unfold zY;rw[ha,hs.b];rfl
 have e3:expS (d::y)=none:=by rw[Ui,ha,hs.x];rfl
 have hnx: ∀(c:UInt8) (r:Str),Zk (c::(r++d::y))=nxB (brS c r) c (r++d::y):=fun c r=>by rw[ZW,SS hs]
 cases h with
 |cId l h0 h=>
  have hn:=Ki h0;have hnd:=QP (d::y) h;rw[hnd0,Ua]at hnd;obtain⟨c,r,e⟩:=Eh (Pi hn);rw[Pk];have hr:=SN h;rw[e]at hn hr hnd ⊢;rw[Ra,hnx,Lu hn (by rw[hr];intro t e;cases e),Ci];unfold qE;rw[show c::(r++d::y)=(c::r)++d::y from rfl,hnd];simp only;rw[ha,hs.e,Fa (by decide)]
 |cFn l h0 h=>rw[Fj];exact aD h0 h (by unfold ig at hu;exact hu) _
 |cAt l h0 h=>
  have hnd:=QP (d::y) h;rw[hnd0,Ua]at hnd;rw[Im,Ra];have hb6:brS 64 (ZF l++d::y)=6:=by unfold brS;rw[ik hs,Ki h0];rfl
  rw[ZW,hb6,mo,hnd]
 |cHash l f h0 h hbb=>
  obtain⟨g1,g2,g3⟩:=AO h0 h hbb;have hnd:=uF (f:=f) h (d::y);rw[hnd0,Ua]at hnd;rw[ym,Ra];have hb2:brS 35 (lg f l)=2:=by unfold brS;rw[g1];rfl
  have hf:nmS (lg f l)=f:=by
   cases f with
   |true=>exact g2 rfl
   |false=>exact g3 rfl
  rw[hnx,hb2,ek,hnd,ik hs,hf]
 |cStr l h=>rw[Il];exact Uz h _
 |cUrl l h=>rw[Um];exact sD h _
 |cDel c h=>
  have h92:c≠92:=by rintro rfl;exact hb ⟨rfl,rfl⟩
  rw[Ym,Ra,hnx,XI c h h92,ko,Nb]
 |cNum n f h1 h2 hf=> have he:=Lp (n:=n) (p:= !f) e1 e2 e3;rw[Bv hf]at he;rw[Wm,um];unfold zG;rw[mr h1 h2 (by rw[he]),he];simp only;rw[hn0,Fa (by decide),ha,hs.p,Fa (by decide)]
 |cPct n h1 h2=>rw[Vm];exact nE h1 h2 _
 |cDim n u f h1 h2 hf h0 h=>
  have hnm:=Tx h0 h;obtain⟨r1,r2⟩:=yx hnm (d::y);have hx:expS (jf u++d::y)=none:=by
   rcases vD h0 h (d::y)with q|⟨e,s,he,hss,_,hu'⟩
   ·exact q
   ·rw[hu',Ui];have:digB (atS (unsign (s++d::y)) 0)=false:=by rw[KF hs,YC hs];rcases hss with rfl|rfl<;>rfl
    show((e==101||e==69)&&digB (atS (unsign (s++d::y)) 0))=false;rw[this,Uc]
  have he:=Lp (n:=n) (p:= !f) r1 r2 hx;rw[Bv hf]at he;rw[Xm,TE,um];unfold zG;rw[mr h1 h2 (by rw[he]),he];simp only;rw[ik hs,hnm,Ga rfl,KA h0 h,hnd0,Ua]
 |cMark k h1 h2=>
  rw[wm h1 h2,kz h1 h2];by_cases hk:k=13
  ·rw[Ga hk,past,h13 hk];rfl
  ·rw[Fa hk]
theorem vS{d:UInt8}{y:Str}(hs:Sf d y){s:Str}{P:List ze}(h:PcT s P)(h13: ∀ts t,P=ts++[t]->t.kind=13->spB d=false):run (s++d::y) P (d::y):=by
 cases h with
 |one t h hb hu=> have hn:=zBm hs h hb hu (h13 [] t rfl);have hp:=Tt (.one t h hb hu) (d::y) hs.m;obtain⟨c,r,e⟩:=Eh (Uh (.one t h hb hu));rw[e]at hn hp ⊢;exact⟨c,r++d::y,Zr hp,by rw[show c::(r++d::y)=(c::r)++d::y from rfl,hn],by rw[show c::(r++d::y)=(c::r)++d::y from rfl,hn];rfl⟩
 |back=> refine⟨92,10::d::y,Zr rfl,by rw[yt],?_⟩;rw[yt];refine⟨10,d::y,Zr rfl,rfl,?_⟩;show past spB (d::y)=d::y;rw[past,h13 [_] tkSp rfl rfl];rfl
 |url l m b h hl hm=>exact ED h hl hm _
theorem zCw{d:UInt8}{y:Str}(hs:Sf d y){b:Str}{ts:List ze}{st:List (List ze×Str)}(h:Syn b ts st)(h13: ∀us t,ts=us++[t]->t.kind=13->spB d=false):run (b++d::y) ts (d::y):=by
 rcases(Lx h).last with⟨_,rfl,rfl⟩|⟨L,B,u,p,R,g1,g2,g3,g4,g5⟩
 ·rfl
 ·have hR:R≠[]:=by intro e;have:=Rm g5 (Uh g1);rw[e]at this;exact this (Zr rfl)
  obtain⟨t1,us1,hp1⟩:=pc_P g1;have hpre:=Tt g1 (d::y) hs.m;have h1:=vS hs g1 (fun us t e=>h13 (L++us) t (by rw[g3,e,La]));rw[g3];refine Xz (mI hs g4 hR) ?_;rw[hp1]at h1 ⊢;exact(BC (EC g5 (Uh g1) hpre) hpre).2 h1
theorem zC2{d:UInt8}{y:Str}(hs:Sf d y){x:List ze}(hr:Ri x)(h13: ∀us t,x=us++[t]->t.kind=13->spB d=false):Ze (wrS x++d::y)=x++Ze (d::y):=by obtain⟨st,h⟩:=iw x.length hr .nil (Xa _);rw[Nb]at h;exact Xl (zCw hs (show Syn (wrS x) x st from h) h13)
theorem Br{c:UInt8}{k:Int}(h1:14<=k)(h2:k<=24)(hc:Uk k=[c])(hp:c≠47)(y:Str):Ze (c::y)=⟨k,[],0,[],false⟩::Ze y:=by have h:=kz (k:=k) (by omega) h2 y;rw[hc,Fa (by omega)]at h;rw[qj (Zr (Dq (Ha.2 hp))),show c::y=[c]++y from rfl,h]
theorem Wx(y:Str):Ze (32::y)=tkSp::Ze (past spB y):=by rw[qj (Zr rfl)];rfl
theorem zAZ{x:List ze}(hr:Ri x)(h: ∀t us,x=t::us->t.kind≠13)(y:Str)(hx:x≠[]):past spB (wrS x++y)=wrS x++y:=by
 have ht:=(RF hr).1;cases hw:wrS x with
 |nil=>rw[hw,Ql (Zr rfl)]at ht;exact absurd ht.symm hx
 |cons c r=>
  cases hc:spB c with
  |false=>rw[Ra,past,hc];rfl
  |true=> exfalso;have hcm:cmtS (c::r)=c::r:=Zr (Dq (Ha.2 (by rintro rfl;cases hc)));rw[hw,qj hcm]at ht;refine h _ _ ht.symm ?_;rw[ZW,show brS c r=0 by unfold brS;rw[hc];rfl,Nw];rfl
def okT(x:List ze):Prop:= ∀t∈x,t.text.length<=5000/\t.unit.length<=5000
structure OkD (d:zI):Prop where
 v:szL d.value<=big
 n:d.name.length<=big
 t:okT (tokL d.value)
theorem oI{x:List ze}(hg:gluS x=0)(h:okT x):Ri x:=by obtain⟨_,h1,h2⟩:=uK hg;exact⟨fun t ht=>⟨h1 t ht,h t ht⟩,h2⟩
theorem zCA{v:List zb}(hv:szL v<=big)(h:errS v=0)(hg:gluS (tokL v)=0)(ht:okT (tokL v)):yn v=some (if 4000<(wrS (tokL v)).length then([],28)else(wrS (tokL v),0)):=by unfold yn;simp only[zg,AA hv,h,Aa];rw[show((0:Int) != 0)=false from rfl,Ca,BL hv,Aa,PW ht,Ga hg,Aa]
abbrev impT:Str:=[32,33,105,109,112,111,114,116,97,110,116]
def wrD(d:zI):Str:=ZF d.name++([58,32]:Str)++wrS (tokL d.value)++(bif d.important then impT else [])
def Fh(d:zI):Str×Int:=if Q3 d=true then(if 4000<(wrD d).length then([],28)else(wrD d,0))else([],8)
structure zCJ (d:zI):Prop where
 name:Tk d.name=true
 err:errS d.value=0
 glu:gluS (tokL d.value)=0
 body:Bt (List.isPrefixOf [45,45] d.name) d.value=true
theorem Gl{d:zI}(h:Q3 d=true):zCJ d:=by unfold Q3 at h;simp only[Da,Fb]at h;exact⟨h.1,h.2.1,h.2.2.1,h.2.2.2.2⟩
theorem sw{x:Str}(h:Tk x=true):x≠[]/\x.length<=64/\Zv x=true/\(bif List.isPrefixOf [45,45] x then !(x==[45,45])else lowS x==x)=true:=by unfold Tk at h;simp only[Da,Yc,Ha,Eb]at h;exact⟨h.1,h.2.1,h.2.2.1,h.2.2.2⟩
theorem SY(l:Str):(ZF l).length<=4*l.length:=Wn _ _ l
theorem u6{d:zI}(h:OkD d):Yn d=some (Fh d):=by
 have hbig:big=4194304:=rfl;unfold Yn Fh;rw[MQ h.v h.n];simp only[zg,Aa];cases hd:Q3 d with
 |false=>rw[Ca,Fa (by decide)];rfl
 |true=>
  obtain⟨h1,h2,h3,_⟩:=Gl hd;obtain⟨n1,n2,n3,_⟩:=sw h1;have hne:d.name.isEmpty=false:=by cases hx:d.name with|nil=>exact absurd hx n1|cons a b=>rfl
  have hl:=SY d.name;rw[Ea,Ga rfl,show((0:Int) != 0)=false from rfl,Ca,nT (by omega),hne,n3];simp only[Lb,Bool.or_self,Sb,Od,Aa,show((0:Int) != 0)=false from rfl,Ca,zCA h.v h2 h3 h.t];by_cases hw:4000<(wrS (tokL d.value)).length
  ·have:4000<(wrD d).length:=by unfold wrD;rw[Ja,Ja];omega
   rw[Ga hw,Ga this];rfl
  ·rw[Fa hw];have c1:df (ZF d.name).length ([58,32]:Str).length=true:=QH.2 (by simp only[Ka,Ob];omega);have c2:df (ZF d.name++([58,32]:Str)).length (wrS (tokL d.value)).length=true:=QH.2 (by simp only[Ja,Ka,Ob];omega);have c3:df (ZF d.name++([58,32]:Str)++wrS (tokL d.value)).length impT.length=true:=QH.2 (by simp only[Ja,Ka,Ob];omega);simp only[show((0:Int) != 0)=false from rfl,Ca,c1,c2,c3,zU];have hg: ∀n:Nat,decide ((n:Int)>4000)=decide (4000<n):=fun n=>by rw[decide_eq_decide];omega
   unfold wrD;cases d.important with
   |true=>
    simp only[Ea,zh,hg];by_cases q:4000<(ZF d.name++([58,32]:Str)++wrS (tokL d.value)++impT).length
    ·rw[Ia q,Ga q];rfl
    ·rw[Ya q,Fa q];rfl
   |false=>
    simp only[Ca,zh,hg,Ua];by_cases q:4000<(ZF d.name++([58,32]:Str)++wrS (tokL d.value)).length
    ·rw[Ia q,Ga q];rfl
    ·rw[Ya q,Fa q];rfl
def Fg(l:List zI):Str:=(l.map fun d=>([59,32]:Str)++wrD d).flatten
def qG:List zI->Str
 |[]=>[]
 |d::r=>wrD d++Fg r
theorem zBE(l:List zI):Lib.join (l.map wrD) [59,32]=qG l:=by
 cases l with
 |nil=>rfl
 |cons d r=> rw[Gc,Lib.join_cons,qG];unfold Lib.joinTail Fg;rw[List.map_map];rfl
theorem xI{M:Nat}: ∀l:List Str,(∀x∈l,x.length<=M)->(Lib.joinTail [59,32] l).length<=(M+2)*l.length
 |[],_=>Xa _
 |x::r,h=>by have h1:=xI r (fun y hy=>h y (Va _ hy));have h2:=h x (aa ..);have e:Lib.joinTail [59,32] (x::r)=(([59,32]:Str)++x)++Lib.joinTail [59,32] r:=rfl;have e3:(M+2)*(x::r).length=(M+2)*r.length+(M+2):=Nat.mul_succ ..;rw[e,e3,Ja,Ja];simp only[Ka,Ob];omega
theorem dU{M:Nat}(l:List Str)(h: ∀x∈l,x.length<=M):(Lib.join l [59,32]).length<=(M+2)*l.length:=by
 cases l with
 |nil=>exact ib _
 |cons x r=> have h1:=xI r (fun y hy=>h y (Va _ hy));have h2:=h x (aa ..);have e3:(M+2)*(x::r).length=(M+2)*r.length+(M+2):=Nat.mul_succ ..;rw[Lib.join_cons,Ja,e3];omega
theorem oL{d:zI}: ∀{l:List zI},d∈l->(wrD d).length<=(Fg l).length
 |x::r,h=>by
  have e:Fg (x::r)=(([59,32]:Str)++wrD x)++Fg r:=rfl;rw[e,Ja,Ja];rcases Ab.1 h with rfl|h
  ·omega
  ·have:=oL h;omega
theorem UV{d:zI}{l:List zI}(h:d∈l):(wrD d).length<=(qG l).length:=by
 cases l with
 |nil=>cases h
 |cons x r=>
  rw[qG,Ja];rcases Ab.1 h with rfl|h
  ·omega
  ·have:=oL h;omega
def Xi(d:zI):Bool:=decide (4000<(wrD d).length)
def Gj(l:List zI):Str×Int:=if 32<l.length then([],4)else if l.all Q3=true then(if 4000<(qG l).length then([],28)else(qG l,0))else([],8)
theorem yE{d:zI}(h:Q3 d=true):Fh d=if Xi d=true then([],28)else(wrD d,0):=by
 unfold Fh Xi;rw[Ga h];by_cases q:4000<(wrD d).length
 ·rw[Ga q,Ia q,Ga rfl]
 ·rw[Fa q,Ya q,Fa (by decide)]
theorem IK{l:List zI}(h: ∀d∈l,OkD d):Dj l=some (Gj l):=by
 have hbig:big=4194304:=rfl;unfold Dj;by_cases h32:32<l.length
 ·rw[Ia (by omega),Ea];unfold Gj;rw[Ga h32]
 ·rw[Ya (by omega),Ca];refine mq (fun z=> ∃i:Nat,z=(((l.take i).any Xi,(i:Int)),(l.take i).map (fun d=>(Fh d).1))/\i<=l.length/\(l.take i).all Q3=true) (fun z=>l.length - z.1.2.toNat) _ ?_ ⟨0,rfl,ib _,rfl⟩;rintro _ ⟨i,rfl,hi,ha⟩;rcases Gd i l.length with hh|hh
  ·have hd:=u6 (h _ (Jc hh));have hw:w64 ((i:Int)+1)=((i+1:Nat):Int):=qB hh (by omega);have hap:zF ((l.take i).map (fun d=>(Fh d).1)).length 1 16=true:=Ai (by rw[Kb,Nc];omega);simp only[Qx hh,Ea,Z8 hh,zg,Aa,hd];cases hs:Q3 l[i]with
   |false=>
    refine .inr (.inr ?_);have e:Fh l[i]=([],8):=by unfold Fh;rw[hs,Fa (by decide)]
    have hall:l.all Q3=false:=by rw[List.all_eq_false];exact⟨_,Jc hh,by rw[hs];decide⟩
    rw[e];unfold Gj;rw[Fa h32,hall,Fa (by decide)];rfl
   |true=>
    refine .inl ⟨_,?_,⟨i+1,rfl,hh,?_⟩,by simp only[Bb];omega⟩
    ·have e:=yE hs;have h8:((Fh l[i]).2==8)=false:=by rw[e];cases Xi l[i]<;>rfl
     have h0:((Fh l[i]).2 != 0)=Xi l[i]:=by rw[e];cases Xi l[i]<;>rfl
     rw[h8,Ca,zB hap,h0,hw,Dc hh,List.any_append,Ve];simp only[List.any_cons,List.any_nil,Ke,Gc,Ug,fD]
    ·rw[Dc hh,List.all_append,ha,Rc,hs];rfl
  ·have:i=l.length:=by omega
   subst this;rw[Ff]at ha ⊢;refine .inr (.inl ⟨(l.any Xi,l.map (fun d=>(Fh d).1)),?_,?_⟩)
   ·simp only[Wj,Ca]
   ·have hall: ∀d∈l,Q3 d=true:=Pb.1 ha;have hM: ∀x∈l.map (fun d=>(Fh d).1),x.length<=4000:=by
     intro x hx;obtain⟨d,hd,rfl⟩:=Ib.1 hx;rw[yE (hall d hd)];unfold Xi;by_cases q:4000<(wrD d).length
     ·rw[Ia q,Ga rfl];exact ib _
     ·rw[Ya q,Fa (by decide)];exact Nat.le_of_not_lt q
    have hle:=dU _ hM;rw[Kb]at hle;have hn:(Nat.ble (l.map (fun d=>(Fh d).1)).length 1000000&&Nat.ble (Lib.join (l.map (fun d=>(Fh d).1)) [59,32]).length 1000000000)=true:=by rw[Da,Nat.ble_eq,Nat.ble_eq,Kb];have:(4000+2)*l.length<=(4000+2)*32:=Nat.mul_le_mul_left _ (by omega);omega
    unfold ak Gj;simp only;rw[zB hn,Fa h32,ha,Ga rfl];simp only[Aa];cases hb:l.any Xi with
    |true=> obtain⟨d,hd,hl⟩:=List.any_eq_true.1 hb;have h1:=UV hd;unfold Xi at hl;rw[Eb]at hl;rw[Ga (show 4000<(qG l).length by omega)];rfl
    |false=>
     have he:l.map (fun d=>(Fh d).1)=l.map wrD:=Jf fun d hd=>by rw[yE (hall d hd),Fa (List.any_eq_false.1 hb d hd)]
     rw[he,zBE,Ca];by_cases q:4000<(qG l).length
     ·rw[Ga q,Ia (by omega)];rfl
     ·rw[Fa q,Ya (by omega)];rfl
abbrev leaf(t:ze):zb:=⟨t,[]⟩
abbrev tkId(n:Str):ze:=⟨1,n,0,[],false⟩
abbrev Eg:ze:=⟨16,[],0,[],false⟩
abbrev Nj:ze:=⟨17,[],0,[],false⟩
abbrev yg:ze:=⟨9,[33],0,[],false⟩
def sfx(y:Str):Prop:=y=[]\/ ∃d z,y=d::z/\sfB d z
theorem lI(z:Str):sfx (59::z):= .inr ⟨_,_,rfl, .inr (.inl rfl)⟩
theorem zCp(z:Str):sfx (32::z):= .inr ⟨_,_,rfl, .inr (.inr (.inl rfl))⟩
theorem Gx:Ze []=[]:=Ql (Zr rfl)
theorem zCa{s y:Str}{P:List ze}(h:PcT s P)(h13: ∀ts t,P=ts++[t]->t.kind≠13)(hy:sfx y):Ze (s++y)=P++Ze y:=by
 rcases hy with rfl|⟨d,z,rfl,hs⟩
 ·rw[Ua,Sy h,Gx,Ua]
 ·exact Xl (vS (xR hs) h fun ts t e q=>absurd q (h13 ts t e))
theorem mH{x:List ze}{y:Str}(hr:Ri x)(h13: ∀ts t,x=ts++[t]->t.kind≠13)(hy:sfx y):Ze (wrS x++y)=x++Ze y:=by
 rcases hy with rfl|⟨d,z,rfl,hs⟩
 ·rw[Ua,(RF hr).1,Gx,Ua]
 ·exact zC2 (xR hs) hr fun ts t e q=>absurd q (h13 ts t e)
theorem zCN{n:Str}(h0:n≠[])(h:Zv n=true):PcT (ZF n) [tkId n]:=by
 have:=PcT.one (tkId n) (.cId n h0 h) (fun e=>by cases e.1) rfl
 rwa [Pk]at this
theorem zB2{t:ze}(h:t.kind≠13): ∀ts u,[t]=ts++[u]->u.kind≠13:=by
 intro ts u e;cases ts with
 |nil=>injection e with e _;rw[<-e];exact h
 |cons a b=>have:=congrArg List.length e;simp at this
theorem UD{n y:Str}(h0:n≠[])(h:Zv n=true)(hy:sfx y):Ze (ZF n++y)=tkId n::Ze y:=zCa (zCN h0 h) (zB2 (show(1:Int)≠13 by decide)) hy
structure zA8 (v:List zb):Prop where
 r:Ri (tokL v)
 h:og v
 e:Jg v
theorem jW(v:zb)(hv:isSp v=false): ∃us t,tokV v=us++[t]/\t.kind≠13:=by
 rw[Rj];by_cases h:zx v.token.kind=0
 ·rw[Ga h];exact⟨[],_,rfl,fun e=>by unfold isSp at hv;rw[e]at hv;cases hv⟩
 ·rw[Fa h,<-Ra];refine⟨_,_,rfl,?_⟩;show zx v.token.kind≠13;unfold zx;split
  ·decide
  split
  ·decide
  split
  ·decide
  ·decide
theorem gU{v:List zb}(h:Jg v): ∀ts t,tokL v=ts++[t]->t.kind≠13:=by
 intro ts t e;rcases Q7 v with rfl|⟨q,z,rfl⟩
 ·rw[tokL]at e;have:=congrArg List.length e;simp at this
 ·obtain⟨us,u,h1,h2⟩:=jW z (h q z rfl);rw[wh,Pz,h1,<-La]at e;have:=List.append_inj_right' e rfl;injection this with this _;rw[<-this];exact h2
theorem iU{v:List zb}(h:og v): ∀t us,tokL v=t::us->t.kind≠13:=by
 intro t us e q;cases v with
 |nil=>rw[tokL]at e;cases e
 |cons a r=> rw[tokL,Rj,Ra]at e;injection e with e _;have:=h a r rfl;unfold isSp at this;rw[e,q]at this;cases this
theorem zAR{v:List zb}(h:v≠[]):tokL v≠[]:=by
 cases v with
 |nil=>exact absurd rfl h
 |cons a r=>rw[tokL,Rj];simp
theorem JL{n y:Str}{v:List zb}(h0:n≠[])(hn:Zv n=true)(hv:zA8 v)(hy:sfx y):
  Ze (ZF n++58::32::(wrS (tokL v)++y))=tkId n::Eg::tkSp::(tokL v++Ze (if v=[]then past spB y else y)):=by
 rw[UD h0 hn (.inr ⟨_,_,rfl, .inl rfl⟩),Br (k:=16) (by decide) (by decide) rfl (by decide),Wx];by_cases h:v=[]
 ·subst h;rw[Ga rfl,tokL];rfl
 ·rw[Fa h,zAZ hv.r (iU hv.h) y (zAR h),mH hv.r (gU hv.e) hy]
theorem WV:ZF impW=impW:=by decide+kernel
theorem pY(y:Str)(h:atS y 0≠45):Ze (33::y)=yg::Ze y:=by
 have hn:Zk (33::y)=(yg,y):=by
  have:brS 33 y=8:=by unfold brS;rfl
  rw[ZW,this,ko]
 rw[qj (Zr (Dq rfl)),hn]
theorem VV{y:Str}(hy:sfx y):Ze (impW++y)=tkId impW::Ze y:=by
 have:=UD (n:=impW) (by decide) (by decide) hy
 rwa [WV]at this
def preV(v:List zb):List zb:=if v=[]then []else [vSp]
theorem zCi(v:List zb):preV v=[]\/preV v=[vSp]:=by unfold preV;split;exact .inl rfl;exact .inr rfl
def impV(d:zI):List zb:=bif d.important then preV d.value++[leaf yg,leaf (tkId impW)]else []
def vlD(d:zI):List zb:=leaf (tkId d.name)::leaf Eg::vSp::(d.value++impV d)
def tailV(l:List zI):List zb:=(l.map fun d=>[leaf Nj,vSp]++vlD d).flatten
def valJ:List zI->List zb
 |[]=>[]
 |d::r=>vlD d++tailV r
theorem Ej{t:ze}(h:zx t.kind=0)(r:List zb):tokL (leaf t::r)=t::tokL r:=by rw[tokL,tokV,Ga h];rfl
theorem TM{v:List zb}(h:uk v=false):og v/\Jg v:=by
 constructor
 ·rintro a t rfl;rw[show uk (a::t)=(isSp a||_)from rfl,Mc]at h;exact h.1
 ·rintro t a rfl;rw[VZ,Mc]at h;exact h.2
theorem val_ok{d:zI}(h:Q3 d=true)(ht:okT (tokL d.value)):zA8 d.value:=by obtain⟨_,_,h3,h4⟩:=Gl h;unfold Bt at h4;simp only[Da,Yc]at h4;obtain⟨a,b⟩:=TM h4.2.2;exact⟨oI h3 ht,a,b⟩
theorem oz{d:zI}(h:Q3 d=true)(ht:okT (tokL d.value)){y:Str}(hy:y=[]\/ ∃z,y=59::z):Ze (wrD d++y)=tokL (vlD d)++Ze y:=by
 have hv:=val_ok h ht;obtain⟨n1,_,n3,_⟩:=sw (Gl h).name;have hs:sfx y:=by rcases hy with rfl|⟨z,rfl⟩;exact .inl rfl;exact lI z
 have hp:past spB y=y:=by rcases hy with rfl|⟨z,rfl⟩<;>rfl
 have e: ∀w:Str,ZF d.name++([58,32]:Str)++wrS (tokL d.value)++w=ZF d.name++58::32::(wrS (tokL d.value)++w):=fun w=>by simp
 unfold wrD vlD impV;rw[Ej rfl,Ej rfl,Ej rfl,La,e];cases d.important with
 |false=> rw[Ca,Ca,Nb,Ua,JL n1 n3 hv hs,hp,ite_self];rfl
 |true=>
  rw[Ea,Ea,show impT++y=32::33::(impW++y)from rfl,JL n1 n3 hv (zCp _)];have hb:Ze (33::(impW++y))=yg::tkId impW::Ze y:=by rw[pY (impW++y) (show(105:UInt8)≠45 by decide),VV hs]
  rw[wh,wh];unfold preV;by_cases hz:d.value=[]
  ·rw[Ga hz,Ga hz,show past spB (32::33::(impW++y))=33::(impW++y)from rfl,hb,hz];rfl
  ·rw[Fa hz,Fa hz,Wx,show past spB (33::(impW++y))=33::(impW++y)from rfl,hb];show _=(tkId d.name::Eg::tkSp::(tokL d.value++([tkSp]++[yg,tkId impW])))++Ze y;simp
theorem YK{d:zI}(h:Q3 d=true)(y:Str):past spB (wrD d++y)=wrD d++y:=by obtain⟨n1,_,_,_⟩:=sw (Gl h).name;have hn:=Ki n1;obtain⟨c,r,e⟩:=Eh (Pi hn);have h1:=(Ep (Dm hn)).1;unfold wrD;rw[e]at h1 ⊢;show past spB (c::_)=c::_;rw[past,show spB c=false from h1];rfl
theorem lM: ∀{l:List zI},(∀d∈l,Q3 d=true/\okT (tokL d.value))->Ze (Fg l)=tokL (tailV l)
 |[],_=>Gx
 |d::r,h=>by
  have e:Fg (d::r)=59::32::(wrD d++Fg r):=rfl;have e2:tailV (d::r)=leaf Nj::vSp::(vlD d++tailV r):=rfl;obtain⟨h1,h2⟩:=h d (aa ..);have ih:=lM (l:=r) (fun x hx=>h x (Va _ hx));have hy:Fg r=[]\/ ∃z,Fg r=59::z:=by cases r with|nil=>exact .inl rfl|cons a b=>exact .inr ⟨_,rfl⟩
  rw[e,e2,Br (k:=17) (by decide) (by decide) rfl (by decide),Wx,YK h1,oz h1 h2 hy,ih,Ej rfl,Ej rfl,wh]
theorem YY{l:List zI}(h: ∀d∈l,Q3 d=true/\okT (tokL d.value)):Ze (qG l)=tokL (valJ l):=by
 cases l with
 |nil=>rw[qG,valJ,tokL,Gx]
 |cons d r=>
  obtain⟨h1,h2⟩:=h d (aa ..);have hy:Fg r=[]\/ ∃z,Fg r=59::z:=by cases r with|nil=>exact .inl rfl|cons a b=>exact .inr ⟨_,rfl⟩
  rw[qG,valJ,oz h1 h2 hy,lM (fun x hx=>h x (Va _ hx)),wh]
theorem cl_D{d:zI}(h:Q3 d=true)(ht:okT (tokL d.value)):clB (wrD d)=true:=by unfold wrD;rw[qm,qm,qm,show clB (ZF d.name)=true from Yj _ _ _,(RF (val_ok h ht).r).2];cases d.important<;>rfl
theorem NK: ∀{l:List zI},(∀d∈l,Q3 d=true/\okT (tokL d.value))->clB (Fg l)=true
 |[],_=>rfl
 |d::r,h=>by obtain⟨h1,h2⟩:=h d (aa ..);have e:Fg (d::r)=([59,32]:Str)++(wrD d++Fg r):=rfl;rw[e,qm,qm,cl_D h1 h2,NK (fun x hx=>h x (Va _ hx))];rfl
theorem PK{l:List zI}(h: ∀d∈l,Q3 d=true/\okT (tokL d.value)):clB (qG l)=true:=by
 cases l with
 |nil=>rfl
 |cons d r=> obtain⟨h1,h2⟩:=h d (aa ..);rw[qG,qm,cl_D h1 h2,NK (fun x hx=>h x (Va _ hx))];rfl
structure Shp (v:List zb):Prop where
 s:shL v 0=true
 d:Qm v<=16
theorem wY(a b:List zb):Qm (a++b)=max (Qm a) (Qm b):=by
 induction a with
 |nil=>rw[Nb,Qm];omega
 |cons v a ih=>rw[Ra,Qm,Qm,ih];omega
theorem Shp.app{a b:List zb}(ha:Shp a)(hb:Shp b):Shp (a++b):=⟨by rw[LJ,ha.s,hb.s];rfl,by rw[wY];have:=ha.d;have:=hb.d;omega⟩
theorem Dn:Shp []:=⟨by rw[shL],by rw[Qm];exact ib _⟩
theorem Ti{t:ze}(h:zx t.kind=0){r:List zb}(hr:Shp r):Shp (leaf t::r):=by
 refine⟨?_,?_⟩
 ·rw[shL,hr.s,shV,h];rfl
 ·rw[Qm,Bh,Ga h];have:=hr.d;omega
theorem zAN{v:List zb}(h:errS v=0):Shp v:=⟨(SE h).2.2,(SE h).1⟩
theorem KJ{d:zI}(h:errS d.value=0):Shp (vlD d):=by
 unfold vlD impV;refine Ti rfl (Ti rfl (Ti rfl ((zAN h).app ?_)));cases d.important with
 |false=>exact Dn
 |true=>
  rw[Ea];refine Shp.app ?_ (Ti rfl (Ti rfl Dn));unfold preV;split
  ·exact Dn
  ·exact Ti rfl Dn
theorem xL: ∀{l:List zI},(∀d∈l,errS d.value=0)->Shp (tailV l)
 |[],_=>Dn
 |d::r,h=>by have e2:tailV (d::r)=leaf Nj::vSp::(vlD d++tailV r):=rfl;rw[e2];exact Ti rfl (Ti rfl ((KJ (h d (aa ..))).app (xL fun x hx=>h x (Va _ hx))))
theorem FL{l:List zI}(h: ∀d∈l,errS d.value=0):Shp (valJ l):=by
 cases l with
 |nil=>exact Dn
 |cons d r=>exact(KJ (h d (aa ..))).app (xL fun x hx=>h x (Va _ hx))
theorem nV{v:List zb}(h:Shp v):parS (tokL v)=if 1500<(tokL v).length then([],4)else(v,0):=by
 by_cases q:1500<(tokL v).length
 ·rw[Ga q];unfold parS;rw[Ga q]
 ·rw[Fa q];refine jX ?_;unfold errS;rw[Fa (by have:=h.d;omega),Fa q,Ga h.s]
theorem fF(k:Int): ∀(l:List zb) (a:List (List zb)) (c:List zb),(∀x∈l,(x.token.kind==k)=false)->l.foldl (Tf k) (a,c)=(a,c++l)
 |[],a,c,_=>by rw[Ua];rfl
 |v::l,a,c,h=>by rw[Xc];unfold Tf;rw[h v (aa ..),Fa (by decide)];have:=fF k l a (c++[v]) (fun x hx=>h x (Va _ hx));unfold Tf at this;rw[this,La];rfl
theorem ou(k:Int): ∀(l:List zb) (a:List (List zb)) (c:List zb),l.foldl (Tf k) (a,c)=(a++(l.foldl (Tf k) ([],c)).1,(l.foldl (Tf k) ([],c)).2)
 |[],a,c=>by simp
 |v::l,a,c=>by
  rw[Xc,Xc];cases h:v.token.kind==k with
  |true=>
   have e: ∀b,Tf k (b,c) v=(b++[c],[]):=fun b=>by unfold Tf;rw[h];rfl
   rw[e,e,ou k l (a++[c]) [],ou k l ([]++[c]) []];simp
  |false=>
   have e: ∀b,Tf k (b,c) v=(b,c++[v]):=fun b=>by unfold Tf;rw[h];rfl
   rw[e,e,ou k l a (c++[v])]
theorem sW{k:Int}{p:List zb}(h: ∀x∈p,(x.token.kind==k)=false):Dg k p=[p]:=by unfold Dg Uf;rw[fF k p [] [] h];rfl
theorem aN{k:Int}{p v:List zb}{s:zb}(h: ∀x∈p,(x.token.kind==k)=false)(hs:(s.token.kind==k)=true):Dg k (p++s::v)=p::Dg k v:=by
 unfold Dg Uf;rw[af,fF k p [] [] h,Xc];have e:Tf k ([],[]++p) s=([p],[]):=by unfold Tf;rw[hs];rfl
 rw[e,ou k v [p] []];simp
theorem rH{d:zI}(h:Q3 d=true):(∀x∈d.value,badV x=false)/\og d.value/\Jg d.value:=by have h4:=(Gl h).body;unfold Bt at h4;simp only[Da,Yc]at h4;obtain⟨a,b⟩:=TM h4.2.2;exact⟨fun x hx=>by have:=List.any_eq_false.1 h4.1 x hx;simpa using this,a,b⟩
theorem NS{d:zI}(h: ∀x∈d.value,badV x=false): ∀x∈vlD d,(x.token.kind==17)=false:=by
 intro x hx;unfold vlD impV at hx;simp only[Ab,Tc]at hx;rcases hx with rfl|rfl|rfl|hx|hx
 ·rfl
 ·rfl
 ·rfl
 ·have:=h x hx;unfold badV at this;rw[Mc]at this;exact this.1
 ·cases hi:d.important with
  |false=>rw[hi]at hx;cases hx
  |true=>
   rw[hi,Ea]at hx;simp only[Tc,Ab,Jd,Lf]at hx;rcases hx with hx|rfl|rfl
   ·unfold preV at hx;split at hx
    ·cases hx
    ·rw[Td.1 hx];rfl
   ·rfl
   ·rfl
def yH(l:List zI):List (List zb):=l.map fun d=>vSp::vlD d
theorem YN: ∀{l:List zI},(∀d∈l,∀x∈d.value,badV x=false)-> ∀{p:List zb},(∀x∈p,(x.token.kind==17)=false)->Dg 17 (p++tailV l)=p::yH l
 |[],_,p,hp=>by rw[show tailV []=[]from rfl,Ua,sW hp];rfl
 |d::r,h,p,hp=>by
  have e2:tailV (d::r)=leaf Nj::((vSp::vlD d)++tailV r):=rfl;have hd:=NS (h d (aa ..));rw[e2,aN hp rfl,YN (fun x hx=>h x (Va _ hx)) (p:=vSp::vlD d) (fun x hx=>by
   rcases Ab.1 hx with rfl|hx
   ·rfl
   ·exact hd x hx)]
  rfl
theorem rU(p:List zb):trimS (vSp::p)=trimS p:=rfl
theorem KX{v:zb}(h:badV v=false):Lm v=false:=by unfold badV at h;rw[Mc]at h;exact h.2
theorem VY{v:List zb}(h: ∀x∈v,badV x=false):Hg v=(v,false):=by
 unfold Hg;split
 ·rfl
 ·rename_i t z he;have hv:=wz he;cases !t.isEmpty&&(z.token.kind==1&&lowS z.token.text==impW)with
  |false=>rfl
  |true=>
   rw[Ea];split
   ·rfl
   ·rename_i u b hb;have h2:=wz hb;have:b∈v:=by rw[hv];refine Md _ ((bn t).subset ?_);rw[h2];simp
    rw[KX (h b this)];rfl
theorem TY{v p:List zb}{m:Str}(hp:p=[]\/p=[vSp])(he:Jg v)(hm:lowS m=impW): ∀{q:List zb},q=[]\/q=[vSp]->Hg (v++p++[leaf yg]++q++[leaf (tkId m)])=(v,true):=by
 intro q hq;unfold Hg;rw[Ev];have h1:(v++p++[leaf yg]++q).isEmpty=false:=by cases v<;>cases p<;>rfl
 have h2:trimB (v++p++[leaf yg]++q)=v++p++[leaf yg]:=by
  have h3:trimB (v++p++[leaf yg])=v++p++[leaf yg]:=by rw[Oo];rfl
  rcases hq with rfl|rfl
  ·rw[Ua,h3]
  ·rw[Oo,Ga (show isSp vSp=true from rfl),h3]
 simp only[h1,hm,h2,Ev];have h4:trimB (v++p)=v:=by
  rcases hp with rfl|rfl
  ·rw[Ua,he.id]
  ·rw[Oo,Ga (show isSp vSp=true from rfl),he.id]
 rw[show(!false&&((1:Int)==1&&impW==impW))=true from rfl,Ea,show Lm (leaf yg)=true from rfl,Ea,h4]
theorem zAh{n:Str}(h:Tk n=true):nmD n=n:=by
 have:=(sw h).2.2.2;unfold nmD;cases hp:List.isPrefixOf [45,45] n with
 |true=>rfl
 |false=>rw[hp,Ca]at this;rw[Ca];exact Fb.1 this
theorem iL{n:Str}{B W:List zb}{v:List zb}(hB:trimS (leaf (tkId n)::leaf Eg::vSp::B)=leaf (tkId n)::leaf Eg::W)(hW:W.dropWhile isSp=v)(hm: ∀w,Hg v=w->Q3 ⟨nmD n,w.1,w.2⟩=true):
  oneS (leaf (tkId n)::leaf Eg::vSp::B)=(⟨nmD n,(Hg v).1,(Hg v).2⟩,true):=by
 unfold oneS;rw[hB];have e:(leaf Eg::W).dropWhile isSp=leaf Eg::W:=rfl;have h:=hm _ rfl;simp only[e,hW,h];rfl
theorem dW{n:Str}{B:List zb}(h:Jg B)(h0:B≠[]):trimS (leaf (tkId n)::leaf Eg::vSp::B)=leaf (tkId n)::leaf Eg::vSp::B:=by
 refine dK (fun a t e=>by cases e;rfl) (fun t a e=> ?_);rcases Q7 B with rfl|⟨u,z,rfl⟩
 ·exact absurd rfl h0
 ·have e2:(leaf (tkId n)::leaf Eg::vSp::(u++[z]))=(leaf (tkId n)::leaf Eg::vSp::u)++[z]:=rfl;rw[e2]at e;have:=List.append_inj_right' e rfl;injection this with this _;rw[<-this];exact h u z rfl
theorem jL{n:Str}{B:List zb}(hh:og B)(he:Jg B)(hm: ∀w,Hg B=w->Q3 ⟨nmD n,w.1,w.2⟩=true):
  oneS (leaf (tkId n)::leaf Eg::vSp::B)=(⟨nmD n,(Hg B).1,(Hg B).2⟩,true):=by
 by_cases h0:B=[]
 ·subst h0;exact iL (W:=[]) rfl rfl hm
 ·exact iL (W:=vSp::B) (dW he h0) (by rw[Xd,Ga (show isSp vSp=true from rfl),hh.id]) hm
theorem kW{B:List zb}{t:ze}(h:isSp (leaf t)=false):Jg (B++[leaf t]):=by intro u z e;have:=List.append_inj_right' e rfl;injection this with this _;rw[<-this];exact h
theorem JV:lowS impW=impW:=rJ
theorem vC{d:zI}(h:Q3 d=true):oneS (vlD d)=(d,true):=by
 obtain⟨h1,h2,h3⟩:=rH h;have hn:=zAh (Gl h).name;unfold vlD impV;obtain⟨n,v,i⟩:=d;simp only at h1 h2 h3 hn ⊢;cases i with
 |false=> rw[Ca,Ua];have hm:=VY h1;rw[jL h2 h3 (fun w hw=>by rw[hm]at hw;rw[<-hw,hn];exact h),hm,hn]
 |true=>
  rw[Ea];have e:v++(preV v++[leaf yg,leaf (tkId impW)])=v++preV v++[leaf yg]++[]++[leaf (tkId impW)]:=by simp
  have hm:=TY (zCi v) h3 JV (.inl rfl:([]:List zb)=[]\/_);rw[e];have h5:=jL (n:=n) (B:=v++preV v++[leaf yg]++[]++[leaf (tkId impW)]) ?_ (kW rfl) (fun w hw=>by rw[hm]at hw;rw[<-hw,hn];exact h)
  ·rw[h5,hm,hn]
  intro a t ea;cases v with
  |nil=>cases ea;rfl
  |cons b r=>cases ea;exact h2 _ _ rfl
theorem BI(p:List zb):oneS (vSp::p)=oneS p:=by unfold oneS;rw[rU]
theorem gV{w:Str}{V:List zb}(hl:w.length<=4000)(hc:clB w=true)(ht:Ze w=tokL V)(hs:Shp V):jo w=if 1500<(tokL V).length then([],4)else(Xh (Dg 17 V),0):=by
 have hp:=nV hs;have h1:Qq w=if 1500<(tokL V).length then([],4)else(tokL V,0):=by unfold Qq;rw[Fa (show¬4000<w.length by omega),vE _ hc,ht]
 unfold jo;rw[h1];by_cases q:1500<(tokL V).length
 ·rw[Ga q,Ga q];rfl
 ·rw[Fa q]at hp;rw[Fa q,Fa q,Ga rfl,hp,Ga rfl]
theorem iW(s:Str):wtT (Qq s).1<big:=by
 have hbig:big=4194304:=rfl;unfold Qq;split
 ·rw[wtT];omega
 split
 ·rw[wtT];omega
 have h1:=lN s;have h2:=fI (Proofs.Cl.cleanS s);show wtT (Ze (Proofs.Cl.cleanS s))<big;omega
theorem UW(s:Str):ll s=some (jo s):=by
 have hw:=iW s;have hs:=zAs (Qq s).1;unfold ll jo;simp only[VN,zg,Aa,parseF];by_cases h1:(Qq s).2=0
 ·rw[Ga h1,h1];simp only[show((0:Int) != 0)=false from rfl,Ca];by_cases h2:(parS (Qq s).1).2=0
  ·have h3:=(iX h2).1;rw[Ga h2,h2];simp only[show((0:Int) != 0)=false from rfl,Ca,OT (x:=(parS (Qq s).1).1) (by omega),Ga h3,Aa]
  ·rw[Fa h2];simp only[Me.2 h2,Ea]
 ·rw[Fa h1];simp only[Me.2 h1,Ea]
theorem zB1{v:List zb}(h:szL v<=5000):okT (tokL v):=fun t ht=>by have:=Sz v t ht;omega
structure SzD (d:zI):Prop where
 v:szL d.value<=big
 n:d.name.length<=big
theorem VK(x:zI):qK (Qa x)=3+x.name.length+zL Zl x.value:=by unfold Qa;simp only[qK,bPV,zL];omega
theorem zAP{d:zI}(h:qK (Qa d)<=1048576):SzD d:=by have hbig:big=4194304:=rfl;have h1:=zCx d.value;rw[VK]at h;exact⟨by omega,by omega⟩
theorem aJ{l:List zI}(h:qK [.sl (l.map Qa)]<=1048576):(∀d∈l,SzD d)/\l.length<=big:=by
 have hbig:big=4194304:=rfl;have h1:zL Qa l<=1048576:=by simp only[qK,bPV]at h;unfold zL;omega
 have h2:=lH (f:=Qa) (fun v=>by rw[VK];omega) l;exact⟨fun d hd=>zAP (Yb (kH hd) h1),by omega⟩
theorem OI{l:List zI}(h: ∀d∈l,SzD d)(hlen:l.length<=big): ∃g,Jr l=some g/\(g=false->l.length<=40/\ ∀d∈l,d.name.length+szL d.value<=300):=by
 have hbig:big=4194304:=rfl;unfold Jr;by_cases h40:40<l.length
 ·rw[Ia (by omega),Ea];exact⟨true,rfl,fun e=>by cases e⟩
 ·rw[Ya (by omega),Ca];refine sZ (fun s=> ∃(i n:Nat),s=((n:Int),(i:Int))/\i<=l.length/\n<=300/\ ∀d∈l.take i,d.name.length+szL d.value<=300) (fun s=>l.length - s.2.toNat) (fun g=>g=false->l.length<=40/\ ∀d∈l,d.name.length+szL d.value<=300) ?_ ⟨0,0,rfl,by omega,by omega,(fun d hd=>by cases hd)⟩;rintro _ ⟨i,n,rfl,hi,hn,hlt⟩;simp only[zg];rcases Gd i l.length with hh|hh
  ·obtain⟨hv,hnm⟩:=h _ (Jc hh);obtain⟨r,hr,r0,r1,r2⟩:=size_le (m:=300) hv (by omega);replace hr:qJ (l[i].value,300)=some r:=hr;obtain⟨k,rfl⟩: ∃k:Nat,r=(k:Int):=⟨r.toNat,by omega⟩;have e2:w64 ((n:Int)+w64 ((l[i].name.length:Int)+(k:Int)))=((n+(l[i].name.length+k):Nat):Int):=by rw[Zd (n:=(l[i].name.length:Int)+(k:Int)) (by omega) (by omega),Zd (by omega) (by omega)];omega
   simp only[Qx hh,Ea,Z8 hh,Aa,hr,e2];by_cases hb:n+(l[i].name.length+k)>300
   ·rw[Ia (show((n+(l[i].name.length+k):Nat):Int)>300 by omega)];simp only[Lb,Zt,Aa,Ea];exact .inr (.inr ⟨true,rfl,fun e=>by cases e⟩)
   ·rw[Ya (show¬((n+(l[i].name.length+k):Nat):Int)>300 by omega)];simp only[ja,zQ,Aa,Ca,LW hv];cases hd:decide ((Qm l[i].value:Int)>40)with
    |true=>exact .inr (.inr ⟨true,rfl,fun e=>by cases e⟩)
    |false=>
     refine .inl ⟨_,rfl,⟨i+1,n+(l[i].name.length+k),by rw[Zd (by omega) (by omega)];rfl,by omega,by omega,?_⟩,by simp only;rw[Zd (by omega) (by omega)];omega⟩;rw[Dc hh];intro d hd;rcases Tc.1 hd with hd|hd
     ·exact hlt d hd
     ·rw[Td]at hd;subst hd;omega
  ·have:i=l.length:=by omega
   subst this;simp only[Wj,Ca];rw[Ff]at hlt;exact .inr (.inl ⟨(),false,(by first|rfl|trivial),rfl,fun _=>⟨by omega,hlt⟩⟩)
theorem mO{l:List zI}(h: ∀d∈l,d.name.length+szL d.value<=300): ∀d∈l,OkD d:=fun d hd=>by have hbig:big=4194304:=rfl;have:=h d hd;exact⟨by omega,by omega,zB1 (by omega)⟩
def bads:List Str:=[[],[120],[58,121],[97,58,33,98,32,99,58],[49,58,50],[97,58,98,33,99],[97,58,93],[97,32,98,58,99],[64,120,32,121,58,122],[45,45,58,49],[97,58,39,10]]
theorem vZ{l:List zI}(h: ∀d∈l,Q3 d=true/\okT (tokL d.value))(z:Str):Ze (qG l++59::z)=tokL (valJ l)++Ze (59::z):=by
 have key: ∀{l:List zI},(∀d∈l,Q3 d=true/\okT (tokL d.value))->Ze (Fg l++59::z)=tokL (tailV l)++Ze (59::z):=by
  intro l
  induction l with
  |nil=>intro _;rfl
  |cons d r ih=>
   intro h;have e:Fg (d::r)++59::z=59::32::(wrD d++(Fg r++59::z)):=by show(([59,32]:Str)++wrD d++Fg r)++59::z=_;simp
   have e2:tailV (d::r)=leaf Nj::vSp::(vlD d++tailV r):=rfl;obtain⟨h1,h2⟩:=h d (aa ..);have hy:Fg r++59::z=[]\/ ∃q,Fg r++59::z=59::q:=by cases r with|nil=>exact .inr ⟨_,rfl⟩|cons a b=>exact .inr ⟨_,rfl⟩
   rw[e,e2,Br (k:=17) (by decide) (by decide) rfl (by decide),Wx,YK h1,oz h1 h2 hy,ih (fun x hx=>h x (Va _ hx)),Ej rfl,Ej rfl,wh];simp
 cases l with
 |nil=>rw[qG,valJ,tokL];rfl
 |cons d r=>
  obtain⟨h1,h2⟩:=h d (aa ..);have hy:Fg r++59::z=[]\/ ∃q,Fg r++59::z=59::q:=by cases r with|nil=>exact .inr ⟨_,rfl⟩|cons a b=>exact .inr ⟨_,rfl⟩
  rw[qG,valJ,La,oz h1 h2 hy,key (fun x hx=>h x (Va _ hx)),wh,La]
theorem zCG{x:List ze}{m:Str}(hm:wrS x=m)(hg:gluS x=0)(hs:okT x)(h13: ∀ts t,x=ts++[t]->t.kind≠13)(z:Str):Ze (m++59::z)=x++Ze (59::z):=by rw[<-hm];exact mH (oI hg hs) h13 (lI z)
abbrev tkN(n:Int):ze:=⟨10,[],n,[],true⟩
def midT:List (List ze):=[[],[tkId [120]],[Eg,tkId [121]],[tkId [97],Eg,yg,tkId [98],tkSp,tkId [99],Eg],[tkN 1000,Eg,tkN 2000],[tkId [97],Eg,tkId [98],yg,tkId [99]],
 [tkId [97],Eg,⟨20,[],0,[],false⟩],[tkId [97],tkSp,tkId [98],Eg,tkId [99]],[⟨3,[120],0,[],false⟩,tkSp,tkId [121],Eg,tkId [122]],[tkId [45,45],Eg,tkN 1000]]
theorem zBM:(midT.map wrS==bads.take 10)=true:=by decide+kernel
theorem zBL:(midT.all fun x=>gluS x==0&&((x.all fun t=>decide (t.text.length<=5000)&&decide (t.unit.length<=5000))&& !(match x.getLast? with|some t=>t.kind==13|none=>false)))=true:=by decide+kernel
def midB:List (List ze):=midT++[[tkId [97],Eg,⟨6,[],0,[],false⟩,tkSp]]
theorem zAb:(midB.all fun x=> !(oneS (x.map leaf)).2&&((x.all fun t=> !(t.kind==17))&&x.all fun t=>zx t.kind==0))=true:=by decide+kernel
theorem BV{i:Nat}(h:i<11)(z:Str): ∃x,midB[i]? =some x/\ ∃m,bads[i]? =some m/\Ze (m++59::z)=x++Ze (59::z):=by
 by_cases h10:i<10
 ·have hl:i<midT.length:=h10;refine⟨midT[i],?_,bads.get ⟨i,h⟩,?_,?_⟩
  ·unfold midB;rw[Gf hl,Sa hl]
  ·rw[Sa (show i<bads.length from h)];rfl
  ·have hk:=Pb.1 zBL _ (Jc hl);simp only[Da,Fb,Pb,Eb,Yc]at hk;refine zCG ?_ hk.1 hk.2.1 (fun ts t e=> ?_) z
   ·have hw:midT.map wrS=bads.take 10:=Fb.1 zBM;have h1:(midT.map wrS)[i]? =(bads.take 10)[i]? :=by rw[hw]
    rw[Ma,Sa hl,Ad,Ga h10,Sa (show i<bads.length from h)]at h1;exact Option.some.inj h1
   ·have h2:=hk.2.2;rw[e,List.getLast?_append]at h2;simp only[List.getLast?_singleton,Option.or_some,Option.getD_some]at h2;exact Ha.1 h2
 ·have:i=10:=by omega
  subst this;refine⟨_,rfl,_,rfl,?_⟩;have e:([97,58,39,10]:Str)++59::z=ZF [97]++58::39::10::59::z:=by rw[show ZF [97]=[97] by decide+kernel];rfl
  have hq:Zk (39::10::59::z)=(⟨6,[],0,[],false⟩,10::59::z):=by rw[ZW,show brS 39 (10::59::z)=1 from rfl,oo,qF];rfl
  have hs:Ze (10::59::z)=tkSp::Ze (59::z):=by rw[qj (Zr rfl)];rfl
  rw[e,UD (by decide) (by decide) (.inr ⟨_,_,rfl, .inl rfl⟩),Br (k:=16) (by decide) (by decide) rfl (by decide),qj (Zr rfl),hq,hs];rfl
theorem wO: ∀{x:List ze},(x.all fun t=>zx t.kind==0)=true->tokL (x.map leaf)=x
 |[],_=>by rw[Ug,tokL]
 |t::r,h=>by rw[Rc,Da,Fb]at h;rw[Gc,Ej h.1,wO h.2]
theorem nO: ∀{x:List ze},(x.all fun t=>zx t.kind==0)=true->Shp (x.map leaf)
 |[],_=>Dn
 |t::r,h=>by rw[Rc,Da,Fb]at h;exact Ti h.1 (nO h.2)
theorem CZ{k:Int}{A B:List zb}{s:zb}(hs:(s.token.kind==k)=true):Dg k (A++s::B)=Dg k A++Dg k B:=by
 unfold Dg Uf;rw[af,Xc];generalize A.foldl (Tf k) ([],[])=q;obtain⟨d,c⟩:=q;have e:Tf k (d,c) s=(d++[c],[]):=by unfold Tf;rw[hs];rfl
 rw[e,ou k B (d++[c]) []];simp
theorem vz{f:zI->List zb}: ∀{l a:List zI},(∀d∈l,oneS (f d)=(d,true))->a.length<=32->(l.map f).foldl Kg a=(a++l).take 32
 |[],a,_,ha=>by rw[Ua,Ee ha];rfl
 |d::r,a,h,ha=>by
  rw[Gc,Xc];have h1:=h d (aa ..);by_cases q:a.length<32
  ·have e:Kg a (f d)=a++[d]:=by unfold Kg;rw[h1,Ia q];rfl
   rw[e,vz (fun x hx=>h x (Va _ hx)) (by rw[Ja,Ic];omega),La];rfl
  ·have e:Kg a (f d)=a:=by unfold Kg;rw[Ya q,Uc];rfl
   rw[e,vz (fun x hx=>h x (Va _ hx)) ha,yf (by omega),yf (by omega)]
theorem XP{l a:List zI}(h: ∀d∈l,Q3 d=true)(ha:a.length<=32):(Dg 17 (valJ l)).foldl Kg a=(a++l).take 32:=by
 have h1: ∀d∈l,∀x∈d.value,badV x=false:=fun d hd=>(rH (h d hd)).1;cases l with
 |nil=>
  have e:Kg a []=a:=by unfold Kg;rfl
  show [[]].foldl Kg a=_;rw[Xc,e,Ua,Ee ha];rfl
 |cons d r=>
  rw[valJ,YN (fun x hx=>h1 x (Va _ hx)) (NS (h1 d (aa ..)))];have hr:(yH r)=r.map fun d=>vSp::vlD d:=rfl;have hd:=vC (h d (aa ..));rw[Xc,hr];by_cases q:a.length<32
  ·have e:Kg a (vlD d)=a++[d]:=by unfold Kg;rw[hd,Ia q];rfl
   rw[e,vz (fun x hx=>by rw[BI,vC (h x (Va _ hx))]) (by rw[Ja,Ic];omega),La];rfl
  ·have e:Kg a (vlD d)=a:=by unfold Kg;rw[Ya q,Uc];rfl
   rw[e,vz (fun x hx=>by rw[BI,vC (h x (Va _ hx))]) ha,yf (by omega),yf (by omega)]
theorem wX {a b:List zI} (ha: ∀d∈a,Q3 d=true/\okT (tokL d.value)) (hb: ∀d∈b,Q3 d=true/\okT (tokL d.value)) (la:a.length<=32) {i:Nat} (hi:i<11) {m:Str} (hm:bads[i]? =some m)
  (hl:(qG a++59::(m++59::qG b)).length<=4000):jo (qG a++59::(m++59::qG b))=((a++b).take 32,0)\/jo (qG a++59::(m++59::qG b))=([],4):=by
 obtain⟨x,hx,m',hm',ht⟩:=BV hi (qG b);rw[hm]at hm';cases hm';have hk:=Pb.1 zAb x (ma hx);rw[Da,Da,Yc]at hk;obtain⟨k1,k2,k3⟩:=hk;have htk:Ze (qG a++59::(m++59::qG b))=tokL (valJ a++leaf Nj::(x.map leaf++leaf Nj::valJ b)):=by rw[vZ ha,Br (k:=17) (by decide) (by decide) rfl (by decide),ht,Br (k:=17) (by decide) (by decide) rfl (by decide),YY hb,wh,Ej rfl,wh,Ej rfl,wO k3]
 have hs:Shp (valJ a++leaf Nj::(x.map leaf++leaf Nj::valJ b)):=(FL fun d hd=>(Gl (ha d hd).1).err).app (Ti rfl ((nO k3).app (Ti rfl (FL fun d hd=>(Gl (hb d hd).1).err))));have hmc:clB m=true:=by
  have:(bads.all clB)=true:=by decide+kernel
  exact Pb.1 this m (ma hm)
 have hc:clB (qG a++59::(m++59::qG b))=true:=by
  have c59: ∀y:Str,clB y=true->clB (59::y)=true:=fun y h=>by unfold clB at h ⊢;rw[Rc,h];rfl
  rw[qm,PK ha,c59 _ (by rw[qm,hmc,c59 _ (PK hb)];rfl)];rfl
 rw[gV hl hc htk hs];split
 ·exact .inr rfl
 ·left;have h17: ∀v∈x.map leaf,(v.token.kind==17)=false:=by intro v hv;obtain⟨t,ht,rfl⟩:=Ib.1 hv;have:=Pb.1 k2 t ht;simpa using this
  have e2: ∀q:List zI,Kg q (x.map leaf)=q:=fun q=>by unfold Kg;rw[k1];rfl
  rw[CZ rfl,aN h17 rfl];unfold Xh;rw[af,XP (fun d hd=>(ha d hd).1) (ib _),Xc,e2,Nb,Ee la,XP (fun d hd=>(hb d hd).1) la]
theorem OO(l:List zI):(∃e,Gj l=([],e)/\e≠0)\/(l.length<=32/\(∀d∈l,Q3 d=true)/\Gj l=(qG l,0)):=by
 unfold Gj;by_cases h1:32<l.length
 ·rw[Ga h1];exact .inl ⟨4,rfl,by decide⟩
 ·rw[Fa h1];by_cases h2:l.all Q3=true
  ·rw[Ga h2];by_cases h3:4000<(qG l).length
   ·rw[Ga h3];exact .inl ⟨28,rfl,by decide⟩
   ·rw[Fa h3];exact .inr ⟨by omega,Pb.1 h2,rfl⟩
  ·rw[Fa h2];exact .inl ⟨8,rfl,by decide⟩
abbrev zCL:List Str:=[[],[120],[58,121],[97,58,98,32,99,58],[49,58,50],[97,58,98,33,99],[97,58,93],[97,32,98,58,99],[64,120,32,121,58,122],[45,45,58,49],[97,58,39,10]]
theorem pick{n:Int}(h: ¬n<0): ∃(i:Nat) (m:Str),i<11/\bads[i]? =some m/\m.length<=9/\ ∀{R:Type} (K:Str->Option R),((geti zCL (Int.tmod n 11)).bind fun y7=>
  zW (X:=Str) (bif y7==[97,58,98,32,99,58]then some (LX.out [97,58,33,98,32,99,58])else some (LX.out y7)) K)=K m:=by
 obtain⟨i,e⟩: ∃i:Nat,Int.tmod n 11=(i:Int):=⟨(Int.tmod n 11).toNat,by have:=Int.tmod_nonneg 11 (show 0<=n by omega);omega⟩;have hi:i<11:=by have:=Int.tmod_lt_of_pos n (show(0:Int)<11 by omega);omega
 rw[e];have:i=0\/i=1\/i=2\/i=3\/i=4\/i=5\/i=6\/i=7\/i=8\/i=9\/i=10:=by omega
 refine⟨i,bads.getD i [],hi,?_⟩;rcases this with rfl|rfl|rfl|rfl|rfl|rfl|rfl|rfl|rfl|rfl|rfl<;>exact⟨rfl,by decide,fun K=>rfl⟩
theorem X3{a b:List zI}{n:Int}(ha: ∀d∈a,SzD d)(la:a.length<=big)(hb: ∀d∈b,SzD d)(lb:b.length<=big):xA (a,b,n)=some true:=by
 have hbig:big=4194304:=rfl;unfold xA;obtain⟨g,hg,hg2⟩:=OI ha la;obtain⟨k,hk,hk2⟩:=OI hb lb;simp only[hg,zg,Aa];cases g with
 |true=>simp only[Lb,Zt,Aa,Ea,sj]
 |false=>
  simp only[ja,zQ,hk,Aa,Ca];cases k with
  |true=>simp only[Ea,sj,Aa]
  |false=>
   by_cases hn:n<0
   ·simp only[Ia hn,Ca,Ea,sj,Aa]
   ·have oa:=mO (hg2 rfl).2;have ob:=mO (hk2 rfl).2;simp only[Ya hn,Ca,IK oa,IK ob,Aa];rcases OO a with⟨e,h1,h2⟩|⟨a1,a2,a3⟩
    ·simp only[h1,Me.2 h2,Ea,sj,Aa]
    ·rcases OO b with⟨e,h1,h2⟩|⟨b1,b2,b3⟩
     ·simp only[a3,h1,Me.2 h2,show((0:Int) != 0)=false from rfl,Ca,Ea,sj,Aa]
     ·simp only[a3,b3,show((0:Int) != 0)=false from rfl,Ca];by_cases hl:3900<w64 (((qG a).length:Int)+((qG b).length:Int))
      ·simp only[Ia hl,Ea,sj,Aa]
      ·simp only[Ya hl,Ca];obtain⟨i,m,hi,hm,hml,hK⟩:=pick hn;refine(hK _).trans ?_;have hlen: ∀l:List zI,Gj l=(qG l,0)->(qG l).length<=4000:=fun l h=>by
        unfold Gj at h;split at h
        ·cases congrArg Prod.snd h
        split at h
        ·split at h
         ·cases congrArg Prod.snd h
         ·omega
        ·cases congrArg Prod.snd h
       have l1:=hlen a a3;have l2:=hlen b b3;have hl':(qG a).length+(qG b).length<=3900:=by have e:w64 (((qG a).length:Int)+((qG b).length:Int))=((qG a).length:Int)+((qG b).length:Int):=Zd (by omega) (by omega);rw[e]at hl;omega
       have c1:df (qG a).length ([59]:Str).length=true:=QH.2 (by simp only[Ka,Ob];omega);have c2:df (qG a++([59]:Str)).length m.length=true:=QH.2 (by simp only[Ja,Ka,Ob];omega);have c3:df (qG a++([59]:Str)++m).length ([59]:Str).length=true:=QH.2 (by simp only[Ja,Ka,Ob];omega);have c4:df (qG a++([59]:Str)++m++([59]:Str)).length (qG b).length=true:=QH.2 (by simp only[Ja,Ka,Ob];omega);have et:qG a++([59]:Str)++m++([59]:Str)++qG b=qG a++59::(m++59::qG b):=by simp
       have hr:=wX (fun d hd=>⟨a2 d hd,(oa d hd).t⟩) (fun d hd=>⟨b2 d hd,(ob d hd).t⟩) a1 hi hm (by simp only[Ja,Ka];omega);simp only[c1,c2,c3,c4,zU,et,UW,Aa];rcases hr with hr|hr
       ·have p1:zF 0 a.length 48=true:=Ai (by omega);have p2:zF a.length b.length 48=true:=Ai (by omega);have hsz:szD ((a++b).take 32):=⟨by rw[Nc];omega,fun d hd=>by
         rcases Tc.1 (Ag hd)with h|h
         ·exact(ha d h).v
         ·exact(hb d h).v⟩
        rw[hr];simp only[show((0:Int) != 0)=false from rfl,Ca,p1,p2,zU];by_cases h32:32<(a++b).length
        ·have q1:decide (((a++b).length:Int)>32)=true:=Ia (by omega);have q2:decide ((32:Int)<=((a++b).length:Int))=true:=Ia (by omega);have q3:Nat.ble 32 (a++b).length=true:=Nat.ble_eq_true_of_le (by omega);simp only[q1,q2,q3,Ea,zU,zh,yO hsz,Aa,zQ,sj]
        ·have q1:decide (((a++b).length:Int)>32)=false:=Ya (by omega);have q4:(a++b).take 32=a++b:=Ee (by omega);rw[q4]at hsz ⊢;simp only[q1,Ca,zh,yO hsz,Aa,zQ,sj,Ea]
       ·rw[hr];simp only[show((4:Int) != 0)=true from rfl,show((4:Int)==4)=true from rfl,Ea,zQ,sj,Aa]
end Go.Lv.VT
