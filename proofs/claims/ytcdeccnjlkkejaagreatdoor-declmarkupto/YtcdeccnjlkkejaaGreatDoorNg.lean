/- Names as glue writes them (glue.Name); beside PdWrt. -/
import Derived.Test.YtcdeccnjlkkejaaGreatDoorNd
import Derived.Test.YtcdeccnjlkkejaaGreatDoorNf
set_option linter.unusedSimpArgs false
set_option linter.unusedVariables false
namespace Go.Lv.VT
set_option maxRecDepth 100000
theorem zAS{l:Str}{k:Nat}(hl:l.length<=100000):Ep (l,(k:Int))=some (encW (Vh k l) k l):=by
 unfold Ep;rw[qW (XK (dash:=Vh k l) (k:=k) (l:=l) (acc:=[]) hl (by simp) (fun i a hi ha=> ?_) (fun a=> ?_))]
 ·rfl
 ·have d1:decide ((i:Int)<(l.length:Int))=true:=Ia (by omega);have d2:geti l (i:Int)=some l[i]:=ZA hi;have d3:decide ((i:Int)>=(k:Int))=(k - i==0):=by
   by_cases h:k<=i
   ·rw[Ia (by omega),show k - i=0 by omega];rfl
   ·rw[Ya (by omega)];symm;rw[Fa];omega
  have d4:((k:Int)==0)=(k==0):=by
   by_cases h:k=0
   ·subst h;rfl
   ·rw[Fa.2 h,Fa];omega
  simp only[d1,Da,d2,d3,d4,zb,Aa,yK,XF];have hd:(bif k==0 then true else !(l==[45]))= !Vh k l:=by unfold Vh;cases k==0<;>cases l==[45]<;>rfl
  rw[hd];unfold pcW;cases letB l[i]with
  |false=>
   cases k - i==0<;>simp only[zo,aa,Va,Rc,Lb,Rb,Da,Ba,Aa,Hm l[i] (show a.length<=1000000000 by omega),zh]
  |true=> cases k - i==0<;>cases digB l[i]<;>cases Vh k l<;>simp only[zo,aa,Va,Rc,Lb,Rb,Ff,Ke,ma,Xc,Td,Da,Ba,Aa,Ev,zC (Ng (show a.length+1<=2000000000 by omega)),Hm l[i] (show a.length<=1000000000 by omega),zh]
 ·simp only;rw[Ya (by omega),Ba]
theorem zCx{l:Str}(hl:l.length<=1000):jo l=some (if l.isEmpty|| !Zi l then([],8)else(Zx l,0)):=by
 unfold jo;simp only[zb,Gt];cases l with
 |nil=>rfl
 |cons c r=>
  rw[show((c::r:Str)==[])=false from rfl];simp only[zo,Va,Da,Ba,Aa,XE];rw[show(c::r:Str).isEmpty=false from rfl,Xc];cases Zi (c::r)with
  |false=>rfl
  |true=>
   rw[aa,Ba,Kr];simp only[Aa,zAS (show(c::r:Str).length<=100000 by omega)];have hd:Vh (Qp (c::r)) (c::r)=((c::r:Str)==[45]):=by unfold Vh Qp;split<;>rfl
   rw[hd];have:=Eo ((c::r:Str)==[45]) (Qp (c::r)) (c::r);rw[Ya (by omega),Ba,Ya (by omega),Ba];rfl
def sfB(d:UInt8)(y:Str):Prop:=d=58\/d=59\/d=32\/d=33/\atS y 0≠45
structure Sf (d:UInt8) (y:Str):Prop where
 f:fstB d=false
 l:letB d=false
 g:digB d=false
 s:Pf d=false
 a:(d==45)=false
 b:(d==46)=false
 c:(d==92)=false
 n:(d==10)=false
 e:(d==40)=false
 p:(d==37)=false
 m:d≠42
 o:[33,45,45].isPrefixOf (d::y)=false
 x:(d==101||d==69)=false
 k:d≠60/\d≠62
theorem VV{d:UInt8}{y:Str}(h:sfB d y):Sf d y:=by
 rcases h with rfl|rfl|rfl|⟨rfl,h⟩
 ·exact⟨rfl,rfl,rfl,rfl,rfl,rfl,rfl,rfl,rfl,rfl,by decide,rfl,rfl,by decide⟩
 ·exact⟨rfl,rfl,rfl,rfl,rfl,rfl,rfl,rfl,rfl,rfl,by decide,rfl,rfl,by decide⟩
 ·exact⟨rfl,rfl,rfl,rfl,rfl,rfl,rfl,rfl,rfl,rfl,by decide,rfl,rfl,by decide⟩
 ·refine⟨rfl,rfl,rfl,rfl,rfl,rfl,rfl,rfl,rfl,rfl,by decide,?_,rfl,by decide⟩;show((33:UInt8)==33&&[45,45].isPrefixOf y)=false;rw[nK (by decide) (Fa.2 h),Rc]
theorem Hq{d:UInt8}{y:Str}(h:Sf d y)(q:Str):escS (q++d::y)=escS q:=by
 match q with
 |[]=>show(d==92&&_)=false;rw[h.c];rfl
 |[c]=>show(c==92&& !(d==10))=(c==92&& !((0:UInt8)==10));rw[h.n];rfl
 |c::e::t=>rfl
theorem Bl{d:UInt8}{y:Str}(h:Sf d y)(q:Str):nmS (q++d::y)=nmS q:=by
 have h0:escS (d::y)=false:=Hq h []
 match q with
 |[]=> show(if d==45 then _ else fstB d||escS (d::y))=false;rw[h.a,Ga (by decide),h.f,h0];rfl
 |[c]=> unfold nmS;show(if c==45 then fstB d||d==45||escS (d::y)else fstB c||escS ([c]++d::y))=(if c==45 then fstB 0||(0:UInt8)==45||escS []else fstB c||escS [c]);rw[Hq h [c],h0,h.f,h.a];rfl
 |c::e::t=> unfold nmS;show(if c==45 then fstB e||e==45||escS ((e::t)++d::y)else fstB c||escS ((c::e::t)++d::y))=(if c==45 then fstB e||e==45||escS (e::t)else fstB c||escS (c::e::t));rw[Hq h,Hq h]
theorem uD{d:UInt8}{y:Str}(h:Sf d y)(q:Str):digB (atS (q++d::y) 0)=digB (atS q 0):=by
 cases q with
 |nil=>show digB d=false;exact h.g
 |cons c t=>rfl
theorem dG{d:UInt8}{y:Str}(h:Sf d y)(q:Str):unsign (q++d::y)=unsign q++d::y:=by
 cases q with
 |nil=>show(if Pf d then _ else _)=_;rw[h.s];rfl
 |cons c t=>exact(ek (d::y) (by simp)).1
theorem zBD{d:UInt8}{y:Str}(h:Sf d y)(q:Str):undot (q++d::y)=undot q++d::y:=by
 cases q with
 |nil=>show(if d==46 then _ else _)=_;rw[h.b];rfl
 |cons c t=>exact eG (d::y) (by simp)
theorem zF3{d:UInt8}{y:Str}(h:Sf d y)(q:Str):nbS (q++d::y)=nbS q:=by unfold nbS;rw[dG h,zBD h,uD h]
theorem JW{d:UInt8}{y m:Str}(hm: ∀b∈m,b≠d): ∀q:Str,m.isPrefixOf (q++d::y)=m.isPrefixOf q:=by
 induction m with
 |nil=>intros;rw[List.isPrefixOf,List.isPrefixOf]
 |cons a m ih=>
  intro q;cases q with
  |nil=> have:(a==d)=false:=Fa.2 (hm a (Db ..));show((a==d)&&m.isPrefixOf y)=false;rw[this];rfl
  |cons b t=>rw[Sa,List.isPrefixOf,List.isPrefixOf,ih (fun b hb=>hm b (ja _ hb))]
theorem zEF{d:UInt8}{y:Str}(h:Sf d y)(q:Str):[60,33,45,45].isPrefixOf (q++d::y)=[60,33,45,45].isPrefixOf q:=by
 have h45:(45:UInt8)≠d:=fun e=>by have:=h.a;rw[<-e]at this;cases this
 match q with
 |[]=> show((60:UInt8)==d&&_)=false;rw[Fa.2 (fun e=>h.k.1 e.symm)];rfl
 |[c]=> show((60:UInt8)==c&&[33,45,45].isPrefixOf (d::y))=((60:UInt8)==c&&false);rw[h.o]
 |c::e::t=> show((60:UInt8)==c&&((33:UInt8)==e&&[45,45].isPrefixOf (t++d::y)))=((60:UInt8)==c&&((33:UInt8)==e&&[45,45].isPrefixOf t));rw[JW (m:=[45,45]) (fun b hb=>by simp only[Fb,Xd,uf,or_self]at hb;rw[hb];exact h45)]
theorem aV{d:UInt8}{y:Str}(h:Sf d y)(c:UInt8)(r:Str):brS c (r++d::y)=brS c r:=by
 have e:c::(r++d::y)=(c::r)++d::y:=rfl;have h45:(45:UInt8)≠d:=fun e=>by have:=h.a;rw[<-e]at this;cases this
 have hl:letB (atS (r++d::y) 0)=letB (atS r 0):=by
  cases r with
  |nil=>show letB d=false;exact h.l
  |cons c t=>rfl
 unfold brS;rw[e,zF3 h,JW (m:=[45,45,62]) (fun b hb=>by
  simp only[Fb,Xd,uf]at hb;rcases hb with rfl|rfl|rfl
  ·exact h45
  ·exact h45
  ·exact fun e=>h.k.2 e.symm),zEF h,Bl h,Bl h,hl,Hq h]
theorem zDy{d:UInt8}{y:Str}(hs:Sf d y){c:UInt8}{r:Str}(h:(Zq (c::r)).2≠[]):Zq (c::(r++d::y))=((Zq (c::r)).1,(Zq (c::r)).2++d::y):=by
 refine Pv (aV hs c r) h (fun _=>Bl hs r) (fun hb=> ?_);rw[qd,hb,Vi]at h;obtain⟨a,b⟩:=Gz (q:=c::r) (x:=d::y) (bH h) (fun _=>hs.g) (fun hn=>by
  generalize (z8 (Gf (c::r))).1=w at hn ⊢;rw[ji]at hn ⊢;cases w with
  |nil=>show((d==101||d==69)&&_)=false;rw[hs.x];rfl
  |cons c t=>
   show((c==101||c==69)&&digB (atS (unsign (t++d::y)) 0))=false;rw[dG hs,uD hs];exact hn)
 exact⟨a,b,Bl hs _⟩
theorem zEG{d:UInt8}{y:Str}(hs:Sf d y){q:Str}(h:cmtS q≠[]):cmtS (q++d::y)=cmtS q++d::y:=by
 refine Cr h ?_;have hp:=Br q;cases hq:cmtS q with
 |nil=>exact absurd hq h
 |cons c t=>
  cases t with
  |nil=> show((47==c)&&((42==d)&&_))=false;rw[Fa.2 (fun e=>hs.m e.symm),Lb,Rc]
  |cons e u=>rw[iN,<-hq];exact hp
theorem EW{d:UInt8}{y:Str}(hs:Sf d y): ∀{ts:List ze} {q R:Str},run q ts R->R≠[]->run (q++d::y) ts (R++d::y)
 |[],q,R,h,_=>by rw[run]at h;subst h;rfl
 |t::ts,q,R,h,hl=>by
  obtain⟨c,r,h1,h2,h3⟩:=h;have h4:(Zq (c::r)).2≠[]:=by intro e;have:=(pq h3).length_le;rw[e]at this;exact hl (Ye.1 (by simpa using this))
  have h5:=zDy hs h4;refine⟨c,r++d::y,by rw[zEG hs (by rw[h1];simp),h1];rfl,by rw[h5];exact h2,?_⟩;rw[h5];exact EW hs h3 hl
theorem zEE{d:UInt8}{y:Str}(hs:Sf d y){t:ze}(h:zf3 t)(hb: ¬(t.kind=9/\t.text=[92]))(hu:Fg t=false)(h13:t.kind=13->spB d=false):Zq (txS t++d::y)=(t,d::y):=by
 have hn0:nmS (d::y)=false:=Bl hs [];have ha:atS (d::y) 0=d:=rfl;have hnd0:zq (d::y)=([],d::y):=by rw[zR,Ga (by rw[hs.l];decide),Ga (by rw[show escS (d::y)=false from Hq hs []];decide)]
 have e1:past digB (d::y)=d::y:=by rw[past,hs.g];rfl
 have e2:z8 (d::y)=(d::y,true):=by unfold z8;rw[ha,hs.b];rfl
 have e3:expS (d::y)=none:=by rw[ji,ha,hs.x];rfl
 have hnx: ∀(c:UInt8) (r:Str),Zq (c::(r++d::y))=nxB (brS c r) c (r++d::y):=fun c r=>by rw[qd,aV hs]
 cases h with
 |cId l h0 h=>
  have hn:=xh h0;have hnd:=Tj (d::y) h;rw[hnd0,Ra]at hnd;obtain⟨c,r,e⟩:=lg (Ei hn);rw[nk];have hr:=OO h;rw[e]at hn hr hnd ⊢;rw[Sa,hnx,Gv hn (by rw[hr];intro t e;cases e),Di];unfold qO;rw[show c::(r++d::y)=(c::r)++d::y from rfl,hnd];simp only;rw[ha,hs.e,Ga (by decide)]
 |cFn l h0 h=>rw[Wj];exact aF h0 h (by unfold Fg at hu;exact hu) _
 |cAt l h0 h=>
  have hnd:=Tj (d::y) h;rw[hnd0,Ra]at hnd;rw[lm,Sa];have hb6:brS 64 (Zx l++d::y)=6:=by unfold brS;rw[Bl hs,xh h0];rfl
  rw[qd,hb6,Aq,hnd]
 |cHash l f h0 h hbb=>
  obtain⟨g1,g2,g3⟩:=mO h0 h hbb;have hnd:=VH (f:=f) h (d::y);rw[hnd0,Ra]at hnd;rw[Xn,Sa];have hb2:brS 35 (ag f l)=2:=by unfold brS;rw[g1];rfl
  have hf:nmS (ag f l)=f:=by
   cases f with
   |true=>exact g2 rfl
   |false=>exact g3 rfl
  rw[hnx,hb2,Al,hnd,Bl hs,hf]
 |cStr l h=>rw[Jl];exact gz h _
 |cUrl l h=>rw[ym];exact gF h _
 |cDel c h=>
  have h92:c≠92:=by rintro rfl;exact hb ⟨rfl,rfl⟩
  rw[Gn,Sa,hnx,vW c h h92,gp,Ob]
 |cNum n f h1 h2 hf=> have he:=Iq (n:=n) (p:= !f) e1 e2 e3;rw[Fw hf]at he;rw[Dn,Rn];unfold zI;rw[Wt h1 h2 (by rw[he]),he];simp only;rw[hn0,Ga (by decide),ha,hs.p,Ga (by decide)]
 |cPct n h1 h2=>rw[Bn];exact SG h1 h2 _
 |cDim n u f h1 h2 hf h0 h=>
  have hnm:=iy h0 h;obtain⟨r1,r2⟩:=Az hnm (d::y);have hx:expS (Yf u++d::y)=none:=by
   rcases jF h0 h (d::y)with q|⟨e,s,he,hss,_,hu'⟩
   ·exact q
   ·rw[hu',ji];have:digB (atS (unsign (s++d::y)) 0)=false:=by rw[dG hs,uD hs];rcases hss with rfl|rfl<;>rfl
    show((e==101||e==69)&&digB (atS (unsign (s++d::y)) 0))=false;rw[this,Rc]
  have he:=Iq (n:=n) (p:= !f) r1 r2 hx;rw[Fw hf]at he;rw[En,IG,Rn];unfold zI;rw[Wt h1 h2 (by rw[he]),he];simp only;rw[Bl hs,hnm,Ha rfl,IB h0 h,hnd0,Ra]
 |cMark k h1 h2=>
  rw[Wn h1 h2,iA h1 h2];by_cases hk:k=13
  ·rw[Ha hk,past,h13 hk];rfl
  ·rw[Ga hk]
theorem GV{d:UInt8}{y:Str}(hs:Sf d y){s:Str}{P:List ze}(h:PcT s P)(h13: ∀ts t,P=ts++[t]->t.kind=13->spB d=false):run (s++d::y) P (d::y):=by
 cases h with
 |one t h hb hu=> have hn:=zEE hs h hb hu (h13 [] t rfl);have hp:=Nu (.one t h hb hu) (d::y) hs.m;obtain⟨c,r,e⟩:=lg (Ph (.one t h hb hu));rw[e]at hn hp ⊢;exact⟨c,r++d::y,ZK hp,by rw[show c::(r++d::y)=(c::r)++d::y from rfl,hn],by rw[show c::(r++d::y)=(c::r)++d::y from rfl,hn];rfl⟩
 |back=> refine⟨92,10::d::y,ZK rfl,by rw[gu],?_⟩;rw[gu];refine⟨10,d::y,ZK rfl,rfl,?_⟩;show past spB (d::y)=d::y;rw[past,h13 [_] tkSp rfl rfl];rfl
 |url l m b h hl hm=>exact LF h hl hm _
theorem zFL{d:UInt8}{y:Str}(hs:Sf d y){b:Str}{ts:List ze}{st:List (List ze×Str)}(h:Syn b ts st)(h13: ∀us t,ts=us++[t]->t.kind=13->spB d=false):run (b++d::y) ts (d::y):=by
 rcases(Iy h).last with⟨_,rfl,rfl⟩|⟨L,B,u,p,R,g1,g2,g3,g4,g5⟩
 ·rfl
 ·have hR:R≠[]:=by intro e;have:=Vm g5 (Ph g1);rw[e]at this;exact this (ZK rfl)
  obtain⟨t1,us1,hp1⟩:=pc_P g1;have hpre:=Nu g1 (d::y) hs.m;have h1:=GV hs g1 (fun us t e=>h13 (L++us) t (by rw[g3,e,La]));rw[g3];refine oz (EW hs g4 hR) ?_;rw[hp1]at h1 ⊢;exact(xD (CE g5 (Ph g1) hpre) hpre).2 h1
theorem zGg{d:UInt8}{y:Str}(hs:Sf d y){x:List ze}(hr:Yi x)(h13: ∀us t,x=us++[t]->t.kind=13->spB d=false):Zk (wrS x++d::y)=x++Zk (d::y):=by obtain⟨st,h⟩:=Ny x.length hr .nil (Xa _);rw[Ob]at h;exact yl (zFL hs (show Syn (wrS x) x st from h) h13)
theorem vG{c:UInt8}{k:Int}(h1:14<=k)(h2:k<=24)(hc:El k=[c])(hp:c≠47)(y:Str):Zk (c::y)=⟨k,[],0,[],false⟩::Zk y:=by have h:=iA (k:=k) (by omega) h2 y;rw[hc,Ga (by omega)]at h;rw[Qd (ZK (Xq (Fa.2 hp))),show c::y=[c]++y from rfl,h]
theorem Yn(y:Str):Zk (32::y)=tkSp::Zk (past spB y):=by rw[Qd (ZK rfl)];rfl
theorem zEg{x:List ze}(hr:Yi x)(h: ∀t us,x=t::us->t.kind≠13)(y:Str)(hx:x≠[]):past spB (wrS x++y)=wrS x++y:=by
 have ht:=(xA hr).1;cases hw:wrS x with
 |nil=>rw[hw,QL (ZK rfl)]at ht;exact absurd ht.symm hx
 |cons c r=>
  cases hc:spB c with
  |false=>rw[Sa,past,hc];rfl
  |true=> exfalso;have hcm:cmtS (c::r)=c::r:=ZK (Xq (Fa.2 (by rintro rfl;cases hc)));rw[hw,Qd hcm]at ht;refine h _ _ ht.symm ?_;rw[qd,show brS c r=0 by unfold brS;rw[hc];rfl,JD];rfl
def okT(x:List ze):Prop:= ∀t∈x,t.text.length<=5000/\t.unit.length<=5000
structure OkD (d:zJ):Prop where
 v:szL d.value<=big
 n:d.name.length<=big
 t:okT (tokL d.value)
theorem zFB{x:List ze}(hg:gluS x=0)(h:okT x):Yi x:=by obtain⟨_,h1,h2⟩:=YN hg;exact⟨fun t ht=>⟨h1 t ht,h t ht⟩,h2⟩
theorem zFP{v:List zf}(hv:szL v<=big)(h:errS v=0)(hg:gluS (tokL v)=0)(ht:okT (tokL v)):Vo v=some (if 4000<(wrS (tokL v)).length then([],28)else(wrS (tokL v),0)):=by unfold Vo;simp only[zb,RB hv,h,Aa];rw[show((0:Int) != 0)=false from rfl,Ba,dM hv,Aa,SX ht,Ha hg,Aa]
abbrev impT:Str:=[32,33,105,109,112,111,114,116,97,110,116]
def wrD(d:zJ):Str:=Zx d.name++([58,32]:Str)++wrS (tokL d.value)++(bif d.important then impT else [])
def iC(d:zJ):Str×Int:=if Lf d=true then(if 4000<(wrD d).length then([],28)else(wrD d,0))else([],8)
structure zFX (d:zJ):Prop where
 name:Rh d.name=true
 err:errS d.value=0
 glu:gluS (tokL d.value)=0
 body:Hl (List.isPrefixOf [45,45] d.name) d.value=true
theorem uh{d:zJ}(h:Lf d=true):zFX d:=by unfold Lf at h;simp only[Ea,Ib]at h;exact⟨h.1,h.2.1,h.2.2.1,h.2.2.2.2⟩
theorem Sn{x:Str}(h:Rh x=true):x≠[]/\x.length<=64/\Zi x=true/\(bif List.isPrefixOf [45,45] x then !(x==[45,45])else lowS x==x)=true:=by unfold Rh at h;simp only[Ea,Md,Fa,Jb]at h;exact⟨h.1,h.2.1,h.2.2.1,h.2.2.2⟩
theorem CZ(l:Str):(Zx l).length<=4*l.length:=Eo _ _ l
theorem K8{d:zJ}(h:OkD d):Tk d=some (iC d):=by
 have hbig:big=4194304:=rfl;unfold Tk iC;rw[PS h.v h.n];simp only[zb,Aa];cases hd:Lf d with
 |false=>rw[Ba,Ga (by decide)];rfl
 |true=>
  obtain⟨h1,h2,h3,_⟩:=uh hd;obtain⟨n1,n2,n3,_⟩:=Sn h1;have hne:d.name.isEmpty=false:=by cases hx:d.name with|nil=>exact absurd hx n1|cons a b=>rfl
  have hl:=CZ d.name;rw[Da,Ha rfl,show((0:Int) != 0)=false from rfl,Ba,zCx (by omega),hne,n3];simp only[aa,Bool.or_self,Sb,Od,Aa,show((0:Int) != 0)=false from rfl,Ba,zFP h.v h2 h3 h.t];by_cases hw:4000<(wrS (tokL d.value)).length
  ·have:4000<(wrD d).length:=by unfold wrD;rw[Ka,Ka];omega
   rw[Ha hw,Ha this];rfl
  ·rw[Ga hw];have c1:QU (Zx d.name).length ([58,32]:Str).length=true:=si.2 (by simp only[Ja,Pb];omega);have c2:QU (Zx d.name++([58,32]:Str)).length (wrS (tokL d.value)).length=true:=si.2 (by simp only[Ka,Ja,Pb];omega);have c3:QU (Zx d.name++([58,32]:Str)++wrS (tokL d.value)).length impT.length=true:=si.2 (by simp only[Ka,Ja,Pb];omega);simp only[show((0:Int) != 0)=false from rfl,Ba,c1,c2,c3,zV];have hg: ∀n:Nat,decide ((n:Int)>4000)=decide (4000<n):=fun n=>by rw[decide_eq_decide];omega
   unfold wrD;cases d.important with
   |true=>
    simp only[Da,zh,hg];by_cases q:4000<(Zx d.name++([58,32]:Str)++wrS (tokL d.value)++impT).length
    ·rw[Ia q,Ha q];rfl
    ·rw[Ya q,Ga q];rfl
   |false=>
    simp only[Ba,zh,hg,Ra];by_cases q:4000<(Zx d.name++([58,32]:Str)++wrS (tokL d.value)).length
    ·rw[Ia q,Ha q];rfl
    ·rw[Ya q,Ga q];rfl
def ah(l:List zJ):Str:=(l.map fun d=>([59,32]:Str)++wrD d).flatten
def Xj:List zJ->Str
 |[]=>[]
 |d::r=>wrD d++ah r
def ED(d:zJ):Bool:=decide (4000<(wrD d).length)
theorem BX{d:zJ}(h:Lf d=true):iC d=if ED d=true then([],28)else(wrD d,0):=by
 unfold iC ED;rw[Ha h];by_cases q:4000<(wrD d).length
 ·rw[Ha q,Ia q,Ha rfl]
 ·rw[Ga q,Ya q,Ga (by decide)]
abbrev leaf(t:ze):zf:=⟨t,[]⟩
abbrev tkId(n:Str):ze:=⟨1,n,0,[],false⟩
abbrev Ug:ze:=⟨16,[],0,[],false⟩
abbrev Gj:ze:=⟨17,[],0,[],false⟩
abbrev QZ:ze:=⟨9,[33],0,[],false⟩
def sfx(y:Str):Prop:=y=[]\/ ∃d z,y=d::z/\sfB d z
theorem zFF(z:Str):sfx (59::z):= .inr ⟨_,_,rfl, .inr (.inl rfl)⟩
theorem RD(z:Str):sfx (32::z):= .inr ⟨_,_,rfl, .inr (.inr (.inl rfl))⟩
theorem Ll:Zk []=[]:=QL (ZK rfl)
theorem zFq{s y:Str}{P:List ze}(h:PcT s P)(h13: ∀ts t,P=ts++[t]->t.kind≠13)(hy:sfx y):Zk (s++y)=P++Zk y:=by
 rcases hy with rfl|⟨d,z,rfl,hs⟩
 ·rw[Ra,Oz h,Ll,Ra]
 ·exact yl (GV (VV hs) h fun ts t e q=>absurd q (h13 ts t e))
theorem zFV{x:List ze}{y:Str}(hr:Yi x)(h13: ∀ts t,x=ts++[t]->t.kind≠13)(hy:sfx y):Zk (wrS x++y)=x++Zk y:=by
 rcases hy with rfl|⟨d,z,rfl,hs⟩
 ·rw[Ra,(xA hr).1,Ll,Ra]
 ·exact zGg (VV hs) hr fun ts t e q=>absurd q (h13 ts t e)
theorem zF1{n:Str}(h0:n≠[])(h:Zi n=true):PcT (Zx n) [tkId n]:=by
 have:=PcT.one (tkId n) (.cId n h0 h) (fun e=>by cases e.1) rfl
 rwa [nk]at this
theorem zFh{t:ze}(h:t.kind≠13): ∀ts u,[t]=ts++[u]->u.kind≠13:=by
 intro ts u e;cases ts with
 |nil=>injection e with e _;rw[<-e];exact h
 |cons a b=>have:=congrArg List.length e;simp at this
theorem fE{n y:Str}(h0:n≠[])(h:Zi n=true)(hy:sfx y):Zk (Zx n++y)=tkId n::Zk y:=zFq (zF1 h0 h) (zFh (show(1:Int)≠13 by decide)) hy
structure zEp (v:List zf):Prop where
 r:Yi (tokL v)
 h:Og v
 e:Gg v
theorem AX(v:zf)(hv:isSp v=false): ∃us t,tokV v=us++[t]/\t.kind≠13:=by
 rw[Mj];by_cases h:zy v.token.kind=0
 ·rw[Ha h];exact⟨[],_,rfl,fun e=>by unfold isSp at hv;rw[e]at hv;cases hv⟩
 ·rw[Ga h,<-Sa];refine⟨_,_,rfl,?_⟩;show zy v.token.kind≠13;unfold zy;split
  ·decide
  split
  ·decide
  split
  ·decide
  ·decide
theorem zBL{v:List zf}(h:Gg v): ∀ts t,tokL v=ts++[t]->t.kind≠13:=by
 intro ts t e;rcases QD v with rfl|⟨q,z,rfl⟩
 ·rw[tokL]at e;have:=congrArg List.length e;simp at this
 ·obtain⟨us,u,h1,h2⟩:=AX z (h q z rfl);rw[Qy,dz,h1,<-La]at e;have:=List.append_inj_right' e rfl;injection this with this _;rw[<-this];exact h2
theorem zBK{v:List zf}(h:Og v): ∀t us,tokL v=t::us->t.kind≠13:=by
 intro t us e q;cases v with
 |nil=>rw[tokL]at e;cases e
 |cons a r=> rw[tokL,Mj,Sa]at e;injection e with e _;have:=h a r rfl;unfold isSp at this;rw[e,q]at this;cases this
theorem zD8{v:List zf}(h:v≠[]):tokL v≠[]:=by
 cases v with
 |nil=>exact absurd rfl h
 |cons a r=>rw[tokL,Mj];simp
theorem Jr{n y:Str}{v:List zf}(h0:n≠[])(hn:Zi n=true)(hv:zEp v)(hy:sfx y):
  Zk (Zx n++58::32::(wrS (tokL v)++y))=tkId n::Ug::tkSp::(tokL v++Zk (if v=[]then past spB y else y)):=by
 rw[fE h0 hn (.inr ⟨_,_,rfl, .inl rfl⟩),vG (k:=16) (by decide) (by decide) rfl (by decide),Yn];by_cases h:v=[]
 ·subst h;rw[Ha rfl,tokL];rfl
 ·rw[Ga h,zEg hv.r (zBK hv.h) y (zD8 h),zFV hv.r (zBL hv.e) hy]
theorem zAC:Zx impW=impW:=by decide+kernel
theorem BH(y:Str)(h:atS y 0≠45):Zk (33::y)=QZ::Zk y:=by
 have hn:Zq (33::y)=(QZ,y):=by
  have:brS 33 y=8:=by unfold brS;rfl
  rw[qd,this,gp]
 rw[Qd (ZK (Xq rfl)),hn]
theorem UN{y:Str}(hy:sfx y):Zk (impW++y)=tkId impW::Zk y:=by
 have:=fE (n:=impW) (by decide) (by decide) hy
 rwa [zAC]at this
def preV(v:List zf):List zf:=if v=[]then []else [vSp]
theorem KW(v:List zf):preV v=[]\/preV v=[vSp]:=by unfold preV;split;exact .inl rfl;exact .inr rfl
def impV(d:zJ):List zf:=bif d.important then preV d.value++[leaf QZ,leaf (tkId impW)]else []
def vlD(d:zJ):List zf:=leaf (tkId d.name)::leaf Ug::vSp::(d.value++impV d)
def tailV(l:List zJ):List zf:=(l.map fun d=>[leaf Gj,vSp]++vlD d).flatten
def valJ:List zJ->List zf
 |[]=>[]
 |d::r=>vlD d++tailV r
theorem Dm{t:ze}(h:zy t.kind=0)(r:List zf):tokL (leaf t::r)=t::tokL r:=by rw[tokL,tokV,Ha h];rfl
theorem jM{v:List zf}(h:Aj v=false):Og v/\Gg v:=by
 constructor
 ·rintro a t rfl;rw[show Aj (a::t)=(isSp a||_)from rfl,Lc]at h;exact h.1
 ·rintro t a rfl;rw[FQ,Lc]at h;exact h.2
theorem val_ok{d:zJ}(h:Lf d=true)(ht:okT (tokL d.value)):zEp d.value:=by obtain⟨_,_,h3,h4⟩:=uh h;unfold Hl at h4;simp only[Ea,Md]at h4;obtain⟨a,b⟩:=jM h4.2.2;exact⟨zFB h3 ht,a,b⟩
theorem mP{d:zJ}(h:Lf d=true)(ht:okT (tokL d.value)){y:Str}(hy:y=[]\/ ∃z,y=59::z):Zk (wrD d++y)=tokL (vlD d)++Zk y:=by
 have hv:=val_ok h ht;obtain⟨n1,_,n3,_⟩:=Sn (uh h).name;have hs:sfx y:=by rcases hy with rfl|⟨z,rfl⟩;exact .inl rfl;exact zFF z
 have hp:past spB y=y:=by rcases hy with rfl|⟨z,rfl⟩<;>rfl
 have e: ∀w:Str,Zx d.name++([58,32]:Str)++wrS (tokL d.value)++w=Zx d.name++58::32::(wrS (tokL d.value)++w):=fun w=>by simp
 unfold wrD vlD impV;rw[Dm rfl,Dm rfl,Dm rfl,La,e];cases d.important with
 |false=> rw[Ba,Ba,Ob,Ra,Jr n1 n3 hv hs,hp,ite_self];rfl
 |true=>
  rw[Da,Da,show impT++y=32::33::(impW++y)from rfl,Jr n1 n3 hv (RD _)];have hb:Zk (33::(impW++y))=QZ::tkId impW::Zk y:=by rw[BH (impW++y) (show(105:UInt8)≠45 by decide),UN hs]
  rw[Qy,Qy];unfold preV;by_cases hz:d.value=[]
  ·rw[Ha hz,Ha hz,show past spB (32::33::(impW++y))=33::(impW++y)from rfl,hb,hz];rfl
  ·rw[Ga hz,Ga hz,Yn,show past spB (33::(impW++y))=33::(impW++y)from rfl,hb];show _=(tkId d.name::Ug::tkSp::(tokL d.value++([tkSp]++[QZ,tkId impW])))++Zk y;simp
theorem zBO{d:zJ}(h:Lf d=true)(y:Str):past spB (wrD d++y)=wrD d++y:=by obtain⟨n1,_,_,_⟩:=Sn (uh h).name;have hn:=xh n1;obtain⟨c,r,e⟩:=lg (Ei hn);have h1:=(Fq (Um hn)).1;unfold wrD;rw[e]at h1 ⊢;show past spB (c::_)=c::_;rw[past,show spB c=false from h1];rfl
theorem AO: ∀{l:List zJ},(∀d∈l,Lf d=true/\okT (tokL d.value))->Zk (ah l)=tokL (tailV l)
 |[],_=>Ll
 |d::r,h=>by
  have e:ah (d::r)=59::32::(wrD d++ah r):=rfl;have e2:tailV (d::r)=leaf Gj::vSp::(vlD d++tailV r):=rfl;obtain⟨h1,h2⟩:=h d (Db ..);have ih:=AO (l:=r) (fun x hx=>h x (ja _ hx));have hy:ah r=[]\/ ∃z,ah r=59::z:=by cases r with|nil=>exact .inl rfl|cons a b=>exact .inr ⟨_,rfl⟩
  rw[e,e2,vG (k:=17) (by decide) (by decide) rfl (by decide),Yn,zBO h1,mP h1 h2 hy,ih,Dm rfl,Dm rfl,Qy]
theorem mY{l:List zJ}(h: ∀d∈l,Lf d=true/\okT (tokL d.value)):Zk (Xj l)=tokL (valJ l):=by
 cases l with
 |nil=>rw[Xj,valJ,tokL,Ll]
 |cons d r=>
  obtain⟨h1,h2⟩:=h d (Db ..);have hy:ah r=[]\/ ∃z,ah r=59::z:=by cases r with|nil=>exact .inl rfl|cons a b=>exact .inr ⟨_,rfl⟩
  rw[Xj,valJ,mP h1 h2 hy,AO (fun x hx=>h x (ja _ hx)),Qy]
theorem cl_D{d:zJ}(h:Lf d=true)(ht:okT (tokL d.value)):clB (wrD d)=true:=by unfold wrD;rw[qp,qp,qp,show clB (Zx d.name)=true from Lj _ _ _,(xA (val_ok h ht).r).2];cases d.important<;>rfl
theorem XL: ∀{l:List zJ},(∀d∈l,Lf d=true/\okT (tokL d.value))->clB (ah l)=true
 |[],_=>rfl
 |d::r,h=>by obtain⟨h1,h2⟩:=h d (Db ..);have e:ah (d::r)=([59,32]:Str)++(wrD d++ah r):=rfl;rw[e,qp,qp,cl_D h1 h2,XL (fun x hx=>h x (ja _ hx))];rfl
theorem zCP{l:List zJ}(h: ∀d∈l,Lf d=true/\okT (tokL d.value)):clB (Xj l)=true:=by
 cases l with
 |nil=>rfl
 |cons d r=> obtain⟨h1,h2⟩:=h d (Db ..);rw[Xj,qp,cl_D h1 h2,XL (fun x hx=>h x (ja _ hx))];rfl
structure Shp (v:List zf):Prop where
 s:shL v 0=true
 d:QN v<=16
theorem dY(a b:List zf):QN (a++b)=max (QN a) (QN b):=by
 induction a with
 |nil=>rw[Ob,QN];omega
 |cons v a ih=>rw[Sa,QN,QN,ih];omega
theorem Shp.app{a b:List zf}(ha:Shp a)(hb:Shp b):Shp (a++b):=⟨by rw[VK,ha.s,hb.s];rfl,by rw[dY];have:=ha.d;have:=hb.d;omega⟩
theorem Ni:Shp []:=⟨by rw[shL],by rw[QN];exact Dc _⟩
theorem Qw{t:ze}(h:zy t.kind=0){r:List zf}(hr:Shp r):Shp (leaf t::r):=by
 refine⟨?_,?_⟩
 ·rw[shL,hr.s,shV,h];rfl
 ·rw[QN,xg,Ha h];have:=hr.d;omega
theorem rE{v:List zf}(h:errS v=0):Shp v:=⟨(GG h).2.2,(GG h).1⟩
theorem UK{d:zJ}(h:errS d.value=0):Shp (vlD d):=by
 unfold vlD impV;refine Qw rfl (Qw rfl (Qw rfl ((rE h).app ?_)));cases d.important with
 |false=>exact Ni
 |true=>
  rw[Da];refine Shp.app ?_ (Qw rfl (Qw rfl Ni));unfold preV;split
  ·exact Ni
  ·exact Qw rfl Ni
theorem IM: ∀{l:List zJ},(∀d∈l,errS d.value=0)->Shp (tailV l)
 |[],_=>Ni
 |d::r,h=>by have e2:tailV (d::r)=leaf Gj::vSp::(vlD d++tailV r):=rfl;rw[e2];exact Qw rfl (Qw rfl ((UK (h d (Db ..))).app (IM fun x hx=>h x (ja _ hx))))
theorem zBn{l:List zJ}(h: ∀d∈l,errS d.value=0):Shp (valJ l):=by
 cases l with
 |nil=>exact Ni
 |cons d r=>exact(UK (h d (Db ..))).app (IM fun x hx=>h x (ja _ hx))
theorem zBb{v:List zf}(h:Shp v):parS (tokL v)=if 1500<(tokL v).length then([],4)else(v,0):=by
 by_cases q:1500<(tokL v).length
 ·rw[Ha q];unfold parS;rw[Ha q]
 ·rw[Ga q];refine uX ?_;unfold errS;rw[Ga (by have:=h.d;omega),Ga q,Ha h.s]
theorem FH(k:Int): ∀(l:List zf) (a:List (List zf)) (c:List zf),(∀x∈l,(x.token.kind==k)=false)->l.foldl (Vf k) (a,c)=(a,c++l)
 |[],a,c,_=>by rw[Ra];rfl
 |v::l,a,c,h=>by rw[Yc];unfold Vf;rw[h v (Db ..),Ga (by decide)];have:=FH k l a (c++[v]) (fun x hx=>h x (ja _ hx));unfold Vf at this;rw[this,La];rfl
theorem OA(k:Int): ∀(l:List zf) (a:List (List zf)) (c:List zf),l.foldl (Vf k) (a,c)=(a++(l.foldl (Vf k) ([],c)).1,(l.foldl (Vf k) ([],c)).2)
 |[],a,c=>by simp
 |v::l,a,c=>by
  rw[Yc,Yc];cases h:v.token.kind==k with
  |true=>
   have e: ∀b,Vf k (b,c) v=(b++[c],[]):=fun b=>by unfold Vf;rw[h];rfl
   rw[e,e,OA k l (a++[c]) [],OA k l ([]++[c]) []];simp
  |false=>
   have e: ∀b,Vf k (b,c) v=(b,c++[v]):=fun b=>by unfold Vf;rw[h];rfl
   rw[e,e,OA k l a (c++[v])]
theorem NA{k:Int}{p:List zf}(h: ∀x∈p,(x.token.kind==k)=false):Sg k p=[p]:=by unfold Sg Rf;rw[FH k p [] [] h];rfl
theorem FP{k:Int}{p v:List zf}{s:zf}(h: ∀x∈p,(x.token.kind==k)=false)(hs:(s.token.kind==k)=true):Sg k (p++s::v)=p::Sg k v:=by
 unfold Sg Rf;rw[List.foldl_append,FH k p [] [] h,Yc];have e:Vf k ([],[]++p) s=([p],[]):=by unfold Vf;rw[hs];rfl
 rw[e,OA k v [p] []];simp
theorem cu{d:zJ}(h:Lf d=true):(∀x∈d.value,badV x=false)/\Og d.value/\Gg d.value:=by have h4:=(uh h).body;unfold Hl at h4;simp only[Ea,Md]at h4;obtain⟨a,b⟩:=jM h4.2.2;exact⟨fun x hx=>by have:=List.any_eq_false.1 h4.1 x hx;simpa using this,a,b⟩
theorem RV{d:zJ}(h: ∀x∈d.value,badV x=false): ∀x∈vlD d,(x.token.kind==17)=false:=by
 intro x hx;unfold vlD impV at hx;simp only[Fb,Nc]at hx;rcases hx with rfl|rfl|rfl|hx|hx
 ·rfl
 ·rfl
 ·rfl
 ·have:=h x hx;unfold badV at this;rw[Lc]at this;exact this.1
 ·cases hi:d.important with
  |false=>rw[hi]at hx;cases hx
  |true=>
   rw[hi,Da]at hx;simp only[Nc,Fb,Xd,uf]at hx;rcases hx with hx|rfl|rfl
   ·unfold preV at hx;split at hx
    ·cases hx
    ·rw[Gc.1 hx];rfl
   ·rfl
   ·rfl
def NW(l:List zJ):List (List zf):=l.map fun d=>vSp::vlD d
theorem nP: ∀{l:List zJ},(∀d∈l,∀x∈d.value,badV x=false)-> ∀{p:List zf},(∀x∈p,(x.token.kind==17)=false)->Sg 17 (p++tailV l)=p::NW l
 |[],_,p,hp=>by rw[show tailV []=[]from rfl,Ra,NA hp];rfl
 |d::r,h,p,hp=>by
  have e2:tailV (d::r)=leaf Gj::((vSp::vlD d)++tailV r):=rfl;have hd:=RV (h d (Db ..));rw[e2,FP hp rfl,nP (fun x hx=>h x (ja _ hx)) (p:=vSp::vlD d) (fun x hx=>by
   rcases Fb.1 hx with rfl|hx
   ·rfl
   ·exact hd x hx)]
  rfl
theorem zBB(p:List zf):trimS (vSp::p)=trimS p:=rfl
theorem KX{v:zf}(h:badV v=false):um v=false:=by unfold badV at h;rw[Lc]at h;exact h.2
theorem yO{v:List zf}(h: ∀x∈v,badV x=false):Dg v=(v,false):=by
 unfold Dg;split
 ·rfl
 ·rename_i t z he;have hv:=CB he;cases !t.isEmpty&&(z.token.kind==1&&lowS z.token.text==impW)with
  |false=>rfl
  |true=>
   rw[Da];split
   ·rfl
   ·rename_i u b hb;have h2:=CB hb;have:b∈v:=by rw[hv];refine Pd _ ((Cm t).subset ?_);rw[h2];simp
    rw[KX (h b this)];rfl
theorem xO{v p:List zf}{m:Str}(hp:p=[]\/p=[vSp])(he:Gg v)(hm:lowS m=impW): ∀{q:List zf},q=[]\/q=[vSp]->Dg (v++p++[leaf QZ]++q++[leaf (tkId m)])=(v,true):=by
 intro q hq;unfold Dg;rw[Iw];have h1:(v++p++[leaf QZ]++q).isEmpty=false:=by cases v<;>cases p<;>rfl
 have h2:trimB (v++p++[leaf QZ]++q)=v++p++[leaf QZ]:=by
  have h3:trimB (v++p++[leaf QZ])=v++p++[leaf QZ]:=by rw[QX];rfl
  rcases hq with rfl|rfl
  ·rw[Ra,h3]
  ·rw[QX,Ha (show isSp vSp=true from rfl),h3]
 simp only[h1,hm,h2,Iw];have h4:trimB (v++p)=v:=by
  rcases hp with rfl|rfl
  ·rw[Ra,he.id]
  ·rw[QX,Ha (show isSp vSp=true from rfl),he.id]
 rw[show(!false&&((1:Int)==1&&impW==impW))=true from rfl,Da,show um (leaf QZ)=true from rfl,Da,h4]
theorem gK{n:Str}(h:Rh n=true):nmD n=n:=by
 have:=(Sn h).2.2.2;unfold nmD;cases hp:List.isPrefixOf [45,45] n with
 |true=>rfl
 |false=>rw[hp,Ba]at this;rw[Ba];exact Ib.1 this
theorem sN{n:Str}{B W:List zf}{v:List zf}(hB:trimS (leaf (tkId n)::leaf Ug::vSp::B)=leaf (tkId n)::leaf Ug::W)(hW:W.dropWhile isSp=v)(hm: ∀w,Dg v=w->Lf ⟨nmD n,w.1,w.2⟩=true):
  oneS (leaf (tkId n)::leaf Ug::vSp::B)=(⟨nmD n,(Dg v).1,(Dg v).2⟩,true):=by
 unfold oneS;rw[hB];have e:(leaf Ug::W).dropWhile isSp=leaf Ug::W:=rfl;have h:=hm _ rfl;simp only[e,hW,h];rfl
theorem dX{n:Str}{B:List zf}(h:Gg B)(h0:B≠[]):trimS (leaf (tkId n)::leaf Ug::vSp::B)=leaf (tkId n)::leaf Ug::vSp::B:=by
 refine wL (fun a t e=>by cases e;rfl) (fun t a e=> ?_);rcases QD B with rfl|⟨u,z,rfl⟩
 ·exact absurd rfl h0
 ·have e2:(leaf (tkId n)::leaf Ug::vSp::(u++[z]))=(leaf (tkId n)::leaf Ug::vSp::u)++[z]:=rfl;rw[e2]at e;have:=List.append_inj_right' e rfl;injection this with this _;rw[<-this];exact h u z rfl
theorem AA{n:Str}{B:List zf}(hh:Og B)(he:Gg B)(hm: ∀w,Dg B=w->Lf ⟨nmD n,w.1,w.2⟩=true):
  oneS (leaf (tkId n)::leaf Ug::vSp::B)=(⟨nmD n,(Dg B).1,(Dg B).2⟩,true):=by
 by_cases h0:B=[]
 ·subst h0;exact sN (W:=[]) rfl rfl hm
 ·exact sN (W:=vSp::B) (dX he h0) (by rw[Oc,Ha (show isSp vSp=true from rfl),hh.id]) hm
theorem kM{B:List zf}{t:ze}(h:isSp (leaf t)=false):Gg (B++[leaf t]):=by intro u z e;have:=List.append_inj_right' e rfl;injection this with this _;rw[<-this];exact h
theorem MN:lowS impW=impW:=RL
theorem dK{d:zJ}(h:Lf d=true):oneS (vlD d)=(d,true):=by
 obtain⟨h1,h2,h3⟩:=cu h;have hn:=gK (uh h).name;unfold vlD impV;obtain⟨n,v,i⟩:=d;simp only at h1 h2 h3 hn ⊢;cases i with
 |false=> rw[Ba,Ra];have hm:=yO h1;rw[AA h2 h3 (fun w hw=>by rw[hm]at hw;rw[<-hw,hn];exact h),hm,hn]
 |true=>
  rw[Da];have e:v++(preV v++[leaf QZ,leaf (tkId impW)])=v++preV v++[leaf QZ]++[]++[leaf (tkId impW)]:=by simp
  have hm:=xO (KW v) h3 MN (.inl rfl:([]:List zf)=[]\/_);rw[e];have h5:=AA (n:=n) (B:=v++preV v++[leaf QZ]++[]++[leaf (tkId impW)]) ?_ (kM rfl) (fun w hw=>by rw[hm]at hw;rw[<-hw,hn];exact h)
  ·rw[h5,hm,hn]
  intro a t ea;cases v with
  |nil=>cases ea;rfl
  |cons b r=>cases ea;exact h2 _ _ rfl
theorem zFi(p:List zf):oneS (vSp::p)=oneS p:=by unfold oneS;rw[zBB]
theorem iP{f:zJ->List zf}: ∀{l a:List zJ},(∀d∈l,oneS (f d)=(d,true))->a.length+l.length<=32->(l.map f).foldl Uh a=a++l
 |[],a,_,_=>by rw[Ra];rfl
 |d::r,a,h,hl=>by
  rw[Ja]at hl;have e:Uh a (f d)=a++[d]:=by unfold Uh;rw[h d (Db ..),Ia (show a.length<32 by omega)];rfl
  rw[Jc,Yc,e,iP (fun x hx=>h x (ja _ hx)) (by rw[Ka,jb];omega),La];rfl
theorem U1{l:List zJ}(h: ∀d∈l,Lf d=true)(hl:l.length<=32):jg (Sg 17 (valJ l))=l:=by
 have h1: ∀d∈l,∀x∈d.value,badV x=false:=fun d hd=>(cu (h d hd)).1;cases l with
 |nil=>rfl
 |cons d r=>
  rw[valJ,nP (fun x hx=>h1 x (ja _ hx)) (RV (h1 d (Db ..)))];unfold jg NW;rw[Yc];have e:Uh [] (vlD d)=[d]:=by unfold Uh;rw[dK (h d (Db ..))];rfl
  rw[e,iP (fun x hx=>by rw[zFi,dK (h x (ja _ hx))]) (by rw[jb];rw[Ja]at hl;omega)];rfl
theorem Mv{w:Str}{V:List zf}(hl:w.length<=4000)(hc:clB w=true)(ht:Zk w=tokL V)(hs:Shp V):Nh w=if 1500<(tokL V).length then([],4)else(jg (Sg 17 V),0):=by
 have hp:=zBb hs;have h1:QW w=if 1500<(tokL V).length then([],4)else(tokL V,0):=by unfold QW;rw[Ga (show¬4000<w.length by omega),aG _ hc,ht]
 unfold Nh;rw[h1];by_cases q:1500<(tokL V).length
 ·rw[Ha q,Ha q];rfl
 ·rw[Ga q]at hp;rw[Ga q,Ga q,Ha rfl,hp,Ha rfl]
theorem JY{l:List zJ}(h: ∀d∈l,Lf d=true/\okT (tokL d.value))(hl:l.length<=32)(hw:(Xj l).length<=4000):Nh (Xj l)=if 1500<(tokL (valJ l)).length then([],4)else(l,0):=by rw[Mv hw (zCP h) (mY h) (zBn fun d hd=>(uh (h d hd).1).err),U1 (fun d hd=>(h d hd).1) hl]
theorem gX(s:Str):wtT (QW s).1<big:=by
 have hbig:big=4194304:=rfl;unfold QW;split
 ·rw[wtT];omega
 split
 ·rw[wtT];omega
 have h1:=OP s;have h2:=vV (Proofs.Cl.cleanS s);show wtT (Zk (Proofs.Cl.cleanS s))<big;omega
theorem zFg{v:List zf}(h:szL v<=5000):okT (tokL v):=fun t ht=>by have:=Sv v t ht;omega
theorem D5(p:List zf):trimS (p++[vSp])=trimS p:=by
 unfold trimS;rw[List.dropWhile_append];cases hd:p.dropWhile isSp with
 |nil=>rfl
 |cons a t=> show trimB ((a::t)++[vSp])=_;rw[QX];rfl
theorem XZ(p:List zf):oneS (p++[vSp])=oneS p:=by unfold oneS;rw[D5]
abbrev hdV(n:Str)(B:List zf):List zf:=leaf (tkId n)::leaf Ug::vSp::B
theorem fJ{n:Str}{B:List zf}(h: ∀x∈B,(x.token.kind==17)=false): ∀x∈hdV n B,(x.token.kind==17)=false:=by
 intro x hx;simp only[Fb]at hx;rcases hx with rfl|rfl|rfl|hx
 ·rfl
 ·rfl
 ·rfl
 ·exact h x hx
theorem iW{v:zf}(h:badV v=false):(v.token.kind==17)=false:=by unfold badV at h;rw[Lc]at h;exact h.1
theorem IE{n:Str}{B:List zf}(h:Shp B):Shp (hdV n B):=Qw rfl (Qw rfl (Qw rfl h))
theorem Vu(n:Str)(B:List zf):tokL (hdV n B)=tkId n::Ug::tkSp::tokL B:=by rw[Dm rfl,Dm rfl,Dm rfl]
theorem ay{d:zJ}(hi:d.important=false)(y:Str):wrD d++y=Zx d.name++58::32::(wrS (tokL d.value)++y):=by unfold wrD;rw[hi,Ba];simp
theorem J3{v p q:List zf}{m:Str}(h:Og v)(hp:v=[]->p=[]):Og (v++p++[leaf QZ]++q++[leaf (tkId m)]):=by
 intro a t e;cases v with
 |nil=>rw[hp rfl]at e;cases e;rfl
 |cons b r=>cases e;exact h _ _ rfl
theorem oP{d:zJ}(hd:Lf d=true){p q:List zf}{m:Str}(hp:p=[]\/p=[vSp])(hp0:d.value=[]->p=[])(hq:q=[]\/q=[vSp])(hm:lowS m=impW):
  oneS (hdV d.name (d.value++p++[leaf QZ]++q++[leaf (tkId m)]))=(⟨d.name,d.value,true⟩,true):=by
 obtain⟨_,h2,h3⟩:=cu hd;have hn:=gK (uh hd).name;have e:=xO (m:=m) hp h3 hm hq;have h:=AA (n:=d.name) (J3 (m:=m) (q:=q) h2 hp0) (kM rfl) (fun w hw=>by rw[e]at hw;rw[<-hw,hn];exact hd);rw[h,e,hn]
theorem wP{d:zJ}(hd:Lf d=true){p q:List zf}{m:Str}(hp:p=[]\/p=[vSp])(hq:q=[]\/q=[vSp]): ∀x∈d.value++p++[leaf QZ]++q++[leaf (tkId m)],(x.token.kind==17)=false:=by
 intro x hx;have hs: ∀r:List zf,(r=[]\/r=[vSp])->x∈r->(x.token.kind==17)=false:=by
  rintro r (rfl|rfl) h
  ·cases h
  ·rw[Gc.1 h];rfl
 simp only[Nc,Gc]at hx;rcases hx with(((hx|hx)|rfl)|hx)|rfl
 ·exact iW ((cu hd).1 x hx)
 ·exact hs p hp hx
 ·rfl
 ·exact hs q hq hx
 ·rfl
theorem NQ{d:zJ}(hd:Lf d=true){p q:List zf}{m:Str}(hp:p=[]\/p=[vSp])(hq:q=[]\/q=[vSp]):Shp (d.value++p++[leaf QZ]++q++[leaf (tkId m)]):=by
 have hs: ∀r:List zf,(r=[]\/r=[vSp])->Shp r:=by
  rintro r (rfl|rfl)
  ·exact Ni
  ·exact Qw rfl Ni
 exact((((rE (uh hd).err).app (hs p hp)).app (Qw rfl Ni)).app (hs q hq)).app (Qw rfl Ni)
abbrev impU:Str:=[73,77,80,79,82,84,65,78,84]
theorem KY{d:zJ}(hd:Lf d=true)(ht:okT (tokL d.value))(hi:d.important=false)(hl:(wrD d).length<=3900):
  Nh (wrD d++33::impU)=([⟨d.name,d.value,true⟩],0)\/Nh (wrD d++33::impU)=([],4):=by
 obtain⟨n1,_,n3,_⟩:=Sn (uh hd).name;have hv:=val_ok hd ht;have e:=ay hi (33::impU);have htk:Zk (wrD d++33::impU)=tokL (hdV d.name (d.value++[]++[leaf QZ]++[]++[leaf (tkId impU)])):=by rw[e,Jr n1 n3 hv (.inr ⟨_,_,rfl, .inr (.inr (.inr ⟨rfl,by decide⟩))⟩),show past spB (33::impU)=33::impU from rfl,ite_self,BH _ (by decide)];have:=fE (n:=impU) (y:=[]) (by decide) (by decide) (.inl rfl);rw[Ra,show Zx impU=impU by decide+kernel,Ll]at this;rw[this,Vu,Ra,Ra,Qy,Qy,La];rfl
 have hc:clB (wrD d++33::impU)=true:=by rw[qp,cl_D hd ht];rfl
 rw[Mv (by rw[Ka];simp only[Ja,Pb];omega) hc htk (IE (NQ hd (.inl rfl) (.inl rfl)))];split
 ·exact .inr rfl
 ·left;rw[NA (fJ (wP hd (.inl rfl) (.inl rfl)))];unfold jg Uh;rw[Yc,oP hd (.inl rfl) (fun _=>rfl) (.inl rfl) (by decide+kernel)];rfl
abbrev impL:Str:=32::33::32::(impW++[32,59,32])
theorem PZ{d:zJ}(hd:Lf d=true)(ht:okT (tokL d.value))(hi:d.important=false)(hl:(wrD d).length<=3900):
  Nh (wrD d++impL)=([⟨d.name,d.value,true⟩],0)\/Nh (wrD d++impL)=([],4):=by
 obtain⟨n1,_,n3,_⟩:=Sn (uh hd).name;have hv:=val_ok hd ht;have e:=ay hi impL;have hp:=KW d.value;have hp0:d.value=[]->preV d.value=[]:=fun h=>by unfold preV;rw[Ha h]
 have h1:Zk [32,59,32]=[tkSp,Gj,tkSp]:=by rw[Yn,show past spB [59,32]=[59,32]from rfl,vG (k:=17) (by decide) (by decide) rfl (by decide),Yn,show past spB []=[]from rfl,Ll]
 have h2:Zk (33::32::(impW++[32,59,32]))=QZ::tkSp::tkId impW::[tkSp,Gj,tkSp]:=by rw[BH _ (by decide),Yn,show past spB (impW++[32,59,32])=impW++[32,59,32]from rfl,UN (RD _),h1]
 have htk:Zk (wrD d++impL)=tokL ((hdV d.name (d.value++preV d.value++[leaf QZ]++[vSp]++[leaf (tkId impW)])++[vSp])++leaf Gj::[vSp]):=by
  rw[e,Jr n1 n3 hv (RD _),Qy,Qy,Vu,Qy,Qy,Qy,Qy];by_cases h:d.value=[]
  ·rw[Ha h,hp0 h,show past spB impL=33::32::(impW++[32,59,32])from rfl,h2];show tkId d.name::Ug::tkSp::(tokL d.value++_)=(tkId d.name::Ug::tkSp::((((tokL d.value++[])++[QZ])++[tkSp])++[tkId impW]))++[tkSp]++[Gj,tkSp];simp
  ·have h3:preV d.value=[vSp]:=by unfold preV;rw[Ga h]
   rw[Ga h,h3,Yn,show past spB (33::32::(impW++[32,59,32]))=33::32::(impW++[32,59,32])from rfl,h2];show tkId d.name::Ug::tkSp::(tokL d.value++_)=(tkId d.name::Ug::tkSp::((((tokL d.value++[tkSp])++[QZ])++[tkSp])++[tkId impW]))++[tkSp]++[Gj,tkSp];simp
 have hc:clB (wrD d++impL)=true:=by rw[qp,cl_D hd ht];rfl
 have hs:Shp ((hdV d.name (d.value++preV d.value++[leaf QZ]++[vSp]++[leaf (tkId impW)])++[vSp])++leaf Gj::[vSp]):=
  ((IE (NQ hd hp (.inr rfl))).app (Qw rfl Ni)).app (Qw rfl (Qw rfl Ni))
 rw[Mv (by rw[Ka,show impL.length=15 from rfl];omega) hc htk hs];split
 ·exact .inr rfl
 ·left;have h17: ∀x∈hdV d.name (d.value++preV d.value++[leaf QZ]++[vSp]++[leaf (tkId impW)])++[vSp],(x.token.kind==17)=false:=by
   intro x hx;rcases Nc.1 hx with hx|hx
   ·exact fJ (wP hd hp (.inr rfl)) x hx
   ·rw[Gc.1 hx];rfl
  rw[FP h17 rfl,NA (p:=[vSp]) (fun x hx=>by rw[Gc.1 hx];rfl)];have e2:oneS [vSp]=noD:=rfl;unfold jg Uh;rw[Yc,XZ,oP hd hp hp0 (.inr rfl) MN,Yc,e2];rfl
theorem l6(c:UInt8)(h1:97<=c.toNat)(h2:c.toNat<=122):letB c=true/\digB c=false/\letB (c - 32)=true/\digB (c - 32)=false/\Jh (c - 32)=c/\Jh c=c/\c≠45/\c - 32≠45/\c≠0/\c - 32≠0/\c≠92:=by
 have k1: ∀n:Nat,n<256->97<=(UInt8.ofNat n).toNat->(UInt8.ofNat n).toNat<=122->letB (UInt8.ofNat n)=true/\digB (UInt8.ofNat n)=false/\letB (UInt8.ofNat n - 32)=true/\digB (UInt8.ofNat n - 32)=false/\Jh (UInt8.ofNat n - 32)=UInt8.ofNat n:=by decide+kernel
 have k2: ∀n:Nat,n<256->97<=(UInt8.ofNat n).toNat->(UInt8.ofNat n).toNat<=122->Jh (UInt8.ofNat n)=UInt8.ofNat n/\(UInt8.ofNat n - 32==45)=false/\(UInt8.ofNat n - 32==0)=false:=by decide+kernel
 have a:=k1 c.toNat (Ab c);have b:=k2 c.toNat (Ab c);rw[xc]at a b;obtain⟨a1,a2,a3,a4,a5⟩:=a h1 h2;obtain⟨b1,b2,b3⟩:=b h1 h2;have ne: ∀x:UInt8,x.toNat<97->c≠x:=fun x hx e=>by rw[e]at h1;omega
 exact⟨a1,a2,a3,a4,a5,b1,ne 45 (by decide),Fa.1 b2,ne 0 (by decide),Fa.1 b3,ne 92 (by decide)⟩
theorem GN{c:UInt8}{r:Str}(h1:letB c=true)(h2:digB c=false)(h3:c≠45):Zx (c::r)=c::encW false 0 r:=by
 have hd:((c::r:Str)==[45])=false:=by rw[Fa];intro e;injection e with e _;exact h3 e
 have hf:Qp (c::r)=1:=by unfold Qp;rw[Ga];show¬(((45:UInt8)==c)&&true)=true;rw[Fa.2 (fun e=>h3 e.symm)];decide
 unfold Zx;rw[hd,hf,encW];unfold pcW;rw[h1,h2];rfl
theorem zEJ(c:UInt8): ∃t,escC c=92::t:=by
 unfold escC;cases decide (32<c.toNat)&&decide (c.toNat<127)&& !digB c&& !alB c with
 |true=>exact⟨_,rfl⟩
 |false=>exact⟨_,rfl⟩
theorem X3{n t:Str}{c:UInt8}(h:Zx n=c::t)(hc:c≠92): ∃r,n=c::r:=by
 cases n with
 |nil=>unfold Zx at h;rw[encW]at h;cases h
 |cons a r=>
  unfold Zx at h;rw[encW]at h;unfold pcW at h;cases hb:letB a&&(Qp (a::r)==0|| !digB a)&& !((a::r:Str)==[45])with
  |true=>rw[hb,Da]at h;injection h with h _;exact⟨r,by rw[h]⟩
  |false=> rw[hb,Ba]at h;obtain⟨u,e⟩:=zEJ a;rw[e]at h;injection h with h _;exact absurd h.symm hc
theorem RZ{d:zJ}(hd:Lf d=true)(ht:okT (tokL d.value))(hi:d.important=false)(hl:(wrD d).length<=3900){c:UInt8}{t:Str}(hw:wrD d=c::t)(h1:97<=c.toNat)(h2:c.toNat<=122)(hr:Nh (wrD d)=([d],0)):
  Nh ((c - 32)::t)=([d],0):=by
 obtain⟨k1,k2,k3,k4,k5,k6,k7,k8,k9,k10,k11⟩:=l6 c h1 h2;obtain⟨n1,_,n3,n4⟩:=Sn (uh hd).name;have hv:=val_ok hd ht;have e:=ay hi [];rw[Ra,Ra]at e;obtain⟨a,u,hn⟩:=lg (Ei (xh n1));have hca:a=c:=by rw[e,hn]at hw;injection hw
 subst hca;obtain⟨r,hname⟩:=X3 hn k11;have e1:wrD d=a::(encW false 0 r++58::32::wrS (tokL d.value)):=by rw[e,hname,GN k1 k2 k7];rfl
 have e2:(a - 32)::t=Zx ((a - 32)::r)++58::32::(wrS (tokL d.value)++[]):=by rw[e1]at hw;injection hw with _ hw;rw[<-hw,GN k3 k4 k8,Ra];rfl
 have hnul:Zi ((a - 32)::r)=true:=by rw[hname]at n3;obtain⟨_,q⟩:=QQ n3;unfold Zi at q ⊢;rw[Jd,q,Fa.2 k10];rfl
 have hlow:nmD ((a - 32)::r)=d.name:=by
  have hp: ∀b:UInt8,b≠45->List.isPrefixOf [45,45] (b::r)=false:=fun b hb=>by show(((45:UInt8)==b)&&_)=false;rw[Fa.2 (fun e=>hb e.symm)];rfl
  unfold nmD;rw[hp _ k8,Ba];rw[hname,hp _ k7,Ba]at n4;have n5:=Ib.1 n4;rw[hname,<-n5];unfold lowS;rw[Jc,Jc,k5,k6]
 have htk:Zk ((a - 32)::t)=tokL (hdV ((a - 32)::r) d.value):=by rw[e2,Jr (by simp) hnul hv (.inl rfl),show past spB []=[]from rfl,ite_self,Ll,Ra,Vu]
 have htk0:Zk (wrD d)=tokL (hdV d.name d.value):=by have e3:=ay hi [];rw[Ra]at e3;rw[e3,Jr n1 n3 hv (.inl rfl),show past spB []=[]from rfl,ite_self,Ll,Ra,Vu]
 have hsh: ∀n,Shp (hdV n d.value):=fun n=>IE (rE (uh hd).err);have hclen:t.length+1<=3900:=by rw[hw]at hl;simpa using hl
 have hc:clB ((a - 32)::t)=true:=by rw[e2,Ra,qp,show clB (Zx ((a - 32)::r))=true from Lj _ _ _,show 58::32::wrS (tokL d.value)=([58,32]:Str)++wrS (tokL d.value)from rfl,qp,(xA hv.r).2];rfl
 rw[Mv (by omega) (cl_D hd ht) htk0 (hsh _)]at hr;rw[Mv (by rw[Ja];omega) hc htk (hsh _)];rw[Vu]at hr ⊢;simp only[Ja]at hr ⊢;split at hr
 ·cases hr
 ·rename_i q;rw[Ga q];obtain⟨b1,b2,b3⟩:=cu hd;rw[NA (fJ fun x hx=>iW (b1 x hx))];have hm:=yO b1;have h1:=AA (n:=(a - 32)::r) b2 b3 (fun w hw=>by rw[hm]at hw;rw[<-hw,hlow];exact hd);unfold jg Uh;rw[Yc,h1,hm,hlow];obtain⟨n,v,i⟩:=d;simp only at hi;subst hi;rfl
structure SzD (d:zJ):Prop where
 v:szL d.value<=big
 n:d.name.length<=big
theorem zBP(x:zJ):jf (Im x)=3+x.name.length+zL Zp x.value:=by unfold Im;simp only[jf,bPV,zL];omega
theorem zD6{d:zJ}(h:jf (Im d)<=1048576):SzD d:=by have hbig:big=4194304:=rfl;have h1:=zFM d.value;rw[zBP]at h;exact⟨by omega,by omega⟩
theorem zET{l:List zJ}(h: ∀d∈l,SzD d)(hlen:l.length<=big): ∃g,ww l=some g/\(g=false->l.length<=40/\ ∀d∈l,d.name.length+szL d.value<=300):=by
 have hbig:big=4194304:=rfl;unfold ww;by_cases h40:40<l.length
 ·rw[Ia (by omega),Da];exact⟨true,rfl,fun e=>by cases e⟩
 ·rw[Ya (by omega),Ba];refine I4 (fun s=> ∃(i n:Nat),s=((n:Int),(i:Int))/\i<=l.length/\n<=300/\ ∀d∈l.take i,d.name.length+szL d.value<=300) (fun s=>l.length - s.2.toNat) (fun g=>g=false->l.length<=40/\ ∀d∈l,d.name.length+szL d.value<=300) ?_ ⟨0,0,rfl,by omega,by omega,(fun d hd=>by cases hd)⟩;rintro _ ⟨i,n,rfl,hi,hn,hlt⟩;simp only[zb];rcases Ld i l.length with hh|hh
  ·obtain⟨hv,hnm⟩:=h _ (Ic hh);obtain⟨r,hr,r0,r1,r2⟩:=size_le (m:=300) hv (by omega);replace hr:qV (l[i].value,300)=some r:=hr;obtain⟨k,rfl⟩: ∃k:Nat,r=(k:Int):=⟨r.toNat,by omega⟩;have e2:w64 ((n:Int)+w64 ((l[i].name.length:Int)+(k:Int)))=((n+(l[i].name.length+k):Nat):Int):=by rw[Zh (n:=(l[i].name.length:Int)+(k:Int)) (by omega) (by omega),Zh (by omega) (by omega)];omega
   simp only[ql hh,Da,ZA hh,Aa,hr,e2];by_cases hb:n+(l[i].name.length+k)>300
   ·rw[Ia (show((n+(l[i].name.length+k):Nat):Int)>300 by omega)];simp only[aa,Zb,Aa,Da];exact .inr (.inr ⟨true,rfl,fun e=>by cases e⟩)
   ·rw[Ya (show¬((n+(l[i].name.length+k):Nat):Int)>300 by omega)];simp only[Va,zA,Aa,Ba,NM hv];cases hd:decide ((QN l[i].value:Int)>40)with
    |true=>exact .inr (.inr ⟨true,rfl,fun e=>by cases e⟩)
    |false=>
     refine .inl ⟨_,rfl,⟨i+1,n+(l[i].name.length+k),by rw[Zh (by omega) (by omega)];rfl,by omega,by omega,?_⟩,by simp only;rw[Zh (by omega) (by omega)];omega⟩;rw[Tc hh];intro d hd;rcases Nc.1 hd with hd|hd
     ·exact hlt d hd
     ·rw[Gc]at hd;subst hd;omega
  ·have:i=l.length:=by omega
   subst this;simp only[Ki,Ba];rw[bf]at hlt;exact .inr (.inl ⟨(),false,(by first|rfl|trivial),rfl,fun _=>⟨by omega,hlt⟩⟩)
theorem lW{x:List zf}(h:szL x<big):Bv x=some (if errS x=0 then(0,jg (Sg 17 x))else(errS x,[])):=by
 unfold Bv;rw[V3 (k:=17) (by omega)];simp only[zb,Aa];by_cases he:errS x=0
 ·rw[Ha he,Ga (by omega),Ha he];obtain⟨hl,hp⟩:=SY h;simp only[show((0:Int) != 0)=false from rfl,Ba];generalize Sg 17 x=ps at*;refine Rw (fun z=> ∃i:Nat,z=((i:Int),jg (ps.take i))/\i<=ps.length) (fun z=>ps.length - z.1.toNat) _ ?_ ⟨0,rfl,Dc _⟩;rintro _ ⟨i,rfl,hi⟩;rcases Ld i ps.length with hh|hh
  ·refine .inl ⟨_,?_,⟨i+1,rfl,hh⟩,by simp only[Eb];omega⟩;have hq:=eY (ps.take i);rw[WY hh];simp only[ql hh,Da,ZA hh,Aa,K6 (hp _ (Ic hh))];obtain⟨a,ha⟩: ∃a,jg (ps.take i)=a:=⟨_,rfl⟩;rw[ha]at hq ⊢;unfold Uh;have hd:decide ((a.length:Int)<32)=decide (a.length<32):=by
    by_cases q:a.length<32
    ·rw[Ia q,Ia (by omega)]
    ·rw[Ya q,Ya (by omega)]
   rw[hd,zC (ap48 hq)];have hw:w64 ((i:Int)+1)=((i+1:Nat):Int):=Zy hh hl;cases (oneS ps[i]).2<;>cases decide (a.length<32)<;>simp only[Da,Ba,zh,hw,ma,Lb]
  ·have:i=ps.length:=by omega
   subst this;refine .inr (.inl ⟨jg ps,?_,rfl⟩);simp only[Ki,Ba,bf]
 ·rw[Ga he,Ga he];simp only[Ue.2 he,Da]
theorem UX(s:Str):ui s=some ((Nh s).2,(Nh s).1):=by
 have hw:=gX s;have hs:=zDK (QW s).1;unfold ui Nh;simp only[fP,zb,Aa,parseF];by_cases h1:(QW s).2=0
 ·rw[Ha h1,h1];simp only[show((0:Int) != 0)=false from rfl,Ba];by_cases h2:(parS (QW s).1).2=0
  ·have h3:=(tX h2).1;rw[Ha h2,h2];simp only[show((0:Int) != 0)=false from rfl,Ba,lW (x:=(parS (QW s).1).1) (by omega),Ha h3,Aa]
  ·rw[Ga h2];simp only[Ue.2 h2,Da]
 ·rw[Ga h1];simp only[Ue.2 h1,Da]
theorem Ko:Pm ()=some true:=by
 have h1:=GU 400 tx5 tk5 (LD (by decide+kernel));have h2:parseF tk5.1=some vv5:=LD (by decide+kernel);have h3:=X6 400 dd5 ls5 (LD (by decide+kernel));have h4:tk5.2=0/\vv5.2=0/\szL vv5.1<big/\errS vv5.1=0:=by decide+kernel
 obtain⟨e1,e2,e3,e4⟩:=h4;unfold Pm VB ui;simp only[h1,zb,Aa,e1,bne_self_eq_false,Ba,h2,e2,lW e3,Ha e4];rw[show jg (Sg 17 vv5.1)=dd5 from rfl,h3];exact congrArg some (by decide+kernel)
theorem O0(c:UInt8)(h1:97<=c.toNat)(h2:c.toNat<=122):ZF (wu8 ((c.toNat:Int) - 32))=some (c - 32):=by
 have: ∀n:Nat,n<256->97<=(UInt8.ofNat n).toNat->(UInt8.ofNat n).toNat<=122->ZF (wu8 (((UInt8.ofNat n).toNat:Int) - 32))=some (UInt8.ofNat n - 32):=by decide+kernel
 have:=this c.toNat (Ab c);rw[xc]at this;exact this h1 h2
theorem H6{d:zJ}(h:SzD d):IC d=some true:=by
 have hbig:big=4194304:=rfl;unfold IC;obtain⟨g,hg,hg2⟩:=zET (l:=[d]) (fun x hx=>by rw[Gc.1 hx];exact h) (by simp;omega);simp only[hg,zb,Aa];cases g with
 |true=>simp only[aa,Zb,Aa,Da,Ko]
 |false=>
  have hsm:=(hg2 rfl).2 d (List.mem_singleton_self _);simp only[Va,zA,T9 h.v h.n,Aa,Ba];cases hd:Lf d with
  |false=>simp only[Ba,show((8:Int) != 0)=true from rfl,Da,Ko,Aa]
  |true=>
   obtain⟨d',hd'⟩: ∃d':zJ,(⟨d.name,d.value,false⟩:zJ)=d':=⟨_,rfl⟩;have hi:d'.important=false:=by rw[<-hd']
   have hdd:Lf d'=true:=by rw[<-hd'];exact hd
   have hok:OkD d':=by rw[<-hd'];exact⟨h.v,h.n,zFg (show szL d.value<=5000 by omega)⟩
   have hs1:Qa (d',d')=some true:=PH hok.v;simp only[Da,show((0:Int) != 0)=false from rfl,Ba,hd',K8 hok,Aa];rw[BX hdd];by_cases hl:3900<(wrD d').length
   ·cases hlong:ED d' with
    |true=>rw[Ha rfl];simp only[show((28:Int) != 0)=true from rfl,Da,Ko,Aa]
    |false=> rw[Ga (by decide)];simp only[show((0:Int) != 0)=false from rfl,Ba,Ia (show((wrD d').length:Int)>3900 by omega),Da,Ko,Aa]
   ·have hlong:ED d'=false:=Ya (by omega);rw[hlong,Ga (by decide)];have c1:QU (wrD d').length ([33,73,77,80,79,82,84,65,78,84]:Str).length=true:=si.2 (by simp only[Ja,Pb];omega);have c2:QU (wrD d').length ([32,33,32,105,109,112,111,114,116,97,110,116,32,59,32]:Str).length=true:=si.2 (by simp only[Ja,Pb];omega);simp only[show((0:Int) != 0)=false from rfl,Ba,Ya (show¬((wrD d').length:Int)>3900 by omega),c1,c2,zV,UX,Aa];have r1:Nh (wrD d')=([d'],0)\/Nh (wrD d')=([],4):=by
     have:=JY (l:=[d']) (fun x hx=>by rw[Gc.1 hx];exact⟨hdd,hok.t⟩) (by simp) (by rw[Xj,show ah []=[]from rfl,Ra];omega);rw[Xj,show ah []=[]from rfl,Ra]at this;rw[this];split
     ·exact .inr rfl
     ·exact .inl rfl
    have r2:=KY hdd hok.t hi (by omega);have r3:=PZ hdd hok.t hi (by omega);have e2:wrD d'++([33,73,77,80,79,82,84,65,78,84]:Str)=wrD d'++33::impU:=rfl;have e3:wrD d'++([32,33,32,105,109,112,111,114,116,97,110,116,32,59,32]:Str)=wrD d'++impL:=rfl;rw[e2,e3];rcases r1 with r1|r1
    rotate_left
    ·rw[r1];rfl
    rcases r2 with r2|r2
    rotate_left
    ·rw[r1,r2];rfl
    rcases r3 with r3|r3
    rotate_left
    ·rw[r1,r2,r3];rfl
    rw[r1,r2,r3];obtain⟨m,hm⟩: ∃m:zJ,(⟨d'.name,d'.value,true⟩:zJ)=m:=⟨_,rfl⟩;have hmi:m.important=true:=by rw[<-hm]
    have hmd:(⟨m.name,m.value,false⟩:zJ)=d':=by rw[<-hm,<-hd']
    have hs2:Qa (m,m)=some true:=PH (by rw[<-hm];exact hok.v);have hs3:Es ([d'],[d'])=some true:=F5 ⟨by simp;omega,fun x hx=>by rw[Gc.1 hx];exact hok.v⟩;obtain⟨c,t,hw⟩:=lg (show wrD d'≠[] by unfold wrD;simp);have e0:geti (wrD d') 0=some c:=by rw[hw];rfl
    simp only[hm,show((0:Int) != 0)=false from rfl,Ba,jb,show(((1:Nat):Int) != 1)=false from rfl,show decide ((0:Int)<((1:Nat):Int))=true from rfl,Td,zV,Va,zA,show([d']:List zJ)[0]? =some d' from rfl,show([m]:List zJ)[0]? =some m from rfl,Aa,hs1,hs2,hmi,aa,List.set_cons_zero,hmd,e0];by_cases h97:97<=c.toNat
    ·rw[Ia (show(c.toNat:Int)>=97 by omega)];simp only[zA,Aa,Da];by_cases h122:c.toNat<=122
     ·rw[Ia (show(c.toNat:Int)<=122 by omega)];have e4:decide ((1:Int)<=((wrD d').length:Int))=true:=Ia (by rw[hw,Ja];omega);have e5:List.drop 1 (wrD d')=t:=by rw[hw];rfl
      have e6:QU 1 t.length=true:=by
       have h6:(wrD d').length=t.length+1:=by rw[hw];rfl
       exact si.2 (by omega)
      simp only[Da,O0 c h97 h122,Aa,e4,e5,jb,e6,zV,show([c - 32]:Str)++t=(c - 32)::t from rfl,RZ hdd hok.t hi (by omega) hw h97 h122 r1,show((0:Int)==0)=true from rfl,zA,hs3,Ko]
     ·rw[Ya (show¬(c.toNat:Int)<=122 by omega)];simp only[Ba,Ko,Aa]
    ·rw[Ya (show¬(c.toNat:Int)>=97 by omega)];simp only[Zb,Aa,Ba,Ko]
end Go.Lv.VT
