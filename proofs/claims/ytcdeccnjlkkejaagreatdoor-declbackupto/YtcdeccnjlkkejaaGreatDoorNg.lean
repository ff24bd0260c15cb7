/- Names as glue writes them (glue.Name); beside PdWrt. -/
import Derived.Test.YtcdeccnjlkkejaaGreatDoorNd
import Derived.Test.YtcdeccnjlkkejaaGreatDoorNf
set_option linter.unusedSimpArgs false
set_option linter.unusedVariables false
namespace Go.Lv.VT
set_option maxRecDepth 100000
theorem zAR{l:Str}{k:Nat}(hl:l.length<=100000):Np (l,(k:Int))=some (encW (ah k l) k l):=by
 unfold Np;rw[qY (WK (dash:=ah k l) (k:=k) (l:=l) (acc:=[]) hl (by simp) (fun i a hi ha=> ?_) (fun a=> ?_))]
 ·rfl
 ·have d1:decide ((i:Int)<(l.length:Int))=true:=Ia (by omega);have d2:geti l (i:Int)=some l[i]:=Zq hi;have d3:decide ((i:Int)>=(k:Int))=(k - i==0):=by
   by_cases h:k<=i
   ·rw[Ia (by omega),show k - i=0 by omega];rfl
   ·rw[Ya (by omega)];symm;rw[Fa];omega
  have d4:((k:Int)==0)=(k==0):=by
   by_cases h:k=0
   ·subst h;rfl
   ·rw[Fa.2 h,Fa];omega
  simp only[d1,Ca,d2,d3,d4,zb,Aa,yK,YF];have hd:(bif k==0 then true else !(l==[45]))= !ah k l:=by unfold ah;cases k==0<;>cases l==[45]<;>rfl
  rw[hd];unfold pcW;cases letB l[i]with
  |false=>
   cases k - i==0<;>simp only[zo,ja,Ua,Rc,Nb,Pb,Ca,Ba,Aa,Om l[i] (show a.length<=1000000000 by omega),zh]
  |true=> cases k - i==0<;>cases digB l[i]<;>cases ah k l<;>simp only[zo,ja,Ua,Rc,Nb,Pb,Hf,Fe,ma,Uc,Yd,Ca,Ba,Aa,Fv,zB (Pg (show a.length+1<=2000000000 by omega)),Om l[i] (show a.length<=1000000000 by omega),zh]
 ·simp only;rw[Ya (by omega),Ba]
theorem zCA{l:Str}(hl:l.length<=1000):ko l=some (if l.isEmpty|| !Zp l then([],8)else(ZT l,0)):=by
 unfold ko;simp only[zb,Lt];cases l with
 |nil=>rfl
 |cons c r=>
  rw[show((c::r:Str)==[])=false from rfl];simp only[zo,Ua,Ca,Ba,Aa,XE];rw[show(c::r:Str).isEmpty=false from rfl,Uc];cases Zp (c::r)with
  |false=>rfl
  |true=>
   rw[ja,Ba,Sr];simp only[Aa,zAR (show(c::r:Str).length<=100000 by omega)];have hd:ah (QT (c::r)) (c::r)=((c::r:Str)==[45]):=by unfold ah QT;split<;>rfl
   rw[hd];have:=Io ((c::r:Str)==[45]) (QT (c::r)) (c::r);rw[Ya (by omega),Ba,Ya (by omega),Ba];rfl
def sfB(d:UInt8)(y:Str):Prop:=d=58\/d=59\/d=32\/d=33/\atS y 0≠45
structure Sf (d:UInt8) (y:Str):Prop where
 f:fstB d=false
 l:letB d=false
 g:digB d=false
 s:Xf d=false
 a:(d==45)=false
 b:(d==46)=false
 c:(d==92)=false
 n:(d==10)=false
 e:(d==40)=false
 p:(d==37)=false
 m:d≠42
 o:[33,45,45].isPrefixOf (d::y)=false
 x:(d==101||d==69)=false
 k:d≠60/\d≠62
theorem WV{d:UInt8}{y:Str}(h:sfB d y):Sf d y:=by
 rcases h with rfl|rfl|rfl|⟨rfl,h⟩
 ·exact⟨rfl,rfl,rfl,rfl,rfl,rfl,rfl,rfl,rfl,rfl,by decide,rfl,rfl,by decide⟩
 ·exact⟨rfl,rfl,rfl,rfl,rfl,rfl,rfl,rfl,rfl,rfl,by decide,rfl,rfl,by decide⟩
 ·exact⟨rfl,rfl,rfl,rfl,rfl,rfl,rfl,rfl,rfl,rfl,by decide,rfl,rfl,by decide⟩
 ·refine⟨rfl,rfl,rfl,rfl,rfl,rfl,rfl,rfl,rfl,rfl,by decide,?_,rfl,by decide⟩;show((33:UInt8)==33&&[45,45].isPrefixOf y)=false;rw[nK (by decide) (Fa.2 h),Rc]
theorem Rq{d:UInt8}{y:Str}(h:Sf d y)(q:Str):escS (q++d::y)=escS q:=by
 match q with
 |[]=>show(d==92&&_)=false;rw[h.c];rfl
 |[c]=>show(c==92&& !(d==10))=(c==92&& !((0:UInt8)==10));rw[h.n];rfl
 |c::e::t=>rfl
theorem Kl{d:UInt8}{y:Str}(h:Sf d y)(q:Str):nmS (q++d::y)=nmS q:=by
 have h0:escS (d::y)=false:=Rq h []
 match q with
 |[]=> show(if d==45 then _ else fstB d||escS (d::y))=false;rw[h.a,Ga (by decide),h.f,h0];rfl
 |[c]=> unfold nmS;show(if c==45 then fstB d||d==45||escS (d::y)else fstB c||escS ([c]++d::y))=(if c==45 then fstB 0||(0:UInt8)==45||escS []else fstB c||escS [c]);rw[Rq h [c],h0,h.f,h.a];rfl
 |c::e::t=> unfold nmS;show(if c==45 then fstB e||e==45||escS ((e::t)++d::y)else fstB c||escS ((c::e::t)++d::y))=(if c==45 then fstB e||e==45||escS (e::t)else fstB c||escS (c::e::t));rw[Rq h,Rq h]
theorem sD{d:UInt8}{y:Str}(h:Sf d y)(q:Str):digB (atS (q++d::y) 0)=digB (atS q 0):=by
 cases q with
 |nil=>show digB d=false;exact h.g
 |cons c t=>rfl
theorem dG{d:UInt8}{y:Str}(h:Sf d y)(q:Str):unsign (q++d::y)=unsign q++d::y:=by
 cases q with
 |nil=>show(if Xf d then _ else _)=_;rw[h.s];rfl
 |cons c t=>exact(jk (d::y) (by simp)).1
theorem zBD{d:UInt8}{y:Str}(h:Sf d y)(q:Str):undot (q++d::y)=undot q++d::y:=by
 cases q with
 |nil=>show(if d==46 then _ else _)=_;rw[h.b];rfl
 |cons c t=>exact eG (d::y) (by simp)
theorem zGa{d:UInt8}{y:Str}(h:Sf d y)(q:Str):nbS (q++d::y)=nbS q:=by unfold nbS;rw[dG h,zBD h,sD h]
theorem UW{d:UInt8}{y m:Str}(hm: ∀b∈m,b≠d): ∀q:Str,m.isPrefixOf (q++d::y)=m.isPrefixOf q:=by
 induction m with
 |nil=>intros;rw[List.isPrefixOf,List.isPrefixOf]
 |cons a m ih=>
  intro q;cases q with
  |nil=> have:(a==d)=false:=Fa.2 (hm a (Ab ..));show((a==d)&&m.isPrefixOf y)=false;rw[this];rfl
  |cons b t=>rw[Ra,List.isPrefixOf,List.isPrefixOf,ih (fun b hb=>hm b (aa _ hb))]
theorem zEL{d:UInt8}{y:Str}(h:Sf d y)(q:Str):[60,33,45,45].isPrefixOf (q++d::y)=[60,33,45,45].isPrefixOf q:=by
 have h45:(45:UInt8)≠d:=fun e=>by have:=h.a;rw[<-e]at this;cases this
 match q with
 |[]=> show((60:UInt8)==d&&_)=false;rw[Fa.2 (fun e=>h.k.1 e.symm)];rfl
 |[c]=> show((60:UInt8)==c&&[33,45,45].isPrefixOf (d::y))=((60:UInt8)==c&&false);rw[h.o]
 |c::e::t=> show((60:UInt8)==c&&((33:UInt8)==e&&[45,45].isPrefixOf (t++d::y)))=((60:UInt8)==c&&((33:UInt8)==e&&[45,45].isPrefixOf t));rw[UW (m:=[45,45]) (fun b hb=>by simp only[Cb,Xd,Bg,or_self]at hb;rw[hb];exact h45)]
theorem sV{d:UInt8}{y:Str}(h:Sf d y)(c:UInt8)(r:Str):brS c (r++d::y)=brS c r:=by
 have e:c::(r++d::y)=(c::r)++d::y:=rfl;have h45:(45:UInt8)≠d:=fun e=>by have:=h.a;rw[<-e]at this;cases this
 have hl:letB (atS (r++d::y) 0)=letB (atS r 0):=by
  cases r with
  |nil=>show letB d=false;exact h.l
  |cons c t=>rfl
 unfold brS;rw[e,zGa h,UW (m:=[45,45,62]) (fun b hb=>by
  simp only[Cb,Xd,Bg]at hb;rcases hb with rfl|rfl|rfl
  ·exact h45
  ·exact h45
  ·exact fun e=>h.k.2 e.symm),zEL h,Kl h,Kl h,hl,Rq h]
theorem zDB{d:UInt8}{y:Str}(hs:Sf d y){c:UInt8}{r:Str}(h:(Zo (c::r)).2≠[]):Zo (c::(r++d::y))=((Zo (c::r)).1,(Zo (c::r)).2++d::y):=by
 refine Uv (sV hs c r) h (fun _=>Kl hs r) (fun hb=> ?_);rw[qf,hb,Wi]at h;obtain⟨a,b⟩:=Ez (q:=c::r) (x:=d::y) (eH h) (fun _=>hs.g) (fun hn=>by
  generalize (z8 (Jf (c::r))).1=w at hn ⊢;rw[si]at hn ⊢;cases w with
  |nil=>show((d==101||d==69)&&_)=false;rw[hs.x];rfl
  |cons c t=>
   show((c==101||c==69)&&digB (atS (unsign (t++d::y)) 0))=false;rw[dG hs,sD hs];exact hn)
 exact⟨a,b,Kl hs _⟩
theorem zEM{d:UInt8}{y:Str}(hs:Sf d y){q:Str}(h:cmtS q≠[]):cmtS (q++d::y)=cmtS q++d::y:=by
 refine Er h ?_;have hp:=Dr q;cases hq:cmtS q with
 |nil=>exact absurd hq h
 |cons c t=>
  cases t with
  |nil=> show((47==c)&&((42==d)&&_))=false;rw[Fa.2 (fun e=>hs.m e.symm),Nb,Rc]
  |cons e u=>rw[nN,<-hq];exact hp
theorem NW{d:UInt8}{y:Str}(hs:Sf d y): ∀{ts:List ze} {q R:Str},run q ts R->R≠[]->run (q++d::y) ts (R++d::y)
 |[],q,R,h,_=>by rw[run]at h;subst h;rfl
 |t::ts,q,R,h,hl=>by
  obtain⟨c,r,h1,h2,h3⟩:=h;have h4:(Zo (c::r)).2≠[]:=by intro e;have:=(Ir h3).length_le;rw[e]at this;exact hl (je.1 (by simpa using this))
  have h5:=zDB hs h4;refine⟨c,r++d::y,by rw[zEM hs (by rw[h1];simp),h1];rfl,by rw[h5];exact h2,?_⟩;rw[h5];exact NW hs h3 hl
theorem zEK{d:UInt8}{y:Str}(hs:Sf d y){t:ze}(h:zf3 t)(hb: ¬(t.kind=9/\t.text=[92]))(hu:Hg t=false)(h13:t.kind=13->spB d=false):Zo (txS t++d::y)=(t,d::y):=by
 have hn0:nmS (d::y)=false:=Kl hs [];have ha:atS (d::y) 0=d:=rfl;have hnd0:zq (d::y)=([],d::y):=by rw[zR,Ga (by rw[hs.l];decide),Ga (by rw[show escS (d::y)=false from Rq hs []];decide)]
 have e1:past digB (d::y)=d::y:=by rw[past,hs.g];rfl
 have e2:z8 (d::y)=(d::y,true):=by unfold z8;rw[ha,hs.b];rfl
 have e3:expS (d::y)=none:=by rw[si,ha,hs.x];rfl
 have hnx: ∀(c:UInt8) (r:Str),Zo (c::(r++d::y))=nxB (brS c r) c (r++d::y):=fun c r=>by rw[qf,sV hs]
 cases h with
 |cId l h0 h=>
  have hn:=Oi h0;have hnd:=Vj (d::y) h;rw[hnd0,Va]at hnd;obtain⟨c,r,e⟩:=Bh (Xi hn);rw[vk];have hr:=WO h;rw[e]at hn hr hnd ⊢;rw[Ra,hnx,Jv hn (by rw[hr];intro t e;cases e),Gi];unfold qQ;rw[show c::(r++d::y)=(c::r)++d::y from rfl,hnd];simp only;rw[ha,hs.e,Ga (by decide)]
 |cFn l h0 h=>rw[aj];exact bF h0 h (by unfold Hg at hu;exact hu) _
 |cAt l h0 h=>
  have hnd:=Vj (d::y) h;rw[hnd0,Va]at hnd;rw[om,Ra];have hb6:brS 64 (ZT l++d::y)=6:=by unfold brS;rw[Kl hs,Oi h0];rfl
  rw[qf,hb6,Gq,hnd]
 |cHash l f h0 h hbb=>
  obtain⟨g1,g2,g3⟩:=tO h0 h hbb;have hnd:=WH (f:=f) h (d::y);rw[hnd0,Va]at hnd;rw[dn,Ra];have hb2:brS 35 (ag f l)=2:=by unfold brS;rw[g1];rfl
  have hf:nmS (ag f l)=f:=by
   cases f with
   |true=>exact g2 rfl
   |false=>exact g3 rfl
  rw[hnx,hb2,Jl,hnd,Kl hs,hf]
 |cStr l h=>rw[Ol];exact vz h _
 |cUrl l h=>rw[Gn];exact gF h _
 |cDel c h=>
  have h92:c≠92:=by rintro rfl;exact hb ⟨rfl,rfl⟩
  rw[Pn,Ra,hnx,FX c h h92,Fq,Ob]
 |cNum n f h1 h2 hf=> have he:=Sq (n:=n) (p:= !f) e1 e2 e3;rw[Hw hf]at he;rw[Kn,Wn];unfold zI;rw[ut h1 h2 (by rw[he]),he];simp only;rw[hn0,Ga (by decide),ha,hs.p,Ga (by decide)]
 |cPct n h1 h2=>rw[Jn];exact PG h1 h2 _
 |cDim n u f h1 h2 hf h0 h=>
  have hnm:=ny h0 h;obtain⟨r1,r2⟩:=Az hnm (d::y);have hx:expS (jf u++d::y)=none:=by
   rcases jF h0 h (d::y)with q|⟨e,s,he,hss,_,hu'⟩
   ·exact q
   ·rw[hu',si];have:digB (atS (unsign (s++d::y)) 0)=false:=by rw[dG hs,sD hs];rcases hss with rfl|rfl<;>rfl
    show((e==101||e==69)&&digB (atS (unsign (s++d::y)) 0))=false;rw[this,Rc]
  have he:=Sq (n:=n) (p:= !f) r1 r2 hx;rw[Hw hf]at he;rw[Nn,WG,Wn];unfold zI;rw[ut h1 h2 (by rw[he]),he];simp only;rw[Kl hs,hnm,Ha rfl,IB h0 h,hnd0,Va]
 |cMark k h1 h2=>
  rw[bn h1 h2,rA h1 h2];by_cases hk:k=13
  ·rw[Ha hk,past,h13 hk];rfl
  ·rw[Ga hk]
theorem FV{d:UInt8}{y:Str}(hs:Sf d y){s:Str}{P:List ze}(h:PcT s P)(h13: ∀ts t,P=ts++[t]->t.kind=13->spB d=false):run (s++d::y) P (d::y):=by
 cases h with
 |one t h hb hu=> have hn:=zEK hs h hb hu (h13 [] t rfl);have hp:=Vu (.one t h hb hu) (d::y) hs.m;obtain⟨c,r,e⟩:=Bh (Xh (.one t h hb hu));rw[e]at hn hp ⊢;exact⟨c,r++d::y,ZI hp,by rw[show c::(r++d::y)=(c::r)++d::y from rfl,hn],by rw[show c::(r++d::y)=(c::r)++d::y from rfl,hn];rfl⟩
 |back=> refine⟨92,10::d::y,ZI rfl,by rw[gu],?_⟩;rw[gu];refine⟨10,d::y,ZI rfl,rfl,?_⟩;show past spB (d::y)=d::y;rw[past,h13 [_] tkSp rfl rfl];rfl
 |url l m b h hl hm=>exact fE h hl hm _
theorem zFT{d:UInt8}{y:Str}(hs:Sf d y){b:Str}{ts:List ze}{st:List (List ze×Str)}(h:Syn b ts st)(h13: ∀us t,ts=us++[t]->t.kind=13->spB d=false):run (b++d::y) ts (d::y):=by
 rcases(Ry h).last with⟨_,rfl,rfl⟩|⟨L,B,u,p,R,g1,g2,g3,g4,g5⟩
 ·rfl
 ·have hR:R≠[]:=by intro e;have:=dm g5 (Xh g1);rw[e]at this;exact this (ZI rfl)
  obtain⟨t1,us1,hp1⟩:=pc_P g1;have hpre:=Vu g1 (d::y) hs.m;have h1:=FV hs g1 (fun us t e=>h13 (L++us) t (by rw[g3,e,La]));rw[g3];refine yz (NW hs g4 hR) ?_;rw[hp1]at h1 ⊢;exact(vD (xD g5 (Xh g1) hpre) hpre).2 h1
theorem zGn{d:UInt8}{y:Str}(hs:Sf d y){x:List ze}(hr:di x)(h13: ∀us t,x=us++[t]->t.kind=13->spB d=false):Zy (wrS x++d::y)=x++Zy (d::y):=by obtain⟨st,h⟩:=Jy x.length hr .nil (Xa _);rw[Ob]at h;exact Hm (zFT hs (show Syn (wrS x) x st from h) h13)
theorem fO{c:UInt8}{k:Int}(h1:14<=k)(h2:k<=24)(hc:Dl k=[c])(hp:c≠47)(y:Str):Zy (c::y)=⟨k,[],0,[],false⟩::Zy y:=by have h:=rA (k:=k) (by omega) h2 y;rw[hc,Ga (by omega)]at h;rw[qL (ZI (Jq (Fa.2 hp))),show c::y=[c]++y from rfl,h]
theorem pE(y:Str):Zy (32::y)=tkSp::Zy (past spB y):=by rw[qL (ZI rfl)];rfl
theorem zEm{x:List ze}(hr:di x)(h: ∀t us,x=t::us->t.kind≠13)(y:Str)(hx:x≠[]):past spB (wrS x++y)=wrS x++y:=by
 have ht:=(BH hr).1;cases hw:wrS x with
 |nil=>rw[hw,Qy (ZI rfl)]at ht;exact absurd ht.symm hx
 |cons c r=>
  cases hc:spB c with
  |false=>rw[Ra,past,hc];rfl
  |true=> exfalso;have hcm:cmtS (c::r)=c::r:=ZI (Jq (Fa.2 (by rintro rfl;cases hc)));rw[hw,qL hcm]at ht;refine h _ _ ht.symm ?_;rw[qf,show brS c r=0 by unfold brS;rw[hc];rfl,JD];rfl
def okT(x:List ze):Prop:= ∀t∈x,t.text.length<=5000/\t.unit.length<=5000
structure OkD (d:zM):Prop where
 v:szL d.value<=big
 n:d.name.length<=big
 t:okT (tokL d.value)
theorem zFI{x:List ze}(hg:gluS x=0)(h:okT x):di x:=by obtain⟨_,h1,h2⟩:=YM hg;exact⟨fun t ht=>⟨h1 t ht,h t ht⟩,h2⟩
theorem zFX{v:List zf}(hv:szL v<=big)(h:errS v=0)(hg:gluS (tokL v)=0)(ht:okT (tokL v)):Wo v=some (if 4000<(wrS (tokL v)).length then([],28)else(wrS (tokL v),0)):=by unfold Wo;simp only[zb,RB hv,h,Aa];rw[show((0:Int) != 0)=false from rfl,Ba,iM hv,Aa,jX ht,Ha hg,Aa]
abbrev impT:Str:=[32,33,105,109,112,111,114,116,97,110,116]
def wrD(d:zM):Str:=ZT d.name++([58,32]:Str)++wrS (tokL d.value)++(bif d.important then impT else [])
def Eh(d:zM):Str×Int:=if QZ d=true then(if 4000<(wrD d).length then([],28)else(wrD d,0))else([],8)
structure zF5 (d:zM):Prop where
 name:Yh d.name=true
 err:errS d.value=0
 glu:gluS (tokL d.value)=0
 body:Ml (List.isPrefixOf [45,45] d.name) d.value=true
theorem il{d:zM}(h:QZ d=true):zF5 d:=by unfold QZ at h;simp only[Ea,Jb]at h;exact⟨h.1,h.2.1,h.2.2.1,h.2.2.2.2⟩
theorem Yu{x:Str}(h:Yh x=true):x≠[]/\x.length<=64/\Zp x=true/\(bif List.isPrefixOf [45,45] x then !(x==[45,45])else lowS x==x)=true:=by unfold Yh at h;simp only[Ea,Od,Fa,Ib]at h;exact⟨h.1,h.2.1,h.2.2.1,h.2.2.2⟩
theorem IZ(l:Str):(ZT l).length<=4*l.length:=Io _ _ l
theorem J8{d:zM}(h:OkD d):uo d=some (Eh d):=by
 have hbig:big=4194304:=rfl;unfold uo Eh;rw[OI h.v h.n];simp only[zb,Aa];cases hd:QZ d with
 |false=>rw[Ba,Ga (by decide)];rfl
 |true=>
  obtain⟨h1,h2,h3,_⟩:=il hd;obtain⟨n1,n2,n3,_⟩:=Yu h1;have hne:d.name.isEmpty=false:=by cases hx:d.name with|nil=>exact absurd hx n1|cons a b=>rfl
  have hl:=IZ d.name;rw[Ca,Ha rfl,show((0:Int) != 0)=false from rfl,Ba,zCA (by omega),hne,n3];simp only[ja,Bool.or_self,Rb,Pd,Aa,show((0:Int) != 0)=false from rfl,Ba,zFX h.v h2 h3 h.t];by_cases hw:4000<(wrS (tokL d.value)).length
  ·have:4000<(wrD d).length:=by unfold wrD;rw[Ka,Ka];omega
   rw[Ha hw,Ha this];rfl
  ·rw[Ga hw];have c1:Rf (ZT d.name).length ([58,32]:Str).length=true:=Jm.2 (by simp only[Ja,Sb];omega);have c2:Rf (ZT d.name++([58,32]:Str)).length (wrS (tokL d.value)).length=true:=Jm.2 (by simp only[Ka,Ja,Sb];omega);have c3:Rf (ZT d.name++([58,32]:Str)++wrS (tokL d.value)).length impT.length=true:=Jm.2 (by simp only[Ka,Ja,Sb];omega);simp only[show((0:Int) != 0)=false from rfl,Ba,c1,c2,c3,zX];have hg: ∀n:Nat,decide ((n:Int)>4000)=decide (4000<n):=fun n=>by rw[decide_eq_decide];omega
   unfold wrD;cases d.important with
   |true=>
    simp only[Ca,zh,hg];by_cases q:4000<(ZT d.name++([58,32]:Str)++wrS (tokL d.value)++impT).length
    ·rw[Ia q,Ha q];rfl
    ·rw[Ya q,Ga q];rfl
   |false=>
    simp only[Ba,zh,hg,Va];by_cases q:4000<(ZT d.name++([58,32]:Str)++wrS (tokL d.value)).length
    ·rw[Ia q,Ha q];rfl
    ·rw[Ya q,Ga q];rfl
def Fh(l:List zM):Str:=(l.map fun d=>([59,32]:Str)++wrD d).flatten
def vg:List zM->Str
 |[]=>[]
 |d::r=>wrD d++Fh r
theorem zE1(l:List zM):Lib.join (l.map wrD) [59,32]=vg l:=by
 cases l with
 |nil=>rfl
 |cons d r=> rw[Jc,Lib.join_cons,vg];unfold Lib.joinTail Fh;rw[List.map_map];rfl
theorem IK{M:Nat}: ∀l:List Str,(∀x∈l,x.length<=M)->(Lib.joinTail [59,32] l).length<=(M+2)*l.length
 |[],_=>Xa _
 |x::r,h=>by have h1:=IK r (fun y hy=>h y (aa _ hy));have h2:=h x (Ab ..);have e:Lib.joinTail [59,32] (x::r)=(([59,32]:Str)++x)++Lib.joinTail [59,32] r:=rfl;have e3:(M+2)*(x::r).length=(M+2)*r.length+(M+2):=Nat.mul_succ ..;rw[e,e3,Ka,Ka];simp only[Ja,Sb];omega
theorem zDq{M:Nat}(l:List Str)(h: ∀x∈l,x.length<=M):(Lib.join l [59,32]).length<=(M+2)*l.length:=by
 cases l with
 |nil=>exact Ub _
 |cons x r=> have h1:=IK r (fun y hy=>h y (aa _ hy));have h2:=h x (Ab ..);have e3:(M+2)*(x::r).length=(M+2)*r.length+(M+2):=Nat.mul_succ ..;rw[Lib.join_cons,Ka,e3];omega
theorem GM{d:zM}: ∀{l:List zM},d∈l->(wrD d).length<=(Fh l).length
 |x::r,h=>by
  have e:Fh (x::r)=(([59,32]:Str)++wrD x)++Fh r:=rfl;rw[e,Ka,Ka];rcases Cb.1 h with rfl|h
  ·omega
  ·have:=GM h;omega
theorem zAB{d:zM}{l:List zM}(h:d∈l):(wrD d).length<=(vg l).length:=by
 cases l with
 |nil=>cases h
 |cons x r=>
  rw[vg,Ka];rcases Cb.1 h with rfl|h
  ·omega
  ·have:=GM h;omega
def Gj(d:zM):Bool:=decide (4000<(wrD d).length)
def Iu(l:List zM):Str×Int:=if 32<l.length then([],4)else if l.all QZ=true then(if 4000<(vg l).length then([],28)else(vg l,0))else([],8)
theorem uG{d:zM}(h:QZ d=true):Eh d=if Gj d=true then([],28)else(wrD d,0):=by
 unfold Eh Gj;rw[Ha h];by_cases q:4000<(wrD d).length
 ·rw[Ha q,Ia q,Ha rfl]
 ·rw[Ga q,Ya q,Ga (by decide)]
theorem zCz{l:List zM}(h: ∀d∈l,OkD d):Yk l=some (Iu l):=by
 have hbig:big=4194304:=rfl;unfold Yk;by_cases h32:32<l.length
 ·rw[Ia (by omega),Ca];unfold Iu;rw[Ha h32]
 ·rw[Ya (by omega),Ba];refine Mm (fun z=> ∃i:Nat,z=(((l.take i).any Gj,(i:Int)),(l.take i).map (fun d=>(Eh d).1))/\i<=l.length/\(l.take i).all QZ=true) (fun z=>l.length - z.1.2.toNat) _ ?_ ⟨0,rfl,Ub _,rfl⟩;rintro _ ⟨i,rfl,hi,ha⟩;rcases Xc i l.length with hh|hh
  ·have hd:=J8 (h _ (Ac hh));have hw:w64 ((i:Int)+1)=((i+1:Nat):Int):=Zi hh (by omega);have hap:zH ((l.take i).map (fun d=>(Eh d).1)).length 1 16=true:=Si (by rw[Kb,ic];omega);simp only[Z5 hh,Ca,Zq hh,zb,Aa,hd];cases hs:QZ l[i]with
   |false=>
    refine .inr (.inr ?_);have e:Eh l[i]=([],8):=by unfold Eh;rw[hs,Ga (by decide)]
    have hall:l.all QZ=false:=by rw[List.all_eq_false];exact⟨_,Ac hh,by rw[hs];decide⟩
    rw[e];unfold Iu;rw[Ga h32,hall,Ga (by decide)];rfl
   |true=>
    refine .inl ⟨_,?_,⟨i+1,rfl,hh,?_⟩,by simp only[Db];omega⟩
    ·have e:=uG hs;have h8:((Eh l[i]).2==8)=false:=by rw[e];cases Gj l[i]<;>rfl
     have h0:((Eh l[i]).2 != 0)=Gj l[i]:=by rw[e];cases Gj l[i]<;>rfl
     rw[h8,Ba,zB hap,h0,hw,Bc hh,List.any_append,We];simp only[List.any_cons,List.any_nil,Fe,Jc,Sg,NF]
    ·rw[Bc hh,List.all_append,ha,xc,hs];rfl
  ·have:i=l.length:=by omega
   subst this;rw[ae]at ha ⊢;refine .inr (.inl ⟨(l.any Gj,l.map (fun d=>(Eh d).1)),?_,?_⟩)
   ·simp only[Ph,Ba]
   ·have hall: ∀d∈l,QZ d=true:=Vb.1 ha;have hM: ∀x∈l.map (fun d=>(Eh d).1),x.length<=4000:=by
     intro x hx;obtain⟨d,hd,rfl⟩:=Lb.1 hx;rw[uG (hall d hd)];unfold Gj;by_cases q:4000<(wrD d).length
     ·rw[Ia q,Ha rfl];exact Ub _
     ·rw[Ya q,Ga (by decide)];exact Nat.le_of_not_lt q
    have hle:=zDq _ hM;rw[Kb]at hle;have hn:(Nat.ble (l.map (fun d=>(Eh d).1)).length 1000000&&Nat.ble (Lib.join (l.map (fun d=>(Eh d).1)) [59,32]).length 1000000000)=true:=by rw[Ea,Nat.ble_eq,Nat.ble_eq,Kb];have:(4000+2)*l.length<=(4000+2)*32:=Nat.mul_le_mul_left _ (by omega);omega
    unfold Il Iu;simp only;rw[zB hn,Ga h32,ha,Ha rfl];simp only[Aa];cases hb:l.any Gj with
    |true=> obtain⟨d,hd,hl⟩:=List.any_eq_true.1 hb;have h1:=zAB hd;unfold Gj at hl;rw[Ib]at hl;rw[Ha (show 4000<(vg l).length by omega)];rfl
    |false=>
     have he:l.map (fun d=>(Eh d).1)=l.map wrD:=Lf fun d hd=>by rw[uG (hall d hd),Ga (List.any_eq_false.1 hb d hd)]
     rw[he,zE1,Ba];by_cases q:4000<(vg l).length
     ·rw[Ha q,Ia (by omega)];rfl
     ·rw[Ga q,Ya (by omega)];rfl
abbrev leaf(t:ze):zf:=⟨t,[]⟩
abbrev tkId(n:Str):ze:=⟨1,n,0,[],false⟩
abbrev oh:ze:=⟨16,[],0,[],false⟩
abbrev Py:ze:=⟨17,[],0,[],false⟩
abbrev Nh:ze:=⟨9,[33],0,[],false⟩
def sfx(y:Str):Prop:=y=[]\/ ∃d z,y=d::z/\sfB d z
theorem zFN(z:Str):sfx (59::z):= .inr ⟨_,_,rfl, .inr (.inl rfl)⟩
theorem zFM(z:Str):sfx (32::z):= .inr ⟨_,_,rfl, .inr (.inr (.inl rfl))⟩
theorem Oy:Zy []=[]:=Qy (ZI rfl)
theorem zFw{s y:Str}{P:List ze}(h:PcT s P)(h13: ∀ts t,P=ts++[t]->t.kind≠13)(hy:sfx y):Zy (s++y)=P++Zy y:=by
 rcases hy with rfl|⟨d,z,rfl,hs⟩
 ·rw[Va,Pz h,Oy,Va]
 ·exact Hm (FV (WV hs) h fun ts t e q=>absurd q (h13 ts t e))
theorem zF3{x:List ze}{y:Str}(hr:di x)(h13: ∀ts t,x=ts++[t]->t.kind≠13)(hy:sfx y):Zy (wrS x++y)=x++Zy y:=by
 rcases hy with rfl|⟨d,z,rfl,hs⟩
 ·rw[Va,(BH hr).1,Oy,Va]
 ·exact zGn (WV hs) hr fun ts t e q=>absurd q (h13 ts t e)
theorem zF8{n:Str}(h0:n≠[])(h:Zp n=true):PcT (ZT n) [tkId n]:=by
 have:=PcT.one (tkId n) (.cId n h0 h) (fun e=>by cases e.1) rfl
 rwa [vk]at this
theorem zFn{t:ze}(h:t.kind≠13): ∀ts u,[t]=ts++[u]->u.kind≠13:=by
 intro ts u e;cases ts with
 |nil=>injection e with e _;rw[<-e];exact h
 |cons a b=>have:=congrArg List.length e;simp at this
theorem NL{n y:Str}(h0:n≠[])(h:Zp n=true)(hy:sfx y):Zy (ZT n++y)=tkId n::Zy y:=zFw (zF8 h0 h) (zFn (show(1:Int)≠13 by decide)) hy
structure zEv (v:List zf):Prop where
 r:di (tokL v)
 h:kg v
 e:Ig v
theorem KX(v:zf)(hv:isSp v=false): ∃us t,tokV v=us++[t]/\t.kind≠13:=by
 rw[Nj];by_cases h:zA v.token.kind=0
 ·rw[Ha h];exact⟨[],_,rfl,fun e=>by unfold isSp at hv;rw[e]at hv;cases hv⟩
 ·rw[Ga h,<-Ra];refine⟨_,_,rfl,?_⟩;show zA v.token.kind≠13;unfold zA;split
  ·decide
  split
  ·decide
  split
  ·decide
  ·decide
theorem zBL{v:List zf}(h:Ig v): ∀ts t,tokL v=ts++[t]->t.kind≠13:=by
 intro ts t e;rcases QC v with rfl|⟨q,z,rfl⟩
 ·rw[tokL]at e;have:=congrArg List.length e;simp at this
 ·obtain⟨us,u,h1,h2⟩:=KX z (h q z rfl);rw[Rk,uz,h1,<-La]at e;have:=List.append_inj_right' e rfl;injection this with this _;rw[<-this];exact h2
theorem zBK{v:List zf}(h:kg v): ∀t us,tokL v=t::us->t.kind≠13:=by
 intro t us e q;cases v with
 |nil=>rw[tokL]at e;cases e
 |cons a r=> rw[tokL,Nj,Ra]at e;injection e with e _;have:=h a r rfl;unfold isSp at this;rw[e,q]at this;cases this
theorem zEd{v:List zf}(h:v≠[]):tokL v≠[]:=by
 cases v with
 |nil=>exact absurd rfl h
 |cons a r=>rw[tokL,Nj];simp
theorem OM{n y:Str}{v:List zf}(h0:n≠[])(hn:Zp n=true)(hv:zEv v)(hy:sfx y):
  Zy (ZT n++58::32::(wrS (tokL v)++y))=tkId n::oh::tkSp::(tokL v++Zy (if v=[]then past spB y else y)):=by
 rw[NL h0 hn (.inr ⟨_,_,rfl, .inl rfl⟩),fO (k:=16) (by decide) (by decide) rfl (by decide),pE];by_cases h:v=[]
 ·subst h;rw[Ha rfl,tokL];rfl
 ·rw[Ga h,zEm hv.r (zBK hv.h) y (zEd h),zF3 hv.r (zBL hv.e) hy]
theorem zAy:ZT impW=impW:=by decide+kernel
theorem tZ(y:Str)(h:atS y 0≠45):Zy (33::y)=Nh::Zy y:=by
 have hn:Zo (33::y)=(Nh,y):=by
  have:brS 33 y=8:=by unfold brS;rfl
  rw[qf,this,Fq]
 rw[qL (ZI (Jq rfl)),hn]
theorem zAz{y:Str}(hy:sfx y):Zy (impW++y)=tkId impW::Zy y:=by
 have:=NL (n:=impW) (by decide) (by decide) hy
 rwa [zAy]at this
def preV(v:List zf):List zf:=if v=[]then []else [vSp]
theorem zFE(v:List zf):preV v=[]\/preV v=[vSp]:=by unfold preV;split;exact .inl rfl;exact .inr rfl
def impV(d:zM):List zf:=bif d.important then preV d.value++[leaf Nh,leaf (tkId impW)]else []
def vlD(d:zM):List zf:=leaf (tkId d.name)::leaf oh::vSp::(d.value++impV d)
def tailV(l:List zM):List zf:=(l.map fun d=>[leaf Py,vSp]++vlD d).flatten
def valJ:List zM->List zf
 |[]=>[]
 |d::r=>vlD d++tailV r
theorem Tw{t:ze}(h:zA t.kind=0)(r:List zf):tokL (leaf t::r)=t::tokL r:=by rw[tokL,tokV,Ha h];rfl
theorem mM{v:List zf}(h:Cj v=false):kg v/\Ig v:=by
 constructor
 ·rintro a t rfl;rw[show Cj (a::t)=(isSp a||_)from rfl,Oc]at h;exact h.1
 ·rintro t a rfl;rw[NQ,Oc]at h;exact h.2
theorem val_ok{d:zM}(h:QZ d=true)(ht:okT (tokL d.value)):zEv d.value:=by obtain⟨_,_,h3,h4⟩:=il h;unfold Ml at h4;simp only[Ea,Od]at h4;obtain⟨a,b⟩:=mM h4.2.2;exact⟨zFI h3 ht,a,b⟩
theorem VP{d:zM}(h:QZ d=true)(ht:okT (tokL d.value)){y:Str}(hy:y=[]\/ ∃z,y=59::z):Zy (wrD d++y)=tokL (vlD d)++Zy y:=by
 have hv:=val_ok h ht;obtain⟨n1,_,n3,_⟩:=Yu (il h).name;have hs:sfx y:=by rcases hy with rfl|⟨z,rfl⟩;exact .inl rfl;exact zFN z
 have hp:past spB y=y:=by rcases hy with rfl|⟨z,rfl⟩<;>rfl
 have e: ∀w:Str,ZT d.name++([58,32]:Str)++wrS (tokL d.value)++w=ZT d.name++58::32::(wrS (tokL d.value)++w):=fun w=>by simp
 unfold wrD vlD impV;rw[Tw rfl,Tw rfl,Tw rfl,La,e];cases d.important with
 |false=> rw[Ba,Ba,Ob,Va,OM n1 n3 hv hs,hp,ite_self];rfl
 |true=>
  rw[Ca,Ca,show impT++y=32::33::(impW++y)from rfl,OM n1 n3 hv (zFM _)];have hb:Zy (33::(impW++y))=Nh::tkId impW::Zy y:=by rw[tZ (impW++y) (show(105:UInt8)≠45 by decide),zAz hs]
  rw[Rk,Rk];unfold preV;by_cases hz:d.value=[]
  ·rw[Ha hz,Ha hz,show past spB (32::33::(impW++y))=33::(impW++y)from rfl,hb,hz];rfl
  ·rw[Ga hz,Ga hz,pE,show past spB (33::(impW++y))=33::(impW++y)from rfl,hb];show _=(tkId d.name::oh::tkSp::(tokL d.value++([tkSp]++[Nh,tkId impW])))++Zy y;simp
theorem zBO{d:zM}(h:QZ d=true)(y:Str):past spB (wrD d++y)=wrD d++y:=by obtain⟨n1,_,_,_⟩:=Yu (il h).name;have hn:=Oi n1;obtain⟨c,r,e⟩:=Bh (Xi hn);have h1:=(Oq (Ym hn)).1;unfold wrD;rw[e]at h1 ⊢;show past spB (c::_)=c::_;rw[past,show spB c=false from h1];rfl
theorem KO: ∀{l:List zM},(∀d∈l,QZ d=true/\okT (tokL d.value))->Zy (Fh l)=tokL (tailV l)
 |[],_=>Oy
 |d::r,h=>by
  have e:Fh (d::r)=59::32::(wrD d++Fh r):=rfl;have e2:tailV (d::r)=leaf Py::vSp::(vlD d++tailV r):=rfl;obtain⟨h1,h2⟩:=h d (Ab ..);have ih:=KO (l:=r) (fun x hx=>h x (aa _ hx));have hy:Fh r=[]\/ ∃z,Fh r=59::z:=by cases r with|nil=>exact .inl rfl|cons a b=>exact .inr ⟨_,rfl⟩
  rw[e,e2,fO (k:=17) (by decide) (by decide) rfl (by decide),pE,zBO h1,VP h1 h2 hy,ih,Tw rfl,Tw rfl,Rk]
theorem BZ{l:List zM}(h: ∀d∈l,QZ d=true/\okT (tokL d.value)):Zy (vg l)=tokL (valJ l):=by
 cases l with
 |nil=>rw[vg,valJ,tokL,Oy]
 |cons d r=>
  obtain⟨h1,h2⟩:=h d (Ab ..);have hy:Fh r=[]\/ ∃z,Fh r=59::z:=by cases r with|nil=>exact .inl rfl|cons a b=>exact .inr ⟨_,rfl⟩
  rw[vg,valJ,VP h1 h2 hy,KO (fun x hx=>h x (aa _ hx)),Rk]
theorem cl_D{d:zM}(h:QZ d=true)(ht:okT (tokL d.value)):clB (wrD d)=true:=by unfold wrD;rw[qO,qO,qO,show clB (ZT d.name)=true from Kk _ _ _,(BH (val_ok h ht).r).2];cases d.important<;>rfl
theorem iL: ∀{l:List zM},(∀d∈l,QZ d=true/\okT (tokL d.value))->clB (Fh l)=true
 |[],_=>rfl
 |d::r,h=>by obtain⟨h1,h2⟩:=h d (Ab ..);have e:Fh (d::r)=([59,32]:Str)++(wrD d++Fh r):=rfl;rw[e,qO,qO,cl_D h1 h2,iL (fun x hx=>h x (aa _ hx))];rfl
theorem zCS{l:List zM}(h: ∀d∈l,QZ d=true/\okT (tokL d.value)):clB (vg l)=true:=by
 cases l with
 |nil=>rfl
 |cons d r=> obtain⟨h1,h2⟩:=h d (Ab ..);rw[vg,qO,cl_D h1 h2,iL (fun x hx=>h x (aa _ hx))];rfl
structure Shp (v:List zf):Prop where
 s:shL v 0=true
 d:QM v<=16
theorem wY(a b:List zf):QM (a++b)=max (QM a) (QM b):=by
 induction a with
 |nil=>rw[Ob,QM];omega
 |cons v a ih=>rw[Ra,QM,QM,ih];omega
theorem Shp.app{a b:List zf}(ha:Shp a)(hb:Shp b):Shp (a++b):=⟨by rw[pK,ha.s,hb.s];rfl,by rw[wY];have:=ha.d;have:=hb.d;omega⟩
theorem Hr:Shp []:=⟨by rw[shL],by rw[QM];exact Ub _⟩
theorem Gm{t:ze}(h:zA t.kind=0){r:List zf}(hr:Shp r):Shp (leaf t::r):=by
 refine⟨?_,?_⟩
 ·rw[shL,hr.s,shV,h];rfl
 ·rw[QM,xg,Ha h];have:=hr.d;omega
theorem zD8{v:List zf}(h:errS v=0):Shp v:=⟨(VG h).2.2,(VG h).1⟩
theorem VK{d:zM}(h:errS d.value=0):Shp (vlD d):=by
 unfold vlD impV;refine Gm rfl (Gm rfl (Gm rfl ((zD8 h).app ?_)));cases d.important with
 |false=>exact Hr
 |true=>
  rw[Ca];refine Shp.app ?_ (Gm rfl (Gm rfl Hr));unfold preV;split
  ·exact Hr
  ·exact Gm rfl Hr
theorem MM: ∀{l:List zM},(∀d∈l,errS d.value=0)->Shp (tailV l)
 |[],_=>Hr
 |d::r,h=>by have e2:tailV (d::r)=leaf Py::vSp::(vlD d++tailV r):=rfl;rw[e2];exact Gm rfl (Gm rfl ((VK (h d (Ab ..))).app (MM fun x hx=>h x (aa _ hx))))
theorem zBo{l:List zM}(h: ∀d∈l,errS d.value=0):Shp (valJ l):=by
 cases l with
 |nil=>exact Hr
 |cons d r=>exact(VK (h d (Ab ..))).app (MM fun x hx=>h x (aa _ hx))
theorem zBb{v:List zf}(h:Shp v):parS (tokL v)=if 1500<(tokL v).length then([],4)else(v,0):=by
 by_cases q:1500<(tokL v).length
 ·rw[Ha q];unfold parS;rw[Ha q]
 ·rw[Ga q];refine FY ?_;unfold errS;rw[Ga (by have:=h.d;omega),Ga q,Ha h.s]
theorem KH(k:Int): ∀(l:List zf) (a:List (List zf)) (c:List zf),(∀x∈l,(x.token.kind==k)=false)->l.foldl (Uf k) (a,c)=(a,c++l)
 |[],a,c,_=>by rw[Va];rfl
 |v::l,a,c,h=>by rw[yc];unfold Uf;rw[h v (Ab ..),Ga (by decide)];have:=KH k l a (c++[v]) (fun x hx=>h x (aa _ hx));unfold Uf at this;rw[this,La];rfl
theorem VA(k:Int): ∀(l:List zf) (a:List (List zf)) (c:List zf),l.foldl (Uf k) (a,c)=(a++(l.foldl (Uf k) ([],c)).1,(l.foldl (Uf k) ([],c)).2)
 |[],a,c=>by simp
 |v::l,a,c=>by
  rw[yc,yc];cases h:v.token.kind==k with
  |true=>
   have e: ∀b,Uf k (b,c) v=(b++[c],[]):=fun b=>by unfold Uf;rw[h];rfl
   rw[e,e,VA k l (a++[c]) [],VA k l ([]++[c]) []];simp
  |false=>
   have e: ∀b,Uf k (b,c) v=(b,c++[v]):=fun b=>by unfold Uf;rw[h];rfl
   rw[e,e,VA k l a (c++[v])]
theorem vX{k:Int}{p:List zf}(h: ∀x∈p,(x.token.kind==k)=false):Kg k p=[p]:=by unfold Kg Yf;rw[KH k p [] [] h];rfl
theorem wZ{k:Int}{p v:List zf}{s:zf}(h: ∀x∈p,(x.token.kind==k)=false)(hs:(s.token.kind==k)=true):Kg k (p++s::v)=p::Kg k v:=by
 unfold Kg Yf;rw[List.foldl_append,KH k p [] [] h,yc];have e:Uf k ([],[]++p) s=([p],[]):=by unfold Uf;rw[hs];rfl
 rw[e,VA k v [p] []];simp
theorem pW{d:zM}(h:QZ d=true):(∀x∈d.value,badV x=false)/\kg d.value/\Ig d.value:=by have h4:=(il h).body;unfold Ml at h4;simp only[Ea,Od]at h4;obtain⟨a,b⟩:=mM h4.2.2;exact⟨fun x hx=>by have:=List.any_eq_false.1 h4.1 x hx;simpa using this,a,b⟩
theorem fV{d:zM}(h: ∀x∈d.value,badV x=false): ∀x∈vlD d,(x.token.kind==17)=false:=by
 intro x hx;unfold vlD impV at hx;simp only[Cb,Kc]at hx;rcases hx with rfl|rfl|rfl|hx|hx
 ·rfl
 ·rfl
 ·rfl
 ·have:=h x hx;unfold badV at this;rw[Oc]at this;exact this.1
 ·cases hi:d.important with
  |false=>rw[hi]at hx;cases hx
  |true=>
   rw[hi,Ca]at hx;simp only[Kc,Cb,Xd,Bg]at hx;rcases hx with hx|rfl|rfl
   ·unfold preV at hx;split at hx
    ·cases hx
    ·rw[lc.1 hx];rfl
   ·rfl
   ·rfl
def XW(l:List zM):List (List zf):=l.map fun d=>vSp::vlD d
theorem WP: ∀{l:List zM},(∀d∈l,∀x∈d.value,badV x=false)-> ∀{p:List zf},(∀x∈p,(x.token.kind==17)=false)->Kg 17 (p++tailV l)=p::XW l
 |[],_,p,hp=>by rw[show tailV []=[]from rfl,Va,vX hp];rfl
 |d::r,h,p,hp=>by
  have e2:tailV (d::r)=leaf Py::((vSp::vlD d)++tailV r):=rfl;have hd:=fV (h d (Ab ..));rw[e2,wZ hp rfl,WP (fun x hx=>h x (aa _ hx)) (p:=vSp::vlD d) (fun x hx=>by
   rcases Cb.1 hx with rfl|hx
   ·rfl
   ·exact hd x hx)]
  rfl
theorem zBB(p:List zf):trimS (vSp::p)=trimS p:=rfl
theorem bX{v:zf}(h:badV v=false):Bn v=false:=by unfold badV at h;rw[Oc]at h;exact h.2
theorem LZ{v:List zf}(h: ∀x∈v,badV x=false):uf v=(v,false):=by
 unfold uf;split
 ·rfl
 ·rename_i t z he;have hv:=AB he;cases !t.isEmpty&&(z.token.kind==1&&lowS z.token.text==impW)with
  |false=>rfl
  |true=>
   rw[Ca];split
   ·rfl
   ·rename_i u b hb;have h2:=AB hb;have:b∈v:=by rw[hv];refine Jd _ ((ek t).subset ?_);rw[h2];simp
    rw[bX (h b this)];rfl
theorem JZ{v p:List zf}{m:Str}(hp:p=[]\/p=[vSp])(he:Ig v)(hm:lowS m=impW): ∀{q:List zf},q=[]\/q=[vSp]->uf (v++p++[leaf Nh]++q++[leaf (tkId m)])=(v,true):=by
 intro q hq;unfold uf;rw[Kw];have h1:(v++p++[leaf Nh]++q).isEmpty=false:=by cases v<;>cases p<;>rfl
 have h2:trimB (v++p++[leaf Nh]++q)=v++p++[leaf Nh]:=by
  have h3:trimB (v++p++[leaf Nh])=v++p++[leaf Nh]:=by rw[Tj];rfl
  rcases hq with rfl|rfl
  ·rw[Va,h3]
  ·rw[Tj,Ha (show isSp vSp=true from rfl),h3]
 simp only[h1,hm,h2,Kw];have h4:trimB (v++p)=v:=by
  rcases hp with rfl|rfl
  ·rw[Va,he.id]
  ·rw[Tj,Ha (show isSp vSp=true from rfl),he.id]
 rw[show(!false&&((1:Int)==1&&impW==impW))=true from rfl,Ca,show Bn (leaf Nh)=true from rfl,Ca,h4]
theorem zDD{n:Str}(h:Yh n=true):nmD n=n:=by
 have:=(Yu h).2.2.2;unfold nmD;cases hp:List.isPrefixOf [45,45] n with
 |true=>rfl
 |false=>rw[hp,Ba]at this;rw[Ba];exact Jb.1 this
theorem GN{n:Str}{B W:List zf}{v:List zf}(hB:trimS (leaf (tkId n)::leaf oh::vSp::B)=leaf (tkId n)::leaf oh::W)(hW:W.dropWhile isSp=v)(hm: ∀w,uf v=w->QZ ⟨nmD n,w.1,w.2⟩=true):
  oneS (leaf (tkId n)::leaf oh::vSp::B)=(⟨nmD n,(uf v).1,(uf v).2⟩,true):=by
 unfold oneS;rw[hB];have e:(leaf oh::W).dropWhile isSp=leaf oh::W:=rfl;have h:=hm _ rfl;simp only[e,hW,h];rfl
theorem IX{n:Str}{B:List zf}(h:Ig B)(h0:B≠[]):trimS (leaf (tkId n)::leaf oh::vSp::B)=leaf (tkId n)::leaf oh::vSp::B:=by
 refine BM (fun a t e=>by cases e;rfl) (fun t a e=> ?_);rcases QC B with rfl|⟨u,z,rfl⟩
 ·exact absurd rfl h0
 ·have e2:(leaf (tkId n)::leaf oh::vSp::(u++[z]))=(leaf (tkId n)::leaf oh::vSp::u)++[z]:=rfl;rw[e2]at e;have:=List.append_inj_right' e rfl;injection this with this _;rw[<-this];exact h u z rfl
theorem JN{n:Str}{B:List zf}(hh:kg B)(he:Ig B)(hm: ∀w,uf B=w->QZ ⟨nmD n,w.1,w.2⟩=true):
  oneS (leaf (tkId n)::leaf oh::vSp::B)=(⟨nmD n,(uf B).1,(uf B).2⟩,true):=by
 by_cases h0:B=[]
 ·subst h0;exact GN (W:=[]) rfl rfl hm
 ·exact GN (W:=vSp::B) (IX he h0) (by rw[Nc,Ha (show isSp vSp=true from rfl),hh.id]) hm
theorem zAh{B:List zf}{t:ze}(h:isSp (leaf t)=false):Ig (B++[leaf t]):=by intro u z e;have:=List.append_inj_right' e rfl;injection this with this _;rw[<-this];exact h
theorem zAK:lowS impW=impW:=DL
theorem dK{d:zM}(h:QZ d=true):oneS (vlD d)=(d,true):=by
 obtain⟨h1,h2,h3⟩:=pW h;have hn:=zDD (il h).name;unfold vlD impV;obtain⟨n,v,i⟩:=d;simp only at h1 h2 h3 hn ⊢;cases i with
 |false=> rw[Ba,Va];have hm:=LZ h1;rw[JN h2 h3 (fun w hw=>by rw[hm]at hw;rw[<-hw,hn];exact h),hm,hn]
 |true=>
  rw[Ca];have e:v++(preV v++[leaf Nh,leaf (tkId impW)])=v++preV v++[leaf Nh]++[]++[leaf (tkId impW)]:=by simp
  have hm:=JZ (zFE v) h3 zAK (.inl rfl:([]:List zf)=[]\/_);rw[e];have h5:=JN (n:=n) (B:=v++preV v++[leaf Nh]++[]++[leaf (tkId impW)]) ?_ (zAh rfl) (fun w hw=>by rw[hm]at hw;rw[<-hw,hn];exact h)
  ·rw[h5,hm,hn]
  intro a t ea;cases v with
  |nil=>cases ea;rfl
  |cons b r=>cases ea;exact h2 _ _ rfl
theorem zFo(p:List zf):oneS (vSp::p)=oneS p:=by unfold oneS;rw[zBB]
theorem wP{f:zM->List zf}: ∀{l a:List zM},(∀d∈l,oneS (f d)=(d,true))->a.length+l.length<=32->(l.map f).foldl wh a=a++l
 |[],a,_,_=>by rw[Va];rfl
 |d::r,a,h,hl=>by
  rw[Ja]at hl;have e:wh a (f d)=a++[d]:=by unfold wh;rw[h d (Ab ..),Ia (show a.length<32 by omega)];rfl
  rw[Jc,yc,e,wP (fun x hx=>h x (aa _ hx)) (by rw[Ka,Ic];omega),La];rfl
theorem O3{l:List zM}(h: ∀d∈l,QZ d=true)(hl:l.length<=32):Mh (Kg 17 (valJ l))=l:=by
 have h1: ∀d∈l,∀x∈d.value,badV x=false:=fun d hd=>(pW (h d hd)).1;cases l with
 |nil=>rfl
 |cons d r=>
  rw[valJ,WP (fun x hx=>h1 x (aa _ hx)) (fV (h1 d (Ab ..)))];unfold Mh XW;rw[yc];have e:wh [] (vlD d)=[d]:=by unfold wh;rw[dK (h d (Ab ..))];rfl
  rw[e,wP (fun x hx=>by rw[zFo,dK (h x (aa _ hx))]) (by rw[Ic];rw[Ja]at hl;omega)];rfl
theorem zBi{w:Str}{V:List zf}(hl:w.length<=4000)(hc:clB w=true)(ht:Zy w=tokL V)(hs:Shp V):sj w=if 1500<(tokL V).length then([],4)else(Mh (Kg 17 V),0):=by
 have hp:=zBb hs;have h1:qH w=if 1500<(tokL V).length then([],4)else(tokL V,0):=by unfold qH;rw[Ga (show¬4000<w.length by omega),SG _ hc,ht]
 unfold sj;rw[h1];by_cases q:1500<(tokL V).length
 ·rw[Ha q,Ha q];rfl
 ·rw[Ga q]at hp;rw[Ga q,Ga q,Ha rfl,hp,Ha rfl]
theorem VY{l:List zM}(h: ∀d∈l,QZ d=true/\okT (tokL d.value))(hl:l.length<=32)(hw:(vg l).length<=4000):sj (vg l)=if 1500<(tokL (valJ l)).length then([],4)else(l,0):=by rw[zBi hw (zCS h) (BZ h) (zBo fun d hd=>(il (h d hd).1).err),O3 (fun d hd=>(h d hd).1) hl]
theorem FO(s:Str):wtT (qH s).1<big:=by
 have hbig:big=4194304:=rfl;unfold qH;split
 ·rw[wtT];omega
 split
 ·rw[wtT];omega
 have h1:=xG s;have h2:=EW (Proofs.Cl.cleanS s);show wtT (Zy (Proofs.Cl.cleanS s))<big;omega
theorem yN(s:Str):Sj s=some (sj s):=by
 have hw:=FO s;have hs:=aK (qH s).1;unfold Sj sj;simp only[MP,zb,Aa,parseF];by_cases h1:(qH s).2=0
 ·rw[Ha h1,h1];simp only[show((0:Int) != 0)=false from rfl,Ba];by_cases h2:(parS (qH s).1).2=0
  ·have h3:=(EP h2).1;rw[Ha h2,h2];simp only[show((0:Int) != 0)=false from rfl,Ba,mV (x:=(parS (qH s).1).1) (by omega),Ha h3,Aa]
  ·rw[Ga h2];simp only[Ue.2 h2,Ca]
 ·rw[Ga h1];simp only[Ue.2 h1,Ca]
theorem PP: ∀{ps:List (List zf)} {a:List zM} {d:zM},d∈ps.foldl wh a->d∈a\/ ∃p∈ps,d=(oneS p).1/\(oneS p).2=true
 |[],a,d,h=> .inl h
 |p::ps,a,d,h=>by
  rw[yc]at h;rcases PP h with h|⟨q,hq,h⟩
  ·unfold wh at h;cases hb:(oneS p).2&&decide (a.length<32)with
   |false=>rw[hb]at h;exact .inl h
   |true=>
    rw[hb,Ca]at h;rcases Kc.1 h with h|h
    ·exact .inl h
    ·rw[Ea]at hb;exact .inr ⟨p,Ab ..,lc.1 h,hb.1⟩
  ·exact .inr ⟨q,aa _ hq,h⟩
theorem zA6{x:List zf}(h:szL x<=big)(ht:(oneS x).2=true):QZ (oneS x).1=true/\(oneS x).1.value.Sublist x:=by
 unfold oneS at ht ⊢;split at ht
 ·cases ht
 ·rename_i n r hy;obtain⟨_,_,_,hp⟩:=PQ h hy;cases h1:n.token.kind==1 with
  |false=>rw[h1]at ht;cases ht
  |true=>
   rw[h1,Ca]at ht;rw[Ca];split at ht
   ·cases ht
   ·rename_i c q hq;obtain⟨_,hh,he⟩:=hp hq;cases h2:c.token.kind==16 with
    |false=>rw[h2]at ht;cases ht
    |true=>
     rw[h2,Ca]at ht;simp only[Ca];cases h3:QZ ⟨nmD n.token.text,(uf (q.dropWhile isSp)).1,(uf (q.dropWhile isSp)).2⟩with
     |false=>rw[h3]at ht;cases ht
     |true=>
      rw[Ca];refine⟨h3,(WL hh he).2.2.trans ((Ld _).trans ?_)⟩;have hr:(c::q).Sublist r:=by rw[<-hq];exact Ld _
      have hx:(n::r).Sublist x:=by rw[<-hy];exact RZ x
      exact(List.sublist_cons_self c q).trans (hr.trans ((List.sublist_cons_self n r).trans hx))
theorem zEe{a b:List zf}(h:a.Sublist b): ∀t∈tokL a,t∈tokL b:=by
 induction h with
 |slnil=>exact fun t h=>h
 |cons v _ ih=>intro t h;rw[tokL];exact Bf _ (ih t h)
 |cons_cons v _ ih=>
  intro t h;rw[tokL]at h ⊢;rcases Kc.1 h with h|h
  ·exact Jd _ h
  ·exact Bf _ (ih t h)
theorem zFl{d:zM}(h:QZ d=true)(hv:szL d.value<=big)(ht:okT (tokL d.value)):OkD d:=by have hbig:big=4194304:=rfl;have:=(Yu (il h).name).2.1;exact⟨hv,by omega,ht⟩
theorem WY{s:Str}(h:s.length<=500):(sj s).1.length<=32/\ ∀d∈(sj s).1,QZ d=true/\OkD d:=by
 have hw:=FO s;have hs:=aK (qH s).1;have h3: ∀t∈(qH s).1,t.text.length+t.unit.length<=5000:=by
  intro t ht;have h1:=xG s;unfold qH at ht;split at ht
  ·cases ht
  split at ht
  ·cases ht
  have:=FW _ t ht;omega
 unfold sj;split
 rotate_left
 ·exact⟨Ub _,fun d hd=>by cases hd⟩
 split
 rotate_left
 ·exact⟨Ub _,fun d hd=>by cases hd⟩
 rename_i h2;obtain⟨_,hm⟩:=EP h2;generalize (parS (qH s).1).1=v at*;generalize (qH s).1=l at*;obtain⟨_,hp⟩:=CP (x:=v) (by omega);refine⟨RP _,fun d hd=> ?_⟩;rcases PP hd with hd|⟨p,hq,rfl,hb⟩
 ·cases hd
 ·obtain⟨g1,g2⟩:=zA6 (hp p hq) hb;have g3:=uX (zCZ 17 v) p hq;refine⟨g1,zFl g1 (Xb (Mi g2) (hp p hq)) fun t ht=> ?_⟩;rcases hm t (zEe (g2.trans g3) t ht)with q|⟨q1,q2⟩
  ·have:=h3 t q;omega
  ·rw[q1,q2];exact⟨Ub _,Ub _⟩
theorem zFm{v:List zf}(h:szL v<=5000):okT (tokL v):=fun t ht=>by have:=Wv v t ht;omega
theorem zAA{X R:Type}{e:Option (LX X R)}{k:X->Option R}{x:X}(h:e=some (.out x)):zK e k=k x:=by rw[h];rfl
structure SzD (d:zM):Prop where
 v:szL d.value<=big
 n:d.name.length<=big
theorem WM(x:zM):Qf (Aj x)=3+x.name.length+zL Zr x.value:=by unfold Aj;simp only[Qf,bPV,zL];omega
theorem zEb{d:zM}(h:Qf (Aj d)<=1048576):SzD d:=by have hbig:big=4194304:=rfl;have h1:=zFU d.value;rw[WM]at h;exact⟨by omega,by omega⟩
theorem zEa{l:List zM}(h:Qf [.sl (l.map Aj)]<=1048576):(∀d∈l,SzD d)/\l.length<=big:=by
 have hbig:big=4194304:=rfl;have h1:zL Aj l<=1048576:=by simp only[Qf,bPV]at h;unfold zL;omega
 have h2:=CW (f:=Aj) (fun v=>by rw[WM];omega) l;exact⟨fun d hd=>zEb (Xb (yV hd) h1),by omega⟩
theorem zEY{l:List zM}(h: ∀d∈l,SzD d)(hlen:l.length<=big): ∃g,Dx l=some g/\(g=false->l.length<=40/\ ∀d∈l,d.name.length+szL d.value<=300):=by
 have hbig:big=4194304:=rfl;unfold Dx;by_cases h40:40<l.length
 ·rw[Ia (by omega),Ca];exact⟨true,rfl,fun e=>by cases e⟩
 ·rw[Ya (by omega),Ba];refine X0 (fun s=> ∃(i n:Nat),s=((n:Int),(i:Int))/\i<=l.length/\n<=300/\ ∀d∈l.take i,d.name.length+szL d.value<=300) (fun s=>l.length - s.2.toNat) (fun g=>g=false->l.length<=40/\ ∀d∈l,d.name.length+szL d.value<=300) ?_ ⟨0,0,rfl,by omega,by omega,(fun d hd=>by cases hd)⟩;rintro _ ⟨i,n,rfl,hi,hn,hlt⟩;simp only[zb];rcases Xc i l.length with hh|hh
  ·obtain⟨hv,hnm⟩:=h _ (Ac hh);obtain⟨r,hr,r0,r1,r2⟩:=size_le (m:=300) hv (by omega);replace hr:qX (l[i].value,300)=some r:=hr;obtain⟨k,rfl⟩: ∃k:Nat,r=(k:Int):=⟨r.toNat,by omega⟩;have e2:w64 ((n:Int)+w64 ((l[i].name.length:Int)+(k:Int)))=((n+(l[i].name.length+k):Nat):Int):=by rw[Zh (n:=(l[i].name.length:Int)+(k:Int)) (by omega) (by omega),Zh (by omega) (by omega)];omega
   simp only[Z5 hh,Ca,Zq hh,Aa,hr,e2];by_cases hb:n+(l[i].name.length+k)>300
   ·rw[Ia (show((n+(l[i].name.length+k):Nat):Int)>300 by omega)];simp only[ja,Zb,Aa,Ca];exact .inr (.inr ⟨true,rfl,fun e=>by cases e⟩)
   ·rw[Ya (show¬((n+(l[i].name.length+k):Nat):Int)>300 by omega)];simp only[Ua,zx,Aa,Ba,VM hv];cases hd:decide ((QM l[i].value:Int)>40)with
    |true=>exact .inr (.inr ⟨true,rfl,fun e=>by cases e⟩)
    |false=>
     refine .inl ⟨_,rfl,⟨i+1,n+(l[i].name.length+k),by rw[Zh (by omega) (by omega)];rfl,by omega,by omega,?_⟩,by simp only;rw[Zh (by omega) (by omega)];omega⟩;rw[Bc hh];intro d hd;rcases Kc.1 hd with hd|hd
     ·exact hlt d hd
     ·rw[lc]at hd;subst hd;omega
  ·have:i=l.length:=by omega
   subst this;simp only[Ph,Ba];rw[ae]at hlt;exact .inr (.inl ⟨(),false,(by first|rfl|trivial),rfl,fun _=>⟨by omega,hlt⟩⟩)
theorem XL{l:List zM}(h: ∀d∈l,QZ d=true/\OkD d)(h32:l.length<=32):yo l=some true:=by
 have hbig:big=4194304:=rfl;unfold yo;rw[zCz fun d hd=>(h d hd).2];simp only[zb,Aa];unfold Iu;rw[Ga (by omega),Ha (Vb.2 fun d hd=>(h d hd).1)];by_cases hl:4000<(vg l).length
 ·rw[Ha hl];rfl
 ·rw[Ga hl];simp only[show((0:Int) != 0)=false from rfl,Ba,yN,Aa];rw[VY (fun d hd=>⟨(h d hd).1,(h d hd).2.t⟩) h32 (by omega)];by_cases q:1500<(tokL (valJ l)).length
  ·rw[Ha q];rfl
  ·rw[Ga q];have hs:=O5 (l:=l) ⟨by omega,fun d hd=>(h d hd).2.v⟩;simp only[show((0:Int)==0)=true from rfl,show((0:Int)==4)=false from rfl,Ua,Bool.and_self,zx,hs,Aa,Ca,Ba]
theorem WZ{l:List zM}(h: ∀d∈l,d.name.length+szL d.value<=300): ∀d∈l,OkD d:=fun d hd=>by have hbig:big=4194304:=rfl;have:=h d hd;exact⟨by omega,by omega,zFm (by omega)⟩
theorem L6{s:Str}{l:List zM}(h: ∀d∈l,SzD d)(hlen:l.length<=big):JC (s,l)=some true:=by
 have hbig:big=4194304:=rfl;unfold JC;simp only[zb];by_cases h5:500<s.length
 ·have:decide ((s.length:Int)>500)=true:=Ia (by omega);simp only[this,ja,Zb,Aa,Ca,Ev]
 ·have:decide ((s.length:Int)>500)=false:=Ya (by omega);obtain⟨g,hg,hg2⟩:=zEY h hlen;simp only[this,Ua,zx,hg,Aa,Ba];cases g with
  |true=>simp only[Ca,Ev,Aa]
  |false=>
   obtain⟨h40,hsm⟩:=hg2 rfl;have hok:=WZ hsm;simp only[Ba,yN,Aa];obtain⟨m1,m2⟩:=WY (show s.length<=500 by omega);obtain⟨m,hm⟩: ∃m,sj s=m:=⟨_,rfl⟩;rw[hm]at m1 m2 ⊢;obtain⟨m,e⟩:=m;simp only at m1 m2 ⊢;have hl:(l.length:Int)>32\/ ¬(l.length:Int)>32:=by omega
   have hrest:(Ze (fun(s12:Int)=>
    bif decide (s12<(l.length:Int))then
     (geti l s12).bind fun y13=>
     (Gp y13).bind fun y14=>
     bif y14 != 0 then
      (Q0 ()).bind fun y15=>
      some (LO.ret y15)
     else
      some (LO.again (w64 (s12+1)))
    else
     some (LO.out ()):Int->Option (LO (Int) (Unit) Bool)) 0 fun o16=>
    (zo (!(decide ((l.length:Int)>32))) (yo l) (default:Bool)).bind fun y17=>
    (zo (bif decide ((l.length:Int)>32)then true else y17) (Q0 ()) (default:Bool)).bind fun y18=>
    some (bif bif decide ((l.length:Int)>32)then true else y17 then y18 else false))=some true:=by
    refine Mm (fun z=> ∃i:Nat,z=(i:Int)/\i<=l.length/\(l.take i).all QZ=true) (fun z=>l.length - z.toNat) _ ?_ ⟨0,rfl,Ub _,rfl⟩;rintro _ ⟨i,rfl,hi,ha⟩;rcases Xc i l.length with hh|hh
    ·have ho:=hok _ (Ac hh);simp only[Z5 hh,Ca,Zq hh,Aa,OT ho.v ho.n];cases hd:QZ l[i]with
     |false=> refine .inr (.inr ?_);simp only[Ba,show((8:Int) != 0)=true from rfl,Ca,Ev,Aa]
     |true=>
      refine .inl ⟨_,?_,⟨i+1,rfl,hh,?_⟩,by omega⟩
      ·simp only[Ca,show((0:Int) != 0)=false from rfl,Ba,Zi hh (show l.length<=big by omega)]
      ·rw[Bc hh,List.all_append,ha,xc,hd];rfl
    ·have:i=l.length:=by omega
     subst this;rw[ae]at ha;refine .inr (.inl ⟨(),?_,?_⟩)
     ·simp only[Ph,Ba]
     ·by_cases h32:32<l.length
      ·rw[Ia (show(l.length:Int)>32 by omega)];simp only[ja,Zb,Aa,Ca,zx,Ev]
      ·rw[Ya (show¬(l.length:Int)>32 by omega)];simp only[Ua,zx,XL (fun d hd=>⟨Vb.1 ha d hd,hok d hd⟩) (by omega),Aa,Ba,Ev,Ca]
   by_cases he:e=0
   ·subst he;simp only[show((0:Int)==0)=true from rfl,Ca];refine(zAA (x:=()) ?_).trans hrest
    ·refine Mm (fun z=> ∃i:Nat,z=(i:Int)/\i<=m.length) (fun z=>m.length - z.toNat) _ ?_ ⟨0,rfl,Ub _⟩;rintro _ ⟨i,rfl,hi⟩;rcases Xc i m.length with hh|hh
     ·obtain⟨d1,d2⟩:=m2 _ (Ac hh);refine .inl ⟨_,?_,⟨i+1,rfl,hh⟩,by omega⟩;simp only[Z5 hh,Ca,Zq hh,Aa,OI d2.v d2.n,OT d2.v d2.n,d1,show((0:Int) != 0)=false from rfl,Ua,zx,Ba,Zi hh (show m.length<=big by omega)]
     ·have:i=m.length:=by omega
      subst this;refine .inr (.inl ⟨(),?_,?_⟩)
      ·simp only[Ph,Ba]
      ·rw[Ya (show¬(m.length:Int)>32 by omega)];simp only[Ua,zx,XL m2 m1,Aa,Ba,ja]
   ·simp only[Fa.2 he,Ba,zh];exact hrest
end Go.Lv.VT
