/- Sheets: a text that ends with the token '}' keeps its tokens, whatever comes behind; cleaning of texts put together. -/
import Derived.Test.YtpodafkicdifmaaGreatDoorXj
import Derived.Test.YtpodafkicdifmaaGreatDoorXi
set_option linter.unusedSimpArgs false
set_option linter.unusedVariables false
namespace Go.Lv.VT
set_option maxRecDepth 100000
theorem sfC(y:Str):Sf 125 y:=⟨rfl,rfl,rfl,rfl,rfl,rfl,rfl,rfl,rfl,rfl,by decide,rfl,rfl,by decide⟩
def endC(q:Str):Prop:= ∃r,q=r++[125]
theorem Xo{a q:Str}(h:a<:+q)(hq:endC q)(ha:a≠[]):endC a:=by
 obtain⟨r,rfl⟩:=hq;obtain⟨b,e⟩:=h;rcases List.eq_nil_or_concat a with rfl|⟨t,c,rfl⟩
 ·exact absurd rfl ha
 ·rw[List.concat_eq_append,<-Jb]at e;have:=Ig e rfl;exact⟨t,by rw[List.concat_eq_append,this]⟩
theorem uM{a b:Str}(h:a<:+b)(ha:a≠[]):b≠[]:=fun e=>ha (List.suffix_nil.1 (e▸h))
theorem GZ{q x:Str}{α:Sort _}(f:Str->α)(h: ∀r y,f (r++125::y)=f r)(hq:endC q):f (q++x)=f q:=by obtain⟨r,rfl⟩:=hq;rw[Jb,h r [],<-h r x];rfl
theorem zMw{c:UInt8}{r:Str}(x:Str)(hr:endC r)(h:(Rf (c::r)).2≠[]):Rf (c::(r++x))=((Rf (c::r)).1,(Rf (c::r)).2++x):=by
 have hq:endC (c::r):=by obtain⟨t,rfl⟩:=hr;exact⟨c::t,rfl⟩
 have nm: ∀{q:Str},endC q->nmS (q++x)=nmS q:=fun h=>GZ nmS (fun r y=>fM (sfC y) r) h;refine zIG (GZ (brS c) (fun r y=>zNn (sfC y) c r) hr) h (fun _=>nm hr) (fun hb=> ?_);rw[Xt,hb,OA]at h;have hne:=zDj h;have s1:(ZI (c::r)).1<:+(qC (xg (c::r))).1:=zL8 _;have s2:(qC (xg (c::r))).1<:+xg (c::r):=zDG _;have s3:xg (c::r)<:+c::r:=(lm _ _).trans (by unfold unsign;split;exact Ke 1 _;exact Je _);have n1:(qC (xg (c::r))).1≠[]:=uM s1 hne;have n2:xg (c::r)≠[]:=uM s2 n1;have e2:=Xo s3 hq n2;have e1:=Xo s2 e2 n1;have e0:=Xo s1 e1 hne;obtain⟨a,b⟩:=zK4 (q:=c::r) (x:=x) hne (fun e=>by obtain⟨t,et⟩:=e2;rw[e]at et;cases t with|nil=>cases et|cons a t=>cases t<;>cases et) (fun hn=>by
  generalize (qC (xg (c::r))).1=w at hn e1 ⊢;obtain⟨t,rfl⟩:=e1;rw[zH5]at hn ⊢;rw[Jb,Uf];cases t with
  |nil=>rfl
  |cons d t=>
   have h1:digB (atS (unsign (t++[125])) 0)=digB (atS (unsign t) 0):=by rw[bI (sfC []),TN (sfC [])]
   have h2:digB (atS (unsign (t++125::x)) 0)=digB (atS (unsign t) 0):=by rw[bI (sfC x),TN (sfC x)]
   have hn:((d==101||d==69)&&digB (atS (unsign (t++[125])) 0))=false:=hn;show((d==101||d==69)&&digB (atS (unsign (t++125::x)) 0))=false;rw[h2,<-h1];exact hn)
 exact⟨a,b,nm e0⟩
theorem GV{q:Str}(x:Str)(hq:endC q)(h:cmtS q≠[]):cmtS (q++x)=cmtS q++x:=by
 refine WX h ?_;have hp:=zKj q;obtain⟨t,e⟩:=Xo (Ai q) hq h;cases t with
 |nil=>rw[e];rfl
 |cons a t=>
  cases t with
  |nil=>rw[e];show((47:UInt8)==a&&false)=false;rw[Jc]
  |cons b u=> rw[e]at hp ⊢;exact(zIX (u++[125]) x).trans hp
theorem zNC{ts:List zf}{q R:Str}(x:Str):endC q->run q ts R->cmtS R≠[]->run (q++x) ts (R++x):=by
 induction ts generalizing q with
 |nil=>intro _ h _;rw[run]at h;subst h;rfl
 |cons t ts ih=>
  intro hq h hR;obtain⟨c,r,h1,h2,h3⟩:=h;have hR0:R≠[]:=fun e=>hR (by rw[e];exact Ak rfl);have h4:(Rf (c::r)).2≠[]:=fun e=>by have:=Kq h3;rw[e]at this;exact hR0 (List.suffix_nil.1 this)
  have hc:endC (c::r):=Xo (h1▸Ai q) hq (by simp);have hs:=Ol c r;have hr:r≠[]:=uM hs h4;have hr2:=Xo (Wd c r) hc hr;have h5:=zMw x hr2 h4;refine⟨c,r++x,by rw[GV x hq (by rw[h1];simp),h1];rfl,by rw[h5];exact h2,?_⟩;rw[h5];exact ih (Xo hs hr2 h4) h3 hR
theorem zNd{c R:Str}{ts:List zf}(x:Str)(h:run c ts R)(hR:cmtS R=[125]):QS (c++x)=QS c++QS x:=by
 have hc:endC c:=by have h1:[125]<:+c:=hR▸(Ai R).trans (Kq h);obtain⟨t,e⟩:=h1;exact⟨t,e.symm⟩
 have hRc:endC R:=Xo (Kq h) hc (fun e=>by rw[e]at hR;cases hR.symm.trans (Ak rfl));have mk: ∀y:Str,QS (125::y)=⟨24,[],0,[],false⟩::QS y:=fun y=>kI (by decide) (by decide) rfl (by decide) y;rw[DC (zNC x hc h (by rw[hR];simp)),DC h,<-wB (R++x),<-wB R,GV x hRc (by rw[hR];simp),hR];show _++QS (125::x)=(_++QS (125::[]))++_;rw[mk,mk,Yo (l:=[]) (Ak rfl),Jb];rfl
theorem aX: ∀(s t:Str) (b:Bool),(∀p,s≠p++[13])->s≠[]->clR b (s++t)=clR b s++clR false t
 |[],_,_,_,h=>absurd rfl h
 |[c],t,b,h,_=>by have:(c==13)=false:=Da.2 fun e=>h [] (by rw[e];rfl);rw[Uf,clR,clR,clR,this,Xb]
 |c::d::s,t,b,h,_=>by rw[Ab,clR,aX (d::s) t _ (fun p e=>h (c::p) (by rw[e];rfl)) (by simp),<-Jb];rfl
theorem bP{s:Str}(t:Str)(h: ∀p,s≠p++[13]):Proofs.Cl.cleanS (s++t)=Proofs.Cl.cleanS s++Proofs.Cl.cleanS t:=by
 rw[<-Ko _ _ (Ta _),<-Ko _ s (Ta _),<-Ko _ t (Ta _)];cases s with
 |nil=>rfl
 |cons c s=>exact aX _ t _ h (by simp)
theorem aY: ∀(p:Str) (b:Bool),(∃y,clR b (p++[13])=y++[10])
 |[],b=>⟨[],by rw[Bc,clR,clR,Ha fun h=>nomatch h.1];rfl⟩
 |c::p,b=>by obtain⟨y,hy⟩:=aY p (c==13);refine⟨(if c=10/\b=true then []else clnB c)++y,?_⟩;rw[Ab,clR,hy,Jb]
theorem zEm{s:Str}(h:endC (Proofs.Cl.cleanS s)): ∀p,s≠p++[13]:=by rintro p rfl;obtain⟨y,hy⟩:=aY p false;rw[Ko _ _ (Ta _)]at hy;obtain⟨r,e⟩:=h;rw[hy]at e;cases Ig e rfl
def BA(s:Str)(n:Nat)(sp:List ZK)(R:Str):Prop:= ∃ts:List zf,run s ts R/\ts.length=n/\sp.length=n/\(n=0\/ ∃l0 R0 c r sq b,ts=l0++[(Rf (c::r)).1]/\run s l0 R0/\cmtS R0=c::r/\R=(Rf (c::r)).2/\sp=sq++[⟨b,(beh s R:Int)⟩])
theorem zGo{s:Str}(hs:s.length<=40000):Has (
  zU (fun(s3:Int×List ZK×ze)=>
    bif decide (s3.2.2.at_<(s.length:Int))then
     bif decide (w64 (s3.1+1)>1500)then
      some (LO.ret (4,s3.2.1))
     else
      za (qO s3.2.2) fun y4=>
      za (iF ((y4.1,s3.2.2.at_,y4.2.at_),s3.2.1)) fun y5=>
      za (ZF y4.2) fun y6=>
      some (LO.again (w64 (s3.1+1),y5,y6))
    else
     some (LO.out (s3.2.1,s3.2.2)):Int×List ZK×ze->Option (LO (Int×List ZK×ze) (List ZK×ze) (Int×List ZK))) (0,[],sr s (cmtS s)) fun o7=>
  some (0,o7.1)) fun z=>z.1=0-> ∃n R,BA s n z.2 R/\cmtS R=[]:=by
 refine Has.loop (fun z=> ∃(n:Nat) (sp:List ZK) (R:Str),z=((n:Int),sp,sr s (cmtS R))/\R<:+s/\n<=1500/\BA s n sp R) (fun z=>s.length - z.2.2.at_.toNat) (P:=fun o=> ∃n R,BA s n o.1 R/\cmtS R=[]) ⟨0,[],s,rfl,Je s,by omega,[],rfl,rfl,rfl, .inl rfl⟩ ?_ fun o ho=>Has.some fun _=>ho;rintro _ ⟨n,sp,R,rfl,hR,hn,ts,h1,h2,h3,h4⟩;dsimp only;have hq:cmtS R<:+s:=(Ai R).trans hR;have hle:=hq.length_le;refine Has.bif (fun hat=> ?_) fun hat=> ?_
 ·have hw:w64 ((n:Int)+1)=((n+1:Nat):Int):=by rw[QQ (by omega) (by omega)];omega
  rw[hw];refine Has.bif (fun _=>Has.some fun h=>nomatch h) fun hm=> ?_;have hm:=Ad hm;cases hc:cmtS R with
  |nil=> have:=Fb hat;rw[hc]at this;unfold beh at this;rw[Eb]at this;omega
  |cons c r=>
   rw[hc,Fa]at hle;have hs2:(Rf (c::r)).2<:+s:=(Ol c r).trans (Sj (hc▸hq));refine Has.eqb (TU hs (hc▸hq) rfl) ?_;unfold iF;refine Has.bind (Has.need (qI (by dsimp only;omega)) (Has.some rfl):Has _ fun y=>y=sp++[⟨(beh s (c::r):Int),(beh s (Rf (c::r)).2:Int)⟩]) fun y5 e5=> ?_;subst e5;refine Has.eqb (PD hs hs2) (Has.some ⟨⟨n+1,_,_,rfl,hs2,by omega,ts++[(Rf (c::r)).1],?_,?_,?_, .inr ⟨ts,R,c,r,sp,_,rfl,h1,hc,rfl,rfl⟩⟩,?_⟩)
   ·exact OY h1 ⟨c,r,hc,rfl,rfl⟩
   ·rw[Ma,h2];rfl
   ·rw[Ma,h3];rfl
   ·have h5:=(Ol c r).length_le;have h6:=(Ai (Rf (c::r)).2).length_le;show s.length - beh s (cmtS (Rf (c::r)).2)<s.length - beh s (c::r);unfold beh;rw[Fa];omega
 ·refine Has.some ⟨n,R,⟨ts,h1,h2,h3,h4⟩,?_⟩;have:=Ad hat;unfold beh at this;exact Ag.1 (by omega)
theorem EJ(w:Str):Ck w=some (if 4000<w.length then([],28)else(Proofs.Cl.cleanS w,0)):=by unfold Ck;split<;>rfl
theorem zDI(w:Str):Has (FE w) fun z=>z.2=0-> ∃n R,BA (Proofs.Cl.cleanS w) n z.1 R/\cmtS R=[]:=by
 unfold FE JK;by_cases hl:4000<w.length
 ·rw[EJ,Ka hl];exact Has.bind (P:=fun y=>y=(28,[])) (Has.some rfl) fun y e=>by subst e;exact Has.some fun h=>nomatch h
 ·rw[EJ,Ha hl];have hs:=Ey w;have hs:(Proofs.Cl.cleanS w).length<=40000:=by omega
  refine Has.bind (P:=fun z=>z.1=0-> ∃n R,BA (Proofs.Cl.cleanS w) n z.2 R/\cmtS R=[]) ?_ fun y hy=>Has.bif (fun h=>Has.some fun h0=> ?_) fun h=>Has.some fun _=>hy (by simpa using h)
  ·refine Has.eqb rfl ?_;dsimp only;refine Has.bif (fun h=>nomatch h) fun _=> ?_;rw[sr_0];exact Has.eqb (PD hs (Je _)) (zGo hs)
  ·have h0:y.1=0:=h0;rw[h0]at h;cases h
theorem zFl{l:List zf}{t:zf}{v:List zb}{b:zb}(h:qi (l++[t]) ([],[])=some (v++[b],[]))(hb:b.token.kind=23):t.kind=24:=by
 rw[kJ]at h;cases hs:qi l ([],[])with
 |none=>rw[hs]at h;cases h
 |some s=>
  rw[hs,Aa,qi]at h;obtain⟨cur,st⟩:=s;unfold qL at h;dsimp only at h;split at h
  ·rename_i h1
   match st,h1,h with
   |(o,out)::st,h1,h=> have h:some ((out++[⟨o,cur⟩],st):PSt)=some (v++[b],[]):=h;injection h with h;injection h with h2 h3;have h4:=List.singleton_inj.1 (Ig h2 rfl);subst h4;have hb:o.kind=23:=hb;have h1:(t.kind==Zf o.kind)=true:=h1;rw[hb]at h1;exact Cb.1 h1
  ·split at h
   ·split at h
    ·cases h
    ·have h:some (([],(t,cur)::st):PSt)=some (v++[b],[]):=h;injection h with h;injection h with _ h3;cases h3
   ·rename_i h1 h2;have h:some ((cur++[⟨t,[]⟩],st):PSt)=some (v++[b],[]):=h;injection h with h;injection h with h4 _;have h5:=List.singleton_inj.1 (Ig h4 rfl);subst h5;have hb:t.kind=23:=hb;rw[hb]at h2;exact absurd (by decide) h2
theorem zMo(c:UInt8)(h:jg c=24):c=125:=by
 have: ∀n:Nat,n<256->jg (UInt8.ofNat n)=24->UInt8.ofNat n=125:=by decide+kernel
 have:=this c.toNat (Tc c);rw[Xf]at this;exact this h
theorem zMu{c:UInt8}{r:Str}(h:(Rf (c::r)).1.kind=24):c=125/\(Rf (c::r)).2=r:=by have hb:=wX c r;rw[h]at hb;have hb:brS c r=9:=hb.symm;rw[Xt,hb,JH]at h ⊢;exact⟨zMo c h,rfl⟩
structure Closed (w:Str):Prop where
 len:w.length<=4000
 tok:(Zt w).2=0
 par:qi (QS (Proofs.Cl.cleanS w)) ([],[])=some ((parS (Zt w).1).1,[])
 last: ∃t b,(parS (Zt w).1).1=t++[b]/\b.token.kind=23
 run: ∃l0 R0,run (Proofs.Cl.cleanS w) l0 R0/\cmtS R0=[125]
theorem tok0{w:Str}(h:(Zt w).2=0):w.length<=4000/\(QS (Proofs.Cl.cleanS w)).length<=1500/\(Zt w).1=QS (Proofs.Cl.cleanS w):=by
 unfold Zt at h ⊢;split at h
 ·cases h
 ·rename_i h1;split at h
  ·cases h
  ·rename_i h2;rw[Ha h1,Ha h2];exact⟨by omega,by omega,rfl⟩
theorem zNH{α:Type}{l:List α}(h:((l.length:Int)==0)=false): ∃t x,l=t++[x]:=by
 rcases List.eq_nil_or_concat l with rfl|⟨t,x,rfl⟩
 ·cases h
 ·exact⟨t,x,List.concat_eq_append⟩
theorem BZ{α:Type}{t:List α}{x:α}(h:(t++[x]).length<=big):geti (t++[x]) (w64 (((t++[x]).length:Int) - 1))=some x:=by have hb:big=4194304:=rfl;rw[Ma,Gd]at h ⊢;rw[show w64 (((t.length+1:Nat):Int) - 1)=(t.length:Int) by rw[QQ (by omega) (by omega)];omega];rw[zN (by simp)];simp
theorem zCN{w:Str}(hw:w.length<=4000):Has (XE w) fun z=>z.2=true->Closed w:=by
 have hsz:=KX (Zt w).1;have hbig:big=4194304:=rfl;unfold XE;refine Has.eqb (EJ w) ?_;rw[Ha (by omega)];refine Has.eqb (xI w) (Has.bind (zDI w) fun sp hsp=>Has.eqb (show parseF (Zt w).1=some (parS (Zt w).1)from rfl) ?_);dsimp only;refine Has.bif (fun _=>Has.some fun h=>nomatch h) fun hf=> ?_;have e1:((0:Int) != 0)=false:=rfl;rw[e1,Ba]at hf;obtain⟨h1,h2,h3,h4,h5⟩:(Zt w).2=0/\sp.2=0/\(parS (Zt w).1).2=0/\((((parS (Zt w).1).1.length:Nat):Int)==0)=false/\((sp.1.length:Int)==0)=false:=by
  cases h1:(Zt w).2 != 0 with
  |true=>rw[h1]at hf;cases hf
  |false=>
   cases h2:sp.2 != 0 with
   |true=>rw[h1,h2]at hf;cases hf
   |false=>
    cases h3:(parS (Zt w).1).2 != 0 with
    |true=>rw[h1,h2,h3]at hf;cases hf
    |false=>
     cases h4:(((parS (Zt w).1).1.length:Nat):Int)==0 with
     |true=>rw[h1,h2,h3,h4]at hf;cases hf
     |false=>rw[h1,h2,h3,h4]at hf;exact⟨by simpa using h1,by simpa using h2,by simpa using h3,rfl,hf⟩
 obtain⟨_,g2,g3⟩:=tok0 h1;have hc3:=Ey w;have hwt:wtT (Zt w).1<=60000:=by rw[g3];have:=XH (Proofs.Cl.cleanS w);omega
 have hvl:=Fh (parS (Zt w).1).1;obtain⟨n,R,⟨ts,r1,r2,r3,r4⟩,r5⟩:=hsp h2;have hts:QS (Proofs.Cl.cleanS w)=ts:=by rw[DC r1,Yo r5,Xb]
 obtain⟨vt,vb,hv⟩:=zNH h4;have hn:n≠0:=fun e=>by rw[r3,e]at h5;cases h5
 obtain⟨l0,R0,c,r,sq,b,q1,q2,q3,q4,q5⟩:=r4.resolve_left hn;have hsl:sp.1.length<=1500:=by rw[r3,<-r2,<-hts];exact g2
 refine Has.eqb (show geti sp.1 _=some ⟨b,(beh (Proofs.Cl.cleanS w) R:Int)⟩ by rw[q5]at hsl ⊢;exact BZ (by omega)) ?_;dsimp only;refine Has.bind (P:=fun y=>((beh (Proofs.Cl.cleanS w) R:Int)==((Proofs.Cl.cleanS w).length:Int))=true->y=vb) (Has.cond (fun _=>⟨vb,?_,fun _=>rfl⟩) fun h h'=>by rw[h]at h';cases h') fun y6 e6=> ?_
 ·rw[hv];exact BZ (by rw[<-hv];omega)
 refine Has.bind (P:=fun y=>(bif (beh (Proofs.Cl.cleanS w) R:Int)==((Proofs.Cl.cleanS w).length:Int)then y6.token.kind==23 else false)=true->y=tokL (parS (Zt w).1).1) (Has.cond (fun _=>⟨_,fJ (by omega),fun _=>rfl⟩) fun h h'=>by rw[h]at h';cases h') fun y7 e7=> ?_;refine Has.some fun ht=> ?_;dsimp only at ht;cases hc:(beh (Proofs.Cl.cleanS w) R:Int)==((Proofs.Cl.cleanS w).length:Int)with
 |false=>rw[hc]at ht;cases ht
 |true=>
  have e6:=e6 hc;subst e6;rw[hc]at ht e7;cases hk:y6.token.kind==23 with
  |false=>rw[hk]at ht;cases ht
  |true=>
   rw[hk]at ht e7;have e7:=e7 rfl;subst e7;have ht:(((tokL (parS (Zt w).1).1).length:Int)==((Zt w).1.length:Int))=true:=ht;have hpar:=zDp h3 (by have:=Cb.1 ht;omega);rw[g3,hts,q1]at hpar;have hk:=Cb.1 hk;have hR:R=[]:=by
    have h6:=(Kq r1).length_le;have h7:=Cb.1 hc;unfold beh at h7;exact Ag.1 (by
     have:0<(Proofs.Cl.cleanS w).length:=by have h8:=(Ai R0).length_le;have h9:=(Kq q2).length_le;rw[q3,Fa]at h8;omega
     omega)
   rw[<-q1,<-hts,<-g3,hv]at hpar;refine⟨hw,h1,by rw[<-g3,hv];exact hpar,⟨vt,y6,hv,hk⟩,l0,R0,q2,?_⟩;rw[g3,hts,q1]at hpar;have h24:=zFl (by rw[<-g3]at hts;exact hpar) hk;obtain⟨d1,d2⟩:=zMu h24;rw[q3,d1];rw[d2]at q4;rw[<-q4,hR]
def wzT:List zf->Nat
 |[]=>0
 |t::r=>6+t.text.length+t.unit.length+wzT r
theorem CW: ∀l:List zf,wzT l=wtT l+5*l.length
 |[]=>rfl
 |t::r=>by rw[wzT,wtT,CW r,Fa];omega
theorem BB: ∀(n:Nat) (l:List zf) (c:Int) (left:Nat) (v:List zb×List zf),mf n l c left=some v->zV v.1+wzT v.2<=wzT l
 |0,_,_,_,_,h=>by cases h
 |n+1,[],c,left,v,h=>by
  rw[mf]at h;cases h;exact Ta _
 |n+1,t::r,c,left,v,h=>by
  have z0:zV []=0:=rfl;rw[au]at h;rw[wzT];split at h
  ·cases h;simp only[z0];omega
  split at h
  ·cases hv:mf n r c left with
   |none=>rw[hv]at h;cases h
   |some w=> rw[hv]at h;cases h;have:=BB n r c left w hv;simp only[Qi,z0];omega
  ·cases left with
   |zero=>cases h
   |succ m=>
    simp only at h;cases hw:mf n r (Zf t.kind) m with
    |none=>rw[hw]at h;cases h
    |some w=>
     rw[hw,Aa]at h;cases hv:mf n w.2 c (m+1)with
     |none=>rw[hv]at h;cases h
     |some v'=> rw[hv]at h;cases h;have h1:=BB n w.2 c _ v' hv;have h2:=BB n r _ m w hw;simp only[Qi];omega
theorem zMK(l:List zf):zV (parS l).1<=wtT l+5*l.length:=by
 rw[<-CW];have z0:zV []=0:=rfl;unfold parS;split
 ·exact Ra _
 ·split
  ·exact Ra _
  ·rename_i s hs;split
   ·exact Ra _
   ·have hp:=XO l;rw[hs,Ac]at hp;cases hv:vG l 0 16 with
    |none=>rw[hv]at hp;cases hp
    |some v=> rw[hv,Ac]at hp;injection hp with hp;have:=BB _ _ _ _ v hv;rw[hp];dsimp only;omega
theorem gN{w:Str}(hw:w.length<=1800):zV (parS (Zt w).1).1<=34500:=by
 have h1:=zMK (Zt w).1;have h4:=Ey w;have h3:wtT (Zt w).1<=5*(Proofs.Cl.cleanS w).length/\(Zt w).1.length<=1500:=by
  have:=XH (Proofs.Cl.cleanS w);unfold Zt;split
  ·exact⟨Ra _,Ra _⟩
  ·split
   ·exact⟨Ra _,Ra _⟩
   ·exact⟨this,by dsimp only;omega⟩
 omega
noncomputable def QJ(w:Str):List zM:=(ZL 64 (fV true (parS (Zt w).1).1)).1
def okW(w:Str):Prop:=(Zt w).2=0/\(parS (Zt w).1).2=0
theorem zGE{w:Str}(hw:w.length<=1800):zL zB (QJ w)<=207000:=by have hz:=gN hw;obtain⟨y,_,g1,_,_,g4⟩:=jQ (v:=(parS (Zt w).1).1) (q:=⟨64,0⟩) true (c:=0) (by unfold big;omega) ⟨64,by omega,rfl⟩ rfl (by unfold big;omega);have g4:ZL 64 (fV true (parS (Zt w).1).1)=(y.1,rmQ y.2):=g4;unfold QJ;rw[g4];dsimp only;omega
theorem zMY{w:Str}(hw:w.length<=1800):(okW w/\qA w=some (⟨QJ w⟩,0))\/ ∃e,(e != 0)=true/\qA w=some (⟨[]⟩,e)/\((Zt w).2=e\/(Zt w).2=0/\(parS (Zt w).1).2=e):=by
 have hp:parseF (Zt w).1=some (parS (Zt w).1):=rfl;unfold qA bu Fz bJ TK;simp only[xI,hp,za,Aa];cases h1:(Zt w).2==0 with
 |false=>
  have h1':((Zt w).2 != 0)=true:=by rw[bne,h1];rfl
  simp only[h1',Xa,Ca,Aa];exact .inr ⟨_,h1',rfl, .inl rfl⟩
 |true=>
  have h1':((Zt w).2 != 0)=false:=by rw[bne,h1];rfl
  simp only[h1',aa,Ba];cases h2:(parS (Zt w).1).2==0 with
  |false=>
   have h2':((parS (Zt w).1).2 != 0)=true:=by rw[bne,h2];rfl
   simp only[h2',Xa,Ca,Aa];exact .inr ⟨_,h2',rfl, .inr ⟨Cb.1 h1,rfl⟩⟩
  |true=>
   have h2':((parS (Zt w).1).2 != 0)=false:=by rw[bne,h2];rfl
   have hz:=gN hw;obtain⟨y,hy,_,_,_,g4⟩:=jQ (v:=(parS (Zt w).1).1) (q:=⟨64,0⟩) true (c:=0) (by unfold big;omega) ⟨64,by omega,rfl⟩ rfl (by unfold big;omega);have g4:ZL 64 (fV true (parS (Zt w).1).1)=(y.1,rmQ y.2):=g4;simp only[h2',aa,Ba,hy,Aa,show((0:Int) != 0)=false from rfl];refine .inl ⟨⟨Cb.1 h1,Cb.1 h2⟩,?_⟩;unfold QJ;rw[g4]
def tkV(k:Int)(s:Str):zf:=⟨k,s,0,[],false⟩
theorem zMs(y:Str):Zn (108::97::121::101::114::32::y)=([108,97,121,101,114],32::y):=by
 have e:Zn (32::y)=([],32::y):=by rw[Am,Ha (by decide),Ha (by rw[show escS (32::y)=false from rfl];decide)]
 iterate 5 rw[Am,Ka (by decide)]
 rw[e]
theorem zDC(c:Str):QS (64::108::97::121::101::114::32::123::c)=tkV 3 [108,97,121,101,114]::tkV 13 []::tkV 23 []::QS c:=by
 have e:Rf (64::108::97::121::101::114::32::123::c)=(tkV 3 [108,97,121,101,114],32::123::c):=by rw[Xt,show brS 64 (108::97::121::101::114::32::123::c)=6 from rfl,LH,zMs];rfl
 rw[om (Ak rfl),e,zLx,show past spB (123::c)=123::c from rfl,kI (k:=23) (by decide) (by decide) rfl (by decide)];rfl
theorem zHe:QS [125]=[tkV 24 []]:=by rw[kI (k:=24) (by decide) (by decide) rfl (by decide),Yo (Ak rfl)];rfl
theorem zDB{w:Str}(h:Closed w):QS (Proofs.Cl.cleanS ([64,108,97,121,101,114,32,123]++w++[125]))=tkV 3 [108,97,121,101,114]::tkV 13 []::tkV 23 []::(QS (Proofs.Cl.cleanS w)++[tkV 24 []]):=by
 obtain⟨l0,R0,hr,hR⟩:=h.run;have hend:endC (Proofs.Cl.cleanS w):=by obtain⟨q,e⟩:=hR▸(Ai R0).trans (Kq hr);exact⟨q,e.symm⟩
 rw[Jb,bP _ (fun p e=>by have:=congrArg List.getLast? e;simp at this),bP _ (zEm hend),show Proofs.Cl.cleanS [125]=[125]from rfl,show Proofs.Cl.cleanS [64,108,97,121,101,114,32,123]=[64,108,97,121,101,114,32,123]from rfl];show QS (64::108::97::121::101::114::32::123::(Proofs.Cl.cleanS w++[125]))=_;rw[zDC,zNd _ hr hR,zHe]
def botS(s:PSt):List zb:=match s.2.getLast? with
 |none=>s.1
 |some x=>x.2
theorem zHx{s s':PSt}{t:zf}(h:qL s t=some s'):botS s<+:botS s':=by
 obtain⟨cur,st⟩:=s;unfold qL at h;dsimp only at h;split at h
 ·cases h
  match st with
  |[]=>exact bg _
  |[(o,out)]=>exact List.prefix_append ..
  |(o,out)::y::st=>
   show botS (cur,(o,out)::y::st)<+:botS (out++[⟨o,cur⟩],y::st);unfold botS;rw[show((o,out)::y::st).getLast? =(y::st).getLast? from List.getLast?_cons_cons ..];dsimp only;cases h:(y::st).getLast? with
   |none=>simp at h
   |some x=>exact bg _
 ·split at h
  ·split at h
   ·cases h
   ·cases h;cases st with
    |nil=>exact bg _
    |cons y st=>
     unfold botS;rw[show((t,cur)::y::st).getLast? =(y::st).getLast? from List.getLast?_cons_cons ..];cases h:(y::st).getLast? with
     |none=>simp at h
     |some x=>exact bg _
  ·cases h;unfold botS;dsimp only;cases st.getLast? with
   |none=>exact List.prefix_append ..
   |some x=>exact bg _
theorem xX: ∀{l:List zf} {s s':PSt},qi l s=some s'->botS s<+:botS s'
 |[],_,_,h=>by cases h;exact bg _
 |t::l,s,s',h=>by rw[qi]at h;obtain⟨s1,h1,h2⟩:=Ia.1 h;exact(zHx h1).trans (xX h2)
def undS(o:zf)(out:List zb)(s:PSt):PSt:=(s.1,s.2++[(o,out)])
theorem OP{o:zf}{out:List zb}(ho:Zf o.kind=24){v:List zb}(hv: ∀b∈v,b.token.kind≠24): ∀(l:List zf) (s:PSt),qi l s=some (v,[])->qi l (undS o out s)=none\/qi l (undS o out s)=some (undS o out (v,[]))
 |[],s,h=>by cases h;exact .inr rfl
 |t::l,s,h=>by
  rw[qi]at h ⊢;obtain⟨s1,h1,h2⟩:=Ia.1 h;have hb:=xX h2;have ih:=OP (out:=out) ho hv l s1 h2;have key:qL (undS o out s) t=none\/qL (undS o out s) t=some (undS o out s1):=by
   obtain⟨cur,st⟩:=s;unfold qL undS at*;dsimp only at h1 ⊢;cases st with
   |nil=>
    rw[Bc];have e0:Jj [] t=false:=rfl;rw[e0,Ha (by decide)]at h1;by_cases h24:t.kind=24
    ·rw[h24,Ha (by decide)]at h1;cases h1;have:=hb.subset (show(⟨t,[]⟩:zb)∈botS (cur++[⟨t,[]⟩],[])from Pg _ (Ic.2 rfl));exact absurd h24 (hv _ this)
    ·have e1:Jj [(o,out)] t=false:=by show(t.kind==Zf o.kind)=false;rw[ho];exact Da.2 h24
     rw[e1,Ha (by decide)];by_cases hc:Zf t.kind≠0
     ·rw[Ka hc]at h1 ⊢;rw[Ha (by decide)]at h1;rw[Ha (show¬[(o,out)].length=16 by simp)];cases h1;exact .inr rfl
     ·rw[Ha hc]at h1 ⊢;cases h1;exact .inr rfl
   |cons y st=>
    have e1:Jj (y::st++[(o,out)]) t=Jj (y::st) t:=rfl;rw[e1];by_cases hs:Jj (y::st) t=true
    ·rw[Ka hs]at h1 ⊢;cases h1;exact .inr rfl
    ·rw[Ha hs]at h1 ⊢;by_cases hc:Zf t.kind≠0
     ·rw[Ka hc]at h1 ⊢;by_cases h16:(y::st++[(o,out)]).length=16
      ·rw[Ka h16];exact .inl rfl
      ·rw[Ha h16];split at h1
       ·cases h1
       ·cases h1;exact .inr rfl
     ·rw[Ha hc]at h1 ⊢;cases h1;exact .inr rfl
  rcases key with k|k
  ·rw[k];exact .inl rfl
  ·rw[k];exact ih
theorem zF8{l:List zf}{v:List zb}(h:qi l ([],[])=some (v,[]))(hv: ∀b∈v,b.token.kind≠24)(a b:zf)(ha:Zf a.kind=0)(hb:Zf b.kind=0):
  (parS (a::b::tkV 23 []::(l++[tkV 24 []]))).2=4\/(parS (a::b::tkV 23 []::(l++[tkV 24 []]))).2=20\/parS (a::b::tkV 23 []::(l++[tkV 24 []]))=([⟨a,[]⟩,⟨b,[]⟩,⟨tkV 23 [],v⟩],0):=by
 have e:qi (a::b::tkV 23 []::(l++[tkV 24 []])) ([],[])=qi (l++[tkV 24 []]) (undS (tkV 23 []) [⟨a,[]⟩,⟨b,[]⟩] ([],[])):=by
  have p1:qL ([],[]) a=some ([⟨a,[]⟩],[]):=by unfold qL;rw[Ha (show¬Jj [] a=true from fun h=>nomatch h),Ha (by rw[ha];decide)];rfl
  have p2:qL ([⟨a,[]⟩],[]) b=some ([⟨a,[]⟩,⟨b,[]⟩],[]):=by unfold qL;rw[Ha (show¬Jj [] b=true from fun h=>nomatch h),Ha (by rw[hb];decide)];rfl
  rw[qi,p1,Aa,qi,p2,Aa];rfl
 have h2:qi (a::b::tkV 23 []::(l++[tkV 24 []])) ([],[])=none\/qi (a::b::tkV 23 []::(l++[tkV 24 []])) ([],[])=some ([⟨a,[]⟩,⟨b,[]⟩,⟨tkV 23 [],v⟩],[]):=by
  rw[e,kJ];rcases OP (o:=tkV 23 []) (out:=[⟨a,[]⟩,⟨b,[]⟩]) rfl hv l ([],[]) h with h|h
  ·rw[h];exact .inl rfl
  ·rw[h];exact .inr rfl
 rcases h2 with h2|h2
 ·unfold parS;rw[h2];split
  ·exact .inl rfl
  ·exact .inr (.inl rfl)
 ·rw[zLe h2];split
  ·exact .inl rfl
  ·exact .inr (.inr rfl)
theorem BO: ∀(n:Nat) (v:List zb),v.length<n->(∀a∈v,a.token.kind≠14/\a.token.kind≠15)->fV false v=fV true v
 |0,_,h,_=>by omega
 |n+1,[],_,_=>by rw[Nw,Nw]
 |n+1,a::r,hn,h=>by
  obtain⟨h14,h15⟩:=h a (Pb ..);rw[Fa]at hn;have e:Uk false a=Uk true a:=by unfold Uk;rw[Da.2 h14,Da.2 h15];rfl
  have hs:(Ej (a::r)).Sublist (a::r):=by rw[Hu];exact(List.tail_sublist _).trans (KP a r).2
  have hl:=fI a r;rw[sw,sw,e,BO n r (by omega) (fun b hb=>h b (Lb _ hb)),BO n (Ej (a::r)) (by omega) (fun b hb=>h b (hs.subset hb))]
theorem zDv(l:List zb):Jl true [108,97,121,101,114] [⟨tkV 13 [],[]⟩] ⟨tkV 23 [],l⟩=(⟨4,[],[],⟨0,[],0,⟨[],[],false⟩,[]⟩,[],[]⟩,true):=by
 have e:ym ([⟨tkV 13 [],[]⟩],true)=some (⟨4,[],[],⟨0,[],0,⟨[],[],false⟩,[]⟩,[],[]⟩,true):=by unfold ym;rw[bD (by decide),uC (by decide)];rfl
 unfold Jl fH;simp only[aa,Ba,Ca,Vd,e,za,Aa];rfl
theorem zH7(v:List zb):fV true [⟨tkV 3 [108,97,121,101,114],[]⟩,⟨tkV 13 [],[]⟩,⟨tkV 23 [],v⟩]=[⟨4,[],[],⟨0,[],0,⟨[],[],false⟩,[]⟩,[],fV false v⟩]:=by rw[sw,show Uk true ⟨tkV 3 [108,97,121,101,114],[]⟩=false from rfl,Ba,show Ej [⟨tkV 3 [108,97,121,101,114],[]⟩,⟨tkV 13 [],[]⟩,⟨tkV 23 [],v⟩]=[]from rfl,Nw,Xb];unfold oneF;rw[show Tk ⟨tkV 3 [108,97,121,101,114],[]⟩ [⟨tkV 13 [],[]⟩,⟨tkV 23 [],v⟩]=[⟨tkV 23 [],v⟩]from rfl,show Xj ⟨tkV 3 [108,97,121,101,114],[]⟩ [⟨tkV 13 [],[]⟩,⟨tkV 23 [],v⟩]=[⟨tkV 13 [],[]⟩]from rfl];show(bif (23:Int)==23 then Aj (Jl ((3:Int)==3) (Wj ⟨tkV 3 [108,97,121,101,114],[]⟩) [⟨tkV 13 [],[]⟩] ⟨tkV 23 [],v⟩) (fV false v)else _)=_;rw[show Wj ⟨tkV 3 [108,97,121,101,114],[]⟩=[108,97,121,101,114]from rfl,show((3:Int)==3)=true from rfl,zDv];rfl
def hasP(p s:Str):Prop:=p <:+: s
theorem TV: ∀(n:Nat) (q:Str),q.length<n-> ∀t∈QS q,t.kind=14\/t.kind=15->hasP [60,33,45] q\/hasP [45,45,62] q
 |0,_,h=>by omega
 |n+1,q,hn=>fun t ht hk=>by
  have hs:=Ai q;cases hc:cmtS q with
  |nil=>rw[Yo hc]at ht;cases ht
  |cons c r=>
   rw[hc]at hs;rw[om hc]at ht;have h2:(Rf (c::r)).2<:+r:=Ol c r;rcases Kb.1 ht with rfl|ht
   ·have hb:=wX c r;have key: ∀p:Str,List.isPrefixOf p (c::r)=true->p <:+: q:=fun p h=>
     (List.IsPrefix.isInfix (af.1 h)).trans hs.isInfix
    rcases hk with hk|hk
    ·rw[hk]at hb;have hb:brS c r=5:=hb.symm;unfold brS at hb;split at hb;(·cases hb);split at hb;(·cases hb);split at hb;(·cases hb);split at hb;(·cases hb);split at hb;(·cases hb);split at hb
     ·rename_i h;exact .inl ((List.IsPrefix.isInfix ⟨[45],rfl⟩).trans (key _ h))
     split at hb;(·cases hb);split at hb;(·cases hb);split at hb<;>cases hb
    ·rw[hk]at hb;have hb:brS c r=4:=hb.symm;unfold brS at hb;split at hb;(·cases hb);split at hb;(·cases hb);split at hb;(·cases hb);split at hb;(·cases hb);split at hb
     ·rename_i h;exact .inr (key _ h)
     split at hb;(·cases hb);split at hb;(·cases hb);split at hb;(·cases hb);split at hb<;>cases hb
   ·have h3:(Rf (c::r)).2<:+q:=h2.trans ((Wd c r).trans hs);have h4:=h2.length_le;have h5:=hs.length_le;rw[Fa]at h5;rcases TV n (Rf (c::r)).2 (by omega) t ht hk with h|h
    ·exact .inl (h.trans h3.isInfix)
    ·exact .inr (h.trans h3.isInfix)
def plB(y:UInt8):Bool:=y==60||y==33||y==45||y==62
theorem YX: ∀(p s:Str),p.all plB=true->p<+:clR false s->p<+:s
 |[],s,_,_=>List.nil_prefix
 |y::p,[],_,h=>by rw[clR]at h;exact absurd h (by simp)
 |y::p,x::s,hp,h=>by
  rw[Lc,Ea]at hp;rw[clR,Ha (fun h=>nomatch h.2)]at h;unfold clnB at h;split at h
  ·rw[Ab,ve]at h;rw[h.1]at hp;exact absurd hp.1 (by decide)
  ·split at h
   ·rw[Ab,ve]at h;rw[h.1]at hp;exact absurd hp.1 (by decide)
   ·rename_i h2;rw[Ab,Bc,ve]at h;rw[show(x==13)=false from Da.2 fun e=>h2 (.inr e)]at h;exact ve.2 ⟨h.1,YX p s hp.2 h.2⟩
theorem OO{y:UInt8}{p:Str}(hp:(y::p).all plB=true): ∀(s:Str) (f:Bool),y::p <:+: clR f s->y::p <:+: s
 |[],f,h=>by rw[clR]at h;exact h
 |x::s,f,h=>by
  have hy:plB y=true:=by rw[Lc,Ea]at hp;exact hp.1
  have no: ∀{z:UInt8} {l:Str},plB z=false->y::p <:+: z::l->y::p <:+: l:=fun hz h=>by
   rcases List.infix_cons_iff.1 h with h|h
   ·rw[(ve.1 h).1,hz]at hy;cases hy
   ·exact h
  have up:y::p <:+: clR (x==13) s->y::p <:+: x::s:=fun h=>(OO hp s _ h).trans (Wd x s).isInfix;rw[clR]at h;split at h
  ·exact up h
  ·unfold clnB at h;split at h
   ·exact up (no (by decide) (no (by decide) (no (by decide) h)))
   ·split at h
    ·exact up (no (by decide) h)
    ·rename_i h2;rw[Ab,Bc]at h;rcases List.infix_cons_iff.1 h with h3|h3
     ·rw[ve]at h3;rw[show(x==13)=false from Da.2 fun e=>h2 (.inr e)]at h3;rw[Lc,Ea]at hp;exact(ve.2 ⟨h3.1,YX p s hp.2 h3.2⟩).isInfix
     ·exact up h3
theorem EW{w:Str}{t:zf}(ht:t∈QS (Proofs.Cl.cleanS w))(hk:t.kind=14\/t.kind=15):hasP [60,33,45] w\/hasP [45,45,62] w:=by
 rw[<-Ko _ w (Ta _)]at ht;rcases TV _ _ (jd _) t ht hk with h|h
 ·exact .inl (OO (by decide) w false h)
 ·exact .inr (OO (by decide) w false h)
theorem sV{p s:Str}(h:hasP p s)(hp:p.length=3): ∃i:Nat,i+3<=s.length/\(s.drop i).take 3=p:=by obtain⟨a,b,e⟩:=h;subst e;refine⟨a.length,by simp only[Ma];omega,?_⟩;rw[Jb,List.drop_left,<-hp,List.take_left]
theorem zIx {A S X R:Type} {step:S->Option (LO S X R)} (n:Nat) (st:Nat->A->S) (Inv:Nat->A->Prop) (Q:X->Prop) {s0:S} {a0:A} (h0:s0=st 0 a0) (hI:Inv 0 a0)
  (hg: ∀(i:Nat) (a:A),i<n->Inv i a-> ∃a',step (st i a)=some (.again (st (i+1) a'))/\Inv (i+1) a')
  (hf: ∀a,Inv n a-> ∃x,step (st n a)=some (.out x)/\Q x): ∃x,yg step s0=some (.out x)/\Q x:=by
 have key: ∀(m i:Nat) (a:A),i+m=n->Inv i a-> ∃j x,Z6 step j (st i a)=some (.out x)/\Q x:=by
  intro m
  induction m with
  |zero=>
   intro i a hi ha;obtain rfl:i=n:=by omega
   obtain⟨x,h1,h2⟩:=hf a ha;exact⟨1,x,by simp only[Z6,h1],h2⟩
  |succ m ih=> intro i a hi ha;obtain⟨a',h1,h2⟩:=hg i a (by omega) ha;obtain⟨j,x,g1,g2⟩:=ih (i+1) a' (by omega) h2;exact⟨j+1,x,by simp only[Z6,h1];exact g1,g2⟩
 obtain⟨j,x,h1,h2⟩:=key n 0 a0 (by omega) hI;exact⟨x,by rw[h0];exact oh h1,h2⟩
theorem zCQ{R:Type}{l:List Zx}(h:zL Zz l<=big)(b0:Bool)(f0:zG):
  ∃x:Bool×zG,yg (fun(s8:(Bool×Int)×zG)=>
         bif decide (s8.1.2<(l.length:Int))then
          (geti l s8.1.2).bind fun y9=>
          (wo y9.value).bind fun y10=>
          (zD (!(bif s8.1.1 then true else !(y10.2==0))) (Gn y9) (default:Int)).bind fun y11=>
          some (LO.again ((bif bif s8.1.1 then true else !(y10.2==0)then true else !(y11==0),w64 (s8.1.2+1)),(⟨s8.2.rules,if y10.1>s8.2.depth then y10.1 else s8.2.depth,s8.2.bad⟩:zG)))
         else
          some (LO.out (s8.1.1,s8.2)):(Bool×Int)×zG->Option (LO ((Bool×Int)×zG) (Bool×zG) R)) ((b0,0),f0)=some (.out x)/\
   x.1=(b0|| !l.all Tf)/\x.2.rules=f0.rules/\ ∀n:Nat,f0.depth=(n:Int)->l.all Tf=true->x.2.depth=((max n (mx (fun d=>Za d.value) l):Nat):Int):=by
 have hlen:=ZZ Sl l;refine zIx (A:=Bool×zG) l.length (fun i a=>((a.1,(i:Int)),a.2)) (fun i a=>a.1=(b0|| !(l.take i).all Tf)/\a.2.rules=f0.rules/\ ∀n:Nat,f0.depth=(n:Int)->(l.take i).all Tf=true->a.2.depth=((max n (mx (fun d=>Za d.value) (l.take i)):Nat):Int)) _ (a0:=(b0,f0)) rfl
  ⟨by simp,rfl,fun n hn _=>by simp[mx,hn]⟩ (fun i a hi hI=> ?_) (fun a hI=> ?_)
 ·obtain⟨i1,i2,i3⟩:=hI;have hm:=qV (f:=Zz) (Ja hi);have hz:=QK l[i];have hv:=xh l[i].value;have hde:Tf l[i]=(Tf l[i]&&(errS l[i].value==0)):=by unfold Tf;cases Vj l[i].name<;>cases errS l[i].value==0<;>simp
  simp only[Zb hi,Ca,zN hi,Aa,nJ (show szL l[i].value<=big by omega),DT (show zt (Zz l[i])<=big by omega),zQ,zK hi (show l.length<=big by omega)];refine⟨(_,_),rfl,?_,i2,fun n hn hall=> ?_⟩
  ·rw[Du Tf hi,i1];simp only;by_cases he:errS l[i].value=0
   ·rw[Ka he];cases b0<;>cases (l.take i).all Tf<;>cases Tf l[i]<;>rfl
   ·rw[Ha he];have he':=Da.2 he;rw[he',Jc]at hde;simp only[he',hde];cases b0<;>cases (l.take i).all Tf<;>rfl
  ·rw[Du Tf hi,Ea]at hall;have hd:=i3 n hn hall.1;rw[hall.2,Ya]at hde;have he:errS l[i].value=0:=by rw[<-Cb,<-hde]
   rw[kw _ hi];simp only[Ka he,hd,Ij];rw[Nat.max_assoc]
 ·rw[Ie]at hI;exact⟨(a.1,a.2),by simp only[Ze,Ba],hI⟩
theorem zHV {R:Type} {l:List Zx} (h:zL Zz l<=big) {b0:Bool} {f0:zG} {k:Bool×zG->Option R} (G:Option R->Prop)
  (hk: ∀x:Bool×zG,x.1=(b0|| !l.all Tf)->x.2.rules=f0.rules->(∀n:Nat,f0.depth=(n:Int)->l.all Tf=true->x.2.depth=((max n (mx (fun d=>Za d.value) l):Nat):Int))->G (k x)):
  G (zU (fun(s8:(Bool×Int)×zG)=>
         bif decide (s8.1.2<(l.length:Int))then
          (geti l s8.1.2).bind fun y9=>
          (wo y9.value).bind fun y10=>
          (zD (!(bif s8.1.1 then true else !(y10.2==0))) (Gn y9) (default:Int)).bind fun y11=>
          some (LO.again ((bif bif s8.1.1 then true else !(y10.2==0)then true else !(y11==0),w64 (s8.1.2+1)),(⟨s8.2.rules,if y10.1>s8.2.depth then y10.1 else s8.2.depth,s8.2.bad⟩:zG)))
         else
          some (LO.out (s8.1.1,s8.2)):(Bool×Int)×zG->Option (LO ((Bool×Int)×zG) (Bool×zG) R)) ((b0,0),f0) k):=by
 obtain⟨x,hx,h1,h2,h3⟩:=zCQ (R:=R) h b0 f0;rw[wm hx];exact hk x h1 h2 h3
theorem zIo{X R:Type}{m:Option (LX X R)}{k:X->Option R}(G:Option R->Prop)(P:X->Prop)(h: ∃o,m=some (.out o)/\P o)(hk: ∀o,P o->G (k o)):G (Zh m k):=by obtain⟨o,rfl,ho⟩:=h;exact hk o ho
theorem zJa(a b:Nat)(h:a+b<=big):decide (w64 ((a:Int)+(b:Int))>0)= !(decide (a=0)&&decide (b=0)):=by
 rw[Et h];cases a with
 |zero=>cases b with
  |zero=>rfl
  |succ b=>exact Ga (by omega)
 |succ a=> rw[Ga (by omega),Ua (show¬(a+1=0) by omega)];rfl
theorem CP{α β:Type}(l:List α)(m:List β)(h:l.length+m.length<=big):decide (w64 ((l.length:Int)+(m.length:Int))>0)= !(l.isEmpty&&m.isEmpty):=by rw[zJa _ _ h];cases l<;>cases m<;>simp
theorem zDg{l:List (List Str)}(hl:l.length<=big)(h: ∀n∈l,n.length<=big):qW l=some (!l.all Mg):=by
 unfold qW UL;refine Dl (ni l (fun c=> !Mg c) hl (fun i hi=> ?_) ?_) ((Jk _ _).trans (Pq _ _))
 ·have:xE l[i]=some (!Mg l[i]):=by unfold xE;simp only[sQ (h _ (Ja hi)),za,Aa]
  simp only[Zb hi,Ca,zN hi,za,Aa,this]
 ·simp only[Ze,Ba]
def RV(l:List zM)(y:zG):Prop:=y.rules=(ql l:Int)/\y.bad= !(l.all qj)/\(l.all qj=true->y.depth=(mx QY l:Int))
theorem zDi{l:List zM}{i:Nat}(hi:i<l.length):ql (l.take (i+1))=ql (l.take i)+numR l[i]:=by rw[oC,oC,jo numR hi]
theorem F8(l:List zM)(i:Nat):ql (l.take i)<=ql l:=by rw[oC,oC];exact Cz numR l i
theorem PS{l:List zM}(h:zL zB l<=big): ∃y,Il l=some y/\RV l y:=by
 refine Vq zru (fun l=>zL zB l) (fun l=>zL zB l<=big) RV (fun S l hl hS=> ?_) h;have hlen:=ZZ El l;have hnl:=OZ l;unfold Bv;refine LC (A:=zG) l.length (fun i a=>((i:Int),a)) (fun i a=>a.rules=(ql (l.take i):Int)/\a.bad= !((l.take i).all qj)/\((l.take i).all qj=true->a.depth=(mx QY (l.take i):Int))) _ (a0:=⟨0,0,false⟩) rfl
  ⟨by simp[ql],by simp,fun _=>by simp[mx]⟩ (fun i a hi hI=> .inl ?_) (fun a hI=> .inl ?_)
 ·obtain⟨i1,i2,i3⟩:=hI;have hm:=qV (f:=zB) (Ja hi);have ht:=zDi hi;have ht2:=F8 l (i+1);have hnr:=Tq l[i];have hz:=Rj l[i];have hcp:=ED l[i].cond;have hls:=ZZ Qt l[i].selectors;have hld:=ZZ Sl l[i].decls;have hlr:=ZZ El l[i].rules;have hrd:=kQ l[i].rules;obtain⟨hn1,hn2⟩:=iM l[i].names;obtain⟨f,hf1,hf2,hf3,hf4⟩:=hS l[i].rules (by omega) (by omega);have hnames:=zDg (l:=l[i].names) (by omega) (fun n hn=>by have:=(hn2 n hn).1;omega);obtain⟨told,htold1,htold2⟩:=aQ (c:=l[i].cond) (by omega);have e32:decide ((l[i].decls.length:Int)>32)= !decide (l[i].decls.length<=32):=Xg _ 32;have e64:decide ((l[i].names.length:Int)>64)= !decide (l[i].names.length<=64):=Xg _ 64;have hsh:=Vu l[i];have hde:=Tx l[i];have hw1:w64 (f.rules+1)=((numR l[i]:Nat):Int):=by rw[hf2,hnr,Um (by omega),Te]
  have hw2:w64 (a.rules+((numR l[i]:Nat):Int))=((ql (l.take (i+1)):Nat):Int):=by rw[i1,Et (by omega),ht]
  -- what is to be shown of a round
  have fin: ∀(o:(Int×Bool)×zG×zG),o.2.1=⟨((ql (l.take (i+1)):Nat):Int),a.depth,a.bad⟩->o.1.2= !(qj l[i])->(qj l[i]=true-> ∃e n:Nat,o.1.1=(e:Int)/\w64 (o.2.2.depth+1)=(n:Int)/\max n e=QY l[i])->
    ∃a':zG,(some (LO.again (w64 ((i:Int)+1),(⟨o.2.1.rules,if o.1.1>(if w64 (o.2.2.depth+1)>o.2.1.depth then w64 (o.2.2.depth+1)else o.2.1.depth)then o.1.1 else if w64 (o.2.2.depth+1)>o.2.1.depth then w64 (o.2.2.depth+1)else o.2.1.depth,bif o.2.1.bad then true else o.1.2⟩:zG))):Option (LO (Int×zG) zG zG))=some (.again (((i+1:Nat):Int),a'))/\
     (a'.rules=(ql (l.take (i+1)):Int)/\a'.bad= !((l.take (i+1)).all qj)/\((l.take (i+1)).all qj=true->a'.depth=(mx QY (l.take (i+1)):Int))):=by
   intro o ho1 ho2 ho3;rw[zK hi (show l.length<=big by omega)];refine⟨_,rfl,?_,?_,fun hall=> ?_⟩
   ·simp only[ho1]
   ·simp only[ho1];rw[Du qj hi,i2,ho2];cases (l.take i).all qj<;>cases qj l[i]<;>rfl
   ·rw[Du qj hi,Ea]at hall;obtain⟨e,n,h1,h2,h3⟩:=ho3 hall.2;have hd:=i3 hall.1;simp only[ho1];rw[kw _ hi,h1,h2,hd,Ij,Ij,<-h3,Nat.max_assoc]
  simp only[Zb hi,Ca,zN hi,za,Aa,hf1,hnames];refine zIo (fun(q:Option (LO (Int×zG) zG zG))=> ∃a':zG,q=some (LO.again (((i+1:Nat):Int),a'))/\(a'.rules=(ql (l.take (i+1)):Int)/\a'.bad= !((l.take (i+1)).all qj)/\((l.take (i+1)).all qj=true->a'.depth=(mx QY (l.take (i+1)):Int))))
   (fun o=>o.2.1=⟨((ql (l.take (i+1)):Nat):Int),a.depth,a.bad⟩/\o.1.2= !(qj l[i])/\(qj l[i]=true-> ∃e n:Nat,o.1.1=(e:Int)/\w64 (o.2.2.depth+1)=(n:Int)/\max n e=QY l[i])) ?_ (fun o ho=>fin o ho.1 ho.2.1 ho.2.2)
  simp only[Zq,tQ,zoY (show zL zh l[i].selectors<=big by omega),zp0 (show zL zh l[i].selectors<=big by omega),Aa,
   zt7 (show zt (zk l[i].cond)<=big by omega),zmP (show zt (zk l[i].cond)<=big by omega),IU (show zt (zk l[i].cond)<=big by omega),htold1,zQ,e32,e64,hw1,hw2,hf3,
   CP l[i].selectors l[i].decls (by omega),CP l[i].names l[i].rules (by omega),eX,tV,xy,bne]
  unfold Cj kv at hsh;unfold Dj at hde
  -- the depth of the rules in it
  have hdeep:l[i].rules.all qj=true->w64 (f.depth+1)=((mx QY l[i].rules+1:Nat):Int):=fun ha=>by rw[hf4 ha,Um (by omega)]
  have hnone:l[i].selectors.isEmpty=true->l[i].decls.isEmpty=true->selL l[i].selectors=0/\mx (fun d=>Za d.value) l[i].decls=0:=fun h1 h2=>by rw[ae.1 h1,ae.1 h2];exact⟨by rw[selL],rfl⟩
  by_cases k1:l[i].kind=1
  ·simp only[k1,Int.reduceBEq,Ca,Ba]at hsh hde ⊢;refine zHV (l:=l[i].decls) (by omega) (fun(q:Option (LX ((Int×Bool)×zG×zG) (LO (Int×zG) zG zG)))=> ∃o,q=some (LX.out o)/\(o.2.1=⟨((ql (l.take (i+1)):Nat):Int),a.depth,a.bad⟩/\o.1.2= !(qj l[i])/\(qj l[i]=true-> ∃e n:Nat,o.1.1=(e:Int)/\w64 (o.2.2.depth+1)=(n:Int)/\max n e=QY l[i]))) (fun x h1 h2 h3=>⟨_,rfl,rfl,?_,fun hok=> ?_⟩)
   ·simp only[h1,hsh];cases l[i].rules.all qj<;>cases l[i].names.all Mg<;>simp only[aa,Xa,Ca,Ba]<;>cases selS l[i].selectors==0<;>cases decide (l[i].decls.length<=32)<;>cases Rh l[i].cond<;>cases l[i].names.isEmpty<;>cases l[i].rules.isEmpty<;>cases l[i].decls.all Tf<;>rfl
   ·rw[hok]at hsh;have hsh:=hsh.symm;simp only[Ea]at hsh;have hdl:=aJ l[i].decls;refine⟨selL l[i].selectors,max (mx QY l[i].rules) (mx (fun d=>Za d.value) l[i].decls)+1,rfl,?_,by rw[hde];omega⟩;simp only[h3 _ (hf4 hsh.2.2) hsh.1.2.2.2.2.2];rw[Um (by omega)]
  have b1:=Da.2 k1;rw[b1]at hsh ⊢;simp only[Ba]at hsh ⊢;by_cases k2:l[i].kind=2
  ·simp only[k2,Int.reduceBEq,Ca,Ba]at hsh hde ⊢;refine⟨_,rfl,rfl,?_,fun hok=> ?_⟩
   ·simp only[hsh];cases l[i].rules.all qj<;>cases l[i].names.all Mg<;>cases l[i].selectors.isEmpty<;>cases l[i].decls.isEmpty<;>cases l[i].names.isEmpty<;>cases uk l[i].cond<;>rfl
   ·rw[hok]at hsh;have hsh:=hsh.symm;simp only[Ea]at hsh;obtain⟨g1,g2⟩:=hnone hsh.1.1.1 hsh.1.1.2;refine⟨bif askB l[i].cond then 1 else 0,_,?_,hdeep hsh.2.2,by rw[hde,g1,g2];cases askB l[i].cond<;>simp only[Ca,Ba]<;>omega⟩;cases askB l[i].cond<;>rfl
  have b2:=Da.2 k2;rw[b2]at hsh hde ⊢;simp only[Ba]at hsh hde ⊢;by_cases k3:l[i].kind=3
  ·simp only[k3,Int.reduceBEq,Ca,Ba]at hsh hde ⊢;refine⟨_,rfl,rfl,?_,fun hok=> ?_⟩
   ·simp only[hsh];cases l[i].rules.all qj<;>cases l[i].names.all Mg<;>cases l[i].selectors.isEmpty<;>cases l[i].decls.isEmpty<;>cases l[i].names.isEmpty<;>cases Ik l[i].cond<;>rfl
   ·rw[hok]at hsh;have hsh:=hsh.symm;simp only[Ea]at hsh;obtain⟨g1,g2⟩:=hnone hsh.1.1.1 hsh.1.1.2;have hsup:supC l[i].cond=true:=by have:=hsh.1.2.2;unfold Ik at this;rw[Ea]at this;exact this.1
    refine⟨Vf l[i].cond,_,htold2 hsup,hdeep hsh.2.2,by rw[hde,g1,g2];omega⟩
  have b3:=Da.2 k3;rw[b3]at hsh hde ⊢;simp only[Ba]at hsh hde ⊢;by_cases k4:l[i].kind=4
  ·simp only[k4,Int.reduceBEq,Ca,Ba]at hsh hde ⊢;refine⟨_,rfl,rfl,?_,fun hok=> ?_⟩
   ·simp only[hsh];cases l[i].rules.all qj<;>cases l[i].names.all Mg<;>cases l[i].selectors.isEmpty<;>cases l[i].decls.isEmpty<;>cases decide (l[i].names.length<=1)<;>cases Rh l[i].cond<;>rfl
   ·rw[hok]at hsh;have hsh:=hsh.symm;simp only[Ea]at hsh;obtain⟨g1,g2⟩:=hnone hsh.1.1.1 hsh.1.1.2;exact⟨0,_,rfl,hdeep hsh.2.2,by rw[hde,g1,g2];omega⟩
  have b4:=Da.2 k4;rw[b4]at hsh ⊢;simp only[Ba]at hsh ⊢;by_cases k5:l[i].kind=5
  ·simp only[k5,Int.reduceBEq,Ca,Ba]at hsh hde ⊢;refine⟨_,rfl,rfl,?_,fun hok=> ?_⟩
   ·simp only[hsh];have hn1:decide ((l[i].names.length:Int)<1)=l[i].names.isEmpty:=xy _;cases l[i].rules.all qj<;>cases l[i].names.all Mg<;>cases l[i].selectors.isEmpty<;>cases l[i].decls.isEmpty<;>cases l[i].names.isEmpty<;>cases decide (l[i].names.length<=64)<;>cases l[i].rules.isEmpty<;>cases Rh l[i].cond<;>rfl
   ·exact⟨0,0,rfl,rfl,by rw[hde];rfl⟩
  have b5:=Da.2 k5;rw[b5]at hsh ⊢;simp only[Ba]at hsh ⊢;refine⟨_,rfl,rfl,by simp only[hsh];rfl,fun hok=> ?_⟩;rw[hok]at hsh;cases hsh
 ·rw[Ie]at hI;exact⟨a,by simp only[Ze,Ba],a,rfl,hI⟩
theorem pK{l:List zM}(h:zL zB l<=big):nu l=some (bif Ni l then 0 else 8):=by
 obtain⟨y,h1,h2,h3,h4⟩:=PS h;have e64:decide ((ql l:Int)>64)= !decide (ql l<=64):=Xg _ 64;have e16:decide ((mx QY l:Int)>16)= !decide (mx QY l<=16):=Xg _ 16;unfold nu Ni;simp only[h1,za,Aa,h2,h3,e64];cases hs:l.all qj with
 |false=>cases decide (ql l<=64)<;>rfl
 |true=> rw[h4 hs,e16];cases decide (ql l<=64)<;>cases decide (mx QY l<=16)<;>rfl
theorem zt6{s:zc1}(h:zL zB s.rules<=big):Ez s=some (bif Ni s.rules then((ql s.rules:Int),0)else(0,8)):=by obtain⟨y,h1,h2,h3,h4⟩:=PS h;unfold Ez Er;simp only[h1,pK h,za,Aa,h2];cases Ni s.rules<;>rfl
theorem zLF{w:Str}(hw:w.length<=4000):(Zt w).2=0\/(Zt w).2=4:=by
 unfold Zt;rw[Ha (by omega)];split
 ·exact .inr rfl
 ·exact .inl rfl
theorem zLf(l:List zf):(parS l).2=0\/(parS l).2=4\/(parS l).2=20:=by
 unfold parS;split
 ·exact .inr (.inl rfl)
 ·split
  ·exact .inr (.inr rfl)
  ·split
   ·exact .inr (.inl rfl)
   ·exact .inl rfl
theorem SY{w:Str}(hw:w.length<=1800):(okW w/\qA w=some (⟨QJ w⟩,0))\/ ∃e,(e=4\/e=20)/\qA w=some (⟨[]⟩,e):=by
 rcases zMY hw with h|⟨e,h1,h2,h3⟩
 ·exact .inl h
 ·refine .inr ⟨e,?_,h2⟩;have h0:e≠0:=Df.1 h1;rcases h3 with h3|⟨_,h3⟩
  ·rcases zLF (w:=w) (by omega)with h|h
   ·exact absurd (h3.symm.trans h) h0
   ·exact .inl (h3.symm.trans h)
  ·rcases zLf (Zt w).1 with h|h|h
   ·exact absurd (h3.symm.trans h) h0
   ·exact .inl (h3.symm.trans h)
   ·exact .inr (h3.symm.trans h)
theorem zGD{w:Str}(hw:w.length<=1800)(h:okW w):Ni (QJ w)=true:=by have hz:=gN hw;exact zA5 (by unfold big;omega) (zF6 h.2).1
theorem PZ{r:zM}: ∀{l:List zM},r∈l->numR r<=ql l
 |[],h=>by cases h
 |a::l,h=>by
  rw[ql];rcases Kb.1 h with rfl|h
  ·omega
  ·have:=PZ h;omega
theorem zDx{l:List zM}(h:Ni l=true){r:zM}(hr:r∈l):Ni [r]=true:=by
 unfold Ni at h ⊢;rw[Ea,Ea,ja,ja]at h;obtain⟨h1,h2,h3⟩:=h;have h4:numR r<=ql l:=by exact PZ hr
 have h5:QY r<=mx QY l:=nV hr;have e1:ql [r]=numR r:=by rw[ql,ql];rfl
 have e2:mx QY [r]=QY r:=by show max _ 0=_;omega
 rw[e1,e2,Ga (show numR r<=64 by omega),Ga (show QY r<=16 by omega),Lc,Rb.1 h2 r hr];rfl
def allS(K:zf->Prop)(s:PSt):Prop:=(∀b∈s.1,K b.token)/\ ∀x∈s.2,K x.1/\ ∀b∈x.2,K b.token
theorem zHm{K:zf->Prop}{s s':PSt}{t:zf}(ht:K t)(hs:allS K s)(h:qL s t=some s'):allS K s':=by
 obtain⟨cur,st⟩:=s;obtain⟨h1,h2⟩:=hs;unfold qL at h;split at h
 ·cases h
  match st,h2 with
  |[],_=>exact⟨h1,fun x hx=>nomatch hx⟩
  |(o,out)::st,h2=>
   obtain⟨h3,h4⟩:=h2 _ (Pb ..);refine⟨fun b hb=> ?_,fun x hx=>h2 x (Lb _ hx)⟩;rcases Ec.1 hb with hb|hb
   ·exact h4 b hb
   ·rw[Ic.1 hb];exact h3
 ·split at h
  ·split at h
   ·cases h
   ·cases h;refine⟨(fun b hb=>by cases hb),fun x hx=> ?_⟩;rcases Kb.1 hx with rfl|hx
    ·exact⟨ht,h1⟩
    ·exact h2 x hx
  ·cases h;refine⟨fun b hb=> ?_,h2⟩;rcases Ec.1 hb with hb|hb
   ·exact h1 b hb
   ·rw[Ic.1 hb];exact ht
theorem uX{K:zf->Prop}: ∀{l:List zf} {s s':PSt},(∀t∈l,K t)->allS K s->qi l s=some s'->allS K s'
 |[],_,_,_,hs,h=>by cases h;exact hs
 |t::l,s,s',hl,hs,h=>by rw[qi]at h;obtain⟨s1,h1,h2⟩:=Ia.1 h;exact uX (fun u hu=>hl u (Lb _ hu)) (zHm (hl t (Pb ..)) hs h1) h2
theorem zHQ(n:Nat)(k:Int)(s:List zm)(d:List Zx)(c:zw)(m:List (List Str))(q:List zM):(ZL (n+1) [⟨k,s,d,c,m,q⟩]).1=[⟨k,s,d,c,m,(ZL n q).1⟩]:=by rw[ZL];show _::(ZL _ []).1=_;rw[ZL]
theorem zCG{w:Str}(hw:w.length<=600)(h:Closed w)(hs: ∀b∈(parS (Zt w).1).1,b.token.kind≠24):
  (∃e,(e=4\/e=20)/\qA ([64,108,97,121,101,114,32,123]++w++[125])=some (⟨[]⟩,e))\/qA ([64,108,97,121,101,114,32,123]++w++[125])=some (⟨[⟨4,[],[],⟨0,[],0,⟨[],[],false⟩,[]⟩,[],(ZL 63 (fV false (parS (Zt w).1).1)).1⟩]⟩,0):=by
 have hl:([64,108,97,121,101,114,32,123]++w++[125]:Str).length<=1800:=by simp only[Ma,Fa,Eb];omega
 rcases SY hl with⟨⟨o1,o2⟩,o3⟩|h
 ·refine .inr ?_;rw[o3];unfold QJ;have e:=(tok0 o1).2.2;rw[zDB h]at e;rw[e]at o2 ⊢;rcases zF8 h.par hs (tkV 3 [108,97,121,101,114]) (tkV 13 []) rfl rfl with g|g|g
  ·rw[g]at o2;cases o2
  ·rw[g]at o2;cases o2
  ·rw[g,zH7,zHQ]
 ·exact .inl h
theorem zCH{w:Str}(h:Closed w)(_:okW w)(hn:ql (QJ w)<=63)(hm: ¬hasP [60,33,45] w/\ ¬hasP [45,45,62] w):(ZL 63 (fV false (parS (Zt w).1).1)).1=QJ w:=by
 have hk: ∀a∈(parS (Zt w).1).1,a.token.kind≠14/\a.token.kind≠15:=fun a ha=>by
  have h:=(uX (K:=fun t=>t∈QS (Proofs.Cl.cleanS w)) (fun _ h=>h) ⟨(fun b hb=>by cases hb),(fun x hx=>by cases hx)⟩ h.par).1 a ha;constructor<;>intro hk
  ·rcases EW h (.inl hk)with h|h
   ·exact hm.1 h
   ·exact hm.2 h
  ·rcases EW h (.inr hk)with h|h
   ·exact hm.1 h
   ·exact hm.2 h
 rw[BO _ _ (jd _) hk];unfold QJ at hn ⊢;rw[(Dy _ _).1]at hn;rw[LD _ _ (by omega),LD _ _ (by omega)]
theorem dm{X R:Type}{step:Int->Option (LO Int X R)}{k:X->Option R}(n:Nat)(x:X)(h: ∀i,i<n->step (i:Int)=some (.again ((i+1:Nat):Int)))(hf:step (n:Int)=some (.out x)):zU step 0 k=k x:=by
 refine(EI (List.replicate n ()) (fun i (_:Unit)=>(i:Int)) (fun v (_:Unit)=>some (.again ())) (fun _=>some (.out x)) (a:=()) rfl (fun i a hi=> ?_) (fun a=> ?_) (r:= .out x) ?_)
 ·rw[h i (by simpa using hi)];rfl
 ·rw[List.length_replicate,hf];rfl
 ·rw[vo (fun a v=>a) (fun v a=>rfl)]
theorem zND{a:List zb}(h:szL a<=big):Xl (a,a)=some true:=by
 refine ZP (fun x:List zb×List zb=>szL x.1) (fun x=>szL x.1<=big/\x.1=x.2) (fun x=>true) (fun S x hl hS=> ?_) (show szL (a,a).1<=big/\(a,a).1=(a,a).2 from⟨h,rfl⟩);obtain⟨l,l'⟩:=x;obtain⟨hl,he⟩:=hl;simp only at hl hS he;subst he;unfold Jz;have hlen:=Fh l;have hne:((l.length:Int) != (l.length:Int))=false:=by simp
 simp only[hne,Ba];refine dm l.length () (fun i hi=> ?_) ?_
 ·have hsz:=Bl (Ja hi);have hv2:=Mi l[i];have hs1:szL l[i].list<=big:=by omega
  have hs2:szL l[i].list<szL l:=by omega
  have hSq:S (l[i].list,l[i].list)=some true:=hS (l[i].list,l[i].list) ⟨hs1,rfl⟩ hs2;simp[hi,zN hi,hSq,zK hi (by omega)]
 ·simp only[Ze,Ba]
theorem aV{d:Zx}(h:zL zA d.value<=big):Dp (d,d)=some true:=by unfold Dp;have:=xh d.value;have e1:(d.name==d.name)=true:=Vd _;have e2:(d.important==d.important)=true:=Vd _;simp only[e1,e2,Ca,Zd,zND (show szL d.value<=big by omega),za,Aa]
theorem zNE{l:List Zx}(h:zL Zz l<=big):Yy (l,l)=some true:=by
 unfold Yy;have hlen:=ZZ Sl l;have hne:((l.length:Int) != (l.length:Int))=false:=by simp
 simp only[hne,Ba];refine dm l.length () (fun i hi=> ?_) ?_
 ·have hsz:=qV (f:=Zz) (Ja hi);have hv2:=QK l[i];have h1:Dp (l[i],l[i])=some true:=aV (by omega);simp[hi,zN hi,h1,zK hi (by omega)]
 ·simp only[Ze,Ba]
theorem zM2{c:zw}(h:zt (zk c)<=big):Pk (c,c)=some true:=by
 refine ZP (fun x:zw×zw=>zt (zk x.1)) (fun x=>zt (zk x.1)<=big/\x.1=x.2) (fun x=>true) (fun S x hl hS=> ?_) (show zt (zk (c,c).1)<=big/\(c,c).1=(c,c).2 from⟨h,rfl⟩);obtain⟨c,c'⟩:=x;obtain⟨hl,he⟩:=hl;simp only at hl hS he;subst he;unfold Hz;have hlen:=Qz c;have hd:=NJ c;rw[QK]at hd;have e1:(c.kind != c.kind)=false:=by simp
 have e2:(c.name==c.name)=true:=Vd _;have e3:(c.num != c.num)=false:=by simp
 have e4:((c.list.length:Int) != (c.list.length:Int))=false:=by simp
 simp only[e1,e2,e3,e4,Ba,aa,Xa,Zd,aV (show zL zA c.decl.value<=big by omega),za,Aa];refine dm c.list.length () (fun i hi=> ?_) ?_
 ·have hsz:=Qv (Ja hi);have hSq:S (c.list[i],c.list[i])=some true:=hS (c.list[i],c.list[i]) ⟨by show zt (zk c.list[i])<=big;omega,rfl⟩ hsz;simp[hi,zN hi,hSq,zK hi (by omega),Zq]
 ·simp only[Ze,Ba]
theorem zNF{l:List zm}(h:zL zh l<=big):ZQ (l,l)=some true:=by
 refine ZP (fun x:List zm×List zm=>zL zh x.1) (fun x=>zL zh x.1<=big/\x.1=x.2) (fun x=>true) (fun S x hl hS=> ?_) (show zL zh (l,l).1<=big/\(l,l).1=(l,l).2 from⟨h,rfl⟩);obtain⟨l,l'⟩:=x;obtain⟨hl,he⟩:=hl;simp only at hl hS he;subst he;unfold LF;have hlen:=ZZ Qt l;have hne:((l.length:Int) != (l.length:Int))=false:=by simp
 simp only[hne,Ba];have hsimp: ∀q:List zI,zL zW q<zL zh l->iG S (q,q)=some true:=by
  intro q hq;unfold iG;have hq1:=ZZ Ap q;have hne:((q.length:Int) != (q.length:Int))=false:=by simp
  simp only[hne,Ba];refine dm q.length () (fun i hi=> ?_) ?_
  ·have hsz:=qV (f:=zW) (Ja hi);have hv2:=QV q[i];have h1:S (q[i].list,q[i].list)=some true:=hS (q[i].list,q[i].list) ⟨by show zL zh q[i].list<=big;omega,rfl⟩ (by show zL zh q[i].list<_;omega);simp only[Ga (show(i:Int)<(q.length:Int) by omega),Ca,zN hi,za,Aa,Gv,Vd,Bool.and_self,aa,Xa,Zd,h1,Ba,zK hi (by omega)]
  ·simp only[Ze,Ba]
 refine dm l.length () (fun i hi=> ?_) ?_
 ·have hsz:=qV (f:=zh) (Ja hi);have hv2:=Sk l[i];have hlp:=ZZ Jn l[i].parts;have h1:rD S (l[i],l[i])=some true:=by
   unfold rD;have e1:(l[i].lead != l[i].lead)=false:=by simp
   have e2:((l[i].parts.length:Int) != (l[i].parts.length:Int))=false:=by simp
   have e3:(l[i].combs==l[i].combs)=true:=Vd _;simp only[e1,e2,e3,Ba,aa];refine dm l[i].parts.length () (fun j hj=> ?_) ?_
   ·have hsz2:=qV (f:=z8) (Ja hj);have hv3:=Qu l[i].parts[j];have h1:=hsimp l[i].parts[j].simples (by omega);simp[hj,zN hj,h1,zK hj (by omega),za]
   ·simp only[Ze,Ba]
  have eta:(⟨l[i].lead,l[i].parts,l[i].combs⟩:zm)=l[i]:=by cases l[i];rfl
  simp[hi,zN hi,eta,h1,zK hi (by omega),za]
 ·simp only[Ze,Ba]
theorem zNG{l:List (List Str)}(hl:l.length<=big)(h: ∀n∈l,n.length<=big):nz (l,l)=some true:=by
 unfold nz;have hne:((l.length:Int) != (l.length:Int))=false:=by simp
 simp only[hne,Ba];refine dm l.length () (fun i hi=> ?_) ?_
 ·have h2:=h l[i] (Ja hi);have hne:((l[i].length:Int) != (l[i].length:Int))=false:=by simp
  simp only[Ga (show(i:Int)<(l.length:Int) by omega),Ca,zN hi,za,Aa,hne,Ba];refine(dm l[i].length () (fun j hj=> ?_) ?_).trans ?_
  ·simp[hj,zN hj,zK hj h2]
  ·simp only[Ze,Ba]
  ·rw[zK hi hl]
 ·simp only[Ze,Ba]
theorem zM3{S:List zM×List zM->Option Bool}{r:zM}(h:zt (zB r)<=big)(hS:S (r.rules,r.rules)=some true):NE S (r,r)=some true:=by unfold NE;have hv2:=Rj r;have hn:=iM r.names;have e1:(r.kind==r.kind)=true:=Vd _;have g1:ZQ (r.selectors,r.selectors)=some true:=zNF (by omega);have g2:Yy (r.decls,r.decls)=some true:=zNE (by omega);have g3:Pk (r.cond,r.cond)=some true:=zM2 (by omega);have g4:nz (r.names,r.names)=some true:=zNG (by omega) (fun n hm=>by have:=(hn.2 n hm).1;omega);simp only[e1,Zd,g1,za,Aa,Ca,g2,Zq,g3,g4,hS]
theorem zLu{l:List zM}(h:zL zB l<=big):Qd (l,l)=some true:=by
 refine ZP (fun x:List zM×List zM=>zL zB x.1) (fun x=>zL zB x.1<=big/\x.1=x.2) (fun x=>true) (fun S x hl hS=> ?_) (show zL zB (l,l).1<=big/\(l,l).1=(l,l).2 from⟨h,rfl⟩);obtain⟨l,l'⟩:=x;obtain⟨hl,he⟩:=hl;simp only at hl hS he;subst he;unfold CF;have hlen:=ZZ El l;have hne:((l.length:Int) != (l.length:Int))=false:=by simp
 simp only[hne,Ba];refine dm l.length () (fun i hi=> ?_) ?_
 ·have hm:=qV (f:=zB) (Ja hi);have hv:=Rj l[i];have g:=zM3 (S:=S) (r:=l[i]) (by omega) (hS (l[i].rules,l[i].rules) ⟨by show zL zB l[i].rules<=big;omega,rfl⟩ (by show zL zB l[i].rules<zL zB l;omega));simp only[Ga (show(i:Int)<(l.length:Int) by omega),Ca,zN hi,za,Aa,Zq,Wx,g,aa,Ba,zK hi (show l.length<=big by omega)]
 ·simp only[Ze,Ba]
theorem rH: @Cm fuK ()=some true:=by decide+kernel
theorem YN{c:Bool}(h:c=true):Has (za (zD c (@Cm fuK ()) (default:Bool)) fun y=>some (bif c then y else false)) fun y=>y=true:=by subst h;rw[rH];exact Has.some rfl
theorem vX:Has (za (@Cm fuK ()) fun y=>some y) fun y=>y=true:=by rw[rH];exact Has.some rfl
theorem zG3{w:Str}(hw:w.length<=4000):Has (EE w) fun y=>y=false-> ∀b∈(parS (Zt w).1).1,b.token.kind≠24:=by
 have hp:parseF (Zt w).1=some (parS (Zt w).1):=rfl;have hsz:=KX (Zt w).1;have hvl:=Fh (parS (Zt w).1).1;have hc:=Ey w;have hwt:wtT (Zt w).1<=60000:=by
  have:=XH (Proofs.Cl.cleanS w);unfold Zt;split
  ·exact Ra _
  ·split
   ·exact Ra _
   ·have:wtT (QS (Proofs.Cl.cleanS w))<=5*(Proofs.Cl.cleanS w).length:=this;dsimp only;omega
 have hbig:big=4194304:=rfl;unfold EE;refine Has.eqb (xI w) (Has.eqb hp ?_);generalize (parS (Zt w).1).1=v at hsz hvl;refine Has.loop (fun s=> ∃i:Nat,i<=v.length/\s=(i:Int)/\ ∀b∈v.take i,b.token.kind≠24) (fun s=>v.length - s.toNat) (P:=fun _=> ∀b∈v,b.token.kind≠24) ⟨0,Ra _,rfl,fun b hb=>nomatch hb⟩ (fun s ⟨i,hi,e,h⟩=> ?_) fun _ h=>Has.some fun _=>h;subst e;refine Has.bif (fun hlt=> ?_) fun hge=>Has.some ?_
 ·have hlt:i<v.length:=by have:=Fb hlt;omega
  refine Has.eqb (zN hlt) (Has.bif (fun _=>Has.some fun h=>nomatch h) fun hk=>Has.some ⟨⟨i+1,hlt,zK hlt (by omega),?_⟩,?_⟩)
  ·intro b hb;rw[Rc hlt]at hb;rcases Ec.1 hb with hb|hb
   ·exact h b hb
   ·rw[Ic.1 hb];exact Da.1 hk
  ·show v.length - (w64 ((i:Int)+1)).toNat<v.length - i;rw[zK hlt (by omega)];omega
 ·have:v.length<=i:=by have:=Ad hge;omega
  rw[Hg this]at h;exact h
theorem zsI(x:Str):Has (gz x) fun y=>y=true:=by
 unfold gz;refine Has.bif (fun _=>vX) fun hl=> ?_;have hw:x.length<=600:=by have:=Ad hl;omega
 have er: ∀{e:Int},e=4\/e=20->(bif e==4 then true else e==20)=true:=fun h=>by rcases h with rfl|rfl<;>rfl
 have hb:big=4194304:=rfl;rcases SY (w:=x) (by omega)with⟨o,e⟩|⟨e',he,e⟩
 ·refine Has.eqb e (Has.bif (fun h=>nomatch h) fun _=> ?_);have hs:=zGD (w:=x) (by omega) o;have hz:=zGE (w:=x) (by omega);have hz:zL zB (QJ x)<=big:=by omega
  have hn:ql (QJ x)<=64:=by unfold Ni at hs;rw[Ea,ja]at hs;exact hs.1
  have hlen:=ZZ El (QJ x);have c1:Ez ⟨QJ x⟩=some ((ql (QJ x):Int),0):=by rw[zt6 (s:=⟨QJ x⟩) hz];dsimp only;rw[hs];rfl
  have c2:Er ⟨QJ x⟩=some 0:=by unfold Er;rw[pK hz,hs];rfl
  have c3:ky ⟨QJ x⟩=some 0:=by rw[zt3 (s:=⟨QJ x⟩) hz];dsimp only;rw[hs];rfl
  dsimp only;refine Has.eqb c1 (Has.eqb c2 ?_);dsimp only;refine Has.eqb (y:=0) (by rw[c3];rfl) (Has.eqb (y:=(ql (QJ x):Int)) (by rw[fT hz];rfl) ?_);have n1:((ql (QJ x):Int) != (ql (QJ x):Int))=false:=by simp
  have n2:decide ((ql (QJ x):Int)>64)=false:=Ua (by omega);refine Has.bif (fun h=> ?_) fun _=> ?_
  ·rw[n1,n2]at h;cases h
  refine Has.loop (fun s=> ∃i:Nat,i<=(QJ x).length/\s=(i:Int)) (fun s=>(QJ x).length - s.toNat) (P:=fun _=>True) ⟨0,Ra _,rfl⟩ (fun s ⟨i,hi,e⟩=> ?_) fun _ _=> ?_
  ·subst e;refine Has.bif (fun hlt=> ?_) fun _=>Has.some trivial;have hlt:i<(QJ x).length:=by have:=Fb hlt;omega
   have hm:=qV (f:=zB) (Ja hlt);have hr:jF (QJ x)[i]=some 0:=by
    have h1:nu [(QJ x)[i]]=some 0:=by rw[pK (by rw[Z5,Dh];omega),zDx hs (Ja hlt)];rfl
    unfold jF;simp only[Zq,Wx,h1,za,Aa]
   refine Has.eqb (zN hlt) ?_;rw[ll];refine Has.eqb hr (Has.bif (fun h=>nomatch h) fun _=>Has.some ⟨⟨i+1,hlt,zK hlt (by omega)⟩,?_⟩);show(QJ x).length - (w64 ((i:Int)+1)).toNat<(QJ x).length - i;rw[zK hlt (by omega)];omega
  refine Has.bind (zCN (w:=x) (by omega)) fun z hcl=> ?_;refine Has.bind (P:=fun y=>(bif !z.2 then true else decide ((ql (QJ x):Int)>63))=false->y=false-> ∀b∈(parS (Zt x).1).1,b.token.kind≠24) (Has.cond (fun _=>(zG3 (w:=x) (by omega)).wk fun y hy _=>hy) fun h h'=>by rw[h']at h;cases h) fun y13 hst=> ?_;refine Has.bif (fun _=>vX) fun hc=> ?_;obtain⟨k1,k2,k3⟩:z.2=true/\ql (QJ x)<=63/\y13=false:=by
   cases h1:z.2 with
   |false=>rw[h1]at hc;cases hc
   |true=>
    rw[h1]at hc;cases h2:decide ((ql (QJ x):Int)>63)with
    |true=>rw[h2]at hc;cases hc
    |false=> rw[h2]at hc;exact⟨rfl,by have:=Ad h2;omega,hc⟩
  have hC:=hcl k1;have hs24:=hst (by rw[k1];exact Ua (by omega)) k3;have g1:Ph ([64,108,97,121,101,114,32,123]:Str).length x.length=true:=yx.2 (by simp only[Fa,Eb];omega);have g2:Ph (([64,108,97,121,101,114,32,123]:Str)++x).length ([125]:Str).length=true:=yx.2 (by simp only[Ma,Fa,Eb];omega);refine Has.need g1 (Has.need g2 ?_);rcases zCG hw hC hs24 with⟨e',he,e⟩|e
  ·refine Has.eqb e (Has.bif (fun _=>YN (er he)) fun h=> ?_);rcases he with rfl|rfl<;>cases h
  refine Has.eqb e (Has.bif (fun h=>nomatch h) fun _=>Has.eqb rfl (Has.bif (fun h=>nomatch h) fun _=> ?_));refine Has.loop (fun s=> ∃i:Nat,i<=x.length/\s=(i:Int)/\ ∀j<i,(x.drop j).take 3≠[45,45,62]/\(x.drop j).take 3≠[60,33,45]) (fun s=>x.length - s.toNat) (P:=fun _=> ¬hasP [60,33,45] x/\ ¬hasP [45,45,62] x) ⟨0,Ra _,rfl,fun j hj=>by omega⟩ (fun s ⟨i,hi,e,hj⟩=> ?_) fun _ hno=> ?_
  ·subst e;have w3:w64 ((i:Int)+3)=((i+3:Nat):Int):=Tn (n:=i+3) (by omega);rw[w3];refine Has.bif (fun hle=> ?_) fun hgt=>Has.some ?_
   ·have hle:i+3<=x.length:=by have:=Fb hle;omega
    have c4:(decide ((0:Int)<=(i:Int))&&(decide ((i:Int)<=((i+3:Nat):Int))&&decide (((i+3:Nat):Int)<=(x.length:Int))))=true:=by rw[Ga (show(0:Int)<=(i:Int) by omega),Ga (show(i:Int)<=((i+3:Nat):Int) by omega),Ga (show((i+3:Nat):Int)<=(x.length:Int) by omega)];rfl
    refine Has.need c4 (Has.need (by rw[c4];rfl) ?_);rw[Ib,Ib,List.drop_take,show i+3 - i=3 by omega];refine Has.bif (fun _=>by rw[rH];exact Has.some rfl) fun hno=>Has.some ⟨⟨i+1,by omega,Tn (n:=i+1) (by omega),fun j hji=> ?_⟩,?_⟩
    ·by_cases h:j<i
     ·exact hj j h
     ·obtain rfl:j=i:=by omega
      constructor<;>intro h<;>rw[h]at hno<;>cases hno
    ·show x.length - (w64 ((i:Int)+1)).toNat<x.length - i;rw[Ui (n:=i) (by omega)];omega
   ·have hgt:x.length<i+3:=by have:=Ad hgt;omega
    constructor<;>intro h
    ·obtain⟨j,h1,h2⟩:=sV h rfl;exact(hj j (by omega)).2 h2
    ·obtain⟨j,h1,h2⟩:=sV h rfl;exact(hj j (by omega)).1 h2
  refine Has.eqb (show geti [_] 0=some _ from rfl) ?_;dsimp only;rw[zCH hC o k2 hno];refine Has.eqb (zLu hz) (YN rfl)
 ·refine Has.eqb e (Has.bif (fun _=>YN (er he)) fun h=> ?_);rcases he with rfl|rfl<;>cases h
theorem zuU(x:Str):gz x=some true:=by obtain⟨y,h,rfl⟩:=zsI x;exact h
end Go.Lv.VT
