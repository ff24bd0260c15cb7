/- What is written piece by piece is there: its tokens, and where each piece begins. -/
import Derived.Test.YtpcfcdmidhbkmaaGreatDoorXd
import Derived.Test.YtpcfcdmidhbkmaaGreatDoorXa
set_option linter.unusedSimpArgs false
set_option linter.unusedVariables false
namespace Go.Lv.VT
set_option maxRecDepth 100000
theorem mR{q s:Str}{P us:List zb}(hs:PcT s P)(h:FH q s us)(hus:us≠[]):False:=by
 obtain⟨c,r,_,⟨⟨e,fl,hee,hw⟩,h43,hk,hds⟩,hsame,hT⟩:=h;have hbr:=Qu c (r++s);rw[hsame,hk]at hbr;have hbr':brS c (r++s)=3:=hbr.symm;have hnx:zt (c::(r++s))=zk ((c::r)++s):=by rw[Zh,hbr',Mg];rfl
 have hq2:ae (c::r)≠[]:=by intro e2;rw[e2]at hw;cases congrArg Prod.fst hw
 have e2:ae ((c::r)++s)=ae (c::r)++s:=by unfold ae;rw[(ZQ s (by simp)).1];exact Ki s hq2
 have hw2:=(Uz (q:=ae (c::r)) (x:=s) (by rw[hw];simp) (fun e3=>by
  rw[e3]at hw;have:=congrArg Prod.fst hw;cases this)).1
 have hexp:expS ([e,43]++s)=some (past digB s):=by
  unfold expS;have h1:(atS ([e,43]++s) 0==101||atS ([e,43]++s) 0==69)=true:=by rcases hee with rfl|rfl<;>rfl
  have h2:unsign (([e,43]++s).drop 1)=s:=rfl;rw[h1,Ea rfl,h2,hds,Ea rfl]
 have hend:zo ((c::r)++s)=(past digB s,false):=by rw[ZU,e2,hw2,hw];simp only[hexp]
 have hk2:(zk ((c::r)++s)).1.kind=12:=by rw[<-hnx,hsame,hk]
 rw[hnx]at hT;unfold zk at hk2 hT;rw[hend]at hk2 hT;simp only at hk2 hT;have hun:unsign s=s:=by unfold unsign Qo;rw[Da.2 (qd hds).1,Da.2 (qd hds).2.1];rfl
 cases hn:nmS (past digB s)with
 |false=>
  grind
 |true=>
  rw[hn,Ea rfl]at hT;obtain⟨n2,p2,U,t2,_,rfl,_,hU⟩:=Hr hs (by grind);obtain⟨u1,_,u3⟩:=Pt hU;rw[<-hun]at hn hT;cases hp:(partT (n2.natAbs%1000) p2).isEmpty with
  |true=>
   rw[kw U hp,u1]at hn hT;rcases u3 with rfl|rfl|⟨_,hu⟩
   ·cases hn
   ·cases hn
   ·rw[hu,ZE (zM rfl)]at hT;exact hus hT.symm
  |false=>rw[jw U hp,AP]at hn;cases hn
theorem EP{R A:Str}(h:Lk R A)(b:A≠[])(y:Str):Lk (R++47::42::y) (A++47::42::y):=by
 rcases h with h|⟨d,z,a,rfl,h⟩
 ·left;rw[iC y (by rw[h];exact b),h]
 ·right;exact⟨d,z++47::42::y,a,rfl,by rw[iC y (by rw[h];simp),h];rfl⟩
theorem UU{s:Str}{P:List zb}(h:PcT s P):cmtS (47::42::42::47::s)=s:=by rw[qE];exact Ew h
theorem Xi{s:Str}{P:List zb}(h:PcT s P):zV s=P:=by have:=Q9 (Es h (x:=[]) (.inl rfl));rw[Xa,ZE (zM rfl),Xa]at this;exact this
theorem gu{α:Type}{l a:List α}(h:l++a=l):a=[]:=by simp_all
theorem Kj{b:Str}{ts:List zb}{st:List (List zb×Str)}(h:Syn b ts st):zzy b ts st:=by
 induction h with
 |nil=>exact⟨ZE (zM rfl),fun k h=>(by cases h), .inl ⟨rfl,rfl,rfl⟩⟩
 |cmt b s ts P st h hb hp ih=>
  obtain⟨ht,hbd,hl⟩:=ih;have hx:b++cmtW++s=b++47::42::(42::47::s):=by rw[Ia];rfl
  obtain⟨t0,us0,hP0⟩:=pc_P hp;have hrun:run (b++47::42::(42::47::s)) ts (47::42::(42::47::s)):=by
   rcases hl with⟨_,e,_⟩|⟨L,B,u,p,R,g1,g2,g3,g4,g5⟩
   ·exact absurd e hb
   ·have hR:R≠[]:=by intro e;have:=jl g5 (Qz g1);rw[e]at this;exact this (zM rfl)
    obtain⟨t1,us1,hp1⟩:=pc_P g1;rw[g3];refine Vy (wB (42::47::s) g4 hR) ?_;have h1:=Es g1 (x:=47::42::(42::47::s)) (.inr ⟨_,rfl⟩);rw[hp1]at h1 ⊢;exact(av (EP g5 (Qz g1) (42::47::s)) (Dw g1 _ (by show(47:UInt8)≠42;decide))).2 h1
  have hlk:Lk (47::42::(42::47::s)) s:= .inl (UU hp);rw[hx];refine⟨?_,?_, .inr ⟨ts,b++cmtW,s,P,_,hp,by grind,rfl,hrun,hlk⟩⟩
  ·rw[Q9 hrun,Tx hlk,Xi hp]
  ·intro k hk;rw[Ga,Ae]at hk;by_cases hk2:k<st.length
   ·rw[List.getElem_append_left hk2];have:=MI (P:=P) (x:=47::42::(42::47::s)) (hbd k hk2) (by simp) (fun R hR h5 _=>⟨wB _ h5 hR,fun A hA h6 _=>EP h6 hA _⟩)
    grind
   ·have hke:k=st.length:=by omega
    subst hke;rw[List.getElem_append_right (by omega)];simp only[Nat.sub_self,List.getElem_cons_zero];refine⟨s,_,P,by grind,Qz hp,rfl,by rw[hP0];simp,hrun,hlk,?_⟩;have:=Ib.2 (Qz hp)
    grind
 |no b s ts P st h hp ht0 ih=>
  obtain⟨ht,hbd,hl⟩:=ih;obtain⟨t0,us0,hP0⟩:=pc_P hp;have hPne:P≠[]:=by rw[hP0];simp
  have hsne:=Qz hp
  -- what is ahead stays
  have keep: ∀(L us:List zb) (R:Str),ts=L++us->R≠[]->run b L R->run (b++s) L (R++s):=by
   intro L us R hts hR hrun;rcases SK (us:=us++P) hrun hR hsne (by grind)with h1|⟨_,q,_,h1⟩
   ·exact h1
   ·exact(mR hp h1 (by simp[hPne])).elim
  have keepLk: ∀(L us:List zb) (R A:Str),ts=L++us->run (b++s) L (R++s)->A≠[]->Lk R A->Lk (R++s) (A++s):=by
   intro L us R A hts hrun hA hlk;cases hpre:([47,42]:Str).isPrefixOf (A++s)with
   |false=>exact bv hlk hA hpre
   |true=>
    exfalso;rcases hlk with h1|⟨d,y,_,rfl,_⟩
    ·cases A with
     |nil=>exact hA rfl
     |cons c r=>
      cases r with
      |cons d t=>
       have:=Al R
       grind
      |nil=>
       have hc:c=47:=by
        cases hcc:(47:UInt8)==c with
        |true=>grind
        |false=>
         grind
       subst hc;have h42:s=[42]:=by
        refine Ht hp (.inr rfl) ?_;cases s with
        |nil=>grind
        |cons d t=>
         have h':(((47:UInt8)==47)&&(((42:UInt8)==d)&&true))=true:=hpre;have:((42:UInt8)==d)=true:=by simpa using h'
         exact(Sa.1 this).symm
       have h3:=Q9 hrun;rw[ht0,hts,h42,ZE (BI h1),Xa,Ia]at h3;have:=gu h3;simp_all
    ·cases hpre
  rcases hl with⟨e1,e2,e3⟩|⟨L,B,u,p,R,g1,g2,g3,g4,g5⟩
  ·subst e1 e2 e3;refine⟨ht0,?_, .inr ⟨[],[],s,P,s,hp,rfl,rfl,rfl, .inl (Ew hp)⟩⟩;intro k hk;have hke:k=0:=by rw[Ga,Ae,Gc]at hk;omega
   subst hke;exact⟨s,s,P,rfl,hsne,rfl,hPne,rfl, .inl (Ew hp),Ib.2 hsne,Ib.2 hsne⟩
  ·have hR:R≠[]:=by intro e;have:=jl g5 (Qz g1);rw[e]at this;exact this (zM rfl)
   have h1:=keep L p R g3 hR g4;have h2:=keepLk L p R u g3 h1 (Qz g1) g5;have h3:=Q9 h1;rw[ht0,g3,Ia]at h3;have h4:=Ke h3;obtain⟨r,h5,h6⟩:=Eu h4.symm;have hsh:ShS s r:=by
    obtain⟨t1,us1,hp1⟩:=pc_P g1;refine ER g1 hp ?_ h6;have hpre:([47,42]:Str).isPrefixOf (u++s)=false\/cmtS (R++s)=[]:=by
     rcases h2 with h2|⟨d,y,hd,h2,_⟩
     ·left;rw[<-h2];exact Al _
     ·grind
    rcases hpre with hpre|hpre
    ·rw[hp1]at h5 ⊢;exact(av h2 hpre).1 h5
    ·rw[hp1]at h5;obtain⟨c,q,e,_⟩:=h5
     grind
   have hrun:run (b++s) ts r:=by rw[g3];exact Vy h1 h5
   have hlk:Lk r s:=by
    rcases hsh with rfl|⟨d,y,hd,e1,e2⟩
    ·exact .inl (Ew hp)
    ·right;exact⟨d,y,hd,e1,by rw[e2];exact zM rfl⟩
   have hrl:1<=r.length:=by
    rcases hsh with rfl|⟨d,y,_,_,e2⟩
    ·grind
    ·rw[e2];simp
   refine⟨ht0,?_, .inr ⟨ts,b,s,P,r,hp,rfl,rfl,hrun,hlk⟩⟩;intro k hk;rw[Ga,Ae]at hk;by_cases hk2:k<st.length
   ·rw[List.getElem_append_left hk2];obtain⟨A0,R0,us,f1,f2,f3,f4,f5,f6,f7,f8⟩:=hbd k hk2;have:=MI (P:=P) (x:=s) ⟨A0,R0,us,f1,f2,f3,f4,f5,f6,f7,f8⟩ hsne (fun R hR h5 _=>⟨keep _ us R f3 hR h5,fun A hA h6 _=>keepLk _ us R A f3 (keep _ us R f3 hR h5) hA h6⟩)
    grind
   ·have hke:k=st.length:=by omega
    subst hke;rw[List.getElem_append_right (by omega)];simp only[Nat.sub_self,List.getElem_cons_zero];refine⟨s,r,P,rfl,hsne,rfl,hPne,hrun,hlk,?_⟩;have:=Ib.2 hsne
    grind
def unS:Str->Str
 |[]=>[]
 |c::r=>if escS (c::r)then(zm r).2 else r
theorem UH(c:UInt8)(r:Str):(unS (c::r)).length<=r.length:=by
 show(if escS (c::r)then(zm r).2 else r).length<=r.length;split
 ·exact zP r
 ·exact Va _
def uN:Str->Nat
 |[]=>0
 |c::r=>uN (unS (c::r))+1
termination_by l=>l.length
decreasing_by
 have:=UH c r;simp only[Ka];omega
theorem Mw:uN []=0:=by rw[uN]
theorem dh(c:UInt8)(r:Str):uN (c::r)=uN (unS (c::r))+1:=by rw[uN]
theorem kr{c:UInt8}{r:Str}(h:escS (c::r)=true):c=92:=by unfold escS at h;rw[Ba]at h;exact Sa.1 h.1
theorem Oh{c:UInt8}(r:Str)(h:c≠92):unS (c::r)=r:=Fa fun e=>h (kr e)
theorem Zn{c:UInt8}(r:Str)(h:c≠92):uN (c::r)=uN r+1:=by rw[dh,Oh r h]
inductive Gd:Str->Prop
 |nil:Gd []
 |one (c:UInt8) (r:Str) (h:escS (c::r)=false) (hr:Gd r):Gd (c::r)
 |esc (r:Str) (h:escS (92::r)=true) (h1:(zm r).1.length=1) (hr:Gd (zm r).2):Gd (92::r)
inductive Us:Str->Str->Prop
 |refl (q:Str):Us q q
 |step (c:UInt8) (r q:Str) (h:Us (unS (c::r)) q):Us (c::r) q
theorem Pv{c:UInt8}{r:Str}(h:Gd (c::r)):Gd (unS (c::r)):=by
 cases h with
 |one _ _ h hr=>rw[show unS (c::r)=r from Fa (by rw[h];decide)];exact hr
 |esc _ h h1 hr=>rw[show unS (92::r)=(zm r).2 from Ea h];exact hr
theorem lg{c:UInt8}{r:Str}(h:Gd (c::r))(hc:c≠92):Gd r:=by
 have:=Pv h
 rwa [Oh r hc]at this
theorem sI{c:UInt8}{r:Str}(hc:c≠92)(h:Gd r):Gd (c::r):= .one c r (by
 cases he:escS (c::r)with
 |false=>rfl
 |true=>exact absurd (kr he) hc) h
theorem zy{a b c:Str}(h:Us a b)(h':Us b c):Us a c:=by
 induction h with
 |refl q=>exact h'
 |step x r q _ ih=>exact .step x r _ (ih h')
theorem qR{a b:Str}(h:Us a b)(g:Gd a):Gd b:=by
 induction h with
 |refl q=>exact g
 |step x r q _ ih=>exact ih (Pv g)
theorem Xv{a b:Str}(h:Us a b):b<:+a:=by
 induction h with
 |refl q=>exact Re _
 |step x r q _ ih=>
  refine ih.trans ?_;show(if escS (x::r)then(zm r).2 else r)<:+x::r;split
  ·exact(ZF r).trans (Ed x r)
  ·exact Ed x r
theorem Uf{a b:Str}(h:Us a b):uN b<=uN a:=by
 induction h with
 |refl q=>exact Va _
 |step x r q _ ih=>rw[dh];omega
theorem Kw(c:UInt8)(r:Str):Us (c::r) (unS (c::r)):= .step c r _ (.refl _)
theorem ZA{c:UInt8}{r:Str}(h:c≠92):Us (c::r) r:=by
 have:=Kw c r
 rwa [Oh r h]at this
theorem SH: ∀q:Str,Us q []
 |[]=> .refl _
 |c::r=> .step c r _ (SH (unS (c::r)))
termination_by q=>q.length
decreasing_by
 have:=UH c r;simp only[Ka];omega
theorem Vh{a b c:Str}(h:Us a b)(h':Us a c)(hn:uN c<=uN b):Us b c:=by
 induction h with
 |refl q=>exact h'
 |step x r q h ih=>
  cases h' with
  |refl=>have:=Uf h;rw[dh]at hn;omega
  |step _ _ _ h2=>exact ih h2 hn
theorem tq{a b:Str}(h:Us a b)(hn:uN b=uN a):b=a:=by
 cases h with
 |refl=>rfl
 |step x r q h=>have:=Uf h;rw[dh]at hn;omega
theorem Bh{a b:Str}(h:Us a b)(hn:b≠a):uN b<uN a:=by
 have:=Uf h;rcases ic (uN b) (uN a)with h1|h1
 ·exact h1
 ·exact absurd (tq h (by omega)) hn
theorem QR{p:UInt8->Bool}(hp:p 92=false): ∀q:Str,Us q (past p q)
 |[]=> .refl _
 |c::r=>by
  rw[past];split
  ·rename_i h;exact zy (ZA (by rintro rfl;rw[hp]at h;cases h)) (QR hp r)
  ·exact .refl _
theorem Vj: ∀(q:Str),Gd q->Us q (zg q).2/\uN q=(zg q).1.length+uN (zg q).2
 |[],_=>by rw[Z9];exact⟨.refl _,by simp⟩
 |c::r,g=>by
  rw[zI];by_cases hl:letB c=true
  ·rw[Ea hl];have hc:c≠92:=by rintro rfl;exact absurd hl (by decide)
   obtain⟨h1,h2⟩:=Vj r (lg g hc);exact⟨zy (ZA hc) h1,by rw[Zn r hc,h2];simp only[Ka];omega⟩
  ·rw[Fa hl];cases g with
   |one _ _ h hr=>rw[Fa (by rw[h];decide)];exact⟨.refl _,by simp⟩
   |esc _ h h1 hr=> rw[Ea h];obtain⟨h2,h3⟩:=Vj _ hr;have hu:unS (92::r)=(zm r).2:=Ea h;refine⟨.step _ _ _ (by rw[hu];exact h2),?_⟩;rw[dh,hu,h3];show _=((zm r).1++(zg (zm r).2).1).length+uN (zg (zm r).2).2;rw[Ga,h1];omega
termination_by q=>q.length
decreasing_by
 all_goals first|(have:=zP r;simp only[Ka];omega)|(simp only[Ka];omega)
theorem tH{r:Str}(h:(atS r 0==10)=false):escS (92::r)=true:=by show((92:UInt8)==92&& !(atS r 0==10))=true;rw[h];rfl
theorem Po{r:Str}(g:Gd (92::r))(h:escS (92::r)=true):(zm r).1.length=1/\Gd (zm r).2:=by
 cases g with
 |one _ _ h' _=>rw[h]at h';cases h'
 |esc _ _ h1 hr=>exact⟨h1,hr⟩
theorem dQ: ¬Gd [92]:=by intro g;have:=(Po g rfl).1;exact absurd this (by decide)
theorem Oz{m:UInt8}(hm:m≠92): ∀(q:Str),Gd q-> ∀t,(zK m q).1=some t->Us q (zK m q).2/\(t.length+1+uN (zK m q).2<=uN q\/((zK m q).2=[]/\t.length<=uN q))
 |[],_,t,h=>by rw[QA]at h ⊢;injection h with h;subst h;exact⟨.refl _, .inr ⟨rfl,Xd _⟩⟩
 |c::r,g,t,h=>by
  rw[Z7]at h ⊢;by_cases h1:(c==m)=true
  ·rw[Ea h1]at h ⊢;injection h with h;subst h;have hc:c≠92:=by rw[Sa.1 h1];exact hm
   exact⟨ZA hc, .inl (by rw[Zn r hc];simp only[Gc];omega)⟩
  ·rw[Fa h1]at h ⊢;by_cases h2:(c==10)=true
   ·rw[Ea h2]at h;cases h
   ·rw[Fa h2]at h ⊢;by_cases h3:(c==92)=true
    ·rw[Ea h3]at h ⊢;have hc:=Sa.1 h3;subst hc;by_cases h4:r.isEmpty=true
     ·have:r=[]:=List.isEmpty_iff.1 h4;subst this;exact absurd g dQ
     ·rw[Fa h4]at h ⊢;cases h5:(atS r 0==10)with
      |true=>
       rw[h5,Ea rfl]at h;rw[Ea rfl];obtain⟨d,r2,er⟩:=Za (show r≠[] by rintro rfl;exact h4 rfl);have hd:d=10:=by rw[er]at h5;exact Sa.1 h5
       have e2:r.drop 1=r2:=by rw[er];rfl
       have g3:Gd (r.drop 1):=by rw[e2];have:=Pv g;rw[er,hd]at this;exact lg (show Gd (10::r2)from this) (by decide)
       obtain⟨k1,k2⟩:=Oz hm (r.drop 1) g3 t h;have e1:uN (92::r)=uN (r.drop 1)+2:=by rw[e2,er,hd,dh,show unS (92::10::r2)=10::r2 from rfl,Zn r2 (by decide)]
       have u1:Us (92::r) (r.drop 1):=by rw[e2,er,hd];exact .step _ _ _ (show Us (10::r2) r2 from ZA (by decide))
       refine⟨zy u1 k1,?_⟩;rw[e1];rcases k2 with k2|⟨k2,k3⟩
       ·exact .inl (show t.length+1+uN (zK m (r.drop 1)).2<=_ by omega)
       ·exact .inr ⟨k2,by omega⟩
      |false=>
       rw[h5,Fa (by decide)]at h;rw[Fa (by decide)];have he:=tH h5;obtain⟨e1,gr⟩:=Po g he;cases hq:(zK m (zm r).2).1 with
       |none=>rw[hq]at h;cases h
       |some t'=>
        rw[hq]at h;injection h with h;subst h;obtain⟨k1,k2⟩:=Oz hm _ gr t' hq;have hu:unS (92::r)=(zm r).2:=Ea he;refine⟨.step _ _ _ (by rw[hu];exact k1),?_⟩;rw[dh,hu,show((zm r).1++t').length=1+t'.length by rw[Ga,e1]];rcases k2 with k2|⟨k2,k3⟩
        ·exact .inl (show 1+t'.length+1+uN (zK m (zm r).2).2<=_ by omega)
        ·exact .inr ⟨k2,by omega⟩
    ·rw[Fa h3]at h ⊢;have hc:c≠92:=fun e=>h3 (by rw[e];rfl);cases hq:(zK m r).1 with
     |none=>rw[hq]at h;cases h
     |some t'=>
      rw[hq]at h;injection h with h;subst h;obtain⟨k1,k2⟩:=Oz hm r (lg g hc) t' hq;refine⟨zy (ZA hc) k1,?_⟩;rw[Zn r hc,Ka];rcases k2 with k2|⟨k2,k3⟩
      ·exact .inl (show t'.length+1+1+uN (zK m r).2<=_ by omega)
      ·exact .inr ⟨k2,by omega⟩
termination_by q=>q.length
decreasing_by
 all_goals first|(have:=zP r;simp only[Ka];omega)|(simp only[Ka,ja];omega)
theorem Xl:spB 92=false:=by decide
theorem ah:digB 92=false:=by decide
theorem yB: ∀(q:Str),Gd q-> ∀t,(urlS q).1=some t->Us q (urlS q).2/\(t.length+1+uN (urlS q).2<=uN q\/((urlS q).2=[]/\t.length<=uN q))
 |[],_,t,h=>by rw[Il]at h ⊢;injection h with h;subst h;exact⟨.refl _, .inr ⟨rfl,Xd _⟩⟩
 |c::r,g,t,h=>by
  rw[Q5]at h ⊢;by_cases h1:(c==41)=true
  ·rw[Ea h1]at h ⊢;injection h with h;subst h;have hc:c≠92:=by rw[Sa.1 h1];decide
   exact⟨ZA hc, .inl (by rw[Zn r hc];simp only[Gc];omega)⟩
  ·rw[Fa h1]at h ⊢;by_cases h2:spB c=true
   ·rw[Ea h2]at h ⊢;have hc:c≠92:=by rintro rfl;exact absurd h2 (by decide)
    have hp:=QR Xl r;cases hq:past spB r with
    |nil=> rw[hq]at h hp;injection h with h;subst h;exact⟨zy (ZA hc) hp, .inr ⟨rfl,Xd _⟩⟩
    |cons d r'=>
     rw[hq]at h hp;simp only at h ⊢;by_cases h3:(d==41)=true
     ·rw[Ea h3]at h ⊢;injection h with h;subst h;have hd:d≠92:=by rw[Sa.1 h3];decide
      have h4:=Uf hp;rw[Zn r' hd]at h4;exact⟨zy (ZA hc) (zy hp (ZA hd)), .inl (by rw[Zn r hc];simp only[Gc];omega)⟩
     ·rw[Fa h3]at h;cases h
   ·rw[Fa h2]at h ⊢;by_cases h3:(c==34||c==39||c==40||unB c||c==92&& !escS (c::r))=true
    ·rw[Ea h3]at h;cases h
    ·rw[Fa h3]at h ⊢;by_cases h4:(c==92)=true
     ·rw[Ea h4]at h ⊢;have hc:=Sa.1 h4;subst hc;have he:escS (92::r)=true:=by
       cases he:escS (92::r)with
       |true=>rfl
       |false=>exact absurd (by rw[he,Pb];exact .inr rfl) h3
      obtain⟨e1,gr⟩:=Po g he;cases hq:(urlS (zm r).2).1 with
      |none=>rw[hq]at h;cases h
      |some t'=>
       rw[hq]at h;injection h with h;subst h;obtain⟨k1,k2⟩:=yB _ gr t' hq;have hu:unS (92::r)=(zm r).2:=Ea he;refine⟨.step _ _ _ (by rw[hu];exact k1),?_⟩;rw[dh,hu,show((zm r).1++t').length=1+t'.length by rw[Ga,e1]];rcases k2 with k2|⟨k2,k3⟩
       ·exact .inl (show 1+t'.length+1+uN (urlS (zm r).2).2<=_ by omega)
       ·exact .inr ⟨k2,by omega⟩
     ·rw[Fa h4]at h ⊢;have hc:c≠92:=fun e=>h4 (by rw[e];rfl);cases hq:(urlS r).1 with
      |none=>rw[hq]at h;cases h
      |some t'=>
       rw[hq]at h;injection h with h;subst h;obtain⟨k1,k2⟩:=yB r (lg g hc) t' hq;refine⟨zy (ZA hc) k1,?_⟩;rw[Zn r hc,Ka];rcases k2 with k2|⟨k2,k3⟩
       ·exact .inl (show t'.length+1+1+uN (urlS r).2<=_ by omega)
       ·exact .inr ⟨k2,by omega⟩
termination_by q=>q.length
decreasing_by
 all_goals first|(have:=zP r;simp only[Ka];omega)|(simp only[Ka];omega)
theorem VJ: ∀(k n:Nat) (l:Str),clsS l=clsS (hexes k n l).2
 |0,n,l=>rfl
 |k+1,n,[]=>rfl
 |k+1,n,c::r=>by
  rw[hexes];split
  ·rename_i h;rw[<-VJ k _ r,clsS,Fa];have:(c==42)=false:=by rw[Da];rintro rfl;exact absurd h (by decide)
   rw[this];simp
  ·rfl
theorem KQ(l:Str):clsS l=clsS (unsp l):=by
 cases l with
 |nil=>rfl
 |cons c r=>
  show _=clsS (if spB c then r else c::r);split
  ·rename_i h;rw[clsS,Fa];have:(c==42)=false:=by rw[Da];rintro rfl;exact absurd h (by decide)
   rw[this];simp
  ·rfl
theorem WP{r:Str}(h:(atS r 0==47)=true):Us r (r.drop 1):=by
 cases r with
 |nil=>exact absurd h (by decide)
 |cons d r=> have hd:d=47:=Sa.1 h;subst hd;exact ZA (by decide)
theorem Pw: ∀(q:Str),Gd q-> ∀r,clsS q=some r->Us q r
 |[],_,r,h=>by cases h
 |c::l,g,r,h=>by
  cases g with
  |one _ _ he gl=>
   have hu:unS (c::l)=l:=Fa (by rw[he];decide);rw[clsS]at h;split at h
   ·rename_i hc;rw[Ba]at hc;injection h with h;subst h;exact .step _ _ _ (by rw[hu];exact WP hc.2)
   ·exact .step _ _ _ (by rw[hu];exact Pw l gl r h)
  |esc _ he h1 gl=>
   have hu:unS (92::l)=(zm l).2:=Ea he;rw[clsS,Fa (by simp)]at h;refine .step _ _ _ ?_;rw[hu];obtain⟨d,l',el⟩:=Za (show l≠[] by rintro rfl;cases h);have hx2:(zm l).2=if qy d then unsp (hexes 6 0 l).2 else l':=by rw[el];show(if qy d then(Hg (hexes 6 0 (d::l')).1,unsp (hexes 6 0 (d::l')).2)else([d],l')).2=_;split<;>rfl
   cases hx:qy d with
   |true=> rw[hx,Ea rfl]at hx2;exact Pw (zm l).2 gl r (by rw[hx2,<-KQ,<-VJ];exact h)
   |false=>
    rw[hx,Fa (by decide)]at hx2;rw[el,clsS]at h;split at h
    ·rename_i hc;rw[Ba]at hc;injection h with h;subst h;rw[hx2];exact WP hc.2
    ·exact Pw (zm l).2 gl r (by rw[hx2];exact h)
termination_by q=>q.length
decreasing_by
 all_goals first|(have:=zP l;simp only[Ka];omega)|(simp only[Ka];omega)
theorem Ug: ∀(q:Str),Gd q->Us q (cmtS q)
 |q,g=>by
  rw[qE];split
  ·rename_i hp;obtain⟨t,et⟩:=Uc.1 hp;have ed:q.drop 2=t:=by rw[<-et];rfl
   have el:q.length=t.length+2:=by rw[<-et];simp
   have g2:Gd t:=by rw[<-et]at g;exact lg (lg (show Gd (47::42::t)from g) (by decide)) (by decide)
   have u2:Us q t:=by rw[<-et];exact zy (ZA (c:=47) (r:=42::t) (by decide)) (ZA (by decide))
   rw[ed];cases hc:clsS t with
   |none=>exact SH _
   |some r=>
    have h1:=Pw t g2 r hc;have h2:=(Jh t hc).2;have hlt:r.length<q.length:=by omega
    exact zy u2 (zy h1 (Ug r (qR h1 g2)))
  ·exact .refl _
termination_by q=>q.length
decreasing_by
 all_goals omega
def pcN:List zb->Nat
 |[]=>0
 |t::r=>if t.kind==9&&t.text==[92]then 2 else if Ag t then(if kg r then 3 else 2)else 1
def catT:List zb->Str
 |[]=>[]
 |t::r=>txS t++catT r
def pcS:List zb->Str
 |[]=>[]
 |t::r=>if t.kind==9&&t.text==[92]then [92,10]else catT (t::r)
theorem dJ{t:zb}(h:mf t=true)(a:(t.kind==13)=true):t=tkSp:=by
 rw[Sa]at a;cases Uo h with
 |cId|cFn|cAt|cHash|cStr|cUrl|cDel|cNum|cPct|cDim=>simp at a
 |cMark k c b=>grind
theorem nH{t:zb}(h:mf t=true)(a:(t.kind==5)=true): ∃m,Zc m=true/\t=⟨5,m,0,[],false⟩:=by
 rw[Sa]at a;cases Uo h with
 |cStr l b=>grind
 |cId|cFn|cAt|cHash|cUrl|cDel|cNum|cPct|cDim=>simp at a
 |cMark k d c=>grind
theorem AQ{t:zb}(h:mf t=true)(a:(t.kind==9&&t.text==[92])=true):t=⟨9,[92],0,[],false⟩:=by
 rw[Ba,Sa,Sa]at a;cases Uo h with
 |cDel c h=>grind
 |cId|cFn|cAt|cHash|cStr|cUrl|cNum|cPct|cDim=>simp at a
 |cMark k d b=>grind
theorem FV{t:zb}(h:mf t=true)(a:Ag t=true): ∃l,Zc l=true/\lowS l=[117,114,108]/\t=⟨2,l,0,[],false⟩:=by
 unfold Ag at a;rw[Ba,Sa,Sa]at a;cases Uo h with
 |cFn l d c=>grind
 |cId|cAt|cHash|cStr|cUrl|cDel|cNum|cPct|cDim=>simp at a
 |cMark k b e=>grind
theorem zBa{t:zb}(h:(t.kind==9&&t.text==[92])=false): ¬(t.kind=9/\t.text=[92]):=by
 grind
theorem Tm(t:zb)(r:List zb):pcN (t::r)=if t.kind==9&&t.text==[92]then 2 else if Ag t then(if kg r then 3 else 2)else 1:=rfl
theorem kF(t:zb)(r:List zb):okAt (t::r)=((!(t.kind==9&&t.text==[92])||kg r)&&(!(Ag t)||Bj r)):=rfl
theorem ou(s:zb)(r:List zb):Bj (s::r)=(bif s.kind==13 then(match r with|u::_=>u.kind==5|[]=>false)else s.kind==5):=rfl
theorem zBd{t:zb}{r:List zb}(e: ∀u∈t::r,mf u=true)(d:okAt (t::r)=true): ∃P Q,t::r=P++Q/\P.length=pcN (t::r)/\PcT (pcS P) P:=by
 have c:=e t (Xb ..);rw[kF,Ba]at d;rw[Tm];cases h:t.kind==9&&t.text==[92]with
 |true=>
  rw[h,Lb,xc]at d;rw[Ea rfl];cases r with
  |nil=>cases d.1
  |cons s r=> have g:=dJ (e s (by simp)) d.1;have p:=AQ c h;subst g p;exact⟨[⟨9,[92],0,[],false⟩,tkSp],r,rfl,rfl, .back⟩
 |false=>
  rw[Fa (by decide)];cases j:Ag t with
  |false=>
   rw[Fa (by decide)];have f:pcS [t]=txS t:=by show(if(t.kind==9&&t.text==[92])=true then [92,10]else txS t++[])=_;rw[h,Fa (by decide),Xa]
   exact⟨[t],r,rfl,rfl,by rw[f];exact .one t (Uo c) (zBa h) j⟩
  |true=>
   rw[Ea rfl];rw[j,Lb,xc]at d;obtain⟨l,n,o,rfl⟩:=FV c j;have a:=d.2;have b: ∀m:Str,txS ⟨5,m,0,[],false⟩++[]=34::(encB quoB m++[34]):=fun m=>by rw[Oi,Xa]
   cases r with
   |nil=>cases a
   |cons s r=>
    cases g:s.kind==13 with
    |false=>
     rw[ou,g,Ja]at a;obtain⟨m,i,rfl⟩:=nH (e s (by simp)) a;rw[show kg (⟨5,m,0,[],false⟩::r)=false from rfl,Fa (by decide)];refine⟨[⟨2,l,0,[],false⟩,⟨5,m,0,[],false⟩],r,rfl,rfl,?_⟩;have f:pcS [⟨2,l,0,[],false⟩,⟨5,m,0,[],false⟩]=Z0 l++40::((if false then [32]else [])++34::(encB quoB m++[34])):=by show txS ⟨2,l,0,[],false⟩++(txS ⟨5,m,0,[],false⟩++[])=_;rw[b,Li,Ia];rfl
     rw[f];exact .url l m false n o i
    |true=>
     have k:=dJ (e s (by simp)) g;subst k;cases r with
     |nil=>cases a
     |cons u r=>
      obtain⟨m,i,rfl⟩:=nH (e u (by simp)) a;rw[show kg (tkSp::⟨5,m,0,[],false⟩::r)=true from rfl,Ea rfl];refine⟨[⟨2,l,0,[],false⟩,tkSp,⟨5,m,0,[],false⟩],r,rfl,rfl,?_⟩;have f:pcS [⟨2,l,0,[],false⟩,tkSp,⟨5,m,0,[],false⟩]=Z0 l++40::((if true then [32]else [])++34::(encB quoB m++[34])):=by show txS ⟨2,l,0,[],false⟩++(txS tkSp++(txS ⟨5,m,0,[],false⟩++[]))=_;rw[b,Li,show txS tkSp=[32]from rfl,Ia];rfl
      rw[f];exact .url l m true n o i
theorem nV{t:zb}{r:List zb}(h:t.text.length<=big)(a:okAt (t::r)=true):Qh (t::r)=some ((pcN (t::r):Nat):Int):=by
 have m:geti (t::r) 0=some t:=rfl;have k:=Bp (t::r) 1 13;have e:=Bp (t::r) 1 5;have b:=Bp (t::r) 2 5;unfold Qh;simp only[m,ze,Aa,rF h (show([117,114,108]:Str).length<=big by decide),Ot,QF];simp only[Int.natCast_one]at k e;replace b:Zp ((2,5),t::r)=_:=b;have g:Zp ((1,13),t::r)=some (kg r):=by rw[k];cases r<;>rfl
 rw[g];rw[kF]at a;unfold Ag at a;rw[Tm];unfold Ag;cases j:(t.kind==9&&t.text==[92])with
 |true=>
  grind
 |false=>
  have n:(bif t.kind==9 then t.text==[92]else false)=false:=by
   cases o:t.kind==9
   ·rfl
   ·grind
  simp only[n,j,Ja,Cb,Ee,Nb];rw[j,Cb,Ee,Nb]at a;cases f:(t.kind==2&&lowS t.text==[117,114,108])with
  |false=>
   grind
  |true=>
   rw[f,Lb,xc]at a;rw[Ba]at f;rw[f.1,f.2];simp only[Ha,Aa];cases r with
   |nil=>cases a
   |cons s r=>
    cases d:s.kind==13 with
    |false=>
     have i:kg (s::r)=false:=d;have l:Zp ((1,5),t::s::r)=some (s.kind==5):=e;have c:(s.kind==5)=true:=by rw[ou,d]at a;exact a
     simp only[i,Ja,zh,l,Aa,c,Lb];rfl
    |true=>
     have i:kg (s::r)=true:=d;simp only[i,Ha,zh,b,Aa];cases r with
     |nil=>rw[ou,d]at a;cases a
     |cons u r=>
      have c:(u.kind==5)=true:=by rw[ou,d]at a;exact a
      show(bif !(u.kind==5)then some 0 else some (w64 (2+1)))=some 3;rw[c];rfl
def clB(l:Str):Bool:=l.all fun c=> !(c==0||c==12||c==13)
theorem qw(a b:Str):clB (a++b)=(clB a&&clB b):=by unfold clB;grind
theorem Oy: ∀l:Str,clB l=true->Proofs.Cl.cleanS l=l
 |[],_=>by rw[Proofs.Cl.cleanS]
 |c::r,h=>by
  unfold clB at h;rw[Ic,Ba]at h;have e:=Oy r h.2;have d:(c==0||c==12||c==13)=false:=by simpa using h.1
  rw[De,De]at d;obtain⟨⟨f,a⟩,b⟩:=d;rw[Proofs.Cl.cleanS,f,a,b,e]
  ·rfl
  grind
theorem Dl(c:UInt8):clB (escC c)=true/\(letB c=true->clB [c]=true)/\(c≠0->quoB c=false->clB [c]=true)/\(c≠0->urB c=false->clB [c]=true)/\(xg c.toNat=true->clB [c]=true)/\(digB c=true->clB [c]=true):=by
 have: ∀n:Nat,n<256->clB (escC (UInt8.ofNat n))=true/\(letB (UInt8.ofNat n)=true->clB [UInt8.ofNat n]=true)/\(UInt8.ofNat n≠0->quoB (UInt8.ofNat n)=false->clB [UInt8.ofNat n]=true)/\(UInt8.ofNat n≠0->urB (UInt8.ofNat n)=false->clB [UInt8.ofNat n]=true)/\(xg (UInt8.ofNat n).toNat=true->clB [UInt8.ofNat n]=true)/\(digB (UInt8.ofNat n)=true->clB [UInt8.ofNat n]=true):=by decide+kernel
 have:=this c.toNat (ma c);simp_all
theorem Bl(dash:Bool): ∀(k:Nat) (l:Str),clB (encW dash k l)=true
 |_,[]=>by rw[encW];rfl
 |k,c::r=>by
  obtain⟨b,a,_⟩:=Dl c;rw[encW,qw,Bl dash (k - 1) r,Vb];unfold pcW
  grind
theorem Fx{p:UInt8->Bool}(a: ∀c,c≠0->p c=false->clB [c]=true): ∀l:Str,Zc l=true->clB (encB p l)=true
 |[],_=>by rw[encB];rfl
 |c::r,h=>by
  obtain⟨e,d⟩:=qa h;rw[encB,qw,Fx a r d,Vb];cases b:p c with
  |true=>exact(Dl c).1
  |false=>exact a c e b
theorem EI{l:Str}(h:l.all digB=true):clB l=true:=by
 induction l with
 |nil=>rfl
 |cons c r a=> rw[Ic,Ba]at h;rw[show c::r=[c]++r from rfl,qw,(Dl c).2.2.2.2.2 h.1,a h.2];rfl
theorem cl_T(n:Int)(p:Bool):clB (numT n p)=true:=by
 obtain⟨a,_,_⟩:=di (n.natAbs / 1000);have c:=Um (n:=n) (p:=p);rw[Pj,qw,qw,EI a];have b:clB (sgT n)=true:=by unfold sgT;split<;>rfl
 rw[b];cases (partT (n.natAbs%1000) p).isEmpty with
 |true=>rfl
 |false=> show clB (46::partT (n.natAbs%1000) p)=true;rw[show 46::partT (n.natAbs%1000) p=[46]++partT (n.natAbs%1000) p from rfl,qw,EI c];rfl
theorem CS(w:Str):clB (Qb w)=true:=by
 cases w with
 |nil=>rfl
 |cons c r=>
  rw[Pn];cases yh (c::r)with
  |true=>rw[Ha,qw,(Dl c).1,Bl];rfl
  |false=>exact Bl _ _ _
theorem WB{s:Str}{P:List zb}(h:PcT s P):clB s=true:=by
 cases h with
 |one t h hb hu=>
  cases h with
  |cId l h0 h=>rw[sj];exact Bl _ _ _
  |cFn l h0 h=>rw[Li,qw];rw[show clB (Z0 l)=true from Bl _ _ _];rfl
  |cAt l h0 h=>rw[uj,show 64::Z0 l=[64]++Z0 l from rfl,qw,show clB (Z0 l)=true from Bl _ _ _];rfl
  |cHash l f h0 h hbb=>
   rw[ek,show 35::Gg f l=[35]++Gg f l from rfl,qw];have:clB (Gg f l)=true:=by cases f<;>exact Bl _ _ _
   rw[this];rfl
  |cStr l h=>rw[Oi,show 34::(encB quoB l++[34])=[34]++(encB quoB l++[34])from rfl,qw,qw,Fx (fun c h0 hc=>(Dl c).2.2.1 h0 hc) l h];rfl
  |cUrl l h=>rw[Ij,qw,qw,Fx (fun c h0 hc=>(Dl c).2.2.2.1 h0 hc) l h];rfl
  |cDel c h=>rw[Ci];exact(Dl c).2.2.2.2.1 h
  |cNum n f h1 h2 hf=>rw[Bi];exact cl_T _ _
  |cPct n h1 h2=>rw[Pi,qw,cl_T];rfl
  |cDim n u f h1 h2 hf h0 h=>rw[Ri,qw,cl_T,CS];rfl
  |cMark k h1 h2=> rw[ak h1 h2];rcases uk h1 h2 with rfl|rfl|rfl|rfl|rfl|rfl|rfl|rfl|rfl|rfl|rfl|rfl<;>rfl
 |back=>rfl
 |url l m b h hl hm=> rw[qw,show clB (Z0 l)=true from Bl _ _ _,show∀z:Str,40::z=[40]++z from fun _=>rfl,qw,qw,show∀z:Str,34::z=[34]++z from fun _=>rfl,qw,qw,Fx (fun c h0 hc=>(Dl c).2.2.1 h0 hc) m hm];cases b<;>rfl
theorem DI{b:Str}{ts:List zb}{st:List (List zb×Str)}(h:Syn b ts st):clB b=true:=by
 induction h with
 |nil=>rfl
 |cmt b s ts P st h e c a=>rw[qw,qw,a,WB c];rfl
 |no b s ts P st h c d a=>rw[qw,a,WB c];rfl
def tokB(x y:zb):Bool:=x.kind==y.kind&&(x.text==y.text&&(x.num==y.num&&(x.unit==y.unit&&(x.flag==y.flag&&true))))
def Xf:List zb->List zb->Bool
 |[],[]=>true
 |x::l,y::m=>tokB x y&&Xf l m
 |_,_=>false
theorem mX(x y:zb)(l m:List zb):Xf (x::l) (y::m)=(tokB x y&&Xf l m):=rfl
theorem EU{x y:zb}:tokB x y=true↔x=y:=by
 obtain⟨a,b,c,d,e⟩:=x;obtain⟨j,f,g,i,h⟩:=y;unfold tokB
 grind
theorem qh: ∀{l m:List zb},Xf l m=true↔l=m
 |[],[]=>by simp[Xf]
 |x::l,y::m=>by rw[Xf,Ba,EU,qh,List.cons.injEq]
 |[],y::m=>by simp[Xf]
 |x::l,[]=>by simp[Xf]
theorem JF{l m:List zb}(h:l.length≠m.length):Xf l m=false:=by
 cases a:Xf l m with
 |false=>rfl
 |true=>rw[qh.1 a]at h;grind
theorem OM {l m:List zb} (hl:l.length=m.length) (hn:l.length<=big) {step:Int->Option (LO Int Unit Bool)}
  (h1: ∀(i:Nat) (h:i<l.length),step (i:Int)=bif !(tokB l[i] (m[i]'(hl▸h)))then some (.ret false)else some (.again (w64 ((i:Int)+1))))
  (h2:step (l.length:Int)=some (.out ())):ZP step 0 (fun _=>some true)=some (Xf l m):=by
 have hb:big=4194304:=rfl;refine Az (fun s=> ∃i:Nat,i<=l.length/\s=(i:Int)/\Xf (l.drop i) (m.drop i)=Xf l m) (fun s=>l.length - s.toNat) _ ?_ ⟨0,by omega,rfl,rfl⟩;rintro _ ⟨i,hi,rfl,he⟩;rcases ic i l.length with h|h
 ·rw[h1 i h];have hm:i<m.length:=hl▸h;rw[show l.drop i=l[i]::l.drop (i+1)from Eb h,show m.drop i=m[i]::m.drop (i+1)from Eb hm,mX]at he;cases ht:tokB l[i] (m[i]'(hl▸h))with
  |true=> rw[ht,Nb]at he;rw[Lb,Ja,zZ (by omega) (by omega)];exact .inl ⟨_,rfl,⟨i+1,by omega,by omega,he⟩,by omega⟩
  |false=>
   grind
 ·have:i=l.length:=by omega
  subst this;rw[xe (Va _),xe (by omega)]at he;exact .inr (.inl ⟨(),h2,by rw[<-he];rfl⟩)
theorem kv{α:Type}{l:List α}{i:Nat}(h:i<l.length):geti l (i:Int)=some l[i]:=lh h
theorem int_ne{n m:Nat}:(((n:Int) != (m:Int)):Bool)= !(n==m):=by
 grind
theorem KV{l m:List zb}(d:l.length<=big):ZH (l,m)=some (Xf l m):=by
 unfold ZH;rw[int_ne];cases b:l.length==m.length with
 |false=>rw[Cb,Ha,JF (Da.1 b)]
 |true=>
  rw[Lb,Ja];have a:=Sa.1 b;refine OM a d (fun i h=> ?_) ?_
  ·have c:i<m.length:=a▸h;have e:decide ((i:Int)<(l.length:Int))=true:=La (by omega);simp only[e,Ha,kv h,kv c,ze,Aa];rfl
  grind
theorem same_eq{l m:List zb}(e:l.length<=big):tu (l,m)=some (Xf l m):=by
 unfold tu;rw[int_ne];cases c:l.length==m.length with
 |false=>rw[Cb,Ha,JF (Da.1 c)]
 |true=>
  rw[Lb,Ja];have a:=Sa.1 c;refine OM a e (fun i h=> ?_) ?_
  ·have b:i<m.length:=a▸h;have f:decide ((i:Int)<(l.length:Int))=true:=La (by omega);have d:decide ((0:Int)<=(i:Int))=true:=La (by omega);have g:decide ((i:Int)<(m.length:Int))=true:=La (by omega);simp only[f,d,g,Ha,kv h,kv b,ze,Aa,Yb,Ua h,Ua b];rfl
  grind
def wT(t:zb):Nat:=
 if t.kind=1 then t.text.length else if t.kind=2\/t.kind=3\/t.kind=4 then t.text.length+1 else if t.kind=5 then t.text.length+2 else if t.kind=7 then t.text.length+5
 else if t.kind=12 then t.unit.length+1 else if t.kind=14 then 4 else if t.kind=15 then 3 else 1
theorem Wp{l:Str}(h:atS l 0≠92):Us l (l.drop 1):=by
 cases l with
 |nil=>exact .refl _
 |cons c r=>exact ZA h
theorem Gz(l:Str):Us l (unsign l):=by
 unfold unsign;split
 ·rename_i h;exact Wp (by rintro e;rw[e]at h;exact absurd h (by decide))
 ·exact .refl _
theorem nT(l:Str):Us l (zx l).1:=by
 unfold zx;split
 ·rename_i h;rw[Ba]at h;exact zy (Wp (by rw[Sa.1 h.1];decide)) (QR ah _)
 ·exact .refl _
theorem oH{l r:Str}(h:expS l=some r):Us l r:=by obtain⟨h1,_,rfl⟩:=Aj h;exact zy (Wp (by rcases h1 with h1|h1<;>rw[h1]<;>decide)) (zy (Gz _) (QR ah _))
theorem FM(l:Str):Us l (zo l).1:=by
 have h1:Us l (zx (past digB (unsign l))).1:=zy (Gz l) (zy (QR ah _) (nT _));unfold zo;simp only;split
 ·rename_i r h;exact zy h1 (oH h)
 ·exact h1
theorem xM{c:UInt8}{r:Str}(g:Gd (c::r))(hb:nbS (c::r)=true):Us (c::r) (zk (c::r)).2/\wT (zk (c::r)).1+uN (zk (c::r)).2<=uN (c::r):=by
 have h1:=FM (c::r);have h0:=bN hb;have h2:uN (zo (c::r)).1<uN (c::r):=Bh h1 fun e=>by rw[e]at h0;have:=h0.length_le;rw[Ka]at this;omega
 unfold zk;split
 ·obtain⟨h3,h4⟩:=Vj _ (qR h1 g);refine⟨zy h1 h3,?_⟩;show(zg (zo (c::r)).1).1.length+1+_<=_;simp only;omega
 ·split
  ·rename_i h;have h3:Us (zo (c::r)).1 ((zo (c::r)).1.drop 1):=Wp (by rw[Sa.1 h];decide);have:=Uf h3;refine⟨zy h1 h3,?_⟩;show 1+uN ((zo (c::r)).1.drop 1)<=_;omega
  ·refine⟨h1,?_⟩;show 1+uN (zo (c::r)).1<=_;omega
theorem Ro{t:zb}(h:Qc t):t.kind≠6/\t.kind≠8:=by cases h<;>simp only<;>omega
theorem yX(l:Str):(lowS l).length=l.length:=by unfold lowS;rw[Ab]
theorem zAg(c:UInt8)(h: ¬(Nf c==0)=true):wT (Fg (Nf c))=1/\c≠92:=by
 have: ∀n:Nat,n<256-> ¬(Nf (UInt8.ofNat n)==0)=true->wT (Fg (Nf (UInt8.ofNat n)))=1/\UInt8.ofNat n≠92:=by decide+kernel
 have:=this c.toNat (ma c);rw[Jd]at this;exact this h
theorem PP{c:UInt8}{r:Str}(h:[45,45,62].isPrefixOf (c::r)=true): ∃t,c::r=45::45::62::t:=by obtain⟨t,e⟩:=Uc.1 h;exact⟨t,e.symm⟩
theorem OP{c:UInt8}{r:Str}(h:[60,33,45,45].isPrefixOf (c::r)=true): ∃t,c::r=60::33::45::45::t:=by obtain⟨t,e⟩:=Uc.1 h;exact⟨t,e.symm⟩
def Tk(q r:Str)(t:zb):Prop:=Us q r/\(wT t+uN r<=uN q\/(r=[]/\wT t<=uN q+1))
theorem uU{q:Str}(g:Gd q)(hf:Qc (ZO q).1):Tk q (ZO q).2 (ZO q).1:=by
 obtain⟨h1,h2⟩:=Vj q g;have g1:=qR h1 g;unfold Tk;unfold ZO at hf ⊢;cases h40:atS (zg q).2 0==40 with
 |false=> refine⟨h1, .inl ?_⟩;show(zg q).1.length+uN (zg q).2<=_;omega
 |true=>
  rw[h40,Ea rfl]at hf;rw[Ea rfl];have h3:Us (zg q).2 ((zg q).2.drop 1):=Wp (by rw[Sa.1 h40];decide);have h3':uN ((zg q).2.drop 1)<uN (zg q).2:=Bh h3 fun e=>by have:=congrArg List.length e;rw[ja]at this;have:=Vn (l:=(zg q).2) (n:=0) (by rw[Sa.1 h40];decide);omega
  split
  ·rename_i hu;rw[Ea hu]at hf;rw[Ba]at hu;have hl:(zg q).1.length=3:=by rw[<-yX,Sa.1 hu.1];rfl
   have h4:=QR Xl ((zg q).2.drop 1);have h5:=Uf h4;cases hq:(urlS (past spB ((zg q).2.drop 1))).1 with
   |none=>rw[hq]at hf;exact absurd rfl (Ro hf).2
   |some t=>
    obtain⟨k1,k2⟩:=yB _ (qR h4 (qR h3 g1)) t hq;refine⟨zy h1 (zy h3 (zy h4 k1)),?_⟩;show t.length+5+uN (urlS (past spB ((zg q).2.drop 1))).2<=_\/_/\t.length+5<=_;rcases k2 with k2|⟨k2,k3⟩
    ·exact .inl (by omega)
    ·exact .inr ⟨k2,by omega⟩
  ·refine⟨zy h1 h3, .inl ?_⟩;show(zg q).1.length+1+uN ((zg q).2.drop 1)<=_;omega
theorem Cm{c:UInt8}{r:Str}(g:Gd (c::r))(hf:Qc (zt (c::r)).1):Tk (c::r) (zt (c::r)).2 (zt (c::r)).1:=by
 rw[Qk]at hf ⊢;by_cases h1:spB c=true
 ·rw[Ea h1];have hc:c≠92:=by rintro rfl;exact absurd h1 (by decide)
  have hp:=QR Xl r;have:=Uf hp;refine⟨?_, .inl ?_⟩
  ·show Us (c::r) (past spB (c::r));rw[past,Ea h1];exact zy (ZA hc) hp
  ·show 1+uN (past spB (c::r))<=_;rw[past,Ea h1,Zn r hc];omega
 rw[Fa h1]at hf ⊢;by_cases h2:(c==34||c==39)=true
 ·rw[Ea h2]at hf ⊢;have hc:c≠92:=by rintro rfl;exact absurd h2 (by decide)
  cases hq:(zK c r).1 with
  |none=>rw[hq]at hf;exact absurd rfl (Ro hf).1
  |some t=>
   obtain⟨k1,k2⟩:=Oz hc r (lg g hc) t hq;refine⟨zy (ZA hc) k1,?_⟩;show t.length+2+uN (zK c r).2<=_\/_/\t.length+2<=_;rw[Zn r hc];rcases k2 with k2|⟨k2,k3⟩
   ·exact .inl (by omega)
   ·exact .inr ⟨k2,by omega⟩
 rw[Fa h2]at hf ⊢;by_cases h3:(c==35&&(letB (atS r 0)||escS r))=true
 ·rw[Ea h3];have hc:c≠92:=by rintro rfl;exact absurd h3 (by simp)
  obtain⟨k1,k2⟩:=Vj r (lg g hc);refine⟨zy (ZA hc) k1, .inl ?_⟩;show(zg r).1.length+1+uN (zg r).2<=_;rw[Zn r hc];omega
 rw[Fa h3]at hf ⊢;by_cases h4:nbS (c::r)=true
 ·rw[Ea h4];obtain⟨k1,k2⟩:=xM g h4;exact⟨k1, .inl k2⟩
 rw[Fa h4]at hf ⊢;by_cases h5:[45,45,62].isPrefixOf (c::r)=true
 ·rw[Ea h5];obtain⟨t,e⟩:=PP h5;rw[e];refine⟨zy (ZA (by decide)) (zy (ZA (by decide)) (ZA (by decide))), .inl ?_⟩;show 3+uN t<=_;rw[Zn _ (by decide),Zn _ (by decide),Zn _ (by decide)];omega
 rw[Fa h5]at hf ⊢;by_cases h6:[60,33,45,45].isPrefixOf (c::r)=true
 ·rw[Ea h6];obtain⟨t,e⟩:=OP h6;rw[e];refine⟨zy (ZA (by decide)) (zy (ZA (by decide)) (zy (ZA (by decide)) (ZA (by decide)))), .inl ?_⟩;show 4+uN t<=_;rw[Zn _ (by decide),Zn _ (by decide),Zn _ (by decide),Zn _ (by decide)];omega
 rw[Fa h6]at hf ⊢;by_cases h7:(c==64&&nmS r)=true
 ·rw[Ea h7];have hc:c≠92:=by rintro rfl;exact absurd h7 (by simp)
  obtain⟨k1,k2⟩:=Vj r (lg g hc);refine⟨zy (ZA hc) k1, .inl ?_⟩;show(zg r).1.length+1+uN (zg r).2<=_;rw[Zn r hc];omega
 rw[Fa h7]at hf ⊢;by_cases h8:nmS (c::r)=true
 ·rw[Ea h8]at hf ⊢;exact uU g hf
 rw[Fa h8]at hf ⊢;by_cases h9:(Nf c==0)=true
 ·rw[Ea h9];have hu:unS (c::r)=r:=by refine Fa fun he=>h8 ?_;exact Yv (kr he) he
  refine⟨by have:=Kw c r;rwa [hu]at this, .inl ?_⟩;show 1+uN r<=_;rw[dh,hu];omega
 ·rw[Fa h9];obtain⟨m1,m2⟩:=zAg c h9;refine⟨ZA m2, .inl ?_⟩;show wT (Fg (Nf c))+uN r<=_;rw[m1,Zn r m2];omega
def wTs(l:List zb):Nat:=(l.map wT).sum
theorem pq: ∀{P:List zb} {q r:Str},Gd q->(∀t∈P,Qc t)->run q P r->Us q r/\(wTs P+uN r<=uN q\/(r=[]/\wTs P<=uN q+1))
 |[],q,r,g,_,h=>by rw[run]at h;subst h;exact⟨.refl _, .inl (by show 0+_<=_;omega)⟩
 |t::P,q,r,g,hf,h=>by
  obtain⟨c,q',h1,h2,h3⟩:=h;have u1:=Ug q g;rw[h1]at u1;have g1:=qR u1 g;have k:=Cm g1 (by rw[h2];exact hf t (Xb ..));rw[h2]at k;obtain⟨k1,k2⟩:=k;obtain⟨k3,k4⟩:=pq (qR k1 g1) (fun t' ht'=>hf t' (Fb _ ht')) h3;refine⟨zy u1 (zy k1 k3),?_⟩;have e:wTs (t::P)=wT t+wTs P:=by unfold wTs;simp
  have:=Uf u1;rw[e];rcases k2 with k2|⟨k2,k2'⟩
  ·rcases k4 with k4|⟨k4,k4'⟩
   ·exact .inl (by omega)
   ·exact .inr ⟨k4,by omega⟩
  ·rw[k2]at k3 k4 h3;have hr:r=[]:=by have:=Xv k3;exact List.suffix_nil.1 this
   subst hr;have hP:P=[]:=by
    cases P with
    |nil=>rfl
    |cons u P=> obtain⟨c',q'',e',_⟩:=h3;rw[zM rfl]at e';cases e'
   subst hP;exact .inr ⟨rfl,by show wT t+0<=_;omega⟩
def Cu(s:Str)(n:Nat):Prop:= ∀x,uN (s++x)=n+uN x/\Us (s++x) x/\(Gd x->Gd (s++x))
theorem Cu.nil:Cu [] 0:=fun x=>⟨by rw[Ya];omega, .refl _,fun h=>h⟩
theorem Cu.app{a b:Str}{n m:Nat}(h:Cu a n)(h':Cu b m):Cu (a++b) (n+m):=fun x=>by rw[Ia];obtain⟨h1,h2,h3⟩:=h (b++x);obtain⟨k1,k2,k3⟩:=h' x;exact⟨by rw[h1,k1];omega,zy h2 k2,fun g=>h3 (k3 g)⟩
theorem Cu.raw{c:UInt8}(h:c≠92):Cu [c] 1:=fun x=>⟨by rw[show [c]++x=c::x from rfl,Zn x h];omega,ZA h,sI h⟩
theorem Cu.cons{c:UInt8}{s:Str}{n:Nat}(h:c≠92)(h':Cu s n):Cu (c::s) (1+n):=Cu.app (Cu.raw h) h'
theorem Cu.esc{c:UInt8}(h0:c≠0)(h:c.toNat<128):Cu (escC c) 1:=fun x=>by
 obtain⟨d,t,e1,e2,e3⟩:=Ll h0 h x;have he:escS (92::d::t)=true:=GK e2;have hu:unS (92::d::t)=x:=by rw[show unS (92::d::t)=(zm (d::t)).2 from Ea he,e3]
 rw[e1];refine⟨by rw[dh,hu];omega,by have:=Kw 92 (d::t);rwa [hu]at this,fun g=> .esc _ he (by rw[e3];rfl) (by rw[e3];exact g)⟩
theorem Cu.of{s:Str}{n m:Nat}(h:Cu s n)(e:n=m):Cu s m:=e▸h
theorem zA4{dash:Bool}{k:Nat}{c:UInt8}(h0:c≠0)(hd:dash=true->c.toNat<128):Cu (pcW dash k c) 1:=by
 unfold pcW;cases hc:letB c&&(k==0|| !digB c)&& !dash with
 |true=> rw[Ba,Ba]at hc;exact .raw (by rintro rfl;exact absurd hc.1.1 (by decide))
 |false=>
  refine .esc h0 (Cc fun hn=> ?_);obtain⟨k1,k2⟩:=Ux hn;rw[k1,k2]at hc;cases dash with
  |true=>exact hn (hd rfl)
  |false=>simp at hc
theorem Ow{dash:Bool}: ∀(k:Nat) (l:Str),Zc l=true->(dash=true-> ∀c∈l,c.toNat<128)->Cu (encW dash k l) l.length
 |_,[],_,_=>by rw[encW];exact .nil
 |k,c::r,h,hd=>by obtain⟨h1,h2⟩:=qa h;rw[encW];exact((zA4 h1 fun e=>hd e c (Xb ..)).app (Ow (k - 1) r h2 fun e x hx=>hd e x (Fb _ hx))).of (by rw[Ka];omega)
theorem Lm{l:Str}(h:Zc l=true):Cu (Z0 l) l.length:=Ow _ _ h fun e c hc=>by rw[Sa.1 e,Sb]at hc;subst hc;decide
theorem BS{f:Bool}{l:Str}(h:Zc l=true):Cu (Gg f l) l.length:=by
 unfold Gg;cases f with
 |true=>exact Lm h
 |false=>exact Ow 0 l h fun e=>by cases e
theorem mD{p:UInt8->Bool}(hp: ∀c,(p c=true->c.toNat<128)/\(p c=false->c≠92)): ∀l:Str,Zc l=true->Cu (encB p l) l.length
 |[],_=>by rw[encB];exact .nil
 |c::r,h=>by
  obtain⟨h1,h2⟩:=qa h;rw[encB];refine(Cu.app (n:=1) ?_ (mD hp r h2)).of (by rw[Ka];omega);cases hc:p c with
  |true=>exact .esc h1 ((hp c).1 hc)
  |false=>exact .raw ((hp c).2 hc)
theorem YC{l:Str}(h:Zc l=true):Cu (encB quoB l) l.length:=mD (fun c=>⟨(LF c).1,fun e=>by have:=((LF c).2 e).2.2;rintro rfl;exact absurd this (by decide)⟩) l h
theorem JQ{l:Str}(h:Zc l=true):Cu (encB urB l) l.length:=mD (fun c=>⟨(Iy c).1,fun e=>by have:=((Iy c).2 e).2.2.2.1;rintro rfl;exact absurd this (by decide)⟩) l h
theorem aC: ∀{l:Str},l.all digB=true->Cu l l.length
 |[],_=> .nil
 |c::r,h=>by rw[Ic,Ba]at h;exact(Cu.cons (by rintro rfl;exact absurd h.1 (by decide)) (aC h.2)).of (by rw[Ka];omega)
theorem cu_T(n:Int)(p:Bool):Cu (numT n p) (numT n p).length:=by
 obtain⟨d1,_,_⟩:=di (n.natAbs / 1000);have hp:=Um (n:=n) (p:=p);rw[Pj];have h1:Cu (sgT n) (sgT n).length:=by
  unfold sgT;split
  ·exact .raw (by decide)
  ·exact .nil
 have h3: ∀z:Str,z=dotS (if(partT (n.natAbs%1000) p).isEmpty then none else some (partT (n.natAbs%1000) p))->Cu z z.length:=by
  rintro z rfl;cases (partT (n.natAbs%1000) p).isEmpty with
  |true=>exact .nil
  |false=>exact(Cu.cons (c:=46) (by decide) (aC hp)).of (by show _=(46::partT (n.natAbs%1000) p).length;rw[Ka];omega)
 exact(h1.app ((aC d1).app (h3 _ rfl))).of (by rw[Ga,Ga])
theorem lD{u:Str}(h0:u≠[])(h:Zc u=true):Cu (Qb u) u.length:=by
 cases u with
 |nil=>exact absurd rfl h0
 |cons c r=>
  obtain⟨h1,h2⟩:=qa h;rw[Pn];cases he:yh (c::r)with
  |true=>
   rw[Ha];exact((Cu.esc h1 (by rcases OA he with rfl|rfl<;>decide)).app (Ow 0 r h2 fun e=>by cases e)).of (by rw[Ka];omega)
  |false=>rw[Ja];exact Lm h
theorem zA5{t:zb}(h:Qc t)(hb: ¬(t.kind=9/\t.text=[92])): ∃n,Cu (txS t) n/\(t.kind=10\/t.kind=11\/t.kind=12\/n=wT t):=by
 cases h with
 |cId l h0 h=>exact⟨_,by rw[sj];exact Lm h, .inr (.inr (.inr rfl))⟩
 |cFn l h0 h=>exact⟨_,by rw[Li];exact(Lm h).app (.raw (by decide)), .inr (.inr (.inr rfl))⟩
 |cAt l h0 h=>exact⟨_,by rw[uj];exact(Cu.cons (by decide) (Lm h)).of (Nat.add_comm ..), .inr (.inr (.inr rfl))⟩
 |cHash l f h0 h hbb=>exact⟨_,by rw[ek];exact(Cu.cons (by decide) (BS h)).of (Nat.add_comm ..), .inr (.inr (.inr rfl))⟩
 |cStr l h=>exact⟨_,by rw[Oi];exact Cu.cons (by decide) ((YC h).app (.raw (by decide))), .inr (.inr (.inr (by show 1+(l.length+1)=l.length+2;omega)))⟩
 |cUrl l h=>exact⟨_,by rw[Ij];exact(Cu.cons (by decide) (Cu.cons (by decide) (Cu.cons (by decide) (Cu.raw (c:=40) (by decide))))).app ((JQ h).app (.raw (by decide))), .inr (.inr (.inr (by show 1+(1+(1+1))+(l.length+1)=l.length+5;omega)))⟩
 |cDel c h=>exact⟨_,by rw[Ci];exact .raw (by rintro rfl;exact hb ⟨rfl,rfl⟩), .inr (.inr (.inr rfl))⟩
 |cNum n f h1 h2 hf=>exact⟨_,by rw[Bi];exact cu_T n _, .inl rfl⟩
 |cPct n h1 h2=>exact⟨_,by rw[Pi];exact(cu_T n _).app (.raw (by decide)), .inr (.inl rfl)⟩
 |cDim n u f h1 h2 hf h0 h=>exact⟨_,by rw[Ri];exact(cu_T n _).app (lD h0 h), .inr (.inr (.inl rfl))⟩
 |cMark k h1 h2=>
  rw[ak h1 h2];rcases uk h1 h2 with rfl|rfl|rfl|rfl|rfl|rfl|rfl|rfl|rfl|rfl|rfl|rfl<;>first
   |exact⟨_,Cu.raw (by decide), .inr (.inr (.inr rfl))⟩
   |exact⟨_,Cu.cons (by decide) (Cu.cons (by decide) (Cu.raw (by decide))), .inr (.inr (.inr rfl))⟩
   |exact⟨_,Cu.cons (by decide) (Cu.cons (by decide) (Cu.cons (by decide) (Cu.raw (by decide)))), .inr (.inr (.inr rfl))⟩
theorem Im{s:Str}{P:List zb}(h:PcT s P): ∀t∈P,Qc t:=by
 cases h with
 |one t h hb hu=>intro t' ht';rw[Sb]at ht';subst ht';exact h
 |back=>
  intro t ht;rcases Bb.1 ht with rfl|ht
  ·exact .cDel 92 (by decide)
  ·rw[Sb]at ht;subst ht;exact .cMark 13 (by omega) (by omega)
 |url l m b h hl hm=>
  intro t ht;rcases Bb.1 ht with rfl|ht
  ·exact .cFn l (Jo hl) h
  ·cases b with
   |true=>
    rcases Bb.1 ht with rfl|ht
    ·exact .cMark 13 (by omega) (by omega)
    ·have ht:t∈[(⟨5,m,0,[],false⟩:zb)]:=ht;rw[Sb]at ht;subst ht;exact .cStr m hm
   |false=>rw[show(if false=true then [tkSp]else [])++[(⟨5,m,0,[],false⟩:zb)]=[⟨5,m,0,[],false⟩]from rfl,Sb]at ht;subst ht;exact .cStr m hm
theorem mi{s:Str}{P:List zb}(h:PcT s P): ∃n,Cu s n/\(n=wTs P\/ ∃t,P=[t]/\(t.kind=10\/t.kind=11\/t.kind=12)):=by
 cases h with
 |one t h hb hu=>
  obtain⟨n,h1,h2⟩:=zA5 h hb;refine⟨n,h1,?_⟩;rcases h2 with h2|h2|h2|h2
  ·exact .inr ⟨t,rfl, .inl h2⟩
  ·exact .inr ⟨t,rfl, .inr (.inl h2)⟩
  ·exact .inr ⟨t,rfl, .inr (.inr h2)⟩
  ·exact .inl (by rw[h2];unfold wTs;simp)
 |back=>
  refine⟨2,fun x=>⟨?_,?_,fun g=> ?_⟩, .inl rfl⟩
  ·show uN (92::10::x)=_;rw[dh,show unS (92::10::x)=10::x from rfl,Zn x (by decide)];omega
  ·exact .step _ _ _ (show Us (10::x) x from ZA (by decide))
  ·exact .one _ _ rfl (sI (by decide) g)
 |url l m b h hl hm=>
  cases b with
  |true=> refine⟨_,(Lm h).app (Cu.cons (by decide) (Cu.cons (c:=32) (by decide) (Cu.cons (by decide) ((YC hm).app (.raw (by decide)))))), .inl ?_⟩;show l.length+(1+(1+(1+(m.length+1))))=(l.length+1)+(1+((m.length+2)+0));omega
  |false=> refine⟨_,(Lm h).app (Cu.cons (by decide) (Cu.cons (by decide) ((YC hm).app (.raw (by decide))))), .inl ?_⟩;show l.length+(1+(1+(m.length+1)))=(l.length+1)+((m.length+2)+0);omega
structure Cmt where
 s:Str
 P:List zb
 A:Str
 ts:List zb
inductive Can:Str->List zb->List Cmt->Prop
 |nil:Can [] [] []
 |no (s A:Str) (P ts:List zb) (L:List Cmt) (hp:PcT s P) (hA:Can A ts L) (ht:zV (s++A)=P++ts) (hq:([47,42]:Str).isPrefixOf (s++A)=false):Can (s++A) (P++ts) L
 |cmt (s A:Str) (P ts:List zb) (L:List Cmt) (hp:PcT s P) (hA:Can A ts L) (hne:A≠[]) (h1: ∀t∈P,t.kind≠5/\t.kind≠7/\t≠⟨9,[42],0,[],false⟩):Can (s++(cmtW++A)) (P++ts) (⟨s,P,A,ts⟩::L)
theorem MF(A:Str):zV (cmtW++A)=zV A:=by
 have h:cmtS (cmtW++A)=cmtS A:=by rw[qE];rfl
 rw[<-ql,h,ql]
theorem bE(A:Str):neu (cmtW++A):= .inr ⟨_,rfl⟩
theorem ni{R:Str}{ts:List zb}{L:List Cmt}(h:Can R ts L):zV R=ts:=by
 induction h with
 |nil=>exact ZE (zM rfl)
 |no s A P ts L hp hA ht hq ih=>exact ht
 |cmt s A P ts L hp hA hne h1 ih=>rw[Q9 (Es hp (bE A)),MF,ih]
theorem Wt:Cu cmtW 4:=Cu.cons (by decide) (Cu.cons (by decide) (Cu.cons (by decide) (Cu.raw (by decide))))
theorem Ui{R:Str}{ts:List zb}{L:List Cmt}(h:Can R ts L):Gd R:=by
 induction h with
 |nil=>exact .nil
 |no s A P ts L hp hA ht hq ih=> obtain⟨n,h1,_⟩:=mi hp;exact(h1 A).2.2 ih
 |cmt s A P ts L hp hA hne h1 ih=> obtain⟨n,h1,_⟩:=mi hp;exact(h1 _).2.2 ((Wt A).2.2 ih)
theorem LQ{R:Str}{ts:List zb}{L:List Cmt}(h:Can R ts L)(he:ts=[]):R=[]:=by
 cases h with
 |nil=>rfl
 |no s A P ts L hp hA ht hq=>
  obtain⟨t,us,e⟩:=pc_P hp;rw[e]at he;cases he
 |cmt s A P ts L hp hA hne h1=> obtain⟨t,us,e⟩:=pc_P hp;rw[e]at he;cases he
def Out(L:List Cmt)(q:Str):Prop:= ∀C∈L,q≠42::42::47::C.A/\q≠42::47::C.A/\q≠47::C.A
def stB(d:UInt8):Bool:=d==47||d==42
theorem Xp{d:UInt8}(h:stB d=true):letB d=false/\digB d=false/\spB d=false/\d≠92/\d≠34/\d≠39/\d≠41/\d≠40/\d≠37/\d≠45/\d≠62/\d≠46/\d≠43/\d≠101/\d≠69/\d≠10:=by unfold stB at h;rw[Pb,Sa,Sa]at h;rcases h with rfl|rfl<;>decide
theorem Rq{d:UInt8}(hd:stB d=true)(y:Str): ∀(q:Str),Gd q->Us q (d::y)->Us (zg q).2 (d::y)
 |[],_,h=>by cases h
 |c::r,g,h=>by
  obtain⟨f1,_,_,f2,_⟩:=Xp hd;rw[zI];by_cases hl:letB c=true
  ·rw[Ea hl];have hc:c≠92:=by rintro rfl;exact absurd hl (by decide)
   refine Rq hd y r (lg g hc) ?_;cases h with
   |refl=>rw[f1]at hl;cases hl
   |step _ _ _ h=>rwa [Oh r hc]at h
  ·rw[Fa hl];by_cases he:escS (c::r)=true
   ·rw[Ea he];have hc:=kr he;subst hc;refine Rq hd y _ (Po g he).2 ?_;cases h with
    |refl=>exact absurd rfl f2
    |step _ _ _ h=>rwa [show unS (92::r)=(zm r).2 from Ea he]at h
   ·rw[Fa he];exact h
termination_by q=>q.length
decreasing_by
 all_goals first|(have:=zP r;simp only[Ka];omega)|(simp only[Ka];omega)
theorem Yu{p:UInt8->Bool}{d:UInt8}(hp:p d=false)(h92:p 92=false)(y:Str): ∀(q:Str),Us q (d::y)->Us (past p q) (d::y)
 |[],h=>by cases h
 |c::r,h=>by
  rw[past];split
  ·rename_i hc;refine Yu hp h92 y r ?_;cases h with
   |refl=>rw[hp]at hc;cases hc
   |step _ _ _ h=>rwa [Oh r (by rintro rfl;rw[h92]at hc;cases hc)]at h
  ·exact h
theorem Oq{d:UInt8}{l y:Str}(h:Us l (d::y))(h1:atS l 0≠d)(h2:atS l 0≠92):Us (l.drop 1) (d::y):=by
 cases l with
 |nil=>cases h
 |cons c r=>
  cases h with
  |refl=>exact absurd rfl h1
  |step _ _ _ h=>rwa [Oh r (show c≠92 from h2)]at h
theorem NN{d:UInt8}(hd:stB d=true){l y:Str}(h:Us l (d::y)):Us (unsign l) (d::y):=by
 obtain⟨_,_,_,_,_,_,_,_,_,f1,_,_,f2,_⟩:=Xp hd;unfold unsign;split
 ·rename_i hs;unfold Qo at hs;rw[Pb,Sa,Sa]at hs;rcases hs with hs|hs
  ·exact Oq h (by rw[hs];exact fun e=>f2 e.symm) (by rw[hs];decide)
  ·exact Oq h (by rw[hs];exact fun e=>f1 e.symm) (by rw[hs];decide)
 ·exact h
theorem bY{d:UInt8}(hd:stB d=true){l y:Str}(h:Us l (d::y)):Us (zo l).1 (d::y):=by
 obtain⟨_,f1,_,_,_,_,_,_,_,_,_,f2,_,f3,f4,_⟩:=Xp hd;have h1:Us (past digB (unsign l)) (d::y):=Yu f1 ah y _ (NN hd h);have h2:Us (zx (past digB (unsign l))).1 (d::y):=by
  unfold zx;split
  ·rename_i hw;rw[Ba,Sa]at hw;exact Yu f1 ah y _ (Oq h1 (by rw[hw.1];exact fun e=>f2 e.symm) (by rw[hw.1];decide))
  ·exact h1
 unfold zo;simp only;split
 ·rename_i r hr;obtain⟨k1,_,rfl⟩:=Aj hr;refine Yu f1 ah y _ (NN hd (Oq h2 ?_ ?_))
  ·rcases k1 with k1|k1<;>rw[k1]
   ·exact fun e=>f3 e.symm
   ·exact fun e=>f4 e.symm
  ·rcases k1 with k1|k1<;>rw[k1]<;>decide
 ·exact h2
theorem xz{m:UInt8}(hm:m≠92): ∀(q:Str),Gd q-> ∀t,(zK m q).1=some t->(zK m q).2≠[]->Us q (m::(zK m q).2)
 |[],_,t,h,hn=>by rw[QA]at hn;exact absurd rfl hn
 |c::r,g,t,h,hn=>by
  rw[Z7]at h hn ⊢;by_cases h1:(c==m)=true
  ·rw[Ea h1]at hn ⊢;rw[Sa.1 h1];exact .refl _
  ·rw[Fa h1]at h hn ⊢;by_cases h2:(c==10)=true
   ·rw[Ea h2]at h;cases h
   ·rw[Fa h2]at h hn ⊢;by_cases h3:(c==92)=true
    ·rw[Ea h3]at h hn ⊢;have hc:=Sa.1 h3;subst hc;by_cases h4:r.isEmpty=true
     ·rw[Ea h4]at hn;exact absurd rfl hn
     ·rw[Fa h4]at h hn ⊢;cases h5:(atS r 0==10)with
      |true=>
       rw[h5,Ea rfl]at h hn;rw[Ea rfl];obtain⟨d,r2,er⟩:=Za (show r≠[] by rintro rfl;exact h4 rfl);have hd:d=10:=by rw[er]at h5;exact Sa.1 h5
       have e2:r.drop 1=r2:=by rw[er];rfl
       have g3:Gd (r.drop 1):=by rw[e2];have:=Pv g;rw[er,hd]at this;exact lg (show Gd (10::r2)from this) (by decide)
       have u1:Us (92::r) (r.drop 1):=by rw[e2,er,hd];exact .step _ _ _ (show Us (10::r2) r2 from ZA (by decide))
       exact zy u1 (xz hm (r.drop 1) g3 t h hn)
      |false=>
       rw[h5,Fa (by decide)]at h hn;rw[Fa (by decide)];have he:=tH h5;obtain⟨e1,gr⟩:=Po g he;cases hq:(zK m (zm r).2).1 with
       |none=>rw[hq]at h;cases h
       |some t'=> have hu:unS (92::r)=(zm r).2:=Ea he;exact .step _ _ _ (by rw[hu];exact xz hm _ gr t' hq hn)
    ·rw[Fa h3]at h hn ⊢;have hc:c≠92:=fun e=>h3 (by rw[e];rfl);cases hq:(zK m r).1 with
     |none=>rw[hq]at h;cases h
     |some t'=>exact zy (ZA hc) (xz hm r (lg g hc) t' hq hn)
termination_by q=>q.length
decreasing_by
 all_goals first|(have:=zP r;simp only[Ka];omega)|(simp only[Ka,ja];omega)
theorem CE: ∀(q:Str),Gd q-> ∀t,(urlS q).1=some t->(urlS q).2≠[]->Us q (41::(urlS q).2)
 |[],_,t,h,hn=>by rw[Il]at hn;exact absurd rfl hn
 |c::r,g,t,h,hn=>by
  rw[Q5]at h hn ⊢;by_cases h1:(c==41)=true
  ·rw[Ea h1]at hn ⊢;rw[Sa.1 h1];exact .refl _
  ·rw[Fa h1]at h hn ⊢;by_cases h2:spB c=true
   ·rw[Ea h2]at h hn ⊢;have hc:c≠92:=by rintro rfl;exact absurd h2 (by decide)
    have hp:=QR Xl r;cases hq:past spB r with
    |nil=>rw[hq]at hn;exact absurd rfl hn
    |cons d r'=>
     rw[hq]at h hn hp;simp only at h hn ⊢;by_cases h3:(d==41)=true
     ·rw[Ea h3]at h ⊢;rw[Sa.1 h3]at hp;exact zy (ZA hc) hp
     ·rw[Fa h3]at h;cases h
   ·rw[Fa h2]at h hn ⊢;by_cases h3:(c==34||c==39||c==40||unB c||c==92&& !escS (c::r))=true
    ·rw[Ea h3]at h;cases h
    ·rw[Fa h3]at h hn ⊢;by_cases h4:(c==92)=true
     ·rw[Ea h4]at h hn ⊢;have hc:=Sa.1 h4;subst hc;have he:escS (92::r)=true:=by
       cases he:escS (92::r)with
       |true=>rfl
       |false=>exact absurd (by rw[he,Pb];exact .inr rfl) h3
      obtain⟨e1,gr⟩:=Po g he;cases hq:(urlS (zm r).2).1 with
      |none=>rw[hq]at h;cases h
      |some t'=> have hu:unS (92::r)=(zm r).2:=Ea he;exact .step _ _ _ (by rw[hu];exact CE _ gr t' hq hn)
     ·rw[Fa h4]at h hn ⊢;have hc:c≠92:=fun e=>h4 (by rw[e];rfl);cases hq:(urlS r).1 with
      |none=>rw[hq]at h;cases h
      |some t'=>exact zy (ZA hc) (CE r (lg g hc) t' hq hn)
termination_by q=>q.length
decreasing_by
 all_goals first|(have:=zP r;simp only[Ka];omega)|(simp only[Ka];omega)
theorem kI{a q:Str}{c d:UInt8}(hc:c≠92)(hd:d≠92)(h:Us a (c::q))(h':Us a (d::q)):c=d:=by have h1:=Vh h h' (by rw[Zn q hc,Zn q hd];exact Va _);have h2:=tq h1 (by rw[Zn q hc,Zn q hd]);injection h2 with h2 _;exact h2.symm
theorem gP{q:Str}{d:UInt8}(hd:d≠92)(h:Us q (d::q)):False:=by have:=Uf h;rw[Zn q hd]at this;omega
theorem JM{c d:UInt8}{r y:Str}(hd:stB d=true)(g:Gd (c::r))(hf:Qc (zt (c::r)).1)(h5:(zt (c::r)).1.kind≠5)(h7:(zt (c::r)).1.kind≠7)(h:Us (c::r) (d::y))(hne:d::y≠c::r):Us (zt (c::r)).2 (d::y):=by
 obtain⟨f1,f2,f3,f4,f5,f6,f7,f8,f9,f10,f11,f12,f13,f14,f15,f16⟩:=Xp hd;rw[Qk]at hf h5 h7 ⊢;have hr: ∀{c':UInt8} {r':Str},c'≠92->Us (c'::r') (d::y)->c'≠d->Us r' (d::y):=fun hc hu hn=>by
  cases hu with
  |refl=>exact absurd rfl hn
  |step _ _ _ hu=>rwa [Oh _ hc]at hu
 have hr0:c≠92->Us r (d::y):=fun hc=>by
  cases h with
  |refl=>exact absurd rfl hne
  |step _ _ _ h=>rwa [Oh r hc]at h
 by_cases h1:spB c=true
 ·rw[Ea h1];exact Yu f3 Xl y _ h
 rw[Fa h1]at hf h5 h7 ⊢;by_cases h2:(c==34||c==39)=true
 ·rw[Ea h2]at hf h5;cases hq:(zK c r).1 with
  |none=>rw[hq]at hf;exact absurd rfl (Ro hf).1
  |some t=>rw[hq]at h5;exact absurd rfl h5
 rw[Fa h2]at hf h5 h7 ⊢;by_cases h3:(c==35&&(letB (atS r 0)||escS r))=true
 ·rw[Ea h3];have hc:c≠92:=by rintro rfl;exact absurd h3 (by simp)
  exact Rq hd y r (lg g hc) (hr0 hc)
 rw[Fa h3]at hf h5 h7 ⊢;by_cases h4:nbS (c::r)=true
 ·rw[Ea h4];have k:=bY hd h;unfold zk;split
  ·exact Rq hd y _ (qR (FM _) g) k
  ·split
   ·rename_i h37;exact Oq k (by rw[Sa.1 h37];exact fun e=>f9 e.symm) (by rw[Sa.1 h37];decide)
   ·exact k
 rw[Fa h4]at hf h5 h7 ⊢;by_cases h5':[45,45,62].isPrefixOf (c::r)=true
 ·rw[Ea h5'];obtain⟨t,e⟩:=PP h5';rw[e]at h ⊢;exact hr (by decide) (hr (by decide) (hr (by decide) h (fun e=>f10 e.symm)) (fun e=>f10 e.symm)) (fun e=>f11 e.symm)
 rw[Fa h5']at hf h5 h7 ⊢;by_cases h6:[60,33,45,45].isPrefixOf (c::r)=true
 ·rw[Ea h6];obtain⟨t,e⟩:=OP h6;rw[e]at h ⊢;have q1:(60:UInt8)≠d:=by rintro rfl;exact absurd hd (by decide)
  have q2:(33:UInt8)≠d:=by rintro rfl;exact absurd hd (by decide)
  exact hr (by decide) (hr (by decide) (hr (by decide) (hr (by decide) h q1) q2) (fun e=>f10 e.symm)) (fun e=>f10 e.symm)
 rw[Fa h6]at hf h5 h7 ⊢;by_cases h7':(c==64&&nmS r)=true
 ·rw[Ea h7'];have hc:c≠92:=by rintro rfl;exact absurd h7' (by simp)
  exact Rq hd y r (lg g hc) (hr0 hc)
 rw[Fa h7']at hf h5 h7 ⊢;by_cases h8:nmS (c::r)=true
 ·rw[Ea h8]at hf h5 h7 ⊢;have k:=Rq hd y _ g h;unfold ZO at hf h7 ⊢;cases h40:atS (zg (c::r)).2 0==40 with
  |false=>exact k
  |true=>
   rw[h40,Ea rfl]at hf h7;rw[Ea rfl];split
   ·rename_i hu;rw[Ea hu]at hf h7;cases hq:(urlS (past spB ((zg (c::r)).2.drop 1))).1 with
    |none=>rw[hq]at hf;exact absurd rfl (Ro hf).2
    |some t=>rw[hq]at h7;exact absurd rfl h7
   ·exact Oq k (by rw[Sa.1 h40];exact fun e=>f8 e.symm) (by rw[Sa.1 h40];decide)
 rw[Fa h8]at hf h5 h7 ⊢;have hu:unS (c::r)=r:=Fa fun he=>h8 (Yv (kr he) he);have hk:Us r (d::y):=by
  cases h with
  |refl=>exact absurd rfl hne
  |step _ _ _ h=>rwa [hu]at h
 split
 ·exact hk
 ·exact hk
theorem gW{c d:UInt8}{r:Str}(hd:stB d=true)(g:Gd (c::r))(hf:Qc (zt (c::r)).1)(hn:(zt (c::r)).2≠[])(h:Us (c::r) (d::(zt (c::r)).2)):c::r=d::(zt (c::r)).2:=by
 obtain⟨f1,f2,f3,f4,f5,f6,f7,f8,f9,f10,f11,f12,f13,f14,f15,f16⟩:=Xp hd;refine Cc fun hne=> ?_;by_cases h5:(zt (c::r)).1.kind=5
 ·have hb:brS c r=1:=by rw[<-Qu c r,h5];rfl
  have h2:=br_1 hb;have e1:zt (c::r)=(Ei (zK c r).1,(zK c r).2):=by rw[Zh,hb,Yn]
  rw[e1]at hf hn h;have hc:c≠92:=by rintro rfl;exact absurd h2 (by decide)
  have hcd:c≠d:=by
   rw[Pb,Sa,Sa]at h2;rcases h2 with rfl|rfl
   ·exact fun e=>f5 e.symm
   ·exact fun e=>f6 e.symm
  cases hq:(zK c r).1 with
  |none=>rw[hq]at hf;exact absurd rfl (Ro hf).1
  |some t=>exact hcd (kI hc f4 (zy (ZA hc) (xz hc r (lg g hc) t hq hn)) h)
 ·by_cases h7:(zt (c::r)).1.kind=7
  ·have hb:brS c r=7:=by rw[<-Qu c r,h7];rfl
   have e1:zt (c::r)=ZO (c::r):=by rw[Zh,hb,Mh]
   rw[e1]at hf hn h h7;have k:=Vj _ g;unfold ZO at hf hn h h7;cases h40:atS (zg (c::r)).2 0==40 with
   |false=>rw[h40]at h7;cases h7
   |true=>
    rw[h40,Ea rfl]at hf hn h h7;by_cases hu:((lowS (zg (c::r)).1==[117,114,108])&& !(atS (past spB ((zg (c::r)).2.drop 1)) 0==34||atS (past spB ((zg (c::r)).2.drop 1)) 0==39))=true
    ·rw[Ea hu]at hf hn h;have u1:Us (c::r) (past spB ((zg (c::r)).2.drop 1)):=zy k.1 (zy (Wp (by rw[Sa.1 h40];decide)) (QR Xl _));cases hq:(urlS (past spB ((zg (c::r)).2.drop 1))).1 with
     |none=>rw[hq]at hf;exact absurd rfl (Ro hf).2
     |some t=>exact f7 (kI (by decide) f4 (zy u1 (CE _ (qR u1 g) t hq hn)) h).symm
    ·rw[Fa hu]at h7;cases h7
  ·exact gP f4 (JM hd g hf h5 h7 h (fun e=>hne e.symm))
end Go.Lv.VT
