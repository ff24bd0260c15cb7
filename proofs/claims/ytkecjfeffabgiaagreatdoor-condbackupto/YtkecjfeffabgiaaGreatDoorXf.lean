/- What is written piece by piece is there: its tokens, and where each piece begins. -/
import Derived.Test.YtkecjfeffabgiaaGreatDoorXe
import Derived.Test.YtkecjfeffabgiaaGreatDoorXa
import Derived.Test.YtkecjfeffabgiaaGreatDoorTy
import Derived.Test.YtkecjfeffabgiaaGreatDoorXd
set_option linter.unusedSimpArgs false
set_option linter.unusedVariables false
namespace Go.Lv.VT
set_option maxRecDepth 100000
theorem zIr{q s:Str}{P us:List zg}(hs:PcT s P)(h:Y3 q s us)(hus:us≠[]):False:=by
 obtain⟨c,r,_,⟨⟨e,fl,hee,hw⟩,h43,hk,hds⟩,hsame,hT⟩:=h;have hbr:=Kq c (r++s);rw[hsame,hk]at hbr;have hbr':brS c (r++s)=3:=hbr.symm;have hnx:ZC (c::(r++s))=zS ((c::r)++s):=by rw[qp,hbr',nk];rfl
 have hq2:Eg (c::r)≠[]:=by intro e2;rw[e2]at hw;cases congrArg Prod.fst hw
 have e2:Eg ((c::r)++s)=Eg (c::r)++s:=by unfold Eg;rw[(Io s (by simp)).1];exact Yn s hq2
 have hw2:=(DT (q:=Eg (c::r)) (x:=s) (by rw[hw];simp) (fun e3=>by
  rw[e3]at hw;have:=congrArg Prod.fst hw;cases this)).1
 have hexp:expS ([e,43]++s)=some (past digB s):=by
  unfold expS;have h1:(atS ([e,43]++s) 0==101||atS ([e,43]++s) 0==69)=true:=by rcases hee with rfl|rfl<;>rfl
  have h2:unsign (([e,43]++s).drop 1)=s:=rfl;rw[h1,Ka rfl,h2,hds,Ka rfl]
 have hend:zX ((c::r)++s)=(past digB s,false):=by rw[Yk,e2,hw2,hw];simp only[hexp]
 have hk2:(zS ((c::r)++s)).1.kind=12:=by rw[<-hnx,hsame,hk]
 rw[hnx]at hT;unfold zS at hk2 hT;rw[hend]at hk2 hT;simp only at hk2 hT;have hun:unsign s=s:=by unfold unsign Ng;rw[Ha.2 (Ri hds).1,Ha.2 (Ri hds).2.1];rfl
 cases hn:nmS (past digB s)with
 |false=>
  grind
 |true=>
  rw[hn,Ka rfl]at hT;obtain⟨n2,p2,U,t2,_,rfl,_,hU⟩:=bH hs (by grind);obtain⟨u1,_,u3⟩:=vE hU;rw[<-hun]at hn hT;cases hp:(partT (n2.natAbs%1000) p2).isEmpty with
  |true=>
   rw[jI U hp,u1]at hn hT;rcases u3 with rfl|rfl|⟨_,hu⟩
   ·cases hn
   ·cases hn
   ·rw[hu,Q6 (ZR rfl)]at hT;exact hus hT.symm
  |false=>rw[iI U hp,Y0]at hn;cases hn
theorem J2{R A:Str}(h:Lk R A)(b:A≠[])(y:Str):Lk (R++47::42::y) (A++47::42::y):=by
 rcases h with h|⟨d,z,a,rfl,h⟩
 ·left;rw[mH y (by rw[h];exact b),h]
 ·right;exact⟨d,z++47::42::y,a,rfl,by rw[mH y (by rw[h];simp),h];rfl⟩
theorem zDD{s:Str}{P:List zg}(h:PcT s P):cmtS (47::42::42::47::s)=s:=by rw[Uk];exact YD h
theorem OE{s:Str}{P:List zg}(h:PcT s P):Zb s=P:=by have:=Sq (J5 h (x:=[]) (.inl rfl));rw[Xa,Q6 (ZR rfl),Xa]at this;exact this
theorem zzt{α:Type}{l a:List α}(h:l++a=l):a=[]:=by simp_all
theorem TD{b:Str}{ts:List zg}{st:List (List zg×Str)}(h:Syn b ts st):zI0 b ts st:=by
 induction h with
 |nil=>exact⟨Q6 (ZR rfl),fun k h=>(by cases h), .inl ⟨rfl,rfl,rfl⟩⟩
 |cmt b s ts P st h hb hp ih=>
  obtain⟨ht,hbd,hl⟩:=ih;have hx:b++cmtW++s=b++47::42::(42::47::s):=by rw[La];rfl
  obtain⟨t0,us0,hP0⟩:=pc_P hp;have hrun:run (b++47::42::(42::47::s)) ts (47::42::(42::47::s)):=by
   rcases hl with⟨_,e,_⟩|⟨L,B,u,p,R,g1,g2,g3,g4,g5⟩
   ·exact absurd e hb
   ·have hR:R≠[]:=by intro e;have:=Dr g5 (Ej g1);rw[e]at this;exact this (ZR rfl)
    obtain⟨t1,us1,hp1⟩:=pc_P g1;rw[g3];refine gF (VO (42::47::s) g4 hR) ?_;have h1:=J5 g1 (x:=47::42::(42::47::s)) (.inr ⟨_,rfl⟩);rw[hp1]at h1 ⊢;exact(pO (J2 g5 (Ej g1) (42::47::s)) (Az g1 _ (by show(47:UInt8)≠42;decide))).2 h1
  have hlk:Lk (47::42::(42::47::s)) s:= .inl (zDD hp);rw[hx];refine⟨?_,?_, .inr ⟨ts,b++cmtW,s,P,_,hp,by grind,rfl,hrun,hlk⟩⟩
  ·rw[Sq hrun,J9 hlk,OE hp]
  ·intro k hk;rw[Ja,Md]at hk;by_cases hk2:k<st.length
   ·rw[List.getElem_append_left hk2];have:=F7 (P:=P) (x:=47::42::(42::47::s)) (hbd k hk2) (by simp) (fun R hR h5 _=>⟨VO _ h5 hR,fun A hA h6 _=>J2 h6 hA _⟩)
    grind
   ·have hke:k=st.length:=by omega
    subst hke;rw[List.getElem_append_right (by omega)];simp only[Nat.sub_self,List.getElem_cons_zero];refine⟨s,_,P,by grind,Ej hp,rfl,by rw[hP0];simp,hrun,hlk,?_⟩;have:=xe.2 (Ej hp)
    grind
 |no b s ts P st h hp ht0 ih=>
  obtain⟨ht,hbd,hl⟩:=ih;obtain⟨t0,us0,hP0⟩:=pc_P hp;have hPne:P≠[]:=by rw[hP0];simp
  have hsne:=Ej hp
  -- what is ahead stays
  have keep: ∀(L us:List zg) (R:Str),ts=L++us->R≠[]->run b L R->run (b++s) L (R++s):=by
   intro L us R hts hR hrun;rcases eQ (us:=us++P) hrun hR hsne (by grind)with h1|⟨_,q,_,h1⟩
   ·exact h1
   ·exact(zIr hp h1 (by simp[hPne])).elim
  have keepLk: ∀(L us:List zg) (R A:Str),ts=L++us->run (b++s) L (R++s)->A≠[]->Lk R A->Lk (R++s) (A++s):=by
   intro L us R A hts hrun hA hlk;cases hpre:([47,42]:Str).isPrefixOf (A++s)with
   |false=>exact sO hlk hA hpre
   |true=>
    exfalso;rcases hlk with h1|⟨d,y,_,rfl,_⟩
    ·cases A with
     |nil=>exact hA rfl
     |cons c r=>
      cases r with
      |cons d t=>
       have:=Dw R
       grind
      |nil=>
       have hc:c=47:=by
        cases hcc:(47:UInt8)==c with
        |true=>grind
        |false=>
         grind
       subst hc;have h42:s=[42]:=by
        refine PE hp (.inr rfl) ?_;cases s with
        |nil=>grind
        |cons d t=>
         have h':(((47:UInt8)==47)&&(((42:UInt8)==d)&&true))=true:=hpre;have:((42:UInt8)==d)=true:=by simpa using h'
         exact(Bb.1 this).symm
       have h3:=Sq hrun;rw[ht0,hts,h42,Q6 (U6 h1),Xa,La]at h3;have:=zzt h3;simp_all
    ·cases hpre
  rcases hl with⟨e1,e2,e3⟩|⟨L,B,u,p,R,g1,g2,g3,g4,g5⟩
  ·subst e1 e2 e3;refine⟨ht0,?_, .inr ⟨[],[],s,P,s,hp,rfl,rfl,rfl, .inl (YD hp)⟩⟩;intro k hk;have hke:k=0:=by rw[Ja,Md,Eb]at hk;omega
   subst hke;exact⟨s,s,P,rfl,hsne,rfl,hPne,rfl, .inl (YD hp),xe.2 hsne,xe.2 hsne⟩
  ·have hR:R≠[]:=by intro e;have:=Dr g5 (Ej g1);rw[e]at this;exact this (ZR rfl)
   have h1:=keep L p R g3 hR g4;have h2:=keepLk L p R u g3 h1 (Ej g1) g5;have h3:=Sq h1;rw[ht0,g3,La]at h3;have h4:=List.append_cancel_left h3;obtain⟨r,h5,h6⟩:=wQ h4.symm;have hsh:ShS s r:=by
    obtain⟨t1,us1,hp1⟩:=pc_P g1;refine zIi g1 hp ?_ h6;have hpre:([47,42]:Str).isPrefixOf (u++s)=false\/cmtS (R++s)=[]:=by
     rcases h2 with h2|⟨d,y,hd,h2,_⟩
     ·left;rw[<-h2];exact Dw _
     ·grind
    rcases hpre with hpre|hpre
    ·rw[hp1]at h5 ⊢;exact(pO h2 hpre).1 h5
    ·rw[hp1]at h5;obtain⟨c,q,e,_⟩:=h5
     grind
   have hrun:run (b++s) ts r:=by rw[g3];exact gF h1 h5
   have hlk:Lk r s:=by
    rcases hsh with rfl|⟨d,y,hd,e1,e2⟩
    ·exact .inl (YD hp)
    ·right;exact⟨d,y,hd,e1,by rw[e2];exact ZR rfl⟩
   have hrl:1<=r.length:=by
    rcases hsh with rfl|⟨d,y,_,_,e2⟩
    ·grind
    ·rw[e2];simp
   refine⟨ht0,?_, .inr ⟨ts,b,s,P,r,hp,rfl,rfl,hrun,hlk⟩⟩;intro k hk;rw[Ja,Md]at hk;by_cases hk2:k<st.length
   ·rw[List.getElem_append_left hk2];obtain⟨A0,R0,us,f1,f2,f3,f4,f5,f6,f7,f8⟩:=hbd k hk2;have:=F7 (P:=P) (x:=s) ⟨A0,R0,us,f1,f2,f3,f4,f5,f6,f7,f8⟩ hsne (fun R hR h5 _=>⟨keep _ us R f3 hR h5,fun A hA h6 _=>keepLk _ us R A f3 (keep _ us R f3 hR h5) hA h6⟩)
    grind
   ·have hke:k=st.length:=by omega
    subst hke;rw[List.getElem_append_right (by omega)];simp only[Nat.sub_self,List.getElem_cons_zero];refine⟨s,r,P,rfl,hsne,rfl,hPne,hrun,hlk,?_⟩;have:=xe.2 hsne
    grind
def pcN:List zg->Nat
 |[]=>0
 |t::r=>if t.kind==9&&t.text==[92]then 2 else if oh t then(if gm r then 3 else 2)else 1
def catT:List zg->Str
 |[]=>[]
 |t::r=>txS t++catT r
def pcS:List zg->Str
 |[]=>[]
 |t::r=>if t.kind==9&&t.text==[92]then [92,10]else catT (t::r)
theorem X9{t:zg}(h:Uh t=true)(a:(t.kind==13)=true):t=tkSp:=by
 rw[Bb]at a;cases Ev h with
 |cId|cFn|cAt|cHash|cStr|cUrl|cDel|cNum|cPct|cDim=>simp at a
 |cMark k c b=>grind
theorem R7{t:zg}(h:Uh t=true)(a:(t.kind==5)=true): ∃m,Zy m=true/\t=⟨5,m,0,[],false⟩:=by
 rw[Bb]at a;cases Ev h with
 |cStr l b=>grind
 |cId|cFn|cAt|cHash|cUrl|cDel|cNum|cPct|cDim=>simp at a
 |cMark k d c=>grind
theorem zJv{t:zg}(h:Uh t=true)(a:(t.kind==9&&t.text==[92])=true):t=⟨9,[92],0,[],false⟩:=by
 rw[Ca,Bb,Bb]at a;cases Ev h with
 |cDel c h=>grind
 |cId|cFn|cAt|cHash|cStr|cUrl|cNum|cPct|cDim=>simp at a
 |cMark k d b=>grind
theorem zD2{t:zg}(h:Uh t=true)(a:oh t=true): ∃l,Zy l=true/\lowS l=[117,114,108]/\t=⟨2,l,0,[],false⟩:=by
 unfold oh at a;rw[Ca,Bb,Bb]at a;cases Ev h with
 |cFn l d c=>grind
 |cId|cAt|cHash|cStr|cUrl|cDel|cNum|cPct|cDim=>simp at a
 |cMark k b e=>grind
theorem zKW{t:zg}(h:(t.kind==9&&t.text==[92])=false): ¬(t.kind=9/\t.text=[92]):=by
 grind
theorem rz(t:zg)(r:List zg):pcN (t::r)=if t.kind==9&&t.text==[92]then 2 else if oh t then(if gm r then 3 else 2)else 1:=rfl
theorem tT(t:zg)(r:List zg):okAt (t::r)=((!(t.kind==9&&t.text==[92])||gm r)&&(!(oh t)||YC r)):=rfl
theorem LG(s:zg)(r:List zg):YC (s::r)=(bif s.kind==13 then(match r with|u::_=>u.kind==5|[]=>false)else s.kind==5):=rfl
theorem zKX{t:zg}{r:List zg}(e: ∀u∈t::r,Uh u=true)(d:okAt (t::r)=true): ∃P Q,t::r=P++Q/\P.length=pcN (t::r)/\PcT (pcS P) P:=by
 have c:=e t (Fb ..);rw[tT,Ca]at d;rw[rz];cases h:t.kind==9&&t.text==[92]with
 |true=>
  rw[h,Va,Jc]at d;rw[Ka rfl];cases r with
  |nil=>cases d.1
  |cons s r=> have g:=X9 (e s (by simp)) d.1;have p:=zJv c h;subst g p;exact⟨[⟨9,[92],0,[],false⟩,tkSp],r,rfl,rfl, .back⟩
 |false=>
  rw[Ia (by decide)];cases j:oh t with
  |false=>
   rw[Ia (by decide)];have f:pcS [t]=txS t:=by show(if(t.kind==9&&t.text==[92])=true then [92,10]else txS t++[])=_;rw[h,Ia (by decide),Xa]
   exact⟨[t],r,rfl,rfl,by rw[f];exact .one t (Ev c) (zKW h) j⟩
  |true=>
   rw[Ka rfl];rw[j,Va,Jc]at d;obtain⟨l,n,o,rfl⟩:=zD2 c j;have a:=d.2;have b: ∀m:Str,txS ⟨5,m,0,[],false⟩++[]=34::(encB quoB m++[34]):=fun m=>by rw[Vp,Xa]
   cases r with
   |nil=>cases a
   |cons s r=>
    cases g:s.kind==13 with
    |false=>
     rw[LG,g,Ba]at a;obtain⟨m,i,rfl⟩:=R7 (e s (by simp)) a;rw[show gm (⟨5,m,0,[],false⟩::r)=false from rfl,Ia (by decide)];refine⟨[⟨2,l,0,[],false⟩,⟨5,m,0,[],false⟩],r,rfl,rfl,?_⟩;have f:pcS [⟨2,l,0,[],false⟩,⟨5,m,0,[],false⟩]=ZB l++40::((if false then [32]else [])++34::(encB quoB m++[34])):=by show txS ⟨2,l,0,[],false⟩++(txS ⟨5,m,0,[],false⟩++[])=_;rw[b,Rm,La];rfl
     rw[f];exact .url l m false n o i
    |true=>
     have k:=X9 (e s (by simp)) g;subst k;cases r with
     |nil=>cases a
     |cons u r=>
      obtain⟨m,i,rfl⟩:=R7 (e u (by simp)) a;rw[show gm (tkSp::⟨5,m,0,[],false⟩::r)=true from rfl,Ka rfl];refine⟨[⟨2,l,0,[],false⟩,tkSp,⟨5,m,0,[],false⟩],r,rfl,rfl,?_⟩;have f:pcS [⟨2,l,0,[],false⟩,tkSp,⟨5,m,0,[],false⟩]=ZB l++40::((if true then [32]else [])++34::(encB quoB m++[34])):=by show txS ⟨2,l,0,[],false⟩++(txS tkSp++(txS ⟨5,m,0,[],false⟩++[]))=_;rw[b,Rm,show txS tkSp=[32]from rfl,La];rfl
      rw[f];exact .url l m true n o i
theorem zB0{t:zg}{r:List zg}(h:t.text.length<=big)(a:okAt (t::r)=true):QF (t::r)=some ((pcN (t::r):Nat):Int):=by
 have m:geti (t::r) 0=some t:=rfl;have k:=Hw (t::r) 1 13;have e:=Hw (t::r) 1 5;have b:=Hw (t::r) 2 5;unfold QF;simp only[m,ze,Aa,Mx h (show([117,114,108]:Str).length<=big by decide),xD,Zr];simp only[Int.natCast_one]at k e;replace b:ZK ((2,5),t::r)=_:=b;have g:ZK ((1,13),t::r)=some (gm r):=by rw[k];cases r<;>rfl
 rw[g];rw[tT]at a;unfold oh at a;rw[rz];unfold oh;cases j:(t.kind==9&&t.text==[92])with
 |true=>
  grind
 |false=>
  have n:(bif t.kind==9 then t.text==[92]else false)=false:=by
   cases o:t.kind==9
   ·rfl
   ·grind
  simp only[n,j,Ba,Ta,Td,Cb];rw[j,Ta,Td,Cb]at a;cases f:(t.kind==2&&lowS t.text==[117,114,108])with
  |false=>
   grind
  |true=>
   rw[f,Va,Jc]at a;rw[Ca]at f;rw[f.1,f.2];simp only[Da,Aa];cases r with
   |nil=>cases a
   |cons s r=>
    cases d:s.kind==13 with
    |false=>
     have i:gm (s::r)=false:=d;have l:ZK ((1,5),t::s::r)=some (s.kind==5):=e;have c:(s.kind==5)=true:=by rw[LG,d]at a;exact a
     simp only[i,Ba,zq,l,Aa,c,Va];rfl
    |true=>
     have i:gm (s::r)=true:=d;simp only[i,Da,zq,b,Aa];cases r with
     |nil=>rw[LG,d]at a;cases a
     |cons u r=>
      have c:(u.kind==5)=true:=by rw[LG,d]at a;exact a
      show(bif !(u.kind==5)then some 0 else some (w64 (2+1)))=some 3;rw[c];rfl
def clB(l:Str):Bool:=l.all fun c=> !(c==0||c==12||c==13)
theorem qw(a b:Str):clB (a++b)=(clB a&&clB b):=by unfold clB;grind
theorem sJ: ∀l:Str,clB l=true->Proofs.Cl.cleanS l=l
 |[],_=>by rw[Proofs.Cl.cleanS]
 |c::r,h=>by
  unfold clB at h;rw[Od,Ca]at h;have e:=sJ r h.2;have d:(c==0||c==12||c==13)=false:=by simpa using h.1
  rw[ic,ic]at d;obtain⟨⟨f,a⟩,b⟩:=d;rw[Proofs.Cl.cleanS,f,a,b,e]
  ·rfl
  grind
theorem Jq(c:UInt8):clB (escC c)=true/\(letB c=true->clB [c]=true)/\(c≠0->quoB c=false->clB [c]=true)/\(c≠0->urB c=false->clB [c]=true)/\(Tk c.toNat=true->clB [c]=true)/\(digB c=true->clB [c]=true):=by
 have: ∀n:Nat,n<256->clB (escC (UInt8.ofNat n))=true/\(letB (UInt8.ofNat n)=true->clB [UInt8.ofNat n]=true)/\(UInt8.ofNat n≠0->quoB (UInt8.ofNat n)=false->clB [UInt8.ofNat n]=true)/\(UInt8.ofNat n≠0->urB (UInt8.ofNat n)=false->clB [UInt8.ofNat n]=true)/\(Tk (UInt8.ofNat n).toNat=true->clB [UInt8.ofNat n]=true)/\(digB (UInt8.ofNat n)=true->clB [UInt8.ofNat n]=true):=by decide+kernel
 have:=this c.toNat (Sb c);simp_all
theorem Dm(dash:Bool): ∀(k:Nat) (l:Str),clB (encW dash k l)=true
 |_,[]=>by rw[encW];rfl
 |k,c::r=>by
  obtain⟨b,a,_⟩:=Jq c;rw[encW,qw,Dm dash (k - 1) r,ib];unfold pcW
  grind
theorem VE{p:UInt8->Bool}(a: ∀c,c≠0->p c=false->clB [c]=true): ∀l:Str,Zy l=true->clB (encB p l)=true
 |[],_=>by rw[encB];rfl
 |c::r,h=>by
  obtain⟨e,d⟩:=Mm h;rw[encB,qw,VE a r d,ib];cases b:p c with
  |true=>exact(Jq c).1
  |false=>exact a c e b
theorem Y6{l:Str}(h:l.all digB=true):clB l=true:=by
 induction l with
 |nil=>rfl
 |cons c r a=> rw[Od,Ca]at h;rw[show c::r=[c]++r from rfl,qw,(Jq c).2.2.2.2.2 h.1,a h.2];rfl
theorem cl_T(n:Int)(p:Bool):clB (numT n p)=true:=by
 obtain⟨a,_,_⟩:=Aw (n.natAbs / 1000);have c:=kJ (n:=n) (p:=p);rw[Dz,qw,qw,Y6 a];have b:clB (sgT n)=true:=by unfold sgT;split<;>rfl
 rw[b];cases (partT (n.natAbs%1000) p).isEmpty with
 |true=>rfl
 |false=> show clB (46::partT (n.natAbs%1000) p)=true;rw[show 46::partT (n.natAbs%1000) p=[46]++partT (n.natAbs%1000) p from rfl,qw,Y6 c];rfl
theorem zG3(w:Str):clB (jg w)=true:=by
 cases w with
 |nil=>rfl
 |cons c r=>
  rw[Fx];cases Bl (c::r)with
  |true=>rw[Da,qw,(Jq c).1,Dm];rfl
  |false=>exact Dm _ _ _
theorem PO{s:Str}{P:List zg}(h:PcT s P):clB s=true:=by
 cases h with
 |one t h hb hu=>
  cases h with
  |cId l h0 h=>rw[Vo];exact Dm _ _ _
  |cFn l h0 h=>rw[Rm,qw];rw[show clB (ZB l)=true from Dm _ _ _];rfl
  |cAt l h0 h=>rw[Ar,show 64::ZB l=[64]++ZB l from rfl,qw,show clB (ZB l)=true from Dm _ _ _];rfl
  |cHash l f h0 h hbb=>
   rw[Gs,show 35::yh f l=[35]++yh f l from rfl,qw];have:clB (yh f l)=true:=by cases f<;>exact Dm _ _ _
   rw[this];rfl
  |cStr l h=>rw[Vp,show 34::(encB quoB l++[34])=[34]++(encB quoB l++[34])from rfl,qw,qw,VE (fun c h0 hc=>(Jq c).2.2.1 h0 hc) l h];rfl
  |cUrl l h=>rw[Xr,qw,qw,VE (fun c h0 hc=>(Jq c).2.2.2.1 h0 hc) l h];rfl
  |cDel c h=>rw[Mr];exact(Jq c).2.2.2.2.1 h
  |cNum n f h1 h2 hf=>rw[Lr];exact cl_T _ _
  |cPct n h1 h2=>rw[Yr,qw,cl_T];rfl
  |cDim n u f h1 h2 hf h0 h=>rw[Wp,qw,cl_T,zG3];rfl
  |cMark k h1 h2=> rw[Fs h1 h2];rcases kv h1 h2 with rfl|rfl|rfl|rfl|rfl|rfl|rfl|rfl|rfl|rfl|rfl|rfl<;>rfl
 |back=>rfl
 |url l m b h hl hm=> rw[qw,show clB (ZB l)=true from Dm _ _ _,show∀z:Str,40::z=[40]++z from fun _=>rfl,qw,qw,show∀z:Str,34::z=[34]++z from fun _=>rfl,qw,qw,VE (fun c h0 hc=>(Jq c).2.2.1 h0 hc) m hm];cases b<;>rfl
theorem V6{b:Str}{ts:List zg}{st:List (List zg×Str)}(h:Syn b ts st):clB b=true:=by
 induction h with
 |nil=>rfl
 |cmt b s ts P st h e c a=>rw[qw,qw,a,PO c];rfl
 |no b s ts P st h c d a=>rw[qw,a,PO c];rfl
def tokB(x y:zg):Bool:=x.kind==y.kind&&(x.text==y.text&&(x.num==y.num&&(x.unit==y.unit&&(x.flag==y.flag&&true))))
def Dh:List zg->List zg->Bool
 |[],[]=>true
 |x::l,y::m=>tokB x y&&Dh l m
 |_,_=>false
theorem zy5(x y:zg)(l m:List zg):Dh (x::l) (y::m)=(tokB x y&&Dh l m):=rfl
theorem zFr{x y:zg}:tokB x y=true↔x=y:=by
 obtain⟨a,b,c,d,e⟩:=x;obtain⟨j,f,g,i,h⟩:=y;unfold tokB
 grind
theorem Wq: ∀{l m:List zg},Dh l m=true↔l=m
 |[],[]=>by simp[Dh]
 |x::l,y::m=>by rw[Dh,Ca,zFr,Wq,List.cons.injEq]
 |[],y::m=>by simp[Dh]
 |x::l,[]=>by simp[Dh]
theorem nS{l m:List zg}(h:l.length≠m.length):Dh l m=false:=by
 cases a:Dh l m with
 |false=>rfl
 |true=>rw[Wq.1 a]at h;grind
theorem zCv {l m:List zg} (hl:l.length=m.length) (hn:l.length<=big) {step:Int->Option (LO Int Unit Bool)}
  (h1: ∀(i:Nat) (h:i<l.length),step (i:Int)=bif !(tokB l[i] (m[i]'(hl▸h)))then some (.ret false)else some (.again (w64 ((i:Int)+1))))
  (h2:step (l.length:Int)=some (.out ())):Zj step 0 (fun _=>some true)=some (Dh l m):=by
 have hb:big=4194304:=rfl;refine CG (fun s=> ∃i:Nat,i<=l.length/\s=(i:Int)/\Dh (l.drop i) (m.drop i)=Dh l m) (fun s=>l.length - s.toNat) _ ?_ ⟨0,by omega,rfl,rfl⟩;rintro _ ⟨i,hi,rfl,he⟩;rcases Xd i l.length with h|h
 ·rw[h1 i h];have hm:i<m.length:=hl▸h;rw[show l.drop i=l[i]::l.drop (i+1)from Lb h,show m.drop i=m[i]::m.drop (i+1)from Lb hm,zy5]at he;cases ht:tokB l[i] (m[i]'(hl▸h))with
  |true=> rw[ht,Cb]at he;rw[Va,Ba,Zq (by omega) (by omega)];exact .inl ⟨_,rfl,⟨i+1,by omega,by omega,he⟩,by omega⟩
  |false=>
   grind
 ·have:i=l.length:=by omega
  subst this;rw[je (Ua _),je (by omega)]at he;exact .inr (.inl ⟨(),h2,by rw[<-he];rfl⟩)
theorem N7{α:Type}{l:List α}{i:Nat}(h:i<l.length):geti l (i:Int)=some l[i]:=Zo h
theorem int_ne{n m:Nat}:(((n:Int) != (m:Int)):Bool)= !(n==m):=by
 grind
theorem zDY{l m:List zg}(d:l.length<=big):qU (l,m)=some (Dh l m):=by
 unfold qU;rw[int_ne];cases b:l.length==m.length with
 |false=>rw[Ta,Da,nS (Ha.1 b)]
 |true=>
  rw[Va,Ba];have a:=Bb.1 b;refine zCv a d (fun i h=> ?_) ?_
  ·have c:i<m.length:=a▸h;have e:decide ((i:Int)<(l.length:Int))=true:=Ga (by omega);simp only[e,Da,N7 h,N7 c,ze,Aa];rfl
  grind
def wrF:Nat->List zg->Str->List zg->Str
 |0,_,b,_=>b
 |_+1,_,b,[]=>b
 |n+1,a,b,t::r=>
  wrF n (a++(t::r).take (pcN (t::r))) ((if Dh (Zb (b++pcS ((t::r).take (pcN (t::r))))) (a++(t::r).take (pcN (t::r)))then b else b++cmtW)++pcS ((t::r).take (pcN (t::r)))) ((t::r).drop (pcN (t::r)))
def wrS(l:List zg):Str:=wrF l.length [] [] l
theorem l7: ∀(n:Nat) (ts:List zg) (b:Str) (r:List zg),b.length<=(wrF n ts b r).length
 |0,_,_,_=>Ua _
 |_+1,_,_,[]=>Ua _
 |n+1,ts,b,t::r=>by
  rw[wrF];refine Ob ?_ (l7 n _ _ _)
  grind
def Il(l:List zg):Prop:=(∀t∈l,Uh t=true/\t.text.length<=5000/\t.unit.length<=5000)/\ ∀k,k<l.length->okAt (l.drop k)=true
theorem vS{l:List zg}(h:Il l)(n:Nat):Il (l.drop n):=by refine⟨fun t b=>h.1 t (List.mem_of_mem_drop b),fun k a=> ?_⟩;rw[Dc]at a;rw[Ve];exact h.2 (n+k) (by omega)
theorem gI{t:zg}{r:List zg}:1<=pcN (t::r):=by rw[rz];grind
theorem zIh{t:zg}{r:List zg}:pcN (t::r)<=3:=by rw[rz];grind
theorem H8{t:zg}{r:List zg}(h:Il (t::r)):pcN (t::r)<=(t::r).length/\PcT (pcS ((t::r).take (pcN (t::r)))) ((t::r).take (pcN (t::r))):=by
 obtain⟨P,Q,d,c,b⟩:=zKX (fun u a=>(h.1 u a).1) (h.2 0 (by simp))
 grind
theorem zKC{t:zg}(e:Uh t=true)(g:t.text.length<=5000)(h2:t.unit.length<=5000):(txS t).length<=20100:=by
 have i: ∀l:Str,l.length<=5000->(ZB l).length<=20000:=fun l p=>by have:=Gt (l==[45]) (ng l) l;unfold ZB;omega
 cases Ev e with
 |cId l d h=>rw[Vo];grind
 |cFn l d h=>rw[Rm,Ja];grind
 |cAt l d h=>rw[Ar,Fa];grind
 |cHash l f d h j=>
  rw[Gs,Fa];have s:=i l g;have o:=Gt false 0 l;have m:l.length<=5000:=g;cases f with
  |true=>rw[show yh true l=ZB l from rfl];omega
  |false=>rw[show yh false l=encW false 0 l from rfl];omega
 |cStr l h=>rw[Vp];have:=JA quoB l;grind
 |cUrl l h=>rw[Xr];have:=JA urB l;grind
 |cDel c h=>rw[Mr];simp
 |cNum n f a b e=>rw[Lr];have:=(fH a b (!f)).1;omega
 |cPct n a b=>rw[Yr,Ja,Md];have:=(fH a b false).1;omega
 |cDim n u f a b e d h=>
  rw[Wp,Ja];have:=(fH a b (!f)).1;have m:u.length<=5000:=h2;have q:(jg u).length<=20004:=by
   cases u with
   |nil=>grind
   |cons c r=>
    rw[Fx];cases Bl (c::r)with
    |true=>
     rw[Da,Ja];have:=IA c;have:=Gt false 0 r
     grind
    |false=>grind
  omega
 |cMark k a b=>rw[Fs a b];have:=WT k;omega
theorem CJ: ∀{l:List zg},(∀t∈l,Uh t=true/\t.text.length<=5000/\t.unit.length<=5000)->(catT l).length<=20100*l.length
 |[],_=>Kc _
 |t::r,h=>by obtain⟨a,b,c⟩:=h t (Fb ..);have:=zKC a b c;have:=CJ (l:=r) (fun u d=>h u (ja _ d));rw[catT,Ja,Fa];omega
theorem eP: ∀(l m:List zg),catT (l++m)=catT l++catT m
 |[],m=>rfl
 |t::l,m=>by rw[Sa,catT,catT,eP l m,La]
theorem zDA {R:Type} {step:Int×List UInt8->Option (LO (Int×List UInt8) (List UInt8) R)} {l:List zg} (m:l.length<=3) (e: ∀t∈l,Uh t=true/\t.text.length<=5000/\t.unit.length<=5000)
  (f: ∀(i:Nat) (a:Str) (hi:i<l.length),step ((i:Int),a)=(Vx (l[i],a)).bind fun j=>some (LO.again (w64 ((i:Int)+1),j)))
  (h2: ∀a,step ((l.length:Int),a)=some (.out a)):Ph step (0,[])=some (.out (catT l)):=by
 refine qa (fun z=> ∃(i:Nat),i<=l.length/\z=((i:Int),catT (l.take i))) (fun z=>l.length - z.1.toNat) _ ?_ ⟨0,by omega,rfl⟩;rintro _ ⟨i,hi,rfl⟩;rcases Xd i l.length with h|h
 ·obtain⟨a,b,c⟩:=e l[i] (jb h);have g:=CJ (l:=l.take i) (fun t d=>e t (Ah d));rw[yc]at g;have k:min i l.length<=2:=by omega
  have d:=zFo (acc:=catT (l.take i)) a b c (by
   grind)
  rw[f i _ h,d,Aa];refine .inl ⟨_,rfl,⟨i+1,by omega,?_⟩,by simp only;rw[Zq (by omega) (by omega)];omega⟩;rw[Zq (by omega) (by omega),Xb h,eP];refine Prod.ext (by grind) ?_;show _=catT (l.take i)++(txS l[i]++[])
  grind
 grind
def stO(x:List zg×Str):zU:=⟨(x.1.length:Int),(x.2.length:Int)⟩
theorem zDf{b s A B:Str}{ts L us P:List zg}{m:Nat}(h:b=B++A/\A≠[]/\ts=L++us/\us≠[]/\ ∃R,run b L R/\Lk R A/\4<=R.length/\4<=A.length):Dh (Zb (A++s)) (us++P)=Dh (Zb (b++s)) (ts++P):=by
 obtain⟨o,k,i,n,R,j,a,l,e⟩:=h;have g:=Sq (D8 s j l);have f:Lk (R++s) (A++s):=by
  refine sO a k ?_;rcases a with a|⟨d,y,_,rfl,_⟩
  ·cases A with
   |nil=>grind
   |cons c t=>
    cases t with
    |cons d u=>rw[nQ,<-a];exact Dw R
    |nil=>simp at e
  ·rfl
 rw[J9 f]at g;rw[g,i,Kg,Wq,Wq,La,List.append_cancel_left_eq]
theorem NS{x:List zg}(h:gluS x=0):x.length<=1500/\(∀t∈x,Uh t=true)/\ ∀k,k<x.length->okAt (x.drop k)=true:=by
 unfold gluS at h;cases hl:decide (x.length<=1500)with
 |false=>grind
 |true=>
  rw[hl,Da]at h;cases ha:(List.range x.length).all (oC x)with
  |false=>grind
  |true=>
   rw[aa]at ha;have key: ∀k,k<x.length->Uh (x.getD k default)=true/\okAt (x.drop k)=true:=by intro k hk;have:=ha k (Ad.2 hk);unfold oC at this;rw[Ca]at this;exact this
   refine⟨Ac hl,fun t ht=> ?_,fun k hk=>(key k hk).2⟩;obtain⟨k,hk,rfl⟩:=List.mem_iff_getElem.1 ht
   grind
theorem zI7{t:zg}{r:List zg}:(bif t.kind==9 then((pcN (t::r):Nat):Int)==2 else false)=(t.kind==9&&t.text==[92]):=by
 cases a:t.kind==9 with
 |false=>rfl
 |true=>
  have b:oh t=false:=by unfold oh;rw[Bb.1 a];rfl
  rw[rz,a,Da,b]
  grind
theorem zE3{t:zg}{r:List zg}:pcS ((t::r).take (pcN (t::r)))=bif (t.kind==9&&t.text==[92])then [92,10]else catT ((t::r).take (pcN (t::r))):=by
 obtain⟨k,a⟩: ∃k,pcN (t::r)=k+1:=⟨pcN (t::r) - 1,by have:=gI (t:=t) (r:=r);omega⟩;rw[a,Fe,pcS]
 grind
theorem rP{n:Nat}{ts:List zg}{b:Str}{t:zg}{r:List zg}{s:Str}{P:List zg}(a:(t::r).take (pcN (t::r))=P)(c:pcS P=s):
  wrF (n+1) ts b (t::r)=wrF n (ts++P) ((if Dh (Zb (b++s)) (ts++P)then b else b++cmtW)++s) ((t::r).drop (pcN (t::r))):=by
 subst c a;rw[wrF]
theorem ap16{n:Nat}(h:n<=99999):zW n 1 16=true:=Vm (by omega) (by omega)
theorem H7{n m:Nat}(h:n+m<=200000):zW n m 1=true:=by
 unfold zW
 grind
theorem zHt{R:Type}{i:Int}{b:Str}{ts:List zg}{st:List (List zg×Str)}(h:zI0 b ts st)(g:st.length<=100000): ∃L B A us,
  (bif decide (w64 (((st.map stO).length:Int) - 4)>=0)then
        need (decide (0<=w64 (((st.map stO).length:Int) - 4))&&decide (w64 (((st.map stO).length:Int) - 4)<((st.map stO).length:Int)))<|
        ((st.map stO)[(w64 (((st.map stO).length:Int) - 4)).toNat]?).bind fun c=>
        some (LX.out (i,b,st.map stO,c))
       else
        some (LX.out (i,b,st.map stO,(⟨0,0⟩:zU))))=(some (LX.out (i,b,st.map stO,stO (L,B))):Option (LX (Int×List UInt8×List zU×zU) R))/\
  b=B++A/\ts=L++us/\ ∀s P,Dh (Zb (A++s)) (us++P)=Dh (Zb (b++s)) (ts++P):=by
 rw[Ib];by_cases l:4<=st.length
 ·obtain⟨A,R,us,d,k,e,a,j,f,o,n⟩:=h.bd (st.length - 4) (by omega);refine⟨st[st.length - 4].1,st[st.length - 4].2,A,us,?_,d,e,fun s P=>zDf (m:=0) ⟨d,k,e,a,R,j,f,by omega,by omega⟩⟩;rw[Zq (by omega) (by omega),Ga (by omega),Da,Ga (by omega),vg,zK,show((st.length:Int) - 4).toNat=st.length - 4 by omega,Oa,Ya (by omega)];rfl
 ·refine⟨[],[],b,ts,?_,rfl,rfl,fun s P=>rfl⟩;rw[Zq (by omega) (by omega),Db (by omega),Ba];rfl
theorem zDl{x:List zg}(hx: ∀t∈x,t.text.length<=5000/\t.unit.length<=5000):
  BB x=some (if gluS x=0 then(if 4000<(wrS x).length then([],28)else(wrS x,0))else([],gluS x)):=by
 unfold BB;have hbig:big=4194304:=rfl;rw[GX (fun t ht=>by grind)];simp only[ze,Aa];by_cases hg:gluS x=0
 ·rw[Ka hg,hg,show((0:Int) != 0)=false from rfl,Ba];obtain⟨hlen,hfine,hok⟩:=NS hg;have hrest:Il x:=⟨fun t ht=>⟨hfine t ht,hx t ht⟩,hok⟩;refine CG (fun z=> ∃(i:Nat) (b:Str) (st:List (List zg×Str)) (n:Nat),z=((i:Int),b,st.map stO)/\i<=x.length/\Syn b (x.take i) st/\b.length<=4000/\x.length - i<=n/\wrF n (x.take i) b (x.drop i)=wrS x/\st.length<=i) (fun z=>x.length - z.1.toNat) _ ?_
   ⟨0,[],[],x.length,rfl,Kc _, .nil,Kc _,Ua _,rfl,Ua _⟩
  rintro _ ⟨i,b,st,n,rfl,hi,hsyn,hbl,hn,hW,hst⟩;simp only;rcases Xd i x.length with h|h
  ·have hro:=vS hrest i;have hdr:x.drop i=x[i]::x.drop (i+1):=Lb h;obtain⟨t,ht⟩: ∃t,t=x[i]:=⟨_,rfl⟩;obtain⟨r,hr⟩: ∃r,r=x.drop (i+1):=⟨_,rfl⟩;rw[<-ht,<-hr]at hdr;rw[hdr]at hro hW;have hlr:(t::r).length=x.length - i:=by rw[<-hdr,Dc]
   obtain⟨hk1,hpc⟩:=H8 hro;have hk0:=gI (t:=t) (r:=r);have hk3:=zIh (t:=t) (r:=r);obtain⟨k,hk⟩: ∃k,pcN (t::r)=k:=⟨_,rfl⟩;obtain⟨P,hP⟩: ∃P,(t::r).take k=P:=⟨_,rfl⟩;obtain⟨s,hs⟩: ∃s,pcS P=s:=⟨_,rfl⟩;have hst':=zE3 (t:=t) (r:=r);have hstep:=fun m=>rP (n:=m) (ts:=x.take i) (b:=b) (t:=t) (r:=r) (s:=s) (P:=P) (by rw[hk];exact hP) hs;have e3:QF (List.drop i x)=some ((k:Nat):Int):=by rw[hdr,<-hk];exact zB0 (by grind) (hro.2 0 (by simp))
   have hb2:=zI7 (t:=t) (r:=r);rw[hk]at hk0 hk1 hk3 hpc hst' hb2 hstep;rw[hP]at hpc hst';rw[hs]at hpc hst';rw[hlr]at hk1;have e1:decide ((i:Int)<(x.length:Int))=true:=Ga (by omega);have e2:(decide ((0:Int)<=(i:Int))&&decide ((i:Int)<=(x.length:Int)))=true:=by rw[Ga (by omega),Ga (by omega)];rfl
   have e4:w64 ((i:Int)+((k:Nat):Int))=((i+k:Nat):Int):=by rw[Zq (by omega) (by omega)];omega
   have e5:(decide ((0:Int)<=(i:Int))&&(decide ((i:Int)<=((i+k:Nat):Int))&&decide (((i+k:Nat):Int)<=(x.length:Int))))=true:=by rw[Ga (by omega),Ga (by omega),Ga (by omega)];rfl
   have e6:geti x (i:Int)=some t:=by rw[Zo h,ht]
   have e7:List.drop i (List.take (i+k) x)=P:=by rw[Li,hdr,show i+k - i=k by omega,hP]
   simp only[e1,e2,e3,e4,e5,e6,Da,zK,Aa,Nb,e7];have hPl:P.length<=3:=by rw[<-hP,yc];omega
   have hPf: ∀u∈P,Uh u=true/\u.text.length<=5000/\u.unit.length<=5000:=fun u hu=>hro.1 u (by grind);have hsl:s.length<=60400:=by
    have:=CJ hPf;rw[hst'];cases t.kind==9&&t.text==[92]with
    |true=>grind
    |false=>grind
   rw[qK (zDA (l:=P) hPl hPf (fun j a hj=> ?_) (fun a=> ?_))]
   ·rw[hb2];have hj9:(bif (t.kind==9&&t.text==[92])then some (LX.out ((i:Int),b,st.map stO,[(92:UInt8),(10:UInt8)]))else some (LX.out ((i:Int),b,st.map stO,catT P)))=(some (LX.out ((i:Int),b,st.map stO,s)):Option (LX (Int×List UInt8×List zU×List UInt8) (LO (Int×List UInt8×List zU) (List UInt8) (Str×Int)))):=by rw[hst'];cases t.kind==9&&t.text==[92]<;>rfl
    rw[hj9,zq];simp only;have hsok:=TD hsyn;obtain⟨L,B,A,us,hfrom,hbA,hts,hwin⟩:=zHt (R:=LO (Int×List UInt8×List zU) (List UInt8) (Str×Int)) (i:=(i:Int)) hsok (by omega);rw[hfrom,zq];have hBl:B.length<=b.length:=by rw[hbA,Ja];omega
    have hAl:A.length<=b.length:=by rw[hbA,Ja];omega
    have f1:(decide ((0:Int)<=(stO (L,B)).at_)&&decide ((stO (L,B)).at_<=(b.length:Int)))=true:=by show(decide ((0:Int)<=(B.length:Int))&&decide ((B.length:Int)<=(b.length:Int)))=true;rw[Ga (by omega),Ga (by omega)];rfl
    have f2:(stO (L,B)).at_.toNat=B.length:=Nb _;have f3:decide (B.length+(b.length - B.length)<=b.length)=true:=Ga (by omega);have f4:List.take (b.length - B.length) (List.drop B.length b)=A:=by rw[hbA,List.drop_left,Ja,show B.length+A.length - B.length=A.length by omega,Yc]
    have f5:Ig A.length s.length=true:=Co.2 (by omega);simp only[f1,f2,f3,f4,f5,zK,KL,Aa,e4,Nb];have htl:(stO (L,B)).token=(L.length:Int):=rfl;have hLl:L.length<=i:=by have:=congrArg List.length hts;rw[yc,Ja]at this;omega
    have htk:List.drop L.length (List.take (i+k) x)=us++P:=by
     have:List.take (i+k) x=L++(us++P):=by rw[List.take_add,hdr,hP,hts,La]
     rw[this,List.drop_left]
    have hPlen:P.length=k:=by rw[<-hP,yc];omega
    have husP:(us++P).length<=1500:=by have h1:=congrArg List.length hts;rw[yc,Ja]at h1;rw[Ja,hPlen];omega
    have hcl:clB (A++s)=true:=by have h1:=V6 hsyn;rw[hbA,qw,Ca]at h1;rw[qw,h1.2,PO hpc];rfl
    obtain⟨c,hc⟩: ∃c,c=Dh (Zb (b++s)) (x.take i++P):=⟨_,rfl⟩;have hwinc:Dh (Zb (A++s)) (us++P)=c:=by rw[hc];exact hwin s P
    obtain⟨c',hc'⟩: ∃c',c'=(decide ((A++s).length<=4000)&&c):=⟨_,rfl⟩;have hneed:(decide ((0:Int)<=(stO (L,B)).token)&&(decide ((stO (L,B)).token<=((i+k:Nat):Int))&&decide (((i+k:Nat):Int)<=(x.length:Int))))=true:=by rw[htl,Ga (by omega),Ga (by omega),Ga (by omega)];rfl
    have hcat: ∀(E:Option (LX (Int×List zU×List UInt8) (LO (Int×List UInt8×List zU) (List UInt8) (Str×Int)))),
      E=(need (decide ((0:Int)<=(stO (L,B)).token)&&(decide ((stO (L,B)).token<=((i+k:Nat):Int))&&decide (((i+k:Nat):Int)<=(x.length:Int)))|| !(!((QZ (A++s)).2 != 0)))<|
       (zA (!((QZ (A++s)).2 != 0)) (qU ((QZ (A++s)).1,List.drop (stO (L,B)).token.toNat (List.take (i+k) x))) (default:Bool)).bind fun y13=>
       bif bif (QZ (A++s)).2 != 0 then true else !y13 then
        need (zW b.length ([47,42,42,47]:Str).length 1)<|
        some (LX.out ((i:Int),st.map stO,b++([47,42,42,47]:Str)))
       else
        some (LX.out ((i:Int),st.map stO,b)))->E=some (LX.out ((i:Int),st.map stO,if c' then b else b++cmtW)):=by
     rintro E rfl;rw[hneed,Td,zK,show(stO (L,B)).token.toNat=L.length from Nb _,htk];have happ:zW b.length ([47,42,42,47]:Str).length 1=true:=H7 (by grind);unfold QZ;by_cases hlong:4000<(A++s).length
     ·rw[Ka hlong];have:c'=false:=by rw[hc',Db (by omega)];rfl
      rw[this];simp only[show((28:Int) != 0)=true from rfl,Va,Zw,Aa,Da,happ,zK];rfl
     ·rw[Ia hlong,sJ _ hcl];have hcc:c'=c:=by rw[hc',Ga (by omega)];rfl
      by_cases hmany:1500<(Zb (A++s)).length
      ·rw[Ka hmany];have:c'=false:=by rw[hcc,<-hwinc];exact nS (by omega)
       rw[this];simp only[show((4:Int) != 0)=true from rfl,Va,Zw,Aa,Da,happ,zK];rfl
      ·rw[Ia hmany];simp only[show((0:Int) != 0)=false from rfl,Ta,zB,Ba,zDY (show(Zb (A++s)).length<=big by omega),hwinc,Aa,happ,zK]
       grind
    rw[hcat _ rfl,zq];simp only;obtain⟨m,hm⟩: ∃m,n=m+1:=⟨n - 1,by omega⟩;subst hm;rw[hstep m,<-hc]at hW;have hWl:=l7 m (x.take i++P) ((if c then b else b++cmtW)++s) ((t::r).drop k);rw[hW]at hWl;have hcw:cmtW.length=4:=rfl;have hb1:(if c' then b else b++cmtW).length<=4004:=by
     split
     ·omega
     ·grind
    rw[zF (ap16 (by grind)),zF (H7 (by omega))];have hbs:b.length+s.length<=(wrS x).length:=by
     refine Ob ?_ hWl;rw[Ja];split
     ·omega
     ·grind
    by_cases hbig2:4000<((if c' then b else b++cmtW)++s).length
    ·grind
    ·rw[Db (by omega),Ba];have hcc:c'=c:=by
      have:(A++s).length<=4000:=by
       rw[Ja]at hbig2 ⊢;have:b.length<=(if c' then b else b++cmtW).length:=by
        split
        ·grind
        ·grind
       omega
      rw[hc',Ga this];rfl
     rw[hcc]at hbig2 ⊢;have hxt:x.take (i+k)=x.take i++P:=by rw[List.take_add,hdr,hP]
     refine .inl ⟨_,rfl,⟨i+k,(if c then b else b++cmtW)++s,st++[(x.take i,if c then b else b++cmtW)],m,?_,by omega,?_,by omega,by omega,?_,?_⟩,?_⟩
     ·refine Prod.ext e4 (Prod.ext rfl ?_);rw[We];show st.map stO++[_]=st.map stO++[stO (x.take i,if c then b else b++cmtW)];unfold stO
      grind
     ·rw[hxt];cases hcb:c with
      |true=> rw[Ka rfl];exact .no b s _ P st hsyn hpc (Wq.1 (by rw[<-hc,hcb]))
      |false=> rw[Ia (by decide)];refine .cmt b s _ P st hsyn ?_ hpc;rintro rfl;have h0:=hsok.tok;rw[Q6 (ZR rfl)]at h0;rw[<-h0,Pb,Pb,OE hpc]at hc;rw[hcb,Wq.2 rfl]at hc;cases hc
     ·rw[hxt,<-hW,<-Ve,hdr]
     ·rw[Ja,Md];omega
     ·simp only;rw[e4];omega
   ·have d1:decide ((j:Int)<(P.length:Int))=true:=Ga (by omega);simp only[d1,Da,Zo hj,Aa]
   ·simp only;rw[Db (by omega),Ba]
  ·have:i=x.length:=by omega
   subst this;have e1:decide ((x.length:Int)<(x.length:Int))=false:=Db (by omega);simp only[e1,Ba];refine .inr (.inl ⟨_,rfl,?_⟩);rw[je (Ua _)]at hW;have hWb:b=wrS x:=by
    cases n with
    |zero=>rw[wrF]at hW;exact hW
    |succ n=>rw[wrF]at hW;exact hW
   rw[<-hWb,Ia (by omega)]
 grind
theorem FD: ∀(n:Nat) {ts r:List zg} {b:Str} {st:List (List zg×Str)},Il r->Syn b ts st->r.length<=n-> ∃st',Syn (wrF n ts b r) (ts++r) st'
 |0,ts,r,b,st,_,hs,hn=>by have:r=[]:=Xf.1 (by omega);subst this;rw[wrF,Xa];exact⟨st,hs⟩
 |n+1,ts,[],b,st,_,hs,_=>by rw[wrF,Xa];exact⟨st,hs⟩
 |n+1,ts,t::r,b,st,hr,hs,hn=>by
  obtain⟨hk,hpc⟩:=H8 hr;have hk0:=gI (t:=t) (r:=r);rw[rP rfl rfl];have hd:(t::r)=(t::r).take (pcN (t::r))++(t::r).drop (pcN (t::r)):=(List.take_append_drop _ _).symm;have hl:((t::r).drop (pcN (t::r))).length<=n:=by rw[Dc];omega
  have hro:=vS hr (pcN (t::r));generalize (t::r).take (pcN (t::r))=P at*;generalize (t::r).drop (pcN (t::r))=Q at*;cases hc:Dh (Zb (b++pcS P)) (ts++P)with
  |true=> rw[Ka rfl];obtain⟨st',h'⟩:=FD n hro (.no b (pcS P) ts P st hs hpc (Wq.1 hc)) hl;exact⟨st',by rw[hd,<-La];exact h'⟩
  |false=>
   rw[Ia (by decide)];have hb:b≠[]:=by rintro rfl;have h0:=(TD hs).tok;rw[Q6 (ZR rfl)]at h0;rw[<-h0,Pb,Pb,OE hpc,Wq.2 rfl]at hc;cases hc
   obtain⟨st',h'⟩:=FD n hro (.cmt b (pcS P) ts P st hs hb hpc) hl;exact⟨st',by rw[hd,<-La];exact h'⟩
theorem IL{x:List zg}(h:Il x):Zb (wrS x)=x/\clB (wrS x)=true:=by obtain⟨st,hs⟩:=FD x.length h .nil (Ua _);rw[Pb]at hs;exact⟨(TD hs).tok,V6 hs⟩
theorem zyJ {S X R:Type} {step:S->Option (LO S X R)} {k:X->Option R} (Inv:S->Prop) (μ:S->Nat) (Q:R->Prop)
  (h: ∀s,Inv s->(∃s',step s=some (.again s')/\Inv s'/\μ s'<μ s)\/(∃x y,step s=some (.out x)/\k x=some y/\Q y)\/(∃y,step s=some (.ret y)/\Q y)) {s:S} (hs:Inv s): ∃y,Zj step s k=some y/\Q y:=by
 have key: ∀(m:Nat) (s:S),μ s<m->Inv s-> ∃(r:LX X R) (y:R),ZT step m s=some r/\r.go k=some y/\Q y:=by
  intro m
  induction m with
  |zero=>intro s h;omega
  |succ m ih=>
   intro s hm hs;simp only[ZT];rcases h s hs with⟨s',h1,h2,h3⟩|⟨x,y,h1,h2,h3⟩|⟨y,h1,h2⟩
   ·rw[h1];exact ih s' (by omega) h2
   ·rw[h1];exact⟨_,y,rfl,h2,h3⟩
   ·rw[h1];exact⟨_,y,rfl,rfl,h2⟩
 obtain⟨r,y,h1,h2,h3⟩:=key (μ s+1) s (by omega) hs;exact⟨y,by rw[Qd (Q4 h1)];exact h2,h3⟩
def sfB(d:UInt8)(y:Str):Prop:=d=58\/d=59\/d=32\/d=41\/d=44\/d=33/\atS y 0≠45
structure Sf (d:UInt8) (y:Str):Prop where
 f:fstB d=false
 l:letB d=false
 g:digB d=false
 s:Ng d=false
 a:(d==45)=false
 b:(d==46)=false
 c:(d==92)=false
 n:(d==10)=false
 e:(d==40)=false
 p:(d==37)=false
 m:d≠42
 o:[33,45,45].isPrefixOf (d::y)=false
 x:(d==101||d==69)=false
 k:d≠60/\d≠62
theorem fZ{d:UInt8}{y:Str}(h:sfB d y):Sf d y:=by
 rcases h with rfl|rfl|rfl|rfl|rfl|⟨rfl,h⟩
 ·exact⟨rfl,rfl,rfl,rfl,rfl,rfl,rfl,rfl,rfl,rfl,by decide,rfl,rfl,by decide⟩
 ·exact⟨rfl,rfl,rfl,rfl,rfl,rfl,rfl,rfl,rfl,rfl,by decide,rfl,rfl,by decide⟩
 ·exact⟨rfl,rfl,rfl,rfl,rfl,rfl,rfl,rfl,rfl,rfl,by decide,rfl,rfl,by decide⟩
 ·exact⟨rfl,rfl,rfl,rfl,rfl,rfl,rfl,rfl,rfl,rfl,by decide,rfl,rfl,by decide⟩
 ·exact⟨rfl,rfl,rfl,rfl,rfl,rfl,rfl,rfl,rfl,rfl,by decide,rfl,rfl,by decide⟩
 ·refine⟨rfl,rfl,rfl,rfl,rfl,rfl,rfl,rfl,rfl,rfl,by decide,?_,rfl,by decide⟩;show((33:UInt8)==33&&[45,45].isPrefixOf y)=false;rw[V9 (by decide) (Ha.2 h),Ic]
theorem nu{d:UInt8}{y:Str}(h:Sf d y)(q:Str):escS (q++d::y)=escS q:=by
 match q with
 |[]=>show(d==92&&_)=false;rw[h.c];rfl
 |[c]=>show(c==92&& !(d==10))=(c==92&& !((0:UInt8)==10));rw[h.n];rfl
 |c::e::t=>rfl
theorem mo{d:UInt8}{y:Str}(h:Sf d y)(q:Str):nmS (q++d::y)=nmS q:=by
 have h0:escS (d::y)=false:=nu h []
 match q with
 |[]=> show(if d==45 then _ else fstB d||escS (d::y))=false;rw[h.a,Ia (by decide),h.f,h0];rfl
 |[c]=> unfold nmS;show(if c==45 then fstB d||d==45||escS (d::y)else fstB c||escS ([c]++d::y))=(if c==45 then fstB 0||(0:UInt8)==45||escS []else fstB c||escS [c]);rw[nu h [c],h0,h.f,h.a];rfl
 |c::e::t=> unfold nmS;show(if c==45 then fstB e||e==45||escS ((e::t)++d::y)else fstB c||escS ((c::e::t)++d::y))=(if c==45 then fstB e||e==45||escS (e::t)else fstB c||escS (c::e::t));rw[nu h,nu h]
theorem JP{d:UInt8}{y:Str}(h:Sf d y)(q:Str):digB (atS (q++d::y) 0)=digB (atS q 0):=by
 cases q with
 |nil=>show digB d=false;exact h.g
 |cons c t=>rfl
theorem iK{d:UInt8}{y:Str}(h:Sf d y)(q:Str):unsign (q++d::y)=unsign q++d::y:=by
 cases q with
 |nil=>show(if Ng d then _ else _)=_;rw[h.s];rfl
 |cons c t=>exact(Io (d::y) (by simp)).1
theorem zFy{d:UInt8}{y:Str}(h:Sf d y)(q:Str):undot (q++d::y)=undot q++d::y:=by
 cases q with
 |nil=>show(if d==46 then _ else _)=_;rw[h.b];rfl
 |cons c t=>exact jK (d::y) (by simp)
theorem zKT{d:UInt8}{y:Str}(h:Sf d y)(q:Str):nbS (q++d::y)=nbS q:=by unfold nbS;rw[iK h,zFy h,JP h]
theorem G5{d:UInt8}{y m:Str}(hm: ∀b∈m,b≠d): ∀q:Str,m.isPrefixOf (q++d::y)=m.isPrefixOf q:=by
 induction m with
 |nil=>intros;rw[List.isPrefixOf,List.isPrefixOf]
 |cons a m ih=>
  intro q;cases q with
  |nil=> have:(a==d)=false:=Ha.2 (hm a (Fb ..));show((a==d)&&m.isPrefixOf y)=false;rw[this];rfl
  |cons b t=>rw[Sa,List.isPrefixOf,List.isPrefixOf,ih (fun b hb=>hm b (ja _ hb))]
theorem zJj{d:UInt8}{y:Str}(h:Sf d y)(q:Str):[60,33,45,45].isPrefixOf (q++d::y)=[60,33,45,45].isPrefixOf q:=by
 have h45:(45:UInt8)≠d:=fun e=>by have:=h.a;rw[<-e]at this;cases this
 match q with
 |[]=> show((60:UInt8)==d&&_)=false;rw[Ha.2 (fun e=>h.k.1 e.symm)];rfl
 |[c]=> show((60:UInt8)==c&&[33,45,45].isPrefixOf (d::y))=((60:UInt8)==c&&false);rw[h.o]
 |c::e::t=> show((60:UInt8)==c&&((33:UInt8)==e&&[45,45].isPrefixOf (t++d::y)))=((60:UInt8)==c&&((33:UInt8)==e&&[45,45].isPrefixOf t));rw[G5 (m:=[45,45]) (fun b hb=>by simp only[Jb,Yd,Hg,or_self]at hb;rw[hb];exact h45)]
theorem M0{d:UInt8}{y:Str}(h:Sf d y)(c:UInt8)(r:Str):brS c (r++d::y)=brS c r:=by
 have e:c::(r++d::y)=(c::r)++d::y:=rfl;have h45:(45:UInt8)≠d:=fun e=>by have:=h.a;rw[<-e]at this;cases this
 have hl:letB (atS (r++d::y) 0)=letB (atS r 0):=by
  cases r with
  |nil=>show letB d=false;exact h.l
  |cons c t=>rfl
 unfold brS;rw[e,zKT h,G5 (m:=[45,45,62]) (fun b hb=>by
  simp only[Jb,Yd,Hg]at hb;rcases hb with rfl|rfl|rfl
  ·exact h45
  ·exact h45
  ·exact fun e=>h.k.2 e.symm),zJj h,mo h,mo h,hl,nu h]
theorem zHV{d:UInt8}{y:Str}(hs:Sf d y){c:UInt8}{r:Str}(h:(ZC (c::r)).2≠[]):ZC (c::(r++d::y))=((ZC (c::r)).1,(ZC (c::r)).2++d::y):=by
 refine vz (M0 hs c r) h (fun _=>mo hs r) (fun hb=> ?_);rw[qp,hb,nk]at h;obtain⟨a,b⟩:=rD (q:=c::r) (x:=d::y) (lL h) (fun _=>hs.g) (fun hn=>by
  generalize (Zf (Eg (c::r))).1=w at hn ⊢;rw[Ll]at hn ⊢;cases w with
  |nil=>show((d==101||d==69)&&_)=false;rw[hs.x];rfl
  |cons c t=>
   show((c==101||c==69)&&digB (atS (unsign (t++d::y)) 0))=false;rw[iK hs,JP hs];exact hn)
 exact⟨a,b,mo hs _⟩
theorem zJl{d:UInt8}{y:Str}(hs:Sf d y){q:Str}(h:cmtS q≠[]):cmtS (q++d::y)=cmtS q++d::y:=by
 refine Ew h ?_;have hp:=Dw q;cases hq:cmtS q with
 |nil=>exact absurd hq h
 |cons c t=>
  cases t with
  |nil=> show((47==c)&&((42==d)&&_))=false;rw[Ha.2 (fun e=>hs.m e.symm),Ub,Ic]
  |cons e u=>rw[nQ,<-hq];exact hp
theorem X4{d:UInt8}{y:Str}(hs:Sf d y): ∀{ts:List zg} {q R:Str},run q ts R->R≠[]->run (q++d::y) ts (R++d::y)
 |[],q,R,h,_=>by rw[run]at h;subst h;rfl
 |t::ts,q,R,h,hl=>by
  obtain⟨c,r,h1,h2,h3⟩:=h;have h4:(ZC (c::r)).2≠[]:=by intro e;have:=(jv h3).length_le;rw[e]at this;exact hl (Xf.1 (by simpa using this))
  have h5:=zHV hs h4;refine⟨c,r++d::y,by rw[zJl hs (by rw[h1];simp),h1];rfl,by rw[h5];exact h2,?_⟩;rw[h5];exact X4 hs h3 hl
theorem zJi{d:UInt8}{y:Str}(hs:Sf d y){t:zg}(h:zgM t)(hb: ¬(t.kind=9/\t.text=[92]))(hu:oh t=false)(h13:t.kind=13->spB d=false):ZC (txS t++d::y)=(t,d::y):=by
 have hn0:nmS (d::y)=false:=mo hs [];have ha:atS (d::y) 0=d:=rfl;have hnd0:zu (d::y)=([],d::y):=by rw[zZ,Ia (by rw[hs.l];decide),Ia (by rw[show escS (d::y)=false from nu hs []];decide)]
 have e1:past digB (d::y)=d::y:=by rw[past,hs.g];rfl
 have e2:Zf (d::y)=(d::y,true):=by unfold Zf;rw[ha,hs.b];rfl
 have e3:expS (d::y)=none:=by rw[Ll,ha,hs.x];rfl
 have hnx: ∀(c:UInt8) (r:Str),ZC (c::(r++d::y))=nxB (brS c r) c (r++d::y):=fun c r=>by rw[qp,M0 hs]
 cases h with
 |cId l h0 h=>
  have hn:=Wj h0;have hnd:=Lm (d::y) h;rw[hnd0,Xa]at hnd;obtain⟨c,r,e⟩:=Si (Kk hn);rw[Vo];have hr:=xS h;rw[e]at hn hr hnd ⊢;rw[Sa,hnx,bz hn (by rw[hr];intro t e;cases e),Jk];unfold Qi;rw[show c::(r++d::y)=(c::r)++d::y from rfl,hnd];simp only;rw[ha,hs.e,Ia (by decide)]
 |cFn l h0 h=>rw[Rm];exact UI h0 h (by unfold oh at hu;exact hu) _
 |cAt l h0 h=>
  have hnd:=Lm (d::y) h;rw[hnd0,Xa]at hnd;rw[Ar,Sa];have hb6:brS 64 (ZB l++d::y)=6:=by unfold brS;rw[mo hs,Wj h0];rfl
  rw[qp,hb6,cu,hnd]
 |cHash l f h0 h hbb=>
  obtain⟨g1,g2,g3⟩:=kT h0 h hbb;have hnd:=aL (f:=f) h (d::y);rw[hnd0,Xa]at hnd;rw[Gs,Sa];have hb2:brS 35 (yh f l)=2:=by unfold brS;rw[g1];rfl
  have hf:nmS (yh f l)=f:=by
   cases f with
   |true=>exact g2 rfl
   |false=>exact g3 rfl
  rw[hnx,hb2,ko,hnd,mo hs,hf]
 |cStr l h=>rw[Vp];exact eF h _
 |cUrl l h=>rw[Xr];exact NJ h _
 |cDel c h=>
  have h92:c≠92:=by rintro rfl;exact hb ⟨rfl,rfl⟩
  rw[Mr,Sa,hnx,P6 c h h92,bu,Pb]
 |cNum n f h1 h2 hf=> have he:=ou (n:=n) (p:= !f) e1 e2 e3;rw[jA hf]at he;rw[Lr,mr];unfold zS;rw[UC h1 h2 (by rw[he]),he];simp only;rw[hn0,Ia (by decide),ha,hs.p,Ia (by decide)]
 |cPct n h1 h2=>rw[Yr];exact jJ h1 h2 _
 |cDim n u f h1 h2 hf h0 h=>
  have hnm:=mD h0 h;obtain⟨r1,r2⟩:=iE hnm (d::y);have hx:expS (jg u++d::y)=none:=by
   rcases RJ h0 h (d::y)with q|⟨e,s,he,hss,_,hu'⟩
   ·exact q
   ·rw[hu',Ll];have:digB (atS (unsign (s++d::y)) 0)=false:=by rw[iK hs,JP hs];rcases hss with rfl|rfl<;>rfl
    show((e==101||e==69)&&digB (atS (unsign (s++d::y)) 0))=false;rw[this,Ic]
  have he:=ou (n:=n) (p:= !f) r1 r2 hx;rw[jA hf]at he;rw[Wp,IK,mr];unfold zS;rw[UC h1 h2 (by rw[he]),he];simp only;rw[mo hs,hnm,Ka rfl,SG h0 h,hnd0,Xa]
 |cMark k h1 h2=>
  rw[Fs h1 h2,BG h1 h2];by_cases hk:k=13
  ·rw[Ka hk,past,h13 hk];rfl
  ·rw[Ia hk]
theorem J3{d:UInt8}{y:Str}(hs:Sf d y){s:Str}{P:List zg}(h:PcT s P)(h13: ∀ts t,P=ts++[t]->t.kind=13->spB d=false):run (s++d::y) P (d::y):=by
 cases h with
 |one t h hb hu=> have hn:=zJi hs h hb hu (h13 [] t rfl);have hp:=Az (.one t h hb hu) (d::y) hs.m;obtain⟨c,r,e⟩:=Si (Ej (.one t h hb hu));rw[e]at hn hp ⊢;exact⟨c,r++d::y,ZR hp,by rw[show c::(r++d::y)=(c::r)++d::y from rfl,hn],by rw[show c::(r++d::y)=(c::r)++d::y from rfl,hn];rfl⟩
 |back=> refine⟨92,10::d::y,ZR rfl,by rw[Kz],?_⟩;rw[Kz];refine⟨10,d::y,ZR rfl,rfl,?_⟩;show past spB (d::y)=d::y;rw[past,h13 [_] tkSp rfl rfl];rfl
 |url l m b h hl hm=>exact uH h hl hm _
theorem zKy{d:UInt8}{y:Str}(hs:Sf d y){b:Str}{ts:List zg}{st:List (List zg×Str)}(h:Syn b ts st)(h13: ∀us t,ts=us++[t]->t.kind=13->spB d=false):run (b++d::y) ts (d::y):=by
 rcases(TD h).last with⟨_,rfl,rfl⟩|⟨L,B,u,p,R,g1,g2,g3,g4,g5⟩
 ·rfl
 ·have hR:R≠[]:=by intro e;have:=Dr g5 (Ej g1);rw[e]at this;exact this (ZR rfl)
  obtain⟨t1,us1,hp1⟩:=pc_P g1;have hpre:=Az g1 (d::y) hs.m;have h1:=J3 hs g1 (fun us t e=>h13 (L++us) t (by rw[g3,e,La]));rw[g3];refine gF (X4 hs g4 hR) ?_;rw[hp1]at h1 ⊢;exact(pO (sO g5 (Ej g1) hpre) hpre).2 h1
theorem zK6{d:UInt8}{y:Str}(hs:Sf d y){x:List zg}(hr:Il x)(h13: ∀us t,x=us++[t]->t.kind=13->spB d=false):Zb (wrS x++d::y)=x++Zb (d::y):=by obtain⟨st,h⟩:=FD x.length hr .nil (Ua _);rw[Pb]at h;exact Sq (zKy hs (show Syn (wrS x) x st from h) h13)
theorem UA{c:UInt8}{k:Int}(h1:14<=k)(h2:k<=24)(hc:Wo k=[c])(hp:c≠47)(y:Str):Zb (c::y)=⟨k,[],0,[],false⟩::Zb y:=by have h:=BG (k:=k) (by omega) h2 y;rw[hc,Ia (by omega)]at h;rw[Qy (ZR (xu (Ha.2 hp))),show c::y=[c]++y from rfl,h]
theorem Cm(y:Str):Zb (32::y)=tkSp::Zb (past spB y):=by rw[Qy (ZR rfl)];rfl
theorem zIS{x:List zg}(hr:Il x)(h: ∀t us,x=t::us->t.kind≠13)(y:Str)(hx:x≠[]):past spB (wrS x++y)=wrS x++y:=by
 have ht:=(IL hr).1;cases hw:wrS x with
 |nil=>rw[hw,Q6 (ZR rfl)]at ht;exact absurd ht.symm hx
 |cons c r=>
  cases hc:spB c with
  |false=>rw[Sa,past,hc];rfl
  |true=> exfalso;have hcm:cmtS (c::r)=c::r:=ZR (xu (Ha.2 (by rintro rfl;cases hc)));rw[hw,Qy hcm]at ht;refine h _ _ ht.symm ?_;rw[qp,show brS c r=0 by unfold brS;rw[hc];rfl,WH];rfl
def Yg:Nat->List zg->Int->Nat->Option (List zb×List zg)
 |0,_,_,_=>none
 |_+1,[],_,_=>some ([],[])
 |n+1,t::r,c,left=>
  if c≠0/\t.kind=c then some ([],r)
  else if zC t.kind=0 then(Yg n r c left).map fun v=>(⟨t,[]⟩::v.1,v.2)
  else match left with
   |0=>none
   |m+1=>(Yg n r (zC t.kind) m).bind fun w=>(Yg n w.2 c (m+1)).map fun v=>(⟨t,w.1⟩::v.1,v.2)
theorem KG(n:Nat)(t:zg)(r:List zg)(c:Int)(left:Nat):Yg (n+1) (t::r) c left=if c≠0/\t.kind=c then some ([],r)
  else if zC t.kind=0 then(Yg n r c left).map fun v=>(⟨t,[]⟩::v.1,v.2)
  else match left with
   |0=>none
   |m+1=>(Yg n r (zC t.kind) m).bind fun w=>(Yg n w.2 c (m+1)).map fun v=>(⟨t,w.1⟩::v.1,v.2):=rfl
theorem aA: ∀(n:Nat) (l:List zg) (c:Int) (left:Nat) (v:List zb×List zg),Yg n l c left=some v->v.2.length<=l.length/\(l≠[]->v.2.length<l.length)
 |0,_,_,_,_,h=>by cases h
 |n+1,[],c,left,v,h=>by
  rw[Yg]at h
  grind
 |n+1,t::r,c,left,v,h=>by
  rw[KG]at h;have e:v.2.length<=r.length:=by
   split at h
   ·grind
   split at h
   ·cases a:Yg n r c left with
    |none=>grind
    |some w=>rw[a]at h;cases h;exact(aA n r c left w a).1
   ·cases left with
    |zero=>cases h
    |succ m=>
     simp only at h;cases b:Yg n r (zC t.kind) m with
     |none=>grind
     |some w=>
      rw[b,Aa]at h;cases a:Yg n w.2 c (m+1)with
      |none=>grind
      |some d=>
       rw[a]at h;cases h;have f:=(aA n r _ m w b).1;have g:=(aA n w.2 c _ d a).1
       grind
  grind
def Jp(l:List zg)(s:PSt):Option (List zb):=(Fh l s).map fun s=>shutAll s.1 s.2
theorem XV(t:zg)(l:List zg)(s:PSt):Jp (t::l) s=(Xi s t).bind (Jp l):=by unfold Jp;rw[Fh];cases Xi s t<;>rfl
theorem oF: ∀(n:Nat) (l:List zg) (cur:List zb) (o:zg) (a:List zb) (st:List (zg×List zb)) (left:Nat),l.length<n->zC o.kind≠0->left+(st.length+1)=16->
  Jp l (cur,(o,a)::st)=(Yg n l (zC o.kind) left).bind fun v=>Jp v.2 (a++[⟨o,cur++v.1⟩],st)
 |0,_,_,_,_,_,_,h,_,_=>by omega
 |n+1,[],cur,o,a,st,left,_,_,_=>by rw[Yg,Aa];simp only[Jp,Fh,jc,shutAll,Xa]
 |n+1,t::r,cur,o,a,st,left,g,c,f=>by
  rw[Fa]at g;rw[KG,XV];unfold Xi;simp only[Pp];by_cases e:t.kind=zC o.kind
  ·rw[Ka (by grind),Ka ⟨c,e⟩,Aa,Aa];simp only[Hr,Xa]
  ·rw[Ia (by grind),Ia (show¬(zC o.kind≠0/\t.kind=zC o.kind)from fun h=>e h.2)];by_cases b:zC t.kind=0
   ·rw[Ia (show¬zC t.kind≠0 from fun h=>h b),Ka b,Aa,oF n r _ o a st left (by omega) c f];cases Yg n r (zC o.kind) left with
    |none=>rfl
    |some v=>grind
   ·rw[Ka b,Ia b];cases left with
    |zero=>grind
    |succ m=>
     rw[Ia (by grind),Aa];simp only;rw[oF n r [] t cur ((o,a)::st) m (by omega) b (by grind)];cases i:Yg n r (zC t.kind) m with
     |none=>rfl
     |some w=>
      have d:=(aA n r _ m w i).1;simp only[Aa];rw[oF n w.2 _ o a st (m+1) (by omega) c f];cases Yg n w.2 (zC o.kind) (m+1)with
      |none=>rfl
      |some v=>grind
theorem fK: ∀(n:Nat) (l:List zg) (cur:List zb),l.length<n->Jp l (cur,[])=(Yg n l 0 16).map fun v=>cur++v.1
 |0,_,_,h=>by omega
 |n+1,[],cur,_=>by rw[Yg];simp only[Jp,Fh,jc,shutAll,Xa]
 |n+1,t::r,cur,c=>by
  rw[Fa]at c;rw[KG,XV];unfold Xi;simp only[Pp];rw[Ia (by decide),Ia (show¬((0:Int)≠0/\t.kind=0)from fun h=>h.1 rfl)];by_cases a:zC t.kind=0
  ·rw[Ia (show¬zC t.kind≠0 from fun h=>h a),Ka a,Aa,fK n r _ (by omega)];cases Yg n r 0 16 with
   |none=>rfl
   |some v=>grind
  ·rw[Ka a,Ia a,Ia (by decide),Aa];rw[oF n r [] t cur [] 15 (by omega) a rfl];cases d:Yg n r (zC t.kind) 15 with
   |none=>rfl
   |some w=>
    have b:=(aA n r _ 15 w d).1;simp only[Aa];rw[fK n w.2 _ (by omega)];cases Yg n w.2 0 16 with
    |none=>rfl
    |some v=>grind
theorem Us: ∀(a b:List zb),tokL (a++b)=tokL a++tokL b
 |[],b=>by rw[tokL];rfl
 |v::a,b=>by rw[Sa,tokL,tokL,Us a b,La]
theorem zFs(v:zb):tokL [v]=tokV v:=by rw[tokL,tokL,Xa]
def sZ(l:List zg)(c:Int)(left:Nat):Option (List zb×List zg):=Yg (l.length+1) l c left
def wtT:List zg->Nat
 |[]=>0
 |t::r=>1+t.text.length+t.unit.length+wtT r
theorem VF: ∀(n:Nat) (l:List zg) (c:Int) (left:Nat) (v:List zb×List zg),Yg n l c left=some v->szL v.1+wtT v.2<=wtT l
 |0,_,_,_,_,h=>by cases h
 |n+1,[],c,left,v,h=>by
  rw[Yg]at h;cases h;rw[szL];exact Ua _
 |n+1,t::r,c,left,v,h=>by
  rw[KG]at h;rw[wtT];split at h
  ·cases h;rw[szL];simp only;omega
  split at h
  ·cases a:Yg n r c left with
   |none=>rw[a]at h;cases h
   |some w=> rw[a]at h;cases h;have:=VF n r c left w a;simp only[szL,szV];omega
  ·cases left with
   |zero=>cases h
   |succ m=>
    simp only at h;cases b:Yg n r (zC t.kind) m with
    |none=>rw[b]at h;cases h
    |some w=>
     rw[b,Aa]at h;cases a:Yg n w.2 c (m+1)with
     |none=>rw[a]at h;cases h
     |some d=> rw[a]at h;cases h;have e:=VF n w.2 c _ d a;have f:=VF n r _ m w b;simp only[szL,szV];omega
theorem zIe(l:List zg):(Fh l ([],[])).map (fun s=>shutAll s.1 s.2)=(sZ l 0 16).map Prod.fst:=fK _ l [] (Bf _)
theorem zJ7{l:List zg}{s:PSt}(h:Fh l ([],[])=some s):szL (shutAll s.1 s.2)<=wtT l:=by
 have a:=zIe l;rw[h,jc]at a;cases b:sZ l 0 16 with
 |none=>rw[b]at a;cases a
 |some v=> rw[b,jc]at a;injection a with a;have:=VF _ _ _ _ v b;rw[a];omega
theorem zIc(l:List zg):szL (parS l).1<=wtT l:=by
 unfold parS;split
 ·rw[szL];exact Kc _
 ·split
  ·rw[szL];exact Kc _
  ·rename_i s a;split
   ·rw[szL];exact Kc _
   ·exact zJ7 a
end Go.Lv.VT
