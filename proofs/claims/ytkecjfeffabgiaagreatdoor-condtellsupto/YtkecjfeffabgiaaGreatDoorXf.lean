/- What is written piece by piece is there: its tokens, and where each piece begins. -/
import Derived.Test.YtkecjfeffabgiaaGreatDoorXe
import Derived.Test.YtkecjfeffabgiaaGreatDoorXa
set_option linter.unusedSimpArgs false
set_option linter.unusedVariables false
namespace Go.Lv.VT
set_option maxRecDepth 100000
theorem zIf{q s:Str}{P us:List ze}(hs:PcT s P)(h:M0 q s us)(hus:us≠[]):False:=by
 obtain⟨c,r,_,⟨⟨e,fl,hee,hw⟩,h43,hk,hds⟩,hsame,hT⟩:=h;have hbr:=Mo c (r++s);rw[hsame,hk]at hbr;have hbr':brS c (r++s)=3:=hbr.symm;have hnx:ZV (c::(r++s))=zN ((c::r)++s):=by rw[Qq,hbr',yj];rfl
 have hq2:Ag (c::r)≠[]:=by intro e2;rw[e2]at hw;cases congrArg Prod.fst hw
 have e2:Ag ((c::r)++s)=Ag (c::r)++s:=by unfold Ag;rw[(yo s (by simp)).1];exact gm s hq2
 have hw2:=(NR (q:=Ag (c::r)) (x:=s) (by rw[hw];simp) (fun e3=>by
  rw[e3]at hw;have:=congrArg Prod.fst hw;cases this)).1
 have hexp:expS ([e,43]++s)=some (past digB s):=by
  unfold expS;have h1:(atS ([e,43]++s) 0==101||atS ([e,43]++s) 0==69)=true:=by rcases hee with rfl|rfl<;>rfl
  have h2:unsign (([e,43]++s).drop 1)=s:=rfl;rw[h1,Ka rfl,h2,hds,Ka rfl]
 have hend:zJ ((c::r)++s)=(past digB s,false):=by rw[Mj,e2,hw2,hw];simp only[hexp]
 have hk2:(zN ((c::r)++s)).1.kind=12:=by rw[<-hnx,hsame,hk]
 rw[hnx]at hT;unfold zN at hk2 hT;rw[hend]at hk2 hT;simp only at hk2 hT;have hun:unsign s=s:=by unfold unsign Lg;rw[Ia.2 (Nh hds).1,Ia.2 (Nh hds).2.1];rfl
 cases hn:nmS (past digB s)with
 |false=>
  grind
 |true=>
  rw[hn,Ka rfl]at hT;obtain⟨n2,p2,U,t2,_,rfl,_,hU⟩:=UH hs (by grind);obtain⟨u1,_,u3⟩:=jD hU;rw[<-hun]at hn hT;cases hp:(partT (n2.natAbs%1000) p2).isEmpty with
  |true=>
   rw[uH U hp,u1]at hn hT;rcases u3 with rfl|rfl|⟨_,hu⟩
   ·cases hn
   ·cases hn
   ·rw[hu,di (qQ rfl)]at hT;exact hus hT.symm
  |false=>rw[tH U hp,PZ]at hn;cases hn
theorem VZ{R A:Str}(h:Lk R A)(b:A≠[])(y:Str):Lk (R++47::42::y) (A++47::42::y):=by
 rcases h with h|⟨d,z,a,rfl,h⟩
 ·left;rw[PP y (by rw[h];exact b),h]
 ·right;exact⟨d,z++47::42::y,a,rfl,by rw[PP y (by rw[h];simp),h];rfl⟩
theorem zEc{s:Str}{P:List ze}(h:PcT s P):cmtS (47::42::42::47::s)=s:=by rw[Fj];exact rC h
theorem U7{s:Str}{P:List ze}(h:PcT s P):Qc s=P:=by have:=tu (R3 h (x:=[]) (.inl rfl));rw[Db,di (qQ rfl),Db]at this;exact this
theorem zAB{α:Type}{l a:List α}(h:l++a=l):a=[]:=by simp_all
theorem zJ7{b:Str}{ts:List ze}{st:List (List ze×Str)}(h:Syn b ts st):zIM b ts st:=by
 induction h with
 |nil=>exact⟨di (qQ rfl),fun k h=>(by cases h), .inl ⟨rfl,rfl,rfl⟩⟩
 |cmt b s ts P st h hb hp ih=>
  obtain⟨ht,hbd,hl⟩:=ih;have hx:b++cmtW++s=b++47::42::(42::47::s):=by rw[Na];rfl
  obtain⟨t0,us0,hP0⟩:=pc_P hp;have hrun:run (b++47::42::(42::47::s)) ts (47::42::(42::47::s)):=by
   rcases hl with⟨_,e,_⟩|⟨L,B,u,p,R,g1,g2,g3,g4,g5⟩
   ·exact absurd e hb
   ·have hR:R≠[]:=by intro e;have:=Ls g5 (Ik g1);rw[e]at this;exact this (qQ rfl)
    obtain⟨t1,us1,hp1⟩:=pc_P g1;rw[g3];refine JJ (PO (42::47::s) g4 hR) ?_;have h1:=R3 g1 (x:=47::42::(42::47::s)) (.inr ⟨_,rfl⟩);rw[hp1]at h1 ⊢;exact(M4 (VZ g5 (Ik g1) (42::47::s)) (jO g1 _ (by show(47:UInt8)≠42;decide))).2 h1
  have hlk:Lk (47::42::(42::47::s)) s:= .inl (zEc hp);rw[hx];refine⟨?_,?_, .inr ⟨ts,b++cmtW,s,P,_,hp,by grind,rfl,hrun,hlk⟩⟩
  ·rw[tu hrun,N7 hlk,U7 hp]
  ·intro k hk;rw[Ea,Jb]at hk;by_cases hk2:k<st.length
   ·rw[List.getElem_append_left hk2];have:=M5 (P:=P) (x:=47::42::(42::47::s)) (hbd k hk2) (by simp) (fun R hR h5 _=>⟨PO _ h5 hR,fun A hA h6 _=>VZ h6 hA _⟩)
    grind
   ·have hke:k=st.length:=by omega
    subst hke;rw[List.getElem_append_right (by omega)];simp only[Nat.sub_self,List.getElem_cons_zero];refine⟨s,_,P,by grind,Ik hp,rfl,by rw[hP0];simp,hrun,hlk,?_⟩;have:=ae.2 (Ik hp)
    grind
 |no b s ts P st h hp ht0 ih=>
  obtain⟨ht,hbd,hl⟩:=ih;obtain⟨t0,us0,hP0⟩:=pc_P hp;have hPne:P≠[]:=by rw[hP0];simp
  have hsne:=Ik hp
  -- what is ahead stays
  have keep: ∀(L us:List ze) (R:Str),ts=L++us->R≠[]->run b L R->run (b++s) L (R++s):=by
   intro L us R hts hR hrun;rcases mP (us:=us++P) hrun hR hsne (by grind)with h1|⟨_,q,_,h1⟩
   ·exact h1
   ·exact(zIf hp h1 (by simp[hPne])).elim
  have keepLk: ∀(L us:List ze) (R A:Str),ts=L++us->run (b++s) L (R++s)->A≠[]->Lk R A->Lk (R++s) (A++s):=by
   intro L us R A hts hrun hA hlk;cases hpre:([47,42]:Str).isPrefixOf (A++s)with
   |false=>exact R4 hlk hA hpre
   |true=>
    exfalso;rcases hlk with h1|⟨d,y,_,rfl,_⟩
    ·cases A with
     |nil=>exact hA rfl
     |cons c r=>
      cases r with
      |cons d t=>
       have:=Jy R
       grind
      |nil=>
       have hc:c=47:=by
        cases hcc:(47:UInt8)==c with
        |true=>grind
        |false=>
         grind
       subst hc;have h42:s=[42]:=by
        refine LD hp (.inr rfl) ?_;cases s with
        |nil=>grind
        |cons d t=>
         have h':(((47:UInt8)==47)&&(((42:UInt8)==d)&&true))=true:=hpre;have:((42:UInt8)==d)=true:=by simpa using h'
         exact(ma.1 this).symm
       have h3:=tu hrun;rw[ht0,hts,h42,di (D6 h1),Db,Na]at h3;have:=zAB h3;simp_all
    ·cases hpre
  rcases hl with⟨e1,e2,e3⟩|⟨L,B,u,p,R,g1,g2,g3,g4,g5⟩
  ·subst e1 e2 e3;refine⟨ht0,?_, .inr ⟨[],[],s,P,s,hp,rfl,rfl,rfl, .inl (rC hp)⟩⟩;intro k hk;have hke:k=0:=by rw[Ea,Jb,Va]at hk;omega
   subst hke;exact⟨s,s,P,rfl,hsne,rfl,hPne,rfl, .inl (rC hp),ae.2 hsne,ae.2 hsne⟩
  ·have hR:R≠[]:=by intro e;have:=Ls g5 (Ik g1);rw[e]at this;exact this (qQ rfl)
   have h1:=keep L p R g3 hR g4;have h2:=keepLk L p R u g3 h1 (Ik g1) g5;have h3:=tu h1;rw[ht0,g3,Na]at h3;have h4:=List.append_cancel_left h3;obtain⟨r,h5,h6⟩:=YP h4.symm;have hsh:ShS s r:=by
    obtain⟨t1,us1,hp1⟩:=pc_P g1;refine zH6 g1 hp ?_ h6;have hpre:([47,42]:Str).isPrefixOf (u++s)=false\/cmtS (R++s)=[]:=by
     rcases h2 with h2|⟨d,y,hd,h2,_⟩
     ·left;rw[<-h2];exact Jy _
     ·grind
    rcases hpre with hpre|hpre
    ·rw[hp1]at h5 ⊢;exact(M4 h2 hpre).1 h5
    ·rw[hp1]at h5;obtain⟨c,q,e,_⟩:=h5
     grind
   have hrun:run (b++s) ts r:=by rw[g3];exact JJ h1 h5
   have hlk:Lk r s:=by
    rcases hsh with rfl|⟨d,y,hd,e1,e2⟩
    ·exact .inl (rC hp)
    ·right;exact⟨d,y,hd,e1,by rw[e2];exact qQ rfl⟩
   have hrl:1<=r.length:=by
    rcases hsh with rfl|⟨d,y,_,_,e2⟩
    ·grind
    ·rw[e2];simp
   refine⟨ht0,?_, .inr ⟨ts,b,s,P,r,hp,rfl,rfl,hrun,hlk⟩⟩;intro k hk;rw[Ea,Jb]at hk;by_cases hk2:k<st.length
   ·rw[List.getElem_append_left hk2];obtain⟨A0,R0,us,f1,f2,f3,f4,f5,f6,f7,f8⟩:=hbd k hk2;have:=M5 (P:=P) (x:=s) ⟨A0,R0,us,f1,f2,f3,f4,f5,f6,f7,f8⟩ hsne (fun R hR h5 _=>⟨keep _ us R f3 hR h5,fun A hA h6 _=>keepLk _ us R A f3 (keep _ us R f3 hR h5) hA h6⟩)
    grind
   ·have hke:k=st.length:=by omega
    subst hke;rw[List.getElem_append_right (by omega)];simp only[Nat.sub_self,List.getElem_cons_zero];refine⟨s,r,P,rfl,hsne,rfl,hPne,hrun,hlk,?_⟩;have:=ae.2 hsne
    grind
def pcN:List ze->Nat
 |[]=>0
 |t::r=>if t.kind==9&&t.text==[92]then 2 else if ug t then(if Ii r then 3 else 2)else 1
def catT:List ze->Str
 |[]=>[]
 |t::r=>txS t++catT r
def pcS:List ze->Str
 |[]=>[]
 |t::r=>if t.kind==9&&t.text==[92]then [92,10]else catT (t::r)
theorem E8{t:ze}(h:Og t=true)(a:(t.kind==13)=true):t=tkSp:=by
 rw[ma]at a;cases Mq h with
 |cId|cFn|cAt|cHash|cStr|cUrl|cDel|cNum|cPct|cDim=>simp at a
 |cMark k c b=>grind
theorem U5{t:ze}(h:Og t=true)(a:(t.kind==5)=true): ∃m,Zz m=true/\t=⟨5,m,0,[],false⟩:=by
 rw[ma]at a;cases Mq h with
 |cStr l b=>grind
 |cId|cFn|cAt|cHash|cUrl|cDel|cNum|cPct|cDim=>simp at a
 |cMark k d c=>grind
theorem zJa{t:ze}(h:Og t=true)(a:(t.kind==9&&t.text==[92])=true):t=⟨9,[92],0,[],false⟩:=by
 rw[Da,ma,ma]at a;cases Mq h with
 |cDel c h=>grind
 |cId|cFn|cAt|cHash|cStr|cUrl|cNum|cPct|cDim=>simp at a
 |cMark k d b=>grind
theorem zEu{t:ze}(h:Og t=true)(a:ug t=true): ∃l,Zz l=true/\lowS l=[117,114,108]/\t=⟨2,l,0,[],false⟩:=by
 unfold ug at a;rw[Da,ma,ma]at a;cases Mq h with
 |cFn l d c=>grind
 |cId|cAt|cHash|cStr|cUrl|cDel|cNum|cPct|cDim=>simp at a
 |cMark k b e=>grind
theorem zKr{t:ze}(h:(t.kind==9&&t.text==[92])=false): ¬(t.kind=9/\t.text=[92]):=by
 grind
theorem yu(t:ze)(r:List ze):pcN (t::r)=if t.kind==9&&t.text==[92]then 2 else if ug t then(if Ii r then 3 else 2)else 1:=rfl
theorem JK(t:ze)(r:List ze):okAt (t::r)=((!(t.kind==9&&t.text==[92])||Ii r)&&(!(ug t)||yl r)):=rfl
theorem Mv(s:ze)(r:List ze):yl (s::r)=(bif s.kind==13 then(match r with|u::_=>u.kind==5|[]=>false)else s.kind==5):=rfl
theorem zKs{t:ze}{r:List ze}(e: ∀u∈t::r,Og u=true)(d:okAt (t::r)=true): ∃P Q,t::r=P++Q/\P.length=pcN (t::r)/\PcT (pcS P) P:=by
 have c:=e t (Ac ..);rw[JK,Da]at d;rw[yu];cases h:t.kind==9&&t.text==[92]with
 |true=>
  rw[h,Ta,Xb]at d;rw[Ka rfl];cases r with
  |nil=>cases d.1
  |cons s r=> have g:=E8 (e s (by simp)) d.1;have p:=zJa c h;subst g p;exact⟨[⟨9,[92],0,[],false⟩,tkSp],r,rfl,rfl, .back⟩
 |false=>
  rw[Ja (by decide)];cases j:ug t with
  |false=>
   rw[Ja (by decide)];have f:pcS [t]=txS t:=by show(if(t.kind==9&&t.text==[92])=true then [92,10]else txS t++[])=_;rw[h,Ja (by decide),Db]
   exact⟨[t],r,rfl,rfl,by rw[f];exact .one t (Mq c) (zKr h) j⟩
  |true=>
   rw[Ka rfl];rw[j,Ta,Xb]at d;obtain⟨l,n,o,rfl⟩:=zEu c j;have a:=d.2;have b: ∀m:Str,txS ⟨5,m,0,[],false⟩++[]=34::(encB quoB m++[34]):=fun m=>by rw[dn,Db]
   cases r with
   |nil=>cases a
   |cons s r=>
    cases g:s.kind==13 with
    |false=>
     rw[Mv,g,Ba]at a;obtain⟨m,i,rfl⟩:=U5 (e s (by simp)) a;rw[show Ii (⟨5,m,0,[],false⟩::r)=false from rfl,Ja (by decide)];refine⟨[⟨2,l,0,[],false⟩,⟨5,m,0,[],false⟩],r,rfl,rfl,?_⟩;have f:pcS [⟨2,l,0,[],false⟩,⟨5,m,0,[],false⟩]=ZU l++40::((if false then [32]else [])++34::(encB quoB m++[34])):=by show txS ⟨2,l,0,[],false⟩++(txS ⟨5,m,0,[],false⟩++[])=_;rw[b,Am,Na];rfl
     rw[f];exact .url l m false n o i
    |true=>
     have k:=E8 (e s (by simp)) g;subst k;cases r with
     |nil=>cases a
     |cons u r=>
      obtain⟨m,i,rfl⟩:=U5 (e u (by simp)) a;rw[show Ii (tkSp::⟨5,m,0,[],false⟩::r)=true from rfl,Ka rfl];refine⟨[⟨2,l,0,[],false⟩,tkSp,⟨5,m,0,[],false⟩],r,rfl,rfl,?_⟩;have f:pcS [⟨2,l,0,[],false⟩,tkSp,⟨5,m,0,[],false⟩]=ZU l++40::((if true then [32]else [])++34::(encB quoB m++[34])):=by show txS ⟨2,l,0,[],false⟩++(txS tkSp++(txS ⟨5,m,0,[],false⟩++[]))=_;rw[b,Am,show txS tkSp=[32]from rfl,Na];rfl
      rw[f];exact .url l m true n o i
theorem zCK{t:ze}{r:List ze}(h:t.text.length<=big)(a:okAt (t::r)=true):QS (t::r)=some ((pcN (t::r):Nat):Int):=by
 have m:geti (t::r) 0=some t:=rfl;have k:=Du (t::r) 1 13;have e:=Du (t::r) 1 5;have b:=Du (t::r) 2 5;unfold QS;simp only[m,za,Aa,yK h (show([117,114,108]:Str).length<=big by decide),Gu,Zd];simp only[Int.natCast_one]at k e;replace b:ZN ((2,5),t::r)=_:=b;have g:ZN ((1,13),t::r)=some (Ii r):=by rw[k];cases r<;>rfl
 rw[g];rw[JK]at a;unfold ug at a;rw[yu];unfold ug;cases j:(t.kind==9&&t.text==[92])with
 |true=>
  grind
 |false=>
  have n:(bif t.kind==9 then t.text==[92]else false)=false:=by
   cases o:t.kind==9
   ·rfl
   ·grind
  simp only[n,j,Ba,Ra,jc,aa];rw[j,Ra,jc,aa]at a;cases f:(t.kind==2&&lowS t.text==[117,114,108])with
  |false=>
   grind
  |true=>
   rw[f,Ta,Xb]at a;rw[Da]at f;rw[f.1,f.2];simp only[Ca,Aa];cases r with
   |nil=>cases a
   |cons s r=>
    cases d:s.kind==13 with
    |false=>
     have i:Ii (s::r)=false:=d;have l:ZN ((1,5),t::s::r)=some (s.kind==5):=e;have c:(s.kind==5)=true:=by rw[Mv,d]at a;exact a
     simp only[i,Ba,zk,l,Aa,c,Ta];rfl
    |true=>
     have i:Ii (s::r)=true:=d;simp only[i,Ca,zk,b,Aa];cases r with
     |nil=>rw[Mv,d]at a;cases a
     |cons u r=>
      have c:(u.kind==5)=true:=by rw[Mv,d]at a;exact a
      show(bif !(u.kind==5)then some 0 else some (w64 (2+1)))=some 3;rw[c];rfl
def clB(l:Str):Bool:=l.all fun c=> !(c==0||c==12||c==13)
theorem kg(a b:Str):clB (a++b)=(clB a&&clB b):=by unfold clB;grind
theorem SQ: ∀l:Str,clB l=true->Proofs.Cl.cleanS l=l
 |[],_=>by rw[Proofs.Cl.cleanS]
 |c::r,h=>by
  unfold clB at h;rw[Xc,Da]at h;have e:=SQ r h.2;have d:(c==0||c==12||c==13)=false:=by simpa using h.1
  rw[Xe,Xe]at d;obtain⟨⟨f,a⟩,b⟩:=d;rw[Proofs.Cl.cleanS,f,a,b,e]
  ·rfl
  grind
theorem Po(c:UInt8):clB (escC c)=true/\(letB c=true->clB [c]=true)/\(c≠0->quoB c=false->clB [c]=true)/\(c≠0->urB c=false->clB [c]=true)/\(Ki c.toNat=true->clB [c]=true)/\(digB c=true->clB [c]=true):=by
 have: ∀n:Nat,n<256->clB (escC (UInt8.ofNat n))=true/\(letB (UInt8.ofNat n)=true->clB [UInt8.ofNat n]=true)/\(UInt8.ofNat n≠0->quoB (UInt8.ofNat n)=false->clB [UInt8.ofNat n]=true)/\(UInt8.ofNat n≠0->urB (UInt8.ofNat n)=false->clB [UInt8.ofNat n]=true)/\(Ki (UInt8.ofNat n).toNat=true->clB [UInt8.ofNat n]=true)/\(digB (UInt8.ofNat n)=true->clB [UInt8.ofNat n]=true):=by decide+kernel
 have:=this c.toNat (Ib c);simp_all
theorem Oo(dash:Bool): ∀(k:Nat) (l:Str),clB (encW dash k l)=true
 |_,[]=>by rw[encW];rfl
 |k,c::r=>by
  obtain⟨b,a,_⟩:=Po c;rw[encW,kg,Oo dash (k - 1) r,Lb];unfold pcW
  grind
theorem uD{p:UInt8->Bool}(a: ∀c,c≠0->p c=false->clB [c]=true): ∀l:Str,Zz l=true->clB (encB p l)=true
 |[],_=>by rw[encB];rfl
 |c::r,h=>by
  obtain⟨e,d⟩:=Yl h;rw[encB,kg,uD a r d,Lb];cases b:p c with
  |true=>exact(Po c).1
  |false=>exact a c e b
theorem F6{l:Str}(h:l.all digB=true):clB l=true:=by
 induction l with
 |nil=>rfl
 |cons c r a=> rw[Xc,Da]at h;rw[show c::r=[c]++r from rfl,kg,(Po c).2.2.2.2.2 h.1,a h.2];rfl
theorem cl_T(n:Int)(p:Bool):clB (numT n p)=true:=by
 obtain⟨a,_,_⟩:=Iu (n.natAbs / 1000);have c:=RJ (n:=n) (p:=p);rw[Vx,kg,kg,F6 a];have b:clB (sgT n)=true:=by unfold sgT;split<;>rfl
 rw[b];cases (partT (n.natAbs%1000) p).isEmpty with
 |true=>rfl
 |false=> show clB (46::partT (n.natAbs%1000) p)=true;rw[show 46::partT (n.natAbs%1000) p=[46]++partT (n.natAbs%1000) p from rfl,kg,F6 c];rfl
theorem zG3(w:Str):clB (Vg w)=true:=by
 cases w with
 |nil=>rfl
 |cons c r=>
  rw[Dn];cases Aj (c::r)with
  |true=>rw[Ca,kg,(Po c).1,Oo];rfl
  |false=>exact Oo _ _ _
theorem CO{s:Str}{P:List ze}(h:PcT s P):clB s=true:=by
 cases h with
 |one t h hb hu=>
  cases h with
  |cId l h0 h=>rw[Vp];exact Oo _ _ _
  |cFn l h0 h=>rw[Am,kg];rw[show clB (ZU l)=true from Oo _ _ _];rfl
  |cAt l h0 h=>rw[Wp,show 64::ZU l=[64]++ZU l from rfl,kg,show clB (ZU l)=true from Oo _ _ _];rfl
  |cHash l f h0 h hbb=>
   rw[Oq,show 35::Yh f l=[35]++Yh f l from rfl,kg];have:clB (Yh f l)=true:=by cases f<;>exact Oo _ _ _
   rw[this];rfl
  |cStr l h=>rw[dn,show 34::(encB quoB l++[34])=[34]++(encB quoB l++[34])from rfl,kg,kg,uD (fun c h0 hc=>(Po c).2.2.1 h0 hc) l h];rfl
  |cUrl l h=>rw[Bq,kg,kg,uD (fun c h0 hc=>(Po c).2.2.2.1 h0 hc) l h];rfl
  |cDel c h=>rw[Gq];exact(Po c).2.2.2.2.1 h
  |cNum n f h1 h2 hf=>rw[Dq];exact cl_T _ _
  |cPct n h1 h2=>rw[Cq,kg,cl_T];rfl
  |cDim n u f h1 h2 hf h0 h=>rw[Fq,kg,cl_T,zG3];rfl
  |cMark k h1 h2=> rw[Nq h1 h2];rcases Fu h1 h2 with rfl|rfl|rfl|rfl|rfl|rfl|rfl|rfl|rfl|rfl|rfl|rfl<;>rfl
 |back=>rfl
 |url l m b h hl hm=> rw[kg,show clB (ZU l)=true from Oo _ _ _,show∀z:Str,40::z=[40]++z from fun _=>rfl,kg,kg,show∀z:Str,34::z=[34]++z from fun _=>rfl,kg,kg,uD (fun c h0 hc=>(Po c).2.2.1 h0 hc) m hm];cases b<;>rfl
theorem zI1{b:Str}{ts:List ze}{st:List (List ze×Str)}(h:Syn b ts st):clB b=true:=by
 induction h with
 |nil=>rfl
 |cmt b s ts P st h e c a=>rw[kg,kg,a,CO c];rfl
 |no b s ts P st h c d a=>rw[kg,a,CO c];rfl
def tokB(x y:ze):Bool:=x.kind==y.kind&&(x.text==y.text&&(x.num==y.num&&(x.unit==y.unit&&(x.flag==y.flag&&true))))
def jg:List ze->List ze->Bool
 |[],[]=>true
 |x::l,y::m=>tokB x y&&jg l m
 |_,_=>false
theorem zAf(x y:ze)(l m:List ze):jg (x::l) (y::m)=(tokB x y&&jg l m):=rfl
theorem zFG{x y:ze}:tokB x y=true↔x=y:=by
 obtain⟨a,b,c,d,e⟩:=x;obtain⟨j,f,g,i,h⟩:=y;unfold tokB
 grind
theorem Bv: ∀{l m:List ze},jg l m=true↔l=m
 |[],[]=>by simp[jg]
 |x::l,y::m=>by rw[jg,Da,zFG,Bv,List.cons.injEq]
 |[],y::m=>by simp[jg]
 |x::l,[]=>by simp[jg]
theorem TK{l m:List ze}(h:l.length≠m.length):jg l m=false:=by
 cases a:jg l m with
 |false=>rfl
 |true=>rw[Bv.1 a]at h;grind
theorem dR {l m:List ze} (hl:l.length=m.length) (hn:l.length<=big) {step:Int->Option (LO Int Unit Bool)}
  (h1: ∀(i:Nat) (h:i<l.length),step (i:Int)=bif !(tokB l[i] (m[i]'(hl▸h)))then some (.ret false)else some (.again (w64 ((i:Int)+1))))
  (h2:step (l.length:Int)=some (.out ())):zS step 0 (fun _=>some true)=some (jg l m):=by
 have hb:big=4194304:=rfl;refine Vl (fun s=> ∃i:Nat,i<=l.length/\s=(i:Int)/\jg (l.drop i) (m.drop i)=jg l m) (fun s=>l.length - s.toNat) _ ?_ ⟨0,by omega,rfl,rfl⟩;rintro _ ⟨i,hi,rfl,he⟩;rcases ic i l.length with h|h
 ·rw[h1 i h];have hm:i<m.length:=hl▸h;rw[show l.drop i=l[i]::l.drop (i+1)from Cb h,show m.drop i=m[i]::m.drop (i+1)from Cb hm,zAf]at he;cases ht:tokB l[i] (m[i]'(hl▸h))with
  |true=> rw[ht,aa]at he;rw[Ta,Ba,zM (by omega) (by omega)];exact .inl ⟨_,rfl,⟨i+1,by omega,by omega,he⟩,by omega⟩
  |false=>
   grind
 ·have:i=l.length:=by omega
  subst this;rw[Xd (ja _),Xd (by omega)]at he;exact .inr (.inl ⟨(),h2,by rw[<-he];rfl⟩)
theorem OC{α:Type}{l:List α}{i:Nat}(h:i<l.length):geti l (i:Int)=some l[i]:=Zb h
theorem int_ne{n m:Nat}:(((n:Int) != (m:Int)):Bool)= !(n==m):=by
 grind
theorem zEq{l m:List ze}(d:l.length<=big):Qe (l,m)=some (jg l m):=by
 unfold Qe;rw[int_ne];cases b:l.length==m.length with
 |false=>rw[Ra,Ca,TK (Ia.1 b)]
 |true=>
  rw[Ta,Ba];have a:=ma.1 b;refine dR a d (fun i h=> ?_) ?_
  ·have c:i<m.length:=a▸h;have e:decide ((i:Int)<(l.length:Int))=true:=Ga (by omega);simp only[e,Ca,OC h,OC c,za,Aa];rfl
  grind
theorem same_eq{l m:List ze}(e:l.length<=big):Yz (l,m)=some (jg l m):=by
 unfold Yz;rw[int_ne];cases c:l.length==m.length with
 |false=>rw[Ra,Ca,TK (Ia.1 c)]
 |true=>
  rw[Ta,Ba];have a:=ma.1 c;refine dR a e (fun i h=> ?_) ?_
  ·have b:i<m.length:=a▸h;have f:decide ((i:Int)<(l.length:Int))=true:=Ga (by omega);have d:decide ((0:Int)<=(i:Int))=true:=Ga (by omega);have g:decide ((i:Int)<(m.length:Int))=true:=Ga (by omega);simp only[f,d,g,Ca,OC h,OC b,za,Aa,Oa,Xa h,Xa b];rfl
  grind
def wrF:Nat->List ze->Str->List ze->Str
 |0,_,b,_=>b
 |_+1,_,b,[]=>b
 |n+1,a,b,t::r=>
  wrF n (a++(t::r).take (pcN (t::r))) ((if jg (Qc (b++pcS ((t::r).take (pcN (t::r))))) (a++(t::r).take (pcN (t::r)))then b else b++cmtW)++pcS ((t::r).take (pcN (t::r)))) ((t::r).drop (pcN (t::r)))
def wrS(l:List ze):Str:=wrF l.length [] [] l
theorem Y6: ∀(n:Nat) (ts:List ze) (b:Str) (r:List ze),b.length<=(wrF n ts b r).length
 |0,_,_,_=>ja _
 |_+1,_,_,[]=>ja _
 |n+1,ts,b,t::r=>by
  rw[wrF];refine Gc ?_ (Y6 n _ _ _)
  grind
def Bo(l:List ze):Prop:=(∀t∈l,Og t=true/\t.text.length<=5000/\t.unit.length<=5000)/\ ∀k,k<l.length->okAt (l.drop k)=true
theorem kR{l:List ze}(h:Bo l)(n:Nat):Bo (l.drop n):=by refine⟨fun t b=>h.1 t (List.mem_of_mem_drop b),fun k a=> ?_⟩;rw[Dc]at a;rw[Td];exact h.2 (n+k) (by omega)
theorem ND{t:ze}{r:List ze}:1<=pcN (t::r):=by rw[yu];grind
theorem V7{t:ze}{r:List ze}:pcN (t::r)<=3:=by rw[yu];grind
theorem Y7{t:ze}{r:List ze}(h:Bo (t::r)):pcN (t::r)<=(t::r).length/\PcT (pcS ((t::r).take (pcN (t::r)))) ((t::r).take (pcN (t::r))):=by
 obtain⟨P,Q,d,c,b⟩:=zKs (fun u a=>(h.1 u a).1) (h.2 0 (by simp))
 grind
theorem zKc{t:ze}(e:Og t=true)(g:t.text.length<=5000)(h2:t.unit.length<=5000):(txS t).length<=20100:=by
 have i: ∀l:Str,l.length<=5000->(ZU l).length<=20000:=fun l p=>by have:=Lj (l==[45]) (qm l) l;unfold ZU;omega
 cases Mq e with
 |cId l d h=>rw[Vp];grind
 |cFn l d h=>rw[Am,Ea];grind
 |cAt l d h=>rw[Wp,Fa];grind
 |cHash l f d h j=>
  rw[Oq,Fa];have s:=i l g;have o:=Lj false 0 l;have m:l.length<=5000:=g;cases f with
  |true=>rw[show Yh true l=ZU l from rfl];omega
  |false=>rw[show Yh false l=encW false 0 l from rfl];omega
 |cStr l h=>rw[dn];have:=om quoB l;grind
 |cUrl l h=>rw[Bq];have:=om urB l;grind
 |cDel c h=>rw[Gq];simp
 |cNum n f a b e=>rw[Dq];have:=(Xn a b (!f)).1;omega
 |cPct n a b=>rw[Cq,Ea,Jb];have:=(Xn a b false).1;omega
 |cDim n u f a b e d h=>
  rw[Fq,Ea];have:=(Xn a b (!f)).1;have m:u.length<=5000:=h2;have q:(Vg u).length<=20004:=by
   cases u with
   |nil=>grind
   |cons c r=>
    rw[Dn];cases Aj (c::r)with
    |true=>
     rw[Ca,Ea];have:=Kj c;have:=Lj false 0 r
     grind
    |false=>grind
  omega
 |cMark k a b=>rw[Nq a b];have:=MK k;omega
theorem lI: ∀{l:List ze},(∀t∈l,Og t=true/\t.text.length<=5000/\t.unit.length<=5000)->(catT l).length<=20100*l.length
 |[],_=>Mc _
 |t::r,h=>by obtain⟨a,b,c⟩:=h t (Ac ..);have:=zKc a b c;have:=lI (l:=r) (fun u d=>h u (Cc _ d));rw[catT,Ea,Fa];omega
theorem p8: ∀(l m:List ze),catT (l++m)=catT l++catT m
 |[],m=>rfl
 |t::l,m=>by rw[Bb,catT,catT,p8 l m,Na]
theorem zD9 {R:Type} {step:Int×List UInt8->Option (LO (Int×List UInt8) (List UInt8) R)} {l:List ze} (m:l.length<=3) (e: ∀t∈l,Og t=true/\t.text.length<=5000/\t.unit.length<=5000)
  (f: ∀(i:Nat) (a:Str) (hi:i<l.length),step ((i:Int),a)=(Uv (l[i],a)).bind fun j=>some (LO.again (w64 ((i:Int)+1),j)))
  (h2: ∀a,step ((l.length:Int),a)=some (.out a)):Mg step (0,[])=some (.out (catT l)):=by
 refine ZI (fun z=> ∃(i:Nat),i<=l.length/\z=((i:Int),catT (l.take i))) (fun z=>l.length - z.1.toNat) _ ?_ ⟨0,by omega,rfl⟩;rintro _ ⟨i,hi,rfl⟩;rcases ic i l.length with h|h
 ·obtain⟨a,b,c⟩:=e l[i] (Kb h);have g:=lI (l:=l.take i) (fun t d=>e t (Lf d));rw[Lc]at g;have k:min i l.length<=2:=by omega
  have d:=zFC (acc:=catT (l.take i)) a b c (by
   grind)
  rw[f i _ h,d,Aa];refine .inl ⟨_,rfl,⟨i+1,by omega,?_⟩,by simp only;rw[zM (by omega) (by omega)];omega⟩;rw[zM (by omega) (by omega),jb h,p8];refine Prod.ext (by grind) ?_;show _=catT (l.take i)++(txS l[i]++[])
  grind
 grind
def stO(x:List ze×Str):zR:=⟨(x.1.length:Int),(x.2.length:Int)⟩
theorem zDM{b s A B:Str}{ts L us P:List ze}{m:Nat}(h:b=B++A/\A≠[]/\ts=L++us/\us≠[]/\ ∃R,run b L R/\Lk R A/\4<=R.length/\4<=A.length):jg (Qc (A++s)) (us++P)=jg (Qc (b++s)) (ts++P):=by
 obtain⟨o,k,i,n,R,j,a,l,e⟩:=h;have g:=tu (P6 s j l);have f:Lk (R++s) (A++s):=by
  refine R4 a k ?_;rcases a with a|⟨d,y,_,rfl,_⟩
  ·cases A with
   |nil=>grind
   |cons c t=>
    cases t with
    |cons d u=>rw[zFg,<-a];exact Jy R
    |nil=>simp at e
  ·rfl
 rw[N7 f]at g;rw[g,i,Ef,Bv,Bv,Na,List.append_cancel_left_eq]
theorem uJ{x:List ze}(h:gluS x=0):x.length<=1500/\(∀t∈x,Og t=true)/\ ∀k,k<x.length->okAt (x.drop k)=true:=by
 unfold gluS at h;cases hl:decide (x.length<=1500)with
 |false=>grind
 |true=>
  rw[hl,Ca]at h;cases ha:(List.range x.length).all (Pp x)with
  |false=>grind
  |true=>
   rw[Ab]at ha;have key: ∀k,k<x.length->Og (x.getD k default)=true/\okAt (x.drop k)=true:=by intro k hk;have:=ha k (Jd.2 hk);unfold Pp at this;rw[Da]at this;exact this
   refine⟨Ub hl,fun t ht=> ?_,fun k hk=>(key k hk).2⟩;obtain⟨k,hk,rfl⟩:=List.mem_iff_getElem.1 ht
   grind
theorem zIS{t:ze}{r:List ze}:(bif t.kind==9 then((pcN (t::r):Nat):Int)==2 else false)=(t.kind==9&&t.text==[92]):=by
 cases a:t.kind==9 with
 |false=>rfl
 |true=>
  have b:ug t=false:=by unfold ug;rw[ma.1 a];rfl
  rw[yu,a,Ca,b]
  grind
theorem OJ{t:ze}{r:List ze}:pcS ((t::r).take (pcN (t::r)))=bif (t.kind==9&&t.text==[92])then [92,10]else catT ((t::r).take (pcN (t::r))):=by
 obtain⟨k,a⟩: ∃k,pcN (t::r)=k+1:=⟨pcN (t::r) - 1,by have:=ND (t:=t) (r:=r);omega⟩;rw[a,Md,pcS]
 grind
theorem RP{n:Nat}{ts:List ze}{b:Str}{t:ze}{r:List ze}{s:Str}{P:List ze}(a:(t::r).take (pcN (t::r))=P)(c:pcS P=s):
  wrF (n+1) ts b (t::r)=wrF n (ts++P) ((if jg (Qc (b++s)) (ts++P)then b else b++cmtW)++s) ((t::r).drop (pcN (t::r))):=by
 subst c a;rw[wrF]
theorem ap16{n:Nat}(h:n<=99999):Zj n 1 16=true:=Em (by omega) (by omega)
theorem O5{n m:Nat}(h:n+m<=200000):Zj n m 1=true:=by
 unfold Zj
 grind
theorem zHu{R:Type}{i:Int}{b:Str}{ts:List ze}{st:List (List ze×Str)}(h:zIM b ts st)(g:st.length<=100000): ∃L B A us,
  (bif decide (w64 (((st.map stO).length:Int) - 4)>=0)then
        need (decide (0<=w64 (((st.map stO).length:Int) - 4))&&decide (w64 (((st.map stO).length:Int) - 4)<((st.map stO).length:Int)))<|
        ((st.map stO)[(w64 (((st.map stO).length:Int) - 4)).toNat]?).bind fun c=>
        some (LX.out (i,b,st.map stO,c))
       else
        some (LX.out (i,b,st.map stO,(⟨0,0⟩:zR))))=(some (LX.out (i,b,st.map stO,stO (L,B))):Option (LX (Int×List UInt8×List zR×zR) R))/\
  b=B++A/\ts=L++us/\ ∀s P,jg (Qc (A++s)) (us++P)=jg (Qc (b++s)) (ts++P):=by
 rw[Fb];by_cases l:4<=st.length
 ·obtain⟨A,R,us,d,k,e,a,j,f,o,n⟩:=h.bd (st.length - 4) (by omega);refine⟨st[st.length - 4].1,st[st.length - 4].2,A,us,?_,d,e,fun s P=>zDM (m:=0) ⟨d,k,e,a,R,j,f,by omega,by omega⟩⟩;rw[zM (by omega) (by omega),Ga (by omega),Ca,Ga (by omega),Bool.and_self,zF,show((st.length:Int) - 4).toNat=st.length - 4 by omega,Sa,Xa (by omega)];rfl
 ·refine⟨[],[],b,ts,?_,rfl,rfl,fun s P=>rfl⟩;rw[zM (by omega) (by omega),La (by omega),Ba];rfl
theorem zDV{x:List ze}(hx: ∀t∈x,t.text.length<=5000/\t.unit.length<=5000):
  dz x=some (if gluS x=0 then(if 4000<(wrS x).length then([],28)else(wrS x,0))else([],gluS x)):=by
 unfold dz;have hbig:big=4194304:=rfl;rw[vV (fun t ht=>by grind)];simp only[za,Aa];by_cases hg:gluS x=0
 ·rw[Ka hg,hg,show((0:Int) != 0)=false from rfl,Ba];obtain⟨hlen,hfine,hok⟩:=uJ hg;have hrest:Bo x:=⟨fun t ht=>⟨hfine t ht,hx t ht⟩,hok⟩;refine Vl (fun z=> ∃(i:Nat) (b:Str) (st:List (List ze×Str)) (n:Nat),z=((i:Int),b,st.map stO)/\i<=x.length/\Syn b (x.take i) st/\b.length<=4000/\x.length - i<=n/\wrF n (x.take i) b (x.drop i)=wrS x/\st.length<=i) (fun z=>x.length - z.1.toNat) _ ?_
   ⟨0,[],[],x.length,rfl,Mc _, .nil,Mc _,ja _,rfl,ja _⟩
  rintro _ ⟨i,b,st,n,rfl,hi,hsyn,hbl,hn,hW,hst⟩;simp only;rcases ic i x.length with h|h
  ·have hro:=kR hrest i;have hdr:x.drop i=x[i]::x.drop (i+1):=Cb h;obtain⟨t,ht⟩: ∃t,t=x[i]:=⟨_,rfl⟩;obtain⟨r,hr⟩: ∃r,r=x.drop (i+1):=⟨_,rfl⟩;rw[<-ht,<-hr]at hdr;rw[hdr]at hro hW;have hlr:(t::r).length=x.length - i:=by rw[<-hdr,Dc]
   obtain⟨hk1,hpc⟩:=Y7 hro;have hk0:=ND (t:=t) (r:=r);have hk3:=V7 (t:=t) (r:=r);obtain⟨k,hk⟩: ∃k,pcN (t::r)=k:=⟨_,rfl⟩;obtain⟨P,hP⟩: ∃P,(t::r).take k=P:=⟨_,rfl⟩;obtain⟨s,hs⟩: ∃s,pcS P=s:=⟨_,rfl⟩;have hst':=OJ (t:=t) (r:=r);have hstep:=fun m=>RP (n:=m) (ts:=x.take i) (b:=b) (t:=t) (r:=r) (s:=s) (P:=P) (by rw[hk];exact hP) hs;have e3:QS (List.drop i x)=some ((k:Nat):Int):=by rw[hdr,<-hk];exact zCK (by grind) (hro.2 0 (by simp))
   have hb2:=zIS (t:=t) (r:=r);rw[hk]at hk0 hk1 hk3 hpc hst' hb2 hstep;rw[hP]at hpc hst';rw[hs]at hpc hst';rw[hlr]at hk1;have e1:decide ((i:Int)<(x.length:Int))=true:=Ga (by omega);have e2:(decide ((0:Int)<=(i:Int))&&decide ((i:Int)<=(x.length:Int)))=true:=by rw[Ga (by omega),Ga (by omega)];rfl
   have e4:w64 ((i:Int)+((k:Nat):Int))=((i+k:Nat):Int):=by rw[zM (by omega) (by omega)];omega
   have e5:(decide ((0:Int)<=(i:Int))&&(decide ((i:Int)<=((i+k:Nat):Int))&&decide (((i+k:Nat):Int)<=(x.length:Int))))=true:=by rw[Ga (by omega),Ga (by omega),Ga (by omega)];rfl
   have e6:geti x (i:Int)=some t:=by rw[Zb h,ht]
   have e7:List.drop i (List.take (i+k) x)=P:=by rw[uf,hdr,show i+k - i=k by omega,hP]
   simp only[e1,e2,e3,e4,e5,e6,Ca,zF,Aa,Oa,e7];have hPl:P.length<=3:=by rw[<-hP,Lc];omega
   have hPf: ∀u∈P,Og u=true/\u.text.length<=5000/\u.unit.length<=5000:=fun u hu=>hro.1 u (by grind);have hsl:s.length<=60400:=by
    have:=lI hPf;rw[hst'];cases t.kind==9&&t.text==[92]with
    |true=>grind
    |false=>grind
   rw[Zk (zD9 (l:=P) hPl hPf (fun j a hj=> ?_) (fun a=> ?_))]
   ·rw[hb2];have hj9:(bif (t.kind==9&&t.text==[92])then some (LX.out ((i:Int),b,st.map stO,[(92:UInt8),(10:UInt8)]))else some (LX.out ((i:Int),b,st.map stO,catT P)))=(some (LX.out ((i:Int),b,st.map stO,s)):Option (LX (Int×List UInt8×List zR×List UInt8) (LO (Int×List UInt8×List zR) (List UInt8) (Str×Int)))):=by rw[hst'];cases t.kind==9&&t.text==[92]<;>rfl
    rw[hj9,zk];simp only;have hsok:=zJ7 hsyn;obtain⟨L,B,A,us,hfrom,hbA,hts,hwin⟩:=zHu (R:=LO (Int×List UInt8×List zR) (List UInt8) (Str×Int)) (i:=(i:Int)) hsok (by omega);rw[hfrom,zk];have hBl:B.length<=b.length:=by rw[hbA,Ea];omega
    have hAl:A.length<=b.length:=by rw[hbA,Ea];omega
    have f1:(decide ((0:Int)<=(stO (L,B)).at_)&&decide ((stO (L,B)).at_<=(b.length:Int)))=true:=by show(decide ((0:Int)<=(B.length:Int))&&decide ((B.length:Int)<=(b.length:Int)))=true;rw[Ga (by omega),Ga (by omega)];rfl
    have f2:(stO (L,B)).at_.toNat=B.length:=Oa _;have f3:decide (B.length+(b.length - B.length)<=b.length)=true:=Ga (by omega);have f4:List.take (b.length - B.length) (List.drop B.length b)=A:=by rw[hbA,List.drop_left,Ea,show B.length+A.length - B.length=A.length by omega,Oc]
    have f5:zO A.length s.length=true:=zV.2 (by omega);simp only[f1,f2,f3,f4,f5,zF,zAv,Aa,e4,Oa];have htl:(stO (L,B)).token=(L.length:Int):=rfl;have hLl:L.length<=i:=by have:=congrArg List.length hts;rw[Lc,Ea]at this;omega
    have htk:List.drop L.length (List.take (i+k) x)=us++P:=by
     have:List.take (i+k) x=L++(us++P):=by rw[List.take_add,hdr,hP,hts,Na]
     rw[this,List.drop_left]
    have hPlen:P.length=k:=by rw[<-hP,Lc];omega
    have husP:(us++P).length<=1500:=by have h1:=congrArg List.length hts;rw[Lc,Ea]at h1;rw[Ea,hPlen];omega
    have hcl:clB (A++s)=true:=by have h1:=zI1 hsyn;rw[hbA,kg,Da]at h1;rw[kg,h1.2,CO hpc];rfl
    obtain⟨c,hc⟩: ∃c,c=jg (Qc (b++s)) (x.take i++P):=⟨_,rfl⟩;have hwinc:jg (Qc (A++s)) (us++P)=c:=by rw[hc];exact hwin s P
    obtain⟨c',hc'⟩: ∃c',c'=(decide ((A++s).length<=4000)&&c):=⟨_,rfl⟩;have hneed:(decide ((0:Int)<=(stO (L,B)).token)&&(decide ((stO (L,B)).token<=((i+k:Nat):Int))&&decide (((i+k:Nat):Int)<=(x.length:Int))))=true:=by rw[htl,Ga (by omega),Ga (by omega),Ga (by omega)];rfl
    have hcat: ∀(E:Option (LX (Int×List zR×List UInt8) (LO (Int×List UInt8×List zR) (List UInt8) (Str×Int)))),
      E=(need (decide ((0:Int)<=(stO (L,B)).token)&&(decide ((stO (L,B)).token<=((i+k:Nat):Int))&&decide (((i+k:Nat):Int)<=(x.length:Int)))|| !(!((Pq (A++s)).2 != 0)))<|
       (zq (!((Pq (A++s)).2 != 0)) (Qe ((Pq (A++s)).1,List.drop (stO (L,B)).token.toNat (List.take (i+k) x))) (default:Bool)).bind fun y13=>
       bif bif (Pq (A++s)).2 != 0 then true else !y13 then
        need (Zj b.length ([47,42,42,47]:Str).length 1)<|
        some (LX.out ((i:Int),st.map stO,b++([47,42,42,47]:Str)))
       else
        some (LX.out ((i:Int),st.map stO,b)))->E=some (LX.out ((i:Int),st.map stO,if c' then b else b++cmtW)):=by
     rintro E rfl;rw[hneed,jc,zF,show(stO (L,B)).token.toNat=L.length from Oa _,htk];have happ:Zj b.length ([47,42,42,47]:Str).length 1=true:=O5 (by grind);unfold Pq;by_cases hlong:4000<(A++s).length
     ·rw[Ka hlong];have:c'=false:=by rw[hc',La (by omega)];rfl
      rw[this];simp only[show((28:Int) != 0)=true from rfl,Ta,zU,Aa,Ca,happ,zF];rfl
     ·rw[Ja hlong,SQ _ hcl];have hcc:c'=c:=by rw[hc',Ga (by omega)];rfl
      by_cases hmany:1500<(Qc (A++s)).length
      ·rw[Ka hmany];have:c'=false:=by rw[hcc,<-hwinc];exact TK (by omega)
       rw[this];simp only[show((4:Int) != 0)=true from rfl,Ta,zU,Aa,Ca,happ,zF];rfl
      ·rw[Ja hmany];simp only[show((0:Int) != 0)=false from rfl,Ra,zu,Ba,zEq (show(Qc (A++s)).length<=big by omega),hwinc,Aa,happ,zF]
       grind
    rw[hcat _ rfl,zk];simp only;obtain⟨m,hm⟩: ∃m,n=m+1:=⟨n - 1,by omega⟩;subst hm;rw[hstep m,<-hc]at hW;have hWl:=Y6 m (x.take i++P) ((if c then b else b++cmtW)++s) ((t::r).drop k);rw[hW]at hWl;have hcw:cmtW.length=4:=rfl;have hb1:(if c' then b else b++cmtW).length<=4004:=by
     split
     ·omega
     ·grind
    rw[zo (ap16 (by grind)),zo (O5 (by omega))];have hbs:b.length+s.length<=(wrS x).length:=by
     refine Gc ?_ hWl;rw[Ea];split
     ·omega
     ·grind
    by_cases hbig2:4000<((if c' then b else b++cmtW)++s).length
    ·grind
    ·rw[La (by omega),Ba];have hcc:c'=c:=by
      have:(A++s).length<=4000:=by
       rw[Ea]at hbig2 ⊢;have:b.length<=(if c' then b else b++cmtW).length:=by
        split
        ·grind
        ·grind
       omega
      rw[hc',Ga this];rfl
     rw[hcc]at hbig2 ⊢;have hxt:x.take (i+k)=x.take i++P:=by rw[List.take_add,hdr,hP]
     refine .inl ⟨_,rfl,⟨i+k,(if c then b else b++cmtW)++s,st++[(x.take i,if c then b else b++cmtW)],m,?_,by omega,?_,by omega,by omega,?_,?_⟩,?_⟩
     ·refine Prod.ext e4 (Prod.ext rfl ?_);rw[Te];show st.map stO++[_]=st.map stO++[stO (x.take i,if c then b else b++cmtW)];unfold stO
      grind
     ·rw[hxt];cases hcb:c with
      |true=> rw[Ka rfl];exact .no b s _ P st hsyn hpc (Bv.1 (by rw[<-hc,hcb]))
      |false=> rw[Ja (by decide)];refine .cmt b s _ P st hsyn ?_ hpc;rintro rfl;have h0:=hsok.tok;rw[di (qQ rfl)]at h0;rw[<-h0,Vb,Vb,U7 hpc]at hc;rw[hcb,Bv.2 rfl]at hc;cases hc
     ·rw[hxt,<-hW,<-Td,hdr]
     ·rw[Ea,Jb];omega
     ·simp only;rw[e4];omega
   ·have d1:decide ((j:Int)<(P.length:Int))=true:=Ga (by omega);simp only[d1,Ca,Zb hj,Aa]
   ·simp only;rw[La (by omega),Ba]
  ·have:i=x.length:=by omega
   subst this;have e1:decide ((x.length:Int)<(x.length:Int))=false:=La (by omega);simp only[e1,Ba];refine .inr (.inl ⟨_,rfl,?_⟩);rw[Xd (ja _)]at hW;have hWb:b=wrS x:=by
    cases n with
    |zero=>rw[wrF]at hW;exact hW
    |succ n=>rw[wrF]at hW;exact hW
   rw[<-hWb,Ja (by omega)]
 grind
theorem eT {S X R:Type} {step:S->Option (LO S X R)} {k:X->Option R} (Inv:S->Prop) (μ:S->Nat) (Q:R->Prop)
  (h: ∀s,Inv s->(∃s',step s=some (.again s')/\Inv s'/\μ s'<μ s)\/(∃x y,step s=some (.out x)/\k x=some y/\Q y)\/(∃y,step s=some (.ret y)/\Q y)) {s:S} (hs:Inv s): ∃y,zS step s k=some y/\Q y:=by
 have key: ∀(m:Nat) (s:S),μ s<m->Inv s-> ∃(r:LX X R) (y:R),Z7 step m s=some r/\r.go k=some y/\Q y:=by
  intro m
  induction m with
  |zero=>intro s h;omega
  |succ m ih=>
   intro s hm hs;simp only[Z7];rcases h s hs with⟨s',h1,h2,h3⟩|⟨x,y,h1,h2,h3⟩|⟨y,h1,h2⟩
   ·rw[h1];exact ih s' (by omega) h2
   ·rw[h1];exact⟨_,y,rfl,h2,h3⟩
   ·rw[h1];exact⟨_,y,rfl,rfl,h2⟩
 obtain⟨r,y,h1,h2,h3⟩:=key (μ s+1) s (by omega) hs;exact⟨y,by rw[Pi (QY h1)];exact h2,h3⟩
abbrev ix(s r:Str):Int:=((beh s r:Nat):Int)
theorem ix_0(s:Str):(0:Int)=ix s s:=by unfold ix beh;rw[Nat.sub_self];rfl
theorem ix_1{s r:Str}{c:UInt8}(hs:s.length<=100000)(hr:c::r<:+s):w64 (ix s (c::r)+1)=ix s r:=yh (by unfold big;omega) hr
theorem ix_n{s r:Str}{n:Nat}(hs:s.length<=100000)(hr:r<:+s)(hn:n<=r.length):w64 (ix s r+(n:Int))=ix s (r.drop n):=by have h1:=oI hr hn;have h2:=Li s (r.drop n);have:=Li s r;have e0:ix s r=((beh s r:Nat):Int):=rfl;rw[zM (by omega) (by omega),show ix s r+(n:Int)=((beh s r+n:Nat):Int) by omega,h1]
theorem BP{s r:Str}{n:Nat}(hs:s.length<=100000)(hn:n<=100):w64 (ix s r+(n:Int))=((beh s r+n:Nat):Int):=by have:=Li s r;have e0:ix s r=((beh s r:Nat):Int):=rfl;rw[zM (by omega) (by omega)];omega
theorem dK{s r:Str}{n:Nat}(hr:r<:+s):geti s ((beh s r+n:Nat):Int)=r[n]? :=by
 obtain⟨p,rfl⟩:=hr;unfold geti;rw[Ga (by omega),Ca,Oa];have:beh (p++r) r=p.length:=by unfold beh;rw[Ea];omega
 rw[this,rf (by omega),Nat.add_sub_cancel_left]
theorem QX{s r:Str}{c:UInt8}(hr:c::r<:+s):geti s (ix s (c::r))=some c:=by have:=dK (n:=0) hr;rw[Ad]at this;exact this
theorem OP{s r:Str}{n:Nat}(hs:s.length<=100000)(hr:r<:+s):zB (s,((beh s r+n:Nat):Int))=some (((atS r n).toNat:Nat):Int):=by
 have hle:=hr.length_le;have hbe:beh s r=s.length - r.length:=rfl;unfold zB;simp only[za,dK hr];unfold atS;rw[Jf];by_cases h:n<r.length
 ·rw[Ga (by omega),Ca,Xa h];rfl
 ·rw[La (by omega),Ba,List.getElem?_eq_none (by omega)];rfl
theorem Q7{s r:Str}(hs:s.length<=100000)(hr:r<:+s):zB (s,ix s r)=some (((atS r 0).toNat:Nat):Int):=OP (n:=0) hs hr
theorem pI{s r:Str}(hs:s.length<=100000)(hr:r<:+s):zB (s,w64 (ix s r+1))=some (((atS r 1).toNat:Nat):Int):=by rw[show(1:Int)=((1:Nat):Int)from rfl,BP hs (by omega)];exact OP hs hr
theorem GD(c:UInt8):qA (c.toNat:Int)=some (spB c):=of_n (by decide+kernel) c
theorem Tk(c:UInt8):zC (c.toNat:Int)=some (digB c):=of_n (by decide+kernel) c
theorem zFp(c:UInt8):kr (c.toNat:Int)=some (fstB c):=of_n (by decide+kernel) c
theorem WE(c:UInt8):ZP (c.toNat:Int)=some (letB c):=of_n (by decide+kernel) c
theorem bZ(c:UInt8):Bn (c.toNat:Int)=some (hexI c):=of_n (by decide+kernel) c
theorem b_is(c d:UInt8):(((c.toNat:Nat):Int)==((d.toNat:Nat):Int))=(c==d):=Oh c d
theorem b_10(c:UInt8):(((c.toNat:Nat):Int)==10)=(c==10):=Oh c 10
theorem b_34(c:UInt8):(((c.toNat:Nat):Int)==34)=(c==34):=Oh c 34
theorem b_35(c:UInt8):(((c.toNat:Nat):Int)==35)=(c==35):=Oh c 35
theorem b_37(c:UInt8):(((c.toNat:Nat):Int)==37)=(c==37):=Oh c 37
theorem b_39(c:UInt8):(((c.toNat:Nat):Int)==39)=(c==39):=Oh c 39
theorem b_40(c:UInt8):(((c.toNat:Nat):Int)==40)=(c==40):=Oh c 40
theorem b_41(c:UInt8):(((c.toNat:Nat):Int)==41)=(c==41):=Oh c 41
theorem b_43(c:UInt8):(((c.toNat:Nat):Int)==43)=(c==43):=Oh c 43
theorem b_45(c:UInt8):(((c.toNat:Nat):Int)==45)=(c==45):=Oh c 45
theorem b_46(c:UInt8):(((c.toNat:Nat):Int)==46)=(c==46):=Oh c 46
theorem b_64(c:UInt8):(((c.toNat:Nat):Int)==64)=(c==64):=Oh c 64
theorem b_69(c:UInt8):(((c.toNat:Nat):Int)==69)=(c==69):=Oh c 69
theorem b_92(c:UInt8):(((c.toNat:Nat):Int)==92)=(c==92):=Oh c 92
theorem zKl(c:UInt8):(((c.toNat:Nat):Int)==101)=(c==101):=Oh c 101
theorem b_48(c:UInt8):(((c.toNat:Nat):Int)==48)=(c==48):=Oh c 48
theorem I8 {R:Type} {step:Int->Option (LO Int Int R)} {s:Str} (hs:s.length<=100000) (p:UInt8->Bool) (h0:p 0=false)
  (h: ∀q,q<:+s->step (ix s q)=some (bif p (atS q 0)then .again (w64 (ix s q+1))else .out (ix s q))) {r:Str} (hr:r<:+s):Mg step (ix s r)=some (.out (ix s (past p r))):=by
 refine ZI (fun z=> ∃q,z=ix s q/\q<:+s/\past p q=past p r) (fun z=>s.length - z.toNat) _ ?_ ⟨r,rfl,hr,rfl⟩;rintro _ ⟨q,rfl,hq,he⟩;rw[h q hq];cases q with
 |nil=> rw[show atS ([]:Str) 0=0 from rfl,h0,Ba];exact .inr (.inl ⟨_,rfl,by rw[<-he];rfl⟩)
 |cons c t=>
  rw[show atS (c::t) 0=c from rfl];cases hp:p c with
  |true=> have hl:=hq.length_le;rw[Fa]at hl;rw[Ca,ix_1 hs hq];refine .inl ⟨_,rfl,⟨t,rfl,Zq hq,by rw[<-he,past,hp];rfl⟩,?_⟩;show s.length - beh s t<s.length - beh s (c::t);unfold beh;rw[Fa];omega
  |false=> rw[Ba];exact .inr (.inl ⟨_,rfl,by rw[<-he,past,hp];rfl⟩)
theorem VE{s r:Str}(hs:s.length<=100000)(hr:r<:+s):qE (s,ix s r)=some (ix s (past spB r)):=by unfold qE;rw[Zk (I8 hs spB rfl (fun q hq=> ?_) hr)];simp only[za,Q7 hs hq,Aa,GD];cases spB (atS q 0)<;>rfl
theorem LJ{s r:Str}(hs:s.length<=100000)(hr:r<:+s):Qt (s,ix s r)=some (ix s (past digB r)):=by unfold Qt;rw[Zk (I8 hs digB rfl (fun q hq=> ?_) hr)];simp only[za,Q7 hs hq,Aa,Tk];cases digB (atS q 0)<;>rfl
theorem xu{s r:Str}(hs:s.length<=100000)(hr:r<:+s):Zm (s,ix s r)=some (escS r):=by
 unfold Zm;simp only[za,Q7 hs hr,pI hs hr,Aa,b_92];unfold escS bne;cases atS r 0==92 with
 |false=>rfl
 |true=>simp only[zu,Aa,Ca,b_10,aa]
theorem zCX{s r:Str}{c:UInt8}(hs:s.length<=100000)(hr:c::r<:+s):Zm (s,w64 (ix s (c::r)+1))=some (escS r):=by rw[ix_1 hs hr];exact xu hs (Zq hr)
theorem dO{s r:Str}(hs:s.length<=100000)(hr:r<:+s):qg (s,ix s r)=some (nmS r):=by
 unfold qg;simp only[za,Q7 hs hr,pI hs hr,Aa,b_45,zFp,xu hs hr];cases r with
 |nil=>rfl
 |cons c t=>
  rw[zCX hs hr];unfold nmS;rw[show(c::t).drop 1=t from rfl];cases atS (c::t) 0==45 with
  |true=>
   rw[Ca,Ka rfl];cases fstB (atS (c::t) 1)with
   |true=>rfl
   |false=>
    simp only[Ra,zu,Aa,b_45,Ba,Xb];cases atS (c::t) 1==45 with
    |true=>rfl
    |false=>rfl
  |false=> rw[Ba,Ja (by decide)];cases fstB (atS (c::t) 0)<;>rfl
theorem El{n:Nat}(h:n<256):qb (wu8 ((n:Nat):Int))=some (UInt8.ofNat n):=by rw[Nu,ve h,ZJ h]
theorem zJU{n:Nat}(hn:n<16777216):Ov (n:Int)=some (xg n):=by
 unfold Ov mo xg;simp only[za,Aa];have hz:(((n:Nat):Int)==0)=decide (n=0):=by
  by_cases h:n=0
  ·subst h;rfl
  ·rw[La h,Ia];omega
 have hc:(bif bif ((n:Nat):Int)==0 then true else bif decide ((n:Int)>=55296)then decide ((n:Int)<=57343)else false then true else decide ((n:Int)>1114111))=decide (n=0\/(55296<=n/\n<=57343)\/1114111<n):=by
  rw[hz];by_cases h0:n=0
  ·simp[h0]
  ·rw[La h0,Ba];by_cases h1:55296<=n/\n<=57343
   ·rw[Ga (show(n:Int)>=55296 by omega),Ga (show(n:Int)<=57343 by omega),show decide (n=0\/(55296<=n/\n<=57343)\/1114111<n)=true from Ga (by omega)];rfl
   ·have:(bif decide ((n:Int)>=55296)then decide ((n:Int)<=57343)else false)=false:=by
     by_cases h2:55296<=n
     ·rw[Ga (show(n:Int)>=55296 by omega),La (show¬(n:Int)<=57343 by omega)];rfl
     ·rw[La (show¬(n:Int)>=55296 by omega)];rfl
    rw[this,Ba];by_cases h3:1114111<n
    ·rw[Ga (show(n:Int)>1114111 by omega),show decide (n=0\/(55296<=n/\n<=57343)\/1114111<n)=true from Ga (by omega)]
    ·rw[La (show¬(n:Int)>1114111 by omega),show decide (n=0\/(55296<=n/\n<=57343)\/1114111<n)=false from La (by omega)]
 rw[hc];by_cases hh:n=0\/(55296<=n/\n<=57343)\/1114111<n
 ·rw[Ga hh,Ka hh];rfl
 ·rw[La hh,Ja hh,Ba];have td: ∀k:Nat,0<k->w64 (Int.tdiv (n:Int) (k:Int))=((n / k:Nat):Int):=by intro k hk;have:n / k<=n:=Nat.div_le_self n k;rw[show Int.tdiv (n:Int) (k:Int)=((n / k:Nat):Int)from rfl];generalize n / k=m at*;rw[zM (by omega) (by omega)]
  have tm: ∀(a:Nat),Int.tmod (a:Int) 64=((a%64:Nat):Int):=fun a=>rfl;have add: ∀(a b:Nat),a+b<=1000000->w64 ((a:Int)+(b:Int))=((a+b:Nat):Int):=by intro a b h;rw[zM (by omega) (by omega)];omega
  have b1: ∀a:Nat,a%64<64:=fun a=>Uf _ (by omega);by_cases h1:n<128
  ·rw[Ga (by omega),Ca,Ka h1,El (by omega)];rfl
  ·rw[La (by omega),Ba,Ja h1];by_cases h2:n<2048
   ·rw[Ga (by omega),Ca,Ka h2,show(64:Int)=((64:Nat):Int)from rfl,td 64 (by omega),show Int.tmod (n:Int) ((64:Nat):Int)=((n%64:Nat):Int)from rfl,show(192:Int)=((192:Nat):Int)from rfl,add _ _ (by omega),show(128:Int)=((128:Nat):Int)from rfl,add _ _ (by have:=b1 n;omega),El (by omega),Aa,El (by have:=b1 n;omega)];rfl
   ·rw[La (by omega),Ba,Ja h2];by_cases h3:n<65536
    ·rw[Ga (by omega),Ca,Ka h3,show(4096:Int)=((4096:Nat):Int)from rfl,td 4096 (by omega),show(64:Int)=((64:Nat):Int)from rfl,td 64 (by omega),show Int.tmod (n:Int) ((64:Nat):Int)=((n%64:Nat):Int)from rfl,show Int.tmod ((n / 64:Nat):Int) ((64:Nat):Int)=((n / 64%64:Nat):Int)from rfl,show(224:Int)=((224:Nat):Int)from rfl,add _ _ (by omega),show(128:Int)=((128:Nat):Int)from rfl,add _ _ (by have:=b1 n;omega),add _ _ (by have:=b1 (n / 64);omega),
      El (by omega),Aa,El (by have:=b1 (n / 64);omega),Aa,El (by have:=b1 n;omega)];rfl
    ·rw[La (by omega),Ba,Ja h3,show(262144:Int)=((262144:Nat):Int)from rfl,td 262144 (by omega),show(4096:Int)=((4096:Nat):Int)from rfl,td 4096 (by omega),show(64:Int)=((64:Nat):Int)from rfl,td 64 (by omega),show Int.tmod (n:Int) ((64:Nat):Int)=((n%64:Nat):Int)from rfl,show Int.tmod ((n / 64:Nat):Int) ((64:Nat):Int)=((n / 64%64:Nat):Int)from rfl,show Int.tmod ((n / 4096:Nat):Int) ((64:Nat):Int)=((n / 4096%64:Nat):Int)from rfl,
      show(240:Int)=((240:Nat):Int)from rfl,add _ _ (by omega),show(128:Int)=((128:Nat):Int)from rfl,add _ _ (by have:=b1 n;omega),add _ _ (by have:=b1 (n / 64);omega),add _ _ (by have:=b1 (n / 4096);omega),
      El (by omega),Aa,El (by have:=b1 (n / 4096);omega),Aa,El (by have:=b1 (n / 64);omega),Aa,El (by have:=b1 n;omega)];rfl
theorem Vq{s r:Str}{c:UInt8}(hr:c::r<:+s):List.drop (beh s (c::r)) (List.take (beh s r) s)=[c]:=iI (t:=[c]) (e:=r) hr rfl
theorem fq{s r:Str}{c:UInt8}(hr:c::r<:+s):(decide (0<=ix s (c::r))&&(decide (ix s (c::r)<=ix s r)&&decide (ix s r<=(s.length:Int))))=true:=by
 have h1:=Li s r;have h2:=hr.length_le;rw[Fa]at h2;have h3:beh s (c::r)<=beh s r:=by unfold beh;rw[Fa];omega
 rw[Ga (by unfold ix;omega),Ga (by unfold ix;omega),Ga (by unfold ix;omega)];rfl
theorem zHy{c:UInt8}:decide (hexI c>=0)=Qw c:=by
 have:=gu c;unfold hexI at this ⊢;cases Qw c with
 |true=>simp only[Ee];exact Ga (by omega)
 |false=>rfl
theorem DF{s r:Str}{c:UInt8}(hs:s.length<=100000)(hr:c::r<:+s):ZB (s,ix s (c::r))=some ((zA r).1,ix s (zA r).2):=by
 have hl:=Zq hr;have hle:=hr.length_le;rw[Fa]at hle;unfold ZB mo;simp only[ix_1 hs hr,za,Aa];cases r with
 |nil=>
  have:ix s []=(s.length:Int):=by unfold ix beh;rw[Va];rfl
  rw[this,Ga (by omega),Ca];show some (Hl,(s.length:Int))=some (Hl,ix s []);rw[this]
 |cons d t=>
  have hlt:beh s (d::t)<s.length:=by unfold beh;rw[Fa]at *; omega
  rw[La (by unfold ix;omega),Ba,QX hl,Aa,bZ,Aa,gu];cases hx:Qw d with
  |false=>
   rw[Ra,Ca];simp only[ix_1 hs hl];rw[zo (fq hl),Oa,Oa,Vq hl];have:zA (d::t)=([d],t):=by show(if Qw d then _ else _)=_;rw[hx,Ja (by decide)]
   rw[this]
  |true=>
   rw[Ta,Ba];have he:zA (d::t)=(xg (hexes 6 0 (d::t)).1,unsp (hexes 6 0 (d::t)).2):=by show(if Qw d then _ else _)=_;rw[hx,Ka rfl]
   rw[he];have hq0:(hexes 6 0 (d::t)).2<:+s:=(Gz 6 0 _).trans hl;have hlt6:=JE 6 0 (d::t);rw[show 16 ^ 6*(0+1)=16777216 from rfl]at hlt6;rw[Zk (s:=((0:Int),ix s (d::t))) (x:=(((hexes 6 0 (d::t)).1:Int),ix s (hexes 6 0 (d::t)).2)) (ZI (fun z=> ∃(n i:Nat) (q:Str),z=((n:Int),ix s q)/\q<:+s/\beh s q=beh s (d::t)+i/\i<=6/\n<16 ^ i/\hexes (6 - i) n q=hexes 6 0 (d::t)) (fun z=>s.length - z.2.toNat) _ ?_ ⟨0,0,d::t,rfl,hl,rfl,by omega,by decide,rfl⟩)]
   ·simp only[Q7 hs hq0,Aa,GD,zJU hlt6];cases hh:(hexes 6 0 (d::t)).2 with
    |nil=>rfl
    |cons e u=> rw[hh]at hq0;rw[show atS (e::u) 0=e from rfl];show(zP (bif spB e then _ else _) _)=some (_,ix s (if spB e then u else e::u));rw[ix_1 hs hq0];cases spB e<;>rfl
   ·rintro _ ⟨n,i,q,rfl,hq,hb,hi,hn,hex⟩;have hn':n<16777216:=Nc hn (vg (by omega) hi:16 ^ i<=16 ^ 6);have hb6:=Li s (d::t);have hw6:w64 (ix s (d::t)+6)=((beh s (d::t)+6:Nat):Int):=BP (n:=6) hs (by omega);simp only[hw6];have hc2:decide (ix s q<((beh s (d::t)+6:Nat):Int))=decide (i<6):=by rw[Bg];unfold ix;omega
    rw[hc2];cases q with
    |nil=>
     have:ix s []=(s.length:Int):=by unfold ix beh;rw[Va];rfl
     rw[this,La (by omega),Ba];simp only[zU,Aa,Ba];refine .inr (.inl ⟨_,rfl,?_⟩);rw[<-hex,Py _ _ [] (by decide),this]
    |cons e u=>
     have hlu:=hq.length_le;rw[Fa]at hlu;have hlt':beh s (e::u)<s.length:=by unfold beh;rw[Fa];omega
     rw[Ga (by unfold ix;omega),Ca,QX hq];rcases ic i 6 with h6|h6
     ·rw[Ga h6];simp only[zu,Aa,bZ,Ca,zHy];cases hxe:Qw e with
      |true=>
       have hd:=Ry hxe;have hI:hexI e=(hexN e:Int):=by unfold hexI;rw[Ka hxe]
       rw[Ca,hI,ix_1 hs hq];refine .inl ⟨_,rfl,⟨16*n+hexN e,i+1,u,?_,Zq hq,?_,by omega,by rw[Dg];omega,?_⟩,?_⟩
       ·rw[zM (n:=16*(n:Int)) (by omega) (by omega),zM (by omega) (by omega)];refine Prod.ext (by show 16*(n:Int)+(hexN e:Int)=((16*n+hexN e:Nat):Int);omega) rfl
       ·have:beh s u=beh s (e::u)+1:=by unfold beh;rw[Fa];omega
        omega
       ·rw[<-hex,show 6 - i=(6 - (i+1))+1 by omega,bF hxe]
       ·show s.length - beh s u<s.length - beh s (e::u);unfold beh;rw[Fa];omega
      |false=> rw[Ba];refine .inr (.inl ⟨_,rfl,?_⟩);rw[<-hex,Py _ _ _ (show Qw (atS (e::u) 0)=false from hxe)]
     ·rw[La (by omega)];simp only[zU,Aa,Ba];refine .inr (.inl ⟨_,rfl,?_⟩);rw[<-hex,show 6 - i=0 by omega];rfl
theorem WI{s r:Str}(hs:s.length<=100000)(hr:r<:+s):Qk (s,ix s r)=some ((zt r).1,ix s (zt r).2):=by
 unfold Qk;refine Vl (fun z=> ∃(q acc:Str),z=(ix s q,acc)/\q<:+s/\acc.length+4*q.length<=4*s.length/\acc++(zt q).1=(zt r).1/\(zt q).2=(zt r).2) (fun z=>s.length - z.1.toNat) _ ?_ ⟨r,[],rfl,hr,by have:=hr.length_le;rw[Va];omega,rfl,rfl⟩;rintro _ ⟨q,acc,rfl,hq,hl,he1,he2⟩;simp only[za];cases q with
 |nil=>
  have:ix s []=(s.length:Int):=by unfold ix beh;rw[Va];rfl
  have hd:decide (ix s []<(s.length:Int))=false:=La (by rw[this];omega);simp only[hd,zU,Aa,Ba];rw[Qx]at he1 he2;exact .inr (.inr (by rw[<-he1,<-he2,Db]))
 |cons c t=>
  have hlen:=hq.length_le;rw[Fa]at hlen hl;have hlt:beh s (c::t)<s.length:=by unfold beh;rw[Fa];omega
  have hd:decide (ix s (c::t)<(s.length:Int))=true:=Ga (by unfold ix;omega);rw[zZ]at he1 he2;simp only[hd,zu,QX hq,Aa,WE,Ca,ix_1 hs hq];cases hlet:letB c with
  |true=> rw[hlet,Ka rfl]at he1 he2;rw[Ca,zo (fq hq),Oa,Oa,Vq hq,zo (zV.2 (by rw[Jb];omega))];refine .inl ⟨_,rfl,⟨t,acc++[c],rfl,Zq hq,by rw[Ea,Jb];omega,by rw[<-he1,Na];rfl,he2⟩,?_⟩;show s.length - beh s t<s.length - beh s (c::t);unfold beh;rw[Fa];omega
  |false=>
   rw[hlet,Ja (by decide)]at he1 he2;rw[Ba,xu hs hq];simp only[Aa];cases hesc:escS (c::t)with
   |true=> rw[hesc,Ka rfl]at he1 he2;have h4:=xq t;have h5:=Zu t;rw[Ca,DF hs hq];simp only[Aa];rw[zo (zV.2 (by omega))];refine .inl ⟨_,rfl,⟨_,_,rfl,(Zw t).trans (Zq hq),by rw[Ea];omega,by rw[<-he1,Na],he2⟩,?_⟩;show s.length - beh s (zA t).2<s.length - beh s (c::t);unfold beh;rw[Fa];omega
   |false=> rw[hesc,Ja (by decide)]at he1 he2;exact .inr (.inr (by rw[Ba,<-he1,<-he2,Db]))
theorem Y2{R:Type}{s r:Str}(hs:s.length<=100000)(hr:r<:+s):
  (bif bif (((atS r 0).toNat:Nat):Int)==43 then true else(((atS r 0).toNat:Nat):Int)==45 then some (LX.out (w64 (ix s r+1)))else some (LX.out (ix s r)))=(some (LX.out (ix s (unsign r))):Option (LX Int R)):=by
 rw[b_43,b_45,Rs];unfold unsign Lg;cases r with
 |nil=>rfl
 |cons c t=> rw[ix_1 hs hr];show(bif (c==43||c==45)then _ else _)=some (LX.out (ix s (if(c==43||c==45)=true then t else c::t)));cases (c==43||c==45)<;>rfl
theorem zKB{R:Type}{s r:Str}(hs:s.length<=100000)(hr:r<:+s):
  (bif (((atS r 0).toNat:Nat):Int)==46 then some (LX.out (w64 (ix s r+1)))else some (LX.out (ix s r)))=(some (LX.out (ix s (undot r))):Option (LX Int R)):=by
 rw[b_46];unfold undot;cases r with
 |nil=>rfl
 |cons c t=> rw[ix_1 hs hr];show(bif (c==46)then _ else _)=some (LX.out (ix s (if(c==46)=true then t else c::t)));cases (c==46)<;>rfl
theorem zDI{s r:Str}(hr:r<:+s):undot r<:+s:=by
 unfold undot;split
 ·exact Xk hr 1
 ·exact hr
theorem zAc{s r:Str}(hs:s.length<=100000)(hr:r<:+s):Rw (s,ix s r)=some (nbS r):=by unfold Rw;have hu:=Nv hr;simp only[za,Q7 hs hr,Aa,Y2 hs hr,zk,Q7 hs hu,zKB hs hu,Q7 hs (zDI hu),Tk];rfl
theorem zFm{s r:Str}(hs:s.length<=100000)(hr:r<:+s):QH (s,ix s r)=some (ix s (zJ r).1,(zJ r).2):=by
 unfold QH;have hu:=Nv hr;have hq:Ag r<:+s:=Vk digB hu;simp only[za,Q7 hs hr,Aa,Y2 hs hr,zk,LJ hs hu];rw[show past digB (unsign r)=Ag r from rfl];rw[Mj];generalize Ag r=q at hq ⊢;have hw:(Zi q).1<:+s:=IK hq;have e2:((zB (s,ix s q)).bind fun y4=>(zq (y4==46) (zB (s,w64 (ix s q+1))) (default:Int)).bind fun y5=>(zq (y4==46) (zC y5) (default:Bool)).bind fun y6=>
   bif bif y4==46 then y6 else false then(Qt (s,w64 (ix s q+1))).bind fun y7=>some (LX.out (y7,false))else some (LX.out (ix s q,true)))=(some (LX.out (ix s (Zi q).1,(Zi q).2)):Option (LX (Int×Bool) (Int×Bool))):=by
  rw[Q7 hs hq,Aa,pI hs hq,b_46];unfold Zi;cases h46:atS q 0==46 with
  |false=>rfl
  |true=>
   simp only[zu,Aa,Tk,Ca,aa];cases hd:digB (atS q 1)with
   |false=>rfl
   |true=>
    cases q with
    |nil=>exact absurd hd (by decide)
    |cons c t=> rw[ix_1 hs hq,LJ hs (Zq hq),Ca,Ka rfl];rfl
 rw[e2,zk];obtain⟨w,fl⟩: ∃w fl,Zi q=(w,fl):=⟨_,_,rfl⟩;obtain⟨fl,hwq⟩:=fl;rw[hwq]at hw ⊢;simp only at hw ⊢;rw[Q7 hs hw];simp only[Aa,zKl,b_69,Rs];unfold expS;cases he:atS w 0==101||atS w 0==69 with
 |false=>rfl
 |true=>
  cases w with
  |nil=>exact absurd he (by decide)
  |cons c t=>
   have ht:=Zq hw;have hut:=Nv ht;rw[Ca,Ka rfl,ix_1 hs hw,Q7 hs ht];simp only[Aa];have e3:(bif ((((atS t 0).toNat:Nat):Int)==43||(((atS t 0).toNat:Nat):Int)==45)then some (LX.out (ix s (c::t),fl,w64 (ix s t+1)))else some (LX.out (ix s (c::t),fl,ix s t)))=(some (LX.out (ix s (c::t),fl,ix s (unsign t))):Option (LX (Int×Bool×Int) (LX (Int×Bool) (Int×Bool)))):=by
    rw[b_43,b_45];unfold unsign Lg;cases t with
    |nil=>rfl
    |cons d u=> rw[ix_1 hs ht];show(bif (d==43||d==45)then _ else _)=some (LX.out (_,_,ix s (if(d==43||d==45)=true then u else d::u)));cases (d==43||d==45)<;>rfl
   rw[e3,zk];simp only[Q7 hs hut,Aa,Tk,LJ hs hut];rw[show(c::t).drop 1=t from rfl];cases digB (atS (unsign t) 0)<;>rfl
theorem CK(v c:Int):(if v<c then v else c)=(if c<v then c else v):=by split<;>split<;>omega
theorem DT {S X R:Type} {step:S->Option (LO S X R)} {l:Str} {cap:Nat} (hl:l.all digB=true) (hc:cap<=1000000000000) (st:Int->Nat->S) (out:Int->X) (μ:S->Nat)
  (hμ: ∀v i,i<=l.length->μ (st v i)=l.length - i)
  (h1: ∀(v:Int) (i:Nat) (hi:i<l.length),step (st v i)=some (.again (st (if(cap:Int)<w64 (w64 (10*v)+w64 (wu8 ((l[i].toNat:Int) - 48)))then(cap:Int)else w64 (w64 (10*v)+w64 (wu8 ((l[i].toNat:Int) - 48)))) (i+1))))
  (h2: ∀v:Int,step (st v l.length)=some (.out (out v))):Mg step (st 0 0)=some (.out (out ((capF cap 0 l:Nat):Int))):=by
 refine ZI (fun s=> ∃i:Nat,i<=l.length/\s=st ((capF cap 0 (l.take i):Nat):Int) i) μ _ ?_ ⟨0,by omega,rfl⟩;rintro _ ⟨i,hi,rfl⟩;rcases ic i l.length with h|h
 ·refine .inl ⟨_,h1 _ i h,⟨i+1,by omega,?_⟩,by rw[hμ _ _ (by omega),hμ _ _ hi];omega⟩;have hd:=Br (Ab.1 hl _ (Kb h));have ht:capF cap 0 (l.take (i+1))=min cap (decN (capF cap 0 (l.take i)) l[i]):=by rw[jb h,sK]
  have hb:=Ml cap (l.take i) 0 (Mc _);have hu:wu8 ((l[i].toNat:Int) - 48)=((l[i].toNat - 48:Nat):Int):=by show IntKind.u8.wrap _=_;rw[IntKind.wrap_u8];omega
  unfold decN at ht;rw[hu,zM (n:=10*_) (by omega) (by omega),zM (n:=((l[i].toNat - 48:Nat):Int)) (by omega) (by omega),zM (by omega) (by omega)];congr 1;split<;>omega
 ·have:i=l.length:=by omega
  subst this;refine .inr (.inl ⟨_,h2 _,?_⟩);rw[Oc]
theorem zD6(cap:Nat): ∀(l:Str) (n:Nat),capF cap (min cap n) l=min cap (valG n l)\/l=[]
 |[],n=> .inr rfl
 |c::l,n=>by
  left;have key: ∀(l:Str) (n m:Nat),min cap n=min cap m->min cap (capF cap n l)=min cap (valG m l):=by
   intro l
   induction l with
   |nil=>intro n m h;exact h
   |cons c l ih=> intro n m h;rw[capF,show valG m (c::l)=valG (decN m c) l from rfl];refine ih _ _ ?_;unfold decN;omega
  have h1:=key (c::l) (min cap n) n (by omega);have h2:=Ml cap (c::l) (min cap n) (Nat.min_le_left ..);omega
theorem DR{cap:Nat}{l:Str}(hl:l≠[]):capF cap 0 l=min cap (valG 0 l):=by have:=zD6 cap l 0;rw[Nat.min_zero]at this;exact this.resolve_right hl
theorem FU: ∀(k n:Nat),1<=n->n<=Pg->12<=k->Mh k n=Pg:=by
 have hm:Pg=1000000000000:=rfl;have key: ∀(k n:Nat),n<=Pg->Pg<=n*10 ^ k->Mh k n=Pg:=by
  intro k
  induction k with
  |zero=>intro n h1 h2;rw[Mh];rw[Nat.pow_zero,Tf]at h2;omega
  |succ k ih=>
   intro n h1 h2;have h0:n≠0:=by rintro rfl;simp at h2;omega
   rw[Mh];split
   ·omega
   ·refine ih _ (Nat.min_le_left ..) ?_;have e:n*10 ^ (k+1)=10*n*10 ^ k:=by rw[Dg,Ph 10 n,og,Ph (10 ^ k) 10]
    have hpos:0<10 ^ k:=jf (by omega);rcases Nat.le_total Pg (10*n)with h|h
    ·rw[Nat.min_eq_left h];exact Ie _ hpos
    ·rw[Nat.min_eq_right h,<-e];exact h2
 intro k n h1 h2 h3;refine key k n h2 ?_;have h4:10 ^ 12<=10 ^ k:=vg (by omega) h3;have h5:1*10 ^ k<=n*10 ^ k:=Tc _ h1;have h6:(10:Nat) ^ 12=1000000000000:=by decide
 omega
theorem aP: ∀k,Mh k 0=0
 |0=>rfl
 |k+1=>by rw[Mh,Ka (.inl rfl)]
theorem zFE{A:Str}{p q:Int}(hA:A.length<=9500)(hp:(p=q)\/(400<p/\400<q)\/(p< -9600/\q< -9600)):thoV A p=thoV A q:=by
 rcases hp with rfl|⟨h1,h2⟩|⟨h1,h2⟩
 ·rfl
 ·unfold thoV;rw[Ja (by omega),Ja (by omega)];have hle:=Ml Pg A 0 (Mc _);by_cases h0:capF Pg 0 A=0
  ·rw[h0,aP,aP]
  ·rw[FU _ _ (by omega) hle (by omega),FU _ _ (by omega) hle (by omega)]
 ·unfold thoV;rw[Ka (by omega),Ka (by omega),show((A.length:Int)+p).toNat=0 by omega,show((A.length:Int)+q).toNat=0 by omega,show p.toNat=0 by omega,show q.toNat=0 by omega]
def expR:Option (UInt8×Str×Str)->Int
 |none=>0
 |some (_,s,x)=>if s==[45]then -((capF 10000 0 x:Nat):Int)else((capF 10000 0 x:Nat):Int)
theorem zHn{N:NumP}(hok:N.ok=true)(hA:(N.D++N.F.getD []).length<=9500):thoV (N.D++N.F.getD []) (3+expR N.X - ((N.F.getD []).length:Int))=thoV (N.D++N.F.getD []) (3+expV N.X - ((N.F.getD []).length:Int)):=by
 refine zFE hA ?_;rw[Ea]at hA;unfold NumP.ok at hok;simp only[Da]at hok;cases hX:N.X with
 |none=>exact .inl rfl
 |some ex=>
  obtain⟨e,s,x⟩:=ex;rw[hX]at hok;simp only[Da]at hok;have hx:x≠[]:=by rintro rfl;exact absurd hok.2.1.2 (by decide)
  unfold expR expV;simp only;rw[DR hx,DR hx];by_cases hv:valG 0 x<10000
  ·left;rw[Nat.min_eq_right (by omega),Nat.min_eq_right (by omega)]
  ·rw[Nat.min_eq_left (by omega)];have h2:10000<=min 1048576 (valG 0 x):=by omega
   split
   ·right;right;omega
   ·right;left;omega
end Go.Lv.VT
