/- What is read of a text, and of a longer one. -/
import Derived.Test.YtcdeccnjlkkejaaGreatDoorNb
import Derived.Test.YtcdeccnjlkkejaaGreatDoorLaw
import Derived.Test.YtcdeccnjlkkejaaGreatDoorNam
set_option linter.unusedSimpArgs false
set_option linter.unusedVariables false
namespace Go.Lv.VT
set_option maxRecDepth 100000
theorem Aj{q:Str}{n:Nat}(x:Str)(h:n<q.length):atS (q++x) n=atS q n:=by
 unfold atS
 grind
theorem Am{p:UInt8->Bool}(x:Str): ∀{q:Str},past p q≠[]->past p (q++x)=past p q++x
 |[],h=>absurd rfl h
 |c::r,h=>by
  rw[ma,past,past];rw[past]at h;cases hp:p c with
  |true=>rw[hp,Ka rfl]at h;rw[Ka rfl,Ka rfl];exact Am x h
  |false=>rfl
theorem SB{p:UInt8->Bool}(x:Str): ∀{q:Str},past p q≠[]->(q++x).takeWhile p=q.takeWhile p
 |[],h=>absurd rfl h
 |c::r,h=>by
  rw[ma,List.takeWhile_cons,List.takeWhile_cons];rw[past]at h;cases hp:p c with
  |true=>rw[hp,Ka rfl]at h;rw[Ka rfl,Ka rfl,SB x h]
  |false=>rfl
theorem jQ(x:Str): ∀{k n:Nat} {l:Str},(hexes k n l).2≠[]->hexes k n (l++x)=((hexes k n l).1,(hexes k n l).2++x)
 |0,n,l,_=>rfl
 |k+1,n,[],h=>absurd rfl h
 |k+1,n,c::r,h=>by
  rw[ma,hexes,hexes];rw[hexes]at h;split
  ·rename_i hc;rw[Ka hc]at h;exact jQ x h
  ·rfl
theorem zAP{l:Str}(x:Str)(h:l≠[]):unsp (l++x)=unsp l++x:=by
 cases l with
 |nil=>grind
 |cons c r=> show(if spB c then r++x else c::(r++x))=(if spB c then r else c::r)++x;split<;>rfl
theorem KE{r:Str}(x:Str)(h:(zq r).2≠[]):zq (r++x)=((zq r).1,(zq r).2++x):=by
 cases r with
 |nil=>exact absurd rfl h
 |cons c r=>
  have e: ∀t:Str,zq (c::t)=if Qb c then(Uh (hexes 6 0 (c::t)).1,unsp (hexes 6 0 (c::t)).2)else([c],t):=fun t=>rfl;rw[ma,e,e];rw[e]at h;split
  ·rename_i hc;rw[Ka hc]at h;have hne:(hexes 6 0 (c::r)).2≠[]:=by intro e0;rw[e0]at h;exact h rfl
   rw[show c::(r++x)=(c::r)++x from rfl,jQ x hne,zAP x hne]
  ·rfl
theorem Px{c:UInt8}{r:Str}(x:Str)(h:r≠[]\/c≠92):escS (c::(r++x))=escS (c::r):=by
 unfold escS;show(c==92&& !(atS (r++x) 0==10))=(c==92&& !(atS r 0==10));rcases h with h|h
 ·cases r with
  |nil=>grind
  |cons d t=>rfl
 grind
theorem Ru{q:Str}(x:Str)(h:(zm q).2≠[]):zm (q++x)=((zm q).1,(zm q).2++x):=by
 match q with
 |[]=>rw[qN]at h;grind
 |c::r=>
  rw[ma,zG,zG];rw[zG]at h;cases hl:letB c with
  |true=> rw[hl,Ka rfl]at h;simp only[Wd];rw[Ru x h]
  |false=>
   rw[hl,Ga (by decide)]at h;simp only[ic,Ye];cases he:escS (c::r)with
   |true=>
    rw[he,Ka rfl]at h;have h2:(zq r).2≠[]:=by intro e;simp only[e,qN]at h;exact h rfl
    have hr:r≠[]:=by rintro rfl;exact h2 rfl
    rw[Px x (.inl hr),he];simp only[Wd];rw[KE x h2];have:=zP r;simp only;rw[Ru x h]
   |false=>
    have hr:r≠[]\/c≠92:=by
     cases r with
     |nil=> right;rintro rfl;exact absurd he (by decide)
     |cons d t=>left;simp
    rw[Px x hr,he];grind
termination_by q.length
decreasing_by
 all_goals grind
theorem vD{m:UInt8}{q:Str}(x:Str)(h:(zZ m q).2≠[]):zZ m (q++x)=((zZ m q).1,(zZ m q).2++x):=by
 match q with
 |[]=>rw[Rq]at h;grind
 |c::r=>
  rw[ma,qR,qR];rw[qR]at h;cases h1:c==m with
  |true=>grind
  |false=>
   rw[h1,Ga (by decide)]at h;simp only[ic,Ye];cases h2:c==10 with
   |true=>grind
   |false=>
    rw[h2,Ga (by decide)]at h;simp only[ic,Ye];cases h3:c==92 with
    |false=> rw[h3,Ga (by decide)]at h;simp only[ic,Ye];rw[vD x h]
    |true=>
     rw[h3,Ka rfl]at h;simp only[Wd];cases hr:r with
     |nil=>grind
     |cons d t=>
      rw[hr]at h;have hrl:r.length=t.length+1:=by rw[hr];rfl
      rw[ma,show(d::(t++x)).isEmpty=false from rfl,show(d::t).isEmpty=false from rfl];simp only[ic,Ye];rw[show(d::t).isEmpty=false from rfl,Ga (by decide)]at h;rw[show atS (d::(t++x)) 0=atS (d::t) 0 from rfl];cases h4:atS (d::t) 0==10 with
      |true=> rw[h4,Ka rfl]at h;simp only[Wd];exact vD (q:=t) x h
      |false=>
       rw[h4,Ga (by decide)]at h;simp only[ic,Ye];have h5:(zq (d::t)).2≠[]:=by intro e;simp only[e,Rq]at h;exact h rfl
       rw[show d::(t++x)=(d::t)++x from rfl,KE x h5];have:=zP (d::t);simp only;rw[vD x h]
termination_by q.length
decreasing_by
 all_goals grind
theorem jB{q:Str}(x:Str)(h:badS q≠[]):badS (q++x)=badS q++x:=by
 match q with
 |[]=>rw[Oy]at h;grind
 |c::r=>
  rw[ma,Pz,Pz];rw[Pz]at h;cases h1:c==41 with
  |true=>grind
  |false=>
   rw[h1,Ga (by decide)]at h;simp only[ic,Ye];cases he:escS (c::r)with
   |true=>
    rw[he,Ka rfl]at h;have h5:(zq r).2≠[]:=by intro e;rw[e,Oy]at h;exact h rfl
    have hr:r≠[]:=by rintro rfl;exact h5 rfl
    rw[Px x (.inl hr),he];simp only[Wd];rw[KE x h5];have:=zP r;exact jB x h
   |false=>
    rw[he,Ga (by decide)]at h;have hr:r≠[]\/c≠92:=by left;rintro rfl;rw[Oy]at h;exact h rfl
    rw[Px x hr,he];simp only[ic,Ye];exact jB x h
termination_by q.length
decreasing_by
 all_goals grind
theorem UG{q:Str}(x:Str)(h:(urlS q).2≠[]):urlS (q++x)=((urlS q).1,(urlS q).2++x):=by
 match q with
 |[]=>rw[Dq]at h;grind
 |c::r=>
  rw[ma,Im,Im];rw[Im]at h;cases h1:c==41 with
  |true=>grind
  |false=>
   rw[h1,Ga (by decide)]at h;simp only[ic,Ye];cases h2:spB c with
   |true=>
    rw[h2,Ka rfl]at h;simp only[Wd];cases hp:past spB r with
    |nil=>grind
    |cons d t=>
     rw[Am x (by rw[hp];simp),hp];rw[hp]at h;simp only[ma]at h ⊢;cases h3:d==41 with
     |true=>grind
     |false=> rw[h3,Ga (by decide)]at h;simp only[ic,Ye];rw[show d::(t++x)=(d::t)++x from rfl,jB x h]
   |false=>
    rw[h2,Ga (by decide)]at h;simp only[ic,Ye];have key:(c=92->r≠[])->escS (c::(r++x))=escS (c::r):=by
     intro hh;refine Px x ?_;by_cases e:c=92
     ·exact .inl (hh e)
     ·exact .inr e
    have hr:c=92->r≠[]:=by
     rintro rfl rfl;have e1:escS [92]=true:=by decide
     rw[e1,show((92:UInt8)==92&& !true)=false from rfl,Rf]at h;cases hu:((92:UInt8)==34||(92:UInt8)==39||(92:UInt8)==40||unB 92)with
     |true=>exact absurd hu (by decide)
     |false=> rw[hu,Ga (by decide),Ka (by decide)]at h;exact absurd (by show(urlS (zq []).2).2=[];rw[show(zq []).2=[]from rfl,Dq]) h
    rw[key hr];cases h3:c==34||c==39||c==40||unB c||c==92&& !escS (c::r)with
    |true=> rw[h3,Ka rfl]at h;simp only[Wd];rw[show c::(r++x)=(c::r)++x from rfl,jB x h]
    |false=>
     rw[h3,Ga (by decide)]at h;simp only[ic,Ye];cases h4:c==92 with
     |true=>
      rw[h4,Ka rfl]at h;simp only[Wd];have h5:(zq r).2≠[]:=by intro e;simp only[e,Dq]at h;exact h rfl
      rw[KE x h5];have:=zP r;simp only;rw[UG x h]
     |false=> rw[h4,Ga (by decide)]at h;simp only[ic,Ye];rw[UG x h]
termination_by q.length
decreasing_by
 all_goals grind
theorem Eo{q:Str}(x:Str)(h:q≠[]):unsign (q++x)=unsign q++x/\sgOf (q++x)=sgOf q:=by
 cases q with
 |nil=>grind
 |cons c r=> unfold unsign sgOf;show(if Sg c then r++x else c::(r++x))=(if Sg c then r else c::r)++x/\_;refine⟨by split<;>rfl,rfl⟩
def Hg(q:Str):Str:=past digB (unsign q)
theorem xP{q x:Str}(h:(zS q).1≠[])(hd:q=[46]->digB (atS x 0)=false):zS (q++x)=((zS q).1++x,(zS q).2)/\dotP (q++x)=dotP q:=by
 unfold zS dotP;unfold zS at h;cases q with
 |nil=>exact absurd rfl h
 |cons c r=>
  have hc:(atS ((c::r)++x) 0==46&&digB (atS ((c::r)++x) 1))=(atS (c::r) 0==46&&digB (atS (c::r) 1)):=by
   show(c==46&&digB (atS (r++x) 0))=(c==46&&digB (atS r 0));cases r with
   |nil=>
    cases h46:c==46 with
    |false=>rfl
    |true=> rw[Lb]at h46;subst h46;show(true&&digB (atS x 0))=(true&&digB (atS [] 0));rw[hd rfl];rfl
   |cons d t=>rfl
  rw[hc];cases hh:(atS (c::r) 0==46&&digB (atS (c::r) 1))with
  |false=>grind
  |true=>
   rw[hh,Ka rfl]at h;simp only[Wd];rw[show((c::r)++x).drop 1=r++x from rfl,show(c::r).drop 1=r from rfl];have h':past digB r≠[]:=h;rw[Am x h',SB x h']
   grind
theorem zB5{w x:Str}(hw:w≠[])(h: ∀r,expS w=some r->r≠[])(hn:expS w=none->expS (w++x)=none):
  expS (w++x)=(expS w).map (· ++x)/\expP (w++x)=expP w:=by
 have hP: ∀q:Str,expP q=if(expS q).isSome then some (atS q 0,sgOf (q.drop 1),(unsign (q.drop 1)).takeWhile digB)else none:=by
  intro q;unfold expP expS;cases atS q 0==101||atS q 0==69 with
  |false=>rfl
  |true=>
   grind
 cases he:expS w with
 |none=>
  grind
 |some r=>
  have hr:=h r he;cases w with
  |nil=>grind
  |cons c t=>
   have he':=he;unfold expS at he';cases h1:atS (c::t) 0==101||atS (c::t) 0==69 with
   |false=>grind
   |true=>
    rw[h1,Ka rfl]at he';cases h2:digB (atS (unsign ((c::t).drop 1)) 0)with
    |false=>grind
    |true=>
     rw[h2,Ka rfl]at he';have hrr:past digB (unsign t)=r:=by injection he'
     have ht:t≠[]:=by rintro rfl;exact absurd (show digB (atS (unsign []) 0)=true from h2) (by decide)
     obtain⟨u1,u2⟩:=Eo x ht;have hun:unsign t≠[]:=by intro e;rw[show(c::t).drop 1=t from rfl,e]at h2;exact absurd h2 (by decide)
     have hexp:expS ((c::t)++x)=some (r++x):=by unfold expS;rw[show atS ((c::t)++x) 0=atS (c::t) 0 from rfl,h1,Ka rfl,show((c::t)++x).drop 1=t++x from rfl,u1];have:atS (unsign t++x) 0=atS (unsign t) 0:=Aj x (ae.2 hun);rw[this,show digB (atS (unsign t) 0)=true from h2,Ka rfl,Am x (by grind),hrr]
     refine⟨by rw[hexp];rfl,?_⟩;rw[hP,hP,hexp,he];simp only[Option.isSome_some,Wd];rw[show((c::t)++x).drop 1=t++x from rfl,show(c::t).drop 1=t from rfl,u1,u2,SB x (by grind)];rfl
theorem QH(q:Str):zC q=(match expS (zS (Hg q)).1 with|some r=>(r,false)|none=>zS (Hg q)):=rfl
theorem kG{q x:Str}(h:(zC q).1≠[])(hd:Hg q=[46]->digB (atS x 0)=false)(hn:expS (zS (Hg q)).1=none->expS ((zS (Hg q)).1++x)=none):
  zC (q++x)=((zC q).1++x,(zC q).2)/\numP (q++x)=numP q:=by
 rw[QH]at h;have hsome: ∀r,expS (zS (Hg q)).1=some r->r≠[]:=by intro r hr;rw[hr]at h;exact h
 have hw:(zS (Hg q)).1≠[]:=by intro e;rw[e,show expS []=none from rfl]at h;exact h e
 have h2:Hg q≠[]:=by intro e;rw[e]at hw;exact hw rfl
 have hq:q≠[]:=by rintro rfl;exact h2 rfl
 obtain⟨u1,u2⟩:=Eo x hq;have e2:Hg (q++x)=Hg q++x:=by unfold Hg;rw[u1];exact Am x h2
 obtain⟨w1,w2⟩:=xP hw hd;obtain⟨x1,x2⟩:=zB5 hw hsome hn;have hP: ∀z:Str,numP z=⟨sgOf z,(unsign z).takeWhile digB,dotP (Hg z),expP (zS (Hg z)).1⟩:=fun z=>rfl;constructor
 ·rw[QH,QH,e2,w1]
  grind
 ·rw[hP,hP,u2,u1,SB x h2,e2,w1,w2,x2]
def brS(c:UInt8)(r:Str):Nat:=
 if spB c then 0
 else if c==34||c==39 then 1
 else if c==35&&(letB (atS r 0)||escS r)then 2
 else if nbS (c::r)then 3
 else if [45,45,62].isPrefixOf (c::r)then 4
 else if [60,33,45,45].isPrefixOf (c::r)then 5
 else if c==64&&nmS r then 6
 else if nmS (c::r)then 7
 else if Bh c==0 then 8
 else 9
def nxB:Nat->UInt8->Str->zb×Str
 |0,c,r=>(uh 13,past spB (c::r))
 |1,c,r=>(Vj (zZ c r).1,(zZ c r).2)
 |2,_,r=>(⟨4,(zm r).1,0,[],nmS r⟩,(zm r).2)
 |3,c,r=>zA (c::r)
 |4,c,r=>(uh 15,(c::r).drop 3)
 |5,c,r=>(uh 14,(c::r).drop 4)
 |6,_,r=>(⟨3,(zm r).1,0,[],false⟩,(zm r).2)
 |7,c,r=>qC (c::r)
 |8,c,r=>(⟨9,[c],0,[],false⟩,r)
 |_+9,c,r=>(uh (Bh c),r)
theorem YF(c:UInt8)(r:Str):nxB 0 c r=(uh 13,past spB (c::r)):=by rw[nxB]
theorem Vq(c:UInt8)(r:Str):nxB 1 c r=(Vj (zZ c r).1,(zZ c r).2):=by rw[nxB]
theorem jm(c:UInt8)(r:Str):nxB 2 c r=(⟨4,(zm r).1,0,[],nmS r⟩,(zm r).2):=by rw[nxB]
theorem Dk(c:UInt8)(r:Str):nxB 3 c r=zA (c::r):=by rw[nxB]
theorem bL(c:UInt8)(r:Str):nxB 4 c r=(uh 15,(c::r).drop 3):=by rw[nxB]
theorem YL(c:UInt8)(r:Str):nxB 5 c r=(uh 14,(c::r).drop 4):=by rw[nxB]
theorem Uq(c:UInt8)(r:Str):nxB 6 c r=(⟨3,(zm r).1,0,[],false⟩,(zm r).2):=by rw[nxB]
theorem Pj(c:UInt8)(r:Str):nxB 7 c r=qC (c::r):=by rw[nxB]
theorem Ov(c:UInt8)(r:Str):nxB 8 c r=(⟨9,[c],0,[],false⟩,r):=by rw[nxB]
theorem XF(c:UInt8)(r:Str):nxB 9 c r=(uh (Bh c),r):=rfl
theorem qm(c:UInt8)(r:Str):Zp (c::r)=nxB (brS c r) c r:=by
 rw[Xu];unfold brS;split
 ·rfl
 ·split
  ·rfl
  ·split
   ·rfl
   ·split
    ·rfl
    ·split
     ·rfl
     ·split
      ·rfl
      ·split
       ·rfl
       ·split
        ·rfl
        ·split<;>rfl
theorem br_4{c:UInt8}{r:Str}:brS c r=4->[45,45,62].isPrefixOf (c::r)=true:=by unfold brS;grind
theorem br_5{c:UInt8}{r:Str}:brS c r=5->[60,33,45,45].isPrefixOf (c::r)=true:=by unfold brS;grind
theorem br_9{c:UInt8}{r:Str}:brS c r=9-> ¬(Bh c==0)=true:=by unfold brS;grind
theorem oL(c:UInt8)(r:Str):brS c r<=9:=by unfold brS;grind
def brK(k:Int):Nat:=
 if k=13 then 0 else if k=5\/k=6 then 1 else if k=4 then 2 else if k=10\/k=11\/k=12 then 3 else if k=15 then 4 else if k=14 then 5 else if k=3 then 6
 else if k=1\/k=2\/k=7\/k=8 then 7 else if k=9 then 8 else 9
theorem vY(c:UInt8):Bh c=0\/(16<=Bh c/\Bh c<=24):=by
 have: ∀n:Nat,n<256->Bh (UInt8.ofNat n)=0\/(16<=Bh (UInt8.ofNat n)/\Bh (UInt8.ofNat n)<=24):=by decide+kernel
 have:=this c.toNat (Ob c);simp_all
theorem zAp(o:Option Str):(Vj o).kind=5\/(Vj o).kind=6:=by cases o<;>simp[Vj]
theorem TH(o:Option Str):(Tj o).kind=7\/(Tj o).kind=8:=by cases o<;>simp[Tj]
theorem L6(l:Str):(qC l).1.kind=1\/(qC l).1.kind=2\/(qC l).1.kind=7\/(qC l).1.kind=8:=by
 unfold qC;split
 ·split
  ·exact .inr (.inr (TH _))
  grind
 ·exact .inl rfl
theorem zq7(l:Str):(zA l).1.kind=10\/(zA l).1.kind=11\/(zA l).1.kind=12:=by
 unfold zA
 grind
theorem DL{i:Nat}(h:i<=9):i=0\/i=1\/i=2\/i=3\/i=4\/i=5\/i=6\/i=7\/i=8\/i=9:=by omega
theorem Un(c:UInt8)(r:Str):brK (Zp (c::r)).1.kind=brS c r:=by
 rw[qm];rcases DL (oL c r)with h|h|h|h|h|h|h|h|h|h
 ·rw[h];rfl
 ·rw[h,Vq];show brK (Vj (zZ c r).1).kind=1;rcases zAp (zZ c r).1 with h|h<;>rw[h]<;>rfl
 ·rw[h];rfl
 ·rw[h,Dk];rcases zq7 (c::r)with h|h|h<;>rw[h]<;>rfl
 ·rw[h];rfl
 ·rw[h];rfl
 ·rw[h];rfl
 ·rw[h,Pj];rcases L6 (c::r)with h|h|h|h<;>rw[h]<;>rfl
 ·rw[h];rfl
 ·have h1:=vY c;have h0:=br_9 h;rw[Lb]at h0;rw[h,XF];show brK (Bh c)=9;unfold brK
  repeat rw[Ga (by omega)]
theorem kZ{q x:Str}(h:(qC q).2≠[]):qC (q++x)=((qC q).1,(qC q).2++x):=by
 have hn:(zm q).2≠[]:=by intro e;unfold qC at h;rw[e,Ga (by decide)]at h;exact h rfl
 have e:=Ru x hn;unfold qC;unfold qC at h;rw[e];simp only;have h0:atS ((zm q).2++x) 0=atS (zm q).2 0:=Aj x (ae.2 hn);rw[h0];cases h40:atS (zm q).2 0==40 with
 |false=>rfl
 |true=>
  rw[h40,Ka rfl]at h;simp only[Wd];cases hn2:(zm q).2 with
  |nil=>grind
  |cons c r=>
   rw[hn2]at h;rw[show((c::r)++x).drop 1=r++x from rfl];rw[show(c::r).drop 1=r from rfl]at h ⊢;cases hu:lowS (zm q).1==[117,114,108]with
   |false=>
    grind
   |true=>
    rw[hu,Xb]at h;simp only[Xb];cases hp:past spB r with
    |nil=>
     rw[hp,Ka (by decide),Dq]at h
     grind
    |cons d t=>
     rw[Am x (by rw[hp];simp),hp];rw[hp]at h;rw[show atS ((d::t)++x) 0=atS (d::t) 0 from rfl];split
     ·rename_i hq;rw[Ka hq]at h;rw[UG x h]
     ·rfl
theorem Cu{q x:Str}{n:Nat}(h:n<=q.length):(q++x).drop n=q.drop n++x:=List.drop_append_of_le_length h
structure zkC (q x:Str):Prop where
 e:zC (q++x)=((zC q).1++x,(zC q).2)
 p:numP (q++x)=numP q
 n:nmS ((zC q).1++x)=nmS (zC q).1
theorem U9{q x:Str}(hs:zkC q x)(h:(zA q).2≠[]):zA (q++x)=((zA q).1,(zA q).2++x):=by
 have he:(zC q).1≠[]:=by intro e;unfold zA at h;rw[e,Ga (by decide),Ga (by decide)]at h;exact h rfl
 have h0:atS ((zC q).1++x) 0=atS (zC q).1 0:=Aj x (ae.2 he);unfold zA;unfold zA at h;rw[hs.e,hs.p];simp only[hs.n,h0];cases hn:nmS (zC q).1 with
 |true=> rw[hn,Ka rfl]at h;simp only[Wd];rw[Ru x h]
 |false=>
  simp only[ic,Ye];cases h37:atS (zC q).1 0==37 with
  |true=> simp_all
  |false=>grind
theorem lC {c:UInt8} {r x:Str} (hb:brS c (r++x)=brS c r) (h:(Zp (c::r)).2≠[]) (hh:brS c r=2->nmS (r++x)=nmS r)
  (hnum:brS c r=3->zkC (c::r) x):Zp (c::(r++x))=((Zp (c::r)).1,(Zp (c::r)).2++x):=by
 rw[qm c (r++x),hb];rw[qm]at h ⊢;rcases DL (oL c r)with hi|hi|hi|hi|hi|hi|hi|hi|hi|hi
 ·rw[hi,YF]at h;rw[hi,YF,YF,show c::(r++x)=(c::r)++x from rfl,Am x h]
 ·rw[hi,Vq]at h;rw[hi,Vq,Vq,vD x h]
 ·rw[hi,jm]at h;rw[hi,jm,jm,Ru x h,hh hi]
 ·have hn:=hnum hi;rw[hi,Dk]at h;rw[hi,Dk,Dk,show c::(r++x)=(c::r)++x from rfl,U9 hn h]
 ·have h':=Sn (br_4 hi);rw[hi,bL,bL,show c::(r++x)=(c::r)++x from rfl,Cu (show 3<=(c::r).length from h')]
 ·have h':=Sn (br_5 hi);rw[hi,YL,YL,show c::(r++x)=(c::r)++x from rfl,Cu (show 4<=(c::r).length from h')]
 ·rw[hi,Uq]at h;rw[hi,Uq,Uq,Ru x h]
 ·rw[hi,Pj]at h;rw[hi,Pj,Pj,show c::(r++x)=(c::r)++x from rfl,kZ h]
 ·rw[hi,Ov,Ov]
 ·rw[hi,XF,XF]
theorem eP{q:Str}(x:Str)(h:q≠[]):undot (q++x)=undot q++x:=by
 cases q with
 |nil=>grind
 |cons c r=> unfold undot;show(if c==46 then r++x else c::(r++x))=(if c==46 then r else c::r)++x;split<;>rfl
theorem MZ(q:Str):q.length<=(undot q).length+1:=by
 unfold undot
 grind
theorem FJ(q:Str):q.length<=(unsign q).length+1:=by
 unfold unsign
 grind
theorem Jq{q:Str}(h:1<=q.length):q≠[]:=by grind
theorem zDV{q:Str}(x:Str)(h:3<=q.length):nbS (q++x)=nbS q:=by have h1:=FJ q;have h2:=MZ (unsign q);unfold nbS;rw[(Eo x (Jq (by omega))).1,eP x (Jq (by omega)),Aj x (by omega)]
theorem LB{q:Str}(x:Str)(h:3<=q.length):nmS (q++x)=nmS q:=by unfold nmS escS;rw[Cu (by omega),Aj x (show 0<q.length by omega),Aj x (show 1<q.length by omega),Aj x (show 0<(q.drop 1).length by grind),Aj x (show 1<(q.drop 1).length by grind)]
theorem yt{m:Str}: ∀{q:Str} (x:Str),m.length<=q.length->m.isPrefixOf (q++x)=m.isPrefixOf q:=by
 induction m with
 |nil=>grind
 |cons a m ih=>
  intro q x h;cases q with
  |nil=>grind
  |cons b t=>
   grind
theorem zDq{c:UInt8}{r:Str}(x:Str)(h:4<=r.length):brS c (r++x)=brS c r:=by
 have e:c::(r++x)=(c::r)++x:=rfl;have hl:(c::r).length=r.length+1:=rfl;unfold brS;rw[e,zDV x (by omega),yt x (by grind),yt x (by grind),LB x (q:=r) (by omega),LB x (q:=c::r) (by omega),Aj x (show 0<r.length by omega)];have:escS (r++x)=escS r:=by unfold escS;rw[Aj x (show 0<r.length by omega),Aj x (show 1<r.length by omega)]
 rw[this]
theorem Yn{w:Str}:expS w=none↔((atS w 0==101||atS w 0==69)&&digB (atS (unsign (w.drop 1)) 0))=false:=by
 unfold expS
 grind
theorem zB6{w:Str}(x:Str)(h:3<=w.length)(hn:expS w=none):expS (w++x)=none:=by rw[Yn]at hn ⊢;have h1:=FJ (w.drop 1);rw[Dc]at h1;rw[Cu (by omega),(Eo x (Jq (by grind))).1,Aj x (show 0<w.length by omega),Aj x (by omega)];exact hn
theorem vR(q:Str):(zS q).1<:+q:=by
 unfold zS;split
 ·exact(Wn _ _).trans (Lf 1 q)
 grind
theorem JX(q:Str):(zC q).1<:+(zS (Hg q)).1:=by
 rw[QH];cases h:expS (zS (Hg q)).1 with
 |some r=>exact MN (Ae _) h
 |none=>grind
theorem RS(q:Str):(zA q).2<:+(zC q).1:=by
 unfold zA;split
 ·exact Ml _
 ·split
  ·exact Lf 1 _
  grind
theorem zCz{q:Str}(x:Str)(h:4<=(zC q).1.length):zkC q x:=by have h1:=(JX q).length_le;have h2:=(vR (Hg q)).length_le;obtain⟨a,b⟩:=kG (q:=q) (x:=x) (Jq (by omega)) (fun e=>by grind) (zB6 x (by omega));exact⟨a,b,LB x (by omega)⟩
theorem mY{c:UInt8}{r:Str}(x:Str)(h:4<=(Zp (c::r)).2.length):Zp (c::(r++x))=((Zp (c::r)).1,(Zp (c::r)).2++x):=by have h1:=(Kl c r).length_le;refine lC (zDq x (by omega)) (Jq (by omega)) (fun _=>LB x (by omega)) (fun hb=>zCz x ?_);rw[qm,hb,Dk]at h;have:=(RS (c::r)).length_le;omega
theorem EB(q y:Str):escS (q++47::y)=escS q:=by
 match q with
 |[]=>rfl
 |[c]=>rfl
 |c::d::t=>rfl
theorem Pv(q y:Str):nmS (q++47::y)=nmS q:=by
 match q with
 |[]=>rfl
 |[c]=> unfold nmS;show(if c==45 then fstB 47||47==45||escS (47::y)else fstB c||escS ([c]++47::y))=(if c==45 then fstB 0||0==45||escS []else fstB c||escS [c]);rw[EB];rfl
 |c::d::t=> unfold nmS;show(if c==45 then fstB d||d==45||escS ((d::t)++47::y)else fstB c||escS ((c::d::t)++47::y))=(if c==45 then fstB d||d==45||escS (d::t)else fstB c||escS (c::d::t));rw[EB,EB]
theorem KX(q y:Str):digB (atS (q++47::y) 0)=digB (atS q 0):=by
 cases q with
 |nil=>rfl
 |cons c t=>rfl
theorem dP(q y:Str):unsign (q++47::y)=unsign q++47::y:=by
 cases q with
 |nil=>rfl
 |cons c t=>exact(Eo (47::y) (by simp)).1
theorem zAO(q y:Str):undot (q++47::y)=undot q++47::y:=by
 cases q with
 |nil=>rfl
 |cons c t=>exact eP (47::y) (by simp)
theorem zEF(q y:Str):nbS (q++47::y)=nbS q:=by unfold nbS;rw[dP,zAO,KX]
theorem uW{m:Str}(hm: ∀b∈m,b≠47): ∀(q y:Str),m.isPrefixOf (q++47::y)=m.isPrefixOf q:=by
 induction m with
 |nil=>grind
 |cons a m ih=>
  intro q y;cases q with
  |nil=>
   grind
  |cons b t=>grind
theorem zDQ(q y:Str):letB (atS (q++47::y) 0)=letB (atS q 0):=by
 cases q with
 |nil=>rfl
 |cons c t=>rfl
theorem KW(c:UInt8)(r y:Str):brS c (r++47::y)=brS c r:=by have e:c::(r++47::y)=(c::r)++47::y:=rfl;unfold brS;rw[e,zEF,uW (by decide),uW (by decide),Pv,Pv,zDQ,EB]
theorem zDC{w:Str}(y:Str)(hn:expS w=none):expS (w++47::y)=none:=by
 cases w with
 |nil=>rfl
 |cons c t=> rw[Yn]at hn ⊢;show((c==101||c==69)&&digB (atS (unsign (t++47::y)) 0))=false;rw[dP,KX];exact hn
theorem zDZ{q:Str}(y:Str)(h:(zC q).1≠[]):zkC q (47::y):=by obtain⟨a,b⟩:=kG (q:=q) (x:=47::y) h (fun _=>rfl) (zDC y);exact⟨a,b,Pv _ y⟩
theorem dR{q:Str}(h:(zA q).2≠[]):(zC q).1≠[]:=by intro e;have:=(RS q).length_le;simp_all
theorem zCx{c:UInt8}{r:Str}(y:Str)(h:(Zp (c::r)).2≠[]):Zp (c::(r++47::y))=((Zp (c::r)).1,(Zp (c::r)).2++47::y):=by refine lC (KW c r y) h (fun _=>Pv r y) (fun hb=>zDZ y ?_);rw[qm,hb,Dk]at h;exact dR h
def wL(c:UInt8)(r x:Str):Prop:=(∃e fl,(e=101\/e=69)/\zS (Hg (c::r))=([e,43],fl))/\(Zp (c::r)).2=[43]/\(Zp (c::r)).1.kind=12/\digB (atS x 0)=true
theorem zAf{c:UInt8}{r x:Str}(hb:brS c r=3)(h:(Zp (c::r)).2≠[])(hx:x≠[])(ht:(zA ((c::r)++x)).1=(zA (c::r)).1):
  zkC (c::r) x\/wL c r x:=by
 have hnx:Zp (c::r)=zA (c::r):=by rw[qm,hb,Dk]
 rw[hnx]at h;have he:=dR h;have hflag: ∀q:Str,(zA q).1.kind=10->(zA q).1.flag=(zC q).2:=by
  intro q;unfold zA;split
  ·intro h;cases h
  ·grind
 have hnm: ∀q:Str,((zA q).1.kind=12↔nmS (zC q).1=true):=by
  intro q;unfold zA;split
  ·grind
  ·grind
 by_cases hd:Hg (c::r)=[46]->digB (atS x 0)=false
 ·by_cases hn:expS (zS (Hg (c::r))).1=none->expS ((zS (Hg (c::r))).1++x)=none
  ·obtain⟨a,b⟩:=kG he hd hn;refine .inl ⟨a,b,?_⟩
   grind
  ·right;obtain⟨hn1,hn2⟩:=Classical.not_imp.1 hn;have hend:zC (c::r)=zS (Hg (c::r)):=by rw[QH,hn1]
   rw[hend]at he;obtain⟨w,fl⟩: ∃w fl,zS (Hg (c::r))=(w,fl):=⟨_,_,rfl⟩;obtain⟨fl,hw⟩:=fl;rw[hw]at he hn1 hn2 hend;simp only at he hn1 hn2;rw[Yn]at hn1;rw[Yn]at hn2;cases w with
   |nil=>grind
   |cons e t=>
    have h2:((e==101||e==69)&&digB (atS (unsign (t++x)) 0))=true:=by
     have:((atS ((e::t)++x) 0==101||atS ((e::t)++x) 0==69)&&digB (atS (unsign (((e::t)++x).drop 1)) 0))=true:=by
      cases hh:((atS ((e::t)++x) 0==101||atS ((e::t)++x) 0==69)&&digB (atS (unsign (((e::t)++x).drop 1)) 0))with
      |true=>rfl
      |false=>grind
     exact this
    have h1:((e==101||e==69)&&digB (atS (unsign t) 0))=false:=hn1;rw[Da]at h2;rw[h2.1,Xb]at h1;have hee:e=101\/e=69:=by have:=h2.1;rw[Md,Lb,Lb]at this;exact this
    have hfst:fstB e=true/\letB e=true/\(e==45)=false:=by rcases hee with rfl|rfl<;>decide
    have hnmw:nmS (e::t)=true:=by unfold nmS;rw[show atS (e::t) 0=e from rfl,hfst.2.2,Ga (by decide),hfst.1];rfl
    have hnum:zA (c::r)=(⟨12,[],(numP (c::r)).val,(zm (e::t)).1,fl⟩,(zm (e::t)).2):=by unfold zA;rw[hend,Ka hnmw]
    rw[hnum]at h;have h':(zm (e::t)).2≠[]:=h;have ht43:t=[43]/\digB (atS x 0)=true:=by
     match t with
     |[]=>rw[zG,Ka hfst.2.1,qN]at h';grind
     |[d]=>
      have hux:unsign ([d]++x)=if Sg d then x else d::x:=rfl;have hu:unsign [d]=if Sg d then []else [d]:=rfl;rw[hux]at h2;rw[hu]at h1;cases hs:Sg d with
      |false=>
       rw[hs,Ga (by decide)]at h1 h2;have:=h2.2;rw[show atS (d::x) 0=atS [d] 0 from rfl,h1]at this;cases this
      |true=>
       rw[hs,Ka rfl]at h2;unfold Sg at hs;rw[Md,Lb,Lb]at hs;rcases hs with rfl|rfl
       ·grind
       ·rw[zG,Ka hfst.2.1,zG,Ka (by decide),qN]at h';grind
     |d::d2::t2=>
      exfalso;have hlen:1<=(unsign (d::d2::t2)).length:=by have:=FJ (d::d2::t2);rw[Ia,Ia]at this;omega
      have:=h2.2;rw[(Eo x (by simp)).1,Aj x (by omega),h1]at this;cases this
    obtain⟨rfl,hdx⟩:=ht43;refine⟨⟨e,fl,hee,hw⟩,?_,?_,hdx⟩
    ·rw[hnx,hnum];show(zm [e,43]).2=[43];rw[zG,Ka hfst.2.1,zG,Ga (by decide),Ga (by decide)]
    ·rw[hnx,hnum]
 ·exfalso;obtain⟨hq2,hdx⟩:=Classical.not_imp.1 hd;have hend:zC (c::r)=([46],true):=by rw[QH,hq2];rfl
  have hnum:zA (c::r)=(⟨10,[],(numP (c::r)).val,[],true⟩,[46]):=by unfold zA;rw[hend,Ga (by decide),Ga (by decide)]
  rw[hnum]at ht;have hf:=hflag ((c::r)++x) (by rw[ht]);rw[ht]at hf;have hun:unsign (c::r)≠[]:=by intro e;rw[Hg,e]at hq2;cases hq2
  have e2:Hg ((c::r)++x)=46::x:=by unfold Hg;rw[(Eo x (by simp)).1,Am x (by unfold Hg at hq2;rw[hq2];simp)];unfold Hg at hq2;rw[hq2];rfl
  have hw:zS (46::x)=(past digB x,false):=by
   unfold zS;have:digB (atS x 0)=true:=by cases hh:digB (atS x 0)with|true=>rfl|false=>grind
   rw[show atS (46::x) 0=46 from rfl,show atS (46::x) 1=atS x 0 from rfl,this];rfl
  have hfl:(zC ((c::r)++x)).2=false:=by rw[QH,e2,hw];simp only;cases expS (past digB x)<;>rfl
  rw[hfl]at hf;cases hf
theorem yZ{c:UInt8}{r x:Str}(h:(Zp (c::r)).2≠[])(hx:x≠[])(ht:(Zp (c::(r++x))).1=(Zp (c::r)).1):
  (Zp (c::(r++x))).2=(Zp (c::r)).2++x\/wL c r x:=by
 have hb:brS c (r++x)=brS c r:=by rw[<-Un,<-Un,ht]
 have hh:brS c r=2->nmS (r++x)=nmS r:=by intro hi;have:=congrArg zb.flag ht;rw[qm,qm,hb,hi,jm,jm]at this;exact this
 by_cases hi:brS c r=3
 ·have hnx:Zp (c::r)=zA (c::r):=by rw[qm,hi,Dk]
  have hnx2:Zp (c::(r++x))=zA ((c::r)++x):=by rw[qm,hb,hi,Dk];rfl
  have ht':=ht;rw[hnx,hnx2]at ht';rcases zAf hi h hx ht' with hs|hp
  ·left;rw[lC hb h hh (fun _=>hs)]
  ·exact .inr hp
 ·left;rw[lC hb h hh (fun e=>absurd e hi)]
def run:Str->List zb->Str->Prop
 |q,[],R=>q=R
 |q,t::ts,R=> ∃c r,cmtS q=c::r/\(Zp (c::r)).1=t/\run (Zp (c::r)).2 ts R
theorem yw: ∀{ts:List zb} {q R:Str},run q ts R->R<:+q
 |[],q,R,h=>by rw[run]at h;subst h;exact Ae _
 |t::ts,q,R,h=>by obtain⟨c,r,h1,h2,h3⟩:=h;have h4:=Jl q;rw[h1]at h4;exact(yw h3).trans ((Kl c r).trans ((Te c r).trans h4))
theorem Gu: ∀{ts:List zb} {q R:Str},run q ts R->qi q=ts++qi R
 |[],q,R,h=>by rw[run]at h;subst h;rfl
 |t::ts,q,R,h=>by obtain⟨c,r,h1,h2,h3⟩:=h;rw[QJ h1,h2,Gu h3];rfl
theorem MH: ∀{ts us:List zb} {q R S:Str},run q ts R->run R us S->run q (ts++us) S
 |[],us,q,R,S,h,h'=>by rw[run]at h;subst h;exact h'
 |t::ts,us,q,R,S,h,h'=>by obtain⟨c,r,h1,h2,h3⟩:=h;exact⟨c,r,h1,h2,MH h3 h'⟩
theorem aN: ∀{ts us:List zb} {q:Str},qi q=ts++us-> ∃R,run q ts R/\qi R=us
 |[],us,q,h=>⟨q,rfl,h⟩
 |t::ts,us,q,h=>by
  cases hc:cmtS q with
  |nil=>rw[QE hc]at h;cases h
  |cons c r=> rw[QJ hc,ma]at h;injection h with h1 h2;obtain⟨R,h3,h4⟩:=aN h2;exact⟨R,⟨c,r,hc,h1,h3⟩,h4⟩
theorem JM: ∀{ts:List zb} {q R S:Str},run q ts R->run q ts S->R=S
 |[],q,R,S,h,h'=>by rw[run]at h h';rw[<-h,h']
 |t::ts,q,R,S,h,h'=>by obtain⟨c,r,h1,h2,h3⟩:=h;obtain⟨c',r',h1',h2',h3'⟩:=h';rw[h1]at h1';injection h1' with e1 e2;subst e1 e2;exact JM h3 h3'
theorem KM{ts:List zb}{q R:Str}(hne:ts≠[]):run (cmtS q) ts R↔run q ts R:=by
 cases ts with
 |nil=>exact absurd rfl hne
 |cons t ts=>
  constructor
  ·rintro⟨c,r,h1,h2⟩;rw[Aq]at h1;exact⟨c,r,h1,h2⟩
  ·rintro⟨c,r,h1,h2⟩;exact⟨c,r,by rw[Aq];exact h1,h2⟩
theorem fG(x:Str): ∀{l r:Str},clsS l=some r->clsS (l++x)=some (r++x)
 |[],r,h=>by cases h
 |c::t,r,h=>by
  rw[clsS]at h;rw[ma,clsS];cases t with
  |nil=>
   cases hc:c==42&&atS ([]:Str) 0==47 with
   |true=>rw[Da]at hc;exact absurd hc.2 (by decide)
   |false=>rw[hc,Ga (by decide)]at h;cases h
  |cons d u=>
   rw[show atS ((d::u)++x) 0=atS (d::u) 0 from rfl];split
   ·rename_i hc;rw[Ka hc]at h;injection h with h;subst h;rfl
   ·rename_i hc;rw[Ga hc]at h;exact fG x h
theorem Ay{q x:Str}(h:cmtS q≠[])(hp:([47,42]:Str).isPrefixOf (cmtS q++x)=false):cmtS (q++x)=cmtS q++x:=by
 rw[aj q]at h hp ⊢;split at h
 ·rename_i hq;have hl:=Sn hq;rw[show([47,42]:Str).length=2 from rfl]at hl;rw[Ka hq]at hp ⊢;cases hc:clsS (q.drop 2)with
  |none=>rw[hc]at h;exact absurd rfl h
  |some p=>
   rw[hc]at h hp;simp only at h hp ⊢;rw[aj (q++x),yt x (by exact hl),hq,Ka rfl,Cu hl,fG x hc];simp only;have h2:p.length<q.length:=by have h2:=(ul _ hc).2;rw[Dc]at h2;omega
   exact Ay h hp
 ·rename_i hq;rw[Ga hq]at hp ⊢;exact Z4 hp
termination_by q.length
decreasing_by omega
theorem OH{c d:UInt8}(t x:Str):([47,42]:Str).isPrefixOf ((c::d::t)++x)=([47,42]:Str).isPrefixOf (c::d::t):=yt x (by show 2<=_;simp)
theorem EN{q x:Str}(h:2<=(cmtS q).length):cmtS (q++x)=cmtS q++x:=by refine Ay (Jq (by omega)) ?_;rw[yt x (by exact h)];exact yx q
theorem IP{c:UInt8}{r:Str}(h:(Zp (c::r)).2≠[]):2<=(c::r).length:=by have h1:=(Kl c r).length_le;have h2:=ae.2 h;rw[Ia];omega
theorem IM: ∀{ts:List zb} {q R:Str} (x:Str),run q ts R->4<=R.length->run (q++x) ts (R++x)
 |[],q,R,x,h,_=>by rw[run]at h;subst h;rfl
 |t::ts,q,R,x,h,hl=>by obtain⟨c,r,h1,h2,h3⟩:=h;have h4:=(yw h3).length_le;have h5:=mY x (c:=c) (r:=r) (by omega);have h6:=IP (c:=c) (r:=r) (Jq (by omega));refine⟨c,r++x,by rw[EN (by rw[h1];exact h6),h1];rfl,by rw[h5];exact h2,?_⟩;rw[h5];exact IM x h3 hl
theorem GG{q:Str}(y:Str)(h:cmtS q≠[]):cmtS (q++47::42::y)=cmtS q++47::42::y:=by
 refine Ay h ?_;have hp:=yx q;cases hq:cmtS q with
 |nil=>exact absurd hq h
 |cons c t=>
  cases t with
  |nil=> show((47==c)&&((42==(47:UInt8))&&_))=false;rw[show((42:UInt8)==47)=false from rfl,Yc,xe]
  |cons d u=>rw[OH,<-hq];exact hp
theorem gF: ∀{ts:List zb} {q R:Str} (y:Str),run q ts R->R≠[]->run (q++47::42::y) ts (R++47::42::y)
 |[],q,R,y,h,_=>by rw[run]at h;subst h;rfl
 |t::ts,q,R,y,h,hl=>by
  obtain⟨c,r,h1,h2,h3⟩:=h;have h4:(Zp (c::r)).2≠[]:=by intro e;have:=(yw h3).length_le;rw[e]at this;exact hl (Cf.1 (by simpa using this))
  have h5:=zCx (42::y) h4;refine⟨c,r++47::42::y,by rw[GG y (by rw[h1];simp),h1];rfl,by rw[h5];exact h2,?_⟩;rw[h5];exact gF y h3 hl
def NW(q x:Str)(us:List zb):Prop:= ∃c r,cmtS q=c::r/\wL c r x/\(Zp (c::(r++x))).1=(Zp (c::r)).1/\qi (Zp (c::(r++x))).2=us
theorem lN: ∀{ts us:List zb} {q R:Str} {x:Str},run q ts R->R≠[]->x≠[]->qi (q++x)=ts++us->run (q++x) ts (R++x)\/(R=[43]/\ ∃p,p<:+q/\NW p x us)
 |[],us,q,R,x,h,_,_,_=>by rw[run]at h;subst h;exact .inl rfl
 |t::ts,us,q,R,x,h,hl,hx,ht=>by
  obtain⟨c,r,h1,h2,h3⟩:=h;have h4:(Zp (c::r)).2≠[]:=by intro e;have:=(yw h3).length_le;rw[e]at this;exact hl (Cf.1 (by simpa using this))
  have hc:cmtS (q++x)=c::(r++x):=by rw[EN (by rw[h1];exact IP h4),h1];rfl
  rw[QJ hc,ma]at ht;injection ht with ht1 ht2;rcases yZ h4 hx (by rw[ht1,h2])with h5|h5
  ·rw[h5]at ht2;rcases lN h3 hl hx ht2 with h6|⟨h6,p,hp,h7⟩
   ·exact .inl ⟨c,r++x,hc,ht1,by rw[h5];exact h6⟩
   ·refine .inr ⟨h6,p,hp.trans ((Kl c r).trans ((Te c r).trans ?_)),h7⟩;rw[<-h1];exact Jl q
  ·right;have h43:=h5.2.1;have hR:R=[43]/\ts=[]:=by
    cases ts with
    |nil=>rw[run,h43]at h3;exact⟨h3.symm,rfl⟩
    |cons u us'=> exfalso;rw[h43]at h3;obtain⟨c',r',e1,e2,e3⟩:=h3;rw[show cmtS [43]=[43]from Z4 rfl]at e1;injection e1 with e4 e5;subst e4 e5;have:=(yw e3).length_le;have h9:=(Kl (43:UInt8) []).length_le;exact hl (Cf.1 (by simp only[Lc]at h9;omega))
   obtain⟨hR,rfl⟩:=hR;refine⟨hR,q,Ae _,c,r,h1,h5,by rw[ht1,h2],?_⟩;rw[ht2];rfl
def encB(p:UInt8->Bool):Str->Str
 |[]=>[]
 |c::r=>(bif p c then escC c else [c])++encB p r
def quoB(c:UInt8):Bool:=c==10||c==12||c==13||c==34||c==92
def urB(c:UInt8):Bool:=decide (c.toNat<=32)||c==34||c==39||c==40||c==41||c==92||c==127
def jk:Str->Bool
 |[]=>false
 |c::r=>(c==101||c==69)&&numS r&& !(List.isPrefixOf [45,45] r)
def kg:Str->Str
 |[]=>[]
 |c::r=>bif jk (c::r)then escC c++encW false 0 r else ql (c::r)
def Ro(k:Int):Str:=
 bif k==13 then [32]else bif k==14 then [60,33,45,45]else bif k==15 then [45,45,62]else bif k==16 then [58]else bif k==17 then [59]else bif k==18 then [44]else
 bif k==19 then [91]else bif k==20 then [93]else bif k==21 then [40]else bif k==22 then [41]else bif k==23 then [123]else [125]
def txS(t:zb):Str:=
 bif t.kind==1 then ql t.text
 else bif t.kind==2 then ql t.text++[40]
 else bif t.kind==3 then 64::ql t.text
 else bif t.kind==4 then 35::(bif t.flag then ql t.text else encW false 0 t.text)
 else bif t.kind==5 then 34::(encB quoB t.text++[34])
 else bif t.kind==7 then [117,114,108,40]++(encB urB t.text++[41])
 else bif t.kind==9 then t.text
 else bif t.kind==10 then numT t.num (!t.flag)
 else bif t.kind==11 then numT t.num false++[37]
 else bif t.kind==12 then numT t.num (!t.flag)++kg t.unit
 else Ro t.kind
theorem Yy(p:UInt8->Bool): ∀l:Str,(encB p l).length<=4*l.length
 |[]=>by unfold encB;simp
 |c::r=>by
  have:=Wy c;have:=Yy p r;unfold encB;rw[Ba,Ia];cases p c with
  |true=>rw[Ja];omega
  |false=>rw[Ha,Eb];omega
theorem zB1{p:UInt8->Bool}{i:Nat}{l:Str}(h:i<l.length):encB p (l.drop i)=(bif p l[i]then escC l[i]else [l[i]])++encB p (l.drop (i+1)):=by rw[Ub h,encB]
theorem IQ {R:Type} {step:Int×List UInt8->Option (LO (Int×List UInt8) (List UInt8) R)} {l acc:Str} {p:UInt8->Bool} (hl:l.length<=100000) (ha:acc.length<=100000000)
  (h1: ∀(i:Nat) (a:Str) (hi:i<l.length),a.length<=500000000->step ((i:Int),a)=some (.again (w64 ((i:Int)+1),a++(bif p l[i]then escC l[i]else [l[i]]))))
  (h2: ∀a,step ((l.length:Int),a)=some (.out a)):Nh step (0,acc)=some (.out (acc++encB p l)):=by
 refine Qj (fun z=> ∃(i:Nat) (a:Str),z=((i:Int),a)/\i<=l.length/\a.length<=acc.length+4*i/\a++encB p (l.drop i)=acc++encB p l) (fun z=>l.length - z.1.toNat) _ ?_ ⟨0,acc,rfl,by omega,by omega,rfl⟩;rintro _ ⟨i,a,rfl,hi,hal,he⟩;rcases Sc i l.length with h|h
 ·refine .inl ⟨_,h1 i a h (by omega),⟨i+1,_,by rw[Za (by omega) (by omega)];rfl,by omega,?_,?_⟩,by simp only;rw[Za (by omega) (by omega)];omega⟩
  ·have:=Wy l[i];rw[Ba];cases p l[i]with
   |true=>rw[Ja];omega
   |false=>rw[Ha,Eb];omega
  ·rw[<-he,zB1 h,Ra]
 ·have:i=l.length:=by omega
  subst this;refine .inr (.inl ⟨_,h2 a,?_⟩);rw[<-he,Pe (Va _)];rw[show encB p []=[] by rw[encB],Ab]
theorem uH{l acc:Str}{k:Nat}(hl:l.length<=100000)(ha:acc.length<=100000000):qB ((l,(k:Int)),acc)=some (acc++encW (Ko k l) k l):=by
 unfold qB;rw[Qk (zDi (dash:=Ko k l) (k:=k) (l:=l) (acc:=acc) hl ha (fun i a hi ha=> ?_) (fun a=> ?_))]
 ·have d1:decide ((i:Int)<(l.length:Int))=true:=La (by omega);have d2:geti l (i:Int)=some l[i]:=QX hi;have d3:decide ((i:Int)>=(k:Int))=(k - i==0):=by
   by_cases h:k<=i
   ·rw[La (by omega),show k - i=0 by omega];rfl
   ·rw[Ib (by omega)];symm;rw[Fa];omega
  have d4:((k:Int)==0)=(k==0):=by
   by_cases h:k=0
   ·subst h;rfl
   ·rw[Fa.2 h,Fa];omega
  simp only[d1,Ja,d2,d3,d4,ze,Aa,zCe,SN];have hd:(bif k==0 then true else !(l==[45]))= !Ko k l:=by unfold Ko;cases k==0<;>cases l==[45]<;>rfl
  rw[hd];unfold pcW;cases letB l[i]with
  |false=>
   cases k - i==0<;>simp only[zu,Oc,Ec,xe,Yc,Xc,Ja,Ha,Aa,Ku l[i] (show a.length<=1000000000 by omega),zh]
  |true=> cases k - i==0<;>cases digB l[i]<;>cases Ko k l<;>simp only[zu,Oc,Ec,xe,Yc,Xc,af,Rf,Xb,jd,Hf,Ja,Ha,Aa,fB,zy (ah (show a.length+1<=2000000000 by omega)),Ku l[i] (show a.length<=1000000000 by omega),zh]
 ·simp only;rw[Ib (by omega),Ha]
theorem u7(l:Str):Ko (QW l) l=(l==[45]):=by unfold Ko QW;split<;>rfl
theorem Mw{l acc:Str}(hl:l.length<=100000)(ha:acc.length<=100000000):qB ((l,((QW l:Nat):Int)),acc)=some (acc++ql l):=by rw[uH hl ha,u7];rfl
theorem zBF{n:Nat}{b:Str}(hn:n<=1000000000000)(hb:b.length<=100000):Cq (((n:Int),10),b)=some (b++Lib.decDigits n):=by have hsh:short b=true:=La (by omega);unfold Cq;simp only[hsh,Xc,Bc,decide_true,Xb];rw[La (by omega),La (by omega)];rfl
theorem lT{m:Nat}(hm:m<=1000000000000)(p:Bool)(b:Str)(hb:b.length<=90000):
  ((Cq ((w64 (Int.tdiv (m:Int) 1000),10),b)).bind fun y2=>(Np (w64 (1000+Int.tmod (m:Int) 1000),10)).bind fun y3=>need (decide (1<=(y3.length:Int)))<|
   (om (List.drop 1 y3,[48])).bind fun y4=>zW (X:=List UInt8) (R:=List UInt8) (bif !(y4==[])then need (Zb y2.length 1 1)<|need (Zb (y2++[(46:UInt8)]).length y4.length 1)<|some (LX.out (y2++[(46:UInt8)]++y4))else bif p then need (Zb y2.length ([46,48]:Str).length 1)<|some (LX.out (y2++([46,48]:Str)))else some (LX.out y2)) fun j5=>some j5)=some (b++pg m p):=by
 have e1:w64 (Int.tdiv (m:Int) 1000)=((m / 1000:Nat):Int):=by rw[show Int.tdiv (m:Int) 1000=((m / 1000:Nat):Int)from rfl,Za (by omega) (by omega)]
 have e2:w64 (1000+Int.tmod (m:Int) 1000)=((1000+m%1000:Nat):Int):=by rw[show Int.tmod (m:Int) 1000=((m%1000:Nat):Int)from rfl,Za (by omega) (by omega)];omega
 have hr:m%1000<1000:=by omega
 rw[e1,e2];have f2:Np (((1000+m%1000:Nat):Int),10)=some (49::[d48 (m%1000 / 100),d48 (m%1000 / 10%10),d48 (m%1000%10)]):=by unfold Np i64B;simp only[decide_true,Xb];rw[La (by omega),La (by omega)];rw[<-rX hr];show some (Lib.itoa _)=_;unfold Lib.itoa;rw[Ga (by omega),Bc]
 have hlen:=yI (u:=m / 1000) (by omega);rw[zBF (by omega) (by omega),Aa,f2,Aa,zy (La (by simp))];have f3:om (List.drop 1 (49::[d48 (m%1000 / 100),d48 (m%1000 / 10%10),d48 (m%1000%10)]),[48])=some (di (m%1000)):=rfl;rw[f3,Aa,U3];have hf:=DI _ hr;simp only[CB,Da,jb]at hf;unfold pg Um;cases (di (m%1000)).isEmpty with
 |true=>
  simp only[Oc,Ha,Ja];cases p with
  |true=>rw[Ja,zy (Vl (by rw[Ba];show _+2<=_;omega) (by omega)),zh,Ra];rfl
  |false=>rw[Ha,zh,Ha,Ab]
 |false=> simp only[Ec,Ha,Ja];rw[zy (Vl (by rw[Ba];omega) (by omega)),zy (Vl (by rw[Ba,Ba,Eb];omega) (by omega)),zh,Ra,Ra];rfl
theorem KJ{n:Int}(h1: -1000000000000<=n)(h2:n<=1000000000000)(p:Bool){acc:Str}(ha:acc.length<=80000):QC ((n,p),acc)=some (acc++numT n p):=by
 unfold QC numT;simp only[ze];by_cases hn:n<0
 ·obtain⟨m,rfl⟩: ∃m:Nat,n= -(m:Int):=⟨n.natAbs,by omega⟩;rw[La hn,Ja,zy (Vl (by omega) (by omega)),zh,Ka hn];simp only;have e0:w64 (0 - -(m:Int))=(m:Int):=by rw[show(0 - -(m:Int))=(m:Int) by omega,Za (by omega) (by omega)]
  rw[e0,Int.natAbs_neg,Int.natAbs_natCast,<-Ra];exact lT (by omega) p (acc++[45]) (by rw[Ba,Eb];omega)
 ·obtain⟨m,rfl⟩: ∃m:Nat,n=(m:Int):=⟨n.toNat,by omega⟩;rw[Ib hn,Ha,zh,Ga hn];simp only;rw[Int.natAbs_natCast,Ic];exact lT (by omega) p acc (by omega)
theorem zCm: ∀n:Nat,n<256->(ibOr IntKind.u8 (n:Int) 32==101)=(UInt8.ofNat n==101||UInt8.ofNat n==69):=by decide+kernel
theorem zCl(c:UInt8):(ibOr IntKind.u8 (c.toNat:Int) 32==101)=(c==101||c==69):=by
 have:=zCm c.toNat (Ob c)
 rwa [Uc]at this
theorem zCV(c:UInt8):decide (Lib.indexByte [10,12,13,34,92] c.toNat.toUInt8>=0)=quoB c:=by
 have: ∀n:Nat,n<256->decide (Lib.indexByte [10,12,13,34,92] n.toUInt8>=0)=quoB (UInt8.ofNat n):=by decide+kernel
 have:=this c.toNat (Ob c)
 rwa [Uc]at this
theorem zDc(c:UInt8):(decide ((c.toNat:Int)<=32)||decide (Lib.indexByte [34,39,40,41,92,127] c.toNat.toUInt8>=0))=urB c:=by
 have: ∀n:Nat,n<256->(decide ((n:Int)<=32)||decide (Lib.indexByte [34,39,40,41,92,127] n.toUInt8>=0))=urB (UInt8.ofNat n):=by decide+kernel
 have:=this c.toNat (Ob c)
 rwa [Uc]at this
theorem r9 {t:zb} (h:ng t=true) (h1:(t.kind==1)=false) (h2:(t.kind==2)=false) (h3:(t.kind==3)=false) (h4:(t.kind==4)=false) (h5:(t.kind==5)=false) (h7:(t.kind==7)=false) (h9:(t.kind==9)=false)
  (h10:(t.kind==10)=false) (h11:(t.kind==11)=false) (h12:(t.kind==12)=false):13<=t.kind/\t.kind<=24:=by
 unfold ng at h;simp only[h1,h2,h3,h4,h5,h7,h9,h10,h11,h12,Bool.or_self,Ha,Da,jb]at h;exact h.1
theorem IY: ∀n:Nat,n<12->(Uz ()).bind (fun y35=>geti [y35.e0,y35.e1,y35.e2,y35.e3,y35.e4,y35.e5,y35.e6,y35.e7,y35.e8,y35.e9,y35.e10,y35.e11] (wu8 ((13+n:Int) - 13)))=some (Ro (13+n:Int)):=by decide+kernel
theorem XQ(k:Int):(Ro k).length<=4:=by
 unfold Ro;cases k==13<;>cases k==14<;>cases k==15<;>simp only[Ja,Ha]<;>try (simp;done)
 all_goals (repeat' (first|(simp;done)|(apply Decidable.byContradiction;intro h;revert h;rw[Bool.cond_eq_ite];split)))
theorem zAI{t:zb}{acc:Str}(hf:ng t=true)(h1:t.text.length<=5000)(h2:t.unit.length<=5000)(ha:acc.length<=60000):lu (t,acc)=some (acc++txS t):=by
 have one: ∀q:Str,q.length<=90000->Zb q.length 1 1=true:=fun q hq=>Vl (by omega) (by omega);have hnl: ∀l:Str,l.length<=5000->(ql l).length<=20000:=fun l hl=>by have:=Xy (l==[45]) (QW l) l;unfold ql;omega
 unfold lu txS;simp only[ze];cases k1:t.kind==1 with
 |true=>simp only[Ja,Vy,Aa,Mw (show t.text.length<=100000 by omega) (show acc.length<=100000000 by omega)]
 |false=>
 cases k2:t.kind==2 with
 |true=> simp only[Ja,Ha,Vy,Aa,Mw (show t.text.length<=100000 by omega) (show acc.length<=100000000 by omega)];have:=hnl t.text h1;rw[zy (one _ (by rw[Ba];omega)),Ra]
 |false=>
 cases k3:t.kind==3 with
 |true=> simp only[Ja,Ha,Vy,Aa];rw[zy (one _ (by omega)),Mw (by omega) (by rw[Ba,Eb];omega),Ra];rfl
 |false=>
 cases k4:t.kind==4 with
 |true=>
  simp only[Ja,Ha,Vy,Aa];cases t.flag with
  |true=> simp only[Ja,zh];rw[zy (one _ (by omega)),Mw (by omega) (by rw[Ba,Eb];omega),Ra];rfl
  |false=> simp only[Ha,zh];rw[zy (one _ (by omega)),show(0:Int)=((0:Nat):Int)from rfl,uH (by omega) (by rw[Ba,Eb];omega),Ra];rfl
 |false=>
 cases k5:t.kind==5 with
 |true=>
  simp only[Ja,Ha];have hml:maxLen=9223372036854775807:=rfl;rw[zy (one _ (by omega)),zy (La (by omega))];have hel:=Yy quoB t.text;rw[Qk (IQ (p:=quoB) (l:=t.text) (acc:=acc++[34]) (by omega) (by rw[Ba,Eb];omega) (fun i a hi hal=> ?_) (fun a=> ?_))]
  ·rw[zy (one _ (by simp only[Ba,Eb];omega)),Ra,Ra];rfl
  ·have d1:decide ((i:Int)<(t.text.length:Int))=true:=La (by omega);have d0:decide ((0:Int)<=(i:Int))=true:=La (by omega);simp only[d1,d0,Xc,Ja,qD,Bc,Ma hi,Aa,dE,zCV];cases quoB t.text[i]with
   |true=>simp only[Ja,Ku _ (show a.length<=1000000000 by omega),Aa,zh]
   |false=>simp only[Ha,fB,Aa,zy (ah (show a.length+1<=2000000000 by omega)),zh]
  ·simp only;rw[Ib (by omega),Ha]
 |false=>
 cases k7:t.kind==7 with
 |true=>
  simp only[Ja,Ha];have hml:maxLen=9223372036854775807:=rfl;rw[zy (Vl (by show _+4<=_;omega) (by omega)),zy (La (by omega))];have hel:=Yy urB t.text;rw[Qk (IQ (p:=urB) (l:=t.text) (acc:=acc++[117,114,108,40]) (by omega) (by rw[Ba];show _+4<=_;omega) (fun i a hi hal=> ?_) (fun a=> ?_))]
  ·rw[zy (one _ (by simp only[Ba];show _+4+_<=_;omega)),Ra,Ra]
  ·have d1:decide ((i:Int)<(t.text.length:Int))=true:=La (by omega);have d0:decide ((0:Int)<=(i:Int))=true:=La (by omega);simp only[d1,d0,Xc,Ja,qD,Bc,Ma hi,Aa,dE];rw[<-zDc];cases decide ((t.text[i].toNat:Int)<=32)with
   |true=>simp only[Oc,ZF,Aa,Ja,Hf,Ku _ (show a.length<=1000000000 by omega),zh]
   |false=>
    simp only[Ec,ZB,Aa,Ha,jd];cases decide (Lib.indexByte [34,39,40,41,92,127] t.text[i].toNat.toUInt8>=0)with
    |true=>simp only[Ja,Ku _ (show a.length<=1000000000 by omega),Aa,zh]
    |false=>simp only[Ha,fB,Aa,zy (ah (show a.length+1<=2000000000 by omega)),zh]
  ·simp only;rw[Ib (by omega),Ha]
 |false=>
 cases k9:t.kind==9 with
 |true=> simp only[Ja,Ha];rw[zy (Vl (by omega) (by omega))]
 |false=>
 have rng:(t.kind==10||t.kind==11||t.kind==12)=true->rngS t=true/\(!(t.unit==[])==(t.kind==12))=true:=by intro hk;unfold ng at hf;simp only[k1,k2,k3,k4,k5,k7,k9,hk,Bool.or_self,Ha,Ja,Da]at hf;exact⟨hf.1,hf.2.1⟩
 have nums:rngS t=true-> -1000000000000<=t.num/\t.num<=1000000000000:=by intro hr;unfold rngS at hr;simp only[Da,jb]at hr;exact⟨hr.1,hr.2.1⟩
 cases k10:t.kind==10 with
 |true=> obtain⟨r1,r2⟩:=nums (rng (by rw[k10];rfl)).1;simp only[Ja,Ha,KJ r1 r2 _ (show acc.length<=80000 by omega),Aa]
 |false=>
 cases k11:t.kind==11 with
 |true=>
  obtain⟨r1,r2⟩:=nums (rng (by rw[k11,af];rfl)).1;have hT:(numT t.num false).length<=25:=by
   have:=GD (m:=t.num.natAbs) (by omega) false;unfold numT;rw[Ba];split
   ·rw[Eb];omega
   ·rw[Lc];omega
  simp only[Ja,Ha,KJ r1 r2 _ (show acc.length<=80000 by omega),Aa];rw[zy (one _ (by rw[Ba];omega)),Ra]
 |false=>
 cases k12:t.kind==12 with
 |true=>
  obtain⟨hr,hu⟩:=rng (by rw[k12,af]);obtain⟨r1,r2⟩:=nums hr;rw[k12]at hu;have hT:(numT t.num (!t.flag)).length<=25:=by
   have:=GD (m:=t.num.natAbs) (by omega) (!t.flag);unfold numT;rw[Ba];split
   ·rw[Eb];omega
   ·rw[Lc];omega
  simp only[Ja,Ha,KJ r1 r2 _ (show acc.length<=80000 by omega),Aa];cases hun:t.unit with
  |nil=>rw[hun]at hu;exact absurd hu (by decide)
  |cons c r=>
   rw[hun,Ia]at h2;have hg:geti (c::r) 0=some c:=rfl;have hd1:List.drop 1 (c::r)=r:=rfl;have hlen1:decide (1<=((c::r:Str).length:Int))=true:=La (by rw[Ia];omega);simp only[hg,hd1,hlen1,Hf,qD,Aa,zCl,GV,xu,Vy];have hacc:(acc++numT t.num (!t.flag)).length<=100000000:=by rw[Ba];omega
   have hname:=Mw (l:=c::r) (acc:=acc++numT t.num (!t.flag)) (by rw[Ia];omega) hacc;have hunit:kg (c::r)=(bif (c==101||c==69)&&numS r&& !(List.isPrefixOf [45,45] r)then escC c++encW false 0 r else ql (c::r)):=rfl;rw[hunit];have he:(c==101||c==69)=true->ZW ((c.toNat:Int),acc++numT t.num (!t.flag))=some (acc++numT t.num (!t.flag)++escC c):=fun _=>Ku c (by rw[Ba];omega);cases hc:c==101||c==69 with
   |false=> simp only[ZF,Aa,Ha,Yc,hname];rw[Ra]
   |true=>
    simp only[ZB,Aa,Ja,Xb];cases hn:numS r with
    |false=> simp only[ZF,Aa,Ha,Yc,hname];rw[Ra]
    |true=>
     simp only[ZB,Aa,Ja,Xb];cases hp:List.isPrefixOf [45,45] r with
     |true=> simp only[Oc,Ha,hname,Aa];rw[Ra]
     |false=> simp only[Ec,Ja,he hc,Aa];have hesc:=Wy c;rw[show(0:Int)=((0:Nat):Int)from rfl,uH (by omega) (by rw[Ba,Ba];omega)];rw[Ra,Ra];rfl
 |false=>
 obtain⟨hk1,hk2⟩:=r9 hf k1 k2 k3 k4 k5 k7 k9 k10 k11 k12;obtain⟨n,hn⟩: ∃n:Nat,t.kind=13+(n:Int):=⟨(t.kind - 13).toNat,by omega⟩;have hg:=IY n (by omega);rw[<-hn]at hg;have hml:=XQ t.kind;simp only[Ha];have hm:Uz ()=some ⟨[32],[60,33,45,45],[45,45,62],[58],[59],[44],[91],[93],[40],[41],[123],[125]⟩:=rfl;rw[hm]at hg ⊢;simp only[Aa]at hg ⊢;rw[hg];simp only[Aa];rw[zy (Vl (by omega) (by omega))]
theorem Hq{c:UInt8}(h0:c≠0)(h:c.toNat<128)(R:Str): ∃d t,escC c++R=92::d::t/\(d==10)=false/\zq (d::t)=([c],R):=by
 unfold escC;cases hg:decide (32<c.toNat)&&decide (c.toNat<127)&& !digB c&& !alB c with
 |true=>
  have hx:Qb c=false/\(c==10)=false:=by
   have: ∀n:Nat,n<256->(decide (32<(UInt8.ofNat n).toNat)&&decide ((UInt8.ofNat n).toNat<127)&& !digB (UInt8.ofNat n)&& !alB (UInt8.ofNat n))=true->Qb (UInt8.ofNat n)=false/\(UInt8.ofNat n==10)=false:=by decide+kernel
   have:=this c.toNat (Ob c);rw[Uc]at this;exact this hg
  exact⟨c,R,rfl,hx.2,by show(if Qb c then _ else _)=_;grind⟩
 |false=> obtain⟨d,t,e,hd,h10⟩:=UI (n:=c.toNat) (Ob c) ([32]++R);refine⟨d,t,by grind,h10,?_⟩;have hh:=rM (n:=c.toNat) (Ob c) R;rw[show(32::R:Str)=[32]++R from rfl,e]at hh;show(if Qb d then(Uh (hexes 6 0 (d::t)).1,unsp (hexes 6 0 (d::t)).2)else _)=_;rw[Ka hd,hh,yP h0 h];rfl
theorem zDd(n:Nat):Uh n≠[]:=by
 unfold Uh dm
 grind
theorem P8(r:Str):(zq r).1≠[]:=by
 cases r with
 |nil=>show dm≠[];decide
 |cons c r=>
  show(if Qb c then(Uh (hexes 6 0 (c::r)).1,unsp (hexes 6 0 (c::r)).2)else([c],r)).1≠[];split
  ·exact zDd _
  ·simp
theorem jD{x:Str}(h:(zm x).1=[]):(zm x).2=x:=by
 cases x with
 |nil=>rw[qN]
 |cons c r=>
  rw[zG]at h ⊢;split
  ·grind
  ·rename_i hl;rw[Ga hl]at h;split
   ·rename_i he;rw[Ka he]at h;exact absurd (List.append_eq_nil_iff.1 h).1 (P8 r)
   ·rfl
theorem QN{c:UInt8}{r:Str}(h:Zn (c::r)=true):c≠0/\Zn r=true:=by
 unfold Zn at h ⊢
 grind
theorem mI{dash:Bool}(R:Str): ∀(k:Nat) (l:Str),Zn l=true->(dash=true-> ∀c∈l,c.toNat<128)->zm (encW dash k l++R)=(l++(zm R).1,(zm R).2)
 |_,[],_,_=>by rw[encW];rfl
 |k,c::r,h,hd=>by obtain⟨h1,h2⟩:=QN h;rw[encW,Ra,OM h1 (fun e=>hd e c (Fb ..)),mI R (k - 1) r h2 (fun e x hx=>hd e x (Cb _ hx))];rfl
theorem Ao{l:Str}(R:Str)(h:Zn l=true):zm (ql l++R)=(l++(zm R).1,(zm R).2):=by refine mI R _ _ h (fun e c hc=> ?_);simp_all
theorem VP{l:Str}(R:Str)(k:Nat)(h:Zn l=true):zm (encW false k l++R)=(l++(zm R).1,(zm R).2):=mI R k l h (fun e=>by cases e)
theorem GZ(c:UInt8):(quoB c=true->c.toNat<128)/\(quoB c=false->(c==34)=false/\(c==10)=false/\(c==92)=false):=by
 have: ∀n:Nat,n<256->(quoB (UInt8.ofNat n)=true->(UInt8.ofNat n).toNat<128)/\(quoB (UInt8.ofNat n)=false->(UInt8.ofNat n==34)=false/\(UInt8.ofNat n==10)=false/\(UInt8.ofNat n==92)=false):=by decide+kernel
 have:=this c.toNat (Ob c);simp_all
theorem tN(x:Str): ∀(l:Str),Zn l=true->zZ 34 (encB quoB l++34::x)=(some l,x)
 |[],_=>by rw[encB,Ic,qR,Ka (by decide)]
 |c::r,h=>by
  obtain⟨h1,h2⟩:=QN h;have ih:=tN x r h2;obtain⟨f1,f2⟩:=GZ c;rw[encB,Ra];cases hq:quoB c with
  |true=>
   obtain⟨d,t,e1,e2,e3⟩:=Hq h1 (f1 hq) (encB quoB r++34::x);rw[Ja,e1,qR,Ga (by decide),Ga (by decide),Ka (by decide),show(d::t).isEmpty=false from rfl,Ga (by decide),show atS (d::t) 0=d from rfl,e2,Ga (by decide),e3]
   grind
  |false=> obtain⟨g1,g2,g3⟩:=f2 hq;rw[Ha,Ed,qR,g1,Ga (by decide),g2,Ga (by decide),g3,Ga (by decide),ih];rfl
theorem OO(c:UInt8):(urB c=true->c.toNat<128)/\(urB c=false->(c==41)=false/\spB c=false/\(c==34||c==39||c==40||unB c)=false/\(c==92)=false/\(c==34)=false/\(c==39)=false):=by
 have: ∀n:Nat,n<256->(urB (UInt8.ofNat n)=true->(UInt8.ofNat n).toNat<128)/\(urB (UInt8.ofNat n)=false->(UInt8.ofNat n==41)=false/\spB (UInt8.ofNat n)=false/\(UInt8.ofNat n==34||UInt8.ofNat n==39||UInt8.ofNat n==40||unB (UInt8.ofNat n))=false/\(UInt8.ofNat n==92)=false/\(UInt8.ofNat n==34)=false/\(UInt8.ofNat n==39)=false):=by decide+kernel
 have:=this c.toNat (Ob c);simp_all
theorem sN(x:Str): ∀(l:Str),Zn l=true->urlS (encB urB l++41::x)=(some l,x)
 |[],_=>by rw[encB,Ic,Im,Ka (by decide)]
 |c::r,h=>by
  obtain⟨h1,h2⟩:=QN h;have ih:=sN x r h2;obtain⟨f1,f2⟩:=OO c;rw[encB,Ra];cases hq:urB c with
  |true=>
   obtain⟨d,t,e1,e2,e3⟩:=Hq h1 (f1 hq) (encB urB r++41::x);have he:escS (92::d::t)=true:=by unfold escS;rw[show atS (92::d::t) 1=d from rfl,e2];rfl
   rw[Ja,e1,Im,Ga (by decide),Ga (by decide),he,Ga (by decide),Ka (by decide),e3]
   grind
  |false=> obtain⟨g1,g2,g3,g4,_,_⟩:=f2 hq;rw[Ha,Ed,Im,g1,Ga (by decide),g2,Ga (by decide),g3,g4,Yc,Rf,Ga (by decide),Ga (by decide),ih];rfl
theorem zAS(x:Str)(l:Str)(h:Zn l=true):past spB (encB urB l++41::x)=encB urB l++41::x/\(atS (encB urB l++41::x) 0==34||atS (encB urB l++41::x) 0==39)=false:=by
 cases l with
 |nil=>exact⟨rfl,rfl⟩
 |cons c r=>
  obtain⟨h1,h2⟩:=QN h;obtain⟨f1,f2⟩:=OO c;rw[encB,Ra];cases hq:urB c with
  |true=> obtain⟨d,t,e1,e2,e3⟩:=Hq h1 (f1 hq) (encB urB r++41::x);rw[Ja,e1];exact⟨rfl,rfl⟩
  |false=> obtain⟨g1,g2,g3,g4,g5,g6⟩:=f2 hq;rw[Ha,Ed];refine⟨by rw[past,g2];rfl,?_⟩;show(c==34||c==39)=false;rw[g5,g6];rfl
theorem zCI{n:Int}{p:Bool}:(partT (n.natAbs%1000) p).isEmpty=((n.natAbs%1000==0)&& !p):=(Tp (r:=n.natAbs%1000) (by omega) p).2.2.2.2
def sgT(n:Int):Str:=if n<0 then [45]else []
theorem Uw(n:Int)(p:Bool):numT n p=sgT n++(Lib.decDigits (n.natAbs / 1000)++dotS (if(partT (n.natAbs%1000) p).isEmpty then none else some (partT (n.natAbs%1000) p))):=by
 have h:=(Tp (r:=n.natAbs%1000) (by omega) p).2.2.2.1;unfold numT pg sgT;rw[h];cases (partT (n.natAbs%1000) p).isEmpty with
 |true=>rfl
 |false=>rfl
theorem q2_T(n:Int)(p:Bool)(x:Str):Hg (numT n p++x)=past digB (dotS (if(partT (n.natAbs%1000) p).isEmpty then none else some (partT (n.natAbs%1000) p))++x):=by
 obtain⟨d1,d2,d3⟩:=Wt (n.natAbs / 1000);obtain⟨c,r,hc,hcd⟩:=ay (n.natAbs / 1000);rw[Uw];generalize dotS _=t;unfold Hg;have hu:unsign ((sgT n++(Lib.decDigits (n.natAbs / 1000)++t))++x)=Lib.decDigits (n.natAbs / 1000)++(t++x):=by
  unfold sgT;split
  ·rw[Ra,Ed,Ra];rfl
  ·rw[Ic,Ra,hc,ma];unfold unsign Sg;rw[show atS (c::(r++(t++x))) 0=c from rfl,Fa.2 (QV hcd).2.1,Fa.2 (QV hcd).1];rfl
 rw[hu,iC _ _ d1]
theorem PH{n:Int}{p:Bool}:(partT (n.natAbs%1000) p).all digB=true:=(Tp (r:=n.natAbs%1000) (by omega) p).1
theorem aG{n:Int}{p:Bool}(h:(partT (n.natAbs%1000) p).isEmpty=true)(x:Str):zC (numT n p++x)=(match expS (zS (past digB x)).1 with|some r=>(r,false)|none=>zS (past digB x)):=by rw[QH,q2_T,h];rfl
theorem KG{n:Int}{p:Bool}(h:(partT (n.natAbs%1000) p).isEmpty=false)(x:Str):zC (numT n p++x)=(match expS (past digB x)with|some r=>(r,false)|none=>(past digB x,false)):=by
 obtain⟨c,r,hp⟩: ∃c r,partT (n.natAbs%1000) p=c::r:=by
  cases hh:partT (n.natAbs%1000) p with
  |nil=>grind
  |cons c r=>grind
 have hd:=PH (n:=n) (p:=p);rw[QH,q2_T,h];have hq:past digB (dotS (some (partT (n.natAbs%1000) p))++x)=46::(partT (n.natAbs%1000) p++x):=rfl;rw[show(if false=true then none else some (partT (n.natAbs%1000) p))=some (partT (n.natAbs%1000) p)from rfl,hq];have hw:zS (46::(partT (n.natAbs%1000) p++x))=(past digB x,false):=by
  have hc:digB c=true:=by rw[hp,Sd,Da]at hd;exact hd.1
  unfold zS;rw[show atS (46::(partT (n.natAbs%1000) p++x)) 1=c by rw[hp];rfl,hc,show(atS (46::(partT (n.natAbs%1000) p++x)) 0==46&&true)=true from rfl,Ka rfl];rw[show(46::(partT (n.natAbs%1000) p++x)).drop 1=partT (n.natAbs%1000) p++x from rfl,iC _ _ hd]
 grind
theorem UW(n:Int)(p:Bool)(x:Str):nbS (numT n p++x)=true:=by
 obtain⟨c,r,hc,hcd⟩:=ay (n.natAbs / 1000);rw[Uw,hc];unfold nbS;have hu:unsign ((sgT n++(c::r++dotS (if(partT (n.natAbs%1000) p).isEmpty then none else some (partT (n.natAbs%1000) p))))++x)=c::(r++dotS (if(partT (n.natAbs%1000) p).isEmpty then none else some (partT (n.natAbs%1000) p))++x):=by
  unfold sgT;split
  ·rfl
  ·unfold unsign Sg;show(if(c==43||c==45)then _ else _)=_;rw[Fa.2 (QV hcd).2.1,Fa.2 (QV hcd).1];rfl
 rw[hu];unfold undot;rw[show atS (c::(r++dotS (if(partT (n.natAbs%1000) p).isEmpty then none else some (partT (n.natAbs%1000) p))++x)) 0=c from rfl,Fa.2 (QV hcd).2.2.1,Ga (by decide)];exact hcd
theorem BL{n:Int}(h1: -1000000000000<=n)(h2:n<=1000000000000){p:Bool}{x:Str}(he:(zC (numT n p++x)).1=x):(numP (numT n p++x)).val=n:=by
 have h:=fI (numT n p++x);rw[he]at h;have hok:=vF (UW n p x);have hl:=(VA h1 h2 p).1;have he2:=zna h1 h2 p;generalize numP (numT n p++x)=N at h hok ⊢;have ht:N.txt=numT n p:=(List.append_left_inj x).1 h;rw[<-ht]at he2 hl;have h3:=JV hok (Pb hl (by decide));rw[he2]at h3
 grind
theorem Gp(n:Int)(p:Bool)(x:Str): ∃c r,numT n p++x=c::r/\(c==45||digB c)=true/\spB c=false/\(c==34||c==39)=false/\(c==35)=false/\c≠47:=by
 obtain⟨c,r,hc,hcd⟩:=ay (n.natAbs / 1000);have key: ∀d:UInt8,(d==45||digB d)=true->spB d=false/\(d==34||d==39)=false/\(d==35)=false/\d≠47:=by
  intro d;have: ∀n:Nat,n<256->(UInt8.ofNat n==45||digB (UInt8.ofNat n))=true->spB (UInt8.ofNat n)=false/\(UInt8.ofNat n==34||UInt8.ofNat n==39)=false/\(UInt8.ofNat n==35)=false/\UInt8.ofNat n≠47:=by decide+kernel
  have:=this d.toNat (Ob d)
  rwa [Uc]at this
 rw[Uw,hc];unfold sgT
 grind
theorem Tw(n:Int)(p:Bool)(x:Str):Zp (numT n p++x)=zA (numT n p++x):=by obtain⟨c,r,hc,h1,h2,h3,h4,h5⟩:=Gp n p x;have hnb:=UW n p x;rw[hc]at hnb ⊢;rw[Xu,h2,Ga (by decide),h3,Ga (by decide),h4,Yc,Ga (by decide),hnb,Ka rfl]
inductive zgg:zb->Prop
 |cId (l:Str) (h0:l≠[]) (h:Zn l=true):zgg ⟨1,l,0,[],false⟩
 |cFn (l:Str) (h0:l≠[]) (h:Zn l=true):zgg ⟨2,l,0,[],false⟩
 |cAt (l:Str) (h0:l≠[]) (h:Zn l=true):zgg ⟨3,l,0,[],false⟩
 |cHash (l:Str) (f:Bool) (h0:l≠[]) (h:Zn l=true) (hb:f=true\/Mk l=true):zgg ⟨4,l,0,[],f⟩
 |cStr (l:Str) (h:Zn l=true):zgg ⟨5,l,0,[],false⟩
 |cUrl (l:Str) (h:Zn l=true):zgg ⟨7,l,0,[],false⟩
 |cDel (c:UInt8) (h:Si c.toNat=true):zgg ⟨9,[c],0,[],false⟩
 |cNum (n:Int) (f:Bool) (h1: -1000000000000<=n) (h2:n<=1000000000000) (hf:f=true->Int.tmod n 1000=0):zgg ⟨10,[],n,[],f⟩
 |cPct (n:Int) (h1: -1000000000000<=n) (h2:n<=1000000000000):zgg ⟨11,[],n,[],false⟩
 |cDim (n:Int) (u:Str) (f:Bool) (h1: -1000000000000<=n) (h2:n<=1000000000000) (hf:f=true->Int.tmod n 1000=0) (h0:u≠[]) (h:Zn u=true):zgg ⟨12,[],n,u,f⟩
 |cMark (k:Int) (h1:13<=k) (h2:k<=24):zgg ⟨k,[],0,[],false⟩
theorem Er{t:zb}(h:ng t=true):zgg t:=by
 obtain⟨k,l,n,u,f⟩:=t;unfold ng at h;simp only at h;by_cases h1:(k==1||k==2||k==3)=true
 ·rw[h1,Ja]at h;simp only[Da,je,Fa,Lb]at h;obtain⟨a,b,rfl,rfl,rfl⟩:=h;simp only[Md,Lb]at h1;rcases h1 with(rfl|rfl)|rfl
  ·exact .cId l a b
  ·exact .cFn l a b
  ·exact .cAt l a b
 ·rw[Bool.not_eq_true]at h1;rw[h1,Ha]at h;by_cases h4:(k==4)=true
  ·rw[h4,Ja]at h;simp only[Da,je,Fa,Lb,Md]at h;obtain⟨a,b,c,rfl,rfl⟩:=h;rw[Lb]at h4;subst h4;exact .cHash l f a b c
  ·rw[Bool.not_eq_true]at h4;rw[h4,Ha]at h;by_cases h5:(k==5||k==7)=true
   ·rw[h5,Ja]at h;simp only[Da,je,Lb]at h;obtain⟨b,rfl,rfl,rfl⟩:=h;simp only[Md,Lb]at h5;rcases h5 with rfl|rfl
    ·exact .cStr l b
    ·exact .cUrl l b
   ·rw[Bool.not_eq_true]at h5;rw[h5,Ha]at h;by_cases h9:(k==9)=true
    ·rw[h9,Ja]at h;simp only[Da,je,Lb]at h;obtain⟨b,rfl,rfl,rfl⟩:=h;rw[Lb]at h9;subst h9;unfold delS at b;split at b
     ·exact .cDel _ b
     ·cases b
    ·rw[Bool.not_eq_true]at h9;rw[h9,Ha]at h;by_cases h10:(k==10||k==11||k==12)=true
     ·rw[h10,Ja]at h;unfold rngS at h;simp only[Da,jb,Md,je,Lb]at h;obtain⟨⟨a1,a2,a3⟩,a4,a5,a6,rfl⟩:=h;have hf:f=true->Int.tmod n 1000=0:=by
       intro e;rcases a3 with a3|a3
       ·grind
       ·exact a3
      simp only[Md,Lb]at h10;rcases h10 with(rfl|rfl)|rfl
      ·have:u=[]:=by
        cases u with
        |nil=>rfl
        |cons c r=>grind
       subst this;exact .cNum n f a1 a2 hf
      ·have:u=[]:=by
        cases u with
        |nil=>rfl
        |cons c r=>grind
       subst this;have:f=false:=by
        rcases a6 with a6|a6
        ·grind
        ·exact a6
       subst this;exact .cPct n a1 a2
      ·have:u≠[]:=by rintro rfl;exact absurd a4 (by decide)
       exact .cDim n u f a1 a2 hf this a5
     ·rw[Bool.not_eq_true]at h10;rw[h10,Ha]at h;simp only[Da,je,jb,Lb]at h;obtain⟨⟨a1,a2⟩,rfl,rfl,rfl,rfl⟩:=h;exact .cMark k a1 a2
def neu(x:Str):Prop:=x=[]\/ ∃y,x=47::y
theorem zDr{x:Str}(hx:neu x)(c:UInt8)(r:Str):brS c (r++x)=brS c r:=by
 rcases hx with rfl|⟨y,rfl⟩
 ·grind
 ·exact KW c r y
theorem JB{x:Str}(hx:neu x)(q:Str):nmS (q++x)=nmS q:=by
 rcases hx with rfl|⟨y,rfl⟩
 ·grind
 ·exact Pv q y
theorem kD{x:Str}(hx:neu x):zm x=([],x):=by
 rcases hx with rfl|⟨y,rfl⟩
 ·exact qN
 ·rw[zG,Ga (by decide),show escS (47::y)=false from rfl,Ga (by decide)]
theorem AO{p:UInt8->Bool}(h:p 47=false){x:Str}(hx:neu x):past p x=x:=by
 rcases hx with rfl|⟨y,rfl⟩
 ·rfl
 ·rw[past,h];rfl
theorem zDo{x:Str}(hx:neu x):atS x 0=0\/atS x 0=47:=by
 rcases hx with rfl|⟨y,rfl⟩
 ·exact .inl rfl
 ·exact .inr rfl
theorem H6(c:UInt8)(r:Str):jk (c::r)=((c==101||c==69)&&numS r&& !(List.isPrefixOf [45,45] r)):=rfl
theorem xZ(b:UInt8)(r:Str):numS (b::r)=bif b==45 then !(r==[])&&digN (r.headD 0).toNat else digN b.toNat:=rfl
theorem DK{c:UInt8}{r:Str}(h:jk (c::r)=true):c=101\/c=69:=by
 unfold jk at h
 grind
theorem lY{d:UInt8}{t:Str}(h:(d==10)=false):escS (92::d::t)=true:=by unfold escS;rw[show atS (92::d::t) 1=d from rfl,h];rfl
theorem Tu(c:UInt8)(r:Str):kg (c::r)=bif jk (c::r)then escC c++encW false 0 r else ql (c::r):=rfl
theorem GJ{w:Str}(h0:w≠[])(h:Zn w=true)(x:Str):zm (kg w++x)=(w++(zm x).1,(zm x).2):=by
 cases w with
 |nil=>grind
 |cons c r=>
  obtain⟨h1,h2⟩:=QN h;rw[Tu];cases he:jk (c::r)with
  |true=>
   have hc:c.toNat<128:=by rcases DK he with rfl|rfl<;>decide
   rw[Ja,Ra,vN h1 hc,VP x 0 h2];rfl
  |false=>rw[Ha];exact Ao x h
theorem VG{w:Str}(h0:w≠[])(h:Zn w=true):nmS (kg w)=true:=by
 cases w with
 |nil=>grind
 |cons c r=>
  obtain⟨h1,h2⟩:=QN h;rw[Tu];cases he:jk (c::r)with
  |true=>
   have hc:c.toNat<128:=by rcases DK he with rfl|rfl<;>decide
   obtain⟨d,t,e1,e2,_⟩:=Hq h1 hc (encW false 0 r);rw[Ja,e1];exact AX rfl (lY e2)
  |false=>rw[Ha];exact yl (by simp)
theorem Xl{q:Str}(h:nmS q=true):q≠[]:=by rintro rfl;exact absurd h (by decide)
theorem wG{q:Str}(h:nmS q=true)(x:Str):past digB (q++x)=q++x/\zS (q++x)=(q++x,true):=by
 obtain⟨_,_,_,_,_,_,_,_,h46,hdg,_⟩:=Rw (Wq h);cases q with
 |nil=>exact absurd rfl (Xl h)
 |cons c r=> refine⟨by rw[ma,past,show digB c=false from hdg];rfl,?_⟩;unfold zS;rw[show atS ((c::r)++x) 0=c from rfl,show(c==46)=false from h46];rfl
theorem XN{w:Str}(h0:w≠[])(h:Zn w=true)(x:Str):expS (kg w++x)=none\/ ∃e s,(e=101\/e=69)/\(s=[]\/s=[45])/\w=e::s/\kg w=e::s:=by
 cases w with
 |nil=>grind
 |cons c r=>
  obtain⟨h1,h2⟩:=QN h;have he92: ∀t:Str,expS (92::t)=none:=fun t=>rfl;cases he:jk (c::r)with
  |true=>
   left;have hc:c.toNat<128:=by rcases DK he with rfl|rfl<;>decide
   obtain⟨d,t,e1,e2,_⟩:=Hq h1 hc (encW false 0 r++x);have:kg (c::r)++x=92::d::t:=by rw[Tu,he,Ja,Ra,e1]
   grind
  |false=>
   have hu:kg (c::r)=ql (c::r):=by rw[Tu,he,Ha]
   rw[hu];have hn:ql (c::r)=pcW ((c::r:Str)==[45]) (QW (c::r)) c++encW ((c::r:Str)==[45]) (QW (c::r) - 1) r:=rfl;obtain⟨d,t,e,hd⟩:=aC (dash:=(c::r:Str)==[45]) (k:=QW (c::r)) (by unfold QW;split<;>omega) c (encW ((c::r:Str)==[45]) (QW (c::r) - 1) r);rw[hn,e];rcases hd with⟨rfl,h3⟩|⟨rfl,h3,h4,h5,h6⟩
   ·grind
   ·by_cases hee:d=101\/d=69
    ·have hf:QW (d::r)=1:=by rcases hee with rfl|rfl<;>rfl
     have hdash:((d::r:Str)==[45])=false:=h3;rw[hdash,hf]at h6;have h6':t=encW false 0 r:=h6;have hee':(d==101||d==69)=true:=by rcases hee with rfl|rfl<;>rfl
     cases r with
     |nil=>
      right;rw[encW]at h6'
      grind
     |cons d2 r2=>
      obtain⟨g1,g2⟩:=QN h2;have hnum:numS (d2::r2)=false:=by
       cases hq:numS (d2::r2)with
       |false=>rfl
       |true=>
        exfalso;rw[H6,hee',hq,Xb,Xb]at he;have hp:List.isPrefixOf [45,45] (d2::r2)=true:=by
         cases hh:List.isPrefixOf [45,45] (d2::r2)with
         |true=>rfl
         |false=>grind
        obtain⟨z,hz⟩:=oh.1 hp;rw[<-hz]at hq;exact absurd hq (by show numS (45::45::z)≠true;unfold numS;simp[digN])
      have hgoal: ∀q:Str,digB (atS (unsign q) 0)=false->expS (d::q)=none:=by intro q hq;rw[Yn];show((d==101||d==69)&&digB (atS (unsign q) 0))=false;rw[hq,xe]
      have hpc:encW false 0 (d2::r2)=pcW false 0 d2++encW false 0 r2:=rfl;by_cases h45:d2=45
      ·subst h45;have hp1:pcW false 0 45=[45]:=rfl;cases r2 with
       |nil=>
        right;rw[hpc,hp1,encW]at h6'
        grind
       |cons d3 r3=>
        left;obtain⟨k1,k2⟩:=QN g2;have hdg:digB d3=false:=by
         have:digN d3.toNat=false:=by have:=hnum;unfold numS at this;simpa using this
         exact this
        rw[ma];refine hgoal _ ?_;rw[h6',hpc,hp1];show digB (atS (encW false 0 (d3::r3)++x) 0)=false;rw[show encW false 0 (d3::r3)=pcW false 0 d3++encW false 0 r3 from rfl];unfold pcW;cases hl:letB d3 with
        |true=>exact hdg
        |false=>
         rw[Yc,Yc,Ha];have hc:d3.toNat<128:=by
          by_cases hc:d3.toNat<128
          ·exact hc
          ·rw[(oG hc).1]at hl;cases hl
         obtain⟨d4,t4,e4,_,_⟩:=Hq k1 hc (encW false 0 r3++x);rw[Ra,e4];rfl
      ·left;have hdg:digB d2=false:=by
        have:digN d2.toNat=false:=by have:=hnum;rw[xZ,Fa.2 h45,Ha]at this;exact this
        exact this
       rw[ma];refine hgoal _ ?_;rw[h6',hpc];unfold pcW;cases hl:letB d2 with
       |true=>
        have hs:Sg d2=false:=by unfold Sg;rw[Fa.2 h45,Rf,Fa];rintro rfl;exact absurd hl (by decide)
        show digB (atS (if Sg d2 then _ else d2::_) 0)=false;rw[hs,Ga (by decide)];exact hdg
       |false=>
        rw[Yc,Yc,Ha];have hc:d2.toNat<128:=by
         by_cases hc:d2.toNat<128
         ·exact hc
         ·rw[(oG hc).1]at hl;cases hl
        obtain⟨d4,t4,e4,_,_⟩:=Hq g1 hc (encW false 0 r2++x);rw[Ra,e4];rfl
    ·left;rw[Yn];have:(d==101||d==69)=false:=by rw[Je,Fa,Fa];exact ag.1 hee
     rw[ma,show atS (d::(t++x)) 0=d from rfl,this,Yc]
theorem gT{w:Str}(h0:w≠[])(h:Zn w=true){x:Str}(hx:neu x):expS (kg w++x)=none:=by
 rcases XN h0 h x with h1|⟨e,s,he,hs,_,hu⟩
 ·exact h1
 ·rw[hu,Yn];have hd:digB (atS (unsign (s++x)) 0)=false:=by
   rcases hs with rfl|rfl
   ·rcases hx with rfl|⟨y,rfl⟩<;>rfl
   ·rcases hx with rfl|⟨y,rfl⟩<;>rfl
  grind
theorem WI{n:Int}{f:Bool}(hf:f=true->Int.tmod n 1000=0):(partT (n.natAbs%1000) (!f)).isEmpty=f:=by
 rw[zCI,Bool.not_not];cases f with
 |false=>grind
 |true=>
  grind
theorem FB{n:Int}{p:Bool}{z:Str}(h1:past digB z=z)(h2:zS z=(z,true))(h3:expS z=none):zC (numT n p++z)=(z,(partT (n.natAbs%1000) p).isEmpty):=by
 cases hp:(partT (n.natAbs%1000) p).isEmpty with
 |true=>rw[aG hp,h1,h2];simp only[h3]
 |false=>rw[KG hp,h1];simp only[h3]
theorem zCw{x:Str}(hx:neu x):past digB x=x/\zS x=(x,true)/\expS x=none:=by
 rcases hx with rfl|⟨y,rfl⟩
 ·exact⟨rfl,rfl,rfl⟩
 ·exact⟨rfl,rfl,rfl⟩
theorem N7{q:Str}(h:[45,45,62].isPrefixOf q=true): ∃t,(zm q).2=62::t:=by obtain⟨t,rfl⟩:=oh.1 h;refine⟨t,?_⟩;rw[show [45,45,62]++t=45::45::62::t from rfl,zG,Ka (by decide),zG,Ka (by decide),zG,Ga (by decide),Ga (by unfold escS;rw[show atS (62::t) 0=62 from rfl];simp)]
theorem gB{c:UInt8}{r:Str}(h:nmS (c::r)=true)(h3: ∀t,(zm (c::r)).2≠62::t):brS c r=7:=by
 obtain⟨a1,a2,a3,a4,a5,a6,a7,a8,a9,a10,a11⟩:=Rw (Wq h);have hp:[45,45,62].isPrefixOf (c::r)=false:=by
  cases hh:[45,45,62].isPrefixOf (c::r)with
  |false=>rfl
  |true=>obtain⟨t,e⟩:=N7 hh;grind
 have hc:atS (c::r) 0=c:=rfl;rw[hc]at a1 a2 a3 a4 a5 a7;unfold brS;rw[a1,Ga (by decide),a2,a3,Ga (by decide),a4,Yc,Ga (by decide),OW h,Ga (by decide),hp,Ga (by decide),zCU (q:=c::r) (m:=[33,45,45]) (show(60:UInt8)≠0 by decide) a7,Ga (by decide),a5,Yc,Ga (by decide),h,Ka rfl]
theorem BN{q z:Str}(h:nmS q=true)(hz:atS z 0≠10):nmS (q++z)=true:=by
 have hz':(atS z 0==10)=false:=Fa.2 hz
 match q with
 |[]=>exact absurd h (by decide)
 |[c]=>
  unfold nmS at h ⊢;have h0:atS ([c]++z) 0=c:=rfl;rw[show atS [c] 0=c from rfl]at h;rw[h0];cases h45:c==45 with
  |true=>rw[h45,Ka rfl]at h;exact absurd (show(fstB 0||(0:UInt8)==45||escS [])=true from h) (by decide)
  |false=> rw[h45,Ga (by decide)]at h;rw[Ga (by decide)];unfold escS at h ⊢;rw[show atS [c] 0=c from rfl,show atS [c] 1=0 from rfl]at h;rw[h0,show atS ([c]++z) 1=atS z 0 from rfl,hz'];exact h
 |c::d::t=>
  unfold nmS at h ⊢;have h0:atS ((c::d::t)++z) 0=c:=rfl;have h1:atS ((c::d::t)++z) 1=d:=rfl;have h2:((c::d::t)++z).drop 1=(d::t)++z:=rfl;rw[show atS (c::d::t) 0=c from rfl,show atS (c::d::t) 1=d from rfl,show(c::d::t:Str).drop 1=d::t from rfl]at h;rw[h0,h1,h2];cases h45:c==45 with
  |true=>
   rw[h45,Ka rfl]at h;rw[Ka rfl];cases t with
   |nil=> unfold escS at h ⊢;rw[show atS [d] 0=d from rfl,show atS [d] 1=0 from rfl]at h;rw[show atS ([d]++z) 0=d from rfl,show atS ([d]++z) 1=atS z 0 from rfl,hz'];exact h
   |cons e t=>exact h
  |false=> rw[h45,Ga (by decide)]at h;rw[Ga (by decide)];exact h
theorem tH(x:Str):zm (40::x)=([],40::x):=by rw[zG,Ga (by decide),Ga (by unfold escS;rw[show atS (40::x) 0=40 from rfl];simp)]
theorem jM{l:Str}(h:Zn l=true)(x:Str):zm (ql l++40::x)=(l,40::x):=by rw[Ao _ h,tH,Ab]
theorem Fj{q:Str}(h:q≠[]): ∃c r,q=c::r:=by
 cases q with
 |nil=>grind
 |cons c r=>grind
def Ai(f:Bool)(l:Str):Str:=bif f then ql l else encW false 0 l
theorem nR{f:Bool}{l:Str}(h:Zn l=true)(x:Str):zm (Ai f l++x)=(l++(zm x).1,(zm x).2):=by
 cases f with
 |true=>exact Ao x h
 |false=>exact VP x 0 h
theorem lZ{f:Bool}{l:Str}(h0:l≠[])(h:Zn l=true)(hb:f=true\/Mk l=true):(letB (atS (Ai f l) 0)||escS (Ai f l))=true/\(f=true->nmS (Ai f l)=true)/\(f=false->nmS (Ai f l)=false):=by
 cases f with
 |true=>
  have hn:=yl h0;obtain⟨c,r,e⟩:=Fj (Xl hn);refine⟨?_,fun _=>hn,fun e=>by cases e⟩;show(letB (atS (ql l) 0)||escS (ql l))=true;rw[e]at hn ⊢;rcases EP hn with h1|h1
  ·rw[show letB (atS (c::r) 0)=true from h1];rfl
  ·grind
 |false=>
  have hb':Mk l=true:=by rcases hb with hb|hb;cases hb;exact hb
  cases l with
  |nil=>grind
  |cons c r=>
   have hw:Ai false (c::r)=pcW false 0 c++encW false 0 r:=rfl;have hb2:(digN c.toNat||(c==45&&(r==[]||digN (r.headD 0).toNat)))=true:=hb';by_cases h45:c=45
   ·subst h45;rw[hw,show pcW false 0 45=[45]from rfl];refine⟨rfl,fun e=>by(cases e),fun _=> ?_⟩;cases r with
    |nil=>rfl
    |cons d t=>
     have hd:digB d=true:=hb2;have hp:pcW false 0 d=[d]:=by
      unfold pcW;have:letB d=true:=by unfold letB;rw[hd,af];rfl
      rw[this];rfl
     rw[show encW false 0 (d::t)=pcW false 0 d++encW false 0 t from rfl,hp];have hk: ∀n:Nat,n<256->digB (UInt8.ofNat n)=true->fstB (UInt8.ofNat n)=false/\(UInt8.ofNat n==45)=false/\(UInt8.ofNat n==92)=false:=by decide+kernel
     have:=hk d.toNat (Ob d);rw[Uc]at this;obtain⟨k1,k2,k3⟩:=this hd;show(fstB d||d==45||escS (d::(encW false 0 t)))=false;unfold escS;rw[k1,k2,show atS (d::encW false 0 t) 0=d from rfl,k3];rfl
   ·have hd:digB c=true:=by
     have:digN c.toNat=true:=by rw[Fa.2 h45,Yc,Rf]at hb2;exact hb2
     exact this
    have hl:letB c=true:=by unfold letB;rw[hd,af];rfl
    have hp:pcW false 0 c=[c]:=by unfold pcW;rw[hl];rfl
    rw[hw,hp];refine⟨by rw[show letB (atS ([c]++encW false 0 r) 0)=letB c from rfl,hl];rfl,fun e=>by(cases e),fun _=> ?_⟩;have hk: ∀n:Nat,n<256->digB (UInt8.ofNat n)=true->fstB (UInt8.ofNat n)=false/\(UInt8.ofNat n==45)=false/\(UInt8.ofNat n==92)=false:=by decide+kernel
    have:=hk c.toNat (Ob c);rw[Uc]at this;obtain⟨k1,k2,k3⟩:=this hd;unfold nmS escS;rw[show atS ([c]++encW false 0 r) 0=c from rfl,k2,Ga (by decide),k1,k3];rfl
theorem zDx(c:UInt8)(h:Si c.toNat=true)(h2:c≠92):brS c []=8:=by
 have: ∀n:Nat,n<256->Si (UInt8.ofNat n).toNat=true->UInt8.ofNat n≠92->brS (UInt8.ofNat n) []=8:=by decide+kernel
 have:=this c.toNat (Ob c);simp_all
theorem zCL(x:Str):past digB (37::x)=37::x/\zS (37::x)=(37::x,true)/\expS (37::x)=none:=⟨rfl,rfl,rfl⟩
theorem wO{n:Int}{u:Str}{p:Bool}(x:Str):(numT n p++kg u)++x=numT n p++(kg u++x):=Ra ..
theorem sH{c:UInt8}{r x:Str}(hx:neu x):Zp (c::(r++x))=nxB (brS c r) c (r++x):=by rw[qm,zDr hx]
theorem yN{n:Int}(h1: -1000000000000<=n)(h2:n<=1000000000000)(x:Str):Zp ((numT n false++[37])++x)=(⟨11,[],n,[],false⟩,x):=by rw[Ra,Ed];obtain⟨p1,p2,p3⟩:=zCL x;have he:=FB (n:=n) (p:=false) p1 p2 p3;have hv:=BL h1 h2 (p:=false) (x:=37::x) (by rw[he]);rw[Tw];unfold zA;rw[he,hv,Ga (by unfold nmS escS;rw[show atS (37::x) 0=37 from rfl];simp[fstB,alB]),Ka (by rfl)];rfl
theorem TN{l:Str}(h0:l≠[])(h:Zn l=true)(hu:(lowS l==[117,114,108])=false)(x:Str):Zp ((ql l++[40])++x)=(⟨2,l,0,[],false⟩,x):=by rw[Ra,Ed];have hn:=BN (z:=40::x) (yl h0) (by show(40:UInt8)≠10;decide);have hnd:=jM h x;obtain⟨c,r,e⟩:=Fj (Xl hn);rw[e]at hn hnd ⊢;rw[qm,gB hn (by grind),Pj];unfold qC;rw[hnd];simp only;rw[Ka (by rfl),hu,Yc,Ga (by decide)];rfl
theorem bH{l:Str}(h:Zn l=true)(x:Str):Zp ((34::(encB quoB l++[34]))++x)=(⟨5,l,0,[],false⟩,x):=by rw[ma,Ra,Ed,qm,show brS 34 (encB quoB l++34::x)=1 from rfl,Vq,tN x l h];rfl
theorem MO{l:Str}(h:Zn l=true)(x:Str):Zp (([117,114,108,40]++(encB urB l++[41]))++x)=(⟨7,l,0,[],false⟩,x):=by
 have e:([117,114,108,40]++(encB urB l++[41]))++x=117::114::108::40::(encB urB l++41::x):=by simp
 obtain⟨g1,g2⟩:=zAS x l h;have hnd:zm (117::114::108::40::(encB urB l++41::x))=([117,114,108],40::(encB urB l++41::x)):=by rw[zG,Ka (by decide),zG,Ka (by decide),zG,Ka (by decide),tH]
 rw[e,qm,gB (by rfl) (by grind),Pj];unfold qC;rw[hnd];simp only;rw[Ka (by rfl),Tx,show(40::(encB urB l++41::x)).drop 1=encB urB l++41::x from rfl,g1,g2,Ka (by decide),sN x l h];rfl
theorem WQ{k:Int}(h1:13<=k)(h2:k<=24)(x:Str):Zp (Ro k++x)=(⟨k,[],0,[],false⟩,if k=13 then past spB x else x):=by
 have hk:k=13\/k=14\/k=15\/k=16\/k=17\/k=18\/k=19\/k=20\/k=21\/k=22\/k=23\/k=24:=by omega
 rcases hk with rfl|rfl|rfl|rfl|rfl|rfl|rfl|rfl|rfl|rfl|rfl|rfl<;>rfl
theorem pq(l:Str):txS ⟨1,l,0,[],false⟩=ql l:=by rw[txS];rfl
theorem Tm(l:Str):txS ⟨2,l,0,[],false⟩=ql l++[40]:=by rw[txS];rfl
theorem rq(l:Str):txS ⟨3,l,0,[],false⟩=64::ql l:=by rw[txS];rfl
theorem Jt(l:Str)(f:Bool):txS ⟨4,l,0,[],f⟩=35::Ai f l:=by rw[txS];rfl
theorem Vo(l:Str):txS ⟨5,l,0,[],false⟩=34::(encB quoB l++[34]):=by rw[txS];rfl
theorem Ur(l:Str):txS ⟨7,l,0,[],false⟩=[117,114,108,40]++(encB urB l++[41]):=by rw[txS];rfl
theorem jr(c:UInt8):txS ⟨9,[c],0,[],false⟩=[c]:=by rw[txS];rfl
theorem Xr(n:Int)(f:Bool):txS ⟨10,[],n,[],f⟩=numT n (!f):=by rw[txS];rfl
theorem Vr(n:Int):txS ⟨11,[],n,[],false⟩=numT n false++[37]:=by rw[txS];rfl
theorem Yr(n:Int)(u:Str)(f:Bool):txS ⟨12,[],n,u,f⟩=numT n (!f)++kg u:=by rw[txS];rfl
theorem Ht{k:Int}(h1:13<=k)(h2:k<=24):txS ⟨k,[],0,[],false⟩=Ro k:=by
 have hk:k=13\/k=14\/k=15\/k=16\/k=17\/k=18\/k=19\/k=20\/k=21\/k=22\/k=23\/k=24:=by omega
 rcases hk with rfl|rfl|rfl|rfl|rfl|rfl|rfl|rfl|rfl|rfl|rfl|rfl<;>rfl
theorem zBN{t:zb}(h:zgg t)(hb: ¬(t.kind=9/\t.text=[92]))(hu:Mh t=false){x:Str}(hx:neu x):Zp (txS t++x)=(t,x):=by
 have ha:=zDo hx;have hn0:nmS x=false:=by have:=JB hx [];rw[Ic]at this;rw[this];rfl
 cases h with
 |cId l h0 h=>
  have hn:=yl h0;have hnd:=Ao x h;rw[kD hx,Ab]at hnd;obtain⟨c,r,e⟩:=Fj (Xl hn);rw[pq];have hr:=FZ h;rw[e]at hn hr hnd ⊢;rw[ma,sH hx,gB hn (by grind),Pj];unfold qC;rw[show c::(r++x)=(c::r)++x from rfl,hnd]
  grind
 |cFn l h0 h=>rw[Tm];exact TN h0 h (by unfold Mh at hu;exact hu) x
 |cAt l h0 h=>
  have hnd:=Ao x h;rw[kD hx,Ab]at hnd;rw[rq,ma];have hb6:brS 64 (ql l++x)=6:=by unfold brS;rw[JB hx,yl h0];rfl
  rw[qm,hb6,Uq,hnd]
 |cHash l f h0 h hbb=>
  obtain⟨g1,g2,g3⟩:=lZ h0 h hbb;have hnd:=nR (f:=f) h x;rw[kD hx,Ab]at hnd;rw[Jt,ma];have hb2:brS 35 (Ai f l)=2:=by unfold brS;rw[g1];rfl
  have hf:nmS (Ai f l)=f:=by
   cases f with
   |true=>exact g2 rfl
   |false=>exact g3 rfl
  rw[sH hx,hb2,jm,hnd,JB hx,hf]
 |cStr l h=>rw[Vo];exact bH h x
 |cUrl l h=>rw[Ur];exact MO h x
 |cDel c h=>
  have h92:c≠92:=by rintro rfl;exact hb ⟨rfl,rfl⟩
  rw[jr,ma,sH hx,zDx c h h92,Ov,Ic]
 |cNum n f h1 h2 hf=>
  obtain⟨e1,e2,e3⟩:=zCw hx;have he:=FB (n:=n) (p:= !f) e1 e2 e3;rw[WI hf]at he;rw[Xr,Tw];unfold zA;rw[BL h1 h2 (by rw[he]),he]
  grind
 |cPct n h1 h2=>rw[Vr];exact yN h1 h2 x
 |cDim n u f h1 h2 hf h0 h=> have hnm:=VG h0 h;obtain⟨e1,e2⟩:=wG hnm x;have he:=FB (n:=n) (p:= !f) e1 e2 (gT h0 h hx);rw[WI hf]at he;rw[Yr,wO,Tw];unfold zA;rw[BL h1 h2 (by rw[he]),he];simp only;rw[JB hx,hnm,Ka rfl,GJ h0 h,kD hx,Ab]
 |cMark k h1 h2=> rw[Ht h1 h2,WQ h1 h2,AO (by decide) hx,ite_self]
def WN(t:zb)(x r:Str):Prop:=zC (numT t.num (!t.flag)++x)=(r,t.flag)/\nmS r=false/\(atS r 0==37)=false
def zBz(x r:Str):Prop:= ∃s,(s=[]\/s=[45])/\digB (atS (unsign (s++x)) 0)=true/\nmS (past digB (unsign (s++x)))=true/\r=(zm (past digB (unsign (s++x)))).2
def MW(t:zb)(x r:Str):Prop:=r=x\/(t.kind=13/\r=past spB x)\/(t.kind=10/\WN t x r)\/(t.kind=12/\zBz x r)
theorem tO{w r:Str}(h:expS w=some r):(atS w 0=101\/atS w 0=69)/\digB (atS (unsign (w.drop 1)) 0)=true/\r=past digB (unsign (w.drop 1)):=by
 unfold expS at h;split at h
 ·rename_i h1;split at h
  ·rename_i h2;rw[Md,Lb,Lb]at h1;injection h with h;exact⟨h1,h2,h.symm⟩
  ·cases h
 ·cases h
theorem ND{l a:Str}(h:l++a=l):a=[]:=by have:=congrArg List.length h;rw[Ba]at this;exact Cf.1 (by omega)
theorem YH{a b:zb}(h:a=b):a.text=b.text:=by rw[h]
theorem EY{t:zb}(h:zgg t)(hu:Mh t=false){x:Str}(ht:(Zp (txS t++x)).1=t):MW t x (Zp (txS t++x)).2:=by
 cases h with
 |cId l h0 h=>
  left;have hn:=yl h0;have hnd:=Ao x h;obtain⟨c,r,e⟩:=Fj (Xl hn);rw[pq]at ht ⊢;rw[e,ma]at ht ⊢;have hbr:=Un c (r++x);rw[ht]at hbr;have hbr':brS c (r++x)=7:=hbr.symm;rw[qm,hbr',Pj]at ht ⊢;rw[show c::(r++x)=ql l++x by rw[e];rfl]at ht ⊢;unfold qC at ht ⊢;rw[hnd]at ht ⊢;simp only at ht ⊢;split at ht
  ·rename_i h40;exfalso;split at ht
   ·have:=congrArg zb.kind ht;rcases TH (urlS (past spB ((zm x).2.drop 1))).1 with hk|hk<;>rw[hk]at this<;>cases this
   ·cases congrArg zb.kind ht
  ·rename_i h40;rw[Ga h40];have:=YH ht;exact jD (ND this)
 |cFn l h0 h=> left;rw[Tm,TN h0 h (by unfold Mh at hu;exact hu)]
 |cAt l h0 h=> left;rw[rq,ma]at ht ⊢;have hbr:=Un 64 (ql l++x);rw[ht]at hbr;have hbr':brS 64 (ql l++x)=6:=hbr.symm;rw[qm,hbr',Uq,Ao x h]at ht ⊢;exact jD (ND (YH ht))
 |cHash l f h0 h hbb=> left;rw[Jt,ma]at ht ⊢;have hbr:=Un 35 (Ai f l++x);rw[ht]at hbr;have hbr':brS 35 (Ai f l++x)=2:=hbr.symm;rw[qm,hbr',jm,nR h x]at ht ⊢;exact jD (ND (YH ht))
 |cStr l h=>left;rw[Vo,bH h]
 |cUrl l h=>left;rw[Ur,MO h]
 |cDel c h=> left;rw[jr,ma]at ht ⊢;have hbr:=Un c ([]++x);rw[ht]at hbr;have hbr':brS c ([]++x)=8:=hbr.symm;rw[qm,hbr',Ov,Ic]
 |cNum n f h1 h2 hf=>
  right;right;left;refine⟨rfl,?_⟩;rw[Xr,Tw]at ht ⊢;unfold WN;show zC (numT n (!f)++x)=_/\_;unfold zA at ht ⊢;generalize zC (numT n (!f)++x)=e at ht ⊢;obtain⟨e,fl⟩:=e;simp only at ht ⊢;cases hn:nmS e with
  |true=>rw[hn,Ka rfl]at ht;cases congrArg zb.kind ht
  |false=>
   rw[hn,Ga (by decide)]at ht;rw[Ga (by decide)];cases h37:atS e 0==37 with
   |true=>rw[h37,Ka rfl]at ht;cases congrArg zb.kind ht
   |false=> rw[h37,Ga (by decide)]at ht;rw[Ga (by decide)];have:fl=f:=congrArg zb.flag ht;rw[this];exact⟨rfl,hn,h37⟩
 |cPct n h1 h2=>left;rw[Vr,yN h1 h2]
 |cDim n u f h1 h2 hf h0 h=>
  have hnm:=VG h0 h;obtain⟨e1,e2⟩:=wG hnm x;rw[Yr,wO,Tw]at ht ⊢;have plain:expS (kg u++x)=none->(zA (numT n (!f)++(kg u++x))).2=x:=by
   intro hexp;have he:=FB (n:=n) (p:= !f) e1 e2 hexp;unfold zA at ht ⊢;rw[he]at ht ⊢;simp only at ht ⊢;split at ht
   ·rename_i hn;rw[Ka hn];rw[GJ h0 h]at ht ⊢;have:(u++(zm x).1)=u:=congrArg zb.unit ht;exact jD (ND this)
   ·rename_i hn;split at ht<;>cases congrArg zb.kind ht
  rcases XN h0 h x with hx|⟨e,s,he,hs,_,hu'⟩
  ·left;exact plain hx
  ·cases hexp:expS (kg u++x)with
   |none=>left;exact plain hexp
   |some z=>
    right;right;right;refine⟨rfl,s,hs,?_⟩;obtain⟨_,hd,hz⟩:=tO hexp;have hdrop:(kg u++x).drop 1=s++x:=by rw[hu'];rfl
    rw[hdrop]at hd hz;have hend:zC (numT n (!f)++(kg u++x))=(z,false):=by
     cases hp:(partT (n.natAbs%1000) (!f)).isEmpty with
     |true=>rw[aG hp,e1,e2];simp only[hexp]
     |false=>rw[KG hp,e1];simp only[hexp]
    unfold zA at ht ⊢;rw[hend]at ht ⊢;simp only at ht ⊢;split at ht
    ·rename_i hn;rw[Ka hn];exact⟨hd,by rw[<-hz];exact hn,by rw[<-hz]⟩
    ·rename_i hn;split at ht<;>cases congrArg zb.kind ht
 |cMark k h1 h2=>
  rw[Ht h1 h2,WQ h1 h2];by_cases hk:k=13
  ·right;left;exact⟨hk,by simp only[hk,Wd]⟩
  ·left;simp only[Ga hk]
end Go.Lv.VT
