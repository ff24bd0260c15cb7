/- What is read of a text, and of a longer one. -/
import Derived.Test.YtnfhfeipljhciaaGreatDoorNb
import Derived.Test.YtnfhfeipljhciaaGreatDoorLaw
import Derived.Test.YtnfhfeipljhciaaGreatDoorNam
set_option linter.unusedSimpArgs false
set_option linter.unusedVariables false
namespace Go.Lv.VT
set_option maxRecDepth 100000
theorem Mi{q:Str}{n:Nat}(x:Str)(h:n<q.length):atS (q++x) n=atS q n:=by unfold atS;rw[Sc,Sc,xc h]
theorem Nl{p:UInt8->Bool}(x:Str): ∀{q:Str},past p q≠[]->past p (q++x)=past p q++x
 |[],h=>absurd rfl h
 |c::r,h=>by
  rw[ja,past,past];rw[past]at h;cases hp:p c with
  |true=>rw[hp,Ka rfl]at h;rw[Ka rfl,Ka rfl];exact Nl x h
  |false=>rfl
theorem RA{p:UInt8->Bool}(x:Str): ∀{q:Str},past p q≠[]->(q++x).takeWhile p=q.takeWhile p
 |[],h=>absurd rfl h
 |c::r,h=>by
  rw[ja,Ag,Ag];rw[past]at h;cases hp:p c with
  |true=>rw[hp,Ka rfl]at h;rw[Ka rfl,Ka rfl,RA x h]
  |false=>rfl
theorem UO(x:Str): ∀{k n:Nat} {l:Str},(hexes k n l).2≠[]->hexes k n (l++x)=((hexes k n l).1,(hexes k n l).2++x)
 |0,n,l,_=>rfl
 |k+1,n,[],h=>absurd rfl h
 |k+1,n,c::r,h=>by
  rw[ja,hexes,hexes];rw[hexes]at h;split
  ·rename_i hc;rw[Ka hc]at h;exact UO x h
  ·rfl
theorem JV{l:Str}(x:Str)(h:l≠[]):unsp (l++x)=unsp l++x:=by
 cases l with
 |nil=>exact absurd rfl h
 |cons c r=> show(if spB c then r++x else c::(r++x))=(if spB c then r else c::r)++x;split<;>rfl
theorem xC{r:Str}(x:Str)(h:(zo r).2≠[]):zo (r++x)=((zo r).1,(zo r).2++x):=by
 cases r with
 |nil=>exact absurd rfl h
 |cons c r=>
  have e: ∀t:Str,zo (c::t)=if qA c then(jg (hexes 6 0 (c::t)).1,unsp (hexes 6 0 (c::t)).2)else([c],t):=fun t=>rfl;rw[ja,e,e];rw[e]at h;split
  ·rename_i hc;rw[Ka hc]at h;have hne:(hexes 6 0 (c::r)).2≠[]:=by intro e0;rw[e0]at h;exact h rfl
   rw[show c::(r++x)=(c::r)++x from rfl,UO x hne,JV x hne]
  ·rfl
theorem Gw{c:UInt8}{r:Str}(x:Str)(h:r≠[]\/c≠92):escS (c::(r++x))=escS (c::r):=by
 unfold escS;show(c==92&& !(atS (r++x) 0==10))=(c==92&& !(atS r 0==10));rcases h with h|h
 ·cases r with
  |nil=>exact absurd rfl h
  |cons d t=>rfl
 ·rw[Ia.2 h];rfl
theorem Pt{q:Str}(x:Str)(h:(zm q).2≠[]):zm (q++x)=((zm q).1,(zm q).2++x):=by
 match q with
 |[]=>rw[qF]at h;exact absurd rfl h
 |c::r=>
  rw[ja,zI,zI];rw[zI]at h;cases hl:letB c with
  |true=> rw[hl,Ka rfl]at h;simp only[Gd];rw[Pt x h]
  |false=>
   rw[hl,Ja (by decide)]at h;simp only[Dc,Fe];cases he:escS (c::r)with
   |true=>
    rw[he,Ka rfl]at h;have h2:(zo r).2≠[]:=by intro e;simp only[e,qF]at h;exact h rfl
    have hr:r≠[]:=by rintro rfl;exact h2 rfl
    rw[Gw x (.inl hr),he];simp only[Gd];rw[xC x h2];have:=zF r;simp only;rw[Pt x h]
   |false=>
    have hr:r≠[]\/c≠92:=by
     cases r with
     |nil=> right;rintro rfl;exact absurd he (by decide)
     |cons d t=>left;simp
    rw[Gw x hr,he];simp only[Dc,Fe];rfl
termination_by q.length
decreasing_by
 all_goals first|(have:=zF r;simp only[Ga];omega)|(simp only[Ga];omega)
theorem tC{m:UInt8}{q:Str}(x:Str)(h:(zR m q).2≠[]):zR m (q++x)=((zR m q).1,(zR m q).2++x):=by
 match q with
 |[]=>rw[Qw]at h;exact absurd rfl h
 |c::r=>
  rw[ja,qV,qV];rw[qV]at h;cases h1:c==m with
  |true=>simp only[Gd]
  |false=>
   rw[h1,Ja (by decide)]at h;simp only[Dc,Fe];cases h2:c==10 with
   |true=>simp only[Gd];rfl
   |false=>
    rw[h2,Ja (by decide)]at h;simp only[Dc,Fe];cases h3:c==92 with
    |false=> rw[h3,Ja (by decide)]at h;simp only[Dc,Fe];rw[tC x h]
    |true=>
     rw[h3,Ka rfl]at h;simp only[Gd];cases hr:r with
     |nil=>rw[hr]at h;exact absurd rfl h
     |cons d t=>
      rw[hr]at h;have hrl:r.length=t.length+1:=by rw[hr];rfl
      rw[ja,show(d::(t++x)).isEmpty=false from rfl,show(d::t).isEmpty=false from rfl];simp only[Dc,Fe];rw[show(d::t).isEmpty=false from rfl,Ja (by decide)]at h;rw[show atS (d::(t++x)) 0=atS (d::t) 0 from rfl];cases h4:atS (d::t) 0==10 with
      |true=> rw[h4,Ka rfl]at h;simp only[Gd];exact tC (q:=t) x h
      |false=>
       rw[h4,Ja (by decide)]at h;simp only[Dc,Fe];have h5:(zo (d::t)).2≠[]:=by intro e;simp only[e,Qw]at h;exact h rfl
       rw[show d::(t++x)=(d::t)++x from rfl,xC x h5];have:=zF (d::t);simp only;rw[tC x h]
termination_by q.length
decreasing_by
 all_goals first|(simp only[Ga]at *; omega)|(have:=zF (d::t);simp only[Ga]at *; omega)
theorem bA{q:Str}(x:Str)(h:badS q≠[]):badS (q++x)=badS q++x:=by
 match q with
 |[]=>rw[Ws]at h;exact absurd rfl h
 |c::r=>
  rw[ja,Mt,Mt];rw[Mt]at h;cases h1:c==41 with
  |true=>simp only[Gd]
  |false=>
   rw[h1,Ja (by decide)]at h;simp only[Dc,Fe];cases he:escS (c::r)with
   |true=>
    rw[he,Ka rfl]at h;have h5:(zo r).2≠[]:=by intro e;rw[e,Ws]at h;exact h rfl
    have hr:r≠[]:=by rintro rfl;exact h5 rfl
    rw[Gw x (.inl hr),he];simp only[Gd];rw[xC x h5];have:=zF r;exact bA x h
   |false=>
    rw[he,Ja (by decide)]at h;have hr:r≠[]\/c≠92:=by left;rintro rfl;rw[Ws]at h;exact h rfl
    rw[Gw x hr,he];simp only[Dc,Fe];exact bA x h
termination_by q.length
decreasing_by
 all_goals first|(have:=zF r;simp only[Ga];omega)|(simp only[Ga];omega)
theorem uE{q:Str}(x:Str)(h:(urlS q).2≠[]):urlS (q++x)=((urlS q).1,(urlS q).2++x):=by
 match q with
 |[]=>rw[Ml]at h;exact absurd rfl h
 |c::r=>
  rw[ja,QD,QD];rw[QD]at h;cases h1:c==41 with
  |true=>simp only[Gd]
  |false=>
   rw[h1,Ja (by decide)]at h;simp only[Dc,Fe];cases h2:spB c with
   |true=>
    rw[h2,Ka rfl]at h;simp only[Gd];cases hp:past spB r with
    |nil=>rw[hp]at h;exact absurd rfl h
    |cons d t=>
     rw[Nl x (by rw[hp];simp),hp];rw[hp]at h;simp only[ja]at h ⊢;cases h3:d==41 with
     |true=>simp only[Gd]
     |false=> rw[h3,Ja (by decide)]at h;simp only[Dc,Fe];rw[show d::(t++x)=(d::t)++x from rfl,bA x h]
   |false=>
    rw[h2,Ja (by decide)]at h;simp only[Dc,Fe];have key:(c=92->r≠[])->escS (c::(r++x))=escS (c::r):=by
     intro hh;refine Gw x ?_;by_cases e:c=92
     ·exact .inl (hh e)
     ·exact .inr e
    have hr:c=92->r≠[]:=by
     rintro rfl rfl;have e1:escS [92]=true:=by decide
     rw[e1,show((92:UInt8)==92&& !true)=false from rfl,Jf]at h;cases hu:((92:UInt8)==34||(92:UInt8)==39||(92:UInt8)==40||unB 92)with
     |true=>exact absurd hu (by decide)
     |false=> rw[hu,Ja (by decide),Ka (by decide)]at h;exact absurd (by show(urlS (zo []).2).2=[];rw[show(zo []).2=[]from rfl,Ml]) h
    rw[key hr];cases h3:c==34||c==39||c==40||unB c||c==92&& !escS (c::r)with
    |true=> rw[h3,Ka rfl]at h;simp only[Gd];rw[show c::(r++x)=(c::r)++x from rfl,bA x h]
    |false=>
     rw[h3,Ja (by decide)]at h;simp only[Dc,Fe];cases h4:c==92 with
     |true=>
      rw[h4,Ka rfl]at h;simp only[Gd];have h5:(zo r).2≠[]:=by intro e;simp only[e,Ml]at h;exact h rfl
      rw[xC x h5];have:=zF r;simp only;rw[uE x h]
     |false=> rw[h4,Ja (by decide)]at h;simp only[Dc,Fe];rw[uE x h]
termination_by q.length
decreasing_by
 all_goals first|(have:=zF r;simp only[Ga];omega)|(simp only[Ga];omega)
theorem ym{q:Str}(x:Str)(h:q≠[]):unsign (q++x)=unsign q++x/\sgOf (q++x)=sgOf q:=by
 cases q with
 |nil=>exact absurd rfl h
 |cons c r=> unfold unsign sgOf;show(if Eg c then r++x else c::(r++x))=(if Eg c then r else c::r)++x/\_;refine⟨by split<;>rfl,rfl⟩
def mf(q:Str):Str:=past digB (unsign q)
theorem BO{q x:Str}(h:(zM q).1≠[])(hd:q=[46]->digB (atS x 0)=false):zM (q++x)=((zM q).1++x,(zM q).2)/\dotP (q++x)=dotP q:=by
 unfold zM dotP;unfold zM at h;cases q with
 |nil=>exact absurd rfl h
 |cons c r=>
  have hc:(atS ((c::r)++x) 0==46&&digB (atS ((c::r)++x) 1))=(atS (c::r) 0==46&&digB (atS (c::r) 1)):=by
   show(c==46&&digB (atS (r++x) 0))=(c==46&&digB (atS r 0));cases r with
   |nil=>
    cases h46:c==46 with
    |false=>rfl
    |true=> rw[ma]at h46;subst h46;show(true&&digB (atS x 0))=(true&&digB (atS [] 0));rw[hd rfl];rfl
   |cons d t=>rfl
  rw[hc];cases hh:(atS (c::r) 0==46&&digB (atS (c::r) 1))with
  |false=>exact⟨rfl,rfl⟩
  |true=> rw[hh,Ka rfl]at h;simp only[Gd];rw[show((c::r)++x).drop 1=r++x from rfl,show(c::r).drop 1=r from rfl];have h':past digB r≠[]:=h;rw[Nl x h',RA x h'];exact⟨rfl,rfl⟩
theorem zAk{w x:Str}(hw:w≠[])(h: ∀r,expS w=some r->r≠[])(hn:expS w=none->expS (w++x)=none):
  expS (w++x)=(expS w).map (· ++x)/\expP (w++x)=expP w:=by
 have hP: ∀q:Str,expP q=if(expS q).isSome then some (atS q 0,sgOf (q.drop 1),(unsign (q.drop 1)).takeWhile digB)else none:=by
  intro q;unfold expP expS;cases atS q 0==101||atS q 0==69 with
  |false=>rfl
  |true=> cases digB (atS (unsign (q.drop 1)) 0)<;>rfl
 cases he:expS w with
 |none=> rw[hn he,hP,hP,hn he,he];exact⟨rfl,rfl⟩
 |some r=>
  have hr:=h r he;cases w with
  |nil=>exact absurd rfl hw
  |cons c t=>
   have he':=he;unfold expS at he';cases h1:atS (c::t) 0==101||atS (c::t) 0==69 with
   |false=>rw[h1,Ja (by decide)]at he';cases he'
   |true=>
    rw[h1,Ka rfl]at he';cases h2:digB (atS (unsign ((c::t).drop 1)) 0)with
    |false=>rw[h2,Ja (by decide)]at he';cases he'
    |true=>
     rw[h2,Ka rfl]at he';have hrr:past digB (unsign t)=r:=by injection he'
     have ht:t≠[]:=by rintro rfl;exact absurd (show digB (atS (unsign []) 0)=true from h2) (by decide)
     obtain⟨u1,u2⟩:=ym x ht;have hun:unsign t≠[]:=by intro e;rw[show(c::t).drop 1=t from rfl,e]at h2;exact absurd h2 (by decide)
     have hexp:expS ((c::t)++x)=some (r++x):=by unfold expS;rw[show atS ((c::t)++x) 0=atS (c::t) 0 from rfl,h1,Ka rfl,show((c::t)++x).drop 1=t++x from rfl,u1];have:atS (unsign t++x) 0=atS (unsign t) 0:=Mi x (Ee.2 hun);rw[this,show digB (atS (unsign t) 0)=true from h2,Ka rfl,Nl x (by rw[hrr];exact hr),hrr]
     refine⟨by rw[hexp];rfl,?_⟩;rw[hP,hP,hexp,he];simp only[Option.isSome_some,Gd];rw[show((c::t)++x).drop 1=t++x from rfl,show(c::t).drop 1=t from rfl,u1,u2,RA x (by rw[hrr];exact hr)];rfl
theorem Qi(q:Str):zu q=(match expS (zM (mf q)).1 with|some r=>(r,false)|none=>zM (mf q)):=rfl
theorem XE{q x:Str}(h:(zu q).1≠[])(hd:mf q=[46]->digB (atS x 0)=false)(hn:expS (zM (mf q)).1=none->expS ((zM (mf q)).1++x)=none):
  zu (q++x)=((zu q).1++x,(zu q).2)/\numP (q++x)=numP q:=by
 rw[Qi]at h;have hsome: ∀r,expS (zM (mf q)).1=some r->r≠[]:=by intro r hr;rw[hr]at h;exact h
 have hw:(zM (mf q)).1≠[]:=by intro e;rw[e,show expS []=none from rfl]at h;exact h e
 have h2:mf q≠[]:=by intro e;rw[e]at hw;exact hw rfl
 have hq:q≠[]:=by rintro rfl;exact h2 rfl
 obtain⟨u1,u2⟩:=ym x hq;have e2:mf (q++x)=mf q++x:=by unfold mf;rw[u1];exact Nl x h2
 obtain⟨w1,w2⟩:=BO hw hd;obtain⟨x1,x2⟩:=zAk hw hsome hn;have hP: ∀z:Str,numP z=⟨sgOf z,(unsign z).takeWhile digB,dotP (mf z),expP (zM (mf z)).1⟩:=fun z=>rfl;constructor
 ·rw[Qi,Qi,e2,w1];simp only[x1];cases expS (zM (mf q)).1<;>rfl
 ·rw[hP,hP,u2,u1,RA x h2,e2,w1,w2,x2]
def brS(c:UInt8)(r:Str):Nat:=
 if spB c then 0
 else if c==34||c==39 then 1
 else if c==35&&(letB (atS r 0)||escS r)then 2
 else if nbS (c::r)then 3
 else if [45,45,62].isPrefixOf (c::r)then 4
 else if [60,33,45,45].isPrefixOf (c::r)then 5
 else if c==64&&nmS r then 6
 else if nmS (c::r)then 7
 else if Yg c==0 then 8
 else 9
def nxB:Nat->UInt8->Str->zb×Str
 |0,c,r=>(Nh 13,past spB (c::r))
 |1,c,r=>(Vj (zR c r).1,(zR c r).2)
 |2,_,r=>(⟨4,(zm r).1,0,[],nmS r⟩,(zm r).2)
 |3,c,r=>zy (c::r)
 |4,c,r=>(Nh 15,(c::r).drop 3)
 |5,c,r=>(Nh 14,(c::r).drop 4)
 |6,_,r=>(⟨3,(zm r).1,0,[],false⟩,(zm r).2)
 |7,c,r=>qo (c::r)
 |8,c,r=>(⟨9,[c],0,[],false⟩,r)
 |_+9,c,r=>(Nh (Yg c),r)
theorem Pz(c:UInt8)(r:Str):nxB 0 c r=(Nh 13,past spB (c::r)):=by rw[nxB]
theorem Sq(c:UInt8)(r:Str):nxB 1 c r=(Vj (zR c r).1,(zR c r).2):=by rw[nxB]
theorem Hm(c:UInt8)(r:Str):nxB 2 c r=(⟨4,(zm r).1,0,[],nmS r⟩,(zm r).2):=by rw[nxB]
theorem Kj(c:UInt8)(r:Str):nxB 3 c r=zy (c::r):=by rw[nxB]
theorem aJ(c:UInt8)(r:Str):nxB 4 c r=(Nh 15,(c::r).drop 3):=by rw[nxB]
theorem YJ(c:UInt8)(r:Str):nxB 5 c r=(Nh 14,(c::r).drop 4):=by rw[nxB]
theorem Rq(c:UInt8)(r:Str):nxB 6 c r=(⟨3,(zm r).1,0,[],false⟩,(zm r).2):=by rw[nxB]
theorem di(c:UInt8)(r:Str):nxB 7 c r=qo (c::r):=by rw[nxB]
theorem Lu(c:UInt8)(r:Str):nxB 8 c r=(⟨9,[c],0,[],false⟩,r):=by rw[nxB]
theorem Oz(c:UInt8)(r:Str):nxB 9 c r=(Nh (Yg c),r):=rfl
theorem qB(c:UInt8)(r:Str):Zo (c::r)=nxB (brS c r) c r:=by
 rw[Wt];unfold brS;split
 ·rfl
 ·split
  ·rfl
  ·split
   ·rfl
   ·split
    ·rfl
    ·split
     ·rfl
     ·split
      ·rfl
      ·split
       ·rfl
       ·split
        ·rfl
        ·split<;>rfl
theorem br_4{c:UInt8}{r:Str}:brS c r=4->[45,45,62].isPrefixOf (c::r)=true:=by unfold brS;intro h;(repeat' split at h)<;>first|assumption|exact absurd h (by decide)
theorem br_5{c:UInt8}{r:Str}:brS c r=5->[60,33,45,45].isPrefixOf (c::r)=true:=by unfold brS;intro h;(repeat' split at h)<;>first|assumption|exact absurd h (by decide)
theorem br_9{c:UInt8}{r:Str}:brS c r=9-> ¬(Yg c==0)=true:=by unfold brS;intro h;(repeat' split at h)<;>first|assumption|exact absurd h (by decide)
theorem rU(c:UInt8)(r:Str):brS c r<=9:=by unfold brS;(repeat' split)<;>decide
def brK(k:Int):Nat:=
 if k=13 then 0 else if k=5\/k=6 then 1 else if k=4 then 2 else if k=10\/k=11\/k=12 then 3 else if k=15 then 4 else if k=14 then 5 else if k=3 then 6
 else if k=1\/k=2\/k=7\/k=8 then 7 else if k=9 then 8 else 9
theorem sV(c:UInt8):Yg c=0\/(16<=Yg c/\Yg c<=24):=by
 have: ∀n:Nat,n<256->Yg (UInt8.ofNat n)=0\/(16<=Yg (UInt8.ofNat n)/\Yg (UInt8.ofNat n)<=24):=by decide+kernel
 have:=this c.toNat (Ib c)
 rwa [Sb]at this
theorem aW(o:Option Str):(Vj o).kind=5\/(Vj o).kind=6:=by cases o<;>simp[Vj]
theorem sF(o:Option Str):(Xh o).kind=7\/(Xh o).kind=8:=by cases o<;>simp[Xh]
theorem V3(l:Str):(qo l).1.kind=1\/(qo l).1.kind=2\/(qo l).1.kind=7\/(qo l).1.kind=8:=by
 unfold qo;split
 ·split
  ·exact .inr (.inr (sF _))
  ·exact .inr (.inl rfl)
 ·exact .inl rfl
theorem A8(l:Str):(zy l).1.kind=10\/(zy l).1.kind=11\/(zy l).1.kind=12:=by
 unfold zy;split
 ·exact .inr (.inr rfl)
 ·split
  ·exact .inr (.inl rfl)
  ·exact .inl rfl
theorem vU{i:Nat}(h:i<=9):i=0\/i=1\/i=2\/i=3\/i=4\/i=5\/i=6\/i=7\/i=8\/i=9:=by omega
theorem Wm(c:UInt8)(r:Str):brK (Zo (c::r)).1.kind=brS c r:=by
 rw[qB];rcases vU (rU c r)with h|h|h|h|h|h|h|h|h|h
 ·rw[h];rfl
 ·rw[h,Sq];show brK (Vj (zR c r).1).kind=1;rcases aW (zR c r).1 with h|h<;>rw[h]<;>rfl
 ·rw[h];rfl
 ·rw[h,Kj];rcases A8 (c::r)with h|h|h<;>rw[h]<;>rfl
 ·rw[h];rfl
 ·rw[h];rfl
 ·rw[h];rfl
 ·rw[h,di];rcases V3 (c::r)with h|h|h|h<;>rw[h]<;>rfl
 ·rw[h];rfl
 ·have h1:=sV c;have h0:=br_9 h;rw[ma]at h0;rw[h,Oz];show brK (Yg c)=9;unfold brK
  repeat rw[Ja (by omega)]
theorem BZ{q x:Str}(h:(qo q).2≠[]):qo (q++x)=((qo q).1,(qo q).2++x):=by
 have hn:(zm q).2≠[]:=by intro e;unfold qo at h;rw[e,Ja (by decide)]at h;exact h rfl
 have e:=Pt x hn;unfold qo;unfold qo at h;rw[e];simp only;have h0:atS ((zm q).2++x) 0=atS (zm q).2 0:=Mi x (Ee.2 hn);rw[h0];cases h40:atS (zm q).2 0==40 with
 |false=>rfl
 |true=>
  rw[h40,Ka rfl]at h;simp only[Gd];cases hn2:(zm q).2 with
  |nil=>exact absurd hn2 hn
  |cons c r=>
   rw[hn2]at h;rw[show((c::r)++x).drop 1=r++x from rfl];rw[show(c::r).drop 1=r from rfl]at h ⊢;cases hu:lowS (zm q).1==[117,114,108]with
   |false=> rw[hu,Ic,Ja (by decide)]at h;simp only[Ic,Dc,Fe]
   |true=>
    rw[hu,Lb]at h;simp only[Lb];cases hp:past spB r with
    |nil=> rw[hp,Ka (by decide),Ml]at h;exact absurd rfl h
    |cons d t=>
     rw[Nl x (by rw[hp];simp),hp];rw[hp]at h;rw[show atS ((d::t)++x) 0=atS (d::t) 0 from rfl];split
     ·rename_i hq;rw[Ka hq]at h;rw[uE x h]
     ·rfl
theorem Gp{q x:Str}{n:Nat}(h:n<=q.length):(q++x).drop n=q.drop n++x:=List.drop_append_of_le_length h
structure zjB (q x:Str):Prop where
 e:zu (q++x)=((zu q).1++x,(zu q).2)
 p:numP (q++x)=numP q
 n:nmS ((zu q).1++x)=nmS (zu q).1
theorem J5{q x:Str}(hs:zjB q x)(h:(zy q).2≠[]):zy (q++x)=((zy q).1,(zy q).2++x):=by
 have he:(zu q).1≠[]:=by intro e;unfold zy at h;rw[e,Ja (by decide),Ja (by decide)]at h;exact h rfl
 have h0:atS ((zu q).1++x) 0=atS (zu q).1 0:=Mi x (Ee.2 he);unfold zy;unfold zy at h;rw[hs.e,hs.p];simp only[hs.n,h0];cases hn:nmS (zu q).1 with
 |true=> rw[hn,Ka rfl]at h;simp only[Gd];rw[Pt x h]
 |false=>
  simp only[Dc,Fe];cases h37:atS (zu q).1 0==37 with
  |true=> simp only[Gd];rw[Gp (Ee.2 he)]
  |false=>simp only[Dc,Fe]
theorem UB {c:UInt8} {r x:Str} (hb:brS c (r++x)=brS c r) (h:(Zo (c::r)).2≠[]) (hh:brS c r=2->nmS (r++x)=nmS r)
  (hnum:brS c r=3->zjB (c::r) x):Zo (c::(r++x))=((Zo (c::r)).1,(Zo (c::r)).2++x):=by
 rw[qB c (r++x),hb];rw[qB]at h ⊢;rcases vU (rU c r)with hi|hi|hi|hi|hi|hi|hi|hi|hi|hi
 ·rw[hi,Pz]at h;rw[hi,Pz,Pz,show c::(r++x)=(c::r)++x from rfl,Nl x h]
 ·rw[hi,Sq]at h;rw[hi,Sq,Sq,tC x h]
 ·rw[hi,Hm]at h;rw[hi,Hm,Hm,Pt x h,hh hi]
 ·have hn:=hnum hi;rw[hi,Kj]at h;rw[hi,Kj,Kj,show c::(r++x)=(c::r)++x from rfl,J5 hn h]
 ·have h':=Aj (br_4 hi);rw[hi,aJ,aJ,show c::(r++x)=(c::r)++x from rfl,Gp (show 3<=(c::r).length from h')]
 ·have h':=Aj (br_5 hi);rw[hi,YJ,YJ,show c::(r++x)=(c::r)++x from rfl,Gp (show 4<=(c::r).length from h')]
 ·rw[hi,Rq]at h;rw[hi,Rq,Rq,Pt x h]
 ·rw[hi,di]at h;rw[hi,di,di,show c::(r++x)=(c::r)++x from rfl,BZ h]
 ·rw[hi,Lu,Lu]
 ·rw[hi,Oz,Oz]
theorem JO{q:Str}(x:Str)(h:q≠[]):undot (q++x)=undot q++x:=by
 cases q with
 |nil=>exact absurd rfl h
 |cons c r=> unfold undot;show(if c==46 then r++x else c::(r++x))=(if c==46 then r else c::r)++x;split<;>rfl
theorem GX(q:Str):q.length<=(undot q).length+1:=by
 unfold undot;split
 ·rw[Ob];omega
 ·omega
theorem dH(q:Str):q.length<=(unsign q).length+1:=by
 unfold unsign;split
 ·rw[Ob];omega
 ·omega
theorem Np{q:Str}(h:1<=q.length):q≠[]:=by rintro rfl;cases h
theorem zB9{q:Str}(x:Str)(h:3<=q.length):nbS (q++x)=nbS q:=by have h1:=dH q;have h2:=GX (unsign q);unfold nbS;rw[(ym x (Np (by omega))).1,JO x (Np (by omega)),Mi x (by omega)]
theorem yz{q:Str}(x:Str)(h:3<=q.length):nmS (q++x)=nmS q:=by unfold nmS escS;rw[Gp (by omega),Mi x (show 0<q.length by omega),Mi x (show 1<q.length by omega),Mi x (show 0<(q.drop 1).length by rw[Ob];omega),Mi x (show 1<(q.drop 1).length by rw[Ob];omega)]
theorem Yr{m:Str}: ∀{q:Str} (x:Str),m.length<=q.length->m.isPrefixOf (q++x)=m.isPrefixOf q:=by
 induction m with
 |nil=>intros;rw[List.isPrefixOf,List.isPrefixOf]
 |cons a m ih=>
  intro q x h;cases q with
  |nil=>rw[Ga,Jb]at h;omega
  |cons b t=> rw[Ga,Ga]at h;rw[ja,List.isPrefixOf,List.isPrefixOf,ih x (by omega)]
theorem zBD{c:UInt8}{r:Str}(x:Str)(h:4<=r.length):brS c (r++x)=brS c r:=by
 have e:c::(r++x)=(c::r)++x:=rfl;have hl:(c::r).length=r.length+1:=rfl;unfold brS;rw[e,zB9 x (by omega),Yr x (by show 3<=_;omega),Yr x (by show 4<=_;omega),yz x (q:=r) (by omega),yz x (q:=c::r) (by omega),Mi x (show 0<r.length by omega)];have:escS (r++x)=escS r:=by unfold escS;rw[Mi x (show 0<r.length by omega),Mi x (show 1<r.length by omega)]
 rw[this]
theorem om{w:Str}:expS w=none↔((atS w 0==101||atS w 0==69)&&digB (atS (unsign (w.drop 1)) 0))=false:=by
 unfold expS;cases atS w 0==101||atS w 0==69 with
 |false=>simp
 |true=>cases digB (atS (unsign (w.drop 1)) 0)<;>simp
theorem zAm{w:Str}(x:Str)(h:3<=w.length)(hn:expS w=none):expS (w++x)=none:=by rw[om]at hn ⊢;have h1:=dH (w.drop 1);rw[Ob]at h1;rw[Gp (by omega),(ym x (Np (by rw[Ob];omega))).1,Mi x (show 0<w.length by omega),Mi x (by omega)];exact hn
theorem OZ(q:Str):(zM q).1<:+q:=by
 unfold zM;split
 ·exact(mo _ _).trans (je 1 q)
 ·exact Gc _
theorem zBM(q:Str):(zu q).1<:+(zM (mf q)).1:=by
 rw[Qi];cases h:expS (zM (mf q)).1 with
 |some r=>exact NL (Gc _) h
 |none=>exact Gc _
theorem WQ(q:Str):(zy q).2<:+(zu q).1:=by
 unfold zy;split
 ·exact Yk _
 ·split
  ·exact je 1 _
  ·exact Gc _
theorem zAK{q:Str}(x:Str)(h:4<=(zu q).1.length):zjB q x:=by have h1:=(zBM q).length_le;have h2:=(OZ (mf q)).length_le;obtain⟨a,b⟩:=XE (q:=q) (x:=x) (Np (by omega)) (fun e=>by rw[e]at h1 h2;simp only[Ua]at h2;omega) (zAm x (by omega));exact⟨a,b,yz x (by omega)⟩
theorem lV{c:UInt8}{r:Str}(x:Str)(h:4<=(Zo (c::r)).2.length):Zo (c::(r++x))=((Zo (c::r)).1,(Zo (c::r)).2++x):=by have h1:=(Ak c r).length_le;refine UB (zBD x (by omega)) (Np (by omega)) (fun _=>yz x (by omega)) (fun hb=>zAK x ?_);rw[qB,hb,Kj]at h;have:=(WQ (c::r)).length_le;omega
theorem nz(q y:Str):escS (q++47::y)=escS q:=by
 match q with
 |[]=>rfl
 |[c]=>rfl
 |c::d::t=>rfl
theorem Uu(q y:Str):nmS (q++47::y)=nmS q:=by
 match q with
 |[]=>rfl
 |[c]=> unfold nmS;show(if c==45 then fstB 47||47==45||escS (47::y)else fstB c||escS ([c]++47::y))=(if c==45 then fstB 0||0==45||escS []else fstB c||escS [c]);rw[nz];rfl
 |c::d::t=> unfold nmS;show(if c==45 then fstB d||d==45||escS ((d::t)++47::y)else fstB c||escS ((c::d::t)++47::y))=(if c==45 then fstB d||d==45||escS (d::t)else fstB c||escS (c::d::t));rw[nz,nz]
theorem mJ(q y:Str):digB (atS (q++47::y) 0)=digB (atS q 0):=by
 cases q with
 |nil=>rfl
 |cons c t=>rfl
theorem FO(q y:Str):unsign (q++47::y)=unsign q++47::y:=by
 cases q with
 |nil=>rfl
 |cons c t=>exact(ym (47::y) (by simp)).1
theorem KV(q y:Str):undot (q++47::y)=undot q++47::y:=by
 cases q with
 |nil=>rfl
 |cons c t=>exact JO (47::y) (by simp)
theorem zCU(q y:Str):nbS (q++47::y)=nbS q:=by unfold nbS;rw[FO,KV,mJ]
theorem PK{m:Str}(hm: ∀b∈m,b≠47): ∀(q y:Str),m.isPrefixOf (q++47::y)=m.isPrefixOf q:=by
 induction m with
 |nil=>intros;rw[List.isPrefixOf,List.isPrefixOf]
 |cons a m ih=>
  intro q y;cases q with
  |nil=> have:(a==47)=false:=Ia.2 (hm a (Kb ..));show((a==47)&&m.isPrefixOf y)=false;rw[this];rfl
  |cons b t=>rw[ja,List.isPrefixOf,List.isPrefixOf,ih (fun b hb=>hm b (Rb _ hb))]
theorem zB1(q y:Str):letB (atS (q++47::y) 0)=letB (atS q 0):=by
 cases q with
 |nil=>rfl
 |cons c t=>rfl
theorem pU(c:UInt8)(r y:Str):brS c (r++47::y)=brS c r:=by have e:c::(r++47::y)=(c::r)++47::y:=rfl;unfold brS;rw[e,zCU,PK (by decide),PK (by decide),Uu,Uu,zB1,nz]
theorem zBP{w:Str}(y:Str)(hn:expS w=none):expS (w++47::y)=none:=by
 cases w with
 |nil=>rfl
 |cons c t=> rw[om]at hn ⊢;show((c==101||c==69)&&digB (atS (unsign (t++47::y)) 0))=false;rw[FO,mJ];exact hn
theorem zCc{q:Str}(y:Str)(h:(zu q).1≠[]):zjB q (47::y):=by obtain⟨a,b⟩:=XE (q:=q) (x:=47::y) h (fun _=>rfl) (zBP y);exact⟨a,b,Uu _ y⟩
theorem CQ{q:Str}(h:(zy q).2≠[]):(zu q).1≠[]:=by intro e;have:=(WQ q).length_le;rw[e]at this;exact h (Pf.1 (by simpa using this))
theorem zAI{c:UInt8}{r:Str}(y:Str)(h:(Zo (c::r)).2≠[]):Zo (c::(r++47::y))=((Zo (c::r)).1,(Zo (c::r)).2++47::y):=by refine UB (pU c r y) h (fun _=>Uu r y) (fun hb=>zCc y ?_);rw[qB,hb,Kj]at h;exact CQ h
def eD(c:UInt8)(r x:Str):Prop:=(∃e fl,(e=101\/e=69)/\zM (mf (c::r))=([e,43],fl))/\(Zo (c::r)).2=[43]/\(Zo (c::r)).1.kind=12/\digB (atS x 0)=true
theorem gV{c:UInt8}{r x:Str}(hb:brS c r=3)(h:(Zo (c::r)).2≠[])(hx:x≠[])(ht:(zy ((c::r)++x)).1=(zy (c::r)).1):
  zjB (c::r) x\/eD c r x:=by
 have hnx:Zo (c::r)=zy (c::r):=by rw[qB,hb,Kj]
 rw[hnx]at h;have he:=CQ h;have hflag: ∀q:Str,(zy q).1.kind=10->(zy q).1.flag=(zu q).2:=by
  intro q;unfold zy;split
  ·intro h;cases h
  ·split
   ·intro h;cases h
   ·intro _;rfl
 have hnm: ∀q:Str,((zy q).1.kind=12↔nmS (zu q).1=true):=by
  intro q;unfold zy;split
  ·rename_i h;simp[h]
  ·rename_i h;split<;>simp[h]
 by_cases hd:mf (c::r)=[46]->digB (atS x 0)=false
 ·by_cases hn:expS (zM (mf (c::r))).1=none->expS ((zM (mf (c::r))).1++x)=none
  ·obtain⟨a,b⟩:=XE he hd hn;refine .inl ⟨a,b,?_⟩;have k1:=hnm ((c::r)++x);have k2:=hnm (c::r);rw[ht,a]at k1;rw[Vf];exact k1.symm.trans k2
  ·right;obtain⟨hn1,hn2⟩:=Classical.not_imp.1 hn;have hend:zu (c::r)=zM (mf (c::r)):=by rw[Qi,hn1]
   rw[hend]at he;obtain⟨w,fl⟩: ∃w fl,zM (mf (c::r))=(w,fl):=⟨_,_,rfl⟩;obtain⟨fl,hw⟩:=fl;rw[hw]at he hn1 hn2 hend;simp only at he hn1 hn2;rw[om]at hn1;rw[om]at hn2;cases w with
   |nil=>exact absurd rfl he
   |cons e t=>
    have h2:((e==101||e==69)&&digB (atS (unsign (t++x)) 0))=true:=by
     have:((atS ((e::t)++x) 0==101||atS ((e::t)++x) 0==69)&&digB (atS (unsign (((e::t)++x).drop 1)) 0))=true:=by
      cases hh:((atS ((e::t)++x) 0==101||atS ((e::t)++x) 0==69)&&digB (atS (unsign (((e::t)++x).drop 1)) 0))with
      |true=>rfl
      |false=>exact absurd hh hn2
     exact this
    have h1:((e==101||e==69)&&digB (atS (unsign t) 0))=false:=hn1;rw[Da]at h2;rw[h2.1,Lb]at h1;have hee:e=101\/e=69:=by have:=h2.1;rw[Tc,ma,ma]at this;exact this
    have hfst:fstB e=true/\letB e=true/\(e==45)=false:=by rcases hee with rfl|rfl<;>decide
    have hnmw:nmS (e::t)=true:=by unfold nmS;rw[show atS (e::t) 0=e from rfl,hfst.2.2,Ja (by decide),hfst.1];rfl
    have hnum:zy (c::r)=(⟨12,[],(numP (c::r)).val,(zm (e::t)).1,fl⟩,(zm (e::t)).2):=by unfold zy;rw[hend,Ka hnmw]
    rw[hnum]at h;have h':(zm (e::t)).2≠[]:=h;have ht43:t=[43]/\digB (atS x 0)=true:=by
     match t with
     |[]=>rw[zI,Ka hfst.2.1,qF]at h';exact absurd rfl h'
     |[d]=>
      have hux:unsign ([d]++x)=if Eg d then x else d::x:=rfl;have hu:unsign [d]=if Eg d then []else [d]:=rfl;rw[hux]at h2;rw[hu]at h1;cases hs:Eg d with
      |false=>
       rw[hs,Ja (by decide)]at h1 h2;have:=h2.2;rw[show atS (d::x) 0=atS [d] 0 from rfl,h1]at this;cases this
      |true=>
       rw[hs,Ka rfl]at h2;unfold Eg at hs;rw[Tc,ma,ma]at hs;rcases hs with rfl|rfl
       ·exact⟨rfl,h2.2⟩
       ·rw[zI,Ka hfst.2.1,zI,Ka (by decide),qF]at h';exact absurd rfl h'
     |d::d2::t2=>
      exfalso;have hlen:1<=(unsign (d::d2::t2)).length:=by have:=dH (d::d2::t2);rw[Ga,Ga]at this;omega
      have:=h2.2;rw[(ym x (by simp)).1,Mi x (by omega),h1]at this;cases this
    obtain⟨rfl,hdx⟩:=ht43;refine⟨⟨e,fl,hee,hw⟩,?_,?_,hdx⟩
    ·rw[hnx,hnum];show(zm [e,43]).2=[43];rw[zI,Ka hfst.2.1,zI,Ja (by decide),Ja (by decide)]
    ·rw[hnx,hnum]
 ·exfalso;obtain⟨hq2,hdx⟩:=Classical.not_imp.1 hd;have hend:zu (c::r)=([46],true):=by rw[Qi,hq2];rfl
  have hnum:zy (c::r)=(⟨10,[],(numP (c::r)).val,[],true⟩,[46]):=by unfold zy;rw[hend,Ja (by decide),Ja (by decide)]
  rw[hnum]at ht;have hf:=hflag ((c::r)++x) (by rw[ht]);rw[ht]at hf;have hun:unsign (c::r)≠[]:=by intro e;rw[mf,e]at hq2;cases hq2
  have e2:mf ((c::r)++x)=46::x:=by unfold mf;rw[(ym x (by simp)).1,Nl x (by unfold mf at hq2;rw[hq2];simp)];unfold mf at hq2;rw[hq2];rfl
  have hw:zM (46::x)=(past digB x,false):=by
   unfold zM;have:digB (atS x 0)=true:=by cases hh:digB (atS x 0)with|true=>rfl|false=>exact absurd hh hdx
   rw[show atS (46::x) 0=46 from rfl,show atS (46::x) 1=atS x 0 from rfl,this];rfl
  have hfl:(zu ((c::r)++x)).2=false:=by rw[Qi,e2,hw];simp only;cases expS (past digB x)<;>rfl
  rw[hfl]at hf;cases hf
theorem DZ{c:UInt8}{r x:Str}(h:(Zo (c::r)).2≠[])(hx:x≠[])(ht:(Zo (c::(r++x))).1=(Zo (c::r)).1):
  (Zo (c::(r++x))).2=(Zo (c::r)).2++x\/eD c r x:=by
 have hb:brS c (r++x)=brS c r:=by rw[<-Wm,<-Wm,ht]
 have hh:brS c r=2->nmS (r++x)=nmS r:=by intro hi;have:=congrArg zb.flag ht;rw[qB,qB,hb,hi,Hm,Hm]at this;exact this
 by_cases hi:brS c r=3
 ·have hnx:Zo (c::r)=zy (c::r):=by rw[qB,hi,Kj]
  have hnx2:Zo (c::(r++x))=zy ((c::r)++x):=by rw[qB,hb,hi,Kj];rfl
  have ht':=ht;rw[hnx,hnx2]at ht';rcases gV hi h hx ht' with hs|hp
  ·left;rw[UB hb h hh (fun _=>hs)]
  ·exact .inr hp
 ·left;rw[UB hb h hh (fun e=>absurd e hi)]
def run:Str->List zb->Str->Prop
 |q,[],R=>q=R
 |q,t::ts,R=> ∃c r,cmtS q=c::r/\(Zo (c::r)).1=t/\run (Zo (c::r)).2 ts R
theorem Vv: ∀{ts:List zb} {q R:Str},run q ts R->R<:+q
 |[],q,R,h=>by rw[run]at h;subst h;exact Gc _
 |t::ts,q,R,h=>by obtain⟨c,r,h1,h2,h3⟩:=h;have h4:=Ti q;rw[h1]at h4;exact(Vv h3).trans ((Ak c r).trans ((Td c r).trans h4))
theorem Gt: ∀{ts:List zb} {q R:Str},run q ts R->qm q=ts++qm R
 |[],q,R,h=>by rw[run]at h;subst h;rfl
 |t::ts,q,R,h=>by obtain⟨c,r,h1,h2,h3⟩:=h;rw[QC h1,h2,Gt h3];rfl
theorem oF: ∀{ts us:List zb} {q R S:Str},run q ts R->run R us S->run q (ts++us) S
 |[],us,q,R,S,h,h'=>by rw[run]at h;subst h;exact h'
 |t::ts,us,q,R,S,h,h'=>by obtain⟨c,r,h1,h2,h3⟩:=h;exact⟨c,r,h1,h2,oF h3 h'⟩
theorem NN: ∀{ts us:List zb} {q:Str},qm q=ts++us-> ∃R,run q ts R/\qm R=us
 |[],us,q,h=>⟨q,rfl,h⟩
 |t::ts,us,q,h=>by
  cases hc:cmtS q with
  |nil=>rw[QM hc]at h;cases h
  |cons c r=> rw[QC hc,ja]at h;injection h with h1 h2;obtain⟨R,h3,h4⟩:=NN h2;exact⟨R,⟨c,r,hc,h1,h3⟩,h4⟩
theorem tK: ∀{ts:List zb} {q R S:Str},run q ts R->run q ts S->R=S
 |[],q,R,S,h,h'=>by rw[run]at h h';rw[<-h,h']
 |t::ts,q,R,S,h,h'=>by obtain⟨c,r,h1,h2,h3⟩:=h;obtain⟨c',r',h1',h2',h3'⟩:=h';rw[h1]at h1';injection h1' with e1 e2;subst e1 e2;exact tK h3 h3'
theorem uK{ts:List zb}{q R:Str}(hne:ts≠[]):run (cmtS q) ts R↔run q ts R:=by
 cases ts with
 |nil=>exact absurd rfl hne
 |cons t ts=>
  constructor
  ·rintro⟨c,r,h1,h2⟩;rw[Wl]at h1;exact⟨c,r,h1,h2⟩
  ·rintro⟨c,r,h1,h2⟩;exact⟨c,r,by rw[Wl];exact h1,h2⟩
theorem YF(x:Str): ∀{l r:Str},clsS l=some r->clsS (l++x)=some (r++x)
 |[],r,h=>by cases h
 |c::t,r,h=>by
  rw[clsS]at h;rw[ja,clsS];cases t with
  |nil=>
   cases hc:c==42&&atS ([]:Str) 0==47 with
   |true=>rw[Da]at hc;exact absurd hc.2 (by decide)
   |false=>rw[hc,Ja (by decide)]at h;cases h
  |cons d u=>
   rw[show atS ((d::u)++x) 0=atS (d::u) 0 from rfl];split
   ·rename_i hc;rw[Ka hc]at h;injection h with h;subst h;rfl
   ·rename_i hc;rw[Ja hc]at h;exact YF x h
theorem Sw{q x:Str}(h:cmtS q≠[])(hp:([47,42]:Str).isPrefixOf (cmtS q++x)=false):cmtS (q++x)=cmtS q++x:=by
 rw[Ui q]at h hp ⊢;split at h
 ·rename_i hq;have hl:=Aj hq;rw[show([47,42]:Str).length=2 from rfl]at hl;rw[Ka hq]at hp ⊢;cases hc:clsS (q.drop 2)with
  |none=>rw[hc]at h;exact absurd rfl h
  |some p=>
   rw[hc]at h hp;simp only at h hp ⊢;rw[Ui (q++x),Yr x (by exact hl),hq,Ka rfl,Gp hl,YF x hc];simp only;have h2:p.length<q.length:=by have h2:=(Kl _ hc).2;rw[Ob]at h2;omega
   exact Sw h hp
 ·rename_i hq;rw[Ja hq]at hp ⊢;exact Z6 hp
termination_by q.length
decreasing_by omega
theorem XG{c d:UInt8}(t x:Str):([47,42]:Str).isPrefixOf ((c::d::t)++x)=([47,42]:Str).isPrefixOf (c::d::t):=Yr x (by show 2<=_;simp)
theorem tL{q x:Str}(h:2<=(cmtS q).length):cmtS (q++x)=cmtS q++x:=by refine Sw (Np (by omega)) ?_;rw[Yr x (by exact h)];exact Rw q
theorem DN{c:UInt8}{r:Str}(h:(Zo (c::r)).2≠[]):2<=(c::r).length:=by have h1:=(Ak c r).length_le;have h2:=Ee.2 h;rw[Ga];omega
theorem sK: ∀{ts:List zb} {q R:Str} (x:Str),run q ts R->4<=R.length->run (q++x) ts (R++x)
 |[],q,R,x,h,_=>by rw[run]at h;subst h;rfl
 |t::ts,q,R,x,h,hl=>by obtain⟨c,r,h1,h2,h3⟩:=h;have h4:=(Vv h3).length_le;have h5:=lV x (c:=c) (r:=r) (by omega);have h6:=DN (c:=c) (r:=r) (Np (by omega));refine⟨c,r++x,by rw[tL (by rw[h1];exact h6),h1];rfl,by rw[h5];exact h2,?_⟩;rw[h5];exact sK x h3 hl
theorem SE{q:Str}(y:Str)(h:cmtS q≠[]):cmtS (q++47::42::y)=cmtS q++47::42::y:=by
 refine Sw h ?_;have hp:=Rw q;cases hq:cmtS q with
 |nil=>exact absurd hq h
 |cons c t=>
  cases t with
  |nil=> show((47==c)&&((42==(47:UInt8))&&_))=false;rw[show((42:UInt8)==47)=false from rfl,Ic,Xd]
  |cons d u=>rw[XG,<-hq];exact hp
theorem uD: ∀{ts:List zb} {q R:Str} (y:Str),run q ts R->R≠[]->run (q++47::42::y) ts (R++47::42::y)
 |[],q,R,y,h,_=>by rw[run]at h;subst h;rfl
 |t::ts,q,R,y,h,hl=>by
  obtain⟨c,r,h1,h2,h3⟩:=h;have h4:(Zo (c::r)).2≠[]:=by intro e;have:=(Vv h3).length_le;rw[e]at this;exact hl (Pf.1 (by simpa using this))
  have h5:=zAI (42::y) h4;refine⟨c,r++47::42::y,by rw[SE y (by rw[h1];simp),h1];rfl,by rw[h5];exact h2,?_⟩;rw[h5];exact uD y h3 hl
def lU(q x:Str)(us:List zb):Prop:= ∃c r,cmtS q=c::r/\eD c r x/\(Zo (c::(r++x))).1=(Zo (c::r)).1/\qm (Zo (c::(r++x))).2=us
theorem mM: ∀{ts us:List zb} {q R:Str} {x:Str},run q ts R->R≠[]->x≠[]->qm (q++x)=ts++us->run (q++x) ts (R++x)\/(R=[43]/\ ∃p,p<:+q/\lU p x us)
 |[],us,q,R,x,h,_,_,_=>by rw[run]at h;subst h;exact .inl rfl
 |t::ts,us,q,R,x,h,hl,hx,ht=>by
  obtain⟨c,r,h1,h2,h3⟩:=h;have h4:(Zo (c::r)).2≠[]:=by intro e;have:=(Vv h3).length_le;rw[e]at this;exact hl (Pf.1 (by simpa using this))
  have hc:cmtS (q++x)=c::(r++x):=by rw[tL (by rw[h1];exact DN h4),h1];rfl
  rw[QC hc,ja]at ht;injection ht with ht1 ht2;rcases DZ h4 hx (by rw[ht1,h2])with h5|h5
  ·rw[h5]at ht2;rcases mM h3 hl hx ht2 with h6|⟨h6,p,hp,h7⟩
   ·exact .inl ⟨c,r++x,hc,ht1,by rw[h5];exact h6⟩
   ·refine .inr ⟨h6,p,hp.trans ((Ak c r).trans ((Td c r).trans ?_)),h7⟩;rw[<-h1];exact Ti q
  ·right;have h43:=h5.2.1;have hR:R=[43]/\ts=[]:=by
    cases ts with
    |nil=>rw[run,h43]at h3;exact⟨h3.symm,rfl⟩
    |cons u us'=> exfalso;rw[h43]at h3;obtain⟨c',r',e1,e2,e3⟩:=h3;rw[show cmtS [43]=[43]from Z6 rfl]at e1;injection e1 with e4 e5;subst e4 e5;have:=(Vv e3).length_le;have h9:=(Ak (43:UInt8) []).length_le;exact hl (Pf.1 (by simp only[Jb]at h9;omega))
   obtain⟨hR,rfl⟩:=hR;refine⟨hR,q,Gc _,c,r,h1,h5,by rw[ht1,h2],?_⟩;rw[ht2];rfl
def encB(p:UInt8->Bool):Str->Str
 |[]=>[]
 |c::r=>(bif p c then escC c else [c])++encB p r
def quoB(c:UInt8):Bool:=c==10||c==12||c==13||c==34||c==92
def urB(c:UInt8):Bool:=decide (c.toNat<=32)||c==34||c==39||c==40||c==41||c==92||c==127
def Ri:Str->Bool
 |[]=>false
 |c::r=>(c==101||c==69)&&numS r&& !(List.isPrefixOf [45,45] r)
def Mg:Str->Str
 |[]=>[]
 |c::r=>bif Ri (c::r)then escC c++encW false 0 r else ZN (c::r)
def Im(k:Int):Str:=
 bif k==13 then [32]else bif k==14 then [60,33,45,45]else bif k==15 then [45,45,62]else bif k==16 then [58]else bif k==17 then [59]else bif k==18 then [44]else
 bif k==19 then [91]else bif k==20 then [93]else bif k==21 then [40]else bif k==22 then [41]else bif k==23 then [123]else [125]
def txS(t:zb):Str:=
 bif t.kind==1 then ZN t.text
 else bif t.kind==2 then ZN t.text++[40]
 else bif t.kind==3 then 64::ZN t.text
 else bif t.kind==4 then 35::(bif t.flag then ZN t.text else encW false 0 t.text)
 else bif t.kind==5 then 34::(encB quoB t.text++[34])
 else bif t.kind==7 then [117,114,108,40]++(encB urB t.text++[41])
 else bif t.kind==9 then t.text
 else bif t.kind==10 then numT t.num (!t.flag)
 else bif t.kind==11 then numT t.num false++[37]
 else bif t.kind==12 then numT t.num (!t.flag)++Mg t.unit
 else Im t.kind
theorem Ul(p:UInt8->Bool): ∀l:Str,(encB p l).length<=4*l.length
 |[]=>by unfold encB;simp
 |c::r=>by
  have:=Q4 c;have:=Ul p r;unfold encB;rw[Ca,Ga];cases p c with
  |true=>rw[Fa];omega
  |false=>rw[Ba,Ua];omega
theorem zAg{p:UInt8->Bool}{i:Nat}{l:Str}(h:i<l.length):encB p (l.drop i)=(bif p l[i]then escC l[i]else [l[i]])++encB p (l.drop (i+1)):=by rw[Pb h,encB]
theorem bO {R:Type} {step:Int×List UInt8->Option (LO (Int×List UInt8) (List UInt8) R)} {l acc:Str} {p:UInt8->Bool} (hl:l.length<=100000) (ha:acc.length<=100000000)
  (h1: ∀(i:Nat) (a:Str) (hi:i<l.length),a.length<=500000000->step ((i:Int),a)=some (.again (w64 ((i:Int)+1),a++(bif p l[i]then escC l[i]else [l[i]]))))
  (h2: ∀a,step ((l.length:Int),a)=some (.out a)):Gg step (0,acc)=some (.out (acc++encB p l)):=by
 refine ZG (fun z=> ∃(i:Nat) (a:Str),z=((i:Int),a)/\i<=l.length/\a.length<=acc.length+4*i/\a++encB p (l.drop i)=acc++encB p l) (fun z=>l.length - z.1.toNat) _ ?_ ⟨0,acc,rfl,by omega,by omega,rfl⟩;rintro _ ⟨i,a,rfl,hi,hal,he⟩;rcases Mc i l.length with h|h
 ·refine .inl ⟨_,h1 i a h (by omega),⟨i+1,_,by rw[zz (by omega) (by omega)];rfl,by omega,?_,?_⟩,by simp only;rw[zz (by omega) (by omega)];omega⟩
  ·have:=Q4 l[i];rw[Ca];cases p l[i]with
   |true=>rw[Fa];omega
   |false=>rw[Ba,Ua];omega
  ·rw[<-he,zAg h,Ma]
 ·have:i=l.length:=by omega
  subst this;refine .inr (.inl ⟨_,h2 a,?_⟩);rw[<-he,De (Cb _)];rw[show encB p []=[] by rw[encB],Ya]
theorem VB{l acc:Str}{k:Nat}(hl:l.length<=100000)(ha:acc.length<=100000000):Zk ((l,(k:Int)),acc)=some (acc++encW (Ji k l) k l):=by
 unfold Zk;rw[zW (aK (dash:=Ji k l) (k:=k) (l:=l) (acc:=acc) hl ha (fun i a hi ha=> ?_) (fun a=> ?_))]
 ·have d1:decide ((i:Int)<(l.length:Int))=true:=Ea (by omega);have d2:geti l (i:Int)=some l[i]:=QJ hi;have d3:decide ((i:Int)>=(k:Int))=(k - i==0):=by
   by_cases h:k<=i
   ·rw[Ea (by omega),show k - i=0 by omega];rfl
   ·rw[Ra (by omega)];symm;rw[Ia];omega
  have d4:((k:Int)==0)=(k==0):=by
   by_cases h:k=0
   ·subst h;rfl
   ·rw[Ia.2 h,Ia];omega
  simp only[d1,Fa,d2,d3,d4,ze,Aa,JL,nE];have hd:(bif k==0 then true else !(l==[45]))= !Ji k l:=by unfold Ji;cases k==0<;>cases l==[45]<;>rfl
  rw[hd];unfold pcW;cases letB l[i]with
  |false=>
   cases k - i==0<;>simp only[zq,Nb,Eb,Xd,Ic,Cc,Fa,Ba,Aa,xm l[i] (show a.length<=1000000000 by omega),zg]
  |true=> cases k - i==0<;>cases digB l[i]<;>cases Ji k l<;>simp only[zq,Nb,Eb,Xd,Ic,Cc,jd,Jf,Lb,jc,Pe,Fa,Ba,Aa,Fs,zk (vg (show a.length+1<=2000000000 by omega)),xm l[i] (show a.length<=1000000000 by omega),zg]
 ·simp only;rw[Ra (by omega),Ba]
theorem O0(l:Str):Ji (Zy l) l=(l==[45]):=by unfold Ji Zy;split<;>rfl
theorem Gv{l acc:Str}(hl:l.length<=100000)(ha:acc.length<=100000000):Zk ((l,((Zy l:Nat):Int)),acc)=some (acc++ZN l):=by rw[VB hl ha,O0];rfl
theorem MV{n:Nat}{b:Str}(hn:n<=1000000000000)(hb:b.length<=100000):Dj (((n:Int),10),b)=some (b++Lib.decDigits n):=by have hsh:short b=true:=Ea (by omega);unfold Dj;simp only[hsh,Cc,Ta,decide_true,Lb];rw[Ea (by omega),Ea (by omega)];rfl
theorem CR{m:Nat}(hm:m<=1000000000000)(p:Bool)(b:Str)(hb:b.length<=90000):
  ((Dj ((w64 (Int.tdiv (m:Int) 1000),10),b)).bind fun y2=>(Bj (w64 (1000+Int.tmod (m:Int) 1000),10)).bind fun y3=>need (decide (1<=(y3.length:Int)))<|
   (ji (List.drop 1 y3,[48])).bind fun y4=>zV (X:=List UInt8) (R:=List UInt8) (bif !(y4==[])then need (zP y2.length 1 1)<|need (zP (y2++[(46:UInt8)]).length y4.length 1)<|some (LX.out (y2++[(46:UInt8)]++y4))else bif p then need (zP y2.length ([46,48]:Str).length 1)<|some (LX.out (y2++([46,48]:Str)))else some (LX.out y2)) fun j5=>some j5)=some (b++Kg m p):=by
 have e1:w64 (Int.tdiv (m:Int) 1000)=((m / 1000:Nat):Int):=by rw[show Int.tdiv (m:Int) 1000=((m / 1000:Nat):Int)from rfl,zz (by omega) (by omega)]
 have e2:w64 (1000+Int.tmod (m:Int) 1000)=((1000+m%1000:Nat):Int):=by rw[show Int.tmod (m:Int) 1000=((m%1000:Nat):Int)from rfl,zz (by omega) (by omega)];omega
 have hr:m%1000<1000:=by omega
 rw[e1,e2];have f2:Bj (((1000+m%1000:Nat):Int),10)=some (49::[d48 (m%1000 / 100),d48 (m%1000 / 10%10),d48 (m%1000%10)]):=by unfold Bj i64B;simp only[decide_true,Lb];rw[Ea (by omega),Ea (by omega)];rw[<-CG hr];show some (Lib.itoa _)=_;unfold Lib.itoa;rw[Ja (by omega),Ta]
 have hlen:=Lt (u:=m / 1000) (by omega);rw[MV (by omega) (by omega),Aa,f2,Aa,zk (Ea (by simp))];have f3:ji (List.drop 1 (49::[d48 (m%1000 / 100),d48 (m%1000 / 10%10),d48 (m%1000%10)]),[48])=some (Fh (m%1000)):=rfl;rw[f3,Aa,IP];have hf:=uw _ hr;simp only[jq,Da,ib]at hf;unfold Kg Ej;cases (Fh (m%1000)).isEmpty with
 |true=>
  simp only[Nb,Ba,Fa];cases p with
  |true=>rw[Fa,zk (Pi (by rw[Ca];show _+2<=_;omega) (by omega)),zg,Ma];rfl
  |false=>rw[Ba,zg,Ba,Ya]
 |false=> simp only[Eb,Ba,Fa];rw[zk (Pi (by rw[Ca];omega) (by omega)),zk (Pi (by rw[Ca,Ca,Ua];omega) (by omega)),zg,Ma,Ma];rfl
theorem UC{n:Int}(h1: -1000000000000<=n)(h2:n<=1000000000000)(p:Bool){acc:Str}(ha:acc.length<=80000):qQ ((n,p),acc)=some (acc++numT n p):=by
 unfold qQ numT;simp only[ze];by_cases hn:n<0
 ·obtain⟨m,rfl⟩: ∃m:Nat,n= -(m:Int):=⟨n.natAbs,by omega⟩;rw[Ea hn,Fa,zk (Pi (by omega) (by omega)),zg,Ka hn];simp only;have e0:w64 (0 - -(m:Int))=(m:Int):=by rw[show(0 - -(m:Int))=(m:Int) by omega,zz (by omega) (by omega)]
  rw[e0,Int.natAbs_neg,Mh,<-Ma];exact CR (by omega) p (acc++[45]) (by rw[Ca,Ua];omega)
 ·obtain⟨m,rfl⟩: ∃m:Nat,n=(m:Int):=⟨n.toNat,by omega⟩;rw[Ra hn,Ba,zg,Ja hn];simp only;rw[Mh,Kc];exact CR (by omega) p acc (by omega)
theorem zAy: ∀n:Nat,n<256->(ibOr IntKind.u8 (n:Int) 32==101)=(UInt8.ofNat n==101||UInt8.ofNat n==69):=by decide+kernel
theorem zAx(c:UInt8):(ibOr IntKind.u8 (c.toNat:Int) 32==101)=(c==101||c==69):=by
 have:=zAy c.toNat (Ib c)
 rwa [Sb]at this
theorem zA3(c:UInt8):decide (Lib.indexByte [10,12,13,34,92] c.toNat.toUInt8>=0)=quoB c:=by
 have: ∀n:Nat,n<256->decide (Lib.indexByte [10,12,13,34,92] n.toUInt8>=0)=quoB (UInt8.ofNat n):=by decide+kernel
 have:=this c.toNat (Ib c)
 rwa [Sb]at this
theorem zBo(c:UInt8):(decide ((c.toNat:Int)<=32)||decide (Lib.indexByte [34,39,40,41,92,127] c.toNat.toUInt8>=0))=urB c:=by
 have: ∀n:Nat,n<256->(decide ((n:Int)<=32)||decide (Lib.indexByte [34,39,40,41,92,127] n.toUInt8>=0))=urB (UInt8.ofNat n):=by decide+kernel
 have:=this c.toNat (Ib c)
 rwa [Sb]at this
theorem SQ {t:zb} (h:Cg t=true) (h1:(t.kind==1)=false) (h2:(t.kind==2)=false) (h3:(t.kind==3)=false) (h4:(t.kind==4)=false) (h5:(t.kind==5)=false) (h7:(t.kind==7)=false) (h9:(t.kind==9)=false)
  (h10:(t.kind==10)=false) (h11:(t.kind==11)=false) (h12:(t.kind==12)=false):13<=t.kind/\t.kind<=24:=by
 unfold Cg at h;simp only[h1,h2,h3,h4,h5,h7,h9,h10,h11,h12,yg,Ba,Da,ib]at h;exact h.1
theorem uV: ∀n:Nat,n<12->(Xp ()).bind (fun y35=>geti [y35.e0,y35.e1,y35.e2,y35.e3,y35.e4,y35.e5,y35.e6,y35.e7,y35.e8,y35.e9,y35.e10,y35.e11] (wu8 ((13+n:Int) - 13)))=some (Im (13+n:Int)):=by decide+kernel
theorem NH(k:Int):(Im k).length<=4:=by
 unfold Im;cases k==13<;>cases k==14<;>cases k==15<;>simp only[Fa,Ba]<;>try (simp;done)
 all_goals (repeat' (first|(simp;done)|(apply Decidable.byContradiction;intro h;revert h;rw[Bool.cond_eq_ite];split)))
theorem TN{t:zb}{acc:Str}(hf:Cg t=true)(h1:t.text.length<=5000)(h2:t.unit.length<=5000)(ha:acc.length<=60000):QR (t,acc)=some (acc++txS t):=by
 have one: ∀q:Str,q.length<=90000->zP q.length 1 1=true:=fun q hq=>Pi (by omega) (by omega);have hnl: ∀l:Str,l.length<=5000->(ZN l).length<=20000:=fun l hl=>by have:=Cj (l==[45]) (Zy l) l;unfold ZN;omega
 unfold QR txS;simp only[ze];cases k1:t.kind==1 with
 |true=>simp only[Fa,Sl,Aa,Gv (show t.text.length<=100000 by omega) (show acc.length<=100000000 by omega)]
 |false=>
 cases k2:t.kind==2 with
 |true=> simp only[Fa,Ba,Sl,Aa,Gv (show t.text.length<=100000 by omega) (show acc.length<=100000000 by omega)];have:=hnl t.text h1;rw[zk (one _ (by rw[Ca];omega)),Ma]
 |false=>
 cases k3:t.kind==3 with
 |true=> simp only[Fa,Ba,Sl,Aa];rw[zk (one _ (by omega)),Gv (by omega) (by rw[Ca,Ua];omega),Ma];rfl
 |false=>
 cases k4:t.kind==4 with
 |true=>
  simp only[Fa,Ba,Sl,Aa];cases t.flag with
  |true=> simp only[Fa,zg];rw[zk (one _ (by omega)),Gv (by omega) (by rw[Ca,Ua];omega),Ma];rfl
  |false=> simp only[Ba,zg];rw[zk (one _ (by omega)),show(0:Int)=((0:Nat):Int)from rfl,VB (by omega) (by rw[Ca,Ua];omega),Ma];rfl
 |false=>
 cases k5:t.kind==5 with
 |true=>
  simp only[Fa,Ba];have hml:maxLen=9223372036854775807:=rfl;rw[zk (one _ (by omega)),zk (Ea (by omega))];have hel:=Ul quoB t.text;rw[zW (bO (p:=quoB) (l:=t.text) (acc:=acc++[34]) (by omega) (by rw[Ca,Ua];omega) (fun i a hi hal=> ?_) (fun a=> ?_))]
  ·rw[zk (one _ (by simp only[Ca,Ua];omega)),Ma,Ma];rfl
  ·have d1:decide ((i:Int)<(t.text.length:Int))=true:=Ea (by omega);have d0:decide ((0:Int)<=(i:Int))=true:=Ea (by omega);simp only[d1,d0,Cc,Fa,Zf,Ta,Na hi,Aa,Wy,zA3];cases quoB t.text[i]with
   |true=>simp only[Fa,xm _ (show a.length<=1000000000 by omega),Aa,zg]
   |false=>simp only[Ba,Fs,Aa,zk (vg (show a.length+1<=2000000000 by omega)),zg]
  ·simp only;rw[Ra (by omega),Ba]
 |false=>
 cases k7:t.kind==7 with
 |true=>
  simp only[Fa,Ba];have hml:maxLen=9223372036854775807:=rfl;rw[zk (Pi (by show _+4<=_;omega) (by omega)),zk (Ea (by omega))];have hel:=Ul urB t.text;rw[zW (bO (p:=urB) (l:=t.text) (acc:=acc++[117,114,108,40]) (by omega) (by rw[Ca];show _+4<=_;omega) (fun i a hi hal=> ?_) (fun a=> ?_))]
  ·rw[zk (one _ (by simp only[Ca];show _+4+_<=_;omega)),Ma,Ma]
  ·have d1:decide ((i:Int)<(t.text.length:Int))=true:=Ea (by omega);have d0:decide ((0:Int)<=(i:Int))=true:=Ea (by omega);simp only[d1,d0,Cc,Fa,Zf,Ta,Na hi,Aa,Wy];rw[<-zBo];cases decide ((t.text[i].toNat:Int)<=32)with
   |true=>simp only[Nb,zN,Aa,Fa,Pe,xm _ (show a.length<=1000000000 by omega),zg]
   |false=>
    simp only[Eb,zG,Aa,Ba,jc];cases decide (Lib.indexByte [34,39,40,41,92,127] t.text[i].toNat.toUInt8>=0)with
    |true=>simp only[Fa,xm _ (show a.length<=1000000000 by omega),Aa,zg]
    |false=>simp only[Ba,Fs,Aa,zk (vg (show a.length+1<=2000000000 by omega)),zg]
  ·simp only;rw[Ra (by omega),Ba]
 |false=>
 cases k9:t.kind==9 with
 |true=> simp only[Fa,Ba];rw[zk (Pi (by omega) (by omega))]
 |false=>
 have rng:(t.kind==10||t.kind==11||t.kind==12)=true->rngS t=true/\(!(t.unit==[])==(t.kind==12))=true:=by intro hk;unfold Cg at hf;simp only[k1,k2,k3,k4,k5,k7,k9,hk,yg,Ba,Fa,Da]at hf;exact⟨hf.1,hf.2.1⟩
 have nums:rngS t=true-> -1000000000000<=t.num/\t.num<=1000000000000:=by intro hr;unfold rngS at hr;simp only[Da,ib]at hr;exact⟨hr.1,hr.2.1⟩
 cases k10:t.kind==10 with
 |true=> obtain⟨r1,r2⟩:=nums (rng (by rw[k10];rfl)).1;simp only[Fa,Ba,UC r1 r2 _ (show acc.length<=80000 by omega),Aa]
 |false=>
 cases k11:t.kind==11 with
 |true=>
  obtain⟨r1,r2⟩:=nums (rng (by rw[k11,jd];rfl)).1;have hT:(numT t.num false).length<=25:=by
   have:=kw (m:=t.num.natAbs) (by omega) false;unfold numT;rw[Ca];split
   ·rw[Ua];omega
   ·rw[Jb];omega
  simp only[Fa,Ba,UC r1 r2 _ (show acc.length<=80000 by omega),Aa];rw[zk (one _ (by rw[Ca];omega)),Ma]
 |false=>
 cases k12:t.kind==12 with
 |true=>
  obtain⟨hr,hu⟩:=rng (by rw[k12,jd]);obtain⟨r1,r2⟩:=nums hr;rw[k12]at hu;have hT:(numT t.num (!t.flag)).length<=25:=by
   have:=kw (m:=t.num.natAbs) (by omega) (!t.flag);unfold numT;rw[Ca];split
   ·rw[Ua];omega
   ·rw[Jb];omega
  simp only[Fa,Ba,UC r1 r2 _ (show acc.length<=80000 by omega),Aa];cases hun:t.unit with
  |nil=>rw[hun]at hu;exact absurd hu (by decide)
  |cons c r=>
   rw[hun,Ga]at h2;have hg:geti (c::r) 0=some c:=rfl;have hd1:List.drop 1 (c::r)=r:=rfl;have hlen1:decide (1<=((c::r:Str).length:Int))=true:=Ea (by rw[Ga];omega);simp only[hg,hd1,hlen1,Pe,Zf,Aa,zAx,XT,Du,Sl];have hacc:(acc++numT t.num (!t.flag)).length<=100000000:=by rw[Ca];omega
   have hname:=Gv (l:=c::r) (acc:=acc++numT t.num (!t.flag)) (by rw[Ga];omega) hacc;have hunit:Mg (c::r)=(bif (c==101||c==69)&&numS r&& !(List.isPrefixOf [45,45] r)then escC c++encW false 0 r else ZN (c::r)):=rfl;rw[hunit];have he:(c==101||c==69)=true->Za ((c.toNat:Int),acc++numT t.num (!t.flag))=some (acc++numT t.num (!t.flag)++escC c):=fun _=>xm c (by rw[Ca];omega);cases hc:c==101||c==69 with
   |false=> simp only[zN,Aa,Ba,Ic,hname];rw[Ma]
   |true=>
    simp only[zG,Aa,Fa,Lb];cases hn:numS r with
    |false=> simp only[zN,Aa,Ba,Ic,hname];rw[Ma]
    |true=>
     simp only[zG,Aa,Fa,Lb];cases hp:List.isPrefixOf [45,45] r with
     |true=> simp only[Nb,Ba,hname,Aa];rw[Ma]
     |false=> simp only[Eb,Fa,he hc,Aa];have hesc:=Q4 c;rw[show(0:Int)=((0:Nat):Int)from rfl,VB (by omega) (by rw[Ca,Ca];omega)];rw[Ma,Ma];rfl
 |false=>
 obtain⟨hk1,hk2⟩:=SQ hf k1 k2 k3 k4 k5 k7 k9 k10 k11 k12;obtain⟨n,hn⟩: ∃n:Nat,t.kind=13+(n:Int):=⟨(t.kind - 13).toNat,by omega⟩;have hg:=uV n (by omega);rw[<-hn]at hg;have hml:=NH t.kind;simp only[Ba];have hm:Xp ()=some ⟨[32],[60,33,45,45],[45,45,62],[58],[59],[44],[91],[93],[40],[41],[123],[125]⟩:=rfl;rw[hm]at hg ⊢;simp only[Aa]at hg ⊢;rw[hg];simp only[Aa];rw[zk (Pi (by omega) (by omega))]
theorem Tp{c:UInt8}(h0:c≠0)(h:c.toNat<128)(R:Str): ∃d t,escC c++R=92::d::t/\(d==10)=false/\zo (d::t)=([c],R):=by
 unfold escC;cases hg:decide (32<c.toNat)&&decide (c.toNat<127)&& !digB c&& !alB c with
 |true=>
  have hx:qA c=false/\(c==10)=false:=by
   have: ∀n:Nat,n<256->(decide (32<(UInt8.ofNat n).toNat)&&decide ((UInt8.ofNat n).toNat<127)&& !digB (UInt8.ofNat n)&& !alB (UInt8.ofNat n))=true->qA (UInt8.ofNat n)=false/\(UInt8.ofNat n==10)=false:=by decide+kernel
   have:=this c.toNat (Ib c);rw[Sb]at this;exact this hg
  exact⟨c,R,rfl,hx.2,by show(if qA c then _ else _)=_;rw[Ja (by rw[hx.1];decide)]⟩
 |false=> obtain⟨d,t,e,hd,h10⟩:=vG (n:=c.toNat) (Ib c) ([32]++R);refine⟨d,t,by rw[Ba,ja,Ma,e],h10,?_⟩;have hh:=dL (n:=c.toNat) (Ib c) R;rw[show(32::R:Str)=[32]++R from rfl,e]at hh;show(if qA d then(jg (hexes 6 0 (d::t)).1,unsp (hexes 6 0 (d::t)).2)else _)=_;rw[Ka hd,hh,CO h0 h];rfl
theorem zBq(n:Nat):jg n≠[]:=by
 unfold jg Ck
 repeat' split
 all_goals simp
theorem wZ(r:Str):(zo r).1≠[]:=by
 cases r with
 |nil=>show Ck≠[];decide
 |cons c r=>
  show(if qA c then(jg (hexes 6 0 (c::r)).1,unsp (hexes 6 0 (c::r)).2)else([c],r)).1≠[];split
  ·exact zBq _
  ·simp
theorem AC{x:Str}(h:(zm x).1=[]):(zm x).2=x:=by
 cases x with
 |nil=>rw[qF]
 |cons c r=>
  rw[zI]at h ⊢;split
  ·rename_i hl;rw[Ka hl]at h;cases h
  ·rename_i hl;rw[Ja hl]at h;split
   ·rename_i he;rw[Ka he]at h;exact absurd (Tf.1 h).1 (wZ r)
   ·rfl
theorem QI{c:UInt8}{r:Str}(h:Zq (c::r)=true):c≠0/\Zq r=true:=by unfold Zq at h ⊢;rw[ic,Da]at h;exact⟨by rintro rfl;exact absurd h.1 (by decide),h.2⟩
theorem nG{dash:Bool}(R:Str): ∀(k:Nat) (l:Str),Zq l=true->(dash=true-> ∀c∈l,c.toNat<128)->zm (encW dash k l++R)=(l++(zm R).1,(zm R).2)
 |_,[],_,_=>by rw[encW];rfl
 |k,c::r,h,hd=>by obtain⟨h1,h2⟩:=QI h;rw[encW,Ma,AL h1 (fun e=>hd e c (Kb ..)),nG R (k - 1) r h2 (fun e x hx=>hd e x (Rb _ hx))];rfl
theorem Bn{l:Str}(R:Str)(h:Zq l=true):zm (ZN l++R)=(l++(zm R).1,(zm R).2):=by refine nG R _ _ h (fun e c hc=> ?_);rw[ma.1 e,Hd]at hc;subst hc;decide
theorem vN{l:Str}(R:Str)(k:Nat)(h:Zq l=true):zm (encW false k l++R)=(l++(zm R).1,(zm R).2):=nG R k l h (fun e=>by cases e)
theorem yX(c:UInt8):(quoB c=true->c.toNat<128)/\(quoB c=false->(c==34)=false/\(c==10)=false/\(c==92)=false):=by
 have: ∀n:Nat,n<256->(quoB (UInt8.ofNat n)=true->(UInt8.ofNat n).toNat<128)/\(quoB (UInt8.ofNat n)=false->(UInt8.ofNat n==34)=false/\(UInt8.ofNat n==10)=false/\(UInt8.ofNat n==92)=false):=by decide+kernel
 have:=this c.toNat (Ib c)
 rwa [Sb]at this
theorem pM(x:Str): ∀(l:Str),Zq l=true->zR 34 (encB quoB l++34::x)=(some l,x)
 |[],_=>by rw[encB,Kc,qV,Ka (by decide)]
 |c::r,h=>by
  obtain⟨h1,h2⟩:=QI h;have ih:=pM x r h2;obtain⟨f1,f2⟩:=yX c;rw[encB,Ma];cases hq:quoB c with
  |true=> obtain⟨d,t,e1,e2,e3⟩:=Tp h1 (f1 hq) (encB quoB r++34::x);rw[Fa,e1,qV,Ja (by decide),Ja (by decide),Ka (by decide),show(d::t).isEmpty=false from rfl,Ja (by decide),show atS (d::t) 0=d from rfl,e2,Ja (by decide),e3];simp only;rw[ih];rfl
  |false=> obtain⟨g1,g2,g3⟩:=f2 hq;rw[Ba,Ud,qV,g1,Ja (by decide),g2,Ja (by decide),g3,Ja (by decide),ih];rfl
theorem GM(c:UInt8):(urB c=true->c.toNat<128)/\(urB c=false->(c==41)=false/\spB c=false/\(c==34||c==39||c==40||unB c)=false/\(c==92)=false/\(c==34)=false/\(c==39)=false):=by
 have: ∀n:Nat,n<256->(urB (UInt8.ofNat n)=true->(UInt8.ofNat n).toNat<128)/\(urB (UInt8.ofNat n)=false->(UInt8.ofNat n==41)=false/\spB (UInt8.ofNat n)=false/\(UInt8.ofNat n==34||UInt8.ofNat n==39||UInt8.ofNat n==40||unB (UInt8.ofNat n))=false/\(UInt8.ofNat n==92)=false/\(UInt8.ofNat n==34)=false/\(UInt8.ofNat n==39)=false):=by decide+kernel
 have:=this c.toNat (Ib c)
 rwa [Sb]at this
theorem oM(x:Str): ∀(l:Str),Zq l=true->urlS (encB urB l++41::x)=(some l,x)
 |[],_=>by rw[encB,Kc,QD,Ka (by decide)]
 |c::r,h=>by
  obtain⟨h1,h2⟩:=QI h;have ih:=oM x r h2;obtain⟨f1,f2⟩:=GM c;rw[encB,Ma];cases hq:urB c with
  |true=>
   obtain⟨d,t,e1,e2,e3⟩:=Tp h1 (f1 hq) (encB urB r++41::x);have he:escS (92::d::t)=true:=by unfold escS;rw[show atS (92::d::t) 1=d from rfl,e2];rfl
   rw[Fa,e1,QD,Ja (by decide),Ja (by decide),he,Ja (by decide),Ka (by decide),e3];simp only;rw[ih];rfl
  |false=> obtain⟨g1,g2,g3,g4,_,_⟩:=f2 hq;rw[Ba,Ud,QD,g1,Ja (by decide),g2,Ja (by decide),g3,g4,Ic,Jf,Ja (by decide),Ja (by decide),ih];rfl
theorem FV(x:Str)(l:Str)(h:Zq l=true):past spB (encB urB l++41::x)=encB urB l++41::x/\(atS (encB urB l++41::x) 0==34||atS (encB urB l++41::x) 0==39)=false:=by
 cases l with
 |nil=>exact⟨rfl,rfl⟩
 |cons c r=>
  obtain⟨h1,h2⟩:=QI h;obtain⟨f1,f2⟩:=GM c;rw[encB,Ma];cases hq:urB c with
  |true=> obtain⟨d,t,e1,e2,e3⟩:=Tp h1 (f1 hq) (encB urB r++41::x);rw[Fa,e1];exact⟨rfl,rfl⟩
  |false=> obtain⟨g1,g2,g3,g4,g5,g6⟩:=f2 hq;rw[Ba,Ud];refine⟨by rw[past,g2];rfl,?_⟩;show(c==34||c==39)=false;rw[g5,g6];rfl
theorem zAS{n:Int}{p:Bool}:(partT (n.natAbs%1000) p).isEmpty=((n.natAbs%1000==0)&& !p):=(jo (r:=n.natAbs%1000) (by omega) p).2.2.2.2
def sgT(n:Int):Str:=if n<0 then [45]else []
theorem Ov(n:Int)(p:Bool):numT n p=sgT n++(Lib.decDigits (n.natAbs / 1000)++dotS (if(partT (n.natAbs%1000) p).isEmpty then none else some (partT (n.natAbs%1000) p))):=by
 have h:=(jo (r:=n.natAbs%1000) (by omega) p).2.2.2.1;unfold numT Kg sgT;rw[h];cases (partT (n.natAbs%1000) p).isEmpty with
 |true=>rfl
 |false=>rfl
theorem q2_T(n:Int)(p:Bool)(x:Str):mf (numT n p++x)=past digB (dotS (if(partT (n.natAbs%1000) p).isEmpty then none else some (partT (n.natAbs%1000) p))++x):=by
 obtain⟨d1,d2,d3⟩:=Ns (n.natAbs / 1000);obtain⟨c,r,hc,hcd⟩:=ww (n.natAbs / 1000);rw[Ov];generalize dotS _=t;unfold mf;have hu:unsign ((sgT n++(Lib.decDigits (n.natAbs / 1000)++t))++x)=Lib.decDigits (n.natAbs / 1000)++(t++x):=by
  unfold sgT;split
  ·rw[Ma,Ud,Ma];rfl
  ·rw[Kc,Ma,hc,ja];unfold unsign Eg;rw[show atS (c::(r++(t++x))) 0=c from rfl,Ia.2 (Qf hcd).2.1,Ia.2 (Qf hcd).1];rfl
 rw[hu,Tw _ _ d1]
theorem YG{n:Int}{p:Bool}:(partT (n.natAbs%1000) p).all digB=true:=(jo (r:=n.natAbs%1000) (by omega) p).1
theorem pE{n:Int}{p:Bool}(h:(partT (n.natAbs%1000) p).isEmpty=true)(x:Str):zu (numT n p++x)=(match expS (zM (past digB x)).1 with|some r=>(r,false)|none=>zM (past digB x)):=by rw[Qi,q2_T,h];rfl
theorem KE{n:Int}{p:Bool}(h:(partT (n.natAbs%1000) p).isEmpty=false)(x:Str):zu (numT n p++x)=(match expS (past digB x)with|some r=>(r,false)|none=>(past digB x,false)):=by
 obtain⟨c,r,hp⟩: ∃c r,partT (n.natAbs%1000) p=c::r:=by
  cases hh:partT (n.natAbs%1000) p with
  |nil=>rw[hh]at h;cases h
  |cons c r=>exact⟨c,r,rfl⟩
 have hd:=YG (n:=n) (p:=p);rw[Qi,q2_T,h];have hq:past digB (dotS (some (partT (n.natAbs%1000) p))++x)=46::(partT (n.natAbs%1000) p++x):=rfl;rw[show(if false=true then none else some (partT (n.natAbs%1000) p))=some (partT (n.natAbs%1000) p)from rfl,hq];have hw:zM (46::(partT (n.natAbs%1000) p++x))=(past digB x,false):=by
  have hc:digB c=true:=by rw[hp,ic,Da]at hd;exact hd.1
  unfold zM;rw[show atS (46::(partT (n.natAbs%1000) p++x)) 1=c by rw[hp];rfl,hc,show(atS (46::(partT (n.natAbs%1000) p++x)) 0==46&&true)=true from rfl,Ka rfl];rw[show(46::(partT (n.natAbs%1000) p++x)).drop 1=partT (n.natAbs%1000) p++x from rfl,Tw _ _ hd]
 rw[hw]
 all_goals (cases expS (past digB x)<;>rfl)
theorem uU(n:Int)(p:Bool)(x:Str):nbS (numT n p++x)=true:=by
 obtain⟨c,r,hc,hcd⟩:=ww (n.natAbs / 1000);rw[Ov,hc];unfold nbS;have hu:unsign ((sgT n++(c::r++dotS (if(partT (n.natAbs%1000) p).isEmpty then none else some (partT (n.natAbs%1000) p))))++x)=c::(r++dotS (if(partT (n.natAbs%1000) p).isEmpty then none else some (partT (n.natAbs%1000) p))++x):=by
  unfold sgT;split
  ·rfl
  ·unfold unsign Eg;show(if(c==43||c==45)then _ else _)=_;rw[Ia.2 (Qf hcd).2.1,Ia.2 (Qf hcd).1];rfl
 rw[hu];unfold undot;rw[show atS (c::(r++dotS (if(partT (n.natAbs%1000) p).isEmpty then none else some (partT (n.natAbs%1000) p))++x)) 0=c from rfl,Ia.2 (Qf hcd).2.2.1,Ja (by decide)];exact hcd
theorem KJ{n:Int}(h1: -1000000000000<=n)(h2:n<=1000000000000){p:Bool}{x:Str}(he:(zu (numT n p++x)).1=x):(numP (numT n p++x)).val=n:=by have h:=yB (numT n p++x);rw[he]at h;have hok:=wz (uU n p x);have hl:=(Om h1 h2 p).1;have he2:=O9 h1 h2 p;generalize numP (numT n p++x)=N at h hok ⊢;have ht:N.txt=numT n p:=(List.append_left_inj x).1 h;rw[<-ht]at he2 hl;have h3:=dS hok (Jc hl (by decide));rw[he2]at h3;exact(Option.some.inj h3).symm
theorem Ko(n:Int)(p:Bool)(x:Str): ∃c r,numT n p++x=c::r/\(c==45||digB c)=true/\spB c=false/\(c==34||c==39)=false/\(c==35)=false/\c≠47:=by
 obtain⟨c,r,hc,hcd⟩:=ww (n.natAbs / 1000);have key: ∀d:UInt8,(d==45||digB d)=true->spB d=false/\(d==34||d==39)=false/\(d==35)=false/\d≠47:=by
  intro d;have: ∀n:Nat,n<256->(UInt8.ofNat n==45||digB (UInt8.ofNat n))=true->spB (UInt8.ofNat n)=false/\(UInt8.ofNat n==34||UInt8.ofNat n==39)=false/\(UInt8.ofNat n==35)=false/\UInt8.ofNat n≠47:=by decide+kernel
  have:=this d.toNat (Ib d)
  rwa [Sb]at this
 rw[Ov,hc];unfold sgT;split
 ·exact⟨45,_,rfl,rfl,key 45 rfl⟩
 ·have:(c==45||digB c)=true:=by rw[hcd,jd]
  exact⟨c,_,rfl,this,key c this⟩
theorem Fv(n:Int)(p:Bool)(x:Str):Zo (numT n p++x)=zy (numT n p++x):=by obtain⟨c,r,hc,h1,h2,h3,h4,h5⟩:=Ko n p x;have hnb:=uU n p x;rw[hc]at hnb ⊢;rw[Wt,h2,Ja (by decide),h3,Ja (by decide),h4,Ic,Ja (by decide),hnb,Ka rfl]
inductive zfK:zb->Prop
 |cId (l:Str) (h0:l≠[]) (h:Zq l=true):zfK ⟨1,l,0,[],false⟩
 |cFn (l:Str) (h0:l≠[]) (h:Zq l=true):zfK ⟨2,l,0,[],false⟩
 |cAt (l:Str) (h0:l≠[]) (h:Zq l=true):zfK ⟨3,l,0,[],false⟩
 |cHash (l:Str) (f:Bool) (h0:l≠[]) (h:Zq l=true) (hb:f=true\/Mj l=true):zfK ⟨4,l,0,[],f⟩
 |cStr (l:Str) (h:Zq l=true):zfK ⟨5,l,0,[],false⟩
 |cUrl (l:Str) (h:Zq l=true):zfK ⟨7,l,0,[],false⟩
 |cDel (c:UInt8) (h:xh c.toNat=true):zfK ⟨9,[c],0,[],false⟩
 |cNum (n:Int) (f:Bool) (h1: -1000000000000<=n) (h2:n<=1000000000000) (hf:f=true->Int.tmod n 1000=0):zfK ⟨10,[],n,[],f⟩
 |cPct (n:Int) (h1: -1000000000000<=n) (h2:n<=1000000000000):zfK ⟨11,[],n,[],false⟩
 |cDim (n:Int) (u:Str) (f:Bool) (h1: -1000000000000<=n) (h2:n<=1000000000000) (hf:f=true->Int.tmod n 1000=0) (h0:u≠[]) (h:Zq u=true):zfK ⟨12,[],n,u,f⟩
 |cMark (k:Int) (h1:13<=k) (h2:k<=24):zfK ⟨k,[],0,[],false⟩
theorem Eo{t:zb}(h:Cg t=true):zfK t:=by
 obtain⟨k,l,n,u,f⟩:=t;unfold Cg at h;simp only at h;by_cases h1:(k==1||k==2||k==3)=true
 ·rw[h1,Fa]at h;simp only[Da,Xe,Ia,ma]at h;obtain⟨a,b,rfl,rfl,rfl⟩:=h;simp only[Tc,ma]at h1;rcases h1 with(rfl|rfl)|rfl
  ·exact .cId l a b
  ·exact .cFn l a b
  ·exact .cAt l a b
 ·rw[Bool.not_eq_true]at h1;rw[h1,Ba]at h;by_cases h4:(k==4)=true
  ·rw[h4,Fa]at h;simp only[Da,Xe,Ia,ma,Tc]at h;obtain⟨a,b,c,rfl,rfl⟩:=h;rw[ma]at h4;subst h4;exact .cHash l f a b c
  ·rw[Bool.not_eq_true]at h4;rw[h4,Ba]at h;by_cases h5:(k==5||k==7)=true
   ·rw[h5,Fa]at h;simp only[Da,Xe,ma]at h;obtain⟨b,rfl,rfl,rfl⟩:=h;simp only[Tc,ma]at h5;rcases h5 with rfl|rfl
    ·exact .cStr l b
    ·exact .cUrl l b
   ·rw[Bool.not_eq_true]at h5;rw[h5,Ba]at h;by_cases h9:(k==9)=true
    ·rw[h9,Fa]at h;simp only[Da,Xe,ma]at h;obtain⟨b,rfl,rfl,rfl⟩:=h;rw[ma]at h9;subst h9;unfold delS at b;split at b
     ·exact .cDel _ b
     ·cases b
    ·rw[Bool.not_eq_true]at h9;rw[h9,Ba]at h;by_cases h10:(k==10||k==11||k==12)=true
     ·rw[h10,Fa]at h;unfold rngS at h;simp only[Da,ib,Tc,Xe,ma]at h;obtain⟨⟨a1,a2,a3⟩,a4,a5,a6,rfl⟩:=h;have hf:f=true->Int.tmod n 1000=0:=by
       intro e;rcases a3 with a3|a3
       ·rw[e]at a3;cases a3
       ·exact a3
      simp only[Tc,ma]at h10;rcases h10 with(rfl|rfl)|rfl
      ·have:u=[]:=by
        cases u with
        |nil=>rfl
        |cons c r=>rw[show((c::r:Str)==[])=false from rfl]at a4;exact absurd a4 (by decide)
       subst this;exact .cNum n f a1 a2 hf
      ·have:u=[]:=by
        cases u with
        |nil=>rfl
        |cons c r=>rw[show((c::r:Str)==[])=false from rfl]at a4;exact absurd a4 (by decide)
       subst this;have:f=false:=by
        rcases a6 with a6|a6
        ·exact absurd a6 (by decide)
        ·exact a6
       subst this;exact .cPct n a1 a2
      ·have:u≠[]:=by rintro rfl;exact absurd a4 (by decide)
       exact .cDim n u f a1 a2 hf this a5
     ·rw[Bool.not_eq_true]at h10;rw[h10,Ba]at h;simp only[Da,Xe,ib,ma]at h;obtain⟨⟨a1,a2⟩,rfl,rfl,rfl,rfl⟩:=h;exact .cMark k a1 a2
def neu(x:Str):Prop:=x=[]\/ ∃y,x=47::y
theorem zBF{x:Str}(hx:neu x)(c:UInt8)(r:Str):brS c (r++x)=brS c r:=by
 rcases hx with rfl|⟨y,rfl⟩
 ·rw[Ya]
 ·exact pU c r y
theorem xz{x:Str}(hx:neu x)(q:Str):nmS (q++x)=nmS q:=by
 rcases hx with rfl|⟨y,rfl⟩
 ·rw[Ya]
 ·exact Uu q y
theorem BC{x:Str}(hx:neu x):zm x=([],x):=by
 rcases hx with rfl|⟨y,rfl⟩
 ·exact qF
 ·rw[zI,Ja (by decide),show escS (47::y)=false from rfl,Ja (by decide)]
theorem xM{p:UInt8->Bool}(h:p 47=false){x:Str}(hx:neu x):past p x=x:=by
 rcases hx with rfl|⟨y,rfl⟩
 ·rfl
 ·rw[past,h];rfl
theorem zBB{x:Str}(hx:neu x):atS x 0=0\/atS x 0=47:=by
 rcases hx with rfl|⟨y,rfl⟩
 ·exact .inl rfl
 ·exact .inr rfl
theorem KQ(c:UInt8)(r:Str):Ri (c::r)=((c==101||c==69)&&numS r&& !(List.isPrefixOf [45,45] r)):=rfl
theorem JH(b:UInt8)(r:Str):numS (b::r)=bif b==45 then !(r==[])&&digN (r.headD 0).toNat else digN b.toNat:=rfl
theorem fI{c:UInt8}{r:Str}(h:Ri (c::r)=true):c=101\/c=69:=by unfold Ri at h;rw[Da,Da,Tc,ma,ma]at h;exact h.1.1
theorem OX{d:UInt8}{t:Str}(h:(d==10)=false):escS (92::d::t)=true:=by unfold escS;rw[show atS (92::d::t) 1=d from rfl,h];rfl
theorem Q9(c:UInt8)(r:Str):Mg (c::r)=bif Ri (c::r)then escC c++encW false 0 r else ZN (c::r):=rfl
theorem eH{w:Str}(h0:w≠[])(h:Zq w=true)(x:Str):zm (Mg w++x)=(w++(zm x).1,(zm x).2):=by
 cases w with
 |nil=>exact absurd rfl h0
 |cons c r=>
  obtain⟨h1,h2⟩:=QI h;rw[Q9];cases he:Ri (c::r)with
  |true=>
   have hc:c.toNat<128:=by rcases fI he with rfl|rfl<;>decide
   rw[Fa,Ma,rM h1 hc,vN x 0 h2];rfl
  |false=>rw[Ba];exact Bn x h
theorem vE{w:Str}(h0:w≠[])(h:Zq w=true):nmS (Mg w)=true:=by
 cases w with
 |nil=>exact absurd rfl h0
 |cons c r=>
  obtain⟨h1,h2⟩:=QI h;rw[Q9];cases he:Ri (c::r)with
  |true=>
   have hc:c.toNat<128:=by rcases fI he with rfl|rfl<;>decide
   obtain⟨d,t,e1,e2,_⟩:=Tp h1 hc (encW false 0 r);rw[Fa,e1];exact VK rfl (OX e2)
  |false=>rw[Ba];exact Jl (by simp)
theorem Al{q:Str}(h:nmS q=true):q≠[]:=by rintro rfl;exact absurd h (by decide)
theorem mE{q:Str}(h:nmS q=true)(x:Str):past digB (q++x)=q++x/\zM (q++x)=(q++x,true):=by
 obtain⟨_,_,_,_,_,_,_,_,h46,hdg,_⟩:=yu (Tq h);cases q with
 |nil=>exact absurd rfl (Al h)
 |cons c r=> refine⟨by rw[ja,past,show digB c=false from hdg];rfl,?_⟩;unfold zM;rw[show atS ((c::r)++x) 0=c from rfl,show(c==46)=false from h46];rfl
theorem JM{w:Str}(h0:w≠[])(h:Zq w=true)(x:Str):expS (Mg w++x)=none\/ ∃e s,(e=101\/e=69)/\(s=[]\/s=[45])/\w=e::s/\Mg w=e::s:=by
 cases w with
 |nil=>exact absurd rfl h0
 |cons c r=>
  obtain⟨h1,h2⟩:=QI h;have he92: ∀t:Str,expS (92::t)=none:=fun t=>rfl;cases he:Ri (c::r)with
  |true=>
   left;have hc:c.toNat<128:=by rcases fI he with rfl|rfl<;>decide
   obtain⟨d,t,e1,e2,_⟩:=Tp h1 hc (encW false 0 r++x);have:Mg (c::r)++x=92::d::t:=by rw[Q9,he,Fa,Ma,e1]
   rw[this];exact he92 _
  |false=>
   have hu:Mg (c::r)=ZN (c::r):=by rw[Q9,he,Ba]
   rw[hu];have hn:ZN (c::r)=pcW ((c::r:Str)==[45]) (Zy (c::r)) c++encW ((c::r:Str)==[45]) (Zy (c::r) - 1) r:=rfl;obtain⟨d,t,e,hd⟩:=SB (dash:=(c::r:Str)==[45]) (k:=Zy (c::r)) (by unfold Zy;split<;>omega) c (encW ((c::r:Str)==[45]) (Zy (c::r) - 1) r);rw[hn,e];rcases hd with⟨rfl,h3⟩|⟨rfl,h3,h4,h5,h6⟩
   ·left;exact he92 _
   ·by_cases hee:d=101\/d=69
    ·have hf:Zy (d::r)=1:=by rcases hee with rfl|rfl<;>rfl
     have hdash:((d::r:Str)==[45])=false:=h3;rw[hdash,hf]at h6;have h6':t=encW false 0 r:=h6;have hee':(d==101||d==69)=true:=by rcases hee with rfl|rfl<;>rfl
     cases r with
     |nil=> right;rw[encW]at h6';exact⟨d,[],hee, .inl rfl,rfl,by rw[h6']⟩
     |cons d2 r2=>
      obtain⟨g1,g2⟩:=QI h2;have hnum:numS (d2::r2)=false:=by
       cases hq:numS (d2::r2)with
       |false=>rfl
       |true=>
        exfalso;rw[KQ,hee',hq,Lb,Lb]at he;have hp:List.isPrefixOf [45,45] (d2::r2)=true:=by
         cases hh:List.isPrefixOf [45,45] (d2::r2)with
         |true=>rfl
         |false=>rw[hh]at he;cases he
        obtain⟨z,hz⟩:=Df.1 hp;rw[<-hz]at hq;exact absurd hq (by show numS (45::45::z)≠true;unfold numS;simp[digN])
      have hgoal: ∀q:Str,digB (atS (unsign q) 0)=false->expS (d::q)=none:=by intro q hq;rw[om];show((d==101||d==69)&&digB (atS (unsign q) 0))=false;rw[hq,Xd]
      have hpc:encW false 0 (d2::r2)=pcW false 0 d2++encW false 0 r2:=rfl;by_cases h45:d2=45
      ·subst h45;have hp1:pcW false 0 45=[45]:=rfl;cases r2 with
       |nil=> right;rw[hpc,hp1,encW]at h6';exact⟨d,[45],hee, .inr rfl,rfl,by rw[h6'];rfl⟩
       |cons d3 r3=>
        left;obtain⟨k1,k2⟩:=QI g2;have hdg:digB d3=false:=by
         have:digN d3.toNat=false:=by have:=hnum;unfold numS at this;simpa using this
         exact this
        rw[ja];refine hgoal _ ?_;rw[h6',hpc,hp1];show digB (atS (encW false 0 (d3::r3)++x) 0)=false;rw[show encW false 0 (d3::r3)=pcW false 0 d3++encW false 0 r3 from rfl];unfold pcW;cases hl:letB d3 with
        |true=>exact hdg
        |false=>
         rw[Ic,Ic,Ba];have hc:d3.toNat<128:=by
          by_cases hc:d3.toNat<128
          ·exact hc
          ·rw[(dE hc).1]at hl;cases hl
         obtain⟨d4,t4,e4,_,_⟩:=Tp k1 hc (encW false 0 r3++x);rw[Ma,e4];rfl
      ·left;have hdg:digB d2=false:=by
        have:digN d2.toNat=false:=by have:=hnum;rw[JH,Ia.2 h45,Ba]at this;exact this
        exact this
       rw[ja];refine hgoal _ ?_;rw[h6',hpc];unfold pcW;cases hl:letB d2 with
       |true=>
        have hs:Eg d2=false:=by unfold Eg;rw[Ia.2 h45,Jf,Ia];rintro rfl;exact absurd hl (by decide)
        show digB (atS (if Eg d2 then _ else d2::_) 0)=false;rw[hs,Ja (by decide)];exact hdg
       |false=>
        rw[Ic,Ic,Ba];have hc:d2.toNat<128:=by
         by_cases hc:d2.toNat<128
         ·exact hc
         ·rw[(dE hc).1]at hl;cases hl
        obtain⟨d4,t4,e4,_,_⟩:=Tp g1 hc (encW false 0 r2++x);rw[Ma,e4];rfl
    ·left;rw[om];have:(d==101||d==69)=false:=by rw[xe,Ia,Ia];exact not_or.1 hee
     rw[ja,show atS (d::(t++x)) 0=d from rfl,this,Ic]
theorem wQ{w:Str}(h0:w≠[])(h:Zq w=true){x:Str}(hx:neu x):expS (Mg w++x)=none:=by
 rcases JM h0 h x with h1|⟨e,s,he,hs,_,hu⟩
 ·exact h1
 ·rw[hu,om];have hd:digB (atS (unsign (s++x)) 0)=false:=by
   rcases hs with rfl|rfl
   ·rcases hx with rfl|⟨y,rfl⟩<;>rfl
   ·rcases hx with rfl|⟨y,rfl⟩<;>rfl
  show((e==101||e==69)&&digB (atS (unsign (s++x)) 0))=false;rw[hd,Xd]
theorem yG{n:Int}{f:Bool}(hf:f=true->Int.tmod n 1000=0):(partT (n.natAbs%1000) (!f)).isEmpty=f:=by
 rw[zAS,Bool.not_not];cases f with
 |false=>rw[Xd]
 |true=>
  have:=hf rfl;have h2:n.natAbs%1000=0:=by have h3:(Int.tmod n 1000).natAbs=n.natAbs%1000:=Int.natAbs_tmod n 1000;rw[this]at h3;exact h3.symm
  rw[h2];rfl
theorem oz{n:Int}{p:Bool}{z:Str}(h1:past digB z=z)(h2:zM z=(z,true))(h3:expS z=none):zu (numT n p++z)=(z,(partT (n.natAbs%1000) p).isEmpty):=by
 cases hp:(partT (n.natAbs%1000) p).isEmpty with
 |true=>rw[pE hp,h1,h2];simp only[h3]
 |false=>rw[KE hp,h1];simp only[h3]
theorem zAH{x:Str}(hx:neu x):past digB x=x/\zM x=(x,true)/\expS x=none:=by
 rcases hx with rfl|⟨y,rfl⟩
 ·exact⟨rfl,rfl,rfl⟩
 ·exact⟨rfl,rfl,rfl⟩
theorem H5{q:Str}(h:[45,45,62].isPrefixOf q=true): ∃t,(zm q).2=62::t:=by obtain⟨t,rfl⟩:=Df.1 h;refine⟨t,?_⟩;rw[show [45,45,62]++t=45::45::62::t from rfl,zI,Ka (by decide),zI,Ka (by decide),zI,Ja (by decide),Ja (by unfold escS;rw[show atS (62::t) 0=62 from rfl];simp)]
theorem YA{c:UInt8}{r:Str}(h:nmS (c::r)=true)(h3: ∀t,(zm (c::r)).2≠62::t):brS c r=7:=by
 obtain⟨a1,a2,a3,a4,a5,a6,a7,a8,a9,a10,a11⟩:=yu (Tq h);have hp:[45,45,62].isPrefixOf (c::r)=false:=by
  cases hh:[45,45,62].isPrefixOf (c::r)with
  |false=>rfl
  |true=>obtain⟨t,e⟩:=H5 hh;exact absurd e (h3 t)
 have hc:atS (c::r) 0=c:=rfl;rw[hc]at a1 a2 a3 a4 a5 a7;unfold brS;rw[a1,Ja (by decide),a2,a3,Ja (by decide),a4,Ic,Ja (by decide),aU h,Ja (by decide),hp,Ja (by decide),zA2 (q:=c::r) (m:=[33,45,45]) (show(60:UInt8)≠0 by decide) a7,Ja (by decide),a5,Ic,Ja (by decide),h,Ka rfl]
theorem jL{q z:Str}(h:nmS q=true)(hz:atS z 0≠10):nmS (q++z)=true:=by
 have hz':(atS z 0==10)=false:=Ia.2 hz
 match q with
 |[]=>exact absurd h (by decide)
 |[c]=>
  unfold nmS at h ⊢;have h0:atS ([c]++z) 0=c:=rfl;rw[show atS [c] 0=c from rfl]at h;rw[h0];cases h45:c==45 with
  |true=>rw[h45,Ka rfl]at h;exact absurd (show(fstB 0||(0:UInt8)==45||escS [])=true from h) (by decide)
  |false=> rw[h45,Ja (by decide)]at h;rw[Ja (by decide)];unfold escS at h ⊢;rw[show atS [c] 0=c from rfl,show atS [c] 1=0 from rfl]at h;rw[h0,show atS ([c]++z) 1=atS z 0 from rfl,hz'];exact h
 |c::d::t=>
  unfold nmS at h ⊢;have h0:atS ((c::d::t)++z) 0=c:=rfl;have h1:atS ((c::d::t)++z) 1=d:=rfl;have h2:((c::d::t)++z).drop 1=(d::t)++z:=rfl;rw[show atS (c::d::t) 0=c from rfl,show atS (c::d::t) 1=d from rfl,show(c::d::t:Str).drop 1=d::t from rfl]at h;rw[h0,h1,h2];cases h45:c==45 with
  |true=>
   rw[h45,Ka rfl]at h;rw[Ka rfl];cases t with
   |nil=> unfold escS at h ⊢;rw[show atS [d] 0=d from rfl,show atS [d] 1=0 from rfl]at h;rw[show atS ([d]++z) 0=d from rfl,show atS ([d]++z) 1=atS z 0 from rfl,hz'];exact h
   |cons e t=>exact h
  |false=> rw[h45,Ja (by decide)]at h;rw[Ja (by decide)];exact h
theorem PG(x:Str):zm (40::x)=([],40::x):=by rw[zI,Ja (by decide),Ja (by unfold escS;rw[show atS (40::x) 0=40 from rfl];simp)]
theorem kL{l:Str}(h:Zq l=true)(x:Str):zm (ZN l++40::x)=(l,40::x):=by rw[Bn _ h,PG,Ya]
theorem Oi{q:Str}(h:q≠[]): ∃c r,q=c::r:=by
 cases q with
 |nil=>exact absurd rfl h
 |cons c r=>exact⟨c,r,rfl⟩
def Eh(f:Bool)(l:Str):Str:=bif f then ZN l else encW false 0 l
theorem LQ{f:Bool}{l:Str}(h:Zq l=true)(x:Str):zm (Eh f l++x)=(l++(zm x).1,(zm x).2):=by
 cases f with
 |true=>exact Bn x h
 |false=>exact vN x 0 h
theorem CZ{f:Bool}{l:Str}(h0:l≠[])(h:Zq l=true)(hb:f=true\/Mj l=true):(letB (atS (Eh f l) 0)||escS (Eh f l))=true/\(f=true->nmS (Eh f l)=true)/\(f=false->nmS (Eh f l)=false):=by
 cases f with
 |true=>
  have hn:=Jl h0;obtain⟨c,r,e⟩:=Oi (Al hn);refine⟨?_,fun _=>hn,fun e=>by cases e⟩;show(letB (atS (ZN l) 0)||escS (ZN l))=true;rw[e]at hn ⊢;rcases yM hn with h1|h1
  ·rw[show letB (atS (c::r) 0)=true from h1];rfl
  ·rw[h1,jd]
 |false=>
  have hb':Mj l=true:=by rcases hb with hb|hb;cases hb;exact hb
  cases l with
  |nil=>exact absurd rfl h0
  |cons c r=>
   have hw:Eh false (c::r)=pcW false 0 c++encW false 0 r:=rfl;have hb2:(digN c.toNat||(c==45&&(r==[]||digN (r.headD 0).toNat)))=true:=hb';by_cases h45:c=45
   ·subst h45;rw[hw,show pcW false 0 45=[45]from rfl];refine⟨rfl,fun e=>by(cases e),fun _=> ?_⟩;cases r with
    |nil=>rfl
    |cons d t=>
     have hd:digB d=true:=hb2;have hp:pcW false 0 d=[d]:=by
      unfold pcW;have:letB d=true:=by unfold letB;rw[hd,jd];rfl
      rw[this];rfl
     rw[show encW false 0 (d::t)=pcW false 0 d++encW false 0 t from rfl,hp];have hk: ∀n:Nat,n<256->digB (UInt8.ofNat n)=true->fstB (UInt8.ofNat n)=false/\(UInt8.ofNat n==45)=false/\(UInt8.ofNat n==92)=false:=by decide+kernel
     have:=hk d.toNat (Ib d);rw[Sb]at this;obtain⟨k1,k2,k3⟩:=this hd;show(fstB d||d==45||escS (d::(encW false 0 t)))=false;unfold escS;rw[k1,k2,show atS (d::encW false 0 t) 0=d from rfl,k3];rfl
   ·have hd:digB c=true:=by
     have:digN c.toNat=true:=by rw[Ia.2 h45,Ic,Jf]at hb2;exact hb2
     exact this
    have hl:letB c=true:=by unfold letB;rw[hd,jd];rfl
    have hp:pcW false 0 c=[c]:=by unfold pcW;rw[hl];rfl
    rw[hw,hp];refine⟨by rw[show letB (atS ([c]++encW false 0 r) 0)=letB c from rfl,hl];rfl,fun e=>by(cases e),fun _=> ?_⟩;have hk: ∀n:Nat,n<256->digB (UInt8.ofNat n)=true->fstB (UInt8.ofNat n)=false/\(UInt8.ofNat n==45)=false/\(UInt8.ofNat n==92)=false:=by decide+kernel
    have:=hk c.toNat (Ib c);rw[Sb]at this;obtain⟨k1,k2,k3⟩:=this hd;unfold nmS escS;rw[show atS ([c]++encW false 0 r) 0=c from rfl,k2,Ja (by decide),k1,k3];rfl
theorem zBK(c:UInt8)(h:xh c.toNat=true)(h2:c≠92):brS c []=8:=by
 have: ∀n:Nat,n<256->xh (UInt8.ofNat n).toNat=true->UInt8.ofNat n≠92->brS (UInt8.ofNat n) []=8:=by decide+kernel
 have:=this c.toNat (Ib c);rw[Sb]at this;exact this h h2
theorem zAU(x:Str):past digB (37::x)=37::x/\zM (37::x)=(37::x,true)/\expS (37::x)=none:=⟨rfl,rfl,rfl⟩
theorem YM{n:Int}{u:Str}{p:Bool}(x:Str):(numT n p++Mg u)++x=numT n p++(Mg u++x):=Ma ..
theorem NG{c:UInt8}{r x:Str}(hx:neu x):Zo (c::(r++x))=nxB (brS c r) c (r++x):=by rw[qB,zBF hx]
theorem vM{n:Int}(h1: -1000000000000<=n)(h2:n<=1000000000000)(x:Str):Zo ((numT n false++[37])++x)=(⟨11,[],n,[],false⟩,x):=by rw[Ma,Ud];obtain⟨p1,p2,p3⟩:=zAU x;have he:=oz (n:=n) (p:=false) p1 p2 p3;have hv:=KJ h1 h2 (p:=false) (x:=37::x) (by rw[he]);rw[Fv];unfold zy;rw[he,hv,Ja (by unfold nmS escS;rw[show atS (37::x) 0=37 from rfl];simp[fstB,alB]),Ka (by rfl)];rfl
theorem KL{l:Str}(h0:l≠[])(h:Zq l=true)(hu:(lowS l==[117,114,108])=false)(x:Str):Zo ((ZN l++[40])++x)=(⟨2,l,0,[],false⟩,x):=by rw[Ma,Ud];have hn:=jL (z:=40::x) (Jl h0) (by show(40:UInt8)≠10;decide);have hnd:=kL h x;obtain⟨c,r,e⟩:=Oi (Al hn);rw[e]at hn hnd ⊢;rw[qB,YA hn (by rw[hnd];intro t e;injection e with e _;cases e),di];unfold qo;rw[hnd];simp only;rw[Ka (by rfl),hu,Ic,Ja (by decide)];rfl
theorem kF{l:Str}(h:Zq l=true)(x:Str):Zo ((34::(encB quoB l++[34]))++x)=(⟨5,l,0,[],false⟩,x):=by rw[ja,Ma,Ud,qB,show brS 34 (encB quoB l++34::x)=1 from rfl,Sq,pM x l h];rfl
theorem FM{l:Str}(h:Zq l=true)(x:Str):Zo (([117,114,108,40]++(encB urB l++[41]))++x)=(⟨7,l,0,[],false⟩,x):=by
 have e:([117,114,108,40]++(encB urB l++[41]))++x=117::114::108::40::(encB urB l++41::x):=by simp
 obtain⟨g1,g2⟩:=FV x l h;have hnd:zm (117::114::108::40::(encB urB l++41::x))=([117,114,108],40::(encB urB l++41::x)):=by rw[zI,Ka (by decide),zI,Ka (by decide),zI,Ka (by decide),PG]
 rw[e,qB,YA (by rfl) (by rw[hnd];intro t e;injection e with e _;cases e),di];unfold qo;rw[hnd];simp only;rw[Ka (by rfl),Ls,show(40::(encB urB l++41::x)).drop 1=encB urB l++41::x from rfl,g1,g2,Ka (by decide),oM x l h];rfl
theorem oO{k:Int}(h1:13<=k)(h2:k<=24)(x:Str):Zo (Im k++x)=(⟨k,[],0,[],false⟩,if k=13 then past spB x else x):=by
 have hk:k=13\/k=14\/k=15\/k=16\/k=17\/k=18\/k=19\/k=20\/k=21\/k=22\/k=23\/k=24:=by omega
 rcases hk with rfl|rfl|rfl|rfl|rfl|rfl|rfl|rfl|rfl|rfl|rfl|rfl<;>rfl
theorem Gn(l:Str):txS ⟨1,l,0,[],false⟩=ZN l:=by rw[txS];rfl
theorem jk(l:Str):txS ⟨2,l,0,[],false⟩=ZN l++[40]:=by rw[txS];rfl
theorem Jn(l:Str):txS ⟨3,l,0,[],false⟩=64::ZN l:=by rw[txS];rfl
theorem Wo(l:Str)(f:Bool):txS ⟨4,l,0,[],f⟩=35::Eh f l:=by rw[txS];rfl
theorem Pm(l:Str):txS ⟨5,l,0,[],false⟩=34::(encB quoB l++[34]):=by rw[txS];rfl
theorem Wn(l:Str):txS ⟨7,l,0,[],false⟩=[117,114,108,40]++(encB urB l++[41]):=by rw[txS];rfl
theorem dn(c:UInt8):txS ⟨9,[c],0,[],false⟩=[c]:=by rw[txS];rfl
theorem Yn(n:Int)(f:Bool):txS ⟨10,[],n,[],f⟩=numT n (!f):=by rw[txS];rfl
theorem Xn(n:Int):txS ⟨11,[],n,[],false⟩=numT n false++[37]:=by rw[txS];rfl
theorem bn(n:Int)(u:Str)(f:Bool):txS ⟨12,[],n,u,f⟩=numT n (!f)++Mg u:=by rw[txS];rfl
theorem Vo{k:Int}(h1:13<=k)(h2:k<=24):txS ⟨k,[],0,[],false⟩=Im k:=by
 have hk:k=13\/k=14\/k=15\/k=16\/k=17\/k=18\/k=19\/k=20\/k=21\/k=22\/k=23\/k=24:=by omega
 rcases hk with rfl|rfl|rfl|rfl|rfl|rfl|rfl|rfl|rfl|rfl|rfl|rfl<;>rfl
theorem XV{t:zb}(h:zfK t)(hb: ¬(t.kind=9/\t.text=[92]))(hu:ag t=false){x:Str}(hx:neu x):Zo (txS t++x)=(t,x):=by
 have ha:=zBB hx;have hn0:nmS x=false:=by have:=xz hx [];rw[Kc]at this;rw[this];rfl
 cases h with
 |cId l h0 h=>
  have hn:=Jl h0;have hnd:=Bn x h;rw[BC hx,Ya]at hnd;obtain⟨c,r,e⟩:=Oi (Al hn);rw[Gn];have hr:=OY h;rw[e]at hn hr hnd ⊢;rw[ja,NG hx,YA hn (by rw[hr];intro t e;cases e),di];unfold qo;rw[show c::(r++x)=(c::r)++x from rfl,hnd];simp only;rw[Ja (by rcases ha with ha|ha<;>rw[ha]<;>decide)]
 |cFn l h0 h=>rw[jk];exact KL h0 h (by unfold ag at hu;exact hu) x
 |cAt l h0 h=>
  have hnd:=Bn x h;rw[BC hx,Ya]at hnd;rw[Jn,ja];have hb6:brS 64 (ZN l++x)=6:=by unfold brS;rw[xz hx,Jl h0];rfl
  rw[qB,hb6,Rq,hnd]
 |cHash l f h0 h hbb=>
  obtain⟨g1,g2,g3⟩:=CZ h0 h hbb;have hnd:=LQ (f:=f) h x;rw[BC hx,Ya]at hnd;rw[Wo,ja];have hb2:brS 35 (Eh f l)=2:=by unfold brS;rw[g1];rfl
  have hf:nmS (Eh f l)=f:=by
   cases f with
   |true=>exact g2 rfl
   |false=>exact g3 rfl
  rw[NG hx,hb2,Hm,hnd,xz hx,hf]
 |cStr l h=>rw[Pm];exact kF h x
 |cUrl l h=>rw[Wn];exact FM h x
 |cDel c h=>
  have h92:c≠92:=by rintro rfl;exact hb ⟨rfl,rfl⟩
  rw[dn,ja,NG hx,zBK c h h92,Lu,Kc]
 |cNum n f h1 h2 hf=>
  obtain⟨e1,e2,e3⟩:=zAH hx;have he:=oz (n:=n) (p:= !f) e1 e2 e3;rw[yG hf]at he;rw[Yn,Fv];unfold zy;rw[KJ h1 h2 (by rw[he]),he];simp only;rw[hn0,Ja (by decide),Ja (by rcases ha with ha|ha<;>rw[ha]<;>decide)]
 |cPct n h1 h2=>rw[Xn];exact vM h1 h2 x
 |cDim n u f h1 h2 hf h0 h=> have hnm:=vE h0 h;obtain⟨e1,e2⟩:=mE hnm x;have he:=oz (n:=n) (p:= !f) e1 e2 (wQ h0 h hx);rw[yG hf]at he;rw[bn,YM,Fv];unfold zy;rw[KJ h1 h2 (by rw[he]),he];simp only;rw[xz hx,hnm,Ka rfl,eH h0 h,BC hx,Ya]
 |cMark k h1 h2=> rw[Vo h1 h2,oO h1 h2,xM (by decide) hx,ite_self]
def oL(t:zb)(x r:Str):Prop:=zu (numT t.num (!t.flag)++x)=(r,t.flag)/\nmS r=false/\(atS r 0==37)=false
def SV(x r:Str):Prop:= ∃s,(s=[]\/s=[45])/\digB (atS (unsign (s++x)) 0)=true/\nmS (past digB (unsign (s++x)))=true/\r=(zm (past digB (unsign (s++x)))).2
def kU(t:zb)(x r:Str):Prop:=r=x\/(t.kind=13/\r=past spB x)\/(t.kind=10/\oL t x r)\/(t.kind=12/\SV x r)
theorem WM{w r:Str}(h:expS w=some r):(atS w 0=101\/atS w 0=69)/\digB (atS (unsign (w.drop 1)) 0)=true/\r=past digB (unsign (w.drop 1)):=by
 unfold expS at h;split at h
 ·rename_i h1;split at h
  ·rename_i h2;rw[Tc,ma,ma]at h1;injection h with h;exact⟨h1,h2,h.symm⟩
  ·cases h
 ·cases h
theorem wB{l a:Str}(h:l++a=l):a=[]:=by have:=congrArg List.length h;rw[Ca]at this;exact Pf.1 (by omega)
theorem iF{a b:zb}(h:a=b):a.text=b.text:=by rw[h]
theorem lX{t:zb}(h:zfK t)(hu:ag t=false){x:Str}(ht:(Zo (txS t++x)).1=t):kU t x (Zo (txS t++x)).2:=by
 cases h with
 |cId l h0 h=>
  left;have hn:=Jl h0;have hnd:=Bn x h;obtain⟨c,r,e⟩:=Oi (Al hn);rw[Gn]at ht ⊢;rw[e,ja]at ht ⊢;have hbr:=Wm c (r++x);rw[ht]at hbr;have hbr':brS c (r++x)=7:=hbr.symm;rw[qB,hbr',di]at ht ⊢;rw[show c::(r++x)=ZN l++x by rw[e];rfl]at ht ⊢;unfold qo at ht ⊢;rw[hnd]at ht ⊢;simp only at ht ⊢;split at ht
  ·rename_i h40;exfalso;split at ht
   ·have:=congrArg zb.kind ht;rcases sF (urlS (past spB ((zm x).2.drop 1))).1 with hk|hk<;>rw[hk]at this<;>cases this
   ·cases congrArg zb.kind ht
  ·rename_i h40;rw[Ja h40];have:=iF ht;exact AC (wB this)
 |cFn l h0 h=> left;rw[jk,KL h0 h (by unfold ag at hu;exact hu)]
 |cAt l h0 h=> left;rw[Jn,ja]at ht ⊢;have hbr:=Wm 64 (ZN l++x);rw[ht]at hbr;have hbr':brS 64 (ZN l++x)=6:=hbr.symm;rw[qB,hbr',Rq,Bn x h]at ht ⊢;exact AC (wB (iF ht))
 |cHash l f h0 h hbb=> left;rw[Wo,ja]at ht ⊢;have hbr:=Wm 35 (Eh f l++x);rw[ht]at hbr;have hbr':brS 35 (Eh f l++x)=2:=hbr.symm;rw[qB,hbr',Hm,LQ h x]at ht ⊢;exact AC (wB (iF ht))
 |cStr l h=>left;rw[Pm,kF h]
 |cUrl l h=>left;rw[Wn,FM h]
 |cDel c h=> left;rw[dn,ja]at ht ⊢;have hbr:=Wm c ([]++x);rw[ht]at hbr;have hbr':brS c ([]++x)=8:=hbr.symm;rw[qB,hbr',Lu,Kc]
 |cNum n f h1 h2 hf=>
  right;right;left;refine⟨rfl,?_⟩;rw[Yn,Fv]at ht ⊢;unfold oL;show zu (numT n (!f)++x)=_/\_;unfold zy at ht ⊢;generalize zu (numT n (!f)++x)=e at ht ⊢;obtain⟨e,fl⟩:=e;simp only at ht ⊢;cases hn:nmS e with
  |true=>rw[hn,Ka rfl]at ht;cases congrArg zb.kind ht
  |false=>
   rw[hn,Ja (by decide)]at ht;rw[Ja (by decide)];cases h37:atS e 0==37 with
   |true=>rw[h37,Ka rfl]at ht;cases congrArg zb.kind ht
   |false=> rw[h37,Ja (by decide)]at ht;rw[Ja (by decide)];have:fl=f:=congrArg zb.flag ht;rw[this];exact⟨rfl,hn,h37⟩
 |cPct n h1 h2=>left;rw[Xn,vM h1 h2]
 |cDim n u f h1 h2 hf h0 h=>
  have hnm:=vE h0 h;obtain⟨e1,e2⟩:=mE hnm x;rw[bn,YM,Fv]at ht ⊢;have plain:expS (Mg u++x)=none->(zy (numT n (!f)++(Mg u++x))).2=x:=by
   intro hexp;have he:=oz (n:=n) (p:= !f) e1 e2 hexp;unfold zy at ht ⊢;rw[he]at ht ⊢;simp only at ht ⊢;split at ht
   ·rename_i hn;rw[Ka hn];rw[eH h0 h]at ht ⊢;have:(u++(zm x).1)=u:=congrArg zb.unit ht;exact AC (wB this)
   ·rename_i hn;split at ht<;>cases congrArg zb.kind ht
  rcases JM h0 h x with hx|⟨e,s,he,hs,_,hu'⟩
  ·left;exact plain hx
  ·cases hexp:expS (Mg u++x)with
   |none=>left;exact plain hexp
   |some z=>
    right;right;right;refine⟨rfl,s,hs,?_⟩;obtain⟨_,hd,hz⟩:=WM hexp;have hdrop:(Mg u++x).drop 1=s++x:=by rw[hu'];rfl
    rw[hdrop]at hd hz;have hend:zu (numT n (!f)++(Mg u++x))=(z,false):=by
     cases hp:(partT (n.natAbs%1000) (!f)).isEmpty with
     |true=>rw[pE hp,e1,e2];simp only[hexp]
     |false=>rw[KE hp,e1];simp only[hexp]
    unfold zy at ht ⊢;rw[hend]at ht ⊢;simp only at ht ⊢;split at ht
    ·rename_i hn;rw[Ka hn];exact⟨hd,by rw[<-hz];exact hn,by rw[<-hz]⟩
    ·rename_i hn;split at ht<;>cases congrArg zb.kind ht
 |cMark k h1 h2=>
  rw[Vo h1 h2,oO h1 h2];by_cases hk:k=13
  ·right;left;exact⟨hk,by simp only[hk,Gd]⟩
  ·left;simp only[Ja hk]
end Go.Lv.VT
