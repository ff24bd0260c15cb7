/- What is read of a text, and of a longer one. -/
import Derived.Test.YtnfhfeipljhciaaGreatDoorNb
import Derived.Test.YtnfhfeipljhciaaGreatDoorLaw
import Derived.Test.YtnfhfeipljhciaaGreatDoorNam
set_option linter.unusedSimpArgs false
set_option linter.unusedVariables false
namespace Go.Lv.VT
set_option maxRecDepth 100000
theorem zaJ{q:Str}{n:Nat}(x:Str)(h:n<q.length):atS (q++x) n=atS q n:=by
 unfold atS
 rw[List.getD_eq_getElem?_getD,List.getD_eq_getElem?_getD,List.getElem?_append_left h]
theorem zbT{p:UInt8→Bool}(x:Str): ∀{q:Str},past p q≠[]→past p (q++x)=past p q++x
 |[],h=>absurd rfl h
 |c::r,h=>by
  rw[List.cons_append,past,past]
  rw[past]at h
  cases hp:p c with
  |true=>rw[hp,if_pos rfl]at h;rw[if_pos rfl,if_pos rfl];exact zbT x h
  |false=>rfl
theorem znJ{p:UInt8→Bool}(x:Str): ∀{q:Str},past p q≠[]→(q++x).takeWhile p=q.takeWhile p
 |[],h=>absurd rfl h
 |c::r,h=>by
  rw[List.cons_append,List.takeWhile_cons,List.takeWhile_cons]
  rw[past]at h
  cases hp:p c with
  |true=>rw[hp,if_pos rfl]at h;rw[if_pos rfl,if_pos rfl,znJ x h]
  |false=>rfl
theorem zoU(x:Str): ∀{k n:Nat} {l:Str},(hexes k n l).2≠[]→hexes k n (l++x)=((hexes k n l).1,(hexes k n l).2++x)
 |0,n,l,_=>rfl
 |k+1,n,[],h=>absurd rfl h
 |k+1,n,c::r,h=>by
  rw[List.cons_append,hexes,hexes]
  rw[hexes]at h
  split
  ·rename_i hc;rw[if_pos hc]at h;exact zoU x h
  ·rfl
theorem zyc{l:Str}(x:Str)(h:l≠[]):unsp (l++x)=unsp l++x:=by
 cases l with
 |nil=>exact absurd rfl h
 |cons c r=>
  show(if spB c then r++x else c::(r++x))=(if spB c then r else c::r)++x
  split<;>rfl
theorem zdG{r:Str}(x:Str)(h:(zm r).2≠[]):zm (r++x)=((zm r).1,(zm r).2++x):=by
 cases r with
 |nil=>exact absurd rfl h
 |cons c r=>
  have e: ∀t:Str,zm (c::t)=if qH c then(zd2 (hexes 6 0 (c::t)).1,unsp (hexes 6 0 (c::t)).2)else([c],t):=fun t=>rfl
  rw[List.cons_append,e,e]
  rw[e]at h
  split
  ·rename_i hc
   rw[if_pos hc]at h
   have hne:(hexes 6 0 (c::r)).2≠[]:=by intro e0;rw[e0]at h;exact h rfl
   rw[show c::(r++x)=(c::r)++x from rfl,zoU x hne,zyc x hne]
  ·rfl
theorem zjX{c:UInt8}{r:Str}(x:Str)(h:r≠[]∨c≠92):escS (c::(r++x))=escS (c::r):=by
 unfold escS
 show(c==92&& !(atS (r++x) 0==10))=(c==92&& !(atS r 0==10))
 rcases h with h|h
 ·cases r with
  |nil=>exact absurd rfl h
  |cons d t=>rfl
 ·rw[beq_eq_false_iff_ne.2 h];rfl
theorem zdf{q:Str}(x:Str)(h:(zl q).2≠[]):zl (q++x)=((zl q).1,(zl q).2++x):=by
 match q with
 |[]=>rw[qz]at h;exact absurd rfl h
 |c::r=>
  rw[List.cons_append,zC,zC]
  rw[zC]at h
  cases hl:letB c with
  |true=>
   rw[hl,if_pos rfl]at h
   simp only[if_true];rw[zdf x h]
  |false=>
   rw[hl,if_neg (by decide)]at h
   simp only[Bool.false_eq_true,if_false]
   cases he:escS (c::r)with
   |true=>
    rw[he,if_pos rfl]at h
    have h2:(zm r).2≠[]:=by intro e;simp only[e,qz]at h;exact h rfl
    have hr:r≠[]:=by rintro rfl;exact h2 rfl
    rw[zjX x (.inl hr),he];simp only[if_true];rw[zdG x h2]
    have:=zD r
    simp only
    rw[zdf x h]
   |false=>
    have hr:r≠[]∨c≠92:=by
     cases r with
     |nil=>
      right
      rintro rfl
      exact absurd he (by decide)
     |cons d t=>left;simp
    rw[zjX x hr,he];simp only[Bool.false_eq_true,if_false]
    rfl
termination_by q.length
decreasing_by
 all_goals first|(have:=zD r;simp only[List.length_cons];omega)|(simp only[List.length_cons];omega)
theorem zfn{m:UInt8}{q:Str}(x:Str)(h:(zW m q).2≠[]):zW m (q++x)=((zW m q).1,(zW m q).2++x):=by
 match q with
 |[]=>rw[zbg]at h;exact absurd rfl h
 |c::r=>
  rw[List.cons_append,Qa,Qa]
  rw[Qa]at h
  cases h1:c==m with
  |true=>simp only[if_true]
  |false=>
   rw[h1,if_neg (by decide)]at h
   simp only[Bool.false_eq_true,if_false]
   cases h2:c==10 with
   |true=>simp only[if_true];rfl
   |false=>
    rw[h2,if_neg (by decide)]at h
    simp only[Bool.false_eq_true,if_false]
    cases h3:c==92 with
    |false=>
     rw[h3,if_neg (by decide)]at h
     simp only[Bool.false_eq_true,if_false];rw[zfn x h]
    |true=>
     rw[h3,if_pos rfl]at h
     simp only[if_true]
     cases hr:r with
     |nil=>rw[hr]at h;exact absurd rfl h
     |cons d t=>
      rw[hr]at h
      have hrl:r.length=t.length+1:=by rw[hr];rfl
      rw[List.cons_append,show(d::(t++x)).isEmpty=false from rfl,show(d::t).isEmpty=false from rfl]
      simp only[Bool.false_eq_true,if_false]
      rw[show(d::t).isEmpty=false from rfl,if_neg (by decide)]at h
      rw[show atS (d::(t++x)) 0=atS (d::t) 0 from rfl]
      cases h4:atS (d::t) 0==10 with
      |true=>
       rw[h4,if_pos rfl]at h
       simp only[if_true]
       exact zfn (q:=t) x h
      |false=>
       rw[h4,if_neg (by decide)]at h
       simp only[Bool.false_eq_true,if_false]
       have h5:(zm (d::t)).2≠[]:=by intro e;simp only[e,zbg]at h;exact h rfl
       rw[show d::(t++x)=(d::t)++x from rfl,zdG x h5]
       have:=zD (d::t)
       simp only
       rw[zfn x h]
termination_by q.length
decreasing_by
 all_goals first|(simp only[List.length_cons]at *; omega)|(have:=zD (d::t);simp only[List.length_cons]at *; omega)
theorem zmD{q:Str}(x:Str)(h:badS q≠[]):badS (q++x)=badS q++x:=by
 match q with
 |[]=>rw[zgy]at h;exact absurd rfl h
 |c::r=>
  rw[List.cons_append,zed,zed]
  rw[zed]at h
  cases h1:c==41 with
  |true=>simp only[if_true]
  |false=>
   rw[h1,if_neg (by decide)]at h
   simp only[Bool.false_eq_true,if_false]
   cases he:escS (c::r)with
   |true=>
    rw[he,if_pos rfl]at h
    have h5:(zm r).2≠[]:=by intro e;rw[e,zgy]at h;exact h rfl
    have hr:r≠[]:=by rintro rfl;exact h5 rfl
    rw[zjX x (.inl hr),he];simp only[if_true];rw[zdG x h5]
    have:=zD r
    exact zmD x h
   |false=>
    rw[he,if_neg (by decide)]at h
    have hr:r≠[]∨c≠92:=by
     left;rintro rfl;rw[zgy]at h;exact h rfl
    rw[zjX x hr,he];simp only[Bool.false_eq_true,if_false]
    exact zmD x h
termination_by q.length
decreasing_by
 all_goals first|(have:=zD r;simp only[List.length_cons];omega)|(simp only[List.length_cons];omega)
theorem zru{q:Str}(x:Str)(h:(urlS q).2≠[]):urlS (q++x)=((urlS q).1,(urlS q).2++x):=by
 match q with
 |[]=>rw[zfu]at h;exact absurd rfl h
 |c::r=>
  rw[List.cons_append,zby,zby]
  rw[zby]at h
  cases h1:c==41 with
  |true=>simp only[if_true]
  |false=>
   rw[h1,if_neg (by decide)]at h
   simp only[Bool.false_eq_true,if_false]
   cases h2:spB c with
   |true=>
    rw[h2,if_pos rfl]at h
    simp only[if_true]
    cases hp:past spB r with
    |nil=>rw[hp]at h;exact absurd rfl h
    |cons d t=>
     rw[zbT x (by rw[hp];simp),hp]
     rw[hp]at h
     simp only[List.cons_append]at h ⊢
     cases h3:d==41 with
     |true=>simp only[if_true]
     |false=>
      rw[h3,if_neg (by decide)]at h
      simp only[Bool.false_eq_true,if_false];rw[show d::(t++x)=(d::t)++x from rfl,zmD x h]
   |false=>
    rw[h2,if_neg (by decide)]at h
    simp only[Bool.false_eq_true,if_false]
    have key:(c=92→r≠[])→escS (c::(r++x))=escS (c::r):=by
     intro hh
     refine zjX x ?_
     by_cases e:c=92
     ·exact .inl (hh e)
     ·exact .inr e
    have hr:c=92→r≠[]:=by
     rintro rfl rfl
     have e1:escS [92]=true:=by decide
     rw[e1,show((92:UInt8)==92&& !true)=false from rfl,Bool.or_false]at h
     cases hu:((92:UInt8)==34||(92:UInt8)==39||(92:UInt8)==40||unB 92)with
     |true=>exact absurd hu (by decide)
     |false=>
      rw[hu,if_neg (by decide),if_pos (by decide)]at h
      exact absurd (by show(urlS (zm []).2).2=[];rw[show(zm []).2=[]from rfl,zfu]) h
    rw[key hr]
    cases h3:c==34||c==39||c==40||unB c||c==92&& !escS (c::r)with
    |true=>
     rw[h3,if_pos rfl]at h
     simp only[if_true];rw[show c::(r++x)=(c::r)++x from rfl,zmD x h]
    |false=>
     rw[h3,if_neg (by decide)]at h
     simp only[Bool.false_eq_true,if_false]
     cases h4:c==92 with
     |true=>
      rw[h4,if_pos rfl]at h
      simp only[if_true]
      have h5:(zm r).2≠[]:=by intro e;simp only[e,zfu]at h;exact h rfl
      rw[zdG x h5]
      have:=zD r
      simp only
      rw[zru x h]
     |false=>
      rw[h4,if_neg (by decide)]at h
      simp only[Bool.false_eq_true,if_false];rw[zru x h]
termination_by q.length
decreasing_by
 all_goals first|(have:=zD r;simp only[List.length_cons];omega)|(simp only[List.length_cons];omega)
theorem zaD{q:Str}(x:Str)(h:q≠[]):unsign (q++x)=unsign q++x∧sgOf (q++x)=sgOf q:=by
 cases q with
 |nil=>exact absurd rfl h
 |cons c r=>
  unfold unsign sgOf
  show(if zaE c then r++x else c::(r++x))=(if zaE c then r else c::r)++x∧_
  refine⟨by split<;>rfl,rfl⟩
def q2S(q:Str):Str:=past digB (unsign q)
theorem zqd{q x:Str}(h:(zK q).1≠[])(hd:q=[46]→digB (atS x 0)=false):zK (q++x)=((zK q).1++x,(zK q).2)∧dotP (q++x)=dotP q:=by
 unfold zK dotP
 unfold zK at h
 cases q with
 |nil=>exact absurd rfl h
 |cons c r=>
  have hc:(atS ((c::r)++x) 0==46&&digB (atS ((c::r)++x) 1))=(atS (c::r) 0==46&&digB (atS (c::r) 1)):=by
   show(c==46&&digB (atS (r++x) 0))=(c==46&&digB (atS r 0))
   cases r with
   |nil=>
    cases h46:c==46 with
    |false=>rfl
    |true=>
     rw[beq_iff_eq]at h46
     subst h46
     show(true&&digB (atS x 0))=(true&&digB (atS [] 0))
     rw[hd rfl];rfl
   |cons d t=>rfl
  rw[hc]
  cases hh:(atS (c::r) 0==46&&digB (atS (c::r) 1))with
  |false=>exact⟨rfl,rfl⟩
  |true=>
   rw[hh,if_pos rfl]at h
   simp only[if_true]
   rw[show((c::r)++x).drop 1=r++x from rfl,show(c::r).drop 1=r from rfl]
   have h':past digB r≠[]:=h
   rw[zbT x h',znJ x h']
   exact⟨rfl,rfl⟩
theorem zzk{w x:Str}(hw:w≠[])(h: ∀r,expS w=some r→r≠[])(hn:expS w=none→expS (w++x)=none):
  expS (w++x)=(expS w).map (· ++x)∧expP (w++x)=expP w:=by
 have hP: ∀q:Str,expP q=if(expS q).isSome then some (atS q 0,sgOf (q.drop 1),(unsign (q.drop 1)).takeWhile digB)else none:=by
  intro q
  unfold expP expS
  cases atS q 0==101||atS q 0==69 with
  |false=>rfl
  |true=>
   cases digB (atS (unsign (q.drop 1)) 0)<;>rfl
 cases he:expS w with
 |none=>
  rw[hn he,hP,hP,hn he,he]
  exact⟨rfl,rfl⟩
 |some r=>
  have hr:=h r he
  cases w with
  |nil=>exact absurd rfl hw
  |cons c t=>
   have he':=he
   unfold expS at he'
   cases h1:atS (c::t) 0==101||atS (c::t) 0==69 with
   |false=>rw[h1,if_neg (by decide)]at he';cases he'
   |true=>
    rw[h1,if_pos rfl]at he'
    cases h2:digB (atS (unsign ((c::t).drop 1)) 0)with
    |false=>rw[h2,if_neg (by decide)]at he';cases he'
    |true=>
     rw[h2,if_pos rfl]at he'
     have hrr:past digB (unsign t)=r:=by injection he'
     have ht:t≠[]:=by rintro rfl;exact absurd (show digB (atS (unsign []) 0)=true from h2) (by decide)
     obtain⟨u1,u2⟩:=zaD x ht
     have hun:unsign t≠[]:=by intro e;rw[show(c::t).drop 1=t from rfl,e]at h2;exact absurd h2 (by decide)
     have hexp:expS ((c::t)++x)=some (r++x):=by
      unfold expS
      rw[show atS ((c::t)++x) 0=atS (c::t) 0 from rfl,h1,if_pos rfl,show((c::t)++x).drop 1=t++x from rfl,u1]
      have:atS (unsign t++x) 0=atS (unsign t) 0:=zaJ x (List.length_pos_iff.2 hun)
      rw[this,show digB (atS (unsign t) 0)=true from h2,if_pos rfl,zbT x (by rw[hrr];exact hr),hrr]
     refine⟨by rw[hexp];rfl,?_⟩
     rw[hP,hP,hexp,he]
     simp only[Option.isSome_some,if_true]
     rw[show((c::t)++x).drop 1=t++x from rfl,show(c::t).drop 1=t from rfl,u1,u2,znJ x (by rw[hrr];exact hr)]
     rfl
theorem Qn(q:Str):zA q=(match expS (zK (q2S q)).1 with|some r=>(r,false)|none=>zK (q2S q)):=rfl
theorem zq6{q x:Str}(h:(zA q).1≠[])(hd:q2S q=[46]→digB (atS x 0)=false)(hn:expS (zK (q2S q)).1=none→expS ((zK (q2S q)).1++x)=none):
  zA (q++x)=((zA q).1++x,(zA q).2)∧numP (q++x)=numP q:=by
 rw[Qn]at h
 have hsome: ∀r,expS (zK (q2S q)).1=some r→r≠[]:=by
  intro r hr;rw[hr]at h;exact h
 have hw:(zK (q2S q)).1≠[]:=by
  intro e
  rw[e,show expS []=none from rfl]at h
  exact h e
 have h2:q2S q≠[]:=by
  intro e;rw[e]at hw;exact hw rfl
 have hq:q≠[]:=by rintro rfl;exact h2 rfl
 obtain⟨u1,u2⟩:=zaD x hq
 have e2:q2S (q++x)=q2S q++x:=by unfold q2S;rw[u1];exact zbT x h2
 obtain⟨w1,w2⟩:=zqd hw hd
 obtain⟨x1,x2⟩:=zzk hw hsome hn
 have hP: ∀z:Str,numP z=⟨sgOf z,(unsign z).takeWhile digB,dotP (q2S z),expP (zK (q2S z)).1⟩:=fun z=>rfl
 constructor
 ·rw[Qn,Qn,e2,w1]
  simp only[x1]
  cases expS (zK (q2S q)).1<;>rfl
 ·rw[hP,hP,u2,u1,znJ x h2,e2,w1,w2,x2]
def brS(c:UInt8)(r:Str):Nat:=
 if spB c then 0
 else if c==34||c==39 then 1
 else if c==35&&(letB (atS r 0)||escS r)then 2
 else if nbS (c::r)then 3
 else if [45,45,62].isPrefixOf (c::r)then 4
 else if [60,33,45,45].isPrefixOf (c::r)then 5
 else if c==64&&nmS r then 6
 else if nmS (c::r)then 7
 else if zcx c==0 then 8
 else 9
def nxB:Nat→UInt8→Str→zb×Str
 |0,c,r=>(zeB 13,past spB (c::r))
 |1,c,r=>(zf1 (zW c r).1,(zW c r).2)
 |2,_,r=>(⟨4,(zl r).1,0,[],nmS r⟩,(zl r).2)
 |3,c,r=>zz (c::r)
 |4,c,r=>(zeB 15,(c::r).drop 3)
 |5,c,r=>(zeB 14,(c::r).drop 4)
 |6,_,r=>(⟨3,(zl r).1,0,[],false⟩,(zl r).2)
 |7,c,r=>qx (c::r)
 |8,c,r=>(⟨9,[c],0,[],false⟩,r)
 |_+9,c,r=>(zeB (zcx c),r)
theorem zzL(c:UInt8)(r:Str):nxB 0 c r=(zeB 13,past spB (c::r)):=by rw[nxB]
theorem zvt(c:UInt8)(r:Str):nxB 1 c r=(zf1 (zW c r).1,(zW c r).2):=by rw[nxB]
theorem zq9(c:UInt8)(r:Str):nxB 2 c r=(⟨4,(zl r).1,0,[],nmS r⟩,(zl r).2):=by rw[nxB]
theorem zlo(c:UInt8)(r:Str):nxB 3 c r=zz (c::r):=by rw[nxB]
theorem zA8(c:UInt8)(r:Str):nxB 4 c r=(zeB 15,(c::r).drop 3):=by rw[nxB]
theorem zA9(c:UInt8)(r:Str):nxB 5 c r=(zeB 14,(c::r).drop 4):=by rw[nxB]
theorem zvu(c:UInt8)(r:Str):nxB 6 c r=(⟨3,(zl r).1,0,[],false⟩,(zl r).2):=by rw[nxB]
theorem zkw(c:UInt8)(r:Str):nxB 7 c r=qx (c::r):=by rw[nxB]
theorem zxL(c:UInt8)(r:Str):nxB 8 c r=(⟨9,[c],0,[],false⟩,r):=by rw[nxB]
theorem zzM(c:UInt8)(r:Str):nxB 9 c r=(zeB (zcx c),r):=rfl
theorem qh(c:UInt8)(r:Str):Zp (c::r)=nxB (brS c r) c r:=by
 rw[zb4]
 unfold brS
 split
 ·rfl
 ·split
  ·rfl
  ·split
   ·rfl
   ·split
    ·rfl
    ·split
     ·rfl
     ·split
      ·rfl
      ·split
       ·rfl
       ·split
        ·rfl
        ·split<;>rfl
theorem br_4{c:UInt8}{r:Str}:brS c r=4→[45,45,62].isPrefixOf (c::r)=true:=by
 unfold brS;intro h;(repeat' split at h)<;>first|assumption|exact absurd h (by decide)
theorem br_5{c:UInt8}{r:Str}:brS c r=5→[60,33,45,45].isPrefixOf (c::r)=true:=by
 unfold brS;intro h;(repeat' split at h)<;>first|assumption|exact absurd h (by decide)
theorem br_9{c:UInt8}{r:Str}:brS c r=9→ ¬(zcx c==0)=true:=by
 unfold brS;intro h;(repeat' split at h)<;>first|assumption|exact absurd h (by decide)
theorem zAB(c:UInt8)(r:Str):brS c r≤9:=by
 unfold brS;(repeat' split)<;>decide
def brK(k:Int):Nat:=
 if k=13 then 0 else if k=5∨k=6 then 1 else if k=4 then 2 else if k=10∨k=11∨k=12 then 3 else if k=15 then 4 else if k=14 then 5 else if k=3 then 6
 else if k=1∨k=2∨k=7∨k=8 then 7 else if k=9 then 8 else 9
theorem zxw(c:UInt8):zcx c=0∨(16≤zcx c∧zcx c≤24):=by
 have: ∀n:Nat,n<256→zcx (UInt8.ofNat n)=0∨(16≤zcx (UInt8.ofNat n)∧zcx (UInt8.ofNat n)≤24):=by decide+kernel
 have:=this c.toNat (UInt8.toNat_lt c)
 rwa [UInt8.ofNat_toNat]at this
theorem zxS(o:Option Str):(zf1 o).kind=5∨(zf1 o).kind=6:=by cases o<;>simp[zf1]
theorem zn5(o:Option Str):(zf5 o).kind=7∨(zf5 o).kind=8:=by cases o<;>simp[zf5]
theorem ztb(l:Str):(qx l).1.kind=1∨(qx l).1.kind=2∨(qx l).1.kind=7∨(qx l).1.kind=8:=by
 unfold qx
 split
 ·split
  ·exact .inr (.inr (zn5 _))
  ·exact .inr (.inl rfl)
 ·exact .inl rfl
theorem zpo(l:Str):(zz l).1.kind=10∨(zz l).1.kind=11∨(zz l).1.kind=12:=by
 unfold zz
 split
 ·exact .inr (.inr rfl)
 ·split
  ·exact .inr (.inl rfl)
  ·exact .inl rfl
theorem zA2{i:Nat}(h:i≤9):i=0∨i=1∨i=2∨i=3∨i=4∨i=5∨i=6∨i=7∨i=8∨i=9:=by omega
theorem zef(c:UInt8)(r:Str):brK (Zp (c::r)).1.kind=brS c r:=by
 rw[qh]
 rcases zA2 (zAB c r)with h|h|h|h|h|h|h|h|h|h
 ·rw[h];rfl
 ·rw[h,zvt]
  show brK (zf1 (zW c r).1).kind=1
  rcases zxS (zW c r).1 with h|h<;>rw[h]<;>rfl
 ·rw[h];rfl
 ·rw[h,zlo]
  rcases zpo (c::r)with h|h|h<;>rw[h]<;>rfl
 ·rw[h];rfl
 ·rw[h];rfl
 ·rw[h];rfl
 ·rw[h,zkw]
  rcases ztb (c::r)with h|h|h|h<;>rw[h]<;>rfl
 ·rw[h];rfl
 ·have h1:=zxw c
  have h0:=br_9 h
  rw[beq_iff_eq]at h0
  rw[h,zzM]
  show brK (zcx c)=9
  unfold brK
  repeat rw[if_neg (by omega)]
theorem zu0{q x:Str}(h:(qx q).2≠[]):qx (q++x)=((qx q).1,(qx q).2++x):=by
 have hn:(zl q).2≠[]:=by
  intro e
  unfold qx at h
  rw[e,if_neg (by decide)]at h
  exact h rfl
 have e:=zdf x hn
 unfold qx
 unfold qx at h
 rw[e]
 simp only
 have h0:atS ((zl q).2++x) 0=atS (zl q).2 0:=zaJ x (List.length_pos_iff.2 hn)
 rw[h0]
 cases h40:atS (zl q).2 0==40 with
 |false=>rfl
 |true=>
  rw[h40,if_pos rfl]at h
  simp only[if_true]
  cases hn2:(zl q).2 with
  |nil=>exact absurd hn2 hn
  |cons c r=>
   rw[hn2]at h
   rw[show((c::r)++x).drop 1=r++x from rfl]
   rw[show(c::r).drop 1=r from rfl]at h ⊢
   cases hu:lowS (zl q).1==[117,114,108]with
   |false=>
    rw[hu,Bool.false_and,if_neg (by decide)]at h
    simp only[Bool.false_and,Bool.false_eq_true,if_false]
   |true=>
    rw[hu,Bool.true_and]at h
    simp only[Bool.true_and]
    cases hp:past spB r with
    |nil=>
     rw[hp,if_pos (by decide),zfu]at h
     exact absurd rfl h
    |cons d t=>
     rw[zbT x (by rw[hp];simp),hp]
     rw[hp]at h
     rw[show atS ((d::t)++x) 0=atS (d::t) 0 from rfl]
     split
     ·rename_i hq
      rw[if_pos hq]at h
      rw[zru x h]
     ·rfl
theorem zdE{q x:Str}{n:Nat}(h:n≤q.length):(q++x).drop n=q.drop n++x:=List.drop_append_of_le_length h
structure zjn (q x:Str):Prop where
 e:zA (q++x)=((zA q).1++x,(zA q).2)
 p:numP (q++x)=numP q
 n:nmS ((zA q).1++x)=nmS (zA q).1
theorem zq7{q x:Str}(hs:zjn q x)(h:(zz q).2≠[]):zz (q++x)=((zz q).1,(zz q).2++x):=by
 have he:(zA q).1≠[]:=by
  intro e
  unfold zz at h
  rw[e,if_neg (by decide),if_neg (by decide)]at h
  exact h rfl
 have h0:atS ((zA q).1++x) 0=atS (zA q).1 0:=zaJ x (List.length_pos_iff.2 he)
 unfold zz
 unfold zz at h
 rw[hs.e,hs.p]
 simp only[hs.n,h0]
 cases hn:nmS (zA q).1 with
 |true=>
  rw[hn,if_pos rfl]at h
  simp only[if_true]
  rw[zdf x h]
 |false=>
  simp only[Bool.false_eq_true,if_false]
  cases h37:atS (zA q).1 0==37 with
  |true=>
   simp only[if_true]
   rw[zdE (List.length_pos_iff.2 he)]
  |false=>simp only[Bool.false_eq_true,if_false]
theorem zja {c:UInt8} {r x:Str} (hb:brS c (r++x)=brS c r) (h:(Zp (c::r)).2≠[]) (hh:brS c r=2→nmS (r++x)=nmS r)
  (hnum:brS c r=3→zjn (c::r) x):Zp (c::(r++x))=((Zp (c::r)).1,(Zp (c::r)).2++x):=by
 rw[qh c (r++x),hb]
 rw[qh]at h ⊢
 rcases zA2 (zAB c r)with hi|hi|hi|hi|hi|hi|hi|hi|hi|hi
 ·rw[hi,zzL]at h
  rw[hi,zzL,zzL,show c::(r++x)=(c::r)++x from rfl,zbT x h]
 ·rw[hi,zvt]at h
  rw[hi,zvt,zvt,zfn x h]
 ·rw[hi,zq9]at h
  rw[hi,zq9,zq9,zdf x h,hh hi]
 ·have hn:=hnum hi
  rw[hi,zlo]at h
  rw[hi,zlo,zlo,show c::(r++x)=(c::r)++x from rfl,zq7 hn h]
 ·have h':=zeR (br_4 hi)
  rw[hi,zA8,zA8,show c::(r++x)=(c::r)++x from rfl,zdE (show 3≤(c::r).length from h')]
 ·have h':=zeR (br_5 hi)
  rw[hi,zA9,zA9,show c::(r++x)=(c::r)++x from rfl,zdE (show 4≤(c::r).length from h')]
 ·rw[hi,zvu]at h
  rw[hi,zvu,zvu,zdf x h]
 ·rw[hi,zkw]at h
  rw[hi,zkw,zkw,show c::(r++x)=(c::r)++x from rfl,zu0 h]
 ·rw[hi,zxL,zxL]
 ·rw[hi,zzM,zzM]
end Go.Lv.VT

namespace Go.Lv.VT
set_option maxRecDepth 100000
theorem zp8{q:Str}(x:Str)(h:q≠[]):undot (q++x)=undot q++x:=by
 cases q with
 |nil=>exact absurd rfl h
 |cons c r=>
  unfold undot
  show(if c==46 then r++x else c::(r++x))=(if c==46 then r else c::r)++x
  split<;>rfl
theorem zwq(q:Str):q.length≤(undot q).length+1:=by
 unfold undot
 split
 ·rw[List.length_drop];omega
 ·omega
theorem zil(q:Str):q.length≤(unsign q).length+1:=by
 unfold unsign
 split
 ·rw[List.length_drop];omega
 ·omega
theorem zco{q:Str}(h:1≤q.length):q≠[]:=by rintro rfl;cases h
theorem zA4{q:Str}(x:Str)(h:3≤q.length):nbS (q++x)=nbS q:=by
 have h1:=zil q
 have h2:=zwq (unsign q)
 unfold nbS
 rw[(zaD x (zco (by omega))).1,zp8 x (zco (by omega)),zaJ x (by omega)]
theorem zsd{q:Str}(x:Str)(h:3≤q.length):nmS (q++x)=nmS q:=by
 unfold nmS escS
 rw[zdE (by omega),zaJ x (show 0<q.length by omega),zaJ x (show 1<q.length by omega),zaJ x (show 0<(q.drop 1).length by rw[List.length_drop];omega),zaJ x (show 1<(q.drop 1).length by rw[List.length_drop];omega)]
theorem zia{m:Str}: ∀{q:Str} (x:Str),m.length≤q.length→m.isPrefixOf (q++x)=m.isPrefixOf q:=by
 induction m with
 |nil=>intros;rw[List.isPrefixOf,List.isPrefixOf]
 |cons a m ih=>
  intro q x h
  cases q with
  |nil=>rw[List.length_cons,List.length_nil]at h;omega
  |cons b t=>
   rw[List.length_cons,List.length_cons]at h
   rw[List.cons_append,List.isPrefixOf,List.isPrefixOf,ih x (by omega)]
theorem zAA{c:UInt8}{r:Str}(x:Str)(h:4≤r.length):brS c (r++x)=brS c r:=by
 have e:c::(r++x)=(c::r)++x:=rfl
 have hl:(c::r).length=r.length+1:=rfl
 unfold brS
 rw[e,zA4 x (by omega),zia x (by show 3≤_;omega),zia x (by show 4≤_;omega),zsd x (q:=r) (by omega),zsd x (q:=c::r) (by omega),zaJ x (show 0<r.length by omega)]
 have:escS (r++x)=escS r:=by
  unfold escS
  rw[zaJ x (show 0<r.length by omega),zaJ x (show 1<r.length by omega)]
 rw[this]
theorem zcD{w:Str}:expS w=none↔((atS w 0==101||atS w 0==69)&&digB (atS (unsign (w.drop 1)) 0))=false:=by
 unfold expS
 cases atS w 0==101||atS w 0==69 with
 |false=>simp
 |true=>cases digB (atS (unsign (w.drop 1)) 0)<;>simp
theorem zzl{w:Str}(x:Str)(h:3≤w.length)(hn:expS w=none):expS (w++x)=none:=by
 rw[zcD]at hn ⊢
 have h1:=zil (w.drop 1)
 rw[List.length_drop]at h1
 rw[zdE (by omega),(zaD x (zco (by rw[List.length_drop];omega))).1,zaJ x (show 0<w.length by omega),zaJ x (by omega)]
 exact hn
theorem ztK(q:Str):(zK q).1<:+q:=by
 unfold zK
 split
 ·exact(zfm _ _).trans (List.drop_suffix 1 q)
 ·exact List.suffix_refl _
theorem zAJ(q:Str):(zA q).1<:+(zK (q2S q)).1:=by
 rw[Qn]
 cases h:expS (zK (q2S q)).1 with
 |some r=>exact zuL (List.suffix_refl _) h
 |none=>exact List.suffix_refl _
theorem zkv(q:Str):(zz q).2<:+(zA q).1:=by
 unfold zz
 split
 ·exact zaT _
 ·split
  ·exact List.drop_suffix 1 _
  ·exact List.suffix_refl _
theorem zzJ{q:Str}(x:Str)(h:4≤(zA q).1.length):zjn q x:=by
 have h1:=(zAJ q).length_le
 have h2:=(ztK (q2S q)).length_le
 obtain⟨a,b⟩:=zq6 (q:=q) (x:=x) (zco (by omega)) (fun e=>by rw[e]at h1 h2;simp only[List.length_singleton]at h2;omega) (zzl x (by omega))
 exact⟨a,b,zsd x (by omega)⟩
theorem zxD{c:UInt8}{r:Str}(x:Str)(h:4≤(Zp (c::r)).2.length):Zp (c::(r++x))=((Zp (c::r)).1,(Zp (c::r)).2++x):=by
 have h1:=(zcH c r).length_le
 refine zja (zAA x (by omega)) (zco (by omega)) (fun _=>zsd x (by omega)) (fun hb=>zzJ x ?_)
 rw[qh,hb,zlo]at h
 have:=(zkv (c::r)).length_le
 omega
theorem zrQ(q y:Str):escS (q++47::y)=escS q:=by
 match q with
 |[]=>rfl
 |[c]=>rfl
 |c::d::t=>rfl
theorem zvp(q y:Str):nmS (q++47::y)=nmS q:=by
 match q with
 |[]=>rfl
 |[c]=>
  unfold nmS
  show(if c==45 then fstB 47||47==45||escS (47::y)else fstB c||escS ([c]++47::y))=(if c==45 then fstB 0||0==45||escS []else fstB c||escS [c])
  rw[zrQ]
  rfl
 |c::d::t=>
  unfold nmS
  show(if c==45 then fstB d||d==45||escS ((d::t)++47::y)else fstB c||escS ((c::d::t)++47::y))=(if c==45 then fstB d||d==45||escS (d::t)else fstB c||escS (c::d::t))
  rw[zrQ,zrQ]
theorem zyz(q y:Str):digB (atS (q++47::y) 0)=digB (atS q 0):=by
 cases q with
 |nil=>rfl
 |cons c t=>rfl
theorem zp9(q y:Str):unsign (q++47::y)=unsign q++47::y:=by
 cases q with
 |nil=>rfl
 |cons c t=>exact(zaD (47::y) (by simp)).1
theorem zyb(q y:Str):undot (q++47::y)=undot q++47::y:=by
 cases q with
 |nil=>rfl
 |cons c t=>exact zp8 (47::y) (by simp)
theorem zBJ(q y:Str):nbS (q++47::y)=nbS q:=by
 unfold nbS
 rw[zp9,zyb,zyz]
theorem zyJ{m:Str}(hm: ∀b∈m,b≠47): ∀(q y:Str),m.isPrefixOf (q++47::y)=m.isPrefixOf q:=by
 induction m with
 |nil=>intros;rw[List.isPrefixOf,List.isPrefixOf]
 |cons a m ih=>
  intro q y
  cases q with
  |nil=>
   have:(a==47)=false:=beq_eq_false_iff_ne.2 (hm a (List.mem_cons_self ..))
   show((a==47)&&m.isPrefixOf y)=false
   rw[this];rfl
  |cons b t=>rw[List.cons_append,List.isPrefixOf,List.isPrefixOf,ih (fun b hb=>hm b (List.mem_cons_of_mem _ hb))]
theorem zAY(q y:Str):letB (atS (q++47::y) 0)=letB (atS q 0):=by
 cases q with
 |nil=>rfl
 |cons c t=>rfl
theorem zAD(c:UInt8)(r y:Str):brS c (r++47::y)=brS c r:=by
 have e:c::(r++47::y)=(c::r)++47::y:=rfl
 unfold brS
 rw[e,zBJ,zyJ (by decide),zyJ (by decide),zvp,zvp,zAY,zrQ]
theorem zAL{w:Str}(y:Str)(hn:expS w=none):expS (w++47::y)=none:=by
 cases w with
 |nil=>rfl
 |cons c t=>
  rw[zcD]at hn ⊢
  show((c==101||c==69)&&digB (atS (unsign (t++47::y)) 0))=false
  rw[zp9,zyz]
  exact hn
theorem zA7{q:Str}(y:Str)(h:(zA q).1≠[]):zjn q (47::y):=by
 obtain⟨a,b⟩:=zq6 (q:=q) (x:=47::y) h (fun _=>rfl) (zAL y)
 exact⟨a,b,zvp _ y⟩
theorem zme{q:Str}(h:(zz q).2≠[]):(zA q).1≠[]:=by
 intro e
 have:=(zkv q).length_le
 rw[e]at this
 exact h (List.length_eq_zero_iff.1 (by simpa using this))
theorem zzH{c:UInt8}{r:Str}(y:Str)(h:(Zp (c::r)).2≠[]):Zp (c::(r++47::y))=((Zp (c::r)).1,(Zp (c::r)).2++47::y):=by
 refine zja (zAD c r y) h (fun _=>zvp r y) (fun hb=>zA7 y ?_)
 rw[qh,hb,zlo]at h
 exact zme h
def zyT(c:UInt8)(r x:Str):Prop:=(∃e fl,(e=101∨e=69)∧zK (q2S (c::r))=([e,43],fl))∧(Zp (c::r)).2=[43]∧(Zp (c::r)).1.kind=12∧digB (atS x 0)=true
theorem zxJ{c:UInt8}{r x:Str}(hb:brS c r=3)(h:(Zp (c::r)).2≠[])(hx:x≠[])(ht:(zz ((c::r)++x)).1=(zz (c::r)).1):
  zjn (c::r) x∨zyT c r x:=by
 have hnx:Zp (c::r)=zz (c::r):=by rw[qh,hb,zlo]
 rw[hnx]at h
 have he:=zme h
 have hflag: ∀q:Str,(zz q).1.kind=10→(zz q).1.flag=(zA q).2:=by
  intro q
  unfold zz
  split
  ·intro h;cases h
  ·split
   ·intro h;cases h
   ·intro _;rfl
 have hnm: ∀q:Str,((zz q).1.kind=12↔nmS (zA q).1=true):=by
  intro q
  unfold zz
  split
  ·rename_i h;simp[h]
  ·rename_i h
   split<;>simp[h]
 by_cases hd:q2S (c::r)=[46]→digB (atS x 0)=false
 ·by_cases hn:expS (zK (q2S (c::r))).1=none→expS ((zK (q2S (c::r))).1++x)=none
  ·obtain⟨a,b⟩:=zq6 he hd hn
   refine .inl ⟨a,b,?_⟩
   have k1:=hnm ((c::r)++x)
   have k2:=hnm (c::r)
   rw[ht,a]at k1
   rw[Bool.eq_iff_iff]
   exact k1.symm.trans k2
  ·right
   obtain⟨hn1,hn2⟩:=Classical.not_imp.1 hn
   have hend:zA (c::r)=zK (q2S (c::r)):=by rw[Qn,hn1]
   rw[hend]at he
   obtain⟨w,fl⟩: ∃w fl,zK (q2S (c::r))=(w,fl):=⟨_,_,rfl⟩
   obtain⟨fl,hw⟩:=fl
   rw[hw]at he hn1 hn2 hend
   simp only at he hn1 hn2
   rw[zcD]at hn1
   rw[zcD]at hn2
   cases w with
   |nil=>exact absurd rfl he
   |cons e t=>
    have h2:((e==101||e==69)&&digB (atS (unsign (t++x)) 0))=true:=by
     have:((atS ((e::t)++x) 0==101||atS ((e::t)++x) 0==69)&&digB (atS (unsign (((e::t)++x).drop 1)) 0))=true:=by
      cases hh:((atS ((e::t)++x) 0==101||atS ((e::t)++x) 0==69)&&digB (atS (unsign (((e::t)++x).drop 1)) 0))with
      |true=>rfl
      |false=>exact absurd hh hn2
     exact this
    have h1:((e==101||e==69)&&digB (atS (unsign t) 0))=false:=hn1
    rw[Bool.and_eq_true]at h2
    rw[h2.1,Bool.true_and]at h1
    have hee:e=101∨e=69:=by
     have:=h2.1
     rw[Bool.or_eq_true,beq_iff_eq,beq_iff_eq]at this
     exact this
    have hfst:fstB e=true∧letB e=true∧(e==45)=false:=by rcases hee with rfl|rfl<;>decide
    have hnmw:nmS (e::t)=true:=by
     unfold nmS
     rw[show atS (e::t) 0=e from rfl,hfst.2.2,if_neg (by decide),hfst.1];rfl
    have hnum:zz (c::r)=(⟨12,[],(numP (c::r)).val,(zl (e::t)).1,fl⟩,(zl (e::t)).2):=by
     unfold zz
     rw[hend,if_pos hnmw]
    rw[hnum]at h
    have h':(zl (e::t)).2≠[]:=h
    have ht43:t=[43]∧digB (atS x 0)=true:=by
     match t with
     |[]=>rw[zC,if_pos hfst.2.1,qz]at h';exact absurd rfl h'
     |[d]=>
      have hux:unsign ([d]++x)=if zaE d then x else d::x:=rfl
      have hu:unsign [d]=if zaE d then []else [d]:=rfl
      rw[hux]at h2
      rw[hu]at h1
      cases hs:zaE d with
      |false=>
       rw[hs,if_neg (by decide)]at h1 h2
       have:=h2.2
       rw[show atS (d::x) 0=atS [d] 0 from rfl,h1]at this
       cases this
      |true=>
       rw[hs,if_pos rfl]at h2
       unfold zaE at hs
       rw[Bool.or_eq_true,beq_iff_eq,beq_iff_eq]at hs
       rcases hs with rfl|rfl
       ·exact⟨rfl,h2.2⟩
       ·rw[zC,if_pos hfst.2.1,zC,if_pos (by decide),qz]at h';exact absurd rfl h'
     |d::d2::t2=>
      exfalso
      have hlen:1≤(unsign (d::d2::t2)).length:=by
       have:=zil (d::d2::t2)
       rw[List.length_cons,List.length_cons]at this;omega
      have:=h2.2
      rw[(zaD x (by simp)).1,zaJ x (by omega),h1]at this
      cases this
    obtain⟨rfl,hdx⟩:=ht43
    refine⟨⟨e,fl,hee,hw⟩,?_,?_,hdx⟩
    ·rw[hnx,hnum]
     show(zl [e,43]).2=[43]
     rw[zC,if_pos hfst.2.1,zC,if_neg (by decide),if_neg (by decide)]
    ·rw[hnx,hnum]
 ·exfalso
  obtain⟨hq2,hdx⟩:=Classical.not_imp.1 hd
  have hend:zA (c::r)=([46],true):=by rw[Qn,hq2];rfl
  have hnum:zz (c::r)=(⟨10,[],(numP (c::r)).val,[],true⟩,[46]):=by
   unfold zz
   rw[hend,if_neg (by decide),if_neg (by decide)]
  rw[hnum]at ht
  have hf:=hflag ((c::r)++x) (by rw[ht])
  rw[ht]at hf
  have hun:unsign (c::r)≠[]:=by intro e;rw[q2S,e]at hq2;cases hq2
  have e2:q2S ((c::r)++x)=46::x:=by
   unfold q2S
   rw[(zaD x (by simp)).1,zbT x (by unfold q2S at hq2;rw[hq2];simp)]
   unfold q2S at hq2;rw[hq2];rfl
  have hw:zK (46::x)=(past digB x,false):=by
   unfold zK
   have:digB (atS x 0)=true:=by cases hh:digB (atS x 0)with|true=>rfl|false=>exact absurd hh hdx
   rw[show atS (46::x) 0=46 from rfl,show atS (46::x) 1=atS x 0 from rfl,this];rfl
  have hfl:(zA ((c::r)++x)).2=false:=by
   rw[Qn,e2,hw]
   simp only
   cases expS (past digB x)<;>rfl
  rw[hfl]at hf
  cases hf
theorem zvm{c:UInt8}{r x:Str}(h:(Zp (c::r)).2≠[])(hx:x≠[])(ht:(Zp (c::(r++x))).1=(Zp (c::r)).1):
  (Zp (c::(r++x))).2=(Zp (c::r)).2++x∨zyT c r x:=by
 have hb:brS c (r++x)=brS c r:=by rw[←zef,←zef,ht]
 have hh:brS c r=2→nmS (r++x)=nmS r:=by
  intro hi
  have:=congrArg zb.flag ht
  rw[qh,qh,hb,hi,zq9,zq9]at this
  exact this
 by_cases hi:brS c r=3
 ·have hnx:Zp (c::r)=zz (c::r):=by rw[qh,hi,zlo]
  have hnx2:Zp (c::(r++x))=zz ((c::r)++x):=by rw[qh,hb,hi,zlo];rfl
  have ht':=ht
  rw[hnx,hnx2]at ht'
  rcases zxJ hi h hx ht' with hs|hp
  ·left
   rw[zja hb h hh (fun _=>hs)]
  ·exact .inr hp
 ·left
  rw[zja hb h hh (fun e=>absurd e hi)]
end Go.Lv.VT

namespace Go.Lv.VT
set_option maxRecDepth 100000
def run:Str→List zb→Str→Prop
 |q,[],R=>q=R
 |q,t::ts,R=> ∃c r,cmtS q=c::r∧(Zp (c::r)).1=t∧run (Zp (c::r)).2 ts R
theorem zkQ: ∀{ts:List zb} {q R:Str},run q ts R→R<:+q
 |[],q,R,h=>by rw[run]at h;subst h;exact List.suffix_refl _
 |t::ts,q,R,h=>by
  obtain⟨c,r,h1,h2,h3⟩:=h
  have h4:=zer q
  rw[h1]at h4
  exact(zkQ h3).trans ((zcH c r).trans ((List.suffix_cons c r).trans h4))
theorem zfp: ∀{ts:List zb} {q R:Str},run q ts R→qw q=ts++qw R
 |[],q,R,h=>by rw[run]at h;subst h;rfl
 |t::ts,q,R,h=>by
  obtain⟨c,r,h1,h2,h3⟩:=h
  rw[zak h1,h2,zfp h3];rfl
theorem znK: ∀{ts us:List zb} {q R S:Str},run q ts R→run R us S→run q (ts++us) S
 |[],us,q,R,S,h,h'=>by rw[run]at h;subst h;exact h'
 |t::ts,us,q,R,S,h,h'=>by
  obtain⟨c,r,h1,h2,h3⟩:=h
  exact⟨c,r,h1,h2,znK h3 h'⟩
theorem zsx: ∀{ts us:List zb} {q:Str},qw q=ts++us→ ∃R,run q ts R∧qw R=us
 |[],us,q,h=>⟨q,rfl,h⟩
 |t::ts,us,q,h=>by
  cases hc:cmtS q with
  |nil=>rw[Q0 hc]at h;cases h
  |cons c r=>
   rw[zak hc,List.cons_append]at h
   injection h with h1 h2
   obtain⟨R,h3,h4⟩:=zsx h2
   exact⟨R,⟨c,r,hc,h1,h3⟩,h4⟩
theorem zv6: ∀{ts:List zb} {q R S:Str},run q ts R→run q ts S→R=S
 |[],q,R,S,h,h'=>by rw[run]at h h';rw[←h,h']
 |t::ts,q,R,S,h,h'=>by
  obtain⟨c,r,h1,h2,h3⟩:=h
  obtain⟨c',r',h1',h2',h3'⟩:=h'
  rw[h1]at h1'
  injection h1' with e1 e2
  subst e1 e2
  exact zv6 h3 h3'
theorem zv5{ts:List zb}{q R:Str}(hne:ts≠[]):run (cmtS q) ts R↔run q ts R:=by
 cases ts with
 |nil=>exact absurd rfl hne
 |cons t ts=>
  constructor
  ·rintro⟨c,r,h1,h2⟩
   rw[zdD]at h1
   exact⟨c,r,h1,h2⟩
  ·rintro⟨c,r,h1,h2⟩
   exact⟨c,r,by rw[zdD];exact h1,h2⟩
theorem zqw(x:Str): ∀{l r:Str},clsS l=some r→clsS (l++x)=some (r++x)
 |[],r,h=>by cases h
 |c::t,r,h=>by
  rw[clsS]at h
  rw[List.cons_append,clsS]
  cases t with
  |nil=>
   cases hc:c==42&&atS ([]:Str) 0==47 with
   |true=>rw[Bool.and_eq_true]at hc;exact absurd hc.2 (by decide)
   |false=>rw[hc,if_neg (by decide)]at h;cases h
  |cons d u=>
   rw[show atS ((d::u)++x) 0=atS (d::u) 0 from rfl]
   split
   ·rename_i hc
    rw[if_pos hc]at h
    injection h with h
    subst h
    rfl
   ·rename_i hc
    rw[if_neg hc]at h
    exact zqw x h
theorem zjM{q x:Str}(h:cmtS q≠[])(hp:([47,42]:Str).isPrefixOf (cmtS q++x)=false):cmtS (q++x)=cmtS q++x:=by
 rw[zbz q]at h hp ⊢
 split at h
 ·rename_i hq
  have hl:=zeR hq
  rw[show([47,42]:Str).length=2 from rfl]at hl
  rw[if_pos hq]at hp ⊢
  cases hc:clsS (q.drop 2)with
  |none=>rw[hc]at h;exact absurd rfl h
  |some p=>
   rw[hc]at h hp
   simp only at h hp ⊢
   rw[zbz (q++x),zia x (by exact hl),hq,if_pos rfl,zdE hl,zqw x hc]
   simp only
   have h2:p.length<q.length:=by
    have h2:=(zdC _ hc).2
    rw[List.length_drop]at h2
    omega
   exact zjM h hp
 ·rename_i hq
  rw[if_neg hq]at hp ⊢
  exact ZQ hp
termination_by q.length
decreasing_by omega
theorem znE{c d:UInt8}(t x:Str):([47,42]:Str).isPrefixOf ((c::d::t)++x)=([47,42]:Str).isPrefixOf (c::d::t):=zia x (by show 2≤_;simp)
theorem zuj{q x:Str}(h:2≤(cmtS q).length):cmtS (q++x)=cmtS q++x:=by
 refine zjM (zco (by omega)) ?_
 rw[zia x (by exact h)]
 exact zjN q
theorem zsb{c:UInt8}{r:Str}(h:(Zp (c::r)).2≠[]):2≤(c::r).length:=by
 have h1:=(zcH c r).length_le
 have h2:=List.length_pos_iff.2 h
 rw[List.length_cons];omega
theorem zv7: ∀{ts:List zb} {q R:Str} (x:Str),run q ts R→4≤R.length→run (q++x) ts (R++x)
 |[],q,R,x,h,_=>by rw[run]at h;subst h;rfl
 |t::ts,q,R,x,h,hl=>by
  obtain⟨c,r,h1,h2,h3⟩:=h
  have h4:=(zkQ h3).length_le
  have h5:=zxD x (c:=c) (r:=r) (by omega)
  have h6:=zsb (c:=c) (r:=r) (zco (by omega))
  refine⟨c,r++x,by rw[zuj (by rw[h1];exact h6),h1];rfl,by rw[h5];exact h2,?_⟩
  rw[h5]
  exact zv7 x h3 hl
theorem zui{q:Str}(y:Str)(h:cmtS q≠[]):cmtS (q++47::42::y)=cmtS q++47::42::y:=by
 refine zjM h ?_
 have hp:=zjN q
 cases hq:cmtS q with
 |nil=>exact absurd hq h
 |cons c t=>
  cases t with
  |nil=>
   show((47==c)&&((42==(47:UInt8))&&_))=false
   rw[show((42:UInt8)==47)=false from rfl,Bool.false_and,Bool.and_false]
  |cons d u=>rw[znE,←hq];exact hp
theorem zv9: ∀{ts:List zb} {q R:Str} (y:Str),run q ts R→R≠[]→run (q++47::42::y) ts (R++47::42::y)
 |[],q,R,y,h,_=>by rw[run]at h;subst h;rfl
 |t::ts,q,R,y,h,hl=>by
  obtain⟨c,r,h1,h2,h3⟩:=h
  have h4:(Zp (c::r)).2≠[]:=by
   intro e
   have:=(zkQ h3).length_le
   rw[e]at this
   exact hl (List.length_eq_zero_iff.1 (by simpa using this))
  have h5:=zzH (42::y) h4
  refine⟨c,r++47::42::y,by rw[zui y (by rw[h1];simp),h1];rfl,by rw[h5];exact h2,?_⟩
  rw[h5]
  exact zv9 y h3 hl
def zAt(q x:Str)(us:List zb):Prop:= ∃c r,cmtS q=c::r∧zyT c r x∧(Zp (c::(r++x))).1=(Zp (c::r)).1∧qw (Zp (c::(r++x))).2=us
theorem zsr: ∀{ts us:List zb} {q R:Str} {x:Str},run q ts R→R≠[]→x≠[]→qw (q++x)=ts++us→run (q++x) ts (R++x)∨(R=[43]∧ ∃p,p<:+q∧zAt p x us)
 |[],us,q,R,x,h,_,_,_=>by rw[run]at h;subst h;exact .inl rfl
 |t::ts,us,q,R,x,h,hl,hx,ht=>by
  obtain⟨c,r,h1,h2,h3⟩:=h
  have h4:(Zp (c::r)).2≠[]:=by
   intro e
   have:=(zkQ h3).length_le
   rw[e]at this
   exact hl (List.length_eq_zero_iff.1 (by simpa using this))
  have hc:cmtS (q++x)=c::(r++x):=by rw[zuj (by rw[h1];exact zsb h4),h1];rfl
  rw[zak hc,List.cons_append]at ht
  injection ht with ht1 ht2
  rcases zvm h4 hx (by rw[ht1,h2])with h5|h5
  ·rw[h5]at ht2
   rcases zsr h3 hl hx ht2 with h6|⟨h6,p,hp,h7⟩
   ·exact .inl ⟨c,r++x,hc,ht1,by rw[h5];exact h6⟩
   ·refine .inr ⟨h6,p,hp.trans ((zcH c r).trans ((List.suffix_cons c r).trans ?_)),h7⟩
    rw[←h1];exact zer q
  ·right
   have h43:=h5.2.1
   have hR:R=[43]∧ts=[]:=by
    cases ts with
    |nil=>rw[run,h43]at h3;exact⟨h3.symm,rfl⟩
    |cons u us'=>
     exfalso
     rw[h43]at h3
     obtain⟨c',r',e1,e2,e3⟩:=h3
     rw[show cmtS [43]=[43]from ZQ rfl]at e1
     injection e1 with e4 e5
     subst e4 e5
     have:=(zkQ e3).length_le
     have h9:=(zcH (43:UInt8) []).length_le
     exact hl (List.length_eq_zero_iff.1 (by simp only[List.length_nil]at h9;omega))
   obtain⟨hR,rfl⟩:=hR
   refine⟨hR,q,List.suffix_refl _,c,r,h1,h5,by rw[ht1,h2],?_⟩
   rw[ht2];rfl
end Go.Lv.VT

namespace Go.Lv.VT
set_option maxRecDepth 100000
def encB(p:UInt8→Bool):Str→Str
 |[]=>[]
 |c::r=>(bif p c then escC c else [c])++encB p r
def quoB(c:UInt8):Bool:=c==10||c==12||c==13||c==34||c==92
def urB(c:UInt8):Bool:=decide (c.toNat≤32)||c==34||c==39||c==40||c==41||c==92||c==127
def zlj:Str→Bool
 |[]=>false
 |c::r=>(c==101||c==69)&&numS r&& !(List.isPrefixOf [45,45] r)
def zbF:Str→Str
 |[]=>[]
 |c::r=>bif zlj (c::r)then escC c++encW false 0 r else Z9 (c::r)
def zq1(k:Int):Str:=
 bif k==13 then [32]else bif k==14 then [60,33,45,45]else bif k==15 then [45,45,62]else bif k==16 then [58]else bif k==17 then [59]else bif k==18 then [44]else
 bif k==19 then [91]else bif k==20 then [93]else bif k==21 then [40]else bif k==22 then [41]else bif k==23 then [123]else [125]
def txS(t:zb):Str:=
 bif t.kind==1 then Z9 t.text
 else bif t.kind==2 then Z9 t.text++[40]
 else bif t.kind==3 then 64::Z9 t.text
 else bif t.kind==4 then 35::(bif t.flag then Z9 t.text else encW false 0 t.text)
 else bif t.kind==5 then 34::(encB quoB t.text++[34])
 else bif t.kind==7 then [117,114,108,40]++(encB urB t.text++[41])
 else bif t.kind==9 then t.text
 else bif t.kind==10 then numT t.num (!t.flag)
 else bif t.kind==11 then numT t.num false++[37]
 else bif t.kind==12 then numT t.num (!t.flag)++zbF t.unit
 else zq1 t.kind
theorem zgO(p:UInt8→Bool): ∀l:Str,(encB p l).length≤4*l.length
 |[]=>by unfold encB;simp
 |c::r=>by
  have:=zgT c
  have:=zgO p r
  unfold encB
  rw[List.length_append,List.length_cons]
  cases p c with
  |true=>rw[cond_true];omega
  |false=>rw[cond_false,List.length_singleton];omega
theorem zzg{p:UInt8→Bool}{i:Nat}{l:Str}(h:i<l.length):encB p (l.drop i)=(bif p l[i]then escC l[i]else [l[i]])++encB p (l.drop (i+1)):=by
 rw[List.drop_eq_getElem_cons h,encB]
theorem zoE {R:Type} {step:Int×List UInt8→Option (LO (Int×List UInt8) (List UInt8) R)} {l acc:Str} {p:UInt8→Bool} (hl:l.length≤100000) (ha:acc.length≤100000000)
  (h1: ∀(i:Nat) (a:Str) (hi:i<l.length),a.length≤500000000→step ((i:Int),a)=some (.again (w64 ((i:Int)+1),a++(bif p l[i]then escC l[i]else [l[i]]))))
  (h2: ∀a,step ((l.length:Int),a)=some (.out a)):zdM step (0,acc)=some (.out (acc++encB p l)):=by
 refine qN (fun z=> ∃(i:Nat) (a:Str),z=((i:Int),a)∧i≤l.length∧a.length≤acc.length+4*i∧a++encB p (l.drop i)=acc++encB p l) (fun z=>l.length - z.1.toNat) _ ?_ ⟨0,acc,rfl,by omega,by omega,rfl⟩
 rintro _ ⟨i,a,rfl,hi,hal,he⟩
 rcases Nat.lt_or_ge i l.length with h|h
 ·refine .inl ⟨_,h1 i a h (by omega),⟨i+1,_,by rw[zV (by omega) (by omega)];rfl,by omega,?_,?_⟩,by simp only;rw[zV (by omega) (by omega)];omega⟩
  ·have:=zgT l[i]
   rw[List.length_append]
   cases p l[i]with
   |true=>rw[cond_true];omega
   |false=>rw[cond_false,List.length_singleton];omega
  ·rw[←he,zzg h,List.append_assoc]
 ·have:i=l.length:=by omega
  subst this
  refine .inr (.inl ⟨_,h2 a,?_⟩)
  rw[←he,List.drop_eq_nil_of_le (Nat.le_refl _)]
  rw[show encB p []=[] by rw[encB],List.append_nil]
theorem znj{l acc:Str}{k:Nat}(hl:l.length≤100000)(ha:acc.length≤100000000):qg ((l,(k:Int)),acc)=some (acc++encW (zqE k l) k l):=by
 unfold qg
 rw[qO (zAr (dash:=zqE k l) (k:=k) (l:=l) (acc:=acc) hl ha (fun i a hi ha=> ?_) (fun a=> ?_))]
 ·have d1:decide ((i:Int)<(l.length:Int))=true:=decide_eq_true (by omega)
  have d2:geti l (i:Int)=some l[i]:=zbB hi
  have d3:decide ((i:Int)≥(k:Int))=(k - i==0):=by
   by_cases h:k≤i
   ·rw[decide_eq_true (by omega),show k - i=0 by omega];rfl
   ·rw[decide_eq_false (by omega)];symm;rw[beq_eq_false_iff_ne];omega
  have d4:((k:Int)==0)=(k==0):=by
   by_cases h:k=0
   ·subst h;rfl
   ·rw[beq_eq_false_iff_ne.2 h,beq_eq_false_iff_ne];omega
  simp only[d1,cond_true,d2,d3,d4,ze,Option.bind_some,zzp,zuO]
  have hd:(bif k==0 then true else !(l==[45]))= !zqE k l:=by unfold zqE;cases k==0<;>cases l==[45]<;>rfl
  rw[hd]
  unfold pcW
  cases letB l[i]with
  |false=>
   cases k - i==0<;>simp only[zn,Bool.not_true,Bool.not_false,Bool.and_false,Bool.false_and,Bool.and_true,cond_true,cond_false,Option.bind_some,zc8 l[i] (show a.length≤1000000000 by omega),zg]
  |true=>
   cases k - i==0<;>cases digB l[i]<;>cases zqE k l<;>simp only[zn,Bool.not_true,Bool.not_false,Bool.and_false,Bool.false_and,Bool.and_true,Bool.or_true,Bool.or_false,Bool.true_and,Bool.false_or,Bool.true_or,cond_true,cond_false,Option.bind_some,zmI,zw (zaI (show a.length+1≤2000000000 by omega)),zc8 l[i] (show a.length≤1000000000 by omega),zg]
 ·simp only
  rw[decide_eq_false (by omega),cond_false]
theorem zsW(l:Str):zqE (QD l) l=(l==[45]):=by
 unfold zqE QD
 split<;>rfl
theorem zpg{l acc:Str}(hl:l.length≤100000)(ha:acc.length≤100000000):qg ((l,((QD l:Nat):Int)),acc)=some (acc++Z9 l):=by
 rw[znj hl ha,zsW];rfl
theorem zyX{n:Nat}{b:Str}(hn:n≤1000000000000)(hb:b.length≤100000):zdv (((n:Int),10),b)=some (b++Lib.decDigits n):=by
 have hsh:short b=true:=decide_eq_true (by omega)
 unfold zdv
 simp only[hsh,Bool.and_true,Int.toNat_natCast,decide_true,Bool.true_and]
 rw[decide_eq_true (by omega),decide_eq_true (by omega)]
 rfl
theorem ziH{m:Nat}(hm:m≤1000000000000)(p:Bool)(b:Str)(hb:b.length≤90000):
  ((zdv ((w64 (Int.tdiv (m:Int) 1000),10),b)).bind fun y2=>(zgd (w64 (1000+Int.tmod (m:Int) 1000),10)).bind fun y3=>need (decide (1≤(y3.length:Int)))<|
   (ziK (List.drop 1 y3,[48])).bind fun y4=>zU (X:=List UInt8) (R:=List UInt8) (bif !(y4==[])then need (Ze y2.length 1 1)<|need (Ze (y2++[(46:UInt8)]).length y4.length 1)<|some (LX.out (y2++[(46:UInt8)]++y4))else bif p then need (Ze y2.length ([46,48]:Str).length 1)<|some (LX.out (y2++([46,48]:Str)))else some (LX.out y2)) fun j5=>some j5)=some (b++zbL m p):=by
 have e1:w64 (Int.tdiv (m:Int) 1000)=((m / 1000:Nat):Int):=by
  rw[show Int.tdiv (m:Int) 1000=((m / 1000:Nat):Int)from rfl,zV (by omega) (by omega)]
 have e2:w64 (1000+Int.tmod (m:Int) 1000)=((1000+m%1000:Nat):Int):=by
  rw[show Int.tmod (m:Int) 1000=((m%1000:Nat):Int)from rfl,zV (by omega) (by omega)];omega
 have hr:m%1000<1000:=by omega
 rw[e1,e2]
 have f2:zgd (((1000+m%1000:Nat):Int),10)=some (49::[d48 (m%1000 / 100),d48 (m%1000 / 10%10),d48 (m%1000%10)]):=by
  unfold zgd i64B
  simp only[decide_true,Bool.true_and]
  rw[decide_eq_true (by omega),decide_eq_true (by omega)]
  rw[←zw0 hr]
  show some (Lib.itoa _)=_
  unfold Lib.itoa
  rw[if_neg (by omega),Int.toNat_natCast]
 have hlen:=zjS (u:=m / 1000) (by omega)
 rw[zyX (by omega) (by omega),Option.bind_some,f2,Option.bind_some,zw (decide_eq_true (by simp))]
 have f3:ziK (List.drop 1 (49::[d48 (m%1000 / 100),d48 (m%1000 / 10%10),d48 (m%1000%10)]),[48])=some (zgX (m%1000)):=rfl
 rw[f3,Option.bind_some,ztZ]
 have hf:=zmX _ hr
 simp only[zrT,Bool.and_eq_true,decide_eq_true_eq]at hf
 unfold zbL zp2
 cases (zgX (m%1000)).isEmpty with
 |true=>
  simp only[Bool.not_true,cond_false,cond_true]
  cases p with
  |true=>rw[cond_true,zw (zmA (by rw[List.length_append];show _+2≤_;omega) (by omega)),zg,List.append_assoc];rfl
  |false=>rw[cond_false,zg,cond_false,List.append_nil]
 |false=>
  simp only[Bool.not_false,cond_false,cond_true]
  rw[zw (zmA (by rw[List.length_append];omega) (by omega)),zw (zmA (by rw[List.length_append,List.length_append,List.length_singleton];omega) (by omega)),zg,List.append_assoc,List.append_assoc]
  rfl
theorem zh2{n:Int}(h1: -1000000000000≤n)(h2:n≤1000000000000)(p:Bool){acc:Str}(ha:acc.length≤80000):Qi ((n,p),acc)=some (acc++numT n p):=by
 unfold Qi numT
 simp only[ze]
 by_cases hn:n<0
 ·obtain⟨m,rfl⟩: ∃m:Nat,n= -(m:Int):=⟨n.natAbs,by omega⟩
  rw[decide_eq_true hn,cond_true,zw (zmA (by omega) (by omega)),zg,if_pos hn]
  simp only
  have e0:w64 (0 - -(m:Int))=(m:Int):=by rw[show(0 - -(m:Int))=(m:Int) by omega,zV (by omega) (by omega)]
  rw[e0,Int.natAbs_neg,Int.natAbs_natCast,←List.append_assoc]
  exact ziH (by omega) p (acc++[45]) (by rw[List.length_append,List.length_singleton];omega)
 ·obtain⟨m,rfl⟩: ∃m:Nat,n=(m:Int):=⟨n.toNat,by omega⟩
  rw[decide_eq_false hn,cond_false,zg,if_neg hn]
  simp only
  rw[Int.natAbs_natCast,List.nil_append]
  exact ziH (by omega) p acc (by omega)
theorem zzx: ∀n:Nat,n<256→(ibOr IntKind.u8 (n:Int) 32==101)=(UInt8.ofNat n==101||UInt8.ofNat n==69):=by decide+kernel
theorem zzw(c:UInt8):(ibOr IntKind.u8 (c.toNat:Int) 32==101)=(c==101||c==69):=by
 have:=zzx c.toNat (UInt8.toNat_lt c)
 rwa [UInt8.ofNat_toNat]at this
theorem zz4(c:UInt8):decide (Lib.indexByte [10,12,13,34,92] c.toNat.toUInt8≥0)=quoB c:=by
 have: ∀n:Nat,n<256→decide (Lib.indexByte [10,12,13,34,92] n.toUInt8≥0)=quoB (UInt8.ofNat n):=by decide+kernel
 have:=this c.toNat (UInt8.toNat_lt c)
 rwa [UInt8.ofNat_toNat]at this
theorem zAm(c:UInt8):(decide ((c.toNat:Int)≤32)||decide (Lib.indexByte [34,39,40,41,92,127] c.toNat.toUInt8≥0))=urB c:=by
 have: ∀n:Nat,n<256→(decide ((n:Int)≤32)||decide (Lib.indexByte [34,39,40,41,92,127] n.toUInt8≥0))=urB (UInt8.ofNat n):=by decide+kernel
 have:=this c.toNat (UInt8.toNat_lt c)
 rwa [UInt8.ofNat_toNat]at this
theorem zqU {t:zb} (h:zbA t=true) (h1:(t.kind==1)=false) (h2:(t.kind==2)=false) (h3:(t.kind==3)=false) (h4:(t.kind==4)=false) (h5:(t.kind==5)=false) (h7:(t.kind==7)=false) (h9:(t.kind==9)=false)
  (h10:(t.kind==10)=false) (h11:(t.kind==11)=false) (h12:(t.kind==12)=false):13≤t.kind∧t.kind≤24:=by
 unfold zbA at h
 simp only[h1,h2,h3,h4,h5,h7,h9,h10,h11,h12,Bool.or_self,cond_false,Bool.and_eq_true,decide_eq_true_eq]at h
 exact h.1
theorem zxu: ∀n:Nat,n<12→(zdb ()).bind (fun y35=>geti [y35.e0,y35.e1,y35.e2,y35.e3,y35.e4,y35.e5,y35.e6,y35.e7,y35.e8,y35.e9,y35.e10,y35.e11] (wu8 ((13+n:Int) - 13)))=some (zq1 (13+n:Int)):=by decide+kernel
theorem zpc(k:Int):(zq1 k).length≤4:=by
 unfold zq1
 cases k==13<;>cases k==14<;>cases k==15<;>simp only[cond_true,cond_false]<;>try (simp;done)
 all_goals (repeat' (first|(simp;done)|(apply Decidable.byContradiction;intro h;revert h;rw[Bool.cond_eq_ite];split)))
theorem zx5{t:zb}{acc:Str}(hf:zbA t=true)(h1:t.text.length≤5000)(h2:t.unit.length≤5000)(ha:acc.length≤60000):zba (t,acc)=some (acc++txS t):=by
 have one: ∀q:Str,q.length≤90000→Ze q.length 1 1=true:=fun q hq=>zmA (by omega) (by omega)
 have hnl: ∀l:Str,l.length≤5000→(Z9 l).length≤20000:=fun l hl=>by have:=zgP (l==[45]) (QD l) l;unfold Z9;omega
 unfold zba txS
 simp only[ze]
 cases k1:t.kind==1 with
 |true=>simp only[cond_true,zgW,Option.bind_some,zpg (show t.text.length≤100000 by omega) (show acc.length≤100000000 by omega)]
 |false=>
 cases k2:t.kind==2 with
 |true=>
  simp only[cond_true,cond_false,zgW,Option.bind_some,zpg (show t.text.length≤100000 by omega) (show acc.length≤100000000 by omega)]
  have:=hnl t.text h1
  rw[zw (one _ (by rw[List.length_append];omega)),List.append_assoc]
 |false=>
 cases k3:t.kind==3 with
 |true=>
  simp only[cond_true,cond_false,zgW,Option.bind_some]
  rw[zw (one _ (by omega)),zpg (by omega) (by rw[List.length_append,List.length_singleton];omega),List.append_assoc]
  rfl
 |false=>
 cases k4:t.kind==4 with
 |true=>
  simp only[cond_true,cond_false,zgW,Option.bind_some]
  cases t.flag with
  |true=>
   simp only[cond_true,zg]
   rw[zw (one _ (by omega)),zpg (by omega) (by rw[List.length_append,List.length_singleton];omega),List.append_assoc]
   rfl
  |false=>
   simp only[cond_false,zg]
   rw[zw (one _ (by omega)),show(0:Int)=((0:Nat):Int)from rfl,znj (by omega) (by rw[List.length_append,List.length_singleton];omega),List.append_assoc]
   rfl
 |false=>
 cases k5:t.kind==5 with
 |true=>
  simp only[cond_true,cond_false]
  have hml:maxLen=9223372036854775807:=rfl
  rw[zw (one _ (by omega)),zw (decide_eq_true (by omega))]
  have hel:=zgO quoB t.text
  rw[qO (zoE (p:=quoB) (l:=t.text) (acc:=acc++[34]) (by omega) (by rw[List.length_append,List.length_singleton];omega) (fun i a hi hal=> ?_) (fun a=> ?_))]
  ·rw[zw (one _ (by simp only[List.length_append,List.length_singleton];omega)),List.append_assoc,List.append_assoc]
   rfl
  ·have d1:decide ((i:Int)<(t.text.length:Int))=true:=decide_eq_true (by omega)
   have d0:decide ((0:Int)≤(i:Int))=true:=decide_eq_true (by omega)
   simp only[d1,d0,Bool.and_true,cond_true,ZR,Int.toNat_natCast,List.getElem?_eq_getElem hi,Option.bind_some,zcF,zz4]
   cases quoB t.text[i]with
   |true=>simp only[cond_true,zc8 _ (show a.length≤1000000000 by omega),Option.bind_some,zg]
   |false=>simp only[cond_false,zmI,Option.bind_some,zw (zaI (show a.length+1≤2000000000 by omega)),zg]
  ·simp only
   rw[decide_eq_false (by omega),cond_false]
 |false=>
 cases k7:t.kind==7 with
 |true=>
  simp only[cond_true,cond_false]
  have hml:maxLen=9223372036854775807:=rfl
  rw[zw (zmA (by show _+4≤_;omega) (by omega)),zw (decide_eq_true (by omega))]
  have hel:=zgO urB t.text
  rw[qO (zoE (p:=urB) (l:=t.text) (acc:=acc++[117,114,108,40]) (by omega) (by rw[List.length_append];show _+4≤_;omega) (fun i a hi hal=> ?_) (fun a=> ?_))]
  ·rw[zw (one _ (by simp only[List.length_append];show _+4+_≤_;omega)),List.append_assoc,List.append_assoc]
  ·have d1:decide ((i:Int)<(t.text.length:Int))=true:=decide_eq_true (by omega)
   have d0:decide ((0:Int)≤(i:Int))=true:=decide_eq_true (by omega)
   simp only[d1,d0,Bool.and_true,cond_true,ZR,Int.toNat_natCast,List.getElem?_eq_getElem hi,Option.bind_some,zcF]
   rw[←zAm]
   cases decide ((t.text[i].toNat:Int)≤32)with
   |true=>simp only[Bool.not_true,Zu,Option.bind_some,cond_true,Bool.true_or,zc8 _ (show a.length≤1000000000 by omega),zg]
   |false=>
    simp only[Bool.not_false,zT,Option.bind_some,cond_false,Bool.false_or]
    cases decide (Lib.indexByte [34,39,40,41,92,127] t.text[i].toNat.toUInt8≥0)with
    |true=>simp only[cond_true,zc8 _ (show a.length≤1000000000 by omega),Option.bind_some,zg]
    |false=>simp only[cond_false,zmI,Option.bind_some,zw (zaI (show a.length+1≤2000000000 by omega)),zg]
  ·simp only
   rw[decide_eq_false (by omega),cond_false]
 |false=>
 cases k9:t.kind==9 with
 |true=>
  simp only[cond_true,cond_false]
  rw[zw (zmA (by omega) (by omega))]
 |false=>
 have rng:(t.kind==10||t.kind==11||t.kind==12)=true→rngS t=true∧(!(t.unit==[])==(t.kind==12))=true:=by
  intro hk
  unfold zbA at hf
  simp only[k1,k2,k3,k4,k5,k7,k9,hk,Bool.or_self,cond_false,cond_true,Bool.and_eq_true]at hf
  exact⟨hf.1,hf.2.1⟩
 have nums:rngS t=true→ -1000000000000≤t.num∧t.num≤1000000000000:=by
  intro hr
  unfold rngS at hr
  simp only[Bool.and_eq_true,decide_eq_true_eq]at hr
  exact⟨hr.1,hr.2.1⟩
 cases k10:t.kind==10 with
 |true=>
  obtain⟨r1,r2⟩:=nums (rng (by rw[k10];rfl)).1
  simp only[cond_true,cond_false,zh2 r1 r2 _ (show acc.length≤80000 by omega),Option.bind_some]
 |false=>
 cases k11:t.kind==11 with
 |true=>
  obtain⟨r1,r2⟩:=nums (rng (by rw[k11,Bool.or_true];rfl)).1
  have hT:(numT t.num false).length≤25:=by
   have:=zi0 (m:=t.num.natAbs) (by omega) false
   unfold numT
   rw[List.length_append]
   split
   ·rw[List.length_singleton];omega
   ·rw[List.length_nil];omega
  simp only[cond_true,cond_false,zh2 r1 r2 _ (show acc.length≤80000 by omega),Option.bind_some]
  rw[zw (one _ (by rw[List.length_append];omega)),List.append_assoc]
 |false=>
 cases k12:t.kind==12 with
 |true=>
  obtain⟨hr,hu⟩:=rng (by rw[k12,Bool.or_true])
  obtain⟨r1,r2⟩:=nums hr
  rw[k12]at hu
  have hT:(numT t.num (!t.flag)).length≤25:=by
   have:=zi0 (m:=t.num.natAbs) (by omega) (!t.flag)
   unfold numT
   rw[List.length_append]
   split
   ·rw[List.length_singleton];omega
   ·rw[List.length_nil];omega
  simp only[cond_true,cond_false,zh2 r1 r2 _ (show acc.length≤80000 by omega),Option.bind_some]
  cases hun:t.unit with
  |nil=>rw[hun]at hu;exact absurd hu (by decide)
  |cons c r=>
   rw[hun,List.length_cons]at h2
   have hg:geti (c::r) 0=some c:=rfl
   have hd1:List.drop 1 (c::r)=r:=rfl
   have hlen1:decide (1≤((c::r:Str).length:Int))=true:=decide_eq_true (by rw[List.length_cons];omega)
   simp only[hg,hd1,hlen1,Bool.true_or,ZR,Option.bind_some,zzw,zex,zaz,zgW]
   have hacc:(acc++numT t.num (!t.flag)).length≤100000000:=by rw[List.length_append];omega
   have hname:=zpg (l:=c::r) (acc:=acc++numT t.num (!t.flag)) (by rw[List.length_cons];omega) hacc
   have hunit:zbF (c::r)=(bif (c==101||c==69)&&numS r&& !(List.isPrefixOf [45,45] r)then escC c++encW false 0 r else Z9 (c::r)):=rfl
   rw[hunit]
   have he:(c==101||c==69)=true→ZM ((c.toNat:Int),acc++numT t.num (!t.flag))=some (acc++numT t.num (!t.flag)++escC c):=fun _=>zc8 c (by rw[List.length_append];omega)
   cases hc:c==101||c==69 with
   |false=>
    simp only[Zu,Option.bind_some,cond_false,Bool.false_and,hname]
    rw[List.append_assoc]
   |true=>
    simp only[zT,Option.bind_some,cond_true,Bool.true_and]
    cases hn:numS r with
    |false=>
     simp only[Zu,Option.bind_some,cond_false,Bool.false_and,hname]
     rw[List.append_assoc]
    |true=>
     simp only[zT,Option.bind_some,cond_true,Bool.true_and]
     cases hp:List.isPrefixOf [45,45] r with
     |true=>
      simp only[Bool.not_true,cond_false,hname,Option.bind_some]
      rw[List.append_assoc]
     |false=>
      simp only[Bool.not_false,cond_true,he hc,Option.bind_some]
      have hesc:=zgT c
      rw[show(0:Int)=((0:Nat):Int)from rfl,znj (by omega) (by rw[List.length_append,List.length_append];omega)]
      rw[List.append_assoc,List.append_assoc]
      rfl
 |false=>
 obtain⟨hk1,hk2⟩:=zqU hf k1 k2 k3 k4 k5 k7 k9 k10 k11 k12
 obtain⟨n,hn⟩: ∃n:Nat,t.kind=13+(n:Int):=⟨(t.kind - 13).toNat,by omega⟩
 have hg:=zxu n (by omega)
 rw[←hn]at hg
 have hml:=zpc t.kind
 simp only[cond_false]
 have hm:zdb ()=some ⟨[32],[60,33,45,45],[45,45,62],[58],[59],[44],[91],[93],[40],[41],[123],[125]⟩:=rfl
 rw[hm]at hg ⊢
 simp only[Option.bind_some]at hg ⊢
 rw[hg]
 simp only[Option.bind_some]
 rw[zw (zmA (by omega) (by omega))]
end Go.Lv.VT

namespace Go.Lv.VT
set_option maxRecDepth 100000
theorem zcj{c:UInt8}(h0:c≠0)(h:c.toNat<128)(R:Str): ∃d t,escC c++R=92::d::t∧(d==10)=false∧zm (d::t)=([c],R):=by
 unfold escC
 cases hg:decide (32<c.toNat)&&decide (c.toNat<127)&& !digB c&& !alB c with
 |true=>
  have hx:qH c=false∧(c==10)=false:=by
   have: ∀n:Nat,n<256→(decide (32<(UInt8.ofNat n).toNat)&&decide ((UInt8.ofNat n).toNat<127)&& !digB (UInt8.ofNat n)&& !alB (UInt8.ofNat n))=true→qH (UInt8.ofNat n)=false∧(UInt8.ofNat n==10)=false:=by decide+kernel
   have:=this c.toNat (UInt8.toNat_lt c)
   rw[UInt8.ofNat_toNat]at this
   exact this hg
  exact⟨c,R,rfl,hx.2,by show(if qH c then _ else _)=_;rw[if_neg (by rw[hx.1];decide)]⟩
 |false=>
  obtain⟨d,t,e,hd,h10⟩:=zj5 (n:=c.toNat) (UInt8.toNat_lt c) ([32]++R)
  refine⟨d,t,by rw[cond_false,List.cons_append,List.append_assoc,e],h10,?_⟩
  have hh:=zuY (n:=c.toNat) (UInt8.toNat_lt c) R
  rw[show(32::R:Str)=[32]++R from rfl,e]at hh
  show(if qH d then(zd2 (hexes 6 0 (d::t)).1,unsp (hexes 6 0 (d::t)).2)else _)=_
  rw[if_pos hd,hh,zqb h0 h]
  rfl
theorem zAn(n:Nat):zd2 n≠[]:=by
 unfold zd2 zpa
 repeat' split
 all_goals simp
theorem zsZ(r:Str):(zm r).1≠[]:=by
 cases r with
 |nil=>show zpa≠[];decide
 |cons c r=>
  show(if qH c then(zd2 (hexes 6 0 (c::r)).1,unsp (hexes 6 0 (c::r)).2)else([c],r)).1≠[]
  split
  ·exact zAn _
  ·simp
theorem zhg{x:Str}(h:(zl x).1=[]):(zl x).2=x:=by
 cases x with
 |nil=>rw[qz]
 |cons c r=>
  rw[zC]at h ⊢
  split
  ·rename_i hl;rw[if_pos hl]at h;cases h
  ·rename_i hl
   rw[if_neg hl]at h
   split
   ·rename_i he;rw[if_pos he]at h;exact absurd (List.append_eq_nil_iff.1 h).1 (zsZ r)
   ·rfl
theorem Qt{c:UInt8}{r:Str}(h:Zh (c::r)=true):c≠0∧Zh r=true:=by
 unfold Zh at h ⊢
 rw[List.all_cons,Bool.and_eq_true]at h
 exact⟨by rintro rfl;exact absurd h.1 (by decide),h.2⟩
theorem zkG{dash:Bool}(R:Str): ∀(k:Nat) (l:Str),Zh l=true→(dash=true→ ∀c∈l,c.toNat<128)→zl (encW dash k l++R)=(l++(zl R).1,(zl R).2)
 |_,[],_,_=>by rw[encW];rfl
 |k,c::r,h,hd=>by
  obtain⟨h1,h2⟩:=Qt h
  rw[encW,List.append_assoc,zvW h1 (fun e=>hd e c (List.mem_cons_self ..)),zkG R (k - 1) r h2 (fun e x hx=>hd e x (List.mem_cons_of_mem _ hx))]
  rfl
theorem zaB{l:Str}(R:Str)(h:Zh l=true):zl (Z9 l++R)=(l++(zl R).1,(zl R).2):=by
 refine zkG R _ _ h (fun e c hc=> ?_)
 rw[beq_iff_eq.1 e,List.mem_singleton]at hc
 subst hc;decide
theorem zpJ{l:Str}(R:Str)(k:Nat)(h:Zh l=true):zl (encW false k l++R)=(l++(zl R).1,(zl R).2):=zkG R k l h (fun e=>by cases e)
theorem zvR(c:UInt8):(quoB c=true→c.toNat<128)∧(quoB c=false→(c==34)=false∧(c==10)=false∧(c==92)=false):=by
 have: ∀n:Nat,n<256→(quoB (UInt8.ofNat n)=true→(UInt8.ofNat n).toNat<128)∧(quoB (UInt8.ofNat n)=false→(UInt8.ofNat n==34)=false∧(UInt8.ofNat n==10)=false∧(UInt8.ofNat n==92)=false):=by decide+kernel
 have:=this c.toNat (UInt8.toNat_lt c)
 rwa [UInt8.ofNat_toNat]at this
theorem zsm(x:Str): ∀(l:Str),Zh l=true→zW 34 (encB quoB l++34::x)=(some l,x)
 |[],_=>by rw[encB,List.nil_append,Qa,if_pos (by decide)]
 |c::r,h=>by
  obtain⟨h1,h2⟩:=Qt h
  have ih:=zsm x r h2
  obtain⟨f1,f2⟩:=zvR c
  rw[encB,List.append_assoc]
  cases hq:quoB c with
  |true=>
   obtain⟨d,t,e1,e2,e3⟩:=zcj h1 (f1 hq) (encB quoB r++34::x)
   rw[cond_true,e1,Qa,if_neg (by decide),if_neg (by decide),if_pos (by decide),show(d::t).isEmpty=false from rfl,if_neg (by decide),show atS (d::t) 0=d from rfl,e2,if_neg (by decide),e3]
   simp only
   rw[ih];rfl
  |false=>
   obtain⟨g1,g2,g3⟩:=f2 hq
   rw[cond_false,List.singleton_append,Qa,g1,if_neg (by decide),g2,if_neg (by decide),g3,if_neg (by decide),ih]
   rfl
theorem zsB(c:UInt8):(urB c=true→c.toNat<128)∧(urB c=false→(c==41)=false∧spB c=false∧(c==34||c==39||c==40||unB c)=false∧(c==92)=false∧(c==34)=false∧(c==39)=false):=by
 have: ∀n:Nat,n<256→(urB (UInt8.ofNat n)=true→(UInt8.ofNat n).toNat<128)∧(urB (UInt8.ofNat n)=false→(UInt8.ofNat n==41)=false∧spB (UInt8.ofNat n)=false∧(UInt8.ofNat n==34||UInt8.ofNat n==39||UInt8.ofNat n==40||unB (UInt8.ofNat n))=false∧(UInt8.ofNat n==92)=false∧(UInt8.ofNat n==34)=false∧(UInt8.ofNat n==39)=false):=by decide+kernel
 have:=this c.toNat (UInt8.toNat_lt c)
 rwa [UInt8.ofNat_toNat]at this
theorem zsn(x:Str): ∀(l:Str),Zh l=true→urlS (encB urB l++41::x)=(some l,x)
 |[],_=>by rw[encB,List.nil_append,zby,if_pos (by decide)]
 |c::r,h=>by
  obtain⟨h1,h2⟩:=Qt h
  have ih:=zsn x r h2
  obtain⟨f1,f2⟩:=zsB c
  rw[encB,List.append_assoc]
  cases hq:urB c with
  |true=>
   obtain⟨d,t,e1,e2,e3⟩:=zcj h1 (f1 hq) (encB urB r++41::x)
   have he:escS (92::d::t)=true:=by unfold escS;rw[show atS (92::d::t) 1=d from rfl,e2];rfl
   rw[cond_true,e1,zby,if_neg (by decide),if_neg (by decide),he,if_neg (by decide),if_pos (by decide),e3]
   simp only
   rw[ih];rfl
  |false=>
   obtain⟨g1,g2,g3,g4,_,_⟩:=f2 hq
   rw[cond_false,List.singleton_append,zby,g1,if_neg (by decide),g2,if_neg (by decide),g3,g4,Bool.false_and,Bool.or_false,if_neg (by decide),if_neg (by decide),ih]
   rfl
theorem zyf(x:Str)(l:Str)(h:Zh l=true):past spB (encB urB l++41::x)=encB urB l++41::x∧(atS (encB urB l++41::x) 0==34||atS (encB urB l++41::x) 0==39)=false:=by
 cases l with
 |nil=>exact⟨rfl,rfl⟩
 |cons c r=>
  obtain⟨h1,h2⟩:=Qt h
  obtain⟨f1,f2⟩:=zsB c
  rw[encB,List.append_assoc]
  cases hq:urB c with
  |true=>
   obtain⟨d,t,e1,e2,e3⟩:=zcj h1 (f1 hq) (encB urB r++41::x)
   rw[cond_true,e1]
   exact⟨rfl,rfl⟩
  |false=>
   obtain⟨g1,g2,g3,g4,g5,g6⟩:=f2 hq
   rw[cond_false,List.singleton_append]
   refine⟨by rw[past,g2];rfl,?_⟩
   show(c==34||c==39)=false
   rw[g5,g6];rfl
theorem zzS{n:Int}{p:Bool}:(partT (n.natAbs%1000) p).isEmpty=((n.natAbs%1000==0)&& !p):=(zgm (r:=n.natAbs%1000) (by omega) p).2.2.2.2
def sgT(n:Int):Str:=if n<0 then [45]else []
theorem zob(n:Int)(p:Bool):numT n p=sgT n++(Lib.decDigits (n.natAbs / 1000)++dotS (if(partT (n.natAbs%1000) p).isEmpty then none else some (partT (n.natAbs%1000) p))):=by
 have h:=(zgm (r:=n.natAbs%1000) (by omega) p).2.2.2.1
 unfold numT zbL sgT
 rw[h]
 cases (partT (n.natAbs%1000) p).isEmpty with
 |true=>rfl
 |false=>rfl
theorem q2_T(n:Int)(p:Bool)(x:Str):q2S (numT n p++x)=past digB (dotS (if(partT (n.natAbs%1000) p).isEmpty then none else some (partT (n.natAbs%1000) p))++x):=by
 obtain⟨d1,d2,d3⟩:=zhN (n.natAbs / 1000)
 obtain⟨c,r,hc,hcd⟩:=zgN (n.natAbs / 1000)
 rw[zob]
 generalize dotS _=t
 unfold q2S
 have hu:unsign ((sgT n++(Lib.decDigits (n.natAbs / 1000)++t))++x)=Lib.decDigits (n.natAbs / 1000)++(t++x):=by
  unfold sgT
  split
  ·rw[List.append_assoc,List.singleton_append,List.append_assoc];rfl
  ·rw[List.nil_append,List.append_assoc,hc,List.cons_append]
   unfold unsign zaE
   rw[show atS (c::(r++(t++x))) 0=c from rfl,beq_eq_false_iff_ne.2 (QC hcd).2.1,beq_eq_false_iff_ne.2 (QC hcd).1]
   rfl
 rw[hu,zjc _ _ d1]
theorem znB{n:Int}{p:Bool}:(partT (n.natAbs%1000) p).all digB=true:=(zgm (r:=n.natAbs%1000) (by omega) p).1
theorem zqG{n:Int}{p:Bool}(h:(partT (n.natAbs%1000) p).isEmpty=true)(x:Str):zA (numT n p++x)=(match expS (zK (past digB x)).1 with|some r=>(r,false)|none=>zK (past digB x)):=by
 rw[Qn,q2_T,h];rfl
theorem zuF{n:Int}{p:Bool}(h:(partT (n.natAbs%1000) p).isEmpty=false)(x:Str):zA (numT n p++x)=(match expS (past digB x)with|some r=>(r,false)|none=>(past digB x,false)):=by
 obtain⟨c,r,hp⟩: ∃c r,partT (n.natAbs%1000) p=c::r:=by
  cases hh:partT (n.natAbs%1000) p with
  |nil=>rw[hh]at h;cases h
  |cons c r=>exact⟨c,r,rfl⟩
 have hd:=znB (n:=n) (p:=p)
 rw[Qn,q2_T,h]
 have hq:past digB (dotS (some (partT (n.natAbs%1000) p))++x)=46::(partT (n.natAbs%1000) p++x):=rfl
 rw[show(if false=true then none else some (partT (n.natAbs%1000) p))=some (partT (n.natAbs%1000) p)from rfl,hq]
 have hw:zK (46::(partT (n.natAbs%1000) p++x))=(past digB x,false):=by
  have hc:digB c=true:=by rw[hp,List.all_cons,Bool.and_eq_true]at hd;exact hd.1
  unfold zK
  rw[show atS (46::(partT (n.natAbs%1000) p++x)) 1=c by rw[hp];rfl,hc,show(atS (46::(partT (n.natAbs%1000) p++x)) 0==46&&true)=true from rfl,if_pos rfl]
  rw[show(46::(partT (n.natAbs%1000) p++x)).drop 1=partT (n.natAbs%1000) p++x from rfl,zjc _ _ hd]
 rw[hw]
 all_goals (cases expS (past digB x)<;>rfl)
theorem zA3(n:Int)(p:Bool)(x:Str):nbS (numT n p++x)=true:=by
 obtain⟨c,r,hc,hcd⟩:=zgN (n.natAbs / 1000)
 rw[zob,hc]
 unfold nbS
 have hu:unsign ((sgT n++(c::r++dotS (if(partT (n.natAbs%1000) p).isEmpty then none else some (partT (n.natAbs%1000) p))))++x)=c::(r++dotS (if(partT (n.natAbs%1000) p).isEmpty then none else some (partT (n.natAbs%1000) p))++x):=by
  unfold sgT
  split
  ·rfl
  ·unfold unsign zaE
   show(if(c==43||c==45)then _ else _)=_
   rw[beq_eq_false_iff_ne.2 (QC hcd).2.1,beq_eq_false_iff_ne.2 (QC hcd).1]
   rfl
 rw[hu]
 unfold undot
 rw[show atS (c::(r++dotS (if(partT (n.natAbs%1000) p).isEmpty then none else some (partT (n.natAbs%1000) p))++x)) 0=c from rfl,beq_eq_false_iff_ne.2 (QC hcd).2.2.1,if_neg (by decide)]
 exact hcd
theorem zAo{n:Int}(h1: -1000000000000≤n)(h2:n≤1000000000000){p:Bool}{x:Str}(he:(zA (numT n p++x)).1=x):(numP (numT n p++x)).val=n:=by
 have h:=zku (numT n p++x)
 rw[he]at h
 have hok:=zvs (zA3 n p x)
 have hl:=(zwG h1 h2 p).1
 have he2:=zlB h1 h2 p
 generalize numP (numT n p++x)=N at h hok ⊢
 have ht:N.txt=numT n p:=(List.append_left_inj x).1 h
 rw[←ht]at he2 hl
 have h3:=ze5 hok (Nat.le_trans hl (by decide))
 rw[he2]at h3
 exact(Option.some.inj h3).symm
theorem zjo(n:Int)(p:Bool)(x:Str): ∃c r,numT n p++x=c::r∧(c==45||digB c)=true∧spB c=false∧(c==34||c==39)=false∧(c==35)=false∧c≠47:=by
 obtain⟨c,r,hc,hcd⟩:=zgN (n.natAbs / 1000)
 have key: ∀d:UInt8,(d==45||digB d)=true→spB d=false∧(d==34||d==39)=false∧(d==35)=false∧d≠47:=by
  intro d
  have: ∀n:Nat,n<256→(UInt8.ofNat n==45||digB (UInt8.ofNat n))=true→spB (UInt8.ofNat n)=false∧(UInt8.ofNat n==34||UInt8.ofNat n==39)=false∧(UInt8.ofNat n==35)=false∧UInt8.ofNat n≠47:=by decide+kernel
  have:=this d.toNat (UInt8.toNat_lt d)
  rwa [UInt8.ofNat_toNat]at this
 rw[zob,hc]
 unfold sgT
 split
 ·exact⟨45,_,rfl,rfl,key 45 rfl⟩
 ·have:(c==45||digB c)=true:=by rw[hcd,Bool.or_true]
  exact⟨c,_,rfl,this,key c this⟩
theorem zpj(n:Int)(p:Bool)(x:Str):Zp (numT n p++x)=zz (numT n p++x):=by
 obtain⟨c,r,hc,h1,h2,h3,h4,h5⟩:=zjo n p x
 have hnb:=zA3 n p x
 rw[hc]at hnb ⊢
 rw[zb4,h2,if_neg (by decide),h3,if_neg (by decide),h4,Bool.false_and,if_neg (by decide),hnb,if_pos rfl]
end Go.Lv.VT

namespace Go.Lv.VT
set_option maxRecDepth 100000
inductive zfv:zb→Prop
 |cId (l:Str) (h0:l≠[]) (h:Zh l=true):zfv ⟨1,l,0,[],false⟩
 |cFn (l:Str) (h0:l≠[]) (h:Zh l=true):zfv ⟨2,l,0,[],false⟩
 |cAt (l:Str) (h0:l≠[]) (h:Zh l=true):zfv ⟨3,l,0,[],false⟩
 |cHash (l:Str) (f:Bool) (h0:l≠[]) (h:Zh l=true) (hb:f=true∨zjv l=true):zfv ⟨4,l,0,[],f⟩
 |cStr (l:Str) (h:Zh l=true):zfv ⟨5,l,0,[],false⟩
 |cUrl (l:Str) (h:Zh l=true):zfv ⟨7,l,0,[],false⟩
 |cDel (c:UInt8) (h:zci c.toNat=true):zfv ⟨9,[c],0,[],false⟩
 |cNum (n:Int) (f:Bool) (h1: -1000000000000≤n) (h2:n≤1000000000000) (hf:f=true→Int.tmod n 1000=0):zfv ⟨10,[],n,[],f⟩
 |cPct (n:Int) (h1: -1000000000000≤n) (h2:n≤1000000000000):zfv ⟨11,[],n,[],false⟩
 |cDim (n:Int) (u:Str) (f:Bool) (h1: -1000000000000≤n) (h2:n≤1000000000000) (hf:f=true→Int.tmod n 1000=0) (h0:u≠[]) (h:Zh u=true):zfv ⟨12,[],n,u,f⟩
 |cMark (k:Int) (h1:13≤k) (h2:k≤24):zfv ⟨k,[],0,[],false⟩
theorem zlZ{t:zb}(h:zbA t=true):zfv t:=by
 obtain⟨k,l,n,u,f⟩:=t
 unfold zbA at h
 simp only at h
 by_cases h1:(k==1||k==2||k==3)=true
 ·rw[h1,cond_true]at h
  simp only[Bool.and_eq_true,Bool.not_eq_true',beq_eq_false_iff_ne,beq_iff_eq]at h
  obtain⟨a,b,rfl,rfl,rfl⟩:=h
  simp only[Bool.or_eq_true,beq_iff_eq]at h1
  rcases h1 with(rfl|rfl)|rfl
  ·exact .cId l a b
  ·exact .cFn l a b
  ·exact .cAt l a b
 ·rw[Bool.not_eq_true]at h1
  rw[h1,cond_false]at h
  by_cases h4:(k==4)=true
  ·rw[h4,cond_true]at h
   simp only[Bool.and_eq_true,Bool.not_eq_true',beq_eq_false_iff_ne,beq_iff_eq,Bool.or_eq_true]at h
   obtain⟨a,b,c,rfl,rfl⟩:=h
   rw[beq_iff_eq]at h4
   subst h4
   exact .cHash l f a b c
  ·rw[Bool.not_eq_true]at h4
   rw[h4,cond_false]at h
   by_cases h5:(k==5||k==7)=true
   ·rw[h5,cond_true]at h
    simp only[Bool.and_eq_true,Bool.not_eq_true',beq_iff_eq]at h
    obtain⟨b,rfl,rfl,rfl⟩:=h
    simp only[Bool.or_eq_true,beq_iff_eq]at h5
    rcases h5 with rfl|rfl
    ·exact .cStr l b
    ·exact .cUrl l b
   ·rw[Bool.not_eq_true]at h5
    rw[h5,cond_false]at h
    by_cases h9:(k==9)=true
    ·rw[h9,cond_true]at h
     simp only[Bool.and_eq_true,Bool.not_eq_true',beq_iff_eq]at h
     obtain⟨b,rfl,rfl,rfl⟩:=h
     rw[beq_iff_eq]at h9
     subst h9
     unfold delS at b
     split at b
     ·exact .cDel _ b
     ·cases b
    ·rw[Bool.not_eq_true]at h9
     rw[h9,cond_false]at h
     by_cases h10:(k==10||k==11||k==12)=true
     ·rw[h10,cond_true]at h
      unfold rngS at h
      simp only[Bool.and_eq_true,decide_eq_true_eq,Bool.or_eq_true,Bool.not_eq_true',beq_iff_eq]at h
      obtain⟨⟨a1,a2,a3⟩,a4,a5,a6,rfl⟩:=h
      have hf:f=true→Int.tmod n 1000=0:=by
       intro e
       rcases a3 with a3|a3
       ·rw[e]at a3;cases a3
       ·exact a3
      simp only[Bool.or_eq_true,beq_iff_eq]at h10
      rcases h10 with(rfl|rfl)|rfl
      ·have:u=[]:=by
        cases u with
        |nil=>rfl
        |cons c r=>rw[show((c::r:Str)==[])=false from rfl]at a4;exact absurd a4 (by decide)
       subst this
       exact .cNum n f a1 a2 hf
      ·have:u=[]:=by
        cases u with
        |nil=>rfl
        |cons c r=>rw[show((c::r:Str)==[])=false from rfl]at a4;exact absurd a4 (by decide)
       subst this
       have:f=false:=by
        rcases a6 with a6|a6
        ·exact absurd a6 (by decide)
        ·exact a6
       subst this
       exact .cPct n a1 a2
      ·have:u≠[]:=by rintro rfl;exact absurd a4 (by decide)
       exact .cDim n u f a1 a2 hf this a5
     ·rw[Bool.not_eq_true]at h10
      rw[h10,cond_false]at h
      simp only[Bool.and_eq_true,Bool.not_eq_true',decide_eq_true_eq,beq_iff_eq]at h
      obtain⟨⟨a1,a2⟩,rfl,rfl,rfl,rfl⟩:=h
      exact .cMark k a1 a2
def neu(x:Str):Prop:=x=[]∨ ∃y,x=47::y
theorem zAC{x:Str}(hx:neu x)(c:UInt8)(r:Str):brS c (r++x)=brS c r:=by
 rcases hx with rfl|⟨y,rfl⟩
 ·rw[List.append_nil]
 ·exact zAD c r y
theorem zse{x:Str}(hx:neu x)(q:Str):nmS (q++x)=nmS q:=by
 rcases hx with rfl|⟨y,rfl⟩
 ·rw[List.append_nil]
 ·exact zvp q y
theorem zhf{x:Str}(hx:neu x):zl x=([],x):=by
 rcases hx with rfl|⟨y,rfl⟩
 ·exact qz
 ·rw[zC,if_neg (by decide),show escS (47::y)=false from rfl,if_neg (by decide)]
theorem zsg{p:UInt8→Bool}(h:p 47=false){x:Str}(hx:neu x):past p x=x:=by
 rcases hx with rfl|⟨y,rfl⟩
 ·rfl
 ·rw[past,h];rfl
theorem zAy{x:Str}(hx:neu x):atS x 0=0∨atS x 0=47:=by
 rcases hx with rfl|⟨y,rfl⟩
 ·exact .inl rfl
 ·exact .inr rfl
theorem ztg(c:UInt8)(r:Str):zlj (c::r)=((c==101||c==69)&&numS r&& !(List.isPrefixOf [45,45] r)):=rfl
theorem zvr(b:UInt8)(r:Str):numS (b::r)=bif b==45 then !(r==[])&&digN (r.headD 0).toNat else digN b.toNat:=rfl
theorem zeA{c:UInt8}{r:Str}(h:zlj (c::r)=true):c=101∨c=69:=by
 unfold zlj at h
 rw[Bool.and_eq_true,Bool.and_eq_true,Bool.or_eq_true,beq_iff_eq,beq_iff_eq]at h
 exact h.1.1
theorem zw8{d:UInt8}{t:Str}(h:(d==10)=false):escS (92::d::t)=true:=by
 unfold escS
 rw[show atS (92::d::t) 1=d from rfl,h];rfl
theorem zb7(c:UInt8)(r:Str):zbF (c::r)=bif zlj (c::r)then escC c++encW false 0 r else Z9 (c::r):=rfl
theorem zik{w:Str}(h0:w≠[])(h:Zh w=true)(x:Str):zl (zbF w++x)=(w++(zl x).1,(zl x).2):=by
 cases w with
 |nil=>exact absurd rfl h0
 |cons c r=>
  obtain⟨h1,h2⟩:=Qt h
  rw[zb7]
  cases he:zlj (c::r)with
  |true=>
   have hc:c.toNat<128:=by rcases zeA he with rfl|rfl<;>decide
   rw[cond_true,List.append_assoc,zsl h1 hc,zpJ x 0 h2];rfl
  |false=>rw[cond_false];exact zaB x h
theorem zrt{w:Str}(h0:w≠[])(h:Zh w=true):nmS (zbF w)=true:=by
 cases w with
 |nil=>exact absurd rfl h0
 |cons c r=>
  obtain⟨h1,h2⟩:=Qt h
  rw[zb7]
  cases he:zlj (c::r)with
  |true=>
   have hc:c.toNat<128:=by rcases zeA he with rfl|rfl<;>decide
   obtain⟨d,t,e1,e2,_⟩:=zcj h1 hc (encW false 0 r)
   rw[cond_true,e1]
   exact zyF rfl (zw8 e2)
  |false=>rw[cond_false];exact zdR (by simp)
theorem znp{q:Str}(h:nmS q=true):q≠[]:=by rintro rfl;exact absurd h (by decide)
theorem zqL{q:Str}(h:nmS q=true)(x:Str):past digB (q++x)=q++x∧zK (q++x)=(q++x,true):=by
 obtain⟨_,_,_,_,_,_,_,_,h46,hdg,_⟩:=zoT (zto h)
 cases q with
 |nil=>exact absurd rfl (znp h)
 |cons c r=>
  refine⟨by rw[List.cons_append,past,show digB c=false from hdg];rfl,?_⟩
  unfold zK
  rw[show atS ((c::r)++x) 0=c from rfl,show(c==46)=false from h46];rfl
theorem zsz{w:Str}(h0:w≠[])(h:Zh w=true)(x:Str):expS (zbF w++x)=none∨ ∃e s,(e=101∨e=69)∧(s=[]∨s=[45])∧w=e::s∧zbF w=e::s:=by
 cases w with
 |nil=>exact absurd rfl h0
 |cons c r=>
  obtain⟨h1,h2⟩:=Qt h
  have he92: ∀t:Str,expS (92::t)=none:=fun t=>rfl
  cases he:zlj (c::r)with
  |true=>
   left
   have hc:c.toNat<128:=by rcases zeA he with rfl|rfl<;>decide
   obtain⟨d,t,e1,e2,_⟩:=zcj h1 hc (encW false 0 r++x)
   have:zbF (c::r)++x=92::d::t:=by rw[zb7,he,cond_true,List.append_assoc,e1]
   rw[this];exact he92 _
  |false=>
   have hu:zbF (c::r)=Z9 (c::r):=by rw[zb7,he,cond_false]
   rw[hu]
   have hn:Z9 (c::r)=pcW ((c::r:Str)==[45]) (QD (c::r)) c++encW ((c::r:Str)==[45]) (QD (c::r) - 1) r:=rfl
   obtain⟨d,t,e,hd⟩:=zjd (dash:=(c::r:Str)==[45]) (k:=QD (c::r)) (by unfold QD;split<;>omega) c (encW ((c::r:Str)==[45]) (QD (c::r) - 1) r)
   rw[hn,e]
   rcases hd with⟨rfl,h3⟩|⟨rfl,h3,h4,h5,h6⟩
   ·left;exact he92 _
   ·by_cases hee:d=101∨d=69
    ·have hf:QD (d::r)=1:=by rcases hee with rfl|rfl<;>rfl
     have hdash:((d::r:Str)==[45])=false:=h3
     rw[hdash,hf]at h6
     have h6':t=encW false 0 r:=h6
     have hee':(d==101||d==69)=true:=by rcases hee with rfl|rfl<;>rfl
     cases r with
     |nil=>
      right
      rw[encW]at h6'
      exact⟨d,[],hee, .inl rfl,rfl,by rw[h6']⟩
     |cons d2 r2=>
      obtain⟨g1,g2⟩:=Qt h2
      have hnum:numS (d2::r2)=false:=by
       cases hq:numS (d2::r2)with
       |false=>rfl
       |true=>
        exfalso
        rw[ztg,hee',hq,Bool.true_and,Bool.true_and]at he
        have hp:List.isPrefixOf [45,45] (d2::r2)=true:=by
         cases hh:List.isPrefixOf [45,45] (d2::r2)with
         |true=>rfl
         |false=>rw[hh]at he;cases he
        obtain⟨z,hz⟩:=List.isPrefixOf_iff_prefix.1 hp
        rw[←hz]at hq
        exact absurd hq (by show numS (45::45::z)≠true;unfold numS;simp[digN])
      have hgoal: ∀q:Str,digB (atS (unsign q) 0)=false→expS (d::q)=none:=by
       intro q hq
       rw[zcD]
       show((d==101||d==69)&&digB (atS (unsign q) 0))=false
       rw[hq,Bool.and_false]
      have hpc:encW false 0 (d2::r2)=pcW false 0 d2++encW false 0 r2:=rfl
      by_cases h45:d2=45
      ·subst h45
       have hp1:pcW false 0 45=[45]:=rfl
       cases r2 with
       |nil=>
        right
        rw[hpc,hp1,encW]at h6'
        exact⟨d,[45],hee, .inr rfl,rfl,by rw[h6'];rfl⟩
       |cons d3 r3=>
        left
        obtain⟨k1,k2⟩:=Qt g2
        have hdg:digB d3=false:=by
         have:digN d3.toNat=false:=by
          have:=hnum
          unfold numS at this
          simpa using this
         exact this
        rw[List.cons_append]
        refine hgoal _ ?_
        rw[h6',hpc,hp1]
        show digB (atS (encW false 0 (d3::r3)++x) 0)=false
        rw[show encW false 0 (d3::r3)=pcW false 0 d3++encW false 0 r3 from rfl]
        unfold pcW
        cases hl:letB d3 with
        |true=>exact hdg
        |false=>
         rw[Bool.false_and,Bool.false_and,cond_false]
         have hc:d3.toNat<128:=by
          by_cases hc:d3.toNat<128
          ·exact hc
          ·rw[(zqW hc).1]at hl;cases hl
         obtain⟨d4,t4,e4,_,_⟩:=zcj k1 hc (encW false 0 r3++x)
         rw[List.append_assoc,e4];rfl
      ·left
       have hdg:digB d2=false:=by
        have:digN d2.toNat=false:=by
         have:=hnum
         rw[zvr,beq_eq_false_iff_ne.2 h45,cond_false]at this
         exact this
        exact this
       rw[List.cons_append]
       refine hgoal _ ?_
       rw[h6',hpc]
       unfold pcW
       cases hl:letB d2 with
       |true=>
        have hs:zaE d2=false:=by
         unfold zaE
         rw[beq_eq_false_iff_ne.2 h45,Bool.or_false,beq_eq_false_iff_ne]
         rintro rfl
         exact absurd hl (by decide)
        show digB (atS (if zaE d2 then _ else d2::_) 0)=false
        rw[hs,if_neg (by decide)]
        exact hdg
       |false=>
        rw[Bool.false_and,Bool.false_and,cond_false]
        have hc:d2.toNat<128:=by
         by_cases hc:d2.toNat<128
         ·exact hc
         ·rw[(zqW hc).1]at hl;cases hl
        obtain⟨d4,t4,e4,_,_⟩:=zcj g1 hc (encW false 0 r2++x)
        rw[List.append_assoc,e4];rfl
    ·left
     rw[zcD]
     have:(d==101||d==69)=false:=by
      rw[Bool.or_eq_false_iff,beq_eq_false_iff_ne,beq_eq_false_iff_ne]
      exact not_or.1 hee
     rw[List.cons_append,show atS (d::(t++x)) 0=d from rfl,this,Bool.false_and]
theorem ziL{w:Str}(h0:w≠[])(h:Zh w=true){x:Str}(hx:neu x):expS (zbF w++x)=none:=by
 rcases zsz h0 h x with h1|⟨e,s,he,hs,_,hu⟩
 ·exact h1
 ·rw[hu,zcD]
  have hd:digB (atS (unsign (s++x)) 0)=false:=by
   rcases hs with rfl|rfl
   ·rcases hx with rfl|⟨y,rfl⟩<;>rfl
   ·rcases hx with rfl|⟨y,rfl⟩<;>rfl
  show((e==101||e==69)&&digB (atS (unsign (s++x)) 0))=false
  rw[hd,Bool.and_false]
theorem zj0{n:Int}{f:Bool}(hf:f=true→Int.tmod n 1000=0):(partT (n.natAbs%1000) (!f)).isEmpty=f:=by
 rw[zzS,Bool.not_not]
 cases f with
 |false=>rw[Bool.and_false]
 |true=>
  have:=hf rfl
  have h2:n.natAbs%1000=0:=by
   have h3:(Int.tmod n 1000).natAbs=n.natAbs%1000:=Int.natAbs_tmod n 1000
   rw[this]at h3
   exact h3.symm
  rw[h2];rfl
theorem zrO{n:Int}{p:Bool}{z:Str}(h1:past digB z=z)(h2:zK z=(z,true))(h3:expS z=none):zA (numT n p++z)=(z,(partT (n.natAbs%1000) p).isEmpty):=by
 cases hp:(partT (n.natAbs%1000) p).isEmpty with
 |true=>rw[zqG hp,h1,h2];simp only[h3]
 |false=>rw[zuF hp,h1];simp only[h3]
theorem zzG{x:Str}(hx:neu x):past digB x=x∧zK x=(x,true)∧expS x=none:=by
 rcases hx with rfl|⟨y,rfl⟩
 ·exact⟨rfl,rfl,rfl⟩
 ·exact⟨rfl,rfl,rfl⟩
end Go.Lv.VT

namespace Go.Lv.VT
set_option maxRecDepth 100000
theorem ztt{q:Str}(h:[45,45,62].isPrefixOf q=true): ∃t,(zl q).2=62::t:=by
 obtain⟨t,rfl⟩:=List.isPrefixOf_iff_prefix.1 h
 refine⟨t,?_⟩
 rw[show [45,45,62]++t=45::45::62::t from rfl,zC,if_pos (by decide),zC,if_pos (by decide),zC,if_neg (by decide),if_neg (by unfold escS;rw[show atS (62::t) 0=62 from rfl];simp)]
theorem zmG{c:UInt8}{r:Str}(h:nmS (c::r)=true)(h3: ∀t,(zl (c::r)).2≠62::t):brS c r=7:=by
 obtain⟨a1,a2,a3,a4,a5,a6,a7,a8,a9,a10,a11⟩:=zoT (zto h)
 have hp:[45,45,62].isPrefixOf (c::r)=false:=by
  cases hh:[45,45,62].isPrefixOf (c::r)with
  |false=>rfl
  |true=>obtain⟨t,e⟩:=ztt hh;exact absurd e (h3 t)
 have hc:atS (c::r) 0=c:=rfl
 rw[hc]at a1 a2 a3 a4 a5 a7
 unfold brS
 rw[a1,if_neg (by decide),a2,a3,if_neg (by decide),a4,Bool.false_and,if_neg (by decide),zA6 h,if_neg (by decide),hp,if_neg (by decide),zz3 (q:=c::r) (m:=[33,45,45]) (show(60:UInt8)≠0 by decide) a7,if_neg (by decide),a5,Bool.false_and,if_neg (by decide),h,if_pos rfl]
theorem zvo{q z:Str}(h:nmS q=true)(hz:atS z 0≠10):nmS (q++z)=true:=by
 have hz':(atS z 0==10)=false:=beq_eq_false_iff_ne.2 hz
 match q with
 |[]=>exact absurd h (by decide)
 |[c]=>
  unfold nmS at h ⊢
  have h0:atS ([c]++z) 0=c:=rfl
  rw[show atS [c] 0=c from rfl]at h
  rw[h0]
  cases h45:c==45 with
  |true=>rw[h45,if_pos rfl]at h;exact absurd (show(fstB 0||(0:UInt8)==45||escS [])=true from h) (by decide)
  |false=>
   rw[h45,if_neg (by decide)]at h
   rw[if_neg (by decide)]
   unfold escS at h ⊢
   rw[show atS [c] 0=c from rfl,show atS [c] 1=0 from rfl]at h
   rw[h0,show atS ([c]++z) 1=atS z 0 from rfl,hz']
   exact h
 |c::d::t=>
  unfold nmS at h ⊢
  have h0:atS ((c::d::t)++z) 0=c:=rfl
  have h1:atS ((c::d::t)++z) 1=d:=rfl
  have h2:((c::d::t)++z).drop 1=(d::t)++z:=rfl
  rw[show atS (c::d::t) 0=c from rfl,show atS (c::d::t) 1=d from rfl,show(c::d::t:Str).drop 1=d::t from rfl]at h
  rw[h0,h1,h2]
  cases h45:c==45 with
  |true=>
   rw[h45,if_pos rfl]at h
   rw[if_pos rfl]
   cases t with
   |nil=>
    unfold escS at h ⊢
    rw[show atS [d] 0=d from rfl,show atS [d] 1=0 from rfl]at h
    rw[show atS ([d]++z) 0=d from rfl,show atS ([d]++z) 1=atS z 0 from rfl,hz']
    exact h
   |cons e t=>exact h
  |false=>
   rw[h45,if_neg (by decide)]at h
   rw[if_neg (by decide)]
   exact h
theorem znk(x:Str):zl (40::x)=([],40::x):=by
 rw[zC,if_neg (by decide),if_neg (by unfold escS;rw[show atS (40::x) 0=40 from rfl];simp)]
theorem zvk{l:Str}(h:Zh l=true)(x:Str):zl (Z9 l++40::x)=(l,40::x):=by rw[zaB _ h,znk,List.append_nil]
theorem za8{q:Str}(h:q≠[]): ∃c r,q=c::r:=by
 cases q with
 |nil=>exact absurd rfl h
 |cons c r=>exact⟨c,r,rfl⟩
def zfx(f:Bool)(l:Str):Str:=bif f then Z9 l else encW false 0 l
theorem zl5{f:Bool}{l:Str}(h:Zh l=true)(x:Str):zl (zfx f l++x)=(l++(zl x).1,(zl x).2):=by
 cases f with
 |true=>exact zaB x h
 |false=>exact zpJ x 0 h
theorem zuX{f:Bool}{l:Str}(h0:l≠[])(h:Zh l=true)(hb:f=true∨zjv l=true):(letB (atS (zfx f l) 0)||escS (zfx f l))=true∧(f=true→nmS (zfx f l)=true)∧(f=false→nmS (zfx f l)=false):=by
 cases f with
 |true=>
  have hn:=zdR h0
  obtain⟨c,r,e⟩:=za8 (znp hn)
  refine⟨?_,fun _=>hn,fun e=>by cases e⟩
  show(letB (atS (Z9 l) 0)||escS (Z9 l))=true
  rw[e]at hn ⊢
  rcases zsf hn with h1|h1
  ·rw[show letB (atS (c::r) 0)=true from h1];rfl
  ·rw[h1,Bool.or_true]
 |false=>
  have hb':zjv l=true:=by rcases hb with hb|hb;cases hb;exact hb
  cases l with
  |nil=>exact absurd rfl h0
  |cons c r=>
   have hw:zfx false (c::r)=pcW false 0 c++encW false 0 r:=rfl
   have hb2:(digN c.toNat||(c==45&&(r==[]||digN (r.headD 0).toNat)))=true:=hb'
   by_cases h45:c=45
   ·subst h45
    rw[hw,show pcW false 0 45=[45]from rfl]
    refine⟨rfl,fun e=>by(cases e),fun _=> ?_⟩
    cases r with
    |nil=>rfl
    |cons d t=>
     have hd:digB d=true:=hb2
     have hp:pcW false 0 d=[d]:=by
      unfold pcW
      have:letB d=true:=by unfold letB;rw[hd,Bool.or_true];rfl
      rw[this];rfl
     rw[show encW false 0 (d::t)=pcW false 0 d++encW false 0 t from rfl,hp]
     have hk: ∀n:Nat,n<256→digB (UInt8.ofNat n)=true→fstB (UInt8.ofNat n)=false∧(UInt8.ofNat n==45)=false∧(UInt8.ofNat n==92)=false:=by decide+kernel
     have:=hk d.toNat (UInt8.toNat_lt d)
     rw[UInt8.ofNat_toNat]at this
     obtain⟨k1,k2,k3⟩:=this hd
     show(fstB d||d==45||escS (d::(encW false 0 t)))=false
     unfold escS
     rw[k1,k2,show atS (d::encW false 0 t) 0=d from rfl,k3];rfl
   ·have hd:digB c=true:=by
     have:digN c.toNat=true:=by
      rw[beq_eq_false_iff_ne.2 h45,Bool.false_and,Bool.or_false]at hb2;exact hb2
     exact this
    have hl:letB c=true:=by unfold letB;rw[hd,Bool.or_true];rfl
    have hp:pcW false 0 c=[c]:=by unfold pcW;rw[hl];rfl
    rw[hw,hp]
    refine⟨by rw[show letB (atS ([c]++encW false 0 r) 0)=letB c from rfl,hl];rfl,fun e=>by(cases e),fun _=> ?_⟩
    have hk: ∀n:Nat,n<256→digB (UInt8.ofNat n)=true→fstB (UInt8.ofNat n)=false∧(UInt8.ofNat n==45)=false∧(UInt8.ofNat n==92)=false:=by decide+kernel
    have:=hk c.toNat (UInt8.toNat_lt c)
    rw[UInt8.ofNat_toNat]at this
    obtain⟨k1,k2,k3⟩:=this hd
    unfold nmS escS
    rw[show atS ([c]++encW false 0 r) 0=c from rfl,k2,if_neg (by decide),k1,k3];rfl
theorem zAH(c:UInt8)(h:zci c.toNat=true)(h2:c≠92):brS c []=8:=by
 have: ∀n:Nat,n<256→zci (UInt8.ofNat n).toNat=true→UInt8.ofNat n≠92→brS (UInt8.ofNat n) []=8:=by decide+kernel
 have:=this c.toNat (UInt8.toNat_lt c)
 rw[UInt8.ofNat_toNat]at this
 exact this h h2
theorem zzV(x:Str):past digB (37::x)=37::x∧zK (37::x)=(37::x,true)∧expS (37::x)=none:=⟨rfl,rfl,rfl⟩
theorem zrN{n:Int}{u:Str}{p:Bool}(x:Str):(numT n p++zbF u)++x=numT n p++(zbF u++x):=List.append_assoc ..
theorem znl{c:UInt8}{r x:Str}(hx:neu x):Zp (c::(r++x))=nxB (brS c r) c (r++x):=by rw[qh,zAC hx]
theorem zsi{n:Int}(h1: -1000000000000≤n)(h2:n≤1000000000000)(x:Str):Zp ((numT n false++[37])++x)=(⟨11,[],n,[],false⟩,x):=by
 rw[List.append_assoc,List.singleton_append]
 obtain⟨p1,p2,p3⟩:=zzV x
 have he:=zrO (n:=n) (p:=false) p1 p2 p3
 have hv:=zAo h1 h2 (p:=false) (x:=37::x) (by rw[he])
 rw[zpj]
 unfold zz
 rw[he,hv,if_neg (by unfold nmS escS;rw[show atS (37::x) 0=37 from rfl];simp[fstB,alB]),if_pos (by rfl)]
 rfl
theorem zuN{l:Str}(h0:l≠[])(h:Zh l=true)(hu:(lowS l==[117,114,108])=false)(x:Str):Zp ((Z9 l++[40])++x)=(⟨2,l,0,[],false⟩,x):=by
 rw[List.append_assoc,List.singleton_append]
 have hn:=zvo (z:=40::x) (zdR h0) (by show(40:UInt8)≠10;decide)
 have hnd:=zvk h x
 obtain⟨c,r,e⟩:=za8 (znp hn)
 rw[e]at hn hnd ⊢
 rw[qh,zmG hn (by rw[hnd];intro t e;injection e with e _;cases e),zkw]
 unfold qx
 rw[hnd]
 simp only
 rw[if_pos (by rfl),hu,Bool.false_and,if_neg (by decide)]
 rfl
theorem znT{l:Str}(h:Zh l=true)(x:Str):Zp ((34::(encB quoB l++[34]))++x)=(⟨5,l,0,[],false⟩,x):=by
 rw[List.cons_append,List.append_assoc,List.singleton_append,qh,show brS 34 (encB quoB l++34::x)=1 from rfl,zvt,zsm x l h]
 rfl
theorem zsC{l:Str}(h:Zh l=true)(x:Str):Zp (([117,114,108,40]++(encB urB l++[41]))++x)=(⟨7,l,0,[],false⟩,x):=by
 have e:([117,114,108,40]++(encB urB l++[41]))++x=117::114::108::40::(encB urB l++41::x):=by simp
 obtain⟨g1,g2⟩:=zyf x l h
 have hnd:zl (117::114::108::40::(encB urB l++41::x))=([117,114,108],40::(encB urB l++41::x)):=by
  rw[zC,if_pos (by decide),zC,if_pos (by decide),zC,if_pos (by decide),znk]
 rw[e,qh,zmG (by rfl) (by rw[hnd];intro t e;injection e with e _;cases e),zkw]
 unfold qx
 rw[hnd]
 simp only
 rw[if_pos (by rfl),zkl,show(40::(encB urB l++41::x)).drop 1=encB urB l++41::x from rfl,g1,g2,if_pos (by decide),zsn x l h]
 rfl
theorem zpd{k:Int}(h1:13≤k)(h2:k≤24)(x:Str):Zp (zq1 k++x)=(⟨k,[],0,[],false⟩,if k=13 then past spB x else x):=by
 have hk:k=13∨k=14∨k=15∨k=16∨k=17∨k=18∨k=19∨k=20∨k=21∨k=22∨k=23∨k=24:=by omega
 rcases hk with rfl|rfl|rfl|rfl|rfl|rfl|rfl|rfl|rfl|rfl|rfl|rfl<;>rfl
theorem ztG(l:Str):txS ⟨1,l,0,[],false⟩=Z9 l:=by rw[txS];rfl
theorem zp4(l:Str):txS ⟨2,l,0,[],false⟩=Z9 l++[40]:=by rw[txS];rfl
theorem ztF(l:Str):txS ⟨3,l,0,[],false⟩=64::Z9 l:=by rw[txS];rfl
theorem zid(l:Str)(f:Bool):txS ⟨4,l,0,[],f⟩=35::zfx f l:=by rw[txS];rfl
theorem zkZ(l:Str):txS ⟨5,l,0,[],false⟩=34::(encB quoB l++[34]):=by rw[txS];rfl
theorem zmo(l:Str):txS ⟨7,l,0,[],false⟩=[117,114,108,40]++(encB urB l++[41]):=by rw[txS];rfl
theorem zmk(c:UInt8):txS ⟨9,[c],0,[],false⟩=[c]:=by rw[txS];rfl
theorem zmm(n:Int)(f:Bool):txS ⟨10,[],n,[],f⟩=numT n (!f):=by rw[txS];rfl
theorem zmn(n:Int):txS ⟨11,[],n,[],false⟩=numT n false++[37]:=by rw[txS];rfl
theorem zml(n:Int)(u:Str)(f:Bool):txS ⟨12,[],n,u,f⟩=numT n (!f)++zbF u:=by rw[txS];rfl
theorem zie{k:Int}(h1:13≤k)(h2:k≤24):txS ⟨k,[],0,[],false⟩=zq1 k:=by
 have hk:k=13∨k=14∨k=15∨k=16∨k=17∨k=18∨k=19∨k=20∨k=21∨k=22∨k=23∨k=24:=by omega
 rcases hk with rfl|rfl|rfl|rfl|rfl|rfl|rfl|rfl|rfl|rfl|rfl|rfl<;>rfl
theorem zy3{t:zb}(h:zfv t)(hb: ¬(t.kind=9∧t.text=[92]))(hu:zdd t=false){x:Str}(hx:neu x):Zp (txS t++x)=(t,x):=by
 have ha:=zAy hx
 have hn0:nmS x=false:=by have:=zse hx [];rw[List.nil_append]at this;rw[this];rfl
 cases h with
 |cId l h0 h=>
  have hn:=zdR h0
  have hnd:=zaB x h
  rw[zhf hx,List.append_nil]at hnd
  obtain⟨c,r,e⟩:=za8 (znp hn)
  rw[ztG]
  have hr:=zvV h
  rw[e]at hn hr hnd ⊢
  rw[List.cons_append,znl hx,zmG hn (by rw[hr];intro t e;cases e),zkw]
  unfold qx
  rw[show c::(r++x)=(c::r)++x from rfl,hnd]
  simp only
  rw[if_neg (by rcases ha with ha|ha<;>rw[ha]<;>decide)]
 |cFn l h0 h=>rw[zp4];exact zuN h0 h (by unfold zdd at hu;exact hu) x
 |cAt l h0 h=>
  have hnd:=zaB x h
  rw[zhf hx,List.append_nil]at hnd
  rw[ztF,List.cons_append]
  have hb6:brS 64 (Z9 l++x)=6:=by
   unfold brS
   rw[zse hx,zdR h0]
   rfl
  rw[qh,hb6,zvu,hnd]
 |cHash l f h0 h hbb=>
  obtain⟨g1,g2,g3⟩:=zuX h0 h hbb
  have hnd:=zl5 (f:=f) h x
  rw[zhf hx,List.append_nil]at hnd
  rw[zid,List.cons_append]
  have hb2:brS 35 (zfx f l)=2:=by
   unfold brS
   rw[g1]
   rfl
  have hf:nmS (zfx f l)=f:=by
   cases f with
   |true=>exact g2 rfl
   |false=>exact g3 rfl
  rw[znl hx,hb2,zq9,hnd,zse hx,hf]
 |cStr l h=>rw[zkZ];exact znT h x
 |cUrl l h=>rw[zmo];exact zsC h x
 |cDel c h=>
  have h92:c≠92:=by rintro rfl;exact hb ⟨rfl,rfl⟩
  rw[zmk,List.cons_append,znl hx,zAH c h h92,zxL,List.nil_append]
 |cNum n f h1 h2 hf=>
  obtain⟨e1,e2,e3⟩:=zzG hx
  have he:=zrO (n:=n) (p:= !f) e1 e2 e3
  rw[zj0 hf]at he
  rw[zmm,zpj]
  unfold zz
  rw[zAo h1 h2 (by rw[he]),he]
  simp only
  rw[hn0,if_neg (by decide),if_neg (by rcases ha with ha|ha<;>rw[ha]<;>decide)]
 |cPct n h1 h2=>rw[zmn];exact zsi h1 h2 x
 |cDim n u f h1 h2 hf h0 h=>
  have hnm:=zrt h0 h
  obtain⟨e1,e2⟩:=zqL hnm x
  have he:=zrO (n:=n) (p:= !f) e1 e2 (ziL h0 h hx)
  rw[zj0 hf]at he
  rw[zml,zrN,zpj]
  unfold zz
  rw[zAo h1 h2 (by rw[he]),he]
  simp only
  rw[zse hx,hnm,if_pos rfl,zik h0 h,zhf hx,List.append_nil]
 |cMark k h1 h2=>
  rw[zie h1 h2,zpd h1 h2,zsg (by decide) hx,ite_self]
end Go.Lv.VT

namespace Go.Lv.VT
set_option maxRecDepth 100000
def ztO(t:zb)(x r:Str):Prop:=zA (numT t.num (!t.flag)++x)=(r,t.flag)∧nmS r=false∧(atS r 0==37)=false
def zyR(x r:Str):Prop:= ∃s,(s=[]∨s=[45])∧digB (atS (unsign (s++x)) 0)=true∧nmS (past digB (unsign (s++x)))=true∧r=(zl (past digB (unsign (s++x)))).2
def zAu(t:zb)(x r:Str):Prop:=r=x∨(t.kind=13∧r=past spB x)∨(t.kind=10∧ztO t x r)∨(t.kind=12∧zyR x r)
theorem zrR{w r:Str}(h:expS w=some r):(atS w 0=101∨atS w 0=69)∧digB (atS (unsign (w.drop 1)) 0)=true∧r=past digB (unsign (w.drop 1)):=by
 unfold expS at h
 split at h
 ·rename_i h1
  split at h
  ·rename_i h2
   rw[Bool.or_eq_true,beq_iff_eq,beq_iff_eq]at h1
   injection h with h
   exact⟨h1,h2,h.symm⟩
  ·cases h
 ·cases h
theorem ziW{l a:Str}(h:l++a=l):a=[]:=by
 have:=congrArg List.length h
 rw[List.length_append]at this
 exact List.length_eq_zero_iff.1 (by omega)
theorem znU{a b:zb}(h:a=b):a.text=b.text:=by rw[h]
theorem zwQ{t:zb}(h:zfv t)(hu:zdd t=false){x:Str}(ht:(Zp (txS t++x)).1=t):zAu t x (Zp (txS t++x)).2:=by
 cases h with
 |cId l h0 h=>
  left
  have hn:=zdR h0
  have hnd:=zaB x h
  obtain⟨c,r,e⟩:=za8 (znp hn)
  rw[ztG]at ht ⊢
  rw[e,List.cons_append]at ht ⊢
  have hbr:=zef c (r++x)
  rw[ht]at hbr
  have hbr':brS c (r++x)=7:=hbr.symm
  rw[qh,hbr',zkw]at ht ⊢
  rw[show c::(r++x)=Z9 l++x by rw[e];rfl]at ht ⊢
  unfold qx at ht ⊢
  rw[hnd]at ht ⊢
  simp only at ht ⊢
  split at ht
  ·rename_i h40
   exfalso
   split at ht
   ·have:=congrArg zb.kind ht
    rcases zn5 (urlS (past spB ((zl x).2.drop 1))).1 with hk|hk<;>rw[hk]at this<;>cases this
   ·cases congrArg zb.kind ht
  ·rename_i h40
   rw[if_neg h40]
   have:=znU ht
   exact zhg (ziW this)
 |cFn l h0 h=>
  left
  rw[zp4,zuN h0 h (by unfold zdd at hu;exact hu)]
 |cAt l h0 h=>
  left
  rw[ztF,List.cons_append]at ht ⊢
  have hbr:=zef 64 (Z9 l++x)
  rw[ht]at hbr
  have hbr':brS 64 (Z9 l++x)=6:=hbr.symm
  rw[qh,hbr',zvu,zaB x h]at ht ⊢
  exact zhg (ziW (znU ht))
 |cHash l f h0 h hbb=>
  left
  rw[zid,List.cons_append]at ht ⊢
  have hbr:=zef 35 (zfx f l++x)
  rw[ht]at hbr
  have hbr':brS 35 (zfx f l++x)=2:=hbr.symm
  rw[qh,hbr',zq9,zl5 h x]at ht ⊢
  exact zhg (ziW (znU ht))
 |cStr l h=>left;rw[zkZ,znT h]
 |cUrl l h=>left;rw[zmo,zsC h]
 |cDel c h=>
  left
  rw[zmk,List.cons_append]at ht ⊢
  have hbr:=zef c ([]++x)
  rw[ht]at hbr
  have hbr':brS c ([]++x)=8:=hbr.symm
  rw[qh,hbr',zxL,List.nil_append]
 |cNum n f h1 h2 hf=>
  right;right;left
  refine⟨rfl,?_⟩
  rw[zmm,zpj]at ht ⊢
  unfold ztO
  show zA (numT n (!f)++x)=_∧_
  unfold zz at ht ⊢
  generalize zA (numT n (!f)++x)=e at ht ⊢
  obtain⟨e,fl⟩:=e
  simp only at ht ⊢
  cases hn:nmS e with
  |true=>rw[hn,if_pos rfl]at ht;cases congrArg zb.kind ht
  |false=>
   rw[hn,if_neg (by decide)]at ht
   rw[if_neg (by decide)]
   cases h37:atS e 0==37 with
   |true=>rw[h37,if_pos rfl]at ht;cases congrArg zb.kind ht
   |false=>
    rw[h37,if_neg (by decide)]at ht
    rw[if_neg (by decide)]
    have:fl=f:=congrArg zb.flag ht
    rw[this]
    exact⟨rfl,hn,h37⟩
 |cPct n h1 h2=>left;rw[zmn,zsi h1 h2]
 |cDim n u f h1 h2 hf h0 h=>
  have hnm:=zrt h0 h
  obtain⟨e1,e2⟩:=zqL hnm x
  rw[zml,zrN,zpj]at ht ⊢
  have plain:expS (zbF u++x)=none→(zz (numT n (!f)++(zbF u++x))).2=x:=by
   intro hexp
   have he:=zrO (n:=n) (p:= !f) e1 e2 hexp
   unfold zz at ht ⊢
   rw[he]at ht ⊢
   simp only at ht ⊢
   split at ht
   ·rename_i hn
    rw[if_pos hn]
    rw[zik h0 h]at ht ⊢
    have:(u++(zl x).1)=u:=congrArg zb.unit ht
    exact zhg (ziW this)
   ·rename_i hn
    split at ht<;>cases congrArg zb.kind ht
  rcases zsz h0 h x with hx|⟨e,s,he,hs,_,hu'⟩
  ·left;exact plain hx
  ·cases hexp:expS (zbF u++x)with
   |none=>left;exact plain hexp
   |some z=>
    right;right;right
    refine⟨rfl,s,hs,?_⟩
    obtain⟨_,hd,hz⟩:=zrR hexp
    have hdrop:(zbF u++x).drop 1=s++x:=by rw[hu'];rfl
    rw[hdrop]at hd hz
    have hend:zA (numT n (!f)++(zbF u++x))=(z,false):=by
     cases hp:(partT (n.natAbs%1000) (!f)).isEmpty with
     |true=>rw[zqG hp,e1,e2];simp only[hexp]
     |false=>rw[zuF hp,e1];simp only[hexp]
    unfold zz at ht ⊢
    rw[hend]at ht ⊢
    simp only at ht ⊢
    split at ht
    ·rename_i hn
     rw[if_pos hn]
     exact⟨hd,by rw[←hz];exact hn,by rw[←hz]⟩
    ·rename_i hn
     split at ht<;>cases congrArg zb.kind ht
 |cMark k h1 h2=>
  rw[zie h1 h2,zpd h1 h2]
  by_cases hk:k=13
  ·right;left
   exact⟨hk,by simp only[hk,if_true]⟩
  ·left
   simp only[if_neg hk]
end Go.Lv.VT
