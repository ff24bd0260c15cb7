/- What is read of a text, and of a longer one. -/
import Derived.Test.YtcdeccnjlkkejaaGreatDoorNb
import Derived.Test.YtcdeccnjlkkejaaGreatDoorLaw
import Derived.Test.YtcdeccnjlkkejaaGreatDoorNam
set_option linter.unusedSimpArgs false
set_option linter.unusedVariables false
namespace Go.Lv.VT
set_option maxRecDepth 100000
theorem Kj{q:Str}{n:Nat}(x:Str)(h:n<q.length):atS (q++x) n=atS q n:=by
 unfold atS
 grind
theorem En{p:UInt8->Bool}(x:Str): ∀{q:Str},past p q≠[]->past p (q++x)=past p q++x
 |[],h=>absurd rfl h
 |c::r,h=>by
  rw[Db,past,past];rw[past]at h;cases hp:p c with
  |true=>rw[hp,La rfl]at h;rw[La rfl,La rfl];exact En x h
  |false=>rfl
theorem DD{p:UInt8->Bool}(x:Str): ∀{q:Str},past p q≠[]->(q++x).takeWhile p=q.takeWhile p
 |[],h=>absurd rfl h
 |c::r,h=>by
  rw[Db,ah,ah];rw[past]at h;cases hp:p c with
  |true=>rw[hp,La rfl]at h;rw[La rfl,La rfl,DD x h]
  |false=>rfl
theorem nS(x:Str): ∀{k n:Nat} {l:Str},(hexes k n l).2≠[]->hexes k n (l++x)=((hexes k n l).1,(hexes k n l).2++x)
 |0,n,l,_=>rfl
 |k+1,n,[],h=>absurd rfl h
 |k+1,n,c::r,h=>by
  rw[Db,hexes,hexes];rw[hexes]at h;split
  ·rename_i hc;rw[La hc]at h;exact nS x h
  ·rfl
theorem zCr{l:Str}(x:Str)(h:l≠[]):unsp (l++x)=unsp l++x:=by
 cases l with
 |nil=>grind
 |cons c r=> show(if spB c then r++x else c::(r++x))=(if spB c then r else c::r)++x;split<;>rfl
theorem mF{r:Str}(x:Str)(h:(zq r).2≠[]):zq (r++x)=((zq r).1,(zq r).2++x):=by
 cases r with
 |nil=>exact absurd rfl h
 |cons c r=>
  have e: ∀t:Str,zq (c::t)=if qL c then(Nh (hexes 6 0 (c::t)).1,unsp (hexes 6 0 (c::t)).2)else([c],t):=fun t=>rfl;rw[Db,e,e];rw[e]at h;split
  ·rename_i hc;rw[La hc]at h;have hne:(hexes 6 0 (c::r)).2≠[]:=by intro e0;rw[e0]at h;exact h rfl
   rw[show c::(r++x)=(c::r)++x from rfl,nS x hne,zCr x hne]
  ·rfl
theorem Ez{c:UInt8}{r:Str}(x:Str)(h:r≠[]\/c≠92):escS (c::(r++x))=escS (c::r):=by
 unfold escS;show(c==92&& !(atS (r++x) 0==10))=(c==92&& !(atS r 0==10));rcases h with h|h
 ·cases r with
  |nil=>grind
  |cons d t=>rfl
 grind
theorem Nv{q:Str}(x:Str)(h:(zo q).2≠[]):zo (q++x)=((zo q).1,(zo q).2++x):=by
 match q with
 |[]=>rw[qV]at h;grind
 |c::r=>
  rw[Db,zM,zM];rw[zM]at h;cases hl:letB c with
  |true=> rw[hl,La rfl]at h;simp only[Ud];rw[Nv x h]
  |false=>
   rw[hl,Ja (by decide)]at h;simp only[Xc,Ve];cases he:escS (c::r)with
   |true=>
    rw[he,La rfl]at h;have h2:(zq r).2≠[]:=by intro e;simp only[e,qV]at h;exact h rfl
    have hr:r≠[]:=by rintro rfl;exact h2 rfl
    rw[Ez x (.inl hr),he];simp only[Ud];rw[mF x h2];have:=zS r;simp only;rw[Nv x h]
   |false=>
    have hr:r≠[]\/c≠92:=by
     cases r with
     |nil=> right;rintro rfl;exact absurd he (by decide)
     |cons d t=>left;simp
    rw[Ez x hr,he];grind
termination_by q.length
decreasing_by
 all_goals grind
theorem SF{m:UInt8}{q:Str}(x:Str)(h:(zW m q).2≠[]):zW m (q++x)=((zW m q).1,(zW m q).2++x):=by
 match q with
 |[]=>rw[QV]at h;grind
 |c::r=>
  rw[Db,Qo,Qo];rw[Qo]at h;cases h1:c==m with
  |true=>grind
  |false=>
   rw[h1,Ja (by decide)]at h;simp only[Xc,Ve];cases h2:c==10 with
   |true=>grind
   |false=>
    rw[h2,Ja (by decide)]at h;simp only[Xc,Ve];cases h3:c==92 with
    |false=> rw[h3,Ja (by decide)]at h;simp only[Xc,Ve];rw[SF x h]
    |true=>
     rw[h3,La rfl]at h;simp only[Ud];cases hr:r with
     |nil=>grind
     |cons d t=>
      rw[hr]at h;have hrl:r.length=t.length+1:=by rw[hr];rfl
      rw[Db,show(d::(t++x)).isEmpty=false from rfl,show(d::t).isEmpty=false from rfl];simp only[Xc,Ve];rw[show(d::t).isEmpty=false from rfl,Ja (by decide)]at h;rw[show atS (d::(t++x)) 0=atS (d::t) 0 from rfl];cases h4:atS (d::t) 0==10 with
      |true=> rw[h4,La rfl]at h;simp only[Ud];exact SF (q:=t) x h
      |false=>
       rw[h4,Ja (by decide)]at h;simp only[Xc,Ve];have h5:(zq (d::t)).2≠[]:=by intro e;simp only[e,QV]at h;exact h rfl
       rw[show d::(t++x)=(d::t)++x from rfl,mF x h5];have:=zS (d::t);simp only;rw[SF x h]
termination_by q.length
decreasing_by
 all_goals grind
theorem iD{q:Str}(x:Str)(h:badS q≠[]):badS (q++x)=badS q++x:=by
 match q with
 |[]=>rw[Bv]at h;grind
 |c::r=>
  rw[Db,Rv,Rv];rw[Rv]at h;cases h1:c==41 with
  |true=>grind
  |false=>
   rw[h1,Ja (by decide)]at h;simp only[Xc,Ve];cases he:escS (c::r)with
   |true=>
    rw[he,La rfl]at h;have h5:(zq r).2≠[]:=by intro e;rw[e,Bv]at h;exact h rfl
    have hr:r≠[]:=by rintro rfl;exact h5 rfl
    rw[Ez x (.inl hr),he];simp only[Ud];rw[mF x h5];have:=zS r;exact iD x h
   |false=>
    rw[he,Ja (by decide)]at h;have hr:r≠[]\/c≠92:=by left;rintro rfl;rw[Bv]at h;exact h rfl
    rw[Ez x hr,he];simp only[Xc,Ve];exact iD x h
termination_by q.length
decreasing_by
 all_goals grind
theorem rH{q:Str}(x:Str)(h:(urlS q).2≠[]):urlS (q++x)=((urlS q).1,(urlS q).2++x):=by
 match q with
 |[]=>rw[xm]at h;grind
 |c::r=>
  rw[Db,Q0,Q0];rw[Q0]at h;cases h1:c==41 with
  |true=>grind
  |false=>
   rw[h1,Ja (by decide)]at h;simp only[Xc,Ve];cases h2:spB c with
   |true=>
    rw[h2,La rfl]at h;simp only[Ud];cases hp:past spB r with
    |nil=>grind
    |cons d t=>
     rw[En x (by rw[hp];simp),hp];rw[hp]at h;simp only[Db]at h ⊢;cases h3:d==41 with
     |true=>grind
     |false=> rw[h3,Ja (by decide)]at h;simp only[Xc,Ve];rw[show d::(t++x)=(d::t)++x from rfl,iD x h]
   |false=>
    rw[h2,Ja (by decide)]at h;simp only[Xc,Ve];have key:(c=92->r≠[])->escS (c::(r++x))=escS (c::r):=by
     intro hh;refine Ez x ?_;by_cases e:c=92
     ·exact .inl (hh e)
     ·exact .inr e
    have hr:c=92->r≠[]:=by
     rintro rfl rfl;have e1:escS [92]=true:=by decide
     rw[e1,show((92:UInt8)==92&& !true)=false from rfl,Nf]at h;cases hu:((92:UInt8)==34||(92:UInt8)==39||(92:UInt8)==40||unB 92)with
     |true=>exact absurd hu (by decide)
     |false=> rw[hu,Ja (by decide),La (by decide)]at h;exact absurd (by show(urlS (zq []).2).2=[];rw[show(zq []).2=[]from rfl,xm]) h
    rw[key hr];cases h3:c==34||c==39||c==40||unB c||c==92&& !escS (c::r)with
    |true=> rw[h3,La rfl]at h;simp only[Ud];rw[show c::(r++x)=(c::r)++x from rfl,iD x h]
    |false=>
     rw[h3,Ja (by decide)]at h;simp only[Xc,Ve];cases h4:c==92 with
     |true=>
      rw[h4,La rfl]at h;simp only[Ud];have h5:(zq r).2≠[]:=by intro e;simp only[e,xm]at h;exact h rfl
      rw[mF x h5];have:=zS r;simp only;rw[rH x h]
     |false=> rw[h4,Ja (by decide)]at h;simp only[Xc,Ve];rw[rH x h]
termination_by q.length
decreasing_by
 all_goals grind
theorem Dp{q:Str}(x:Str)(h:q≠[]):unsign (q++x)=unsign q++x/\sgOf (q++x)=sgOf q:=by
 cases q with
 |nil=>grind
 |cons c r=> unfold unsign sgOf;show(if ag c then r++x else c::(r++x))=(if ag c then r else c::r)++x/\_;refine⟨by split<;>rfl,rfl⟩
def Mg(q:Str):Str:=past digB (unsign q)
theorem wQ{q x:Str}(h:(zT q).1≠[])(hd:q=[46]->digB (atS x 0)=false):zT (q++x)=((zT q).1++x,(zT q).2)/\dotP (q++x)=dotP q:=by
 unfold zT dotP;unfold zT at h;cases q with
 |nil=>exact absurd rfl h
 |cons c r=>
  have hc:(atS ((c::r)++x) 0==46&&digB (atS ((c::r)++x) 1))=(atS (c::r) 0==46&&digB (atS (c::r) 1)):=by
   show(c==46&&digB (atS (r++x) 0))=(c==46&&digB (atS r 0));cases r with
   |nil=>
    cases h46:c==46 with
    |false=>rfl
    |true=> rw[Jb]at h46;subst h46;show(true&&digB (atS x 0))=(true&&digB (atS [] 0));rw[hd rfl];rfl
   |cons d t=>rfl
  rw[hc];cases hh:(atS (c::r) 0==46&&digB (atS (c::r) 1))with
  |false=>grind
  |true=>
   rw[hh,La rfl]at h;simp only[Ud];rw[show((c::r)++x).drop 1=r++x from rfl,show(c::r).drop 1=r from rfl];have h':past digB r≠[]:=h;rw[En x h',DD x h']
   grind
theorem zDF{w x:Str}(hw:w≠[])(h: ∀r,expS w=some r->r≠[])(hn:expS w=none->expS (w++x)=none):
  expS (w++x)=(expS w).map (· ++x)/\expP (w++x)=expP w:=by
 have hP: ∀q:Str,expP q=if(expS q).isSome then some (atS q 0,sgOf (q.drop 1),(unsign (q.drop 1)).takeWhile digB)else none:=by
  intro q;unfold expP expS;cases atS q 0==101||atS q 0==69 with
  |false=>rfl
  |true=>
   grind
 cases he:expS w with
 |none=>
  grind
 |some r=>
  have hr:=h r he;cases w with
  |nil=>grind
  |cons c t=>
   have he':=he;unfold expS at he';cases h1:atS (c::t) 0==101||atS (c::t) 0==69 with
   |false=>grind
   |true=>
    rw[h1,La rfl]at he';cases h2:digB (atS (unsign ((c::t).drop 1)) 0)with
    |false=>grind
    |true=>
     rw[h2,La rfl]at he';have hrr:past digB (unsign t)=r:=by injection he'
     have ht:t≠[]:=by rintro rfl;exact absurd (show digB (atS (unsign []) 0)=true from h2) (by decide)
     obtain⟨u1,u2⟩:=Dp x ht;have hun:unsign t≠[]:=by intro e;rw[show(c::t).drop 1=t from rfl,e]at h2;exact absurd h2 (by decide)
     have hexp:expS ((c::t)++x)=some (r++x):=by unfold expS;rw[show atS ((c::t)++x) 0=atS (c::t) 0 from rfl,h1,La rfl,show((c::t)++x).drop 1=t++x from rfl,u1];have:atS (unsign t++x) 0=atS (unsign t) 0:=Kj x (Af.2 hun);rw[this,show digB (atS (unsign t) 0)=true from h2,La rfl,En x (by grind),hrr]
     refine⟨by rw[hexp];rfl,?_⟩;rw[hP,hP,hexp,he];simp only[Option.isSome_some,Ud];rw[show((c::t)++x).drop 1=t++x from rfl,show(c::t).drop 1=t from rfl,u1,u2,DD x (by grind)];rfl
theorem QE(q:Str):zy q=(match expS (zT (Mg q)).1 with|some r=>(r,false)|none=>zT (Mg q)):=rfl
theorem lI{q x:Str}(h:(zy q).1≠[])(hd:Mg q=[46]->digB (atS x 0)=false)(hn:expS (zT (Mg q)).1=none->expS ((zT (Mg q)).1++x)=none):
  zy (q++x)=((zy q).1++x,(zy q).2)/\numP (q++x)=numP q:=by
 rw[QE]at h;have hsome: ∀r,expS (zT (Mg q)).1=some r->r≠[]:=by intro r hr;rw[hr]at h;exact h
 have hw:(zT (Mg q)).1≠[]:=by intro e;rw[e,show expS []=none from rfl]at h;exact h e
 have h2:Mg q≠[]:=by intro e;rw[e]at hw;exact hw rfl
 have hq:q≠[]:=by rintro rfl;exact h2 rfl
 obtain⟨u1,u2⟩:=Dp x hq;have e2:Mg (q++x)=Mg q++x:=by unfold Mg;rw[u1];exact En x h2
 obtain⟨w1,w2⟩:=wQ hw hd;obtain⟨x1,x2⟩:=zDF hw hsome hn;have hP: ∀z:Str,numP z=⟨sgOf z,(unsign z).takeWhile digB,dotP (Mg z),expP (zT (Mg z)).1⟩:=fun z=>rfl;constructor
 ·rw[QE,QE,e2,w1]
  grind
 ·rw[hP,hP,u2,u1,DD x h2,e2,w1,w2,x2]
def brS(c:UInt8)(r:Str):Nat:=
 if spB c then 0
 else if c==34||c==39 then 1
 else if c==35&&(letB (atS r 0)||escS r)then 2
 else if nbS (c::r)then 3
 else if [45,45,62].isPrefixOf (c::r)then 4
 else if [60,33,45,45].isPrefixOf (c::r)then 5
 else if c==64&&nmS r then 6
 else if nmS (c::r)then 7
 else if Kh c==0 then 8
 else 9
def nxB:Nat->UInt8->Str->zb×Str
 |0,c,r=>(Ki 13,past spB (c::r))
 |1,c,r=>(Gl (zW c r).1,(zW c r).2)
 |2,_,r=>(⟨4,(zo r).1,0,[],nmS r⟩,(zo r).2)
 |3,c,r=>zB (c::r)
 |4,c,r=>(Ki 15,(c::r).drop 3)
 |5,c,r=>(Ki 14,(c::r).drop 4)
 |6,_,r=>(⟨3,(zo r).1,0,[],false⟩,(zo r).2)
 |7,c,r=>qF (c::r)
 |8,c,r=>(⟨9,[c],0,[],false⟩,r)
 |_+9,c,r=>(Ki (Kh c),r)
theorem wG(c:UInt8)(r:Str):nxB 0 c r=(Ki 13,past spB (c::r)):=by rw[nxB]
theorem Mt(c:UInt8)(r:Str):nxB 1 c r=(Gl (zW c r).1,(zW c r).2):=by rw[nxB]
theorem bn(c:UInt8)(r:Str):nxB 2 c r=(⟨4,(zo r).1,0,[],nmS r⟩,(zo r).2):=by rw[nxB]
theorem Vk(c:UInt8)(r:Str):nxB 3 c r=zB (c::r):=by rw[nxB]
theorem FN(c:UInt8)(r:Str):nxB 4 c r=(Ki 15,(c::r).drop 3):=by rw[nxB]
theorem EN(c:UInt8)(r:Str):nxB 5 c r=(Ki 14,(c::r).drop 4):=by rw[nxB]
theorem Lt(c:UInt8)(r:Str):nxB 6 c r=(⟨3,(zo r).1,0,[],false⟩,(zo r).2):=by rw[nxB]
theorem Jk(c:UInt8)(r:Str):nxB 7 c r=qF (c::r):=by rw[nxB]
theorem iw(c:UInt8)(r:Str):nxB 8 c r=(⟨9,[c],0,[],false⟩,r):=by rw[nxB]
theorem vG(c:UInt8)(r:Str):nxB 9 c r=(Ki (Kh c),r):=rfl
theorem qM(c:UInt8)(r:Str):Zx (c::r)=nxB (brS c r) c r:=by
 rw[Wv];unfold brS;split
 ·rfl
 ·split
  ·rfl
  ·split
   ·rfl
   ·split
    ·rfl
    ·split
     ·rfl
     ·split
      ·rfl
      ·split
       ·rfl
       ·split
        ·rfl
        ·split<;>rfl
theorem br_4{c:UInt8}{r:Str}:brS c r=4->[45,45,62].isPrefixOf (c::r)=true:=by unfold brS;grind
theorem br_5{c:UInt8}{r:Str}:brS c r=5->[60,33,45,45].isPrefixOf (c::r)=true:=by unfold brS;grind
theorem br_9{c:UInt8}{r:Str}:brS c r=9-> ¬(Kh c==0)=true:=by unfold brS;grind
theorem mY(c:UInt8)(r:Str):brS c r<=9:=by unfold brS;grind
def brK(k:Int):Nat:=
 if k=13 then 0 else if k=5\/k=6 then 1 else if k=4 then 2 else if k=10\/k=11\/k=12 then 3 else if k=15 then 4 else if k=14 then 5 else if k=3 then 6
 else if k=1\/k=2\/k=7\/k=8 then 7 else if k=9 then 8 else 9
theorem zBt(c:UInt8):Kh c=0\/(16<=Kh c/\Kh c<=24):=by
 have: ∀n:Nat,n<256->Kh (UInt8.ofNat n)=0\/(16<=Kh (UInt8.ofNat n)/\Kh (UInt8.ofNat n)<=24):=by decide+kernel
 have:=this c.toNat (Ob c);simp_all
theorem zBP(o:Option Str):(Gl o).kind=5\/(Gl o).kind=6:=by cases o<;>simp[Gl]
theorem EJ(o:Option Str):(Vi o).kind=7\/(Vi o).kind=8:=by cases o<;>simp[Vi]
theorem E8(l:Str):(qF l).1.kind=1\/(qF l).1.kind=2\/(qF l).1.kind=7\/(qF l).1.kind=8:=by
 unfold qF;split
 ·split
  ·exact .inr (.inr (EJ _))
  grind
 ·exact .inl rfl
theorem zsc(l:Str):(zB l).1.kind=10\/(zB l).1.kind=11\/(zB l).1.kind=12:=by
 unfold zB
 grind
theorem eY{i:Nat}(h:i<=9):i=0\/i=1\/i=2\/i=3\/i=4\/i=5\/i=6\/i=7\/i=8\/i=9:=by omega
theorem Vo(c:UInt8)(r:Str):brK (Zx (c::r)).1.kind=brS c r:=by
 rw[qM];rcases eY (mY c r)with h|h|h|h|h|h|h|h|h|h
 ·rw[h];rfl
 ·rw[h,Mt];show brK (Gl (zW c r).1).kind=1;rcases zBP (zW c r).1 with h|h<;>rw[h]<;>rfl
 ·rw[h];rfl
 ·rw[h,Vk];rcases zsc (c::r)with h|h|h<;>rw[h]<;>rfl
 ·rw[h];rfl
 ·rw[h];rfl
 ·rw[h];rfl
 ·rw[h,Jk];rcases E8 (c::r)with h|h|h|h<;>rw[h]<;>rfl
 ·rw[h];rfl
 ·have h1:=zBt c;have h0:=br_9 h;rw[Jb]at h0;rw[h,vG];show brK (Kh c)=9;unfold brK
  repeat rw[Ja (by omega)]
theorem X5{q x:Str}(h:(qF q).2≠[]):qF (q++x)=((qF q).1,(qF q).2++x):=by
 have hn:(zo q).2≠[]:=by intro e;unfold qF at h;rw[e,Ja (by decide)]at h;exact h rfl
 have e:=Nv x hn;unfold qF;unfold qF at h;rw[e];simp only;have h0:atS ((zo q).2++x) 0=atS (zo q).2 0:=Kj x (Af.2 hn);rw[h0];cases h40:atS (zo q).2 0==40 with
 |false=>rfl
 |true=>
  rw[h40,La rfl]at h;simp only[Ud];cases hn2:(zo q).2 with
  |nil=>grind
  |cons c r=>
   rw[hn2]at h;rw[show((c::r)++x).drop 1=r++x from rfl];rw[show(c::r).drop 1=r from rfl]at h ⊢;cases hu:lowS (zo q).1==[117,114,108]with
   |false=>
    grind
   |true=>
    rw[hu,Xb]at h;simp only[Xb];cases hp:past spB r with
    |nil=>
     rw[hp,La (by decide),xm]at h
     grind
    |cons d t=>
     rw[En x (by rw[hp];simp),hp];rw[hp]at h;rw[show atS ((d::t)++x) 0=atS (d::t) 0 from rfl];split
     ·rename_i hq;rw[La hq]at h;rw[rH x h]
     ·rfl
theorem xu{q x:Str}{n:Nat}(h:n<=q.length):(q++x).drop n=q.drop n++x:=List.drop_append_of_le_length h
structure zk4 (q x:Str):Prop where
 e:zy (q++x)=((zy q).1++x,(zy q).2)
 p:numP (q++x)=numP q
 n:nmS ((zy q).1++x)=nmS (zy q).1
theorem zt3{q x:Str}(hs:zk4 q x)(h:(zB q).2≠[]):zB (q++x)=((zB q).1,(zB q).2++x):=by
 have he:(zy q).1≠[]:=by intro e;unfold zB at h;rw[e,Ja (by decide),Ja (by decide)]at h;exact h rfl
 have h0:atS ((zy q).1++x) 0=atS (zy q).1 0:=Kj x (Af.2 he);unfold zB;unfold zB at h;rw[hs.e,hs.p];simp only[hs.n,h0];cases hn:nmS (zy q).1 with
 |true=> rw[hn,La rfl]at h;simp only[Ud];rw[Nv x h]
 |false=>
  simp only[Xc,Ve];cases h37:atS (zy q).1 0==37 with
  |true=> simp_all
  |false=>grind
theorem KE {c:UInt8} {r x:Str} (hb:brS c (r++x)=brS c r) (h:(Zx (c::r)).2≠[]) (hh:brS c r=2->nmS (r++x)=nmS r)
  (hnum:brS c r=3->zk4 (c::r) x):Zx (c::(r++x))=((Zx (c::r)).1,(Zx (c::r)).2++x):=by
 rw[qM c (r++x),hb];rw[qM]at h ⊢;rcases eY (mY c r)with hi|hi|hi|hi|hi|hi|hi|hi|hi|hi
 ·rw[hi,wG]at h;rw[hi,wG,wG,show c::(r++x)=(c::r)++x from rfl,En x h]
 ·rw[hi,Mt]at h;rw[hi,Mt,Mt,SF x h]
 ·rw[hi,bn]at h;rw[hi,bn,bn,Nv x h,hh hi]
 ·have hn:=hnum hi;rw[hi,Vk]at h;rw[hi,Vk,Vk,show c::(r++x)=(c::r)++x from rfl,zt3 hn h]
 ·have h':=Rk (br_4 hi);rw[hi,FN,FN,show c::(r++x)=(c::r)++x from rfl,xu (show 3<=(c::r).length from h')]
 ·have h':=Rk (br_5 hi);rw[hi,EN,EN,show c::(r++x)=(c::r)++x from rfl,xu (show 4<=(c::r).length from h')]
 ·rw[hi,Lt]at h;rw[hi,Lt,Lt,Nv x h]
 ·rw[hi,Jk]at h;rw[hi,Jk,Jk,show c::(r++x)=(c::r)++x from rfl,X5 h]
 ·rw[hi,iw,iw]
 ·rw[hi,vG,vG]
theorem aR{q:Str}(x:Str)(h:q≠[]):undot (q++x)=undot q++x:=by
 cases q with
 |nil=>grind
 |cons c r=> unfold undot;show(if c==46 then r++x else c::(r++x))=(if c==46 then r else c::r)++x;split<;>rfl
theorem zAc(q:Str):q.length<=(undot q).length+1:=by
 unfold undot
 grind
theorem UL(q:Str):q.length<=(unsign q).length+1:=by
 unfold unsign
 grind
theorem jr{q:Str}(h:1<=q.length):q≠[]:=by grind
theorem zFH{q:Str}(x:Str)(h:3<=q.length):nbS (q++x)=nbS q:=by have h1:=UL q;have h2:=zAc (unsign q);unfold nbS;rw[(Dp x (jr (by omega))).1,aR x (jr (by omega)),Kj x (by omega)]
theorem OC{q:Str}(x:Str)(h:3<=q.length):nmS (q++x)=nmS q:=by unfold nmS escS;rw[xu (by omega),Kj x (show 0<q.length by omega),Kj x (show 1<q.length by omega),Kj x (show 0<(q.drop 1).length by grind),Kj x (show 1<(q.drop 1).length by grind)]
theorem ou{m:Str}: ∀{q:Str} (x:Str),m.length<=q.length->m.isPrefixOf (q++x)=m.isPrefixOf q:=by
 induction m with
 |nil=>grind
 |cons a m ih=>
  intro q x h;cases q with
  |nil=>grind
  |cons b t=>
   grind
theorem zE7{c:UInt8}{r:Str}(x:Str)(h:4<=r.length):brS c (r++x)=brS c r:=by
 have e:c::(r++x)=(c::r)++x:=rfl;have hl:(c::r).length=r.length+1:=rfl;unfold brS;rw[e,zFH x (by omega),ou x (by grind),ou x (by grind),OC x (q:=r) (by omega),OC x (q:=c::r) (by omega),Kj x (show 0<r.length by omega)];have:escS (r++x)=escS r:=by unfold escS;rw[Kj x (show 0<r.length by omega),Kj x (show 1<r.length by omega)]
 rw[this]
theorem uo{w:Str}:expS w=none↔((atS w 0==101||atS w 0==69)&&digB (atS (unsign (w.drop 1)) 0))=false:=by
 unfold expS
 grind
theorem zDH{w:Str}(x:Str)(h:3<=w.length)(hn:expS w=none):expS (w++x)=none:=by rw[uo]at hn ⊢;have h1:=UL (w.drop 1);rw[Gc]at h1;rw[xu (by omega),(Dp x (jr (by grind))).1,Kj x (show 0<w.length by omega),Kj x (by omega)];exact hn
theorem P6(q:Str):(zT q).1<:+q:=by
 unfold zT;split
 ·exact(Cr _ _).trans (Hf 1 q)
 grind
theorem zFi(q:Str):(zy q).1<:+(zT (Mg q)).1:=by
 rw[QE];cases h:expS (zT (Mg q)).1 with
 |some r=>exact fO (Ed _) h
 |none=>grind
theorem WU(q:Str):(zB q).2<:+(zy q).1:=by
 unfold zB;split
 ·exact Mm _
 ·split
  ·exact Hf 1 _
  grind
theorem zEb{q:Str}(x:Str)(h:4<=(zy q).1.length):zk4 q x:=by have h1:=(zFi q).length_le;have h2:=(P6 (Mg q)).length_le;obtain⟨a,b⟩:=lI (q:=q) (x:=x) (jr (by omega)) (fun e=>by grind) (zDH x (by omega));exact⟨a,b,OC x (by omega)⟩
theorem zBA{c:UInt8}{r:Str}(x:Str)(h:4<=(Zx (c::r)).2.length):Zx (c::(r++x))=((Zx (c::r)).1,(Zx (c::r)).2++x):=by have h1:=(Ol c r).length_le;refine KE (zE7 x (by omega)) (jr (by omega)) (fun _=>OC x (by omega)) (fun hb=>zEb x ?_);rw[qM,hb,Vk]at h;have:=(WU (c::r)).length_le;omega
theorem uC(q y:Str):escS (q++47::y)=escS q:=by
 match q with
 |[]=>rfl
 |[c]=>rfl
 |c::d::t=>rfl
theorem jw(q y:Str):nmS (q++47::y)=nmS q:=by
 match q with
 |[]=>rfl
 |[c]=> unfold nmS;show(if c==45 then fstB 47||47==45||escS (47::y)else fstB c||escS ([c]++47::y))=(if c==45 then fstB 0||0==45||escS []else fstB c||escS [c]);rw[uC];rfl
 |c::d::t=> unfold nmS;show(if c==45 then fstB d||d==45||escS ((d::t)++47::y)else fstB c||escS ((c::d::t)++47::y))=(if c==45 then fstB d||d==45||escS (d::t)else fstB c||escS (c::d::t));rw[uC,uC]
theorem JZ(q y:Str):digB (atS (q++47::y) 0)=digB (atS q 0):=by
 cases q with
 |nil=>rfl
 |cons c t=>rfl
theorem YR(q y:Str):unsign (q++47::y)=unsign q++47::y:=by
 cases q with
 |nil=>rfl
 |cons c t=>exact(Dp (47::y) (by simp)).1
theorem zCq(q y:Str):undot (q++47::y)=undot q++47::y:=by
 cases q with
 |nil=>rfl
 |cons c t=>exact aR (47::y) (by simp)
theorem zGx(q y:Str):nbS (q++47::y)=nbS q:=by unfold nbS;rw[YR,zCq,JZ]
theorem jZ{m:Str}(hm: ∀b∈m,b≠47): ∀(q y:Str),m.isPrefixOf (q++47::y)=m.isPrefixOf q:=by
 induction m with
 |nil=>grind
 |cons a m ih=>
  intro q y;cases q with
  |nil=>
   grind
  |cons b t=>grind
theorem zFA(q y:Str):letB (atS (q++47::y) 0)=letB (atS q 0):=by
 cases q with
 |nil=>rfl
 |cons c t=>rfl
theorem OY(c:UInt8)(r y:Str):brS c (r++47::y)=brS c r:=by have e:c::(r++47::y)=(c::r)++47::y:=rfl;unfold brS;rw[e,zGx,jZ (by decide),jZ (by decide),jw,jw,zFA,uC]
theorem zFm{w:Str}(y:Str)(hn:expS w=none):expS (w++47::y)=none:=by
 cases w with
 |nil=>rfl
 |cons c t=> rw[uo]at hn ⊢;show((c==101||c==69)&&digB (atS (unsign (t++47::y)) 0))=false;rw[YR,JZ];exact hn
theorem zFK{q:Str}(y:Str)(h:(zy q).1≠[]):zk4 q (47::y):=by obtain⟨a,b⟩:=lI (q:=q) (x:=47::y) h (fun _=>rfl) (zFm y);exact⟨a,b,jw _ y⟩
theorem JU{q:Str}(h:(zB q).2≠[]):(zy q).1≠[]:=by intro e;have:=(WU q).length_le;simp_all
theorem zD9{c:UInt8}{r:Str}(y:Str)(h:(Zx (c::r)).2≠[]):Zx (c::(r++47::y))=((Zx (c::r)).1,(Zx (c::r)).2++47::y):=by refine KE (OY c r y) h (fun _=>jw r y) (fun hb=>zFK y ?_);rw[qM,hb,Vk]at h;exact JU h
def WN(c:UInt8)(r x:Str):Prop:=(∃e fl,(e=101\/e=69)/\zT (Mg (c::r))=([e,43],fl))/\(Zx (c::r)).2=[43]/\(Zx (c::r)).1.kind=12/\digB (atS x 0)=true
theorem zBG{c:UInt8}{r x:Str}(hb:brS c r=3)(h:(Zx (c::r)).2≠[])(hx:x≠[])(ht:(zB ((c::r)++x)).1=(zB (c::r)).1):
  zk4 (c::r) x\/WN c r x:=by
 have hnx:Zx (c::r)=zB (c::r):=by rw[qM,hb,Vk]
 rw[hnx]at h;have he:=JU h;have hflag: ∀q:Str,(zB q).1.kind=10->(zB q).1.flag=(zy q).2:=by
  intro q;unfold zB;split
  ·intro h;cases h
  ·grind
 have hnm: ∀q:Str,((zB q).1.kind=12↔nmS (zy q).1=true):=by
  intro q;unfold zB;split
  ·grind
  ·grind
 by_cases hd:Mg (c::r)=[46]->digB (atS x 0)=false
 ·by_cases hn:expS (zT (Mg (c::r))).1=none->expS ((zT (Mg (c::r))).1++x)=none
  ·obtain⟨a,b⟩:=lI he hd hn;refine .inl ⟨a,b,?_⟩
   grind
  ·right;obtain⟨hn1,hn2⟩:=Classical.not_imp.1 hn;have hend:zy (c::r)=zT (Mg (c::r)):=by rw[QE,hn1]
   rw[hend]at he;obtain⟨w,fl⟩: ∃w fl,zT (Mg (c::r))=(w,fl):=⟨_,_,rfl⟩;obtain⟨fl,hw⟩:=fl;rw[hw]at he hn1 hn2 hend;simp only at he hn1 hn2;rw[uo]at hn1;rw[uo]at hn2;cases w with
   |nil=>grind
   |cons e t=>
    have h2:((e==101||e==69)&&digB (atS (unsign (t++x)) 0))=true:=by
     have:((atS ((e::t)++x) 0==101||atS ((e::t)++x) 0==69)&&digB (atS (unsign (((e::t)++x).drop 1)) 0))=true:=by
      cases hh:((atS ((e::t)++x) 0==101||atS ((e::t)++x) 0==69)&&digB (atS (unsign (((e::t)++x).drop 1)) 0))with
      |true=>rfl
      |false=>grind
     exact this
    have h1:((e==101||e==69)&&digB (atS (unsign t) 0))=false:=hn1;rw[Ga]at h2;rw[h2.1,Xb]at h1;have hee:e=101\/e=69:=by have:=h2.1;rw[Pd,Jb,Jb]at this;exact this
    have hfst:fstB e=true/\letB e=true/\(e==45)=false:=by rcases hee with rfl|rfl<;>decide
    have hnmw:nmS (e::t)=true:=by unfold nmS;rw[show atS (e::t) 0=e from rfl,hfst.2.2,Ja (by decide),hfst.1];rfl
    have hnum:zB (c::r)=(⟨12,[],(numP (c::r)).val,(zo (e::t)).1,fl⟩,(zo (e::t)).2):=by unfold zB;rw[hend,La hnmw]
    rw[hnum]at h;have h':(zo (e::t)).2≠[]:=h;have ht43:t=[43]/\digB (atS x 0)=true:=by
     match t with
     |[]=>rw[zM,La hfst.2.1,qV]at h';grind
     |[d]=>
      have hux:unsign ([d]++x)=if ag d then x else d::x:=rfl;have hu:unsign [d]=if ag d then []else [d]:=rfl;rw[hux]at h2;rw[hu]at h1;cases hs:ag d with
      |false=>
       rw[hs,Ja (by decide)]at h1 h2;have:=h2.2;rw[show atS (d::x) 0=atS [d] 0 from rfl,h1]at this;cases this
      |true=>
       rw[hs,La rfl]at h2;unfold ag at hs;rw[Pd,Jb,Jb]at hs;rcases hs with rfl|rfl
       ·grind
       ·rw[zM,La hfst.2.1,zM,La (by decide),qV]at h';grind
     |d::d2::t2=>
      exfalso;have hlen:1<=(unsign (d::d2::t2)).length:=by have:=UL (d::d2::t2);rw[Fa,Fa]at this;omega
      have:=h2.2;rw[(Dp x (by simp)).1,Kj x (by omega),h1]at this;cases this
    obtain⟨rfl,hdx⟩:=ht43;refine⟨⟨e,fl,hee,hw⟩,?_,?_,hdx⟩
    ·rw[hnx,hnum];show(zo [e,43]).2=[43];rw[zM,La hfst.2.1,zM,Ja (by decide),Ja (by decide)]
    ·rw[hnx,hnum]
 ·exfalso;obtain⟨hq2,hdx⟩:=Classical.not_imp.1 hd;have hend:zy (c::r)=([46],true):=by rw[QE,hq2];rfl
  have hnum:zB (c::r)=(⟨10,[],(numP (c::r)).val,[],true⟩,[46]):=by unfold zB;rw[hend,Ja (by decide),Ja (by decide)]
  rw[hnum]at ht;have hf:=hflag ((c::r)++x) (by rw[ht]);rw[ht]at hf;have hun:unsign (c::r)≠[]:=by intro e;rw[Mg,e]at hq2;cases hq2
  have e2:Mg ((c::r)++x)=46::x:=by unfold Mg;rw[(Dp x (by simp)).1,En x (by unfold Mg at hq2;rw[hq2];simp)];unfold Mg at hq2;rw[hq2];rfl
  have hw:zT (46::x)=(past digB x,false):=by
   unfold zT;have:digB (atS x 0)=true:=by cases hh:digB (atS x 0)with|true=>rfl|false=>grind
   rw[show atS (46::x) 0=46 from rfl,show atS (46::x) 1=atS x 0 from rfl,this];rfl
  have hfl:(zy ((c::r)++x)).2=false:=by rw[QE,e2,hw];simp only;cases expS (past digB x)<;>rfl
  rw[hfl]at hf;cases hf
theorem D5{c:UInt8}{r x:Str}(h:(Zx (c::r)).2≠[])(hx:x≠[])(ht:(Zx (c::(r++x))).1=(Zx (c::r)).1):
  (Zx (c::(r++x))).2=(Zx (c::r)).2++x\/WN c r x:=by
 have hb:brS c (r++x)=brS c r:=by rw[<-Vo,<-Vo,ht]
 have hh:brS c r=2->nmS (r++x)=nmS r:=by intro hi;have:=congrArg zb.flag ht;rw[qM,qM,hb,hi,bn,bn]at this;exact this
 by_cases hi:brS c r=3
 ·have hnx:Zx (c::r)=zB (c::r):=by rw[qM,hi,Vk]
  have hnx2:Zx (c::(r++x))=zB ((c::r)++x):=by rw[qM,hb,hi,Vk];rfl
  have ht':=ht;rw[hnx,hnx2]at ht';rcases zBG hi h hx ht' with hs|hp
  ·left;rw[KE hb h hh (fun _=>hs)]
  ·exact .inr hp
 ·left;rw[KE hb h hh (fun e=>absurd e hi)]
def run:Str->List zb->Str->Prop
 |q,[],R=>q=R
 |q,t::ts,R=> ∃c r,cmtS q=c::r/\(Zx (c::r)).1=t/\run (Zx (c::r)).2 ts R
theorem ny: ∀{ts:List zb} {q R:Str},run q ts R->R<:+q
 |[],q,R,h=>by rw[run]at h;subst h;exact Ed _
 |t::ts,q,R,h=>by obtain⟨c,r,h1,h2,h3⟩:=h;have h4:=aj q;rw[h1]at h4;exact(ny h3).trans ((Ol c r).trans ((He c r).trans h4))
theorem Gv: ∀{ts:List zb} {q R:Str},run q ts R->qE q=ts++qE R
 |[],q,R,h=>by rw[run]at h;subst h;rfl
 |t::ts,q,R,h=>by obtain⟨c,r,h1,h2,h3⟩:=h;rw[QZ h1,h2,Gv h3];rfl
theorem sI: ∀{ts us:List zb} {q R S:Str},run q ts R->run R us S->run q (ts++us) S
 |[],us,q,R,S,h,h'=>by rw[run]at h;subst h;exact h'
 |t::ts,us,q,R,S,h,h'=>by obtain⟨c,r,h1,h2,h3⟩:=h;exact⟨c,r,h1,h2,sI h3 h'⟩
theorem yP: ∀{ts us:List zb} {q:Str},qE q=ts++us-> ∃R,run q ts R/\qE R=us
 |[],us,q,h=>⟨q,rfl,h⟩
 |t::ts,us,q,h=>by
  cases hc:cmtS q with
  |nil=>rw[Pj hc]at h;cases h
  |cons c r=> rw[QZ hc,Db]at h;injection h with h1 h2;obtain⟨R,h3,h4⟩:=yP h2;exact⟨R,⟨c,r,hc,h1,h3⟩,h4⟩
theorem CO: ∀{ts:List zb} {q R S:Str},run q ts R->run q ts S->R=S
 |[],q,R,S,h,h'=>by rw[run]at h h';rw[<-h,h']
 |t::ts,q,R,S,h,h'=>by obtain⟨c,r,h1,h2,h3⟩:=h;obtain⟨c',r',h1',h2',h3'⟩:=h';rw[h1]at h1';injection h1' with e1 e2;subst e1 e2;exact CO h3 h3'
theorem FO{ts:List zb}{q R:Str}(hne:ts≠[]):run (cmtS q) ts R↔run q ts R:=by
 cases ts with
 |nil=>exact absurd rfl hne
 |cons t ts=>
  constructor
  ·rintro⟨c,r,h1,h2⟩;rw[Bn]at h1;exact⟨c,r,h1,h2⟩
  ·rintro⟨c,r,h1,h2⟩;exact⟨c,r,by rw[Bn];exact h1,h2⟩
theorem JI(x:Str): ∀{l r:Str},clsS l=some r->clsS (l++x)=some (r++x)
 |[],r,h=>by cases h
 |c::t,r,h=>by
  rw[clsS]at h;rw[Db,clsS];cases t with
  |nil=>
   cases hc:c==42&&atS ([]:Str) 0==47 with
   |true=>rw[Ga]at hc;exact absurd hc.2 (by decide)
   |false=>rw[hc,Ja (by decide)]at h;cases h
  |cons d u=>
   rw[show atS ((d::u)++x) 0=atS (d::u) 0 from rfl];split
   ·rename_i hc;rw[La hc]at h;injection h with h;subst h;rfl
   ·rename_i hc;rw[Ja hc]at h;exact JI x h
theorem uy{q x:Str}(h:cmtS q≠[])(hp:([47,42]:Str).isPrefixOf (cmtS q++x)=false):cmtS (q++x)=cmtS q++x:=by
 rw[uj q]at h hp ⊢;split at h
 ·rename_i hq;have hl:=Rk hq;rw[show([47,42]:Str).length=2 from rfl]at hl;rw[La hq]at hp ⊢;cases hc:clsS (q.drop 2)with
  |none=>rw[hc]at h;exact absurd rfl h
  |some p=>
   rw[hc]at h hp;simp only at h hp ⊢;rw[uj (q++x),ou x (by exact hl),hq,La rfl,xu hl,JI x hc];simp only;have h2:p.length<q.length:=by have h2:=(um _ hc).2;rw[Gc]at h2;omega
   exact uy h hp
 ·rename_i hq;rw[Ja hq]at hp ⊢;exact qd hp
termination_by q.length
decreasing_by omega
theorem AJ{c d:UInt8}(t x:Str):([47,42]:Str).isPrefixOf ((c::d::t)++x)=([47,42]:Str).isPrefixOf (c::d::t):=ou x (by show 2<=_;simp)
theorem JP{q x:Str}(h:2<=(cmtS q).length):cmtS (q++x)=cmtS q++x:=by refine uy (jr (by omega)) ?_;rw[ou x (by exact h)];exact ry q
theorem VP{c:UInt8}{r:Str}(h:(Zx (c::r)).2≠[]):2<=(c::r).length:=by have h1:=(Ol c r).length_le;have h2:=Af.2 h;rw[Fa];omega
theorem BO: ∀{ts:List zb} {q R:Str} (x:Str),run q ts R->4<=R.length->run (q++x) ts (R++x)
 |[],q,R,x,h,_=>by rw[run]at h;subst h;rfl
 |t::ts,q,R,x,h,hl=>by obtain⟨c,r,h1,h2,h3⟩:=h;have h4:=(ny h3).length_le;have h5:=zBA x (c:=c) (r:=r) (by omega);have h6:=VP (c:=c) (r:=r) (jr (by omega));refine⟨c,r++x,by rw[JP (by rw[h1];exact h6),h1];rfl,by rw[h5];exact h2,?_⟩;rw[h5];exact BO x h3 hl
theorem iH{q:Str}(y:Str)(h:cmtS q≠[]):cmtS (q++47::42::y)=cmtS q++47::42::y:=by
 refine uy h ?_;have hp:=ry q;cases hq:cmtS q with
 |nil=>exact absurd hq h
 |cons c t=>
  cases t with
  |nil=> show((47==c)&&((42==(47:UInt8))&&_))=false;rw[show((42:UInt8)==47)=false from rfl,Yc,Pe]
  |cons d u=>rw[AJ,<-hq];exact hp
theorem PH: ∀{ts:List zb} {q R:Str} (y:Str),run q ts R->R≠[]->run (q++47::42::y) ts (R++47::42::y)
 |[],q,R,y,h,_=>by rw[run]at h;subst h;rfl
 |t::ts,q,R,y,h,hl=>by
  obtain⟨c,r,h1,h2,h3⟩:=h;have h4:(Zx (c::r)).2≠[]:=by intro e;have:=(ny h3).length_le;rw[e]at this;exact hl (Eg.1 (by simpa using this))
  have h5:=zD9 (42::y) h4;refine⟨c,r++47::42::y,by rw[iH y (by rw[h1];simp),h1];rfl,by rw[h5];exact h2,?_⟩;rw[h5];exact PH y h3 hl
def tY(q x:Str)(us:List zb):Prop:= ∃c r,cmtS q=c::r/\WN c r x/\(Zx (c::(r++x))).1=(Zx (c::r)).1/\qE (Zx (c::(r++x))).2=us
theorem GQ: ∀{ts us:List zb} {q R:Str} {x:Str},run q ts R->R≠[]->x≠[]->qE (q++x)=ts++us->run (q++x) ts (R++x)\/(R=[43]/\ ∃p,p<:+q/\tY p x us)
 |[],us,q,R,x,h,_,_,_=>by rw[run]at h;subst h;exact .inl rfl
 |t::ts,us,q,R,x,h,hl,hx,ht=>by
  obtain⟨c,r,h1,h2,h3⟩:=h;have h4:(Zx (c::r)).2≠[]:=by intro e;have:=(ny h3).length_le;rw[e]at this;exact hl (Eg.1 (by simpa using this))
  have hc:cmtS (q++x)=c::(r++x):=by rw[JP (by rw[h1];exact VP h4),h1];rfl
  rw[QZ hc,Db]at ht;injection ht with ht1 ht2;rcases D5 h4 hx (by rw[ht1,h2])with h5|h5
  ·rw[h5]at ht2;rcases GQ h3 hl hx ht2 with h6|⟨h6,p,hp,h7⟩
   ·exact .inl ⟨c,r++x,hc,ht1,by rw[h5];exact h6⟩
   ·refine .inr ⟨h6,p,hp.trans ((Ol c r).trans ((He c r).trans ?_)),h7⟩;rw[<-h1];exact aj q
  ·right;have h43:=h5.2.1;have hR:R=[43]/\ts=[]:=by
    cases ts with
    |nil=>rw[run,h43]at h3;exact⟨h3.symm,rfl⟩
    |cons u us'=> exfalso;rw[h43]at h3;obtain⟨c',r',e1,e2,e3⟩:=h3;rw[show cmtS [43]=[43]from qd rfl]at e1;injection e1 with e4 e5;subst e4 e5;have:=(ny e3).length_le;have h9:=(Ol (43:UInt8) []).length_le;exact hl (Eg.1 (by simp only[Ib]at h9;omega))
   obtain⟨hR,rfl⟩:=hR;refine⟨hR,q,Ed _,c,r,h1,h5,by rw[ht1,h2],?_⟩;rw[ht2];rfl
def encB(p:UInt8->Bool):Str->Str
 |[]=>[]
 |c::r=>(bif p c then escC c else [c])++encB p r
def quoB(c:UInt8):Bool:=c==10||c==12||c==13||c==34||c==92
def urB(c:UInt8):Bool:=decide (c.toNat<=32)||c==34||c==39||c==40||c==41||c==92||c==127
def Rj:Str->Bool
 |[]=>false
 |c::r=>(c==101||c==69)&&numS r&& !(List.isPrefixOf [45,45] r)
def og:Str->Str
 |[]=>[]
 |c::r=>bif Rj (c::r)then escC c++encW false 0 r else Z8 (c::r)
def Bo(k:Int):Str:=
 bif k==13 then [32]else bif k==14 then [60,33,45,45]else bif k==15 then [45,45,62]else bif k==16 then [58]else bif k==17 then [59]else bif k==18 then [44]else
 bif k==19 then [91]else bif k==20 then [93]else bif k==21 then [40]else bif k==22 then [41]else bif k==23 then [123]else [125]
def txS(t:zb):Str:=
 bif t.kind==1 then Z8 t.text
 else bif t.kind==2 then Z8 t.text++[40]
 else bif t.kind==3 then 64::Z8 t.text
 else bif t.kind==4 then 35::(bif t.flag then Z8 t.text else encW false 0 t.text)
 else bif t.kind==5 then 34::(encB quoB t.text++[34])
 else bif t.kind==7 then [117,114,108,40]++(encB urB t.text++[41])
 else bif t.kind==9 then t.text
 else bif t.kind==10 then numT t.num (!t.flag)
 else bif t.kind==11 then numT t.num false++[37]
 else bif t.kind==12 then numT t.num (!t.flag)++og t.unit
 else Bo t.kind
theorem ym(p:UInt8->Bool): ∀l:Str,(encB p l).length<=4*l.length
 |[]=>by unfold encB;simp
 |c::r=>by
  have:=Dk c;have:=ym p r;unfold encB;rw[Ba,Fa];cases p c with
  |true=>rw[Da];omega
  |false=>rw[Ca,Va];omega
theorem zDB{p:UInt8->Bool}{i:Nat}{l:Str}(h:i<l.length):encB p (l.drop i)=(bif p l[i]then escC l[i]else [l[i]])++encB p (l.drop (i+1)):=by rw[Rb h,encB]
theorem rR {R:Type} {step:Int×List UInt8->Option (LO (Int×List UInt8) (List UInt8) R)} {l acc:Str} {p:UInt8->Bool} (hl:l.length<=100000) (ha:acc.length<=100000000)
  (h1: ∀(i:Nat) (a:Str) (hi:i<l.length),a.length<=500000000->step ((i:Int),a)=some (.again (w64 ((i:Int)+1),a++(bif p l[i]then escC l[i]else [l[i]]))))
  (h2: ∀a,step ((l.length:Int),a)=some (.out a)):bg step (0,acc)=some (.out (acc++encB p l)):=by
 refine ZM (fun z=> ∃(i:Nat) (a:Str),z=((i:Int),a)/\i<=l.length/\a.length<=acc.length+4*i/\a++encB p (l.drop i)=acc++encB p l) (fun z=>l.length - z.1.toNat) _ ?_ ⟨0,acc,rfl,by omega,by omega,rfl⟩;rintro _ ⟨i,a,rfl,hi,hal,he⟩;rcases Tc i l.length with h|h
 ·refine .inl ⟨_,h1 i a h (by omega),⟨i+1,_,by rw[zJ (by omega) (by omega)];rfl,by omega,?_,?_⟩,by simp only;rw[zJ (by omega) (by omega)];omega⟩
  ·have:=Dk l[i];rw[Ba];cases p l[i]with
   |true=>rw[Da];omega
   |false=>rw[Ca,Va];omega
  ·rw[<-he,zDB h,Na]
 ·have:i=l.length:=by omega
  subst this;refine .inr (.inl ⟨_,h2 a,?_⟩);rw[<-he,Be (Ya _)];rw[show encB p []=[] by rw[encB],ja]
theorem lJ{l acc:Str}{k:Nat}(hl:l.length<=100000)(ha:acc.length<=100000000):qY ((l,(k:Int)),acc)=some (acc++encW (Bq k l) k l):=by
 unfold qY;rw[Zd (zEW (dash:=Bq k l) (k:=k) (l:=l) (acc:=acc) hl ha (fun i a hi ha=> ?_) (fun a=> ?_))]
 ·have d1:decide ((i:Int)<(l.length:Int))=true:=Ha (by omega);have d2:geti l (i:Int)=some l[i]:=qA hi;have d3:decide ((i:Int)>=(k:Int))=(k - i==0):=by
   by_cases h:k<=i
   ·rw[Ha (by omega),show k - i=0 by omega];rfl
   ·rw[Xa (by omega)];symm;rw[Ia];omega
  have d4:((k:Int)==0)=(k==0):=by
   by_cases h:k=0
   ·subst h;rfl
   ·rw[Ia.2 h,Ia];omega
  simp only[d1,Da,d2,d3,d4,ze,Aa,zDQ,bO];have hd:(bif k==0 then true else !(l==[45]))= !Bq k l:=by unfold Bq;cases k==0<;>cases l==[45]<;>rfl
  rw[hd];unfold pcW;cases letB l[i]with
  |false=>
   cases k - i==0<;>simp only[zw,Yb,Lb,Pe,Yc,Oc,Da,Ca,Aa,Pv l[i] (show a.length<=1000000000 by omega),zh]
  |true=> cases k - i==0<;>cases digB l[i]<;>cases Bq k l<;>simp only[zw,Yb,Lb,Pe,Yc,Oc,Cf,Nf,Xb,Od,xe,Da,Ca,Aa,wy,zl (xh (show a.length+1<=2000000000 by omega)),Pv l[i] (show a.length<=1000000000 by omega),zh]
 ·simp only;rw[Xa (by omega),Ca]
theorem R8(l:Str):Bq (Z5 l) l=(l==[45]):=by unfold Bq Z5;split<;>rfl
theorem Ey{l acc:Str}(hl:l.length<=100000)(ha:acc.length<=100000000):qY ((l,((Z5 l:Nat):Int)),acc)=some (acc++Z8 l):=by rw[lJ hl ha,R8];rfl
theorem zDi{n:Nat}{b:Str}(hn:n<=1000000000000)(hb:b.length<=100000):Jr (((n:Int),10),b)=some (b++Lib.decDigits n):=by have hsh:short b=true:=Ha (by omega);unfold Jr;simp only[hsh,Oc,Ua,decide_true,Xb];rw[Ha (by omega),Ha (by omega)];rfl
theorem JV{m:Nat}(hm:m<=1000000000000)(p:Bool)(b:Str)(hb:b.length<=90000):
  ((Jr ((w64 (Int.tdiv (m:Int) 1000),10),b)).bind fun y2=>(lq (w64 (1000+Int.tmod (m:Int) 1000),10)).bind fun y3=>need (decide (1<=(y3.length:Int)))<|
   (Jo (List.drop 1 y3,[48])).bind fun y4=>Za (X:=List UInt8) (R:=List UInt8) (bif !(y4==[])then need (Zc y2.length 1 1)<|need (Zc (y2++[(46:UInt8)]).length y4.length 1)<|some (LX.out (y2++[(46:UInt8)]++y4))else bif p then need (Zc y2.length ([46,48]:Str).length 1)<|some (LX.out (y2++([46,48]:Str)))else some (LX.out y2)) fun j5=>some j5)=some (b++xg m p):=by
 have e1:w64 (Int.tdiv (m:Int) 1000)=((m / 1000:Nat):Int):=by rw[show Int.tdiv (m:Int) 1000=((m / 1000:Nat):Int)from rfl,zJ (by omega) (by omega)]
 have e2:w64 (1000+Int.tmod (m:Int) 1000)=((1000+m%1000:Nat):Int):=by rw[show Int.tmod (m:Int) 1000=((m%1000:Nat):Int)from rfl,zJ (by omega) (by omega)];omega
 have hr:m%1000<1000:=by omega
 rw[e1,e2];have f2:lq (((1000+m%1000:Nat):Int),10)=some (49::[d48 (m%1000 / 100),d48 (m%1000 / 10%10),d48 (m%1000%10)]):=by unfold lq i64B;simp only[decide_true,Xb];rw[Ha (by omega),Ha (by omega)];rw[<-VQ hr];show some (Lib.itoa _)=_;unfold Lib.itoa;rw[Ja (by omega),Ua]
 have hlen:=EA (u:=m / 1000) (by omega);rw[zDi (by omega) (by omega),Aa,f2,Aa,zl (Ha (by simp))];have f3:Jo (List.drop 1 (49::[d48 (m%1000 / 100),d48 (m%1000 / 10%10),d48 (m%1000%10)]),[48])=some (Si (m%1000)):=rfl;rw[f3,Aa,G6];have hf:=YE _ hr;simp only[Xx,Ga,jb]at hf;unfold xg jl;cases (Si (m%1000)).isEmpty with
 |true=>
  simp only[Yb,Ca,Da];cases p with
  |true=>rw[Da,zl (Vm (by rw[Ba];show _+2<=_;omega) (by omega)),zh,Na];rfl
  |false=>rw[Ca,zh,Ca,ja]
 |false=> simp only[Lb,Ca,Da];rw[zl (Vm (by rw[Ba];omega) (by omega)),zl (Vm (by rw[Ba,Ba,Va];omega) (by omega)),zh,Na,Na];rfl
theorem vK{n:Int}(h1: -1000000000000<=n)(h2:n<=1000000000000)(p:Bool){acc:Str}(ha:acc.length<=80000):QU ((n,p),acc)=some (acc++numT n p):=by
 unfold QU numT;simp only[ze];by_cases hn:n<0
 ·obtain⟨m,rfl⟩: ∃m:Nat,n= -(m:Int):=⟨n.natAbs,by omega⟩;rw[Ha hn,Da,zl (Vm (by omega) (by omega)),zh,La hn];simp only;have e0:w64 (0 - -(m:Int))=(m:Int):=by rw[show(0 - -(m:Int))=(m:Int) by omega,zJ (by omega) (by omega)]
  rw[e0,Int.natAbs_neg,Int.natAbs_natCast,<-Na];exact JV (by omega) p (acc++[45]) (by rw[Ba,Va];omega)
 ·obtain⟨m,rfl⟩: ∃m:Nat,n=(m:Int):=⟨n.toNat,by omega⟩;rw[Xa hn,Ca,zh,Ja hn];simp only;rw[Int.natAbs_natCast,Nc];exact JV (by omega) p acc (by omega)
theorem zDZ: ∀n:Nat,n<256->(ibOr IntKind.u8 (n:Int) 32==101)=(UInt8.ofNat n==101||UInt8.ofNat n==69):=by decide+kernel
theorem zDY(c:UInt8):(ibOr IntKind.u8 (c.toNat:Int) 32==101)=(c==101||c==69):=by
 have:=zDZ c.toNat (Ob c)
 rwa [Mc]at this
theorem zEu(c:UInt8):decide (Lib.indexByte [10,12,13,34,92] c.toNat.toUInt8>=0)=quoB c:=by
 have: ∀n:Nat,n<256->decide (Lib.indexByte [10,12,13,34,92] n.toUInt8>=0)=quoB (UInt8.ofNat n):=by decide+kernel
 have:=this c.toNat (Ob c)
 rwa [Mc]at this
theorem zEQ(c:UInt8):(decide ((c.toNat:Int)<=32)||decide (Lib.indexByte [34,39,40,41,92,127] c.toNat.toUInt8>=0))=urB c:=by
 have: ∀n:Nat,n<256->(decide ((n:Int)<=32)||decide (Lib.indexByte [34,39,40,41,92,127] n.toUInt8>=0))=urB (UInt8.ofNat n):=by decide+kernel
 have:=this c.toNat (Ob c)
 rwa [Mc]at this
theorem BV {t:zb} (h:ig t=true) (h1:(t.kind==1)=false) (h2:(t.kind==2)=false) (h3:(t.kind==3)=false) (h4:(t.kind==4)=false) (h5:(t.kind==5)=false) (h7:(t.kind==7)=false) (h9:(t.kind==9)=false)
  (h10:(t.kind==10)=false) (h11:(t.kind==11)=false) (h12:(t.kind==12)=false):13<=t.kind/\t.kind<=24:=by
 unfold ig at h;simp only[h1,h2,h3,h4,h5,h7,h9,h10,h11,h12,Bool.or_self,Ca,Ga,jb]at h;exact h.1
theorem zBr: ∀n:Nat,n<12->(UA ()).bind (fun y35=>geti [y35.e0,y35.e1,y35.e2,y35.e3,y35.e4,y35.e5,y35.e6,y35.e7,y35.e8,y35.e9,y35.e10,y35.e11] (wu8 ((13+n:Int) - 13)))=some (Bo (13+n:Int)):=by decide+kernel
theorem EK(k:Int):(Bo k).length<=4:=by
 unfold Bo;cases k==13<;>cases k==14<;>cases k==15<;>simp only[Da,Ca]<;>try (simp;done)
 all_goals (repeat' (first|(simp;done)|(apply Decidable.byContradiction;intro h;revert h;rw[Bool.cond_eq_ite];split)))
theorem zCi{t:zb}{acc:Str}(hf:ig t=true)(h1:t.text.length<=5000)(h2:t.unit.length<=5000)(ha:acc.length<=60000):Dw (t,acc)=some (acc++txS t):=by
 have one: ∀q:Str,q.length<=90000->Zc q.length 1 1=true:=fun q hq=>Vm (by omega) (by omega);have hnl: ∀l:Str,l.length<=5000->(Z8 l).length<=20000:=fun l hl=>by have:=Jl (l==[45]) (Z5 l) l;unfold Z8;omega
 unfold Dw txS;simp only[ze];cases k1:t.kind==1 with
 |true=>simp only[Da,Rz,Aa,Ey (show t.text.length<=100000 by omega) (show acc.length<=100000000 by omega)]
 |false=>
 cases k2:t.kind==2 with
 |true=> simp only[Da,Ca,Rz,Aa,Ey (show t.text.length<=100000 by omega) (show acc.length<=100000000 by omega)];have:=hnl t.text h1;rw[zl (one _ (by rw[Ba];omega)),Na]
 |false=>
 cases k3:t.kind==3 with
 |true=> simp only[Da,Ca,Rz,Aa];rw[zl (one _ (by omega)),Ey (by omega) (by rw[Ba,Va];omega),Na];rfl
 |false=>
 cases k4:t.kind==4 with
 |true=>
  simp only[Da,Ca,Rz,Aa];cases t.flag with
  |true=> simp only[Da,zh];rw[zl (one _ (by omega)),Ey (by omega) (by rw[Ba,Va];omega),Na];rfl
  |false=> simp only[Ca,zh];rw[zl (one _ (by omega)),show(0:Int)=((0:Nat):Int)from rfl,lJ (by omega) (by rw[Ba,Va];omega),Na];rfl
 |false=>
 cases k5:t.kind==5 with
 |true=>
  simp only[Da,Ca];have hml:maxLen=9223372036854775807:=rfl;rw[zl (one _ (by omega)),zl (Ha (by omega))];have hel:=ym quoB t.text;rw[Zd (rR (p:=quoB) (l:=t.text) (acc:=acc++[34]) (by omega) (by rw[Ba,Va];omega) (fun i a hi hal=> ?_) (fun a=> ?_))]
  ·rw[zl (one _ (by simp only[Ba,Va];omega)),Na,Na];rfl
  ·have d1:decide ((i:Int)<(t.text.length:Int))=true:=Ha (by omega);have d0:decide ((0:Int)<=(i:Int))=true:=Ha (by omega);simp only[d1,d0,Oc,Da,Zr,Ua,Ma hi,Aa,yF,zEu];cases quoB t.text[i]with
   |true=>simp only[Da,Pv _ (show a.length<=1000000000 by omega),Aa,zh]
   |false=>simp only[Ca,wy,Aa,zl (xh (show a.length+1<=2000000000 by omega)),zh]
  ·simp only;rw[Xa (by omega),Ca]
 |false=>
 cases k7:t.kind==7 with
 |true=>
  simp only[Da,Ca];have hml:maxLen=9223372036854775807:=rfl;rw[zl (Vm (by show _+4<=_;omega) (by omega)),zl (Ha (by omega))];have hel:=ym urB t.text;rw[Zd (rR (p:=urB) (l:=t.text) (acc:=acc++[117,114,108,40]) (by omega) (by rw[Ba];show _+4<=_;omega) (fun i a hi hal=> ?_) (fun a=> ?_))]
  ·rw[zl (one _ (by simp only[Ba];show _+4+_<=_;omega)),Na,Na]
  ·have d1:decide ((i:Int)<(t.text.length:Int))=true:=Ha (by omega);have d0:decide ((0:Int)<=(i:Int))=true:=Ha (by omega);simp only[d1,d0,Oc,Da,Zr,Ua,Ma hi,Aa,yF];rw[<-zEQ];cases decide ((t.text[i].toNat:Int)<=32)with
   |true=>simp only[Yb,zO,Aa,Da,xe,Pv _ (show a.length<=1000000000 by omega),zh]
   |false=>
    simp only[Lb,zH,Aa,Ca,Od];cases decide (Lib.indexByte [34,39,40,41,92,127] t.text[i].toNat.toUInt8>=0)with
    |true=>simp only[Da,Pv _ (show a.length<=1000000000 by omega),Aa,zh]
    |false=>simp only[Ca,wy,Aa,zl (xh (show a.length+1<=2000000000 by omega)),zh]
  ·simp only;rw[Xa (by omega),Ca]
 |false=>
 cases k9:t.kind==9 with
 |true=> simp only[Da,Ca];rw[zl (Vm (by omega) (by omega))]
 |false=>
 have rng:(t.kind==10||t.kind==11||t.kind==12)=true->rngS t=true/\(!(t.unit==[])==(t.kind==12))=true:=by intro hk;unfold ig at hf;simp only[k1,k2,k3,k4,k5,k7,k9,hk,Bool.or_self,Ca,Da,Ga]at hf;exact⟨hf.1,hf.2.1⟩
 have nums:rngS t=true-> -1000000000000<=t.num/\t.num<=1000000000000:=by intro hr;unfold rngS at hr;simp only[Ga,jb]at hr;exact⟨hr.1,hr.2.1⟩
 cases k10:t.kind==10 with
 |true=> obtain⟨r1,r2⟩:=nums (rng (by rw[k10];rfl)).1;simp only[Da,Ca,vK r1 r2 _ (show acc.length<=80000 by omega),Aa]
 |false=>
 cases k11:t.kind==11 with
 |true=>
  obtain⟨r1,r2⟩:=nums (rng (by rw[k11,Cf];rfl)).1;have hT:(numT t.num false).length<=25:=by
   have:=gz (m:=t.num.natAbs) (by omega) false;unfold numT;rw[Ba];split
   ·rw[Va];omega
   ·rw[Ib];omega
  simp only[Da,Ca,vK r1 r2 _ (show acc.length<=80000 by omega),Aa];rw[zl (one _ (by rw[Ba];omega)),Na]
 |false=>
 cases k12:t.kind==12 with
 |true=>
  obtain⟨hr,hu⟩:=rng (by rw[k12,Cf]);obtain⟨r1,r2⟩:=nums hr;rw[k12]at hu;have hT:(numT t.num (!t.flag)).length<=25:=by
   have:=gz (m:=t.num.natAbs) (by omega) (!t.flag);unfold numT;rw[Ba];split
   ·rw[Va];omega
   ·rw[Ib];omega
  simp only[Da,Ca,vK r1 r2 _ (show acc.length<=80000 by omega),Aa];cases hun:t.unit with
  |nil=>rw[hun]at hu;exact absurd hu (by decide)
  |cons c r=>
   rw[hun,Fa]at h2;have hg:geti (c::r) 0=some c:=rfl;have hd1:List.drop 1 (c::r)=r:=rfl;have hlen1:decide (1<=((c::r:Str).length:Int))=true:=Ha (by rw[Fa];omega);simp only[hg,hd1,hlen1,xe,Zr,Aa,zDY,OX,Aw,Rz];have hacc:(acc++numT t.num (!t.flag)).length<=100000000:=by rw[Ba];omega
   have hname:=Ey (l:=c::r) (acc:=acc++numT t.num (!t.flag)) (by rw[Fa];omega) hacc;have hunit:og (c::r)=(bif (c==101||c==69)&&numS r&& !(List.isPrefixOf [45,45] r)then escC c++encW false 0 r else Z8 (c::r)):=rfl;rw[hunit];have he:(c==101||c==69)=true->qg ((c.toNat:Int),acc++numT t.num (!t.flag))=some (acc++numT t.num (!t.flag)++escC c):=fun _=>Pv c (by rw[Ba];omega);cases hc:c==101||c==69 with
   |false=> simp only[zO,Aa,Ca,Yc,hname];rw[Na]
   |true=>
    simp only[zH,Aa,Da,Xb];cases hn:numS r with
    |false=> simp only[zO,Aa,Ca,Yc,hname];rw[Na]
    |true=>
     simp only[zH,Aa,Da,Xb];cases hp:List.isPrefixOf [45,45] r with
     |true=> simp only[Yb,Ca,hname,Aa];rw[Na]
     |false=> simp only[Lb,Da,he hc,Aa];have hesc:=Dk c;rw[show(0:Int)=((0:Nat):Int)from rfl,lJ (by omega) (by rw[Ba,Ba];omega)];rw[Na,Na];rfl
 |false=>
 obtain⟨hk1,hk2⟩:=BV hf k1 k2 k3 k4 k5 k7 k9 k10 k11 k12;obtain⟨n,hn⟩: ∃n:Nat,t.kind=13+(n:Int):=⟨(t.kind - 13).toNat,by omega⟩;have hg:=zBr n (by omega);rw[<-hn]at hg;have hml:=EK t.kind;simp only[Ca];have hm:UA ()=some ⟨[32],[60,33,45,45],[45,45,62],[58],[59],[44],[91],[93],[40],[41],[123],[125]⟩:=rfl;rw[hm]at hg ⊢;simp only[Aa]at hg ⊢;rw[hg];simp only[Aa];rw[zl (Vm (by omega) (by omega))]
theorem Sr{c:UInt8}(h0:c≠0)(h:c.toNat<128)(R:Str): ∃d t,escC c++R=92::d::t/\(d==10)=false/\zq (d::t)=([c],R):=by
 unfold escC;cases hg:decide (32<c.toNat)&&decide (c.toNat<127)&& !digB c&& !alB c with
 |true=>
  have hx:qL c=false/\(c==10)=false:=by
   have: ∀n:Nat,n<256->(decide (32<(UInt8.ofNat n).toNat)&&decide ((UInt8.ofNat n).toNat<127)&& !digB (UInt8.ofNat n)&& !alB (UInt8.ofNat n))=true->qL (UInt8.ofNat n)=false/\(UInt8.ofNat n==10)=false:=by decide+kernel
   have:=this c.toNat (Ob c);rw[Mc]at this;exact this hg
  exact⟨c,R,rfl,hx.2,by show(if qL c then _ else _)=_;grind⟩
 |false=> obtain⟨d,t,e,hd,h10⟩:=jK (n:=c.toNat) (Ob c) ([32]++R);refine⟨d,t,by grind,h10,?_⟩;have hh:=XO (n:=c.toNat) (Ob c) R;rw[show(32::R:Str)=[32]++R from rfl,e]at hh;show(if qL d then(Nh (hexes 6 0 (d::t)).1,unsp (hexes 6 0 (d::t)).2)else _)=_;rw[La hd,hh,XR h0 h];rfl
theorem zES(n:Nat):Nh n≠[]:=by
 unfold Nh Wl
 grind
theorem N8(r:Str):(zq r).1≠[]:=by
 cases r with
 |nil=>show Wl≠[];decide
 |cons c r=>
  show(if qL c then(Nh (hexes 6 0 (c::r)).1,unsp (hexes 6 0 (c::r)).2)else([c],r)).1≠[];split
  ·exact zES _
  ·simp
theorem JF{x:Str}(h:(zo x).1=[]):(zo x).2=x:=by
 cases x with
 |nil=>rw[qV]
 |cons c r=>
  rw[zM]at h ⊢;split
  ·grind
  ·rename_i hl;rw[Ja hl]at h;split
   ·rename_i he;rw[La he]at h;exact absurd (mg.1 h).1 (N8 r)
   ·rfl
theorem Q7{c:UInt8}{r:Str}(h:Zz (c::r)=true):c≠0/\Zz r=true:=by
 unfold Zz at h ⊢
 grind
theorem SK{dash:Bool}(R:Str): ∀(k:Nat) (l:Str),Zz l=true->(dash=true-> ∀c∈l,c.toNat<128)->zo (encW dash k l++R)=(l++(zo R).1,(zo R).2)
 |_,[],_,_=>by rw[encW];rfl
 |k,c::r,h,hd=>by obtain⟨h1,h2⟩:=Q7 h;rw[encW,Na,MO h1 (fun e=>hd e c (Pb ..)),SK R (k - 1) r h2 (fun e x hx=>hd e x (Ub _ hx))];rfl
theorem Ep{l:Str}(R:Str)(h:Zz l=true):zo (Z8 l++R)=(l++(zo R).1,(zo R).2):=by refine SK R _ _ h (fun e c hc=> ?_);simp_all
theorem UR{l:Str}(R:Str)(k:Nat)(h:Zz l=true):zo (encW false k l++R)=(l++(zo R).1,(zo R).2):=SK R k l h (fun e=>by cases e)
theorem uZ(c:UInt8):(quoB c=true->c.toNat<128)/\(quoB c=false->(c==34)=false/\(c==10)=false/\(c==92)=false):=by
 have: ∀n:Nat,n<256->(quoB (UInt8.ofNat n)=true->(UInt8.ofNat n).toNat<128)/\(quoB (UInt8.ofNat n)=false->(UInt8.ofNat n==34)=false/\(UInt8.ofNat n==10)=false/\(UInt8.ofNat n==92)=false):=by decide+kernel
 have:=this c.toNat (Ob c);simp_all
theorem MQ(x:Str): ∀(l:Str),Zz l=true->zW 34 (encB quoB l++34::x)=(some l,x)
 |[],_=>by rw[encB,Nc,Qo,La (by decide)]
 |c::r,h=>by
  obtain⟨h1,h2⟩:=Q7 h;have ih:=MQ x r h2;obtain⟨f1,f2⟩:=uZ c;rw[encB,Na];cases hq:quoB c with
  |true=>
   obtain⟨d,t,e1,e2,e3⟩:=Sr h1 (f1 hq) (encB quoB r++34::x);rw[Da,e1,Qo,Ja (by decide),Ja (by decide),La (by decide),show(d::t).isEmpty=false from rfl,Ja (by decide),show atS (d::t) 0=d from rfl,e2,Ja (by decide),e3]
   grind
  |false=> obtain⟨g1,g2,g3⟩:=f2 hq;rw[Ca,Ad,Qo,g1,Ja (by decide),g2,Ja (by decide),g3,Ja (by decide),ih];rfl
theorem uP(c:UInt8):(urB c=true->c.toNat<128)/\(urB c=false->(c==41)=false/\spB c=false/\(c==34||c==39||c==40||unB c)=false/\(c==92)=false/\(c==34)=false/\(c==39)=false):=by
 have: ∀n:Nat,n<256->(urB (UInt8.ofNat n)=true->(UInt8.ofNat n).toNat<128)/\(urB (UInt8.ofNat n)=false->(UInt8.ofNat n==41)=false/\spB (UInt8.ofNat n)=false/\(UInt8.ofNat n==34||UInt8.ofNat n==39||UInt8.ofNat n==40||unB (UInt8.ofNat n))=false/\(UInt8.ofNat n==92)=false/\(UInt8.ofNat n==34)=false/\(UInt8.ofNat n==39)=false):=by decide+kernel
 have:=this c.toNat (Ob c);simp_all
theorem LQ(x:Str): ∀(l:Str),Zz l=true->urlS (encB urB l++41::x)=(some l,x)
 |[],_=>by rw[encB,Nc,Q0,La (by decide)]
 |c::r,h=>by
  obtain⟨h1,h2⟩:=Q7 h;have ih:=LQ x r h2;obtain⟨f1,f2⟩:=uP c;rw[encB,Na];cases hq:urB c with
  |true=>
   obtain⟨d,t,e1,e2,e3⟩:=Sr h1 (f1 hq) (encB urB r++41::x);have he:escS (92::d::t)=true:=by unfold escS;rw[show atS (92::d::t) 1=d from rfl,e2];rfl
   rw[Da,e1,Q0,Ja (by decide),Ja (by decide),he,Ja (by decide),La (by decide),e3]
   grind
  |false=> obtain⟨g1,g2,g3,g4,_,_⟩:=f2 hq;rw[Ca,Ad,Q0,g1,Ja (by decide),g2,Ja (by decide),g3,g4,Yc,Nf,Ja (by decide),Ja (by decide),ih];rfl
theorem zCu(x:Str)(l:Str)(h:Zz l=true):past spB (encB urB l++41::x)=encB urB l++41::x/\(atS (encB urB l++41::x) 0==34||atS (encB urB l++41::x) 0==39)=false:=by
 cases l with
 |nil=>exact⟨rfl,rfl⟩
 |cons c r=>
  obtain⟨h1,h2⟩:=Q7 h;obtain⟨f1,f2⟩:=uP c;rw[encB,Na];cases hq:urB c with
  |true=> obtain⟨d,t,e1,e2,e3⟩:=Sr h1 (f1 hq) (encB urB r++41::x);rw[Da,e1];exact⟨rfl,rfl⟩
  |false=> obtain⟨g1,g2,g3,g4,g5,g6⟩:=f2 hq;rw[Ca,Ad];refine⟨by rw[past,g2];rfl,?_⟩;show(c==34||c==39)=false;rw[g5,g6];rfl
theorem zEj{n:Int}{p:Bool}:(partT (n.natAbs%1000) p).isEmpty=((n.natAbs%1000==0)&& !p):=(Br (r:=n.natAbs%1000) (by omega) p).2.2.2.2
def sgT(n:Int):Str:=if n<0 then [45]else []
theorem Fy(n:Int)(p:Bool):numT n p=sgT n++(Lib.decDigits (n.natAbs / 1000)++dotS (if(partT (n.natAbs%1000) p).isEmpty then none else some (partT (n.natAbs%1000) p))):=by
 have h:=(Br (r:=n.natAbs%1000) (by omega) p).2.2.2.1;unfold numT xg sgT;rw[h];cases (partT (n.natAbs%1000) p).isEmpty with
 |true=>rfl
 |false=>rfl
theorem q2_T(n:Int)(p:Bool)(x:Str):Mg (numT n p++x)=past digB (dotS (if(partT (n.natAbs%1000) p).isEmpty then none else some (partT (n.natAbs%1000) p))++x):=by
 obtain⟨d1,d2,d3⟩:=bu (n.natAbs / 1000);obtain⟨c,r,hc,hcd⟩:=Sz (n.natAbs / 1000);rw[Fy];generalize dotS _=t;unfold Mg;have hu:unsign ((sgT n++(Lib.decDigits (n.natAbs / 1000)++t))++x)=Lib.decDigits (n.natAbs / 1000)++(t++x):=by
  unfold sgT;split
  ·rw[Na,Ad,Na];rfl
  ·rw[Nc,Na,hc,Db];unfold unsign ag;rw[show atS (c::(r++(t++x))) 0=c from rfl,Ia.2 (QB hcd).2.1,Ia.2 (QB hcd).1];rfl
 rw[hu,Yz _ _ d1]
theorem oJ{n:Int}{p:Bool}:(partT (n.natAbs%1000) p).all digB=true:=(Br (r:=n.natAbs%1000) (by omega) p).1
theorem dI{n:Int}{p:Bool}(h:(partT (n.natAbs%1000) p).isEmpty=true)(x:Str):zy (numT n p++x)=(match expS (zT (past digB x)).1 with|some r=>(r,false)|none=>zT (past digB x)):=by rw[QE,q2_T,h];rfl
theorem bH{n:Int}{p:Bool}(h:(partT (n.natAbs%1000) p).isEmpty=false)(x:Str):zy (numT n p++x)=(match expS (past digB x)with|some r=>(r,false)|none=>(past digB x,false)):=by
 obtain⟨c,r,hp⟩: ∃c r,partT (n.natAbs%1000) p=c::r:=by
  cases hh:partT (n.natAbs%1000) p with
  |nil=>grind
  |cons c r=>grind
 have hd:=oJ (n:=n) (p:=p);rw[QE,q2_T,h];have hq:past digB (dotS (some (partT (n.natAbs%1000) p))++x)=46::(partT (n.natAbs%1000) p++x):=rfl;rw[show(if false=true then none else some (partT (n.natAbs%1000) p))=some (partT (n.natAbs%1000) p)from rfl,hq];have hw:zT (46::(partT (n.natAbs%1000) p++x))=(past digB x,false):=by
  have hc:digB c=true:=by rw[hp,Sd,Ga]at hd;exact hd.1
  unfold zT;rw[show atS (46::(partT (n.natAbs%1000) p++x)) 1=c by rw[hp];rfl,hc,show(atS (46::(partT (n.natAbs%1000) p++x)) 0==46&&true)=true from rfl,La rfl];rw[show(46::(partT (n.natAbs%1000) p++x)).drop 1=partT (n.natAbs%1000) p++x from rfl,Yz _ _ hd]
 grind
theorem dY(n:Int)(p:Bool)(x:Str):nbS (numT n p++x)=true:=by
 obtain⟨c,r,hc,hcd⟩:=Sz (n.natAbs / 1000);rw[Fy,hc];unfold nbS;have hu:unsign ((sgT n++(c::r++dotS (if(partT (n.natAbs%1000) p).isEmpty then none else some (partT (n.natAbs%1000) p))))++x)=c::(r++dotS (if(partT (n.natAbs%1000) p).isEmpty then none else some (partT (n.natAbs%1000) p))++x):=by
  unfold sgT;split
  ·rfl
  ·unfold unsign ag;show(if(c==43||c==45)then _ else _)=_;rw[Ia.2 (QB hcd).2.1,Ia.2 (QB hcd).1];rfl
 rw[hu];unfold undot;rw[show atS (c::(r++dotS (if(partT (n.natAbs%1000) p).isEmpty then none else some (partT (n.natAbs%1000) p))++x)) 0=c from rfl,Ia.2 (QB hcd).2.2.1,Ja (by decide)];exact hcd
theorem GN{n:Int}(h1: -1000000000000<=n)(h2:n<=1000000000000){p:Bool}{x:Str}(he:(zy (numT n p++x)).1=x):(numP (numT n p++x)).val=n:=by
 have h:=EF (numT n p++x);rw[he]at h;have hok:=MC (dY n p x);have hl:=(Eo h1 h2 p).1;have he2:=zn6 h1 h2 p;generalize numP (numT n p++x)=N at h hok ⊢;have ht:N.txt=numT n p:=(List.append_left_inj x).1 h;rw[<-ht]at he2 hl;have h3:=oW hok (Bc hl (by decide));rw[he2]at h3
 grind
theorem jq(n:Int)(p:Bool)(x:Str): ∃c r,numT n p++x=c::r/\(c==45||digB c)=true/\spB c=false/\(c==34||c==39)=false/\(c==35)=false/\c≠47:=by
 obtain⟨c,r,hc,hcd⟩:=Sz (n.natAbs / 1000);have key: ∀d:UInt8,(d==45||digB d)=true->spB d=false/\(d==34||d==39)=false/\(d==35)=false/\d≠47:=by
  intro d;have: ∀n:Nat,n<256->(UInt8.ofNat n==45||digB (UInt8.ofNat n))=true->spB (UInt8.ofNat n)=false/\(UInt8.ofNat n==34||UInt8.ofNat n==39)=false/\(UInt8.ofNat n==35)=false/\UInt8.ofNat n≠47:=by decide+kernel
  have:=this d.toNat (Ob d)
  rwa [Mc]at this
 rw[Fy,hc];unfold sgT
 grind
theorem Dy(n:Int)(p:Bool)(x:Str):Zx (numT n p++x)=zB (numT n p++x):=by obtain⟨c,r,hc,h1,h2,h3,h4,h5⟩:=jq n p x;have hnb:=dY n p x;rw[hc]at hnb ⊢;rw[Wv,h2,Ja (by decide),h3,Ja (by decide),h4,Yc,Ja (by decide),hnb,La rfl]
inductive zgM:zb->Prop
 |cId (l:Str) (h0:l≠[]) (h:Zz l=true):zgM ⟨1,l,0,[],false⟩
 |cFn (l:Str) (h0:l≠[]) (h:Zz l=true):zgM ⟨2,l,0,[],false⟩
 |cAt (l:Str) (h0:l≠[]) (h:Zz l=true):zgM ⟨3,l,0,[],false⟩
 |cHash (l:Str) (f:Bool) (h0:l≠[]) (h:Zz l=true) (hb:f=true\/ek l=true):zgM ⟨4,l,0,[],f⟩
 |cStr (l:Str) (h:Zz l=true):zgM ⟨5,l,0,[],false⟩
 |cUrl (l:Str) (h:Zz l=true):zgM ⟨7,l,0,[],false⟩
 |cDel (c:UInt8) (h:si c.toNat=true):zgM ⟨9,[c],0,[],false⟩
 |cNum (n:Int) (f:Bool) (h1: -1000000000000<=n) (h2:n<=1000000000000) (hf:f=true->Int.tmod n 1000=0):zgM ⟨10,[],n,[],f⟩
 |cPct (n:Int) (h1: -1000000000000<=n) (h2:n<=1000000000000):zgM ⟨11,[],n,[],false⟩
 |cDim (n:Int) (u:Str) (f:Bool) (h1: -1000000000000<=n) (h2:n<=1000000000000) (hf:f=true->Int.tmod n 1000=0) (h0:u≠[]) (h:Zz u=true):zgM ⟨12,[],n,u,f⟩
 |cMark (k:Int) (h1:13<=k) (h2:k<=24):zgM ⟨k,[],0,[],false⟩
theorem Xq{t:zb}(h:ig t=true):zgM t:=by
 obtain⟨k,l,n,u,f⟩:=t;unfold ig at h;simp only at h;by_cases h1:(k==1||k==2||k==3)=true
 ·rw[h1,Da]at h;simp only[Ga,Rf,Ia,Jb]at h;obtain⟨a,b,rfl,rfl,rfl⟩:=h;simp only[Pd,Jb]at h1;rcases h1 with(rfl|rfl)|rfl
  ·exact .cId l a b
  ·exact .cFn l a b
  ·exact .cAt l a b
 ·rw[Bool.not_eq_true]at h1;rw[h1,Ca]at h;by_cases h4:(k==4)=true
  ·rw[h4,Da]at h;simp only[Ga,Rf,Ia,Jb,Pd]at h;obtain⟨a,b,c,rfl,rfl⟩:=h;rw[Jb]at h4;subst h4;exact .cHash l f a b c
  ·rw[Bool.not_eq_true]at h4;rw[h4,Ca]at h;by_cases h5:(k==5||k==7)=true
   ·rw[h5,Da]at h;simp only[Ga,Rf,Jb]at h;obtain⟨b,rfl,rfl,rfl⟩:=h;simp only[Pd,Jb]at h5;rcases h5 with rfl|rfl
    ·exact .cStr l b
    ·exact .cUrl l b
   ·rw[Bool.not_eq_true]at h5;rw[h5,Ca]at h;by_cases h9:(k==9)=true
    ·rw[h9,Da]at h;simp only[Ga,Rf,Jb]at h;obtain⟨b,rfl,rfl,rfl⟩:=h;rw[Jb]at h9;subst h9;unfold delS at b;split at b
     ·exact .cDel _ b
     ·cases b
    ·rw[Bool.not_eq_true]at h9;rw[h9,Ca]at h;by_cases h10:(k==10||k==11||k==12)=true
     ·rw[h10,Da]at h;unfold rngS at h;simp only[Ga,jb,Pd,Rf,Jb]at h;obtain⟨⟨a1,a2,a3⟩,a4,a5,a6,rfl⟩:=h;have hf:f=true->Int.tmod n 1000=0:=by
       intro e;rcases a3 with a3|a3
       ·grind
       ·exact a3
      simp only[Pd,Jb]at h10;rcases h10 with(rfl|rfl)|rfl
      ·have:u=[]:=by
        cases u with
        |nil=>rfl
        |cons c r=>grind
       subst this;exact .cNum n f a1 a2 hf
      ·have:u=[]:=by
        cases u with
        |nil=>rfl
        |cons c r=>grind
       subst this;have:f=false:=by
        rcases a6 with a6|a6
        ·grind
        ·exact a6
       subst this;exact .cPct n a1 a2
      ·have:u≠[]:=by rintro rfl;exact absurd a4 (by decide)
       exact .cDim n u f a1 a2 hf this a5
     ·rw[Bool.not_eq_true]at h10;rw[h10,Ca]at h;simp only[Ga,Rf,jb,Jb]at h;obtain⟨⟨a1,a2⟩,rfl,rfl,rfl,rfl⟩:=h;exact .cMark k a1 a2
def neu(x:Str):Prop:=x=[]\/ ∃y,x=47::y
theorem zE9{x:Str}(hx:neu x)(c:UInt8)(r:Str):brS c (r++x)=brS c r:=by
 rcases hx with rfl|⟨y,rfl⟩
 ·grind
 ·exact OY c r y
theorem NC{x:Str}(hx:neu x)(q:Str):nmS (q++x)=nmS q:=by
 rcases hx with rfl|⟨y,rfl⟩
 ·grind
 ·exact jw q y
theorem KF{x:Str}(hx:neu x):zo x=([],x):=by
 rcases hx with rfl|⟨y,rfl⟩
 ·exact qV
 ·rw[zM,Ja (by decide),show escS (47::y)=false from rfl,Ja (by decide)]
theorem PP{p:UInt8->Bool}(h:p 47=false){x:Str}(hx:neu x):past p x=x:=by
 rcases hx with rfl|⟨y,rfl⟩
 ·rfl
 ·rw[past,h];rfl
theorem zE5{x:Str}(hx:neu x):atS x 0=0\/atS x 0=47:=by
 rcases hx with rfl|⟨y,rfl⟩
 ·exact .inl rfl
 ·exact .inr rfl
theorem RU(c:UInt8)(r:Str):Rj (c::r)=((c==101||c==69)&&numS r&& !(List.isPrefixOf [45,45] r)):=rfl
theorem BK(b:UInt8)(r:Str):numS (b::r)=bif b==45 then !(r==[])&&digN (r.headD 0).toNat else digN b.toNat:=rfl
theorem PM{c:UInt8}{r:Str}(h:Rj (c::r)=true):c=101\/c=69:=by
 unfold Rj at h
 grind
theorem zA1{d:UInt8}{t:Str}(h:(d==10)=false):escS (92::d::t)=true:=by unfold escS;rw[show atS (92::d::t) 1=d from rfl,h];rfl
theorem Tn(c:UInt8)(r:Str):og (c::r)=bif Rj (c::r)then escC c++encW false 0 r else Z8 (c::r):=rfl
theorem WL{w:Str}(h0:w≠[])(h:Zz w=true)(x:Str):zo (og w++x)=(w++(zo x).1,(zo x).2):=by
 cases w with
 |nil=>grind
 |cons c r=>
  obtain⟨h1,h2⟩:=Q7 h;rw[Tn];cases he:Rj (c::r)with
  |true=>
   have hc:c.toNat<128:=by rcases PM he with rfl|rfl<;>decide
   rw[Da,Na,NQ h1 hc,UR x 0 h2];rfl
  |false=>rw[Ca];exact Ep x h
theorem sH{w:Str}(h0:w≠[])(h:Zz w=true):nmS (og w)=true:=by
 cases w with
 |nil=>grind
 |cons c r=>
  obtain⟨h1,h2⟩:=Q7 h;rw[Tn];cases he:Rj (c::r)with
  |true=>
   have hc:c.toNat<128:=by rcases PM he with rfl|rfl<;>decide
   obtain⟨d,t,e1,e2,_⟩:=Sr h1 hc (encW false 0 r);rw[Da,e1];exact CZ rfl (zA1 e2)
  |false=>rw[Ca];exact wm (by simp)
theorem Tm{q:Str}(h:nmS q=true):q≠[]:=by rintro rfl;exact absurd h (by decide)
theorem bI{q:Str}(h:nmS q=true)(x:Str):past digB (q++x)=q++x/\zT (q++x)=(q++x,true):=by
 obtain⟨_,_,_,_,_,_,_,_,h46,hdg,_⟩:=Cy (Nt h);cases q with
 |nil=>exact absurd rfl (Tm h)
 |cons c r=> refine⟨by rw[Db,past,show digB c=false from hdg];rfl,?_⟩;unfold zT;rw[show atS ((c::r)++x) 0=c from rfl,show(c==46)=false from h46];rfl
theorem wP{w:Str}(h0:w≠[])(h:Zz w=true)(x:Str):expS (og w++x)=none\/ ∃e s,(e=101\/e=69)/\(s=[]\/s=[45])/\w=e::s/\og w=e::s:=by
 cases w with
 |nil=>grind
 |cons c r=>
  obtain⟨h1,h2⟩:=Q7 h;have he92: ∀t:Str,expS (92::t)=none:=fun t=>rfl;cases he:Rj (c::r)with
  |true=>
   left;have hc:c.toNat<128:=by rcases PM he with rfl|rfl<;>decide
   obtain⟨d,t,e1,e2,_⟩:=Sr h1 hc (encW false 0 r++x);have:og (c::r)++x=92::d::t:=by rw[Tn,he,Da,Na,e1]
   grind
  |false=>
   have hu:og (c::r)=Z8 (c::r):=by rw[Tn,he,Ca]
   rw[hu];have hn:Z8 (c::r)=pcW ((c::r:Str)==[45]) (Z5 (c::r)) c++encW ((c::r:Str)==[45]) (Z5 (c::r) - 1) r:=rfl;obtain⟨d,t,e,hd⟩:=FE (dash:=(c::r:Str)==[45]) (k:=Z5 (c::r)) (by unfold Z5;split<;>omega) c (encW ((c::r:Str)==[45]) (Z5 (c::r) - 1) r);rw[hn,e];rcases hd with⟨rfl,h3⟩|⟨rfl,h3,h4,h5,h6⟩
   ·grind
   ·by_cases hee:d=101\/d=69
    ·have hf:Z5 (d::r)=1:=by rcases hee with rfl|rfl<;>rfl
     have hdash:((d::r:Str)==[45])=false:=h3;rw[hdash,hf]at h6;have h6':t=encW false 0 r:=h6;have hee':(d==101||d==69)=true:=by rcases hee with rfl|rfl<;>rfl
     cases r with
     |nil=>
      right;rw[encW]at h6'
      grind
     |cons d2 r2=>
      obtain⟨g1,g2⟩:=Q7 h2;have hnum:numS (d2::r2)=false:=by
       cases hq:numS (d2::r2)with
       |false=>rfl
       |true=>
        exfalso;rw[RU,hee',hq,Xb,Xb]at he;have hp:List.isPrefixOf [45,45] (d2::r2)=true:=by
         cases hh:List.isPrefixOf [45,45] (d2::r2)with
         |true=>rfl
         |false=>grind
        obtain⟨z,hz⟩:=Lg.1 hp;rw[<-hz]at hq;exact absurd hq (by show numS (45::45::z)≠true;unfold numS;simp[digN])
      have hgoal: ∀q:Str,digB (atS (unsign q) 0)=false->expS (d::q)=none:=by intro q hq;rw[uo];show((d==101||d==69)&&digB (atS (unsign q) 0))=false;rw[hq,Pe]
      have hpc:encW false 0 (d2::r2)=pcW false 0 d2++encW false 0 r2:=rfl;by_cases h45:d2=45
      ·subst h45;have hp1:pcW false 0 45=[45]:=rfl;cases r2 with
       |nil=>
        right;rw[hpc,hp1,encW]at h6'
        grind
       |cons d3 r3=>
        left;obtain⟨k1,k2⟩:=Q7 g2;have hdg:digB d3=false:=by
         have:digN d3.toNat=false:=by have:=hnum;unfold numS at this;simpa using this
         exact this
        rw[Db];refine hgoal _ ?_;rw[h6',hpc,hp1];show digB (atS (encW false 0 (d3::r3)++x) 0)=false;rw[show encW false 0 (d3::r3)=pcW false 0 d3++encW false 0 r3 from rfl];unfold pcW;cases hl:letB d3 with
        |true=>exact hdg
        |false=>
         rw[Yc,Yc,Ca];have hc:d3.toNat<128:=by
          by_cases hc:d3.toNat<128
          ·exact hc
          ·rw[(VI hc).1]at hl;cases hl
         obtain⟨d4,t4,e4,_,_⟩:=Sr k1 hc (encW false 0 r3++x);rw[Na,e4];rfl
      ·left;have hdg:digB d2=false:=by
        have:digN d2.toNat=false:=by have:=hnum;rw[BK,Ia.2 h45,Ca]at this;exact this
        exact this
       rw[Db];refine hgoal _ ?_;rw[h6',hpc];unfold pcW;cases hl:letB d2 with
       |true=>
        have hs:ag d2=false:=by unfold ag;rw[Ia.2 h45,Nf,Ia];rintro rfl;exact absurd hl (by decide)
        show digB (atS (if ag d2 then _ else d2::_) 0)=false;rw[hs,Ja (by decide)];exact hdg
       |false=>
        rw[Yc,Yc,Ca];have hc:d2.toNat<128:=by
         by_cases hc:d2.toNat<128
         ·exact hc
         ·rw[(VI hc).1]at hl;cases hl
        obtain⟨d4,t4,e4,_,_⟩:=Sr g1 hc (encW false 0 r2++x);rw[Na,e4];rfl
    ·left;rw[uo];have:(d==101||d==69)=false:=by rw[Mf,Ia,Ia];exact Ah.1 hee
     rw[Db,show atS (d::(t++x)) 0=d from rfl,this,Yc]
theorem DV{w:Str}(h0:w≠[])(h:Zz w=true){x:Str}(hx:neu x):expS (og w++x)=none:=by
 rcases wP h0 h x with h1|⟨e,s,he,hs,_,hu⟩
 ·exact h1
 ·rw[hu,uo];have hd:digB (atS (unsign (s++x)) 0)=false:=by
   rcases hs with rfl|rfl
   ·rcases hx with rfl|⟨y,rfl⟩<;>rfl
   ·rcases hx with rfl|⟨y,rfl⟩<;>rfl
  grind
theorem mK{n:Int}{f:Bool}(hf:f=true->Int.tmod n 1000=0):(partT (n.natAbs%1000) (!f)).isEmpty=f:=by
 rw[zEj,Bool.not_not];cases f with
 |false=>grind
 |true=>
  grind
theorem vC{n:Int}{p:Bool}{z:Str}(h1:past digB z=z)(h2:zT z=(z,true))(h3:expS z=none):zy (numT n p++z)=(z,(partT (n.natAbs%1000) p).isEmpty):=by
 cases hp:(partT (n.natAbs%1000) p).isEmpty with
 |true=>rw[dI hp,h1,h2];simp only[h3]
 |false=>rw[bH hp,h1];simp only[h3]
theorem zD8{x:Str}(hx:neu x):past digB x=x/\zT x=(x,true)/\expS x=none:=by
 rcases hx with rfl|⟨y,rfl⟩
 ·exact⟨rfl,rfl,rfl⟩
 ·exact⟨rfl,rfl,rfl⟩
theorem L9{q:Str}(h:[45,45,62].isPrefixOf q=true): ∃t,(zo q).2=62::t:=by obtain⟨t,rfl⟩:=Lg.1 h;refine⟨t,?_⟩;rw[show [45,45,62]++t=45::45::62::t from rfl,zM,La (by decide),zM,La (by decide),zM,Ja (by decide),Ja (by unfold escS;rw[show atS (62::t) 0=62 from rfl];simp)]
theorem YD{c:UInt8}{r:Str}(h:nmS (c::r)=true)(h3: ∀t,(zo (c::r)).2≠62::t):brS c r=7:=by
 obtain⟨a1,a2,a3,a4,a5,a6,a7,a8,a9,a10,a11⟩:=Cy (Nt h);have hp:[45,45,62].isPrefixOf (c::r)=false:=by
  cases hh:[45,45,62].isPrefixOf (c::r)with
  |false=>rfl
  |true=>obtain⟨t,e⟩:=L9 hh;grind
 have hc:atS (c::r) 0=c:=rfl;rw[hc]at a1 a2 a3 a4 a5 a7;unfold brS;rw[a1,Ja (by decide),a2,a3,Ja (by decide),a4,Yc,Ja (by decide),aY h,Ja (by decide),hp,Ja (by decide),zEt (q:=c::r) (m:=[33,45,45]) (show(60:UInt8)≠0 by decide) a7,Ja (by decide),a5,Yc,Ja (by decide),h,La rfl]
theorem AP{q z:Str}(h:nmS q=true)(hz:atS z 0≠10):nmS (q++z)=true:=by
 have hz':(atS z 0==10)=false:=Ia.2 hz
 match q with
 |[]=>exact absurd h (by decide)
 |[c]=>
  unfold nmS at h ⊢;have h0:atS ([c]++z) 0=c:=rfl;rw[show atS [c] 0=c from rfl]at h;rw[h0];cases h45:c==45 with
  |true=>rw[h45,La rfl]at h;exact absurd (show(fstB 0||(0:UInt8)==45||escS [])=true from h) (by decide)
  |false=> rw[h45,Ja (by decide)]at h;rw[Ja (by decide)];unfold escS at h ⊢;rw[show atS [c] 0=c from rfl,show atS [c] 1=0 from rfl]at h;rw[h0,show atS ([c]++z) 1=atS z 0 from rfl,hz'];exact h
 |c::d::t=>
  unfold nmS at h ⊢;have h0:atS ((c::d::t)++z) 0=c:=rfl;have h1:atS ((c::d::t)++z) 1=d:=rfl;have h2:((c::d::t)++z).drop 1=(d::t)++z:=rfl;rw[show atS (c::d::t) 0=c from rfl,show atS (c::d::t) 1=d from rfl,show(c::d::t:Str).drop 1=d::t from rfl]at h;rw[h0,h1,h2];cases h45:c==45 with
  |true=>
   rw[h45,La rfl]at h;rw[La rfl];cases t with
   |nil=> unfold escS at h ⊢;rw[show atS [d] 0=d from rfl,show atS [d] 1=0 from rfl]at h;rw[show atS ([d]++z) 0=d from rfl,show atS ([d]++z) 1=atS z 0 from rfl,hz'];exact h
   |cons e t=>exact h
  |false=> rw[h45,Ja (by decide)]at h;rw[Ja (by decide)];exact h
theorem kJ(x:Str):zo (40::x)=([],40::x):=by rw[zM,Ja (by decide),Ja (by unfold escS;rw[show atS (40::x) 0=40 from rfl];simp)]
theorem oO{l:Str}(h:Zz l=true)(x:Str):zo (Z8 l++40::x)=(l,40::x):=by rw[Ep _ h,kJ,ja]
theorem Jj{q:Str}(h:q≠[]): ∃c r,q=c::r:=by
 cases q with
 |nil=>grind
 |cons c r=>grind
def Bi(f:Bool)(l:Str):Str:=bif f then Z8 l else encW false 0 l
theorem YT{f:Bool}{l:Str}(h:Zz l=true)(x:Str):zo (Bi f l++x)=(l++(zo x).1,(zo x).2):=by
 cases f with
 |true=>exact Ep x h
 |false=>exact UR x 0 h
theorem Y3{f:Bool}{l:Str}(h0:l≠[])(h:Zz l=true)(hb:f=true\/ek l=true):(letB (atS (Bi f l) 0)||escS (Bi f l))=true/\(f=true->nmS (Bi f l)=true)/\(f=false->nmS (Bi f l)=false):=by
 cases f with
 |true=>
  have hn:=wm h0;obtain⟨c,r,e⟩:=Jj (Tm hn);refine⟨?_,fun _=>hn,fun e=>by cases e⟩;show(letB (atS (Z8 l) 0)||escS (Z8 l))=true;rw[e]at hn ⊢;rcases RP hn with h1|h1
  ·rw[show letB (atS (c::r) 0)=true from h1];rfl
  ·grind
 |false=>
  have hb':ek l=true:=by rcases hb with hb|hb;cases hb;exact hb
  cases l with
  |nil=>grind
  |cons c r=>
   have hw:Bi false (c::r)=pcW false 0 c++encW false 0 r:=rfl;have hb2:(digN c.toNat||(c==45&&(r==[]||digN (r.headD 0).toNat)))=true:=hb';by_cases h45:c=45
   ·subst h45;rw[hw,show pcW false 0 45=[45]from rfl];refine⟨rfl,fun e=>by(cases e),fun _=> ?_⟩;cases r with
    |nil=>rfl
    |cons d t=>
     have hd:digB d=true:=hb2;have hp:pcW false 0 d=[d]:=by
      unfold pcW;have:letB d=true:=by unfold letB;rw[hd,Cf];rfl
      rw[this];rfl
     rw[show encW false 0 (d::t)=pcW false 0 d++encW false 0 t from rfl,hp];have hk: ∀n:Nat,n<256->digB (UInt8.ofNat n)=true->fstB (UInt8.ofNat n)=false/\(UInt8.ofNat n==45)=false/\(UInt8.ofNat n==92)=false:=by decide+kernel
     have:=hk d.toNat (Ob d);rw[Mc]at this;obtain⟨k1,k2,k3⟩:=this hd;show(fstB d||d==45||escS (d::(encW false 0 t)))=false;unfold escS;rw[k1,k2,show atS (d::encW false 0 t) 0=d from rfl,k3];rfl
   ·have hd:digB c=true:=by
     have:digN c.toNat=true:=by rw[Ia.2 h45,Yc,Nf]at hb2;exact hb2
     exact this
    have hl:letB c=true:=by unfold letB;rw[hd,Cf];rfl
    have hp:pcW false 0 c=[c]:=by unfold pcW;rw[hl];rfl
    rw[hw,hp];refine⟨by rw[show letB (atS ([c]++encW false 0 r) 0)=letB c from rfl,hl];rfl,fun e=>by(cases e),fun _=> ?_⟩;have hk: ∀n:Nat,n<256->digB (UInt8.ofNat n)=true->fstB (UInt8.ofNat n)=false/\(UInt8.ofNat n==45)=false/\(UInt8.ofNat n==92)=false:=by decide+kernel
    have:=hk c.toNat (Ob c);rw[Mc]at this;obtain⟨k1,k2,k3⟩:=this hd;unfold nmS escS;rw[show atS ([c]++encW false 0 r) 0=c from rfl,k2,Ja (by decide),k1,k3];rfl
theorem zFf(c:UInt8)(h:si c.toNat=true)(h2:c≠92):brS c []=8:=by
 have: ∀n:Nat,n<256->si (UInt8.ofNat n).toNat=true->UInt8.ofNat n≠92->brS (UInt8.ofNat n) []=8:=by decide+kernel
 have:=this c.toNat (Ob c);simp_all
theorem zEl(x:Str):past digB (37::x)=37::x/\zT (37::x)=(37::x,true)/\expS (37::x)=none:=⟨rfl,rfl,rfl⟩
theorem uQ{n:Int}{u:Str}{p:Bool}(x:Str):(numT n p++og u)++x=numT n p++(og u++x):=Na ..
theorem iJ{c:UInt8}{r x:Str}(hx:neu x):Zx (c::(r++x))=nxB (brS c r) c (r++x):=by rw[qM,zE9 hx]
theorem NP{n:Int}(h1: -1000000000000<=n)(h2:n<=1000000000000)(x:Str):Zx ((numT n false++[37])++x)=(⟨11,[],n,[],false⟩,x):=by rw[Na,Ad];obtain⟨p1,p2,p3⟩:=zEl x;have he:=vC (n:=n) (p:=false) p1 p2 p3;have hv:=GN h1 h2 (p:=false) (x:=37::x) (by rw[he]);rw[Dy];unfold zB;rw[he,hv,Ja (by unfold nmS escS;rw[show atS (37::x) 0=37 from rfl];simp[fstB,alB]),La (by rfl)];rfl
theorem dO{l:Str}(h0:l≠[])(h:Zz l=true)(hu:(lowS l==[117,114,108])=false)(x:Str):Zx ((Z8 l++[40])++x)=(⟨2,l,0,[],false⟩,x):=by rw[Na,Ad];have hn:=AP (z:=40::x) (wm h0) (by show(40:UInt8)≠10;decide);have hnd:=oO h x;obtain⟨c,r,e⟩:=Jj (Tm hn);rw[e]at hn hnd ⊢;rw[qM,YD hn (by grind),Jk];unfold qF;rw[hnd];simp only;rw[La (by rfl),hu,Yc,Ja (by decide)];rfl
theorem nI{l:Str}(h:Zz l=true)(x:Str):Zx ((34::(encB quoB l++[34]))++x)=(⟨5,l,0,[],false⟩,x):=by rw[Db,Na,Ad,qM,show brS 34 (encB quoB l++34::x)=1 from rfl,Mt,MQ x l h];rfl
theorem sP{l:Str}(h:Zz l=true)(x:Str):Zx (([117,114,108,40]++(encB urB l++[41]))++x)=(⟨7,l,0,[],false⟩,x):=by
 have e:([117,114,108,40]++(encB urB l++[41]))++x=117::114::108::40::(encB urB l++41::x):=by simp
 obtain⟨g1,g2⟩:=zCu x l h;have hnd:zo (117::114::108::40::(encB urB l++41::x))=([117,114,108],40::(encB urB l++41::x)):=by rw[zM,La (by decide),zM,La (by decide),zM,La (by decide),kJ]
 rw[e,qM,YD (by rfl) (by grind),Jk];unfold qF;rw[hnd];simp only;rw[La (by rfl),Yu,show(40::(encB urB l++41::x)).drop 1=encB urB l++41::x from rfl,g1,g2,La (by decide),LQ x l h];rfl
theorem SS{k:Int}(h1:13<=k)(h2:k<=24)(x:Str):Zx (Bo k++x)=(⟨k,[],0,[],false⟩,if k=13 then past spB x else x):=by
 have hk:k=13\/k=14\/k=15\/k=16\/k=17\/k=18\/k=19\/k=20\/k=21\/k=22\/k=23\/k=24:=by omega
 rcases hk with rfl|rfl|rfl|rfl|rfl|rfl|rfl|rfl|rfl|rfl|rfl|rfl<;>rfl
theorem Np(l:Str):txS ⟨1,l,0,[],false⟩=Z8 l:=by rw[txS];rfl
theorem Pm(l:Str):txS ⟨2,l,0,[],false⟩=Z8 l++[40]:=by rw[txS];rfl
theorem Pp(l:Str):txS ⟨3,l,0,[],false⟩=64::Z8 l:=by rw[txS];rfl
theorem rq(l:Str)(f:Bool):txS ⟨4,l,0,[],f⟩=35::Bi f l:=by rw[txS];rfl
theorem Io(l:Str):txS ⟨5,l,0,[],false⟩=34::(encB quoB l++[34]):=by rw[txS];rfl
theorem Fq(l:Str):txS ⟨7,l,0,[],false⟩=[117,114,108,40]++(encB urB l++[41]):=by rw[txS];rfl
theorem Jq(c:UInt8):txS ⟨9,[c],0,[],false⟩=[c]:=by rw[txS];rfl
theorem Hq(n:Int)(f:Bool):txS ⟨10,[],n,[],f⟩=numT n (!f):=by rw[txS];rfl
theorem Gq(n:Int):txS ⟨11,[],n,[],false⟩=numT n false++[37]:=by rw[txS];rfl
theorem Iq(n:Int)(u:Str)(f:Bool):txS ⟨12,[],n,u,f⟩=numT n (!f)++og u:=by rw[txS];rfl
theorem pq{k:Int}(h1:13<=k)(h2:k<=24):txS ⟨k,[],0,[],false⟩=Bo k:=by
 have hk:k=13\/k=14\/k=15\/k=16\/k=17\/k=18\/k=19\/k=20\/k=21\/k=22\/k=23\/k=24:=by omega
 rcases hk with rfl|rfl|rfl|rfl|rfl|rfl|rfl|rfl|rfl|rfl|rfl|rfl<;>rfl
theorem zDo{t:zb}(h:zgM t)(hb: ¬(t.kind=9/\t.text=[92]))(hu:Lh t=false){x:Str}(hx:neu x):Zx (txS t++x)=(t,x):=by
 have ha:=zE5 hx;have hn0:nmS x=false:=by have:=NC hx [];rw[Nc]at this;rw[this];rfl
 cases h with
 |cId l h0 h=>
  have hn:=wm h0;have hnd:=Ep x h;rw[KF hx,ja]at hnd;obtain⟨c,r,e⟩:=Jj (Tm hn);rw[Np];have hr:=K3 h;rw[e]at hn hr hnd ⊢;rw[Db,iJ hx,YD hn (by grind),Jk];unfold qF;rw[show c::(r++x)=(c::r)++x from rfl,hnd]
  grind
 |cFn l h0 h=>rw[Pm];exact dO h0 h (by unfold Lh at hu;exact hu) x
 |cAt l h0 h=>
  have hnd:=Ep x h;rw[KF hx,ja]at hnd;rw[Pp,Db];have hb6:brS 64 (Z8 l++x)=6:=by unfold brS;rw[NC hx,wm h0];rfl
  rw[qM,hb6,Lt,hnd]
 |cHash l f h0 h hbb=>
  obtain⟨g1,g2,g3⟩:=Y3 h0 h hbb;have hnd:=YT (f:=f) h x;rw[KF hx,ja]at hnd;rw[rq,Db];have hb2:brS 35 (Bi f l)=2:=by unfold brS;rw[g1];rfl
  have hf:nmS (Bi f l)=f:=by
   cases f with
   |true=>exact g2 rfl
   |false=>exact g3 rfl
  rw[iJ hx,hb2,bn,hnd,NC hx,hf]
 |cStr l h=>rw[Io];exact nI h x
 |cUrl l h=>rw[Fq];exact sP h x
 |cDel c h=>
  have h92:c≠92:=by rintro rfl;exact hb ⟨rfl,rfl⟩
  rw[Jq,Db,iJ hx,zFf c h h92,iw,Nc]
 |cNum n f h1 h2 hf=>
  obtain⟨e1,e2,e3⟩:=zD8 hx;have he:=vC (n:=n) (p:= !f) e1 e2 e3;rw[mK hf]at he;rw[Hq,Dy];unfold zB;rw[GN h1 h2 (by rw[he]),he]
  grind
 |cPct n h1 h2=>rw[Gq];exact NP h1 h2 x
 |cDim n u f h1 h2 hf h0 h=> have hnm:=sH h0 h;obtain⟨e1,e2⟩:=bI hnm x;have he:=vC (n:=n) (p:= !f) e1 e2 (DV h0 h hx);rw[mK hf]at he;rw[Iq,uQ,Dy];unfold zB;rw[GN h1 h2 (by rw[he]),he];simp only;rw[NC hx,hnm,La rfl,WL h0 h,KF hx,ja]
 |cMark k h1 h2=> rw[pq h1 h2,SS h1 h2,PP (by decide) hx,ite_self]
def IP(t:zb)(x r:Str):Prop:=zy (numT t.num (!t.flag)++x)=(r,t.flag)/\nmS r=false/\(atS r 0==37)=false
def zDd(x r:Str):Prop:= ∃s,(s=[]\/s=[45])/\digB (atS (unsign (s++x)) 0)=true/\nmS (past digB (unsign (s++x)))=true/\r=(zo (past digB (unsign (s++x)))).2
def rY(t:zb)(x r:Str):Prop:=r=x\/(t.kind=13/\r=past spB x)\/(t.kind=10/\IP t x r)\/(t.kind=12/\zDd x r)
theorem sQ{w r:Str}(h:expS w=some r):(atS w 0=101\/atS w 0=69)/\digB (atS (unsign (w.drop 1)) 0)=true/\r=past digB (unsign (w.drop 1)):=by
 unfold expS at h;split at h
 ·rename_i h1;split at h
  ·rename_i h2;rw[Pd,Jb,Jb]at h1;injection h with h;exact⟨h1,h2,h.symm⟩
  ·cases h
 ·cases h
theorem nD{l a:Str}(h:l++a=l):a=[]:=by have:=congrArg List.length h;rw[Ba]at this;exact Eg.1 (by omega)
theorem LJ{a b:zb}(h:a=b):a.text=b.text:=by rw[h]
theorem zAI{t:zb}(h:zgM t)(hu:Lh t=false){x:Str}(ht:(Zx (txS t++x)).1=t):rY t x (Zx (txS t++x)).2:=by
 cases h with
 |cId l h0 h=>
  left;have hn:=wm h0;have hnd:=Ep x h;obtain⟨c,r,e⟩:=Jj (Tm hn);rw[Np]at ht ⊢;rw[e,Db]at ht ⊢;have hbr:=Vo c (r++x);rw[ht]at hbr;have hbr':brS c (r++x)=7:=hbr.symm;rw[qM,hbr',Jk]at ht ⊢;rw[show c::(r++x)=Z8 l++x by rw[e];rfl]at ht ⊢;unfold qF at ht ⊢;rw[hnd]at ht ⊢;simp only at ht ⊢;split at ht
  ·rename_i h40;exfalso;split at ht
   ·have:=congrArg zb.kind ht;rcases EJ (urlS (past spB ((zo x).2.drop 1))).1 with hk|hk<;>rw[hk]at this<;>cases this
   ·cases congrArg zb.kind ht
  ·rename_i h40;rw[Ja h40];have:=LJ ht;exact JF (nD this)
 |cFn l h0 h=> left;rw[Pm,dO h0 h (by unfold Lh at hu;exact hu)]
 |cAt l h0 h=> left;rw[Pp,Db]at ht ⊢;have hbr:=Vo 64 (Z8 l++x);rw[ht]at hbr;have hbr':brS 64 (Z8 l++x)=6:=hbr.symm;rw[qM,hbr',Lt,Ep x h]at ht ⊢;exact JF (nD (LJ ht))
 |cHash l f h0 h hbb=> left;rw[rq,Db]at ht ⊢;have hbr:=Vo 35 (Bi f l++x);rw[ht]at hbr;have hbr':brS 35 (Bi f l++x)=2:=hbr.symm;rw[qM,hbr',bn,YT h x]at ht ⊢;exact JF (nD (LJ ht))
 |cStr l h=>left;rw[Io,nI h]
 |cUrl l h=>left;rw[Fq,sP h]
 |cDel c h=> left;rw[Jq,Db]at ht ⊢;have hbr:=Vo c ([]++x);rw[ht]at hbr;have hbr':brS c ([]++x)=8:=hbr.symm;rw[qM,hbr',iw,Nc]
 |cNum n f h1 h2 hf=>
  right;right;left;refine⟨rfl,?_⟩;rw[Hq,Dy]at ht ⊢;unfold IP;show zy (numT n (!f)++x)=_/\_;unfold zB at ht ⊢;generalize zy (numT n (!f)++x)=e at ht ⊢;obtain⟨e,fl⟩:=e;simp only at ht ⊢;cases hn:nmS e with
  |true=>rw[hn,La rfl]at ht;cases congrArg zb.kind ht
  |false=>
   rw[hn,Ja (by decide)]at ht;rw[Ja (by decide)];cases h37:atS e 0==37 with
   |true=>rw[h37,La rfl]at ht;cases congrArg zb.kind ht
   |false=> rw[h37,Ja (by decide)]at ht;rw[Ja (by decide)];have:fl=f:=congrArg zb.flag ht;rw[this];exact⟨rfl,hn,h37⟩
 |cPct n h1 h2=>left;rw[Gq,NP h1 h2]
 |cDim n u f h1 h2 hf h0 h=>
  have hnm:=sH h0 h;obtain⟨e1,e2⟩:=bI hnm x;rw[Iq,uQ,Dy]at ht ⊢;have plain:expS (og u++x)=none->(zB (numT n (!f)++(og u++x))).2=x:=by
   intro hexp;have he:=vC (n:=n) (p:= !f) e1 e2 hexp;unfold zB at ht ⊢;rw[he]at ht ⊢;simp only at ht ⊢;split at ht
   ·rename_i hn;rw[La hn];rw[WL h0 h]at ht ⊢;have:(u++(zo x).1)=u:=congrArg zb.unit ht;exact JF (nD this)
   ·rename_i hn;split at ht<;>cases congrArg zb.kind ht
  rcases wP h0 h x with hx|⟨e,s,he,hs,_,hu'⟩
  ·left;exact plain hx
  ·cases hexp:expS (og u++x)with
   |none=>left;exact plain hexp
   |some z=>
    right;right;right;refine⟨rfl,s,hs,?_⟩;obtain⟨_,hd,hz⟩:=sQ hexp;have hdrop:(og u++x).drop 1=s++x:=by rw[hu'];rfl
    rw[hdrop]at hd hz;have hend:zy (numT n (!f)++(og u++x))=(z,false):=by
     cases hp:(partT (n.natAbs%1000) (!f)).isEmpty with
     |true=>rw[dI hp,e1,e2];simp only[hexp]
     |false=>rw[bH hp,e1];simp only[hexp]
    unfold zB at ht ⊢;rw[hend]at ht ⊢;simp only at ht ⊢;split at ht
    ·rename_i hn;rw[La hn];exact⟨hd,by rw[<-hz];exact hn,by rw[<-hz]⟩
    ·rename_i hn;split at ht<;>cases congrArg zb.kind ht
 |cMark k h1 h2=>
  rw[pq h1 h2,SS h1 h2];by_cases hk:k=13
  ·right;left;exact⟨hk,by simp only[hk,Ud]⟩
  ·left;simp only[Ja hk]
end Go.Lv.VT
