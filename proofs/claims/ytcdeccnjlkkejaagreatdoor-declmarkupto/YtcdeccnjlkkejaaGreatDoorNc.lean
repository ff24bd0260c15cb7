/- What is read of a text, and of a longer one. -/
import Derived.Test.YtcdeccnjlkkejaaGreatDoorNb
import Derived.Test.YtcdeccnjlkkejaaGreatDoorLaw
import Derived.Test.YtcdeccnjlkkejaaGreatDoorNam
set_option linter.unusedSimpArgs false
set_option linter.unusedVariables false
namespace Go.Lv.VT
set_option maxRecDepth 100000
theorem Xh{q:Str}{n:Nat}(x:Str)(h:n<q.length):atS (q++x) n=atS q n:=by
 unfold atS
 grind
theorem Nk{p:UInt8->Bool}(x:Str): ∀{q:Str},past p q≠[]->past p (q++x)=past p q++x
 |[],h=>absurd rfl h
 |c::r,h=>by
  rw[Sa,past,past];rw[past]at h;cases a:p c with
  |true=>rw[a,Ha rfl]at h;rw[Ha rfl,Ha rfl];exact Nk x h
  |false=>rfl
theorem ny{p:UInt8->Bool}(x:Str): ∀{q:Str},past p q≠[]->(q++x).takeWhile p=q.takeWhile p
 |[],h=>absurd rfl h
 |c::r,h=>by
  rw[Sa,List.takeWhile_cons,List.takeWhile_cons];rw[past]at h;cases a:p c with
  |true=>rw[a,Ha rfl]at h;rw[Ha rfl,Ha rfl,ny x h]
  |false=>rfl
theorem jO(x:Str): ∀{k n:Nat} {l:Str},(hexes k n l).2≠[]->hexes k n (l++x)=((hexes k n l).1,(hexes k n l).2++x)
 |0,n,l,_=>rfl
 |k+1,n,[],h=>absurd rfl h
 |k+1,n,c::r,h=>by
  rw[Sa,hexes,hexes];rw[hexes]at h;split
  ·rename_i a;rw[Ha a]at h;exact jO x h
  ·rfl
theorem zBF{l:Str}(x:Str)(h:l≠[]):unsp (l++x)=unsp l++x:=by
 cases l with
 |nil=>grind
 |cons c r=> show(if spB c then r++x else c::(r++x))=(if spB c then r else c::r)++x;split<;>rfl
theorem WB{r:Str}(x:Str)(h:(zt r).2≠[]):zt (r++x)=((zt r).1,(zt r).2++x):=by
 cases r with
 |nil=>exact absurd rfl h
 |cons c r=>
  have e: ∀t:Str,zt (c::t)=if QA c then(Mg (hexes 6 0 (c::t)).1,unsp (hexes 6 0 (c::t)).2)else([c],t):=fun t=>rfl;rw[Sa,e,e];rw[e]at h;split
  ·rename_i b;rw[Ha b]at h;have a:(hexes 6 0 (c::r)).2≠[]:=by intro d;rw[d]at h;exact h rfl
   rw[show c::(r++x)=(c::r)++x from rfl,jO x a,zBF x a]
  ·rfl
theorem Av{c:UInt8}{r:Str}(x:Str)(h:r≠[]\/c≠92):escS (c::(r++x))=escS (c::r):=by
 unfold escS;show(c==92&& !(atS (r++x) 0==10))=(c==92&& !(atS r 0==10));rcases h with h|h
 ·cases r with
  |nil=>grind
  |cons d t=>rfl
 grind
theorem Sr{q:Str}(x:Str)(h:(zq q).2≠[]):zq (q++x)=((zq q).1,(zq q).2++x):=by
 match q with
 |[]=>rw[qR]at h;grind
 |c::r=>
  rw[Sa,zR,zR];rw[zR]at h;cases f:letB c with
  |true=> rw[f,Ha rfl]at h;simp only[Be];rw[Sr x h]
  |false=>
   rw[f,Ga (by decide)]at h;simp only[Sb,Od];cases a:escS (c::r)with
   |true=>
    rw[a,Ha rfl]at h;have g:(zt r).2≠[]:=by intro e;simp only[e,qR]at h;exact h rfl
    have b:r≠[]:=by rintro rfl;exact g rfl
    rw[Av x (.inl b),a];simp only[Be];rw[WB x g];have:=Zc r;simp only;rw[Sr x h]
   |false=>
    have b:r≠[]\/c≠92:=by
     cases r with
     |nil=> right;rintro rfl;exact absurd a (by decide)
     |cons d t=>left;simp
    rw[Av x b,a];grind
termination_by q.length
decreasing_by
 all_goals grind
theorem MB{m:UInt8}{q:Str}(x:Str)(h:(Za m q).2≠[]):Za m (q++x)=((Za m q).1,(Za m q).2++x):=by
 match q with
 |[]=>rw[Dp]at h;grind
 |c::r=>
  rw[Sa,Qu,Qu];rw[Qu]at h;cases g:c==m with
  |true=>grind
  |false=>
   rw[g,Ga (by decide)]at h;simp only[Sb,Od];cases k:c==10 with
   |true=>grind
   |false=>
    rw[k,Ga (by decide)]at h;simp only[Sb,Od];cases b:c==92 with
    |false=> rw[b,Ga (by decide)]at h;simp only[Sb,Od];rw[MB x h]
    |true=>
     rw[b,Ha rfl]at h;simp only[Be];cases f:r with
     |nil=>grind
     |cons d t=>
      rw[f]at h;have j:r.length=t.length+1:=by rw[f];rfl
      rw[Sa,show(d::(t++x)).isEmpty=false from rfl,show(d::t).isEmpty=false from rfl];simp only[Sb,Od];rw[show(d::t).isEmpty=false from rfl,Ga (by decide)]at h;rw[show atS (d::(t++x)) 0=atS (d::t) 0 from rfl];cases a:atS (d::t) 0==10 with
      |true=> rw[a,Ha rfl]at h;simp only[Be];exact MB (q:=t) x h
      |false=>
       rw[a,Ga (by decide)]at h;simp only[Sb,Od];have i:(zt (d::t)).2≠[]:=by intro e;simp only[e,Dp]at h;exact h rfl
       rw[show d::(t++x)=(d::t)++x from rfl,WB x i];have:=Zc (d::t);simp only;rw[MB x h]
termination_by q.length
decreasing_by
 all_goals grind
theorem Uz{q:Str}(x:Str)(h:badS q≠[]):badS (q++x)=badS q++x:=by
 match q with
 |[]=>rw[Wv]at h;grind
 |c::r=>
  rw[Sa,Ww,Ww];rw[Ww]at h;cases f:c==41 with
  |true=>grind
  |false=>
   rw[f,Ga (by decide)]at h;simp only[Sb,Od];cases a:escS (c::r)with
   |true=>
    rw[a,Ha rfl]at h;have d:(zt r).2≠[]:=by intro e;rw[e,Wv]at h;exact h rfl
    have b:r≠[]:=by rintro rfl;exact d rfl
    rw[Av x (.inl b),a];simp only[Be];rw[WB x d];have:=Zc r;exact Uz x h
   |false=>
    rw[a,Ga (by decide)]at h;have b:r≠[]\/c≠92:=by left;rintro rfl;rw[Wv]at h;exact h rfl
    rw[Av x b,a];simp only[Sb,Od];exact Uz x h
termination_by q.length
decreasing_by
 all_goals grind
theorem MF{q:Str}(x:Str)(h:(urlS q).2≠[]):urlS (q++x)=((urlS q).1,(urlS q).2++x):=by
 match q with
 |[]=>rw[Mo]at h;grind
 |c::r=>
  rw[Sa,Uk,Uk];rw[Uk]at h;cases l:c==41 with
  |true=>grind
  |false=>
   rw[l,Ga (by decide)]at h;simp only[Sb,Od];cases j:spB c with
   |true=>
    rw[j,Ha rfl]at h;simp only[Be];cases f:past spB r with
    |nil=>grind
    |cons d t=>
     rw[Nk x (by rw[f];simp),f];rw[f]at h;simp only[Sa]at h ⊢;cases a:d==41 with
     |true=>grind
     |false=> rw[a,Ga (by decide)]at h;simp only[Sb,Od];rw[show d::(t++x)=(d::t)++x from rfl,Uz x h]
   |false=>
    rw[j,Ga (by decide)]at h;simp only[Sb,Od];have b:(c=92->r≠[])->escS (c::(r++x))=escS (c::r):=by
     intro k;refine Av x ?_;by_cases e:c=92
     ·exact .inl (k e)
     ·exact .inr e
    have m:c=92->r≠[]:=by
     rintro rfl rfl;have o:escS [92]=true:=by decide
     rw[o,show((92:UInt8)==92&& !true)=false from rfl,Ke]at h;cases i:((92:UInt8)==34||(92:UInt8)==39||(92:UInt8)==40||unB 92)with
     |true=>exact absurd i (by decide)
     |false=> rw[i,Ga (by decide),Ha (by decide)]at h;exact absurd (by show(urlS (zt []).2).2=[];rw[show(zt []).2=[]from rfl,Mo]) h
    rw[b m];cases a:c==34||c==39||c==40||unB c||c==92&& !escS (c::r)with
    |true=> rw[a,Ha rfl]at h;simp only[Be];rw[show c::(r++x)=(c::r)++x from rfl,Uz x h]
    |false=>
     rw[a,Ga (by decide)]at h;simp only[Sb,Od];cases g:c==92 with
     |true=>
      rw[g,Ha rfl]at h;simp only[Be];have n:(zt r).2≠[]:=by intro e;simp only[e,Mo]at h;exact h rfl
      rw[WB x n];have:=Zc r;simp only;rw[MF x h]
     |false=> rw[g,Ga (by decide)]at h;simp only[Sb,Od];rw[MF x h]
termination_by q.length
decreasing_by
 all_goals grind
theorem ek{q:Str}(x:Str)(h:q≠[]):unsign (q++x)=unsign q++x/\sgOf (q++x)=sgOf q:=by
 cases q with
 |nil=>grind
 |cons c r=> unfold unsign sgOf;show(if Pf c then r++x else c::(r++x))=(if Pf c then r else c::r)++x/\_;refine⟨by split<;>rfl,rfl⟩
def Gf(q:Str):Str:=past digB (unsign q)
theorem XO{q x:Str}(h:(z8 q).1≠[])(f:q=[46]->digB (atS x 0)=false):z8 (q++x)=((z8 q).1++x,(z8 q).2)/\dotP (q++x)=dotP q:=by
 unfold z8 dotP;unfold z8 at h;cases q with
 |nil=>exact absurd rfl h
 |cons c r=>
  have g:(atS ((c::r)++x) 0==46&&digB (atS ((c::r)++x) 1))=(atS (c::r) 0==46&&digB (atS (c::r) 1)):=by
   show(c==46&&digB (atS (r++x) 0))=(c==46&&digB (atS r 0));cases r with
   |nil=>
    cases a:c==46 with
    |false=>rfl
    |true=> rw[Ib]at a;subst a;show(true&&digB (atS x 0))=(true&&digB (atS [] 0));rw[f rfl];rfl
   |cons d t=>rfl
  rw[g];cases e:(atS (c::r) 0==46&&digB (atS (c::r) 1))with
  |false=>grind
  |true=>
   rw[e,Ha rfl]at h;simp only[Be];rw[show((c::r)++x).drop 1=r++x from rfl,show(c::r).drop 1=r from rfl];have b:past digB r≠[]:=h;rw[Nk x b,ny x b]
   grind
theorem zC8{w x:Str}(hw:w≠[])(h: ∀r,expS w=some r->r≠[])(hn:expS w=none->expS (w++x)=none):
  expS (w++x)=(expS w).map (· ++x)/\expP (w++x)=expP w:=by
 have hP: ∀q:Str,expP q=if(expS q).isSome then some (atS q 0,sgOf (q.drop 1),(unsign (q.drop 1)).takeWhile digB)else none:=by
  intro q;unfold expP expS;cases atS q 0==101||atS q 0==69 with
  |false=>rfl
  |true=>
   grind
 cases he:expS w with
 |none=>
  grind
 |some r=>
  have hr:=h r he;cases w with
  |nil=>grind
  |cons c t=>
   have he':=he;unfold expS at he';cases h1:atS (c::t) 0==101||atS (c::t) 0==69 with
   |false=>grind
   |true=>
    rw[h1,Ha rfl]at he';cases h2:digB (atS (unsign ((c::t).drop 1)) 0)with
    |false=>grind
    |true=>
     rw[h2,Ha rfl]at he';have hrr:past digB (unsign t)=r:=by injection he'
     have ht:t≠[]:=by rintro rfl;exact absurd (show digB (atS (unsign []) 0)=true from h2) (by decide)
     obtain⟨u1,u2⟩:=ek x ht;have hun:unsign t≠[]:=by intro e;rw[show(c::t).drop 1=t from rfl,e]at h2;exact absurd h2 (by decide)
     have hexp:expS ((c::t)++x)=some (r++x):=by unfold expS;rw[show atS ((c::t)++x) 0=atS (c::t) 0 from rfl,h1,Ha rfl,show((c::t)++x).drop 1=t++x from rfl,u1];have:atS (unsign t++x) 0=atS (unsign t) 0:=Xh x (Ie.2 hun);rw[this,show digB (atS (unsign t) 0)=true from h2,Ha rfl,Nk x (by grind),hrr]
     refine⟨by rw[hexp];rfl,?_⟩;rw[hP,hP,hexp,he];simp only[Option.isSome_some,Be];rw[show((c::t)++x).drop 1=t++x from rfl,show(c::t).drop 1=t from rfl,u1,u2,ny x (by grind)];rfl
theorem Ri(q:Str):zP q=(match expS (z8 (Gf q)).1 with|some r=>(r,false)|none=>z8 (Gf q)):=rfl
theorem Gz{q x:Str}(h:(zP q).1≠[])(j:Gf q=[46]->digB (atS x 0)=false)(l:expS (z8 (Gf q)).1=none->expS ((z8 (Gf q)).1++x)=none):
  zP (q++x)=((zP q).1++x,(zP q).2)/\numP (q++x)=numP q:=by
 rw[Ri]at h;have a: ∀r,expS (z8 (Gf q)).1=some r->r≠[]:=by intro r p;rw[p]at h;exact h
 have b:(z8 (Gf q)).1≠[]:=by intro e;rw[e,show expS []=none from rfl]at h;exact h e
 have c:Gf q≠[]:=by intro e;rw[e]at b;exact b rfl
 have n:q≠[]:=by rintro rfl;exact c rfl
 obtain⟨d,k⟩:=ek x n;have f:Gf (q++x)=Gf q++x:=by unfold Gf;rw[d];exact Nk x c
 obtain⟨i,m⟩:=XO b j;obtain⟨s,o⟩:=zC8 b a l;have g: ∀z:Str,numP z=⟨sgOf z,(unsign z).takeWhile digB,dotP (Gf z),expP (z8 (Gf z)).1⟩:=fun z=>rfl;constructor
 ·rw[Ri,Ri,f,i]
  grind
 ·rw[g,g,k,d,ny x c,f,i,m,o]
def brS(c:UInt8)(r:Str):Nat:=
 if spB c then 0
 else if c==34||c==39 then 1
 else if c==35&&(letB (atS r 0)||escS r)then 2
 else if nbS (c::r)then 3
 else if [45,45,62].isPrefixOf (c::r)then 4
 else if [60,33,45,45].isPrefixOf (c::r)then 5
 else if c==64&&nmS r then 6
 else if nmS (c::r)then 7
 else if Eg c==0 then 8
 else 9
def nxB:Nat->UInt8->Str->ze×Str
 |0,c,r=>(Hg 13,past spB (c::r))
 |1,c,r=>(Ij (Za c r).1,(Za c r).2)
 |2,_,r=>(⟨4,(zq r).1,0,[],nmS r⟩,(zq r).2)
 |3,c,r=>zI (c::r)
 |4,c,r=>(Hg 15,(c::r).drop 3)
 |5,c,r=>(Hg 14,(c::r).drop 4)
 |6,_,r=>(⟨3,(zq r).1,0,[],false⟩,(zq r).2)
 |7,c,r=>qO (c::r)
 |8,c,r=>(⟨9,[c],0,[],false⟩,r)
 |_+9,c,r=>(Hg (Eg c),r)
theorem JD(c:UInt8)(r:Str):nxB 0 c r=(Hg 13,past spB (c::r)):=by rw[nxB]
theorem Bu(c:UInt8)(r:Str):nxB 1 c r=(Ij (Za c r).1,(Za c r).2):=by rw[nxB]
theorem Al(c:UInt8)(r:Str):nxB 2 c r=(⟨4,(zq r).1,0,[],nmS r⟩,(zq r).2):=by rw[nxB]
theorem Vi(c:UInt8)(r:Str):nxB 3 c r=zI (c::r):=by rw[nxB]
theorem MV(c:UInt8)(r:Str):nxB 4 c r=(Hg 15,(c::r).drop 3):=by rw[nxB]
theorem LV(c:UInt8)(r:Str):nxB 5 c r=(Hg 14,(c::r).drop 4):=by rw[nxB]
theorem Aq(c:UInt8)(r:Str):nxB 6 c r=(⟨3,(zq r).1,0,[],false⟩,(zq r).2):=by rw[nxB]
theorem Di(c:UInt8)(r:Str):nxB 7 c r=qO (c::r):=by rw[nxB]
theorem gp(c:UInt8)(r:Str):nxB 8 c r=(⟨9,[c],0,[],false⟩,r):=by rw[nxB]
theorem rJ(c:UInt8)(r:Str):nxB 9 c r=(Hg (Eg c),r):=rfl
theorem qd(c:UInt8)(r:Str):Zq (c::r)=nxB (brS c r) c r:=by
 rw[uo];unfold brS;split
 ·rfl
 ·split
  ·rfl
  ·split
   ·rfl
   ·split
    ·rfl
    ·split
     ·rfl
     ·split
      ·rfl
      ·split
       ·rfl
       ·split
        ·rfl
        ·split<;>rfl
theorem br_4{c:UInt8}{r:Str}:brS c r=4->[45,45,62].isPrefixOf (c::r)=true:=by unfold brS;grind
theorem br_5{c:UInt8}{r:Str}:brS c r=5->[60,33,45,45].isPrefixOf (c::r)=true:=by unfold brS;grind
theorem br_9{c:UInt8}{r:Str}:brS c r=9-> ¬(Eg c==0)=true:=by unfold brS;grind
theorem bV(c:UInt8)(r:Str):brS c r<=9:=by unfold brS;grind
def brK(k:Int):Nat:=
 if k=13 then 0 else if k=5\/k=6 then 1 else if k=4 then 2 else if k=10\/k=11\/k=12 then 3 else if k=15 then 4 else if k=14 then 5 else if k=3 then 6
 else if k=1\/k=2\/k=7\/k=8 then 7 else if k=9 then 8 else 9
theorem zAQ(c:UInt8):Eg c=0\/(16<=Eg c/\Eg c<=24):=by
 have: ∀n:Nat,n<256->Eg (UInt8.ofNat n)=0\/(16<=Eg (UInt8.ofNat n)/\Eg (UInt8.ofNat n)<=24):=by decide+kernel
 have:=this c.toNat (Ab c);simp_all
theorem zBh(o:Option Str):(Ij o).kind=5\/(Ij o).kind=6:=by cases o<;>simp[Ij]
theorem iF(o:Option Str):(Fj o).kind=7\/(Fj o).kind=8:=by cases o<;>simp[Fj]
theorem wZ(l:Str):(qO l).1.kind=1\/(qO l).1.kind=2\/(qO l).1.kind=7\/(qO l).1.kind=8:=by
 unfold qO;split
 ·split
  ·exact .inr (.inr (iF _))
  grind
 ·exact .inl rfl
theorem J7(l:Str):(zI l).1.kind=10\/(zI l).1.kind=11\/(zI l).1.kind=12:=by
 unfold zI
 grind
theorem rV{i:Nat}(h:i<=9):i=0\/i=1\/i=2\/i=3\/i=4\/i=5\/i=6\/i=7\/i=8\/i=9:=by omega
theorem ol(c:UInt8)(r:Str):brK (Zq (c::r)).1.kind=brS c r:=by
 rw[qd];rcases rV (bV c r)with h|h|h|h|h|h|h|h|h|h
 ·rw[h];rfl
 ·rw[h,Bu];show brK (Ij (Za c r).1).kind=1;rcases zBh (Za c r).1 with h|h<;>rw[h]<;>rfl
 ·rw[h];rfl
 ·rw[h,Vi];rcases J7 (c::r)with h|h|h<;>rw[h]<;>rfl
 ·rw[h];rfl
 ·rw[h];rfl
 ·rw[h];rfl
 ·rw[h,Di];rcases wZ (c::r)with h|h|h|h<;>rw[h]<;>rfl
 ·rw[h];rfl
 ·have b:=zAQ c;have a:=br_9 h;rw[Ib]at a;rw[h,rJ];show brK (Eg c)=9;unfold brK
  repeat rw[Ga (by omega)]
theorem tY{q x:Str}(h:(qO q).2≠[]):qO (q++x)=((qO q).1,(qO q).2++x):=by
 have g:(zq q).2≠[]:=by intro e;unfold qO at h;rw[e,Ga (by decide)]at h;exact h rfl
 have e:=Sr x g;unfold qO;unfold qO at h;rw[e];simp only;have i:atS ((zq q).2++x) 0=atS (zq q).2 0:=Xh x (Ie.2 g);rw[i];cases b:atS (zq q).2 0==40 with
 |false=>rfl
 |true=>
  rw[b,Ha rfl]at h;simp only[Be];cases f:(zq q).2 with
  |nil=>grind
  |cons c r=>
   rw[f]at h;rw[show((c::r)++x).drop 1=r++x from rfl];rw[show(c::r).drop 1=r from rfl]at h ⊢;cases j:lowS (zq q).1==[117,114,108]with
   |false=>
    grind
   |true=>
    rw[j,ma]at h;simp only[ma];cases a:past spB r with
    |nil=>
     rw[a,Ha (by decide),Mo]at h
     grind
    |cons d t=>
     rw[Nk x (by rw[a];simp),a];rw[a]at h;rw[show atS ((d::t)++x) 0=atS (d::t) 0 from rfl];split
     ·rename_i k;rw[Ha k]at h;rw[MF x h]
     ·rfl
theorem Mr{q x:Str}{n:Nat}(h:n<=q.length):(q++x).drop n=q.drop n++x:=Ag h
structure zlE (q x:Str):Prop where
 e:zP (q++x)=((zP q).1++x,(zP q).2)
 p:numP (q++x)=numP q
 n:nmS ((zP q).1++x)=nmS (zP q).1
theorem K4{q x:Str}(a:zlE q x)(h:(zI q).2≠[]):zI (q++x)=((zI q).1,(zI q).2++x):=by
 have f:(zP q).1≠[]:=by intro e;unfold zI at h;rw[e,Ga (by decide),Ga (by decide)]at h;exact h rfl
 have b:atS ((zP q).1++x) 0=atS (zP q).1 0:=Xh x (Ie.2 f);unfold zI;unfold zI at h;rw[a.e,a.p];simp only[a.n,b];cases c:nmS (zP q).1 with
 |true=> rw[c,Ha rfl]at h;simp only[Be];rw[Sr x h]
 |false=>
  simp only[Sb,Od];cases d:atS (zP q).1 0==37 with
  |true=> simp_all
  |false=>grind
theorem Pv {c:UInt8} {r x:Str} (f:brS c (r++x)=brS c r) (h:(Zq (c::r)).2≠[]) (e:brS c r=2->nmS (r++x)=nmS r)
  (b:brS c r=3->zlE (c::r) x):Zq (c::(r++x))=((Zq (c::r)).1,(Zq (c::r)).2++x):=by
 rw[qd c (r++x),f];rw[qd]at h ⊢;rcases rV (bV c r)with a|a|a|a|a|a|a|a|a|a
 ·rw[a,JD]at h;rw[a,JD,JD,show c::(r++x)=(c::r)++x from rfl,Nk x h]
 ·rw[a,Bu]at h;rw[a,Bu,Bu,MB x h]
 ·rw[a,Al]at h;rw[a,Al,Al,Sr x h,e a]
 ·have g:=b a;rw[a,Vi]at h;rw[a,Vi,Vi,show c::(r++x)=(c::r)++x from rfl,K4 g h]
 ·have d:=il (br_4 a);rw[a,MV,MV,show c::(r++x)=(c::r)++x from rfl,Mr (show 3<=(c::r).length from d)]
 ·have d:=il (br_5 a);rw[a,LV,LV,show c::(r++x)=(c::r)++x from rfl,Mr (show 4<=(c::r).length from d)]
 ·rw[a,Aq]at h;rw[a,Aq,Aq,Sr x h]
 ·rw[a,Di]at h;rw[a,Di,Di,show c::(r++x)=(c::r)++x from rfl,tY h]
 ·rw[a,gp,gp]
 ·rw[a,rJ,rJ]
theorem eG{q:Str}(x:Str)(h:q≠[]):undot (q++x)=undot q++x:=by
 cases q with
 |nil=>grind
 |cons c r=> unfold undot;show(if c==46 then r++x else c::(r++x))=(if c==46 then r else c::r)++x;split<;>rfl
theorem bX(q:Str):q.length<=(undot q).length+1:=by
 unfold undot
 grind
theorem NH(q:Str):q.length<=(unsign q).length+1:=by
 unfold unsign
 grind
theorem Xo{q:Str}(h:1<=q.length):q≠[]:=by grind
theorem zE6{q:Str}(x:Str)(h:3<=q.length):nbS (q++x)=nbS q:=by have b:=NH q;have a:=bX (unsign q);unfold nbS;rw[(ek x (Xo (by omega))).1,eG x (Xo (by omega)),Xh x (by omega)]
theorem Uy{q:Str}(x:Str)(h:3<=q.length):nmS (q++x)=nmS q:=by unfold nmS escS;rw[Mr (by omega),Xh x (show 0<q.length by omega),Xh x (show 1<q.length by omega),Xh x (show 0<(q.drop 1).length by grind),Xh x (show 1<(q.drop 1).length by grind)]
theorem rq{m:Str}: ∀{q:Str} (x:Str),m.length<=q.length->m.isPrefixOf (q++x)=m.isPrefixOf q:=by
 induction m with
 |nil=>grind
 |cons a m c=>
  intro q x h;cases q with
  |nil=>grind
  |cons b t=>
   grind
theorem zEv{c:UInt8}{r:Str}(x:Str)(h:4<=r.length):brS c (r++x)=brS c r:=by
 have e:c::(r++x)=(c::r)++x:=rfl;have hl:(c::r).length=r.length+1:=rfl;unfold brS;rw[e,zE6 x (by omega),rq x (by grind),rq x (by grind),Uy x (q:=r) (by omega),Uy x (q:=c::r) (by omega),Xh x (show 0<r.length by omega)];have:escS (r++x)=escS r:=by unfold escS;rw[Xh x (show 0<r.length by omega),Xh x (show 1<r.length by omega)]
 rw[this]
theorem ji{w:Str}:expS w=none↔((atS w 0==101||atS w 0==69)&&digB (atS (unsign (w.drop 1)) 0))=false:=by
 unfold expS
 grind
theorem zC9{w:Str}(x:Str)(h:3<=w.length)(a:expS w=none):expS (w++x)=none:=by rw[ji]at a ⊢;have b:=NH (w.drop 1);rw[Ub]at b;rw[Mr (by omega),(ek x (Xo (by grind))).1,Xh x (show 0<w.length by omega),Xh x (by omega)];exact a
theorem HZ(q:Str):(z8 q).1<:+q:=by
 unfold z8;split
 ·exact(Am _ _).trans (Je 1 q)
 grind
theorem zEI(q:Str):(zP q).1<:+(z8 (Gf q)).1:=by
 rw[Ri];cases h:expS (z8 (Gf q)).1 with
 |some r=>exact CL (Te _) h
 |none=>grind
theorem eQ(q:Str):(zI q).2<:+(zP q).1:=by
 unfold zI;split
 ·exact Rk _
 ·split
  ·exact Je 1 _
  grind
theorem zDC{q:Str}(x:Str)(h:4<=(zP q).1.length):zlE q x:=by have d:=(zEI q).length_le;have c:=(HZ (Gf q)).length_le;obtain⟨a,b⟩:=Gz (q:=q) (x:=x) (Xo (by omega)) (fun e=>by grind) (zC9 x (by omega));exact⟨a,b,Uy x (by omega)⟩
theorem zAX{c:UInt8}{r:Str}(x:Str)(h:4<=(Zq (c::r)).2.length):Zq (c::(r++x))=((Zq (c::r)).1,(Zq (c::r)).2++x):=by have b:=(Oj c r).length_le;refine Pv (zEv x (by omega)) (Xo (by omega)) (fun _=>Uy x (by omega)) (fun a=>zDC x ?_);rw[qd,a,Vi]at h;have:=(eQ (c::r)).length_le;omega
theorem Py(q y:Str):escS (q++47::y)=escS q:=by
 match q with
 |[]=>rfl
 |[c]=>rfl
 |c::d::t=>rfl
theorem Cu(q y:Str):nmS (q++47::y)=nmS q:=by
 match q with
 |[]=>rfl
 |[c]=> unfold nmS;show(if c==45 then fstB 47||47==45||escS (47::y)else fstB c||escS ([c]++47::y))=(if c==45 then fstB 0||0==45||escS []else fstB c||escS [c]);rw[Py];rfl
 |c::d::t=> unfold nmS;show(if c==45 then fstB d||d==45||escS ((d::t)++47::y)else fstB c||escS ((c::d::t)++47::y))=(if c==45 then fstB d||d==45||escS (d::t)else fstB c||escS (c::d::t));rw[Py,Py]
theorem sW(q y:Str):digB (atS (q++47::y) 0)=digB (atS q 0):=by
 cases q with
 |nil=>rfl
 |cons c t=>rfl
theorem aO(q y:Str):unsign (q++47::y)=unsign q++47::y:=by
 cases q with
 |nil=>rfl
 |cons c t=>exact(ek (47::y) (by simp)).1
theorem zBE(q y:Str):undot (q++47::y)=undot q++47::y:=by
 cases q with
 |nil=>rfl
 |cons c t=>exact eG (47::y) (by simp)
theorem zF4(q y:Str):nbS (q++47::y)=nbS q:=by unfold nbS;rw[aO,zBE,sW]
theorem IW{m:Str}(c: ∀b∈m,b≠47): ∀(q y:Str),m.isPrefixOf (q++47::y)=m.isPrefixOf q:=by
 induction m with
 |nil=>grind
 |cons a m d=>
  intro q y;cases q with
  |nil=>
   grind
  |cons b t=>grind
theorem zEZ(q y:Str):letB (atS (q++47::y) 0)=letB (atS q 0):=by
 cases q with
 |nil=>rfl
 |cons c t=>rfl
theorem YV(c:UInt8)(r y:Str):brS c (r++47::y)=brS c r:=by have e:c::(r++47::y)=(c::r)++47::y:=rfl;unfold brS;rw[e,zF4,IW (by decide),IW (by decide),Cu,Cu,zEZ,Py]
theorem zEM{w:Str}(y:Str)(a:expS w=none):expS (w++47::y)=none:=by
 cases w with
 |nil=>rfl
 |cons c t=> rw[ji]at a ⊢;show((c==101||c==69)&&digB (atS (unsign (t++47::y)) 0))=false;rw[aO,sW];exact a
theorem zFd{q:Str}(y:Str)(h:(zP q).1≠[]):zlE q (47::y):=by obtain⟨a,b⟩:=Gz (q:=q) (x:=47::y) h (fun _=>rfl) (zEM y);exact⟨a,b,Cu _ y⟩
theorem bH{q:Str}(h:(zI q).2≠[]):(zP q).1≠[]:=by intro e;have:=(eQ q).length_le;simp_all
theorem zDz{c:UInt8}{r:Str}(y:Str)(h:(Zq (c::r)).2≠[]):Zq (c::(r++47::y))=((Zq (c::r)).1,(Zq (c::r)).2++47::y):=by refine Pv (YV c r y) h (fun _=>Cu r y) (fun a=>zFd y ?_);rw[qd,a,Vi]at h;exact bH h
def uJ(c:UInt8)(r x:Str):Prop:=(∃e a,(e=101\/e=69)/\z8 (Gf (c::r))=([e,43],a))/\(Zq (c::r)).2=[43]/\(Zq (c::r)).1.kind=12/\digB (atS x 0)=true
theorem zA3{c:UInt8}{r x:Str}(hb:brS c r=3)(h:(Zq (c::r)).2≠[])(hx:x≠[])(ht:(zI ((c::r)++x)).1=(zI (c::r)).1):
  zlE (c::r) x\/uJ c r x:=by
 have hnx:Zq (c::r)=zI (c::r):=by rw[qd,hb,Vi]
 rw[hnx]at h;have he:=bH h;have hflag: ∀q:Str,(zI q).1.kind=10->(zI q).1.flag=(zP q).2:=by
  intro q;unfold zI;split
  ·intro h;cases h
  ·grind
 have hnm: ∀q:Str,((zI q).1.kind=12↔nmS (zP q).1=true):=by
  intro q;unfold zI;split
  ·grind
  ·grind
 by_cases hd:Gf (c::r)=[46]->digB (atS x 0)=false
 ·by_cases hn:expS (z8 (Gf (c::r))).1=none->expS ((z8 (Gf (c::r))).1++x)=none
  ·obtain⟨a,b⟩:=Gz he hd hn;refine .inl ⟨a,b,?_⟩
   grind
  ·right;obtain⟨hn1,hn2⟩:=Classical.not_imp.1 hn;have hend:zP (c::r)=z8 (Gf (c::r)):=by rw[Ri,hn1]
   rw[hend]at he;obtain⟨w,fl⟩: ∃w fl,z8 (Gf (c::r))=(w,fl):=⟨_,_,rfl⟩;obtain⟨fl,hw⟩:=fl;rw[hw]at he hn1 hn2 hend;simp only at he hn1 hn2;rw[ji]at hn1;rw[ji]at hn2;cases w with
   |nil=>grind
   |cons e t=>
    have h2:((e==101||e==69)&&digB (atS (unsign (t++x)) 0))=true:=by
     have:((atS ((e::t)++x) 0==101||atS ((e::t)++x) 0==69)&&digB (atS (unsign (((e::t)++x).drop 1)) 0))=true:=by
      cases hh:((atS ((e::t)++x) 0==101||atS ((e::t)++x) 0==69)&&digB (atS (unsign (((e::t)++x).drop 1)) 0))with
      |true=>rfl
      |false=>grind
     exact this
    have h1:((e==101||e==69)&&digB (atS (unsign t) 0))=false:=hn1;rw[Ea]at h2;rw[h2.1,ma]at h1;have hee:e=101\/e=69:=by have:=h2.1;rw[Kc,Ib,Ib]at this;exact this
    have hfst:fstB e=true/\letB e=true/\(e==45)=false:=by rcases hee with rfl|rfl<;>decide
    have hnmw:nmS (e::t)=true:=by unfold nmS;rw[show atS (e::t) 0=e from rfl,hfst.2.2,Ga (by decide),hfst.1];rfl
    have hnum:zI (c::r)=(⟨12,[],(numP (c::r)).val,(zq (e::t)).1,fl⟩,(zq (e::t)).2):=by unfold zI;rw[hend,Ha hnmw]
    rw[hnum]at h;have h':(zq (e::t)).2≠[]:=h;have ht43:t=[43]/\digB (atS x 0)=true:=by
     match t with
     |[]=>rw[zR,Ha hfst.2.1,qR]at h';grind
     |[d]=>
      have hux:unsign ([d]++x)=if Pf d then x else d::x:=rfl;have hu:unsign [d]=if Pf d then []else [d]:=rfl;rw[hux]at h2;rw[hu]at h1;cases hs:Pf d with
      |false=>
       rw[hs,Ga (by decide)]at h1 h2;have:=h2.2;rw[show atS (d::x) 0=atS [d] 0 from rfl,h1]at this;cases this
      |true=>
       rw[hs,Ha rfl]at h2;unfold Pf at hs;rw[Kc,Ib,Ib]at hs;rcases hs with rfl|rfl
       ·grind
       ·rw[zR,Ha hfst.2.1,zR,Ha (by decide),qR]at h';grind
     |d::d2::t2=>
      exfalso;have hlen:1<=(unsign (d::d2::t2)).length:=by have:=NH (d::d2::t2);rw[Ja,Ja]at this;omega
      have:=h2.2;rw[(ek x (by simp)).1,Xh x (by omega),h1]at this;cases this
    obtain⟨rfl,hdx⟩:=ht43;refine⟨⟨e,fl,hee,hw⟩,?_,?_,hdx⟩
    ·rw[hnx,hnum];show(zq [e,43]).2=[43];rw[zR,Ha hfst.2.1,zR,Ga (by decide),Ga (by decide)]
    ·rw[hnx,hnum]
 ·exfalso;obtain⟨hq2,hdx⟩:=Classical.not_imp.1 hd;have hend:zP (c::r)=([46],true):=by rw[Ri,hq2];rfl
  have hnum:zI (c::r)=(⟨10,[],(numP (c::r)).val,[],true⟩,[46]):=by unfold zI;rw[hend,Ga (by decide),Ga (by decide)]
  rw[hnum]at ht;have hf:=hflag ((c::r)++x) (by rw[ht]);rw[ht]at hf;have hun:unsign (c::r)≠[]:=by intro e;rw[Gf,e]at hq2;cases hq2
  have e2:Gf ((c::r)++x)=46::x:=by unfold Gf;rw[(ek x (by simp)).1,Nk x (by unfold Gf at hq2;rw[hq2];simp)];unfold Gf at hq2;rw[hq2];rfl
  have hw:z8 (46::x)=(past digB x,false):=by
   unfold z8;have:digB (atS x 0)=true:=by cases hh:digB (atS x 0)with|true=>rfl|false=>grind
   rw[show atS (46::x) 0=46 from rfl,show atS (46::x) 1=atS x 0 from rfl,this];rfl
  have hfl:(zP ((c::r)++x)).2=false:=by rw[Ri,e2,hw];simp only;cases expS (past digB x)<;>rfl
  rw[hfl]at hf;cases hf
theorem EY{c:UInt8}{r x:Str}(h:(Zq (c::r)).2≠[])(hx:x≠[])(ht:(Zq (c::(r++x))).1=(Zq (c::r)).1):
  (Zq (c::(r++x))).2=(Zq (c::r)).2++x\/uJ c r x:=by
 have hb:brS c (r++x)=brS c r:=by rw[<-ol,<-ol,ht]
 have hh:brS c r=2->nmS (r++x)=nmS r:=by intro hi;have:=congrArg ze.flag ht;rw[qd,qd,hb,hi,Al,Al]at this;exact this
 by_cases hi:brS c r=3
 ·have hnx:Zq (c::r)=zI (c::r):=by rw[qd,hi,Vi]
  have hnx2:Zq (c::(r++x))=zI ((c::r)++x):=by rw[qd,hb,hi,Vi];rfl
  have ht':=ht;rw[hnx,hnx2]at ht';rcases zA3 hi h hx ht' with hs|hp
  ·left;rw[Pv hb h hh (fun _=>hs)]
  ·exact .inr hp
 ·left;rw[Pv hb h hh (fun e=>absurd e hi)]
def run:Str->List ze->Str->Prop
 |q,[],R=>q=R
 |q,t::a,R=> ∃c r,cmtS q=c::r/\(Zq (c::r)).1=t/\run (Zq (c::r)).2 a R
theorem pq: ∀{ts:List ze} {q R:Str},run q ts R->R<:+q
 |[],q,R,h=>by rw[run]at h;grind
 |t::ts,q,R,h=>by obtain⟨c,r,d,e,b⟩:=h;have a:=Ck q;rw[d]at a;exact(pq b).trans ((Oj c r).trans ((Wd c r).trans a))
theorem yl: ∀{ts:List ze} {q R:Str},run q ts R->Zk q=ts++Zk R
 |[],q,R,h=>by rw[run]at h;subst h;rfl
 |t::ts,q,R,h=>by obtain⟨c,r,d,b,a⟩:=h;rw[Qd d,b,yl a];rfl
theorem oz: ∀{ts us:List ze} {q R S:Str},run q ts R->run R us S->run q (ts++us) S
 |[],us,q,R,S,h,a=>by rw[run]at h;subst h;exact a
 |t::ts,us,q,R,S,h,a=>by obtain⟨c,r,e,d,b⟩:=h;exact⟨c,r,e,d,oz b a⟩
theorem xL: ∀{ts us:List ze} {q:Str},Zk q=ts++us-> ∃R,run q ts R/\Zk R=us
 |[],us,q,h=>⟨q,rfl,h⟩
 |t::ts,us,q,h=>by
  cases a:cmtS q with
  |nil=>rw[QL a]at h;cases h
  |cons c r=> rw[Qd a,Sa]at h;injection h with d f;obtain⟨R,e,b⟩:=xL f;exact⟨R,⟨c,r,a,d,e⟩,b⟩
theorem tK: ∀{ts:List ze} {q R S:Str},run q ts R->run q ts S->R=S
 |[],q,R,S,h,b=>by rw[run]at h b;rw[<-h,b]
 |t::ts,q,R,S,h,b=>by obtain⟨c,r,f,m,g⟩:=h;obtain⟨l,k,a,e,d⟩:=b;rw[f]at a;injection a with i j;subst i j;exact tK g d
theorem uK{ts:List ze}{q R:Str}(d:ts≠[]):run (cmtS q) ts R↔run q ts R:=by
 cases ts with
 |nil=>grind
 |cons t ts=>
  constructor
  ·rintro⟨c,r,a,b⟩;rw[Ho]at a;exact⟨c,r,a,b⟩
  ·rintro⟨c,r,a,b⟩;exact⟨c,r,by rw[Ho];exact a,b⟩
theorem RF(x:Str): ∀{l r:Str},clsS l=some r->clsS (l++x)=some (r++x)
 |[],r,h=>by cases h
 |c::t,r,h=>by
  rw[clsS]at h;rw[Sa,clsS];cases t with
  |nil=>
   cases a:c==42&&atS ([]:Str) 0==47 with
   |true=>rw[Ea]at a;exact absurd a.2 (by decide)
   |false=>rw[a,Ga (by decide)]at h;cases h
  |cons d u=>
   rw[show atS ((d::u)++x) 0=atS (d::u) 0 from rfl];split
   ·grind
   ·rename_i a;rw[Ga a]at h;exact RF x h
theorem Cr{q x:Str}(h:cmtS q≠[])(a:([47,42]:Str).isPrefixOf (cmtS q++x)=false):cmtS (q++x)=cmtS q++x:=by
 rw[Li q]at h a ⊢;split at h
 ·rename_i b;have c:=il b;rw[show([47,42]:Str).length=2 from rfl]at c;rw[Ha b]at a ⊢;cases d:clsS (q.drop 2)with
  |none=>grind
  |some p=>
   rw[d]at h a;simp only at h a ⊢;rw[Li (q++x),rq x (by exact c),b,Ha rfl,Mr c,RF x d];simp only;have e:p.length<q.length:=by have e:=(Dk _ d).2;rw[Ub]at e;omega
   exact Cr h a
 ·rename_i b;rw[Ga b]at a ⊢;exact ZK a
termination_by q.length
decreasing_by omega
theorem iN{c d:UInt8}(t x:Str):([47,42]:Str).isPrefixOf ((c::d::t)++x)=([47,42]:Str).isPrefixOf (c::d::t):=rq x (by grind)
theorem oL{q x:Str}(h:2<=(cmtS q).length):cmtS (q++x)=cmtS q++x:=by refine Cr (Xo (by omega)) ?_;rw[rq x (by exact h)];exact Br q
theorem FN{c:UInt8}{r:Str}(h:(Zq (c::r)).2≠[]):2<=(c::r).length:=by
 have b:=(Oj c r).length_le;have a:=Ie.2 h
 grind
theorem sK: ∀{ts:List ze} {q R:Str} (x:Str),run q ts R->4<=R.length->run (q++x) ts (R++x)
 |[],q,R,x,h,_=>by rw[run]at h;subst h;rfl
 |t::ts,q,R,x,h,e=>by obtain⟨c,r,a,f,b⟩:=h;have i:=(pq b).length_le;have d:=zAX x (c:=c) (r:=r) (by omega);have g:=FN (c:=c) (r:=r) (Xo (by omega));refine⟨c,r++x,by rw[oL (by rw[a];exact g),a];rfl,by rw[d];exact f,?_⟩;rw[d];exact sK x b e
theorem KE{q:Str}(y:Str)(h:cmtS q≠[]):cmtS (q++47::42::y)=cmtS q++47::42::y:=by
 refine Cr h ?_;have b:=Br q;cases a:cmtS q with
 |nil=>exact absurd a h
 |cons c t=>
  cases t with
  |nil=>
   grind
  |cons d u=>grind
theorem gD: ∀{ts:List ze} {q R:Str} (y:Str),run q ts R->R≠[]->run (q++47::42::y) ts (R++47::42::y)
 |[],q,R,y,h,_=>by rw[run]at h;subst h;rfl
 |t::ts,q,R,y,h,hl=>by
  obtain⟨c,r,h1,h2,h3⟩:=h;have h4:(Zq (c::r)).2≠[]:=by intro e;have:=(pq h3).length_le;rw[e]at this;exact hl (Ye.1 (by simpa using this))
  have h5:=zDz (42::y) h4;refine⟨c,r++47::42::y,by rw[KE y (by rw[h1];simp),h1];rfl,by rw[h5];exact h2,?_⟩;rw[h5];exact gD y h3 hl
def iV(q x:Str)(us:List ze):Prop:= ∃c r,cmtS q=c::r/\uJ c r x/\(Zq (c::(r++x))).1=(Zq (c::r)).1/\Zk (Zq (c::(r++x))).2=us
theorem KM: ∀{ts us:List ze} {q R:Str} {x:Str},run q ts R->R≠[]->x≠[]->Zk (q++x)=ts++us->run (q++x) ts (R++x)\/(R=[43]/\ ∃p,p<:+q/\iV p x us)
 |[],us,q,R,x,h,_,_,_=>by rw[run]at h;subst h;exact .inl rfl
 |t::ts,us,q,R,x,h,hl,hx,ht=>by
  obtain⟨c,r,h1,h2,h3⟩:=h;have h4:(Zq (c::r)).2≠[]:=by intro e;have:=(pq h3).length_le;rw[e]at this;exact hl (Ye.1 (by simpa using this))
  have hc:cmtS (q++x)=c::(r++x):=by rw[oL (by rw[h1];exact FN h4),h1];rfl
  rw[Qd hc,Sa]at ht;injection ht with ht1 ht2;rcases EY h4 hx (by rw[ht1,h2])with h5|h5
  ·rw[h5]at ht2;rcases KM h3 hl hx ht2 with h6|⟨h6,p,hp,h7⟩
   ·exact .inl ⟨c,r++x,hc,ht1,by rw[h5];exact h6⟩
   ·refine .inr ⟨h6,p,hp.trans ((Oj c r).trans ((Wd c r).trans ?_)),h7⟩;rw[<-h1];exact Ck q
  ·right;have h43:=h5.2.1;have hR:R=[43]/\ts=[]:=by
    cases ts with
    |nil=>rw[run,h43]at h3;grind
    |cons u us'=> exfalso;rw[h43]at h3;obtain⟨c',r',e1,e2,e3⟩:=h3;rw[show cmtS [43]=[43]from ZK rfl]at e1;injection e1 with e4 e5;subst e4 e5;have:=(pq e3).length_le;have h9:=(Oj (43:UInt8) []).length_le;simp_all
   obtain⟨hR,rfl⟩:=hR;refine⟨hR,q,Te _,c,r,h1,h5,by rw[ht1,h2],?_⟩;rw[ht2];rfl
def encB(p:UInt8->Bool):Str->Str
 |[]=>[]
 |c::r=>(bif p c then escC c else [c])++encB p r
def quoB(c:UInt8):Bool:=c==10||c==12||c==13||c==34||c==92
def urB(c:UInt8):Bool:=decide (c.toNat<=32)||c==34||c==39||c==40||c==41||c==92||c==127
def Dj:Str->Bool
 |[]=>false
 |c::r=>(c==101||c==69)&&numS r&& !(List.isPrefixOf [45,45] r)
def Yf:Str->Str
 |[]=>[]
 |c::r=>bif Dj (c::r)then escC c++encW false 0 r else Zx (c::r)
def El(k:Int):Str:=
 bif k==13 then [32]else bif k==14 then [60,33,45,45]else bif k==15 then [45,45,62]else bif k==16 then [58]else bif k==17 then [59]else bif k==18 then [44]else
 bif k==19 then [91]else bif k==20 then [93]else bif k==21 then [40]else bif k==22 then [41]else bif k==23 then [123]else [125]
def txS(t:ze):Str:=
 bif t.kind==1 then Zx t.text
 else bif t.kind==2 then Zx t.text++[40]
 else bif t.kind==3 then 64::Zx t.text
 else bif t.kind==4 then 35::(bif t.flag then Zx t.text else encW false 0 t.text)
 else bif t.kind==5 then 34::(encB quoB t.text++[34])
 else bif t.kind==7 then [117,114,108,40]++(encB urB t.text++[41])
 else bif t.kind==9 then t.text
 else bif t.kind==10 then numT t.num (!t.flag)
 else bif t.kind==11 then numT t.num false++[37]
 else bif t.kind==12 then numT t.num (!t.flag)++Yf t.unit
 else El t.kind
theorem Yv(p:UInt8->Bool): ∀l:Str,(encB p l).length<=4*l.length
 |[]=>by unfold encB;simp
 |c::r=>by
  have:=Aw c;have:=Yv p r;unfold encB
  grind
theorem zC4{p:UInt8->Bool}{i:Nat}{l:Str}(h:i<l.length):encB p (l.drop i)=(bif p l[i]then escC l[i]else [l[i]])++encB p (l.drop (i+1)):=by rw[Bb h,encB]
theorem kP {R:Type} {step:Int×List UInt8->Option (LO (Int×List UInt8) (List UInt8) R)} {l acc:Str} {p:UInt8->Bool} (hl:l.length<=100000) (ha:acc.length<=100000000)
  (h1: ∀(i:Nat) (a:Str) (hi:i<l.length),a.length<=500000000->step ((i:Int),a)=some (.again (w64 ((i:Int)+1),a++(bif p l[i]then escC l[i]else [l[i]]))))
  (h2: ∀a,step ((l.length:Int),a)=some (.out a)):Jg step (0,acc)=some (.out (acc++encB p l)):=by
 refine ZT (fun z=> ∃(i:Nat) (a:Str),z=((i:Int),a)/\i<=l.length/\a.length<=acc.length+4*i/\a++encB p (l.drop i)=acc++encB p l) (fun z=>l.length - z.1.toNat) _ ?_ ⟨0,acc,rfl,by omega,by omega,rfl⟩;rintro _ ⟨i,a,rfl,hi,hal,he⟩;rcases Ld i l.length with h|h
 ·refine .inl ⟨_,h1 i a h (by omega),⟨i+1,_,by rw[Zh (by omega) (by omega)];rfl,by omega,?_,?_⟩,by simp only;rw[Zh (by omega) (by omega)];omega⟩
  ·have:=Aw l[i]
   grind
  ·rw[<-he,zC4 h,La]
 ·have:i=l.length:=by omega
  subst this;refine .inr (.inl ⟨_,h2 a,?_⟩);rw[<-he,Pe (Xa _)];rw[show encB p []=[] by rw[encB],Ra]
theorem LG{l acc:Str}{k:Nat}(d:l.length<=100000)(b:acc.length<=100000000):qi ((l,(k:Int)),acc)=some (acc++encW (Vh k l) k l):=by
 unfold qi;rw[qW (XK (dash:=Vh k l) (k:=k) (l:=l) (acc:=acc) d b (fun i a f b=> ?_) (fun a=> ?_))]
 ·have g:decide ((i:Int)<(l.length:Int))=true:=Ia (by omega);have e:geti l (i:Int)=some l[i]:=ZA f;have j:decide ((i:Int)>=(k:Int))=(k - i==0):=by
   by_cases h:k<=i
   ·grind
   ·grind
  have m:((k:Int)==0)=(k==0):=by
   by_cases h:k=0
   ·subst h;rfl
   ·grind
  simp only[g,Da,e,j,m,zb,Aa,yK,XF];have c:(bif k==0 then true else !(l==[45]))= !Vh k l:=by unfold Vh;cases k==0<;>cases l==[45]<;>rfl
  rw[c];unfold pcW;cases letB l[i]with
  |false=>
   cases k - i==0<;>simp only[zo,aa,Va,Rc,Lb,Rb,Da,Ba,Aa,Hm l[i] (show a.length<=1000000000 by omega),zh]
  |true=> cases k - i==0<;>cases digB l[i]<;>cases Vh k l<;>simp only[zo,aa,Va,Rc,Lb,Rb,Ff,Ke,ma,Xc,Td,Da,Ba,Aa,Ev,zC (Ng (show a.length+1<=2000000000 by omega)),Hm l[i] (show a.length<=1000000000 by omega),zh]
 grind
theorem Y1(l:Str):Vh (Qp l) l=(l==[45]):=by unfold Vh Qp;split<;>rfl
theorem Wu{l acc:Str}(a:l.length<=100000)(b:acc.length<=100000000):qi ((l,((Qp l:Nat):Int)),acc)=some (acc++Zx l):=by rw[LG a b,Y1];rfl
theorem zCC{n:Nat}{b:Str}(c:n<=1000000000000)(d:b.length<=100000):Jo (((n:Int),10),b)=some (b++Lib.decDigits n):=by have a:short b=true:=Ia (by omega);unfold Jo;simp only[a,Rb,Eb,decide_true,ma];rw[Ia (by omega),Ia (by omega)];rfl
theorem aR{m:Nat}(n:m<=1000000000000)(p:Bool)(b:Str)(o:b.length<=90000):
  ((Jo ((w64 (Int.tdiv (m:Int) 1000),10),b)).bind fun a=>(Ao (w64 (1000+Int.tmod (m:Int) 1000),10)).bind fun d=>need (decide (1<=(d.length:Int)))<|
   (Kl (List.drop 1 d,[48])).bind fun c=>zM (X:=List UInt8) (R:=List UInt8) (bif !(c==[])then need (zH a.length 1 1)<|need (zH (a++[(46:UInt8)]).length c.length 1)<|some (LX.out (a++[(46:UInt8)]++c))else bif p then need (zH a.length ([46,48]:Str).length 1)<|some (LX.out (a++([46,48]:Str)))else some (LX.out a)) fun l=>some l)=some (b++rf m p):=by
 have k:w64 (Int.tdiv (m:Int) 1000)=((m / 1000:Nat):Int):=by rw[show Int.tdiv (m:Int) 1000=((m / 1000:Nat):Int)from rfl,Zh (by omega) (by omega)]
 have j:w64 (1000+Int.tmod (m:Int) 1000)=((1000+m%1000:Nat):Int):=by rw[show Int.tmod (m:Int) 1000=((m%1000:Nat):Int)from rfl,Zh (by omega) (by omega)];omega
 have f:m%1000<1000:=by omega
 rw[k,j];have i:Ao (((1000+m%1000:Nat):Int),10)=some (49::[d48 (m%1000 / 100),d48 (m%1000 / 10%10),d48 (m%1000%10)]):=by unfold Ao i64B;simp only[decide_true,ma];rw[Ia (by omega),Ia (by omega)];rw[<-zAg f];show some (Lib.itoa _)=_;unfold Lib.itoa;rw[Ga (by omega),Eb]
 have e:=pG (u:=m / 1000) (by omega);rw[zCC (by omega) (by omega),Aa,i,Aa,zC (Ia (by simp))];have g:Kl (List.drop 1 (49::[d48 (m%1000 / 100),d48 (m%1000 / 10%10),d48 (m%1000%10)]),[48])=some (jh (m%1000)):=rfl;rw[g,Aa,lZ];have h:=BG _ f;simp only[Xy,Ea,Jb]at h;unfold rf ik;cases (jh (m%1000)).isEmpty with
 |true=>
  simp only[aa,Ba,Da];cases p with
  |true=>rw[Da,zC (Yj (by grind) (by omega)),zh,La];rfl
  |false=>simp_all
 |false=> simp only[Va,Ba,Da];rw[zC (Yj (by grind) (by omega)),zC (Yj (by grind) (by omega)),zh,La,La];rfl
theorem dH{n:Int}(d: -1000000000000<=n)(h2:n<=1000000000000)(p:Bool){acc:Str}(c:acc.length<=80000):qx ((n,p),acc)=some (acc++numT n p):=by
 unfold qx numT;simp only[zb];by_cases a:n<0
 ·obtain⟨m,rfl⟩: ∃m:Nat,n= -(m:Int):=⟨n.natAbs,by omega⟩;rw[Ia a,Da,zC (Yj (by omega) (by omega)),zh,Ha a];simp only;have b:w64 (0 - -(m:Int))=(m:Int):=by rw[show(0 - -(m:Int))=(m:Int) by omega,Zh (by omega) (by omega)]
  rw[b,Int.natAbs_neg,Int.natAbs_natCast,<-La];exact aR (by omega) p (acc++[45]) (by grind)
 ·obtain⟨m,rfl⟩: ∃m:Nat,n=(m:Int):=⟨n.toNat,by omega⟩;rw[Ya a,Ba,zh,Ga a];simp only;rw[Int.natAbs_natCast,Ob];exact aR (by omega) p acc (by omega)
theorem zDm: ∀n:Nat,n<256->(ibOr IntKind.u8 (n:Int) 32==101)=(UInt8.ofNat n==101||UInt8.ofNat n==69):=by decide+kernel
theorem zDl(c:UInt8):(ibOr IntKind.u8 (c.toNat:Int) 32==101)=(c==101||c==69):=by have:=zDm c.toNat (Ab c);simp_all
theorem zDX(c:UInt8):decide (Lib.indexByte [10,12,13,34,92] c.toNat.toUInt8>=0)=quoB c:=by
 have: ∀n:Nat,n<256->decide (Lib.indexByte [10,12,13,34,92] n.toUInt8>=0)=quoB (UInt8.ofNat n):=by decide+kernel
 have:=this c.toNat (Ab c);simp_all
theorem zEb(c:UInt8):(decide ((c.toNat:Int)<=32)||decide (Lib.indexByte [34,39,40,41,92,127] c.toNat.toUInt8>=0))=urB c:=by
 have: ∀n:Nat,n<256->(decide ((n:Int)<=32)||decide (Lib.indexByte [34,39,40,41,92,127] n.toUInt8>=0))=urB (UInt8.ofNat n):=by decide+kernel
 have:=this c.toNat (Ab c);simp_all
theorem V4 {t:ze} (h:mf t=true) (e:(t.kind==1)=false) (h2:(t.kind==2)=false) (g:(t.kind==3)=false) (d:(t.kind==4)=false) (i:(t.kind==5)=false) (j:(t.kind==7)=false) (f:(t.kind==9)=false)
  (c:(t.kind==10)=false) (b:(t.kind==11)=false) (a:(t.kind==12)=false):13<=t.kind/\t.kind<=24:=by
 unfold mf at h
 grind
theorem zAO: ∀n:Nat,n<12->(Ms ()).bind (fun a=>geti [a.e0,a.e1,a.e2,a.e3,a.e4,a.e5,a.e6,a.e7,a.e8,a.e9,a.e10,a.e11] (wu8 ((13+n:Int) - 13)))=some (El (13+n:Int)):=by decide+kernel
theorem AP(k:Int):(El k).length<=4:=by
 unfold El;cases k==13<;>cases k==14<;>cases k==15<;>simp only[Da,Ba]<;>try (simp;done)
 grind
theorem zBv{t:ze}{acc:Str}(x:mf t=true)(R:t.text.length<=5000)(h2:t.unit.length<=5000)(ha:acc.length<=60000):Rm (t,acc)=some (acc++txS t):=by
 have one: ∀q:Str,q.length<=90000->zH q.length 1 1=true:=fun q hq=>Yj (by omega) (by omega);have z: ∀l:Str,l.length<=5000->(Zx l).length<=20000:=fun l hl=>by have:=Eo (l==[45]) (Qp l) l;unfold Zx;omega
 unfold Rm txS;simp only[zb];cases H:t.kind==1 with
 |true=>simp only[Da,Kr,Aa,Wu (show t.text.length<=100000 by omega) (show acc.length<=100000000 by omega)]
 |false=>
 cases L:t.kind==2 with
 |true=> simp only[Da,Ba,Kr,Aa,Wu (show t.text.length<=100000 by omega) (show acc.length<=100000000 by omega)];have:=z t.text R;rw[zC (one _ (by grind)),La]
 |false=>
 cases M:t.kind==3 with
 |true=> simp only[Da,Ba,Kr,Aa];rw[zC (one _ (by omega)),Wu (by omega) (by grind),La];rfl
 |false=>
 cases Q:t.kind==4 with
 |true=>
  simp only[Da,Ba,Kr,Aa];cases t.flag with
  |true=> simp only[Da,zh];rw[zC (one _ (by omega)),Wu (by omega) (by grind),La];rfl
  |false=> simp only[Ba,zh];rw[zC (one _ (by omega)),show(0:Int)=((0:Nat):Int)from rfl,LG (by omega) (by grind),La];rfl
 |false=>
 cases P:t.kind==5 with
 |true=>
  simp only[Da,Ba];have k:maxLen=9223372036854775807:=rfl;rw[zC (one _ (by omega)),zC (Ia (by omega))];have C:=Yv quoB t.text;rw[qW (kP (p:=quoB) (l:=t.text) (acc:=acc++[34]) (by omega) (by grind) (fun i a F y=> ?_) (fun a=> ?_))]
  ·rw[zC (one _ (by grind)),La,La];rfl
  ·have D:decide ((i:Int)<(t.text.length:Int))=true:=Ia (by omega);have A:decide ((0:Int)<=(i:Int))=true:=Ia (by omega);simp only[D,A,Rb,Da,zV,Eb,Ua F,Aa,Gt,zDX];cases quoB t.text[i]with
   |true=>simp only[Da,Hm _ (show a.length<=1000000000 by omega),Aa,zh]
   |false=>simp only[Ba,Ev,Aa,zC (Ng (show a.length+1<=2000000000 by omega)),zh]
  ·grind
 |false=>
 cases O:t.kind==7 with
 |true=>
  simp only[Da,Ba];have k:maxLen=9223372036854775807:=rfl;rw[zC (Yj (by grind) (by omega)),zC (Ia (by omega))];have C:=Yv urB t.text;rw[qW (kP (p:=urB) (l:=t.text) (acc:=acc++[117,114,108,40]) (by omega) (by grind) (fun i a F y=> ?_) (fun a=> ?_))]
  ·rw[zC (one _ (by grind)),La,La]
  ·have D:decide ((i:Int)<(t.text.length:Int))=true:=Ia (by omega);have A:decide ((0:Int)<=(i:Int))=true:=Ia (by omega);simp only[D,A,Rb,Da,zV,Eb,Ua F,Aa,Gt];rw[<-zEb];cases decide ((t.text[i].toNat:Int)<=32)with
   |true=>simp only[aa,Zb,Aa,Da,Td,Hm _ (show a.length<=1000000000 by omega),zh]
   |false=>
    simp only[Va,zA,Aa,Ba,Xc];cases decide (Lib.indexByte [34,39,40,41,92,127] t.text[i].toNat.toUInt8>=0)with
    |true=>simp only[Da,Hm _ (show a.length<=1000000000 by omega),Aa,zh]
    |false=>simp only[Ba,Ev,Aa,zC (Ng (show a.length+1<=2000000000 by omega)),zh]
  ·grind
 |false=>
 cases N:t.kind==9 with
 |true=> simp only[Da,Ba];rw[zC (Yj (by omega) (by omega))]
 |false=>
 have g:(t.kind==10||t.kind==11||t.kind==12)=true->rngS t=true/\(!(t.unit==[])==(t.kind==12))=true:=by intro Z;unfold mf at x;simp only[H,L,M,Q,P,O,N,Z,Bool.or_self,Ba,Da,Ea]at x;exact⟨x.1,x.2.1⟩
 have b:rngS t=true-> -1000000000000<=t.num/\t.num<=1000000000000:=by intro j;unfold rngS at j;simp only[Ea,Jb]at j;exact⟨j.1,j.2.1⟩
 cases s:t.kind==10 with
 |true=> obtain⟨u,w⟩:=b (g (by rw[s];rfl)).1;simp only[Da,Ba,dH u w _ (show acc.length<=80000 by omega),Aa]
 |false=>
 cases E:t.kind==11 with
 |true=>
  obtain⟨u,w⟩:=b (g (by grind)).1;have T:(numT t.num false).length<=25:=by
   have:=RA (m:=t.num.natAbs) (by omega) false;unfold numT;rw[Ka];split
   ·grind
   ·grind
  simp only[Da,Ba,dH u w _ (show acc.length<=80000 by omega),Aa];rw[zC (one _ (by grind)),La]
 |false=>
 cases o:t.kind==12 with
 |true=>
  obtain⟨j,X⟩:=g (by grind);obtain⟨u,w⟩:=b j;rw[o]at X;have T:(numT t.num (!t.flag)).length<=25:=by
   have:=RA (m:=t.num.natAbs) (by omega) (!t.flag);unfold numT;rw[Ka];split
   ·grind
   ·grind
  simp only[Da,Ba,dH u w _ (show acc.length<=80000 by omega),Aa];cases G:t.unit with
  |nil=>grind
  |cons c r=>
   rw[G,Ja]at h2;have h:geti (c::r) 0=some c:=rfl;have B:List.drop 1 (c::r)=r:=rfl;have f:decide (1<=((c::r:Str).length:Int))=true:=Ia (by grind);simp only[h,B,f,Td,zV,Aa,zDl,rT,Qr,Kr];have v:(acc++numT t.num (!t.flag)).length<=100000000:=by rw[Ka];omega
   have d:=Wu (l:=c::r) (acc:=acc++numT t.num (!t.flag)) (by grind) v;have e:Yf (c::r)=(bif (c==101||c==69)&&numS r&& !(List.isPrefixOf [45,45] r)then escC c++encW false 0 r else Zx (c::r)):=rfl;rw[e];have Y:(c==101||c==69)=true->Zg ((c.toNat:Int),acc++numT t.num (!t.flag))=some (acc++numT t.num (!t.flag)++escC c):=fun _=>Hm c (by grind);cases S:c==101||c==69 with
   |false=> simp_all
   |true=>
    simp only[zA,Aa,Da,ma];cases J:numS r with
    |false=> simp_all
    |true=>
     simp only[zA,Aa,Da,ma];cases hp:List.isPrefixOf [45,45] r with
     |true=> simp only[aa,Ba,d,Aa];rw[La]
     |false=> simp only[Va,Da,Y S,Aa];have K:=Aw c;rw[show(0:Int)=((0:Nat):Int)from rfl,LG (by omega) (by rw[Ka,Ka];omega)];rw[La,La];rfl
 |false=>
 obtain⟨W,V⟩:=V4 x H L M Q P O N s E o;obtain⟨n,J⟩: ∃n:Nat,t.kind=13+(n:Int):=⟨(t.kind - 13).toNat,by omega⟩;have h:=zAO n (by omega);rw[<-J]at h;have k:=AP t.kind;simp only[Ba];have U:Ms ()=some ⟨[32],[60,33,45,45],[45,45,62],[58],[59],[44],[91],[93],[40],[41],[123],[125]⟩:=rfl;rw[U]at h ⊢;simp only[Aa]at h ⊢;rw[h];simp only[Aa];rw[zC (Yj (by omega) (by omega))]
theorem ko{c:UInt8}(h0:c≠0)(h:c.toNat<128)(R:Str): ∃d t,escC c++R=92::d::t/\(d==10)=false/\zt (d::t)=([c],R):=by
 unfold escC;cases hg:decide (32<c.toNat)&&decide (c.toNat<127)&& !digB c&& !alB c with
 |true=>
  have hx:QA c=false/\(c==10)=false:=by
   have: ∀n:Nat,n<256->(decide (32<(UInt8.ofNat n).toNat)&&decide ((UInt8.ofNat n).toNat<127)&& !digB (UInt8.ofNat n)&& !alB (UInt8.ofNat n))=true->QA (UInt8.ofNat n)=false/\(UInt8.ofNat n==10)=false:=by decide+kernel
   have:=this c.toNat (Ab c);rw[xc]at this;exact this hg
  exact⟨c,R,rfl,hx.2,by show(if QA c then _ else _)=_;grind⟩
 |false=> obtain⟨d,t,e,hd,h10⟩:=jG (n:=c.toNat) (Ab c) ([32]++R);refine⟨d,t,by grind,h10,?_⟩;have hh:=KL (n:=c.toNat) (Ab c) R;rw[show(32::R:Str)=[32]++R from rfl,e]at hh;show(if QA d then(Mg (hexes 6 0 (d::t)).1,unsp (hexes 6 0 (d::t)).2)else _)=_;rw[Ha hd,hh,YO h0 h];rfl
theorem zEd(n:Nat):Mg n≠[]:=by
 unfold Mg Gl
 grind
theorem Y0(r:Str):(zt r).1≠[]:=by
 cases r with
 |nil=>show Gl≠[];decide
 |cons c r=>
  show(if QA c then(Mg (hexes 6 0 (c::r)).1,unsp (hexes 6 0 (c::r)).2)else([c],r)).1≠[];split
  ·exact zEd _
  ·simp
theorem bA{x:Str}(h:(zq x).1=[]):(zq x).2=x:=by
 cases x with
 |nil=>rw[qR]
 |cons c r=>
  rw[zR]at h ⊢;split
  ·grind
  ·rename_i b;rw[Ga b]at h;split
   ·rename_i a;rw[Ha a]at h;exact absurd (List.append_eq_nil_iff.1 h).1 (Y0 r)
   ·rfl
theorem QQ{c:UInt8}{r:Str}(h:Zi (c::r)=true):c≠0/\Zi r=true:=by
 unfold Zi at h ⊢
 grind
theorem yG{dash:Bool}(R:Str): ∀(k:Nat) (l:Str),Zi l=true->(dash=true-> ∀c∈l,c.toNat<128)->zq (encW dash k l++R)=(l++(zq R).1,(zq R).2)
 |_,[],_,_=>by rw[encW];rfl
 |k,c::r,h,a=>by obtain⟨f,d⟩:=QQ h;rw[encW,La,jK f (fun e=>a e c (Db ..)),yG R (k - 1) r d (fun e x b=>a e x (ja _ b))];rfl
theorem Tj{l:Str}(R:Str)(h:Zi l=true):zq (Zx l++R)=(l++(zq R).1,(zq R).2):=by refine yG R _ _ h (fun e c a=> ?_);simp_all
theorem PO{l:Str}(R:Str)(k:Nat)(h:Zi l=true):zq (encW false k l++R)=(l++(zq R).1,(zq R).2):=yG R k l h (fun e=>by cases e)
theorem LY(c:UInt8):(quoB c=true->c.toNat<128)/\(quoB c=false->(c==34)=false/\(c==10)=false/\(c==92)=false):=by
 have: ∀n:Nat,n<256->(quoB (UInt8.ofNat n)=true->(UInt8.ofNat n).toNat<128)/\(quoB (UInt8.ofNat n)=false->(UInt8.ofNat n==34)=false/\(UInt8.ofNat n==10)=false/\(UInt8.ofNat n==92)=false):=by decide+kernel
 have:=this c.toNat (Ab c);simp_all
theorem PM(x:Str): ∀(l:Str),Zi l=true->Za 34 (encB quoB l++34::x)=(some l,x)
 |[],_=>by rw[encB,Ob,Qu,Ha (by decide)]
 |c::r,h=>by
  obtain⟨f,k⟩:=QQ h;have m:=PM x r k;obtain⟨p,j⟩:=LY c;rw[encB,La];cases a:quoB c with
  |true=>
   obtain⟨d,t,o,n,b⟩:=ko f (p a) (encB quoB r++34::x);rw[Da,o,Qu,Ga (by decide),Ga (by decide),Ha (by decide),show(d::t).isEmpty=false from rfl,Ga (by decide),show atS (d::t) 0=d from rfl,n,Ga (by decide),b]
   grind
  |false=> obtain⟨g,i,e⟩:=j a;rw[Ba,Uc,Qu,g,Ga (by decide),i,Ga (by decide),e,Ga (by decide),m];rfl
theorem uL(c:UInt8):(urB c=true->c.toNat<128)/\(urB c=false->(c==41)=false/\spB c=false/\(c==34||c==39||c==40||unB c)=false/\(c==92)=false/\(c==34)=false/\(c==39)=false):=by
 have: ∀n:Nat,n<256->(urB (UInt8.ofNat n)=true->(UInt8.ofNat n).toNat<128)/\(urB (UInt8.ofNat n)=false->(UInt8.ofNat n==41)=false/\spB (UInt8.ofNat n)=false/\(UInt8.ofNat n==34||UInt8.ofNat n==39||UInt8.ofNat n==40||unB (UInt8.ofNat n))=false/\(UInt8.ofNat n==92)=false/\(UInt8.ofNat n==34)=false/\(UInt8.ofNat n==39)=false):=by decide+kernel
 have:=this c.toNat (Ab c);simp_all
theorem OM(x:Str): ∀(l:Str),Zi l=true->urlS (encB urB l++41::x)=(some l,x)
 |[],_=>by rw[encB,Ob,Uk,Ha (by decide)]
 |c::r,h=>by
  obtain⟨g,n⟩:=QQ h;have o:=OM x r n;obtain⟨s,k⟩:=uL c;rw[encB,La];cases a:urB c with
  |true=>
   obtain⟨d,t,q,p,e⟩:=ko g (s a) (encB urB r++41::x);have m:escS (92::d::t)=true:=by unfold escS;rw[show atS (92::d::t) 1=d from rfl,p];rfl
   rw[Da,q,Uk,Ga (by decide),Ga (by decide),m,Ga (by decide),Ha (by decide),e]
   grind
  |false=> obtain⟨i,j,f,b,_,_⟩:=k a;rw[Ba,Uc,Uk,i,Ga (by decide),j,Ga (by decide),f,b,Lb,Ke,Ga (by decide),Ga (by decide),o];rfl
theorem zBH(x:Str)(l:Str)(h:Zi l=true):past spB (encB urB l++41::x)=encB urB l++41::x/\(atS (encB urB l++41::x) 0==34||atS (encB urB l++41::x) 0==39)=false:=by
 cases l with
 |nil=>exact⟨rfl,rfl⟩
 |cons c r=>
  obtain⟨b,q⟩:=QQ h;obtain⟨k,f⟩:=uL c;rw[encB,La];cases a:urB c with
  |true=> obtain⟨d,t,i,s,n⟩:=ko b (k a) (encB urB r++41::x);rw[Da,i];exact⟨rfl,rfl⟩
  |false=> obtain⟨p,e,o,m,j,g⟩:=f a;rw[Ba,Uc];refine⟨by rw[past,e];rfl,?_⟩;show(c==34||c==39)=false;rw[j,g];rfl
theorem zDL{n:Int}{p:Bool}:(partT (n.natAbs%1000) p).isEmpty=((n.natAbs%1000==0)&& !p):=(Jk (r:=n.natAbs%1000) (by omega) p).2.2.2.2
def sgT(n:Int):Str:=if n<0 then [45]else []
theorem fu(n:Int)(p:Bool):numT n p=sgT n++(Lib.decDigits (n.natAbs / 1000)++dotS (if(partT (n.natAbs%1000) p).isEmpty then none else some (partT (n.natAbs%1000) p))):=by
 have h:=(Jk (r:=n.natAbs%1000) (by omega) p).2.2.2.1;unfold numT rf sgT;rw[h];cases (partT (n.natAbs%1000) p).isEmpty with
 |true=>rfl
 |false=>rfl
theorem q2_T(n:Int)(p:Bool)(x:Str):Gf (numT n p++x)=past digB (dotS (if(partT (n.natAbs%1000) p).isEmpty then none else some (partT (n.natAbs%1000) p))++x):=by
 obtain⟨d,f,g⟩:=xq (n.natAbs / 1000);obtain⟨c,r,e,a⟩:=bv (n.natAbs / 1000);rw[fu];generalize dotS _=t;unfold Gf;have b:unsign ((sgT n++(Lib.decDigits (n.natAbs / 1000)++t))++x)=Lib.decDigits (n.natAbs / 1000)++(t++x):=by
  unfold sgT;split
  ·rw[La,Uc,La];rfl
  ·rw[Ob,La,e,Sa];unfold unsign Pf;rw[show atS (c::(r++(t++x))) 0=c from rfl,Fa.2 (ug a).2.1,Fa.2 (ug a).1];rfl
 rw[b,vz _ _ d]
theorem TG{n:Int}{p:Bool}:(partT (n.natAbs%1000) p).all digB=true:=(Jk (r:=n.natAbs%1000) (by omega) p).1
theorem eF{n:Int}{p:Bool}(h:(partT (n.natAbs%1000) p).isEmpty=true)(x:Str):zP (numT n p++x)=(match expS (z8 (past digB x)).1 with|some r=>(r,false)|none=>z8 (past digB x)):=by rw[Ri,q2_T,h];rfl
theorem oD{n:Int}{p:Bool}(h:(partT (n.natAbs%1000) p).isEmpty=false)(x:Str):zP (numT n p++x)=(match expS (past digB x)with|some r=>(r,false)|none=>(past digB x,false)):=by
 obtain⟨c,r,b⟩: ∃c r,partT (n.natAbs%1000) p=c::r:=by
  cases f:partT (n.natAbs%1000) p with
  |nil=>grind
  |cons c r=>grind
 have a:=TG (n:=n) (p:=p);rw[Ri,q2_T,h];have e:past digB (dotS (some (partT (n.natAbs%1000) p))++x)=46::(partT (n.natAbs%1000) p++x):=rfl;rw[show(if false=true then none else some (partT (n.natAbs%1000) p))=some (partT (n.natAbs%1000) p)from rfl,e];have g:z8 (46::(partT (n.natAbs%1000) p++x))=(past digB x,false):=by
  have d:digB c=true:=by rw[b,Jd,Ea]at a;exact a.1
  unfold z8;rw[show atS (46::(partT (n.natAbs%1000) p++x)) 1=c by rw[b];rfl,d,show(atS (46::(partT (n.natAbs%1000) p++x)) 0==46&&true)=true from rfl,Ha rfl];rw[show(46::(partT (n.natAbs%1000) p++x)).drop 1=partT (n.natAbs%1000) p++x from rfl,vz _ _ a]
 grind
theorem pV(n:Int)(p:Bool)(x:Str):nbS (numT n p++x)=true:=by
 obtain⟨c,r,b,a⟩:=bv (n.natAbs / 1000);rw[fu,b];unfold nbS;have d:unsign ((sgT n++(c::r++dotS (if(partT (n.natAbs%1000) p).isEmpty then none else some (partT (n.natAbs%1000) p))))++x)=c::(r++dotS (if(partT (n.natAbs%1000) p).isEmpty then none else some (partT (n.natAbs%1000) p))++x):=by
  unfold sgT;split
  ·rfl
  ·unfold unsign Pf;show(if(c==43||c==45)then _ else _)=_;rw[Fa.2 (ug a).2.1,Fa.2 (ug a).1];rfl
 rw[d];unfold undot;rw[show atS (c::(r++dotS (if(partT (n.natAbs%1000) p).isEmpty then none else some (partT (n.natAbs%1000) p))++x)) 0=c from rfl,Fa.2 (ug a).2.2.1,Ga (by decide)];exact a
theorem Wt{n:Int}(c: -1000000000000<=n)(h2:n<=1000000000000){p:Bool}{x:Str}(f:(zP (numT n p++x)).1=x):(numP (numT n p++x)).val=n:=by
 have h:=uG (numT n p++x);rw[f]at h;have b:=XD (pV n p x);have d:=(Fy c h2 p).1;have a:=zn2 c h2 p;generalize numP (numT n p++x)=N at h b ⊢;have g:N.txt=numT n p:=(List.append_left_inj x).1 h;rw[<-g]at a d;have e:=IU b (Yb d (by decide));rw[a]at e
 grind
theorem Vn(n:Int)(p:Bool)(x:Str): ∃c r,numT n p++x=c::r/\(c==45||digB c)=true/\spB c=false/\(c==34||c==39)=false/\(c==35)=false/\c≠47:=by
 obtain⟨c,r,hc,hcd⟩:=bv (n.natAbs / 1000);have key: ∀d:UInt8,(d==45||digB d)=true->spB d=false/\(d==34||d==39)=false/\(d==35)=false/\d≠47:=by
  intro d;have: ∀n:Nat,n<256->(UInt8.ofNat n==45||digB (UInt8.ofNat n))=true->spB (UInt8.ofNat n)=false/\(UInt8.ofNat n==34||UInt8.ofNat n==39)=false/\(UInt8.ofNat n==35)=false/\UInt8.ofNat n≠47:=by decide+kernel
  have:=this d.toNat (Ab d)
  rwa [xc]at this
 rw[fu,hc];unfold sgT
 grind
theorem Rn(n:Int)(p:Bool)(x:Str):Zq (numT n p++x)=zI (numT n p++x):=by obtain⟨c,r,e,g,f,d,b,h⟩:=Vn n p x;have a:=pV n p x;rw[e]at a ⊢;rw[uo,f,Ga (by decide),d,Ga (by decide),b,Lb,Ga (by decide),a,Ha rfl]
inductive zf3:ze->Prop
 |cId (l:Str) (h0:l≠[]) (h:Zi l=true):zf3 ⟨1,l,0,[],false⟩
 |cFn (l:Str) (h0:l≠[]) (h:Zi l=true):zf3 ⟨2,l,0,[],false⟩
 |cAt (l:Str) (h0:l≠[]) (h:Zi l=true):zf3 ⟨3,l,0,[],false⟩
 |cHash (l:Str) (f:Bool) (h0:l≠[]) (h:Zi l=true) (hb:f=true\/Wi l=true):zf3 ⟨4,l,0,[],f⟩
 |cStr (l:Str) (h:Zi l=true):zf3 ⟨5,l,0,[],false⟩
 |cUrl (l:Str) (h:Zi l=true):zf3 ⟨7,l,0,[],false⟩
 |cDel (c:UInt8) (h:Ih c.toNat=true):zf3 ⟨9,[c],0,[],false⟩
 |cNum (n:Int) (f:Bool) (h1: -1000000000000<=n) (h2:n<=1000000000000) (hf:f=true->Int.tmod n 1000=0):zf3 ⟨10,[],n,[],f⟩
 |cPct (n:Int) (h1: -1000000000000<=n) (h2:n<=1000000000000):zf3 ⟨11,[],n,[],false⟩
 |cDim (n:Int) (u:Str) (f:Bool) (h1: -1000000000000<=n) (h2:n<=1000000000000) (hf:f=true->Int.tmod n 1000=0) (h0:u≠[]) (h:Zi u=true):zf3 ⟨12,[],n,u,f⟩
 |cMark (k:Int) (h1:13<=k) (h2:k<=24):zf3 ⟨k,[],0,[],false⟩
theorem Gq{t:ze}(h:mf t=true):zf3 t:=by
 obtain⟨k,l,n,u,f⟩:=t;unfold mf at h;simp only at h;by_cases h1:(k==1||k==2||k==3)=true
 ·rw[h1,Da]at h;simp only[Ea,Md,Fa,Ib]at h;obtain⟨a,b,rfl,rfl,rfl⟩:=h;simp only[Kc,Ib]at h1;rcases h1 with(rfl|rfl)|rfl
  ·exact .cId l a b
  ·exact .cFn l a b
  ·exact .cAt l a b
 ·rw[Bool.not_eq_true]at h1;rw[h1,Ba]at h;by_cases h4:(k==4)=true
  ·rw[h4,Da]at h;simp only[Ea,Md,Fa,Ib,Kc]at h;obtain⟨a,b,c,rfl,rfl⟩:=h;rw[Ib]at h4;subst h4;exact .cHash l f a b c
  ·rw[Bool.not_eq_true]at h4;rw[h4,Ba]at h;by_cases h5:(k==5||k==7)=true
   ·rw[h5,Da]at h;simp only[Ea,Md,Ib]at h;obtain⟨b,rfl,rfl,rfl⟩:=h;simp only[Kc,Ib]at h5;rcases h5 with rfl|rfl
    ·exact .cStr l b
    ·exact .cUrl l b
   ·rw[Bool.not_eq_true]at h5;rw[h5,Ba]at h;by_cases h9:(k==9)=true
    ·rw[h9,Da]at h;simp only[Ea,Md,Ib]at h;obtain⟨b,rfl,rfl,rfl⟩:=h;rw[Ib]at h9;subst h9;unfold delS at b;split at b
     ·exact .cDel _ b
     ·cases b
    ·rw[Bool.not_eq_true]at h9;rw[h9,Ba]at h;by_cases h10:(k==10||k==11||k==12)=true
     ·rw[h10,Da]at h;unfold rngS at h;simp only[Ea,Jb,Kc,Md,Ib]at h;obtain⟨⟨a1,a2,a3⟩,a4,a5,a6,rfl⟩:=h;have hf:f=true->Int.tmod n 1000=0:=by
       intro e;rcases a3 with a3|a3
       ·grind
       ·exact a3
      simp only[Kc,Ib]at h10;rcases h10 with(rfl|rfl)|rfl
      ·have:u=[]:=by
        cases u with
        |nil=>rfl
        |cons c r=>grind
       subst this;exact .cNum n f a1 a2 hf
      ·have:u=[]:=by
        cases u with
        |nil=>rfl
        |cons c r=>grind
       subst this;have:f=false:=by
        rcases a6 with a6|a6
        ·grind
        ·exact a6
       subst this;exact .cPct n a1 a2
      ·have:u≠[]:=by rintro rfl;exact absurd a4 (by decide)
       exact .cDim n u f a1 a2 hf this a5
     ·rw[Bool.not_eq_true]at h10;rw[h10,Ba]at h;simp only[Ea,Md,Jb,Ib]at h;obtain⟨⟨a1,a2⟩,rfl,rfl,rfl,rfl⟩:=h;exact .cMark k a1 a2
def neu(x:Str):Prop:=x=[]\/ ∃y,x=47::y
theorem zEx{x:Str}(a:neu x)(c:UInt8)(r:Str):brS c (r++x)=brS c r:=by
 rcases a with rfl|⟨y,rfl⟩
 ·grind
 ·exact YV c r y
theorem Ty{x:Str}(a:neu x)(q:Str):nmS (q++x)=nmS q:=by
 rcases a with rfl|⟨y,rfl⟩
 ·grind
 ·exact Cu q y
theorem dA{x:Str}(a:neu x):zq x=([],x):=by
 rcases a with rfl|⟨y,rfl⟩
 ·exact qR
 ·rw[zR,Ga (by decide),show escS (47::y)=false from rfl,Ga (by decide)]
theorem kN{p:UInt8->Bool}(h:p 47=false){x:Str}(a:neu x):past p x=x:=by
 rcases a with rfl|⟨y,rfl⟩
 ·rfl
 ·rw[past,h];rfl
theorem zEs{x:Str}(a:neu x):atS x 0=0\/atS x 0=47:=by
 rcases a with rfl|⟨y,rfl⟩
 ·exact .inl rfl
 ·exact .inr rfl
theorem vZ(c:UInt8)(r:Str):Dj (c::r)=((c==101||c==69)&&numS r&& !(List.isPrefixOf [45,45] r)):=rfl
theorem CY(b:UInt8)(r:Str):numS (b::r)=bif b==45 then !(r==[])&&digN (r.headD 0).toNat else digN b.toNat:=rfl
theorem xH{c:UInt8}{r:Str}(h:Dj (c::r)=true):c=101\/c=69:=by
 unfold Dj at h
 grind
theorem zAo{d:UInt8}{t:Str}(h:(d==10)=false):escS (92::d::t)=true:=by unfold escS;rw[show atS (92::d::t) 1=d from rfl,h];rfl
theorem Cs(c:UInt8)(r:Str):Yf (c::r)=bif Dj (c::r)then escC c++encW false 0 r else Zx (c::r):=rfl
theorem IB{w:Str}(f:w≠[])(h:Zi w=true)(x:Str):zq (Yf w++x)=(w++(zq x).1,(zq x).2):=by
 cases w with
 |nil=>grind
 |cons c r=>
  obtain⟨a,e⟩:=QQ h;rw[Cs];cases b:Dj (c::r)with
  |true=>
   have d:c.toNat<128:=by rcases xH b with rfl|rfl<;>decide
   rw[Da,La,TM a d,PO x 0 e];rfl
  |false=>rw[Ba];exact Tj x h
theorem iy{w:Str}(i:w≠[])(h:Zi w=true):nmS (Yf w)=true:=by
 cases w with
 |nil=>grind
 |cons c r=>
  obtain⟨a,j⟩:=QQ h;rw[Cs];cases e:Dj (c::r)with
  |true=>
   have f:c.toNat<128:=by rcases xH e with rfl|rfl<;>decide
   obtain⟨d,t,b,g,_⟩:=ko a f (encW false 0 r);rw[Da,b];exact VW rfl (zAo g)
  |false=>rw[Ba];exact xh (by simp)
theorem Ei{q:Str}(h:nmS q=true):q≠[]:=by rintro rfl;exact absurd h (by decide)
theorem Az{q:Str}(h:nmS q=true)(x:Str):past digB (q++x)=q++x/\z8 (q++x)=(q++x,true):=by
 obtain⟨_,_,_,_,_,_,_,_,b,a,_⟩:=Fq (Um h);cases q with
 |nil=>exact absurd rfl (Ei h)
 |cons c r=> refine⟨by rw[Sa,past,show digB c=false from a];rfl,?_⟩;unfold z8;rw[show atS ((c::r)++x) 0=c from rfl,show(c==46)=false from b];rfl
theorem jF{w:Str}(h0:w≠[])(h:Zi w=true)(x:Str):expS (Yf w++x)=none\/ ∃e s,(e=101\/e=69)/\(s=[]\/s=[45])/\w=e::s/\Yf w=e::s:=by
 cases w with
 |nil=>grind
 |cons c r=>
  obtain⟨h1,h2⟩:=QQ h;have he92: ∀t:Str,expS (92::t)=none:=fun t=>rfl;cases he:Dj (c::r)with
  |true=>
   left;have hc:c.toNat<128:=by rcases xH he with rfl|rfl<;>decide
   obtain⟨d,t,e1,e2,_⟩:=ko h1 hc (encW false 0 r++x);have:Yf (c::r)++x=92::d::t:=by rw[Cs,he,Da,La,e1]
   grind
  |false=>
   have hu:Yf (c::r)=Zx (c::r):=by rw[Cs,he,Ba]
   rw[hu];have hn:Zx (c::r)=pcW ((c::r:Str)==[45]) (Qp (c::r)) c++encW ((c::r:Str)==[45]) (Qp (c::r) - 1) r:=rfl;obtain⟨d,t,e,hd⟩:=uz (dash:=(c::r:Str)==[45]) (k:=Qp (c::r)) (by unfold Qp;split<;>omega) c (encW ((c::r:Str)==[45]) (Qp (c::r) - 1) r);rw[hn,e];rcases hd with⟨rfl,h3⟩|⟨rfl,h3,h4,h5,h6⟩
   ·grind
   ·by_cases hee:d=101\/d=69
    ·have hf:Qp (d::r)=1:=by rcases hee with rfl|rfl<;>rfl
     have hdash:((d::r:Str)==[45])=false:=h3;rw[hdash,hf]at h6;have h6':t=encW false 0 r:=h6;have hee':(d==101||d==69)=true:=by rcases hee with rfl|rfl<;>rfl
     cases r with
     |nil=>
      right;rw[encW]at h6'
      grind
     |cons d2 r2=>
      obtain⟨g1,g2⟩:=QQ h2;have hnum:numS (d2::r2)=false:=by
       cases hq:numS (d2::r2)with
       |false=>rfl
       |true=>
        exfalso;rw[vZ,hee',hq,ma,ma]at he;have hp:List.isPrefixOf [45,45] (d2::r2)=true:=by
         cases hh:List.isPrefixOf [45,45] (d2::r2)with
         |true=>rfl
         |false=>grind
        obtain⟨z,hz⟩:=Cf.1 hp;rw[<-hz]at hq;exact absurd hq (by show numS (45::45::z)≠true;unfold numS;simp[digN])
      have hgoal: ∀q:Str,digB (atS (unsign q) 0)=false->expS (d::q)=none:=by intro q hq;rw[ji];show((d==101||d==69)&&digB (atS (unsign q) 0))=false;rw[hq,Rc]
      have hpc:encW false 0 (d2::r2)=pcW false 0 d2++encW false 0 r2:=rfl;by_cases h45:d2=45
      ·subst h45;have hp1:pcW false 0 45=[45]:=rfl;cases r2 with
       |nil=>
        right;rw[hpc,hp1,encW]at h6'
        grind
       |cons d3 r3=>
        left;obtain⟨k1,k2⟩:=QQ g2;have hdg:digB d3=false:=by
         have:digN d3.toNat=false:=by have:=hnum;unfold numS at this;simpa using this
         exact this
        rw[Sa];refine hgoal _ ?_;rw[h6',hpc,hp1];show digB (atS (encW false 0 (d3::r3)++x) 0)=false;rw[show encW false 0 (d3::r3)=pcW false 0 d3++encW false 0 r3 from rfl];unfold pcW;cases hl:letB d3 with
        |true=>exact hdg
        |false=>
         rw[Lb,Lb,Ba];have hc:d3.toNat<128:=by
          by_cases hc:d3.toNat<128
          ·exact hc
          ·rw[(VE hc).1]at hl;cases hl
         obtain⟨d4,t4,e4,_,_⟩:=ko k1 hc (encW false 0 r3++x);rw[La,e4];rfl
      ·left;have hdg:digB d2=false:=by
        have:digN d2.toNat=false:=by have:=hnum;rw[CY,Fa.2 h45,Ba]at this;exact this
        exact this
       rw[Sa];refine hgoal _ ?_;rw[h6',hpc];unfold pcW;cases hl:letB d2 with
       |true=>
        have hs:Pf d2=false:=by unfold Pf;rw[Fa.2 h45,Ke,Fa];rintro rfl;exact absurd hl (by decide)
        show digB (atS (if Pf d2 then _ else d2::_) 0)=false;rw[hs,Ga (by decide)];exact hdg
       |false=>
        rw[Lb,Lb,Ba];have hc:d2.toNat<128:=by
         by_cases hc:d2.toNat<128
         ·exact hc
         ·rw[(VE hc).1]at hl;cases hl
        obtain⟨d4,t4,e4,_,_⟩:=ko g1 hc (encW false 0 r2++x);rw[La,e4];rfl
    ·left;rw[ji];have:(d==101||d==69)=false:=by rw[Lc,Fa,Fa];exact not_or.1 hee
     rw[Sa,show atS (d::(t++x)) 0=d from rfl,this,Lb]
theorem PR{w:Str}(d:w≠[])(h:Zi w=true){x:Str}(a:neu x):expS (Yf w++x)=none:=by
 rcases jF d h x with c|⟨e,s,i,b,_,f⟩
 ·exact c
 ·rw[f,ji];have g:digB (atS (unsign (s++x)) 0)=false:=by
   rcases b with rfl|rfl
   ·rcases a with rfl|⟨y,rfl⟩<;>rfl
   ·rcases a with rfl|⟨y,rfl⟩<;>rfl
  grind
theorem Fw{n:Int}{f:Bool}(a:f=true->Int.tmod n 1000=0):(partT (n.natAbs%1000) (!f)).isEmpty=f:=by
 rw[zDL,Bool.not_not];cases f with
 |false=>grind
 |true=>
  grind
theorem Iq{n:Int}{p:Bool}{z:Str}(b:past digB z=z)(h2:z8 z=(z,true))(a:expS z=none):zP (numT n p++z)=(z,(partT (n.natAbs%1000) p).isEmpty):=by
 cases c:(partT (n.natAbs%1000) p).isEmpty with
 |true=>rw[eF c,b,h2];simp only[a]
 |false=>rw[oD c,b];simp only[a]
theorem zDx{x:Str}(a:neu x):past digB x=x/\z8 x=(x,true)/\expS x=none:=by
 rcases a with rfl|⟨y,rfl⟩
 ·exact⟨rfl,rfl,rfl⟩
 ·exact⟨rfl,rfl,rfl⟩
theorem UZ{q:Str}(h:[45,45,62].isPrefixOf q=true): ∃t,(zq q).2=62::t:=by obtain⟨t,rfl⟩:=Cf.1 h;refine⟨t,?_⟩;rw[show [45,45,62]++t=45::45::62::t from rfl,zR,Ha (by decide),zR,Ha (by decide),zR,Ga (by decide),Ga (by unfold escS;rw[show atS (62::t) 0=62 from rfl];simp)]
theorem Gv{c:UInt8}{r:Str}(h:nmS (c::r)=true)(u: ∀t,(zq (c::r)).2≠62::t):brS c r=7:=by
 obtain⟨i,b,g,d,f,p,a,v,s,l,k⟩:=Fq (Um h);have o:[45,45,62].isPrefixOf (c::r)=false:=by
  cases j:[45,45,62].isPrefixOf (c::r)with
  |false=>rfl
  |true=>obtain⟨t,e⟩:=UZ j;grind
 have n:atS (c::r) 0=c:=rfl;rw[n]at i b g d f a;unfold brS;rw[i,Ga (by decide),b,g,Ga (by decide),d,Lb,Ga (by decide),OV h,Ga (by decide),o,Ga (by decide),nK (q:=c::r) (m:=[33,45,45]) (show(60:UInt8)≠0 by decide) a,Ga (by decide),f,Lb,Ga (by decide),h,Ha rfl]
theorem iK{q z:Str}(h:nmS q=true)(i:atS z 0≠10):nmS (q++z)=true:=by
 have b:(atS z 0==10)=false:=Fa.2 i
 match q with
 |[]=>exact absurd h (by decide)
 |[c]=>
  unfold nmS at h ⊢;have f:atS ([c]++z) 0=c:=rfl;rw[show atS [c] 0=c from rfl]at h;rw[f];cases a:c==45 with
  |true=>rw[a,Ha rfl]at h;exact absurd (show(fstB 0||(0:UInt8)==45||escS [])=true from h) (by decide)
  |false=> rw[a,Ga (by decide)]at h;rw[Ga (by decide)];unfold escS at h ⊢;rw[show atS [c] 0=c from rfl,show atS [c] 1=0 from rfl]at h;rw[f,show atS ([c]++z) 1=atS z 0 from rfl,b];exact h
 |c::d::t=>
  unfold nmS at h ⊢;have f:atS ((c::d::t)++z) 0=c:=rfl;have g:atS ((c::d::t)++z) 1=d:=rfl;have j:((c::d::t)++z).drop 1=(d::t)++z:=rfl;rw[show atS (c::d::t) 0=c from rfl,show atS (c::d::t) 1=d from rfl,show(c::d::t:Str).drop 1=d::t from rfl]at h;rw[f,g,j];cases a:c==45 with
  |true=>
   rw[a,Ha rfl]at h;rw[Ha rfl];cases t with
   |nil=> unfold escS at h ⊢;rw[show atS [d] 0=d from rfl,show atS [d] 1=0 from rfl]at h;rw[show atS ([d]++z) 0=d from rfl,show atS ([d]++z) 1=atS z 0 from rfl,b];exact h
   |cons e t=>exact h
  |false=> rw[a,Ga (by decide)]at h;rw[Ga (by decide)];exact h
theorem KG(x:Str):zq (40::x)=([],40::x):=by rw[zR,Ga (by decide),Ga (by unfold escS;rw[show atS (40::x) 0=40 from rfl];simp)]
theorem NL{l:Str}(h:Zi l=true)(x:Str):zq (Zx l++40::x)=(l,40::x):=by rw[Tj _ h,KG,Ra]
theorem lg{q:Str}(h:q≠[]): ∃c r,q=c::r:=by
 cases q with
 |nil=>grind
 |cons c r=>grind
def ag(f:Bool)(l:Str):Str:=bif f then Zx l else encW false 0 l
theorem VH{f:Bool}{l:Str}(h:Zi l=true)(x:Str):zq (ag f l++x)=(l++(zq x).1,(zq x).2):=by
 cases f with
 |true=>exact Tj x h
 |false=>exact PO x 0 h
theorem mO{f:Bool}{l:Str}(h0:l≠[])(h:Zi l=true)(hb:f=true\/Wi l=true):(letB (atS (ag f l) 0)||escS (ag f l))=true/\(f=true->nmS (ag f l)=true)/\(f=false->nmS (ag f l)=false):=by
 cases f with
 |true=>
  have hn:=xh h0;obtain⟨c,r,e⟩:=lg (Ei hn);refine⟨?_,fun _=>hn,fun e=>by cases e⟩;show(letB (atS (Zx l) 0)||escS (Zx l))=true;rw[e]at hn ⊢;rcases EN hn with h1|h1
  ·rw[show letB (atS (c::r) 0)=true from h1];rfl
  ·grind
 |false=>
  have hb':Wi l=true:=by rcases hb with hb|hb;cases hb;exact hb
  cases l with
  |nil=>grind
  |cons c r=>
   have hw:ag false (c::r)=pcW false 0 c++encW false 0 r:=rfl;have hb2:(digN c.toNat||(c==45&&(r==[]||digN (r.headD 0).toNat)))=true:=hb';by_cases h45:c=45
   ·subst h45;rw[hw,show pcW false 0 45=[45]from rfl];refine⟨rfl,fun e=>by(cases e),fun _=> ?_⟩;cases r with
    |nil=>rfl
    |cons d t=>
     have hd:digB d=true:=hb2;have hp:pcW false 0 d=[d]:=by
      unfold pcW;have:letB d=true:=by unfold letB;rw[hd,Ff];rfl
      rw[this];rfl
     rw[show encW false 0 (d::t)=pcW false 0 d++encW false 0 t from rfl,hp];have hk: ∀n:Nat,n<256->digB (UInt8.ofNat n)=true->fstB (UInt8.ofNat n)=false/\(UInt8.ofNat n==45)=false/\(UInt8.ofNat n==92)=false:=by decide+kernel
     have:=hk d.toNat (Ab d);rw[xc]at this;obtain⟨k1,k2,k3⟩:=this hd;show(fstB d||d==45||escS (d::(encW false 0 t)))=false;unfold escS;rw[k1,k2,show atS (d::encW false 0 t) 0=d from rfl,k3];rfl
   ·have hd:digB c=true:=by
     have:digN c.toNat=true:=by rw[Fa.2 h45,Lb,Ke]at hb2;exact hb2
     exact this
    have hl:letB c=true:=by unfold letB;rw[hd,Ff];rfl
    have hp:pcW false 0 c=[c]:=by unfold pcW;rw[hl];rfl
    rw[hw,hp];refine⟨by rw[show letB (atS ([c]++encW false 0 r) 0)=letB c from rfl,hl];rfl,fun e=>by(cases e),fun _=> ?_⟩;have hk: ∀n:Nat,n<256->digB (UInt8.ofNat n)=true->fstB (UInt8.ofNat n)=false/\(UInt8.ofNat n==45)=false/\(UInt8.ofNat n==92)=false:=by decide+kernel
    have:=hk c.toNat (Ab c);rw[xc]at this;obtain⟨k1,k2,k3⟩:=this hd;unfold nmS escS;rw[show atS ([c]++encW false 0 r) 0=c from rfl,k2,Ga (by decide),k1,k3];rfl
theorem vW(c:UInt8)(h:Ih c.toNat=true)(h2:c≠92):brS c []=8:=by
 have: ∀n:Nat,n<256->Ih (UInt8.ofNat n).toNat=true->UInt8.ofNat n≠92->brS (UInt8.ofNat n) []=8:=by decide+kernel
 have:=this c.toNat (Ab c);simp_all
theorem zDO(x:Str):past digB (37::x)=37::x/\z8 (37::x)=(37::x,true)/\expS (37::x)=none:=⟨rfl,rfl,rfl⟩
theorem IG{n:Int}{u:Str}{p:Bool}(x:Str):(numT n p++Yf u)++x=numT n p++(Yf u++x):=La ..
theorem JG{c:UInt8}{r x:Str}(a:neu x):Zq (c::(r++x))=nxB (brS c r) c (r++x):=by rw[qd,zEx a]
theorem SG{n:Int}(b: -1000000000000<=n)(h2:n<=1000000000000)(x:Str):Zq ((numT n false++[37])++x)=(⟨11,[],n,[],false⟩,x):=by rw[La,Uc];obtain⟨c,e,d⟩:=zDO x;have a:=Iq (n:=n) (p:=false) c e d;have f:=Wt b h2 (p:=false) (x:=37::x) (by rw[a]);rw[Rn];unfold zI;rw[a,f,Ga (by unfold nmS escS;rw[show atS (37::x) 0=37 from rfl];simp[fstB,alB]),Ha (by rfl)];rfl
theorem aF{l:Str}(d:l≠[])(h:Zi l=true)(hu:(lowS l==[117,114,108])=false)(x:Str):Zq ((Zx l++[40])++x)=(⟨2,l,0,[],false⟩,x):=by rw[La,Uc];have b:=iK (z:=40::x) (xh d) (by show(40:UInt8)≠10;decide);have a:=NL h x;obtain⟨c,r,e⟩:=lg (Ei b);rw[e]at b a ⊢;rw[qd,Gv b (by grind),Di];unfold qO;rw[a];simp only;rw[Ha (by rfl),hu,Lb,Ga (by decide)];rfl
theorem gz{l:Str}(h:Zi l=true)(x:Str):Zq ((34::(encB quoB l++[34]))++x)=(⟨5,l,0,[],false⟩,x):=by rw[Sa,La,Uc,qd,show brS 34 (encB quoB l++34::x)=1 from rfl,Bu,PM x l h];rfl
theorem gF{l:Str}(h:Zi l=true)(x:Str):Zq (([117,114,108,40]++(encB urB l++[41]))++x)=(⟨7,l,0,[],false⟩,x):=by
 have e:([117,114,108,40]++(encB urB l++[41]))++x=117::114::108::40::(encB urB l++41::x):=by simp
 obtain⟨c,b⟩:=zBH x l h;have a:zq (117::114::108::40::(encB urB l++41::x))=([117,114,108],40::(encB urB l++41::x)):=by rw[zR,Ha (by decide),zR,Ha (by decide),zR,Ha (by decide),KG]
 rw[e,qd,Gv (by rfl) (by grind),Di];unfold qO;rw[a];simp only;rw[Ha (by rfl),Dv,show(40::(encB urB l++41::x)).drop 1=encB urB l++41::x from rfl,c,b,Ha (by decide),OM x l h];rfl
theorem iA{k:Int}(b:13<=k)(h2:k<=24)(x:Str):Zq (El k++x)=(⟨k,[],0,[],false⟩,if k=13 then past spB x else x):=by
 have a:k=13\/k=14\/k=15\/k=16\/k=17\/k=18\/k=19\/k=20\/k=21\/k=22\/k=23\/k=24:=by omega
 rcases a with rfl|rfl|rfl|rfl|rfl|rfl|rfl|rfl|rfl|rfl|rfl|rfl<;>rfl
theorem nk(l:Str):txS ⟨1,l,0,[],false⟩=Zx l:=by rw[txS];rfl
theorem Wj(l:Str):txS ⟨2,l,0,[],false⟩=Zx l++[40]:=by rw[txS];rfl
theorem lm(l:Str):txS ⟨3,l,0,[],false⟩=64::Zx l:=by rw[txS];rfl
theorem Xn(l:Str)(f:Bool):txS ⟨4,l,0,[],f⟩=35::ag f l:=by rw[txS];rfl
theorem Jl(l:Str):txS ⟨5,l,0,[],false⟩=34::(encB quoB l++[34]):=by rw[txS];rfl
theorem ym(l:Str):txS ⟨7,l,0,[],false⟩=[117,114,108,40]++(encB urB l++[41]):=by rw[txS];rfl
theorem Gn(c:UInt8):txS ⟨9,[c],0,[],false⟩=[c]:=by rw[txS];rfl
theorem Dn(n:Int)(f:Bool):txS ⟨10,[],n,[],f⟩=numT n (!f):=by rw[txS];rfl
theorem Bn(n:Int):txS ⟨11,[],n,[],false⟩=numT n false++[37]:=by rw[txS];rfl
theorem En(n:Int)(u:Str)(f:Bool):txS ⟨12,[],n,u,f⟩=numT n (!f)++Yf u:=by rw[txS];rfl
theorem Wn{k:Int}(b:13<=k)(h2:k<=24):txS ⟨k,[],0,[],false⟩=El k:=by
 have a:k=13\/k=14\/k=15\/k=16\/k=17\/k=18\/k=19\/k=20\/k=21\/k=22\/k=23\/k=24:=by omega
 rcases a with rfl|rfl|rfl|rfl|rfl|rfl|rfl|rfl|rfl|rfl|rfl|rfl<;>rfl
theorem zCL{t:ze}(h:zf3 t)(hb: ¬(t.kind=9/\t.text=[92]))(hu:Fg t=false){x:Str}(hx:neu x):Zq (txS t++x)=(t,x):=by
 have ha:=zEs hx;have hn0:nmS x=false:=by have:=Ty hx [];rw[Ob]at this;rw[this];rfl
 cases h with
 |cId l h0 h=>
  have hn:=xh h0;have hnd:=Tj x h;rw[dA hx,Ra]at hnd;obtain⟨c,r,e⟩:=lg (Ei hn);rw[nk];have hr:=OO h;rw[e]at hn hr hnd ⊢;rw[Sa,JG hx,Gv hn (by grind),Di];unfold qO;rw[show c::(r++x)=(c::r)++x from rfl,hnd]
  grind
 |cFn l h0 h=>rw[Wj];exact aF h0 h (by unfold Fg at hu;exact hu) x
 |cAt l h0 h=>
  have hnd:=Tj x h;rw[dA hx,Ra]at hnd;rw[lm,Sa];have hb6:brS 64 (Zx l++x)=6:=by unfold brS;rw[Ty hx,xh h0];rfl
  rw[qd,hb6,Aq,hnd]
 |cHash l f h0 h hbb=>
  obtain⟨g1,g2,g3⟩:=mO h0 h hbb;have hnd:=VH (f:=f) h x;rw[dA hx,Ra]at hnd;rw[Xn,Sa];have hb2:brS 35 (ag f l)=2:=by unfold brS;rw[g1];rfl
  have hf:nmS (ag f l)=f:=by
   cases f with
   |true=>exact g2 rfl
   |false=>exact g3 rfl
  rw[JG hx,hb2,Al,hnd,Ty hx,hf]
 |cStr l h=>rw[Jl];exact gz h x
 |cUrl l h=>rw[ym];exact gF h x
 |cDel c h=>
  have h92:c≠92:=by rintro rfl;exact hb ⟨rfl,rfl⟩
  rw[Gn,Sa,JG hx,vW c h h92,gp,Ob]
 |cNum n f h1 h2 hf=>
  obtain⟨e1,e2,e3⟩:=zDx hx;have he:=Iq (n:=n) (p:= !f) e1 e2 e3;rw[Fw hf]at he;rw[Dn,Rn];unfold zI;rw[Wt h1 h2 (by rw[he]),he]
  grind
 |cPct n h1 h2=>rw[Bn];exact SG h1 h2 x
 |cDim n u f h1 h2 hf h0 h=> have hnm:=iy h0 h;obtain⟨e1,e2⟩:=Az hnm x;have he:=Iq (n:=n) (p:= !f) e1 e2 (PR h0 h hx);rw[Fw hf]at he;rw[En,IG,Rn];unfold zI;rw[Wt h1 h2 (by rw[he]),he];simp only;rw[Ty hx,hnm,Ha rfl,IB h0 h,dA hx,Ra]
 |cMark k h1 h2=> rw[Wn h1 h2,iA h1 h2,kN (by decide) hx,ite_self]
def WL(t:ze)(x r:Str):Prop:=zP (numT t.num (!t.flag)++x)=(r,t.flag)/\nmS r=false/\(atS r 0==37)=false
def zCv(x r:Str):Prop:= ∃s,(s=[]\/s=[45])/\digB (atS (unsign (s++x)) 0)=true/\nmS (past digB (unsign (s++x)))=true/\r=(zq (past digB (unsign (s++x)))).2
def gV(t:ze)(x r:Str):Prop:=r=x\/(t.kind=13/\r=past spB x)\/(t.kind=10/\WL t x r)\/(t.kind=12/\zCv x r)
theorem fM{w r:Str}(h:expS w=some r):(atS w 0=101\/atS w 0=69)/\digB (atS (unsign (w.drop 1)) 0)=true/\r=past digB (unsign (w.drop 1)):=by
 unfold expS at h
 grind
theorem YA{l a:Str}(h:l++a=l):a=[]:=by simp_all
theorem kF{a b:ze}(h:a=b):a.text=b.text:=by rw[h]
theorem nX{t:ze}(h:zf3 t)(hu:Fg t=false){x:Str}(ht:(Zq (txS t++x)).1=t):gV t x (Zq (txS t++x)).2:=by
 cases h with
 |cId l h0 h=>
  left;have hn:=xh h0;have hnd:=Tj x h;obtain⟨c,r,e⟩:=lg (Ei hn);rw[nk]at ht ⊢;rw[e,Sa]at ht ⊢;have hbr:=ol c (r++x);rw[ht]at hbr;have hbr':brS c (r++x)=7:=hbr.symm;rw[qd,hbr',Di]at ht ⊢;rw[show c::(r++x)=Zx l++x by rw[e];rfl]at ht ⊢;unfold qO at ht ⊢;rw[hnd]at ht ⊢;simp only at ht ⊢;split at ht
  ·rename_i h40;exfalso;split at ht
   ·have:=congrArg ze.kind ht;rcases iF (urlS (past spB ((zq x).2.drop 1))).1 with hk|hk<;>rw[hk]at this<;>cases this
   grind
  ·rename_i h40;rw[Ga h40];have:=kF ht;exact bA (YA this)
 |cFn l h0 h=> left;rw[Wj,aF h0 h (by unfold Fg at hu;exact hu)]
 |cAt l h0 h=> left;rw[lm,Sa]at ht ⊢;have hbr:=ol 64 (Zx l++x);rw[ht]at hbr;have hbr':brS 64 (Zx l++x)=6:=hbr.symm;rw[qd,hbr',Aq,Tj x h]at ht ⊢;exact bA (YA (kF ht))
 |cHash l f h0 h hbb=> left;rw[Xn,Sa]at ht ⊢;have hbr:=ol 35 (ag f l++x);rw[ht]at hbr;have hbr':brS 35 (ag f l++x)=2:=hbr.symm;rw[qd,hbr',Al,VH h x]at ht ⊢;exact bA (YA (kF ht))
 |cStr l h=>left;rw[Jl,gz h]
 |cUrl l h=>left;rw[ym,gF h]
 |cDel c h=> left;rw[Gn,Sa]at ht ⊢;have hbr:=ol c ([]++x);rw[ht]at hbr;have hbr':brS c ([]++x)=8:=hbr.symm;rw[qd,hbr',gp,Ob]
 |cNum n f h1 h2 hf=>
  right;right;left;refine⟨rfl,?_⟩;rw[Dn,Rn]at ht ⊢;unfold WL;show zP (numT n (!f)++x)=_/\_;unfold zI at ht ⊢
  grind
 |cPct n h1 h2=>left;rw[Bn,SG h1 h2]
 |cDim n u f h1 h2 hf h0 h=>
  have hnm:=iy h0 h;obtain⟨e1,e2⟩:=Az hnm x;rw[En,IG,Rn]at ht ⊢;have plain:expS (Yf u++x)=none->(zI (numT n (!f)++(Yf u++x))).2=x:=by
   intro hexp;have he:=Iq (n:=n) (p:= !f) e1 e2 hexp;unfold zI at ht ⊢;rw[he]at ht ⊢;simp only at ht ⊢;split at ht
   ·rename_i hn;rw[Ha hn];rw[IB h0 h]at ht ⊢;have:(u++(zq x).1)=u:=congrArg ze.unit ht;exact bA (YA this)
   ·grind
  rcases jF h0 h x with hx|⟨e,s,he,hs,_,hu'⟩
  ·left;exact plain hx
  ·cases hexp:expS (Yf u++x)with
   |none=>left;exact plain hexp
   |some z=>
    right;right;right;refine⟨rfl,s,hs,?_⟩;obtain⟨_,hd,hz⟩:=fM hexp;have hdrop:(Yf u++x).drop 1=s++x:=by rw[hu'];rfl
    rw[hdrop]at hd hz;have hend:zP (numT n (!f)++(Yf u++x))=(z,false):=by
     cases hp:(partT (n.natAbs%1000) (!f)).isEmpty with
     |true=>rw[eF hp,e1,e2];simp only[hexp]
     |false=>rw[oD hp,e1];simp only[hexp]
    unfold zI at ht ⊢
    grind
 |cMark k h1 h2=>
  rw[Wn h1 h2,iA h1 h2];by_cases hk:k=13
  ·right;grind
  ·left
   grind
end Go.Lv.VT
