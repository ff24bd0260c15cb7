/- What is read of a text, and of a longer one. -/
import Derived.Test.YtcdeccnjlkkejaaGreatDoorNb
import Derived.Test.YtcdeccnjlkkejaaGreatDoorLaw
import Derived.Test.YtcdeccnjlkkejaaGreatDoorNam
set_option linter.unusedSimpArgs false
set_option linter.unusedVariables false
namespace Go.Lv.VT
set_option maxRecDepth 100000
theorem lh{q:Str}{n:Nat}(x:Str)(h:n<q.length):atS (q++x) n=atS q n:=by
 unfold atS
 grind
theorem Tk{p:UInt8->Bool}(x:Str): ∀{q:Str},past p q≠[]->past p (q++x)=past p q++x
 |[],h=>absurd rfl h
 |c::r,h=>by
  rw[Ra,past,past];rw[past]at h;cases a:p c with
  |true=>rw[a,Ha rfl]at h;rw[Ha rfl,Ha rfl];exact Tk x h
  |false=>rfl
theorem Jz{p:UInt8->Bool}(x:Str): ∀{q:Str},past p q≠[]->(q++x).takeWhile p=q.takeWhile p
 |[],h=>absurd rfl h
 |c::r,h=>by
  rw[Ra,List.takeWhile_cons,List.takeWhile_cons];rw[past]at h;cases a:p c with
  |true=>rw[a,Ha rfl]at h;rw[Ha rfl,Ha rfl,Jz x h]
  |false=>rfl
theorem sO(x:Str): ∀{k n:Nat} {l:Str},(hexes k n l).2≠[]->hexes k n (l++x)=((hexes k n l).1,(hexes k n l).2++x)
 |0,n,l,_=>rfl
 |k+1,n,[],h=>absurd rfl h
 |k+1,n,c::r,h=>by
  rw[Ra,hexes,hexes];rw[hexes]at h;split
  ·rename_i a;rw[Ha a]at h;exact sO x h
  ·rfl
theorem zBF{l:Str}(x:Str)(h:l≠[]):unsp (l++x)=unsp l++x:=by
 cases l with
 |nil=>grind
 |cons c r=> show(if spB c then r++x else c::(r++x))=(if spB c then r else c::r)++x;split<;>rfl
theorem WB{r:Str}(x:Str)(h:(zt r).2≠[]):zt (r++x)=((zt r).1,(zt r).2++x):=by
 cases r with
 |nil=>exact absurd rfl h
 |cons c r=>
  have e: ∀t:Str,zt (c::t)=if Qz c then(Og (hexes 6 0 (c::t)).1,unsp (hexes 6 0 (c::t)).2)else([c],t):=fun t=>rfl;rw[Ra,e,e];rw[e]at h;split
  ·rename_i b;rw[Ha b]at h;have a:(hexes 6 0 (c::r)).2≠[]:=by intro d;rw[d]at h;exact h rfl
   rw[show c::(r++x)=(c::r)++x from rfl,sO x a,zBF x a]
  ·rfl
theorem Bv{c:UInt8}{r:Str}(x:Str)(h:r≠[]\/c≠92):escS (c::(r++x))=escS (c::r):=by
 unfold escS;show(c==92&& !(atS (r++x) 0==10))=(c==92&& !(atS r 0==10));rcases h with h|h
 ·cases r with
  |nil=>grind
  |cons d t=>rfl
 grind
theorem Yr{q:Str}(x:Str)(h:(zq q).2≠[]):zq (q++x)=((zq q).1,(zq q).2++x):=by
 match q with
 |[]=>rw[qV]at h;grind
 |c::r=>
  rw[Ra,zR,zR];rw[zR]at h;cases f:letB c with
  |true=> rw[f,Ha rfl]at h;simp only[Ce];rw[Yr x h]
  |false=>
   rw[f,Ga (by decide)]at h;simp only[Rb,Pd];cases a:escS (c::r)with
   |true=>
    rw[a,Ha rfl]at h;have g:(zt r).2≠[]:=by intro e;simp only[e,qV]at h;exact h rfl
    have b:r≠[]:=by rintro rfl;exact g rfl
    rw[Bv x (.inl b),a];simp only[Ce];rw[WB x g];have:=Zc r;simp only;rw[Yr x h]
   |false=>
    have b:r≠[]\/c≠92:=by
     cases r with
     |nil=> right;rintro rfl;exact absurd a (by decide)
     |cons d t=>left;simp
    rw[Bv x b,a];grind
termination_by q.length
decreasing_by
 all_goals grind
theorem MB{m:UInt8}{q:Str}(x:Str)(h:(Za m q).2≠[]):Za m (q++x)=((Za m q).1,(Za m q).2++x):=by
 match q with
 |[]=>rw[Lp]at h;grind
 |c::r=>
  rw[Ra,Qu,Qu];rw[Qu]at h;cases g:c==m with
  |true=>grind
  |false=>
   rw[g,Ga (by decide)]at h;simp only[Rb,Pd];cases k:c==10 with
   |true=>grind
   |false=>
    rw[k,Ga (by decide)]at h;simp only[Rb,Pd];cases b:c==92 with
    |false=> rw[b,Ga (by decide)]at h;simp only[Rb,Pd];rw[MB x h]
    |true=>
     rw[b,Ha rfl]at h;simp only[Ce];cases f:r with
     |nil=>grind
     |cons d t=>
      rw[f]at h;have j:r.length=t.length+1:=by rw[f];rfl
      rw[Ra,show(d::(t++x)).isEmpty=false from rfl,show(d::t).isEmpty=false from rfl];simp only[Rb,Pd];rw[show(d::t).isEmpty=false from rfl,Ga (by decide)]at h;rw[show atS (d::(t++x)) 0=atS (d::t) 0 from rfl];cases a:atS (d::t) 0==10 with
      |true=> rw[a,Ha rfl]at h;simp only[Ce];exact MB (q:=t) x h
      |false=>
       rw[a,Ga (by decide)]at h;simp only[Rb,Pd];have i:(zt (d::t)).2≠[]:=by intro e;simp only[e,Lp]at h;exact h rfl
       rw[show d::(t++x)=(d::t)++x from rfl,WB x i];have:=Zc (d::t);simp only;rw[MB x h]
termination_by q.length
decreasing_by
 all_goals grind
theorem az{q:Str}(x:Str)(h:badS q≠[]):badS (q++x)=badS q++x:=by
 match q with
 |[]=>rw[av]at h;grind
 |c::r=>
  rw[Ra,Yw,Yw];rw[Yw]at h;cases f:c==41 with
  |true=>grind
  |false=>
   rw[f,Ga (by decide)]at h;simp only[Rb,Pd];cases a:escS (c::r)with
   |true=>
    rw[a,Ha rfl]at h;have d:(zt r).2≠[]:=by intro e;rw[e,av]at h;exact h rfl
    have b:r≠[]:=by rintro rfl;exact d rfl
    rw[Bv x (.inl b),a];simp only[Ce];rw[WB x d];have:=Zc r;exact az x h
   |false=>
    rw[a,Ga (by decide)]at h;have b:r≠[]\/c≠92:=by left;rintro rfl;rw[av]at h;exact h rfl
    rw[Bv x b,a];simp only[Rb,Pd];exact az x h
termination_by q.length
decreasing_by
 all_goals grind
theorem iE{q:Str}(x:Str)(h:(urlS q).2≠[]):urlS (q++x)=((urlS q).1,(urlS q).2++x):=by
 match q with
 |[]=>rw[Oo]at h;grind
 |c::r=>
  rw[Ra,ak,ak];rw[ak]at h;cases l:c==41 with
  |true=>grind
  |false=>
   rw[l,Ga (by decide)]at h;simp only[Rb,Pd];cases j:spB c with
   |true=>
    rw[j,Ha rfl]at h;simp only[Ce];cases f:past spB r with
    |nil=>grind
    |cons d t=>
     rw[Tk x (by rw[f];simp),f];rw[f]at h;simp only[Ra]at h ⊢;cases a:d==41 with
     |true=>grind
     |false=> rw[a,Ga (by decide)]at h;simp only[Rb,Pd];rw[show d::(t++x)=(d::t)++x from rfl,az x h]
   |false=>
    rw[j,Ga (by decide)]at h;simp only[Rb,Pd];have b:(c=92->r≠[])->escS (c::(r++x))=escS (c::r):=by
     intro k;refine Bv x ?_;by_cases e:c=92
     ·exact .inl (k e)
     ·exact .inr e
    have m:c=92->r≠[]:=by
     rintro rfl rfl;have o:escS [92]=true:=by decide
     rw[o,show((92:UInt8)==92&& !true)=false from rfl,Fe]at h;cases i:((92:UInt8)==34||(92:UInt8)==39||(92:UInt8)==40||unB 92)with
     |true=>exact absurd i (by decide)
     |false=> rw[i,Ga (by decide),Ha (by decide)]at h;exact absurd (by show(urlS (zt []).2).2=[];rw[show(zt []).2=[]from rfl,Oo]) h
    rw[b m];cases a:c==34||c==39||c==40||unB c||c==92&& !escS (c::r)with
    |true=> rw[a,Ha rfl]at h;simp only[Ce];rw[show c::(r++x)=(c::r)++x from rfl,az x h]
    |false=>
     rw[a,Ga (by decide)]at h;simp only[Rb,Pd];cases g:c==92 with
     |true=>
      rw[g,Ha rfl]at h;simp only[Ce];have n:(zt r).2≠[]:=by intro e;simp only[e,Oo]at h;exact h rfl
      rw[WB x n];have:=Zc r;simp only;rw[iE x h]
     |false=> rw[g,Ga (by decide)]at h;simp only[Rb,Pd];rw[iE x h]
termination_by q.length
decreasing_by
 all_goals grind
theorem jk{q:Str}(x:Str)(h:q≠[]):unsign (q++x)=unsign q++x/\sgOf (q++x)=sgOf q:=by
 cases q with
 |nil=>grind
 |cons c r=> unfold unsign sgOf;show(if Xf c then r++x else c::(r++x))=(if Xf c then r else c::r)++x/\_;refine⟨by split<;>rfl,rfl⟩
def Jf(q:Str):Str:=past digB (unsign q)
theorem aO{q x:Str}(h:(z8 q).1≠[])(f:q=[46]->digB (atS x 0)=false):z8 (q++x)=((z8 q).1++x,(z8 q).2)/\dotP (q++x)=dotP q:=by
 unfold z8 dotP;unfold z8 at h;cases q with
 |nil=>exact absurd rfl h
 |cons c r=>
  have g:(atS ((c::r)++x) 0==46&&digB (atS ((c::r)++x) 1))=(atS (c::r) 0==46&&digB (atS (c::r) 1)):=by
   show(c==46&&digB (atS (r++x) 0))=(c==46&&digB (atS r 0));cases r with
   |nil=>
    cases a:c==46 with
    |false=>rfl
    |true=> rw[Jb]at a;subst a;show(true&&digB (atS x 0))=(true&&digB (atS [] 0));rw[f rfl];rfl
   |cons d t=>rfl
  rw[g];cases e:(atS (c::r) 0==46&&digB (atS (c::r) 1))with
  |false=>grind
  |true=>
   rw[e,Ha rfl]at h;simp only[Ce];rw[show((c::r)++x).drop 1=r++x from rfl,show(c::r).drop 1=r from rfl];have b:past digB r≠[]:=h;rw[Tk x b,Jz x b]
   grind
theorem zDc{w x:Str}(hw:w≠[])(h: ∀r,expS w=some r->r≠[])(hn:expS w=none->expS (w++x)=none):
  expS (w++x)=(expS w).map (· ++x)/\expP (w++x)=expP w:=by
 have hP: ∀q:Str,expP q=if(expS q).isSome then some (atS q 0,sgOf (q.drop 1),(unsign (q.drop 1)).takeWhile digB)else none:=by
  intro q;unfold expP expS;cases atS q 0==101||atS q 0==69 with
  |false=>rfl
  |true=>
   grind
 cases he:expS w with
 |none=>
  grind
 |some r=>
  have hr:=h r he;cases w with
  |nil=>grind
  |cons c t=>
   have he':=he;unfold expS at he';cases h1:atS (c::t) 0==101||atS (c::t) 0==69 with
   |false=>grind
   |true=>
    rw[h1,Ha rfl]at he';cases h2:digB (atS (unsign ((c::t).drop 1)) 0)with
    |false=>grind
    |true=>
     rw[h2,Ha rfl]at he';have hrr:past digB (unsign t)=r:=by injection he'
     have ht:t≠[]:=by rintro rfl;exact absurd (show digB (atS (unsign []) 0)=true from h2) (by decide)
     obtain⟨u1,u2⟩:=jk x ht;have hun:unsign t≠[]:=by intro e;rw[show(c::t).drop 1=t from rfl,e]at h2;exact absurd h2 (by decide)
     have hexp:expS ((c::t)++x)=some (r++x):=by unfold expS;rw[show atS ((c::t)++x) 0=atS (c::t) 0 from rfl,h1,Ha rfl,show((c::t)++x).drop 1=t++x from rfl,u1];have:atS (unsign t++x) 0=atS (unsign t) 0:=lh x (Ie.2 hun);rw[this,show digB (atS (unsign t) 0)=true from h2,Ha rfl,Tk x (by grind),hrr]
     refine⟨by rw[hexp];rfl,?_⟩;rw[hP,hP,hexp,he];simp only[Option.isSome_some,Ce];rw[show((c::t)++x).drop 1=t++x from rfl,show(c::t).drop 1=t from rfl,u1,u2,Jz x (by grind)];rfl
theorem Ui(q:Str):zP q=(match expS (z8 (Jf q)).1 with|some r=>(r,false)|none=>z8 (Jf q)):=rfl
theorem Ez{q x:Str}(h:(zP q).1≠[])(j:Jf q=[46]->digB (atS x 0)=false)(l:expS (z8 (Jf q)).1=none->expS ((z8 (Jf q)).1++x)=none):
  zP (q++x)=((zP q).1++x,(zP q).2)/\numP (q++x)=numP q:=by
 rw[Ui]at h;have a: ∀r,expS (z8 (Jf q)).1=some r->r≠[]:=by intro r p;rw[p]at h;exact h
 have b:(z8 (Jf q)).1≠[]:=by intro e;rw[e,show expS []=none from rfl]at h;exact h e
 have c:Jf q≠[]:=by intro e;rw[e]at b;exact b rfl
 have n:q≠[]:=by rintro rfl;exact c rfl
 obtain⟨d,k⟩:=jk x n;have f:Jf (q++x)=Jf q++x:=by unfold Jf;rw[d];exact Tk x c
 obtain⟨i,m⟩:=aO b j;obtain⟨s,o⟩:=zDc b a l;have g: ∀z:Str,numP z=⟨sgOf z,(unsign z).takeWhile digB,dotP (Jf z),expP (z8 (Jf z)).1⟩:=fun z=>rfl;constructor
 ·rw[Ui,Ui,f,i]
  grind
 ·rw[g,g,k,d,Jz x c,f,i,m,o]
def brS(c:UInt8)(r:Str):Nat:=
 if spB c then 0
 else if c==34||c==39 then 1
 else if c==35&&(letB (atS r 0)||escS r)then 2
 else if nbS (c::r)then 3
 else if [45,45,62].isPrefixOf (c::r)then 4
 else if [60,33,45,45].isPrefixOf (c::r)then 5
 else if c==64&&nmS r then 6
 else if nmS (c::r)then 7
 else if Gg c==0 then 8
 else 9
def nxB:Nat->UInt8->Str->ze×Str
 |0,c,r=>(Jg 13,past spB (c::r))
 |1,c,r=>(Jj (Za c r).1,(Za c r).2)
 |2,_,r=>(⟨4,(zq r).1,0,[],nmS r⟩,(zq r).2)
 |3,c,r=>zI (c::r)
 |4,c,r=>(Jg 15,(c::r).drop 3)
 |5,c,r=>(Jg 14,(c::r).drop 4)
 |6,_,r=>(⟨3,(zq r).1,0,[],false⟩,(zq r).2)
 |7,c,r=>qQ (c::r)
 |8,c,r=>(⟨9,[c],0,[],false⟩,r)
 |_+9,c,r=>(Jg (Gg c),r)
theorem JD(c:UInt8)(r:Str):nxB 0 c r=(Jg 13,past spB (c::r)):=by rw[nxB]
theorem Du(c:UInt8)(r:Str):nxB 1 c r=(Jj (Za c r).1,(Za c r).2):=by rw[nxB]
theorem Jl(c:UInt8)(r:Str):nxB 2 c r=(⟨4,(zq r).1,0,[],nmS r⟩,(zq r).2):=by rw[nxB]
theorem Wi(c:UInt8)(r:Str):nxB 3 c r=zI (c::r):=by rw[nxB]
theorem LV(c:UInt8)(r:Str):nxB 4 c r=(Jg 15,(c::r).drop 3):=by rw[nxB]
theorem KV(c:UInt8)(r:Str):nxB 5 c r=(Jg 14,(c::r).drop 4):=by rw[nxB]
theorem Gq(c:UInt8)(r:Str):nxB 6 c r=(⟨3,(zq r).1,0,[],false⟩,(zq r).2):=by rw[nxB]
theorem Gi(c:UInt8)(r:Str):nxB 7 c r=qQ (c::r):=by rw[nxB]
theorem Fq(c:UInt8)(r:Str):nxB 8 c r=(⟨9,[c],0,[],false⟩,r):=by rw[nxB]
theorem pJ(c:UInt8)(r:Str):nxB 9 c r=(Jg (Gg c),r):=rfl
theorem qf(c:UInt8)(r:Str):Zo (c::r)=nxB (brS c r) c r:=by
 rw[wo];unfold brS;split
 ·rfl
 ·split
  ·rfl
  ·split
   ·rfl
   ·split
    ·rfl
    ·split
     ·rfl
     ·split
      ·rfl
      ·split
       ·rfl
       ·split
        ·rfl
        ·split<;>rfl
theorem br_4{c:UInt8}{r:Str}:brS c r=4->[45,45,62].isPrefixOf (c::r)=true:=by unfold brS;grind
theorem br_5{c:UInt8}{r:Str}:brS c r=5->[60,33,45,45].isPrefixOf (c::r)=true:=by unfold brS;grind
theorem br_9{c:UInt8}{r:Str}:brS c r=9-> ¬(Gg c==0)=true:=by unfold brS;grind
theorem tV(c:UInt8)(r:Str):brS c r<=9:=by unfold brS;grind
def brK(k:Int):Nat:=
 if k=13 then 0 else if k=5\/k=6 then 1 else if k=4 then 2 else if k=10\/k=11\/k=12 then 3 else if k=15 then 4 else if k=14 then 5 else if k=3 then 6
 else if k=1\/k=2\/k=7\/k=8 then 7 else if k=9 then 8 else 9
theorem zAP(c:UInt8):Gg c=0\/(16<=Gg c/\Gg c<=24):=by
 have: ∀n:Nat,n<256->Gg (UInt8.ofNat n)=0\/(16<=Gg (UInt8.ofNat n)/\Gg (UInt8.ofNat n)<=24):=by decide+kernel
 have:=this c.toNat (Eb c);simp_all
theorem zBh(o:Option Str):(Jj o).kind=5\/(Jj o).kind=6:=by cases o<;>simp[Jj]
theorem iF(o:Option Str):(Ij o).kind=7\/(Ij o).kind=8:=by cases o<;>simp[Ij]
theorem O1(l:Str):(qQ l).1.kind=1\/(qQ l).1.kind=2\/(qQ l).1.kind=7\/(qQ l).1.kind=8:=by
 unfold qQ;split
 ·split
  ·exact .inr (.inr (iF _))
  grind
 ·exact .inl rfl
theorem R7(l:Str):(zI l).1.kind=10\/(zI l).1.kind=11\/(zI l).1.kind=12:=by
 unfold zI
 grind
theorem SV{i:Nat}(h:i<=9):i=0\/i=1\/i=2\/i=3\/i=4\/i=5\/i=6\/i=7\/i=8\/i=9:=by omega
theorem Dm(c:UInt8)(r:Str):brK (Zo (c::r)).1.kind=brS c r:=by
 rw[qf];rcases SV (tV c r)with h|h|h|h|h|h|h|h|h|h
 ·rw[h];rfl
 ·rw[h,Du];show brK (Jj (Za c r).1).kind=1;rcases zBh (Za c r).1 with h|h<;>rw[h]<;>rfl
 ·rw[h];rfl
 ·rw[h,Wi];rcases R7 (c::r)with h|h|h<;>rw[h]<;>rfl
 ·rw[h];rfl
 ·rw[h];rfl
 ·rw[h];rfl
 ·rw[h,Gi];rcases O1 (c::r)with h|h|h|h<;>rw[h]<;>rfl
 ·rw[h];rfl
 ·have b:=zAP c;have a:=br_9 h;rw[Jb]at a;rw[h,pJ];show brK (Gg c)=9;unfold brK
  repeat rw[Ga (by omega)]
theorem FZ{q x:Str}(h:(qQ q).2≠[]):qQ (q++x)=((qQ q).1,(qQ q).2++x):=by
 have g:(zq q).2≠[]:=by intro e;unfold qQ at h;rw[e,Ga (by decide)]at h;exact h rfl
 have e:=Yr x g;unfold qQ;unfold qQ at h;rw[e];simp only;have i:atS ((zq q).2++x) 0=atS (zq q).2 0:=lh x (Ie.2 g);rw[i];cases b:atS (zq q).2 0==40 with
 |false=>rfl
 |true=>
  rw[b,Ha rfl]at h;simp only[Ce];cases f:(zq q).2 with
  |nil=>grind
  |cons c r=>
   rw[f]at h;rw[show((c::r)++x).drop 1=r++x from rfl];rw[show(c::r).drop 1=r from rfl]at h ⊢;cases j:lowS (zq q).1==[117,114,108]with
   |false=>
    grind
   |true=>
    rw[j,ma]at h;simp only[ma];cases a:past spB r with
    |nil=>
     rw[a,Ha (by decide),Oo]at h
     grind
    |cons d t=>
     rw[Tk x (by rw[a];simp),a];rw[a]at h;rw[show atS ((d::t)++x) 0=atS (d::t) 0 from rfl];split
     ·rename_i k;rw[Ha k]at h;rw[iE x h]
     ·rfl
theorem Vr{q x:Str}{n:Nat}(h:n<=q.length):(q++x).drop n=q.drop n++x:=Dg h
structure zlw (q x:Str):Prop where
 e:zP (q++x)=((zP q).1++x,(zP q).2)
 p:numP (q++x)=numP q
 n:nmS ((zP q).1++x)=nmS (zP q).1
theorem F5{q x:Str}(a:zlw q x)(h:(zI q).2≠[]):zI (q++x)=((zI q).1,(zI q).2++x):=by
 have f:(zP q).1≠[]:=by intro e;unfold zI at h;rw[e,Ga (by decide),Ga (by decide)]at h;exact h rfl
 have b:atS ((zP q).1++x) 0=atS (zP q).1 0:=lh x (Ie.2 f);unfold zI;unfold zI at h;rw[a.e,a.p];simp only[a.n,b];cases c:nmS (zP q).1 with
 |true=> rw[c,Ha rfl]at h;simp only[Ce];rw[Yr x h]
 |false=>
  simp only[Rb,Pd];cases d:atS (zP q).1 0==37 with
  |true=> simp_all
  |false=>grind
theorem Uv {c:UInt8} {r x:Str} (f:brS c (r++x)=brS c r) (h:(Zo (c::r)).2≠[]) (e:brS c r=2->nmS (r++x)=nmS r)
  (b:brS c r=3->zlw (c::r) x):Zo (c::(r++x))=((Zo (c::r)).1,(Zo (c::r)).2++x):=by
 rw[qf c (r++x),f];rw[qf]at h ⊢;rcases SV (tV c r)with a|a|a|a|a|a|a|a|a|a
 ·rw[a,JD]at h;rw[a,JD,JD,show c::(r++x)=(c::r)++x from rfl,Tk x h]
 ·rw[a,Du]at h;rw[a,Du,Du,MB x h]
 ·rw[a,Jl]at h;rw[a,Jl,Jl,Yr x h,e a]
 ·have g:=b a;rw[a,Wi]at h;rw[a,Wi,Wi,show c::(r++x)=(c::r)++x from rfl,F5 g h]
 ·have d:=yl (br_4 a);rw[a,LV,LV,show c::(r++x)=(c::r)++x from rfl,Vr (show 3<=(c::r).length from d)]
 ·have d:=yl (br_5 a);rw[a,KV,KV,show c::(r++x)=(c::r)++x from rfl,Vr (show 4<=(c::r).length from d)]
 ·rw[a,Gq]at h;rw[a,Gq,Gq,Yr x h]
 ·rw[a,Gi]at h;rw[a,Gi,Gi,show c::(r++x)=(c::r)++x from rfl,FZ h]
 ·rw[a,Fq,Fq]
 ·rw[a,pJ,pJ]
theorem eG{q:Str}(x:Str)(h:q≠[]):undot (q++x)=undot q++x:=by
 cases q with
 |nil=>grind
 |cons c r=> unfold undot;show(if c==46 then r++x else c::(r++x))=(if c==46 then r else c::r)++x;split<;>rfl
theorem rX(q:Str):q.length<=(undot q).length+1:=by
 unfold undot
 grind
theorem OH(q:Str):q.length<=(unsign q).length+1:=by
 unfold unsign
 grind
theorem Yo{q:Str}(h:1<=q.length):q≠[]:=by grind
theorem zFc{q:Str}(x:Str)(h:3<=q.length):nbS (q++x)=nbS q:=by have b:=OH q;have a:=rX (unsign q);unfold nbS;rw[(jk x (Yo (by omega))).1,eG x (Yo (by omega)),lh x (by omega)]
theorem ay{q:Str}(x:Str)(h:3<=q.length):nmS (q++x)=nmS q:=by unfold nmS escS;rw[Vr (by omega),lh x (show 0<q.length by omega),lh x (show 1<q.length by omega),lh x (show 0<(q.drop 1).length by grind),lh x (show 1<(q.drop 1).length by grind)]
theorem Jr{m:Str}: ∀{q:Str} (x:Str),m.length<=q.length->m.isPrefixOf (q++x)=m.isPrefixOf q:=by
 induction m with
 |nil=>grind
 |cons a m c=>
  intro q x h;cases q with
  |nil=>grind
  |cons b t=>
   grind
theorem zEC{c:UInt8}{r:Str}(x:Str)(h:4<=r.length):brS c (r++x)=brS c r:=by
 have e:c::(r++x)=(c::r)++x:=rfl;have hl:(c::r).length=r.length+1:=rfl;unfold brS;rw[e,zFc x (by omega),Jr x (by grind),Jr x (by grind),ay x (q:=r) (by omega),ay x (q:=c::r) (by omega),lh x (show 0<r.length by omega)];have:escS (r++x)=escS r:=by unfold escS;rw[lh x (show 0<r.length by omega),lh x (show 1<r.length by omega)]
 rw[this]
theorem si{w:Str}:expS w=none↔((atS w 0==101||atS w 0==69)&&digB (atS (unsign (w.drop 1)) 0))=false:=by
 unfold expS
 grind
theorem zDd{w:Str}(x:Str)(h:3<=w.length)(a:expS w=none):expS (w++x)=none:=by rw[si]at a ⊢;have b:=OH (w.drop 1);rw[Yb]at b;rw[Vr (by omega),(jk x (Yo (by grind))).1,lh x (show 0<w.length by omega),lh x (by omega)];exact a
theorem PZ(q:Str):(z8 q).1<:+q:=by
 unfold z8;split
 ·exact(Im _ _).trans (Ke 1 q)
 grind
theorem zEO(q:Str):(zP q).1<:+(z8 (Jf q)).1:=by
 rw[Ui];cases h:expS (z8 (Jf q)).1 with
 |some r=>exact CL (Te _) h
 |none=>grind
theorem nQ(q:Str):(zI q).2<:+(zP q).1:=by
 unfold zI;split
 ·exact Vk _
 ·split
  ·exact Ke 1 _
  grind
theorem zDG{q:Str}(x:Str)(h:4<=(zP q).1.length):zlw q x:=by have d:=(zEO q).length_le;have c:=(PZ (Jf q)).length_le;obtain⟨a,b⟩:=Ez (q:=q) (x:=x) (Yo (by omega)) (fun e=>by grind) (zDd x (by omega));exact⟨a,b,ay x (by omega)⟩
theorem zAW{c:UInt8}{r:Str}(x:Str)(h:4<=(Zo (c::r)).2.length):Zo (c::(r++x))=((Zo (c::r)).1,(Zo (c::r)).2++x):=by have b:=(mi c r).length_le;refine Uv (zEC x (by omega)) (Yo (by omega)) (fun _=>ay x (by omega)) (fun a=>zDG x ?_);rw[qf,a,Wi]at h;have:=(nQ (c::r)).length_le;omega
theorem Uy(q y:Str):escS (q++47::y)=escS q:=by
 match q with
 |[]=>rfl
 |[c]=>rfl
 |c::d::t=>rfl
theorem Eu(q y:Str):nmS (q++47::y)=nmS q:=by
 match q with
 |[]=>rfl
 |[c]=> unfold nmS;show(if c==45 then fstB 47||47==45||escS (47::y)else fstB c||escS ([c]++47::y))=(if c==45 then fstB 0||0==45||escS []else fstB c||escS [c]);rw[Uy];rfl
 |c::d::t=> unfold nmS;show(if c==45 then fstB d||d==45||escS ((d::t)++47::y)else fstB c||escS ((c::d::t)++47::y))=(if c==45 then fstB d||d==45||escS (d::t)else fstB c||escS (c::d::t));rw[Uy,Uy]
theorem DX(q y:Str):digB (atS (q++47::y) 0)=digB (atS q 0):=by
 cases q with
 |nil=>rfl
 |cons c t=>rfl
theorem cO(q y:Str):unsign (q++47::y)=unsign q++47::y:=by
 cases q with
 |nil=>rfl
 |cons c t=>exact(jk (47::y) (by simp)).1
theorem zBE(q y:Str):undot (q++47::y)=undot q++47::y:=by
 cases q with
 |nil=>rfl
 |cons c t=>exact eG (47::y) (by simp)
theorem zGb(q y:Str):nbS (q++47::y)=nbS q:=by unfold nbS;rw[cO,zBE,DX]
theorem PW{m:Str}(c: ∀b∈m,b≠47): ∀(q y:Str),m.isPrefixOf (q++47::y)=m.isPrefixOf q:=by
 induction m with
 |nil=>grind
 |cons a m d=>
  intro q y;cases q with
  |nil=>
   grind
  |cons b t=>grind
theorem zE5(q y:Str):letB (atS (q++47::y) 0)=letB (atS q 0):=by
 cases q with
 |nil=>rfl
 |cons c t=>rfl
theorem rV(c:UInt8)(r y:Str):brS c (r++47::y)=brS c r:=by have e:c::(r++47::y)=(c::r)++47::y:=rfl;unfold brS;rw[e,zGb,PW (by decide),PW (by decide),Eu,Eu,zE5,Uy]
theorem zER{w:Str}(y:Str)(a:expS w=none):expS (w++47::y)=none:=by
 cases w with
 |nil=>rfl
 |cons c t=> rw[si]at a ⊢;show((c==101||c==69)&&digB (atS (unsign (t++47::y)) 0))=false;rw[cO,DX];exact a
theorem zFi{q:Str}(y:Str)(h:(zP q).1≠[]):zlw q (47::y):=by obtain⟨a,b⟩:=Ez (q:=q) (x:=47::y) h (fun _=>rfl) (zER y);exact⟨a,b,Eu _ y⟩
theorem eH{q:Str}(h:(zI q).2≠[]):(zP q).1≠[]:=by intro e;have:=(nQ q).length_le;simp_all
theorem zDC{c:UInt8}{r:Str}(y:Str)(h:(Zo (c::r)).2≠[]):Zo (c::(r++47::y))=((Zo (c::r)).1,(Zo (c::r)).2++47::y):=by refine Uv (rV c r y) h (fun _=>Eu r y) (fun a=>zFi y ?_);rw[qf,a,Wi]at h;exact eH h
def BK(c:UInt8)(r x:Str):Prop:=(∃e a,(e=101\/e=69)/\z8 (Jf (c::r))=([e,43],a))/\(Zo (c::r)).2=[43]/\(Zo (c::r)).1.kind=12/\digB (atS x 0)=true
theorem zA2{c:UInt8}{r x:Str}(hb:brS c r=3)(h:(Zo (c::r)).2≠[])(hx:x≠[])(ht:(zI ((c::r)++x)).1=(zI (c::r)).1):
  zlw (c::r) x\/BK c r x:=by
 have hnx:Zo (c::r)=zI (c::r):=by rw[qf,hb,Wi]
 rw[hnx]at h;have he:=eH h;have hflag: ∀q:Str,(zI q).1.kind=10->(zI q).1.flag=(zP q).2:=by
  intro q;unfold zI;split
  ·intro h;cases h
  ·grind
 have hnm: ∀q:Str,((zI q).1.kind=12↔nmS (zP q).1=true):=by
  intro q;unfold zI;split
  ·grind
  ·grind
 by_cases hd:Jf (c::r)=[46]->digB (atS x 0)=false
 ·by_cases hn:expS (z8 (Jf (c::r))).1=none->expS ((z8 (Jf (c::r))).1++x)=none
  ·obtain⟨a,b⟩:=Ez he hd hn;refine .inl ⟨a,b,?_⟩
   grind
  ·right;obtain⟨hn1,hn2⟩:=Classical.not_imp.1 hn;have hend:zP (c::r)=z8 (Jf (c::r)):=by rw[Ui,hn1]
   rw[hend]at he;obtain⟨w,fl⟩: ∃w fl,z8 (Jf (c::r))=(w,fl):=⟨_,_,rfl⟩;obtain⟨fl,hw⟩:=fl;rw[hw]at he hn1 hn2 hend;simp only at he hn1 hn2;rw[si]at hn1;rw[si]at hn2;cases w with
   |nil=>grind
   |cons e t=>
    have h2:((e==101||e==69)&&digB (atS (unsign (t++x)) 0))=true:=by
     have:((atS ((e::t)++x) 0==101||atS ((e::t)++x) 0==69)&&digB (atS (unsign (((e::t)++x).drop 1)) 0))=true:=by
      cases hh:((atS ((e::t)++x) 0==101||atS ((e::t)++x) 0==69)&&digB (atS (unsign (((e::t)++x).drop 1)) 0))with
      |true=>rfl
      |false=>grind
     exact this
    have h1:((e==101||e==69)&&digB (atS (unsign t) 0))=false:=hn1;rw[Ea]at h2;rw[h2.1,ma]at h1;have hee:e=101\/e=69:=by have:=h2.1;rw[Lc,Jb,Jb]at this;exact this
    have hfst:fstB e=true/\letB e=true/\(e==45)=false:=by rcases hee with rfl|rfl<;>decide
    have hnmw:nmS (e::t)=true:=by unfold nmS;rw[show atS (e::t) 0=e from rfl,hfst.2.2,Ga (by decide),hfst.1];rfl
    have hnum:zI (c::r)=(⟨12,[],(numP (c::r)).val,(zq (e::t)).1,fl⟩,(zq (e::t)).2):=by unfold zI;rw[hend,Ha hnmw]
    rw[hnum]at h;have h':(zq (e::t)).2≠[]:=h;have ht43:t=[43]/\digB (atS x 0)=true:=by
     match t with
     |[]=>rw[zR,Ha hfst.2.1,qV]at h';grind
     |[d]=>
      have hux:unsign ([d]++x)=if Xf d then x else d::x:=rfl;have hu:unsign [d]=if Xf d then []else [d]:=rfl;rw[hux]at h2;rw[hu]at h1;cases hs:Xf d with
      |false=>
       rw[hs,Ga (by decide)]at h1 h2;have:=h2.2;rw[show atS (d::x) 0=atS [d] 0 from rfl,h1]at this;cases this
      |true=>
       rw[hs,Ha rfl]at h2;unfold Xf at hs;rw[Lc,Jb,Jb]at hs;rcases hs with rfl|rfl
       ·grind
       ·rw[zR,Ha hfst.2.1,zR,Ha (by decide),qV]at h';grind
     |d::d2::t2=>
      exfalso;have hlen:1<=(unsign (d::d2::t2)).length:=by have:=OH (d::d2::t2);rw[Ja,Ja]at this;omega
      have:=h2.2;rw[(jk x (by simp)).1,lh x (by omega),h1]at this;cases this
    obtain⟨rfl,hdx⟩:=ht43;refine⟨⟨e,fl,hee,hw⟩,?_,?_,hdx⟩
    ·rw[hnx,hnum];show(zq [e,43]).2=[43];rw[zR,Ha hfst.2.1,zR,Ga (by decide),Ga (by decide)]
    ·rw[hnx,hnum]
 ·exfalso;obtain⟨hq2,hdx⟩:=Classical.not_imp.1 hd;have hend:zP (c::r)=([46],true):=by rw[Ui,hq2];rfl
  have hnum:zI (c::r)=(⟨10,[],(numP (c::r)).val,[],true⟩,[46]):=by unfold zI;rw[hend,Ga (by decide),Ga (by decide)]
  rw[hnum]at ht;have hf:=hflag ((c::r)++x) (by rw[ht]);rw[ht]at hf;have hun:unsign (c::r)≠[]:=by intro e;rw[Jf,e]at hq2;cases hq2
  have e2:Jf ((c::r)++x)=46::x:=by unfold Jf;rw[(jk x (by simp)).1,Tk x (by unfold Jf at hq2;rw[hq2];simp)];unfold Jf at hq2;rw[hq2];rfl
  have hw:z8 (46::x)=(past digB x,false):=by
   unfold z8;have:digB (atS x 0)=true:=by cases hh:digB (atS x 0)with|true=>rfl|false=>grind
   rw[show atS (46::x) 0=46 from rfl,show atS (46::x) 1=atS x 0 from rfl,this];rfl
  have hfl:(zP ((c::r)++x)).2=false:=by rw[Ui,e2,hw];simp only;cases expS (past digB x)<;>rfl
  rw[hfl]at hf;cases hf
theorem OY{c:UInt8}{r x:Str}(h:(Zo (c::r)).2≠[])(hx:x≠[])(ht:(Zo (c::(r++x))).1=(Zo (c::r)).1):
  (Zo (c::(r++x))).2=(Zo (c::r)).2++x\/BK c r x:=by
 have hb:brS c (r++x)=brS c r:=by rw[<-Dm,<-Dm,ht]
 have hh:brS c r=2->nmS (r++x)=nmS r:=by intro hi;have:=congrArg ze.flag ht;rw[qf,qf,hb,hi,Jl,Jl]at this;exact this
 by_cases hi:brS c r=3
 ·have hnx:Zo (c::r)=zI (c::r):=by rw[qf,hi,Wi]
  have hnx2:Zo (c::(r++x))=zI ((c::r)++x):=by rw[qf,hb,hi,Wi];rfl
  have ht':=ht;rw[hnx,hnx2]at ht';rcases zA2 hi h hx ht' with hs|hp
  ·left;rw[Uv hb h hh (fun _=>hs)]
  ·exact .inr hp
 ·left;rw[Uv hb h hh (fun e=>absurd e hi)]
def run:Str->List ze->Str->Prop
 |q,[],R=>q=R
 |q,t::a,R=> ∃c r,cmtS q=c::r/\(Zo (c::r)).1=t/\run (Zo (c::r)).2 a R
theorem Ir: ∀{ts:List ze} {q R:Str},run q ts R->R<:+q
 |[],q,R,h=>by rw[run]at h;grind
 |t::ts,q,R,h=>by obtain⟨c,r,d,e,b⟩:=h;have a:=Mj q;rw[d]at a;exact(Ir b).trans ((mi c r).trans ((Wd c r).trans a))
theorem Hm: ∀{ts:List ze} {q R:Str},run q ts R->Zy q=ts++Zy R
 |[],q,R,h=>by rw[run]at h;subst h;rfl
 |t::ts,q,R,h=>by obtain⟨c,r,d,b,a⟩:=h;rw[qL d,b,Hm a];rfl
theorem yz: ∀{ts us:List ze} {q R S:Str},run q ts R->run R us S->run q (ts++us) S
 |[],us,q,R,S,h,a=>by rw[run]at h;subst h;exact a
 |t::ts,us,q,R,S,h,a=>by obtain⟨c,r,e,d,b⟩:=h;exact⟨c,r,e,d,yz b a⟩
theorem EM: ∀{ts us:List ze} {q:Str},Zy q=ts++us-> ∃R,run q ts R/\Zy R=us
 |[],us,q,h=>⟨q,rfl,h⟩
 |t::ts,us,q,h=>by
  cases a:cmtS q with
  |nil=>rw[Qy a]at h;cases h
  |cons c r=> rw[qL a,Ra]at h;injection h with d f;obtain⟨R,e,b⟩:=EM f;exact⟨R,⟨c,r,a,d,e⟩,b⟩
theorem uK: ∀{ts:List ze} {q R S:Str},run q ts R->run q ts S->R=S
 |[],q,R,S,h,b=>by rw[run]at h b;rw[<-h,b]
 |t::ts,q,R,S,h,b=>by obtain⟨c,r,f,m,g⟩:=h;obtain⟨l,k,a,e,d⟩:=b;rw[f]at a;injection a with i j;subst i j;exact uK g d
theorem vK{ts:List ze}{q R:Str}(d:ts≠[]):run (cmtS q) ts R↔run q ts R:=by
 cases ts with
 |nil=>grind
 |cons t ts=>
  constructor
  ·rintro⟨c,r,a,b⟩;rw[Jo]at a;exact⟨c,r,a,b⟩
  ·rintro⟨c,r,a,b⟩;exact⟨c,r,by rw[Jo];exact a,b⟩
theorem RF(x:Str): ∀{l r:Str},clsS l=some r->clsS (l++x)=some (r++x)
 |[],r,h=>by cases h
 |c::t,r,h=>by
  rw[clsS]at h;rw[Ra,clsS];cases t with
  |nil=>
   cases a:c==42&&atS ([]:Str) 0==47 with
   |true=>rw[Ea]at a;exact absurd a.2 (by decide)
   |false=>rw[a,Ga (by decide)]at h;cases h
  |cons d u=>
   rw[show atS ((d::u)++x) 0=atS (d::u) 0 from rfl];split
   ·grind
   ·rename_i a;rw[Ga a]at h;exact RF x h
theorem Er{q x:Str}(h:cmtS q≠[])(a:([47,42]:Str).isPrefixOf (cmtS q++x)=false):cmtS (q++x)=cmtS q++x:=by
 rw[Pi q]at h a ⊢;split at h
 ·rename_i b;have c:=yl b;rw[show([47,42]:Str).length=2 from rfl]at c;rw[Ha b]at a ⊢;cases d:clsS (q.drop 2)with
  |none=>grind
  |some p=>
   rw[d]at h a;simp only at h a ⊢;rw[Pi (q++x),Jr x (by exact c),b,Ha rfl,Vr c,RF x d];simp only;have e:p.length<q.length:=by have e:=(Jk _ d).2;rw[Yb]at e;omega
   exact Er h a
 ·rename_i b;rw[Ga b]at a ⊢;exact ZI a
termination_by q.length
decreasing_by omega
theorem nN{c d:UInt8}(t x:Str):([47,42]:Str).isPrefixOf ((c::d::t)++x)=([47,42]:Str).isPrefixOf (c::d::t):=Jr x (by grind)
theorem gL{q x:Str}(h:2<=(cmtS q).length):cmtS (q++x)=cmtS q++x:=by refine Er (Yo (by omega)) ?_;rw[Jr x (by exact h)];exact Dr q
theorem NN{c:UInt8}{r:Str}(h:(Zo (c::r)).2≠[]):2<=(c::r).length:=by
 have b:=(mi c r).length_le;have a:=Ie.2 h
 grind
theorem tK: ∀{ts:List ze} {q R:Str} (x:Str),run q ts R->4<=R.length->run (q++x) ts (R++x)
 |[],q,R,x,h,_=>by rw[run]at h;subst h;rfl
 |t::ts,q,R,x,h,e=>by obtain⟨c,r,a,f,b⟩:=h;have i:=(Ir b).length_le;have d:=zAW x (c:=c) (r:=r) (by omega);have g:=NN (c:=c) (r:=r) (Yo (by omega));refine⟨c,r++x,by rw[gL (by rw[a];exact g),a];rfl,by rw[d];exact f,?_⟩;rw[d];exact tK x b e
theorem EE{q:Str}(y:Str)(h:cmtS q≠[]):cmtS (q++47::42::y)=cmtS q++47::42::y:=by
 refine Er h ?_;have b:=Dr q;cases a:cmtS q with
 |nil=>exact absurd a h
 |cons c t=>
  cases t with
  |nil=>
   grind
  |cons d u=>grind
theorem gD: ∀{ts:List ze} {q R:Str} (y:Str),run q ts R->R≠[]->run (q++47::42::y) ts (R++47::42::y)
 |[],q,R,y,h,_=>by rw[run]at h;subst h;rfl
 |t::ts,q,R,y,h,hl=>by
  obtain⟨c,r,h1,h2,h3⟩:=h;have h4:(Zo (c::r)).2≠[]:=by intro e;have:=(Ir h3).length_le;rw[e]at this;exact hl (je.1 (by simpa using this))
  have h5:=zDC (42::y) h4;refine⟨c,r++47::42::y,by rw[EE y (by rw[h1];simp),h1];rfl,by rw[h5];exact h2,?_⟩;rw[h5];exact gD y h3 hl
def lV(q x:Str)(us:List ze):Prop:= ∃c r,cmtS q=c::r/\BK c r x/\(Zo (c::(r++x))).1=(Zo (c::r)).1/\Zy (Zo (c::(r++x))).2=us
theorem PM: ∀{ts us:List ze} {q R:Str} {x:Str},run q ts R->R≠[]->x≠[]->Zy (q++x)=ts++us->run (q++x) ts (R++x)\/(R=[43]/\ ∃p,p<:+q/\lV p x us)
 |[],us,q,R,x,h,_,_,_=>by rw[run]at h;subst h;exact .inl rfl
 |t::ts,us,q,R,x,h,hl,hx,ht=>by
  obtain⟨c,r,h1,h2,h3⟩:=h;have h4:(Zo (c::r)).2≠[]:=by intro e;have:=(Ir h3).length_le;rw[e]at this;exact hl (je.1 (by simpa using this))
  have hc:cmtS (q++x)=c::(r++x):=by rw[gL (by rw[h1];exact NN h4),h1];rfl
  rw[qL hc,Ra]at ht;injection ht with ht1 ht2;rcases OY h4 hx (by rw[ht1,h2])with h5|h5
  ·rw[h5]at ht2;rcases PM h3 hl hx ht2 with h6|⟨h6,p,hp,h7⟩
   ·exact .inl ⟨c,r++x,hc,ht1,by rw[h5];exact h6⟩
   ·refine .inr ⟨h6,p,hp.trans ((mi c r).trans ((Wd c r).trans ?_)),h7⟩;rw[<-h1];exact Mj q
  ·right;have h43:=h5.2.1;have hR:R=[43]/\ts=[]:=by
    cases ts with
    |nil=>rw[run,h43]at h3;grind
    |cons u us'=> exfalso;rw[h43]at h3;obtain⟨c',r',e1,e2,e3⟩:=h3;rw[show cmtS [43]=[43]from ZI rfl]at e1;injection e1 with e4 e5;subst e4 e5;have:=(Ir e3).length_le;have h9:=(mi (43:UInt8) []).length_le;simp_all
   obtain⟨hR,rfl⟩:=hR;refine⟨hR,q,Te _,c,r,h1,h5,by rw[ht1,h2],?_⟩;rw[ht2];rfl
def encB(p:UInt8->Bool):Str->Str
 |[]=>[]
 |c::r=>(bif p c then escC c else [c])++encB p r
def quoB(c:UInt8):Bool:=c==10||c==12||c==13||c==34||c==92
def urB(c:UInt8):Bool:=decide (c.toNat<=32)||c==34||c==39||c==40||c==41||c==92||c==127
def Bj:Str->Bool
 |[]=>false
 |c::r=>(c==101||c==69)&&numS r&& !(List.isPrefixOf [45,45] r)
def jf:Str->Str
 |[]=>[]
 |c::r=>bif Bj (c::r)then escC c++encW false 0 r else ZT (c::r)
def Dl(k:Int):Str:=
 bif k==13 then [32]else bif k==14 then [60,33,45,45]else bif k==15 then [45,45,62]else bif k==16 then [58]else bif k==17 then [59]else bif k==18 then [44]else
 bif k==19 then [91]else bif k==20 then [93]else bif k==21 then [40]else bif k==22 then [41]else bif k==23 then [123]else [125]
def txS(t:ze):Str:=
 bif t.kind==1 then ZT t.text
 else bif t.kind==2 then ZT t.text++[40]
 else bif t.kind==3 then 64::ZT t.text
 else bif t.kind==4 then 35::(bif t.flag then ZT t.text else encW false 0 t.text)
 else bif t.kind==5 then 34::(encB quoB t.text++[34])
 else bif t.kind==7 then [117,114,108,40]++(encB urB t.text++[41])
 else bif t.kind==9 then t.text
 else bif t.kind==10 then numT t.num (!t.flag)
 else bif t.kind==11 then numT t.num false++[37]
 else bif t.kind==12 then numT t.num (!t.flag)++jf t.unit
 else Dl t.kind
theorem kv(p:UInt8->Bool): ∀l:Str,(encB p l).length<=4*l.length
 |[]=>by unfold encB;simp
 |c::r=>by
  have:=Dw c;have:=kv p r;unfold encB
  grind
theorem zC8{p:UInt8->Bool}{i:Nat}{l:Str}(h:i<l.length):encB p (l.drop i)=(bif p l[i]then escC l[i]else [l[i]])++encB p (l.drop (i+1)):=by rw[Bb h,encB]
theorem OP {R:Type} {step:Int×List UInt8->Option (LO (Int×List UInt8) (List UInt8) R)} {l acc:Str} {p:UInt8->Bool} (hl:l.length<=100000) (ha:acc.length<=100000000)
  (h1: ∀(i:Nat) (a:Str) (hi:i<l.length),a.length<=500000000->step ((i:Int),a)=some (.again (w64 ((i:Int)+1),a++(bif p l[i]then escC l[i]else [l[i]]))))
  (h2: ∀a,step ((l.length:Int),a)=some (.out a)):Mg step (0,acc)=some (.out (acc++encB p l)):=by
 refine ZR (fun z=> ∃(i:Nat) (a:Str),z=((i:Int),a)/\i<=l.length/\a.length<=acc.length+4*i/\a++encB p (l.drop i)=acc++encB p l) (fun z=>l.length - z.1.toNat) _ ?_ ⟨0,acc,rfl,by omega,by omega,rfl⟩;rintro _ ⟨i,a,rfl,hi,hal,he⟩;rcases Xc i l.length with h|h
 ·refine .inl ⟨_,h1 i a h (by omega),⟨i+1,_,by rw[Zh (by omega) (by omega)];rfl,by omega,?_,?_⟩,by simp only;rw[Zh (by omega) (by omega)];omega⟩
  ·have:=Dw l[i]
   grind
  ·rw[<-he,zC8 h,La]
 ·have:i=l.length:=by omega
  subst this;refine .inr (.inl ⟨_,h2 a,?_⟩);rw[<-he,Pe (Xa _)];rw[show encB p []=[] by rw[encB],Va]
theorem LG{l acc:Str}{k:Nat}(d:l.length<=100000)(b:acc.length<=100000000):qj ((l,(k:Int)),acc)=some (acc++encW (ah k l) k l):=by
 unfold qj;rw[qY (WK (dash:=ah k l) (k:=k) (l:=l) (acc:=acc) d b (fun i a f b=> ?_) (fun a=> ?_))]
 ·have g:decide ((i:Int)<(l.length:Int))=true:=Ia (by omega);have e:geti l (i:Int)=some l[i]:=Zq f;have j:decide ((i:Int)>=(k:Int))=(k - i==0):=by
   by_cases h:k<=i
   ·grind
   ·grind
  have m:((k:Int)==0)=(k==0):=by
   by_cases h:k=0
   ·subst h;rfl
   ·grind
  simp only[g,Ca,e,j,m,zb,Aa,yK,YF];have c:(bif k==0 then true else !(l==[45]))= !ah k l:=by unfold ah;cases k==0<;>cases l==[45]<;>rfl
  rw[c];unfold pcW;cases letB l[i]with
  |false=>
   cases k - i==0<;>simp only[zo,ja,Ua,Rc,Nb,Pb,Ca,Ba,Aa,Om l[i] (show a.length<=1000000000 by omega),zh]
  |true=> cases k - i==0<;>cases digB l[i]<;>cases ah k l<;>simp only[zo,ja,Ua,Rc,Nb,Pb,Hf,Fe,ma,Uc,Yd,Ca,Ba,Aa,Fv,zB (Pg (show a.length+1<=2000000000 by omega)),Om l[i] (show a.length<=1000000000 by omega),zh]
 grind
theorem R3(l:Str):ah (QT l) l=(l==[45]):=by unfold ah QT;split<;>rfl
theorem au{l acc:Str}(a:l.length<=100000)(b:acc.length<=100000000):qj ((l,((QT l:Nat):Int)),acc)=some (acc++ZT l):=by rw[LG a b,R3];rfl
theorem zCF{n:Nat}{b:Str}(c:n<=1000000000000)(d:b.length<=100000):Mo (((n:Int),10),b)=some (b++Lib.decDigits n):=by have a:short b=true:=Ia (by omega);unfold Mo;simp only[a,Pb,Db,decide_true,ma];rw[Ia (by omega),Ia (by omega)];rfl
theorem pR{m:Nat}(n:m<=1000000000000)(p:Bool)(b:Str)(o:b.length<=90000):
  ((Mo ((w64 (Int.tdiv (m:Int) 1000),10),b)).bind fun a=>(Co (w64 (1000+Int.tmod (m:Int) 1000),10)).bind fun d=>need (decide (1<=(d.length:Int)))<|
   (Rl (List.drop 1 d,[48])).bind fun c=>zK (X:=List UInt8) (R:=List UInt8) (bif !(c==[])then need (zH a.length 1 1)<|need (zH (a++[(46:UInt8)]).length c.length 1)<|some (LX.out (a++[(46:UInt8)]++c))else bif p then need (zH a.length ([46,48]:Str).length 1)<|some (LX.out (a++([46,48]:Str)))else some (LX.out a)) fun l=>some l)=some (b++Ag m p):=by
 have k:w64 (Int.tdiv (m:Int) 1000)=((m / 1000:Nat):Int):=by rw[show Int.tdiv (m:Int) 1000=((m / 1000:Nat):Int)from rfl,Zh (by omega) (by omega)]
 have j:w64 (1000+Int.tmod (m:Int) 1000)=((1000+m%1000:Nat):Int):=by rw[show Int.tmod (m:Int) 1000=((m%1000:Nat):Int)from rfl,Zh (by omega) (by omega)];omega
 have f:m%1000<1000:=by omega
 rw[k,j];have i:Co (((1000+m%1000:Nat):Int),10)=some (49::[d48 (m%1000 / 100),d48 (m%1000 / 10%10),d48 (m%1000%10)]):=by unfold Co i64B;simp only[decide_true,ma];rw[Ia (by omega),Ia (by omega)];rw[<-zAb f];show some (Lib.itoa _)=_;unfold Lib.itoa;rw[Ga (by omega),Db]
 have e:=GH (u:=m / 1000) (by omega);rw[zCF (by omega) (by omega),Aa,i,Aa,zB (Ia (by simp))];have g:Rl (List.drop 1 (49::[d48 (m%1000 / 100),d48 (m%1000 / 10%10),d48 (m%1000%10)]),[48])=some (yh (m%1000)):=rfl;rw[g,Aa,sZ];have h:=EG _ f;simp only[Ty,Ea,Ib]at h;unfold Ag Al;cases (yh (m%1000)).isEmpty with
 |true=>
  simp only[ja,Ba,Ca];cases p with
  |true=>rw[Ca,zB (uj (by grind) (by omega)),zh,La];rfl
  |false=>simp_all
 |false=> simp only[Ua,Ba,Ca];rw[zB (uj (by grind) (by omega)),zB (uj (by grind) (by omega)),zh,La,La];rfl
theorem RH{n:Int}(d: -1000000000000<=n)(h2:n<=1000000000000)(p:Bool){acc:Str}(c:acc.length<=80000):qw ((n,p),acc)=some (acc++numT n p):=by
 unfold qw numT;simp only[zb];by_cases a:n<0
 ·obtain⟨m,rfl⟩: ∃m:Nat,n= -(m:Int):=⟨n.natAbs,by omega⟩;rw[Ia a,Ca,zB (uj (by omega) (by omega)),zh,Ha a];simp only;have b:w64 (0 - -(m:Int))=(m:Int):=by rw[show(0 - -(m:Int))=(m:Int) by omega,Zh (by omega) (by omega)]
  rw[b,Int.natAbs_neg,Int.natAbs_natCast,<-La];exact pR (by omega) p (acc++[45]) (by grind)
 ·obtain⟨m,rfl⟩: ∃m:Nat,n=(m:Int):=⟨n.toNat,by omega⟩;rw[Ya a,Ba,zh,Ga a];simp only;rw[Int.natAbs_natCast,Ob];exact pR (by omega) p acc (by omega)
theorem zDp: ∀n:Nat,n<256->(ibOr IntKind.u8 (n:Int) 32==101)=(UInt8.ofNat n==101||UInt8.ofNat n==69):=by decide+kernel
theorem zDo(c:UInt8):(ibOr IntKind.u8 (c.toNat:Int) 32==101)=(c==101||c==69):=by have:=zDp c.toNat (Eb c);simp_all
theorem zD0(c:UInt8):decide (Lib.indexByte [10,12,13,34,92] c.toNat.toUInt8>=0)=quoB c:=by
 have: ∀n:Nat,n<256->decide (Lib.indexByte [10,12,13,34,92] n.toUInt8>=0)=quoB (UInt8.ofNat n):=by decide+kernel
 have:=this c.toNat (Eb c);simp_all
theorem zEh(c:UInt8):(decide ((c.toNat:Int)<=32)||decide (Lib.indexByte [34,39,40,41,92,127] c.toNat.toUInt8>=0))=urB c:=by
 have: ∀n:Nat,n<256->(decide ((n:Int)<=32)||decide (Lib.indexByte [34,39,40,41,92,127] n.toUInt8>=0))=urB (UInt8.ofNat n):=by decide+kernel
 have:=this c.toNat (Eb c);simp_all
theorem K5 {t:ze} (h:yf t=true) (e:(t.kind==1)=false) (h2:(t.kind==2)=false) (g:(t.kind==3)=false) (d:(t.kind==4)=false) (i:(t.kind==5)=false) (j:(t.kind==7)=false) (f:(t.kind==9)=false)
  (c:(t.kind==10)=false) (b:(t.kind==11)=false) (a:(t.kind==12)=false):13<=t.kind/\t.kind<=24:=by
 unfold yf at h
 grind
theorem zAN: ∀n:Nat,n<12->(Rs ()).bind (fun a=>geti [a.e0,a.e1,a.e2,a.e3,a.e4,a.e5,a.e6,a.e7,a.e8,a.e9,a.e10,a.e11] (wu8 ((13+n:Int) - 13)))=some (Dl (13+n:Int)):=by decide+kernel
theorem iO(k:Int):(Dl k).length<=4:=by
 unfold Dl;cases k==13<;>cases k==14<;>cases k==15<;>simp only[Ca,Ba]<;>try (simp;done)
 grind
theorem zBw{t:ze}{acc:Str}(x:yf t=true)(R:t.text.length<=5000)(h2:t.unit.length<=5000)(ha:acc.length<=60000):Wm (t,acc)=some (acc++txS t):=by
 have one: ∀q:Str,q.length<=90000->zH q.length 1 1=true:=fun q hq=>uj (by omega) (by omega);have z: ∀l:Str,l.length<=5000->(ZT l).length<=20000:=fun l hl=>by have:=Io (l==[45]) (QT l) l;unfold ZT;omega
 unfold Wm txS;simp only[zb];cases H:t.kind==1 with
 |true=>simp only[Ca,Sr,Aa,au (show t.text.length<=100000 by omega) (show acc.length<=100000000 by omega)]
 |false=>
 cases L:t.kind==2 with
 |true=> simp only[Ca,Ba,Sr,Aa,au (show t.text.length<=100000 by omega) (show acc.length<=100000000 by omega)];have:=z t.text R;rw[zB (one _ (by grind)),La]
 |false=>
 cases M:t.kind==3 with
 |true=> simp only[Ca,Ba,Sr,Aa];rw[zB (one _ (by omega)),au (by omega) (by grind),La];rfl
 |false=>
 cases Q:t.kind==4 with
 |true=>
  simp only[Ca,Ba,Sr,Aa];cases t.flag with
  |true=> simp only[Ca,zh];rw[zB (one _ (by omega)),au (by omega) (by grind),La];rfl
  |false=> simp only[Ba,zh];rw[zB (one _ (by omega)),show(0:Int)=((0:Nat):Int)from rfl,LG (by omega) (by grind),La];rfl
 |false=>
 cases P:t.kind==5 with
 |true=>
  simp only[Ca,Ba];have k:maxLen=9223372036854775807:=rfl;rw[zB (one _ (by omega)),zB (Ia (by omega))];have C:=kv quoB t.text;rw[qY (OP (p:=quoB) (l:=t.text) (acc:=acc++[34]) (by omega) (by grind) (fun i a F y=> ?_) (fun a=> ?_))]
  ·rw[zB (one _ (by grind)),La,La];rfl
  ·have D:decide ((i:Int)<(t.text.length:Int))=true:=Ia (by omega);have A:decide ((0:Int)<=(i:Int))=true:=Ia (by omega);simp only[D,A,Pb,Ca,zX,Db,Ta F,Aa,Lt,zD0];cases quoB t.text[i]with
   |true=>simp only[Ca,Om _ (show a.length<=1000000000 by omega),Aa,zh]
   |false=>simp only[Ba,Fv,Aa,zB (Pg (show a.length+1<=2000000000 by omega)),zh]
  ·grind
 |false=>
 cases O:t.kind==7 with
 |true=>
  simp only[Ca,Ba];have k:maxLen=9223372036854775807:=rfl;rw[zB (uj (by grind) (by omega)),zB (Ia (by omega))];have C:=kv urB t.text;rw[qY (OP (p:=urB) (l:=t.text) (acc:=acc++[117,114,108,40]) (by omega) (by grind) (fun i a F y=> ?_) (fun a=> ?_))]
  ·rw[zB (one _ (by grind)),La,La]
  ·have D:decide ((i:Int)<(t.text.length:Int))=true:=Ia (by omega);have A:decide ((0:Int)<=(i:Int))=true:=Ia (by omega);simp only[D,A,Pb,Ca,zX,Db,Ta F,Aa,Lt];rw[<-zEh];cases decide ((t.text[i].toNat:Int)<=32)with
   |true=>simp only[ja,Zb,Aa,Ca,Yd,Om _ (show a.length<=1000000000 by omega),zh]
   |false=>
    simp only[Ua,zx,Aa,Ba,Uc];cases decide (Lib.indexByte [34,39,40,41,92,127] t.text[i].toNat.toUInt8>=0)with
    |true=>simp only[Ca,Om _ (show a.length<=1000000000 by omega),Aa,zh]
    |false=>simp only[Ba,Fv,Aa,zB (Pg (show a.length+1<=2000000000 by omega)),zh]
  ·grind
 |false=>
 cases N:t.kind==9 with
 |true=> simp only[Ca,Ba];rw[zB (uj (by omega) (by omega))]
 |false=>
 have g:(t.kind==10||t.kind==11||t.kind==12)=true->rngS t=true/\(!(t.unit==[])==(t.kind==12))=true:=by intro Z;unfold yf at x;simp only[H,L,M,Q,P,O,N,Z,Bool.or_self,Ba,Ca,Ea]at x;exact⟨x.1,x.2.1⟩
 have b:rngS t=true-> -1000000000000<=t.num/\t.num<=1000000000000:=by intro j;unfold rngS at j;simp only[Ea,Ib]at j;exact⟨j.1,j.2.1⟩
 cases s:t.kind==10 with
 |true=> obtain⟨u,w⟩:=b (g (by rw[s];rfl)).1;simp only[Ca,Ba,RH u w _ (show acc.length<=80000 by omega),Aa]
 |false=>
 cases E:t.kind==11 with
 |true=>
  obtain⟨u,w⟩:=b (g (by grind)).1;have T:(numT t.num false).length<=25:=by
   have:=WA (m:=t.num.natAbs) (by omega) false;unfold numT;rw[Ka];split
   ·grind
   ·grind
  simp only[Ca,Ba,RH u w _ (show acc.length<=80000 by omega),Aa];rw[zB (one _ (by grind)),La]
 |false=>
 cases o:t.kind==12 with
 |true=>
  obtain⟨j,X⟩:=g (by grind);obtain⟨u,w⟩:=b j;rw[o]at X;have T:(numT t.num (!t.flag)).length<=25:=by
   have:=WA (m:=t.num.natAbs) (by omega) (!t.flag);unfold numT;rw[Ka];split
   ·grind
   ·grind
  simp only[Ca,Ba,RH u w _ (show acc.length<=80000 by omega),Aa];cases G:t.unit with
  |nil=>grind
  |cons c r=>
   rw[G,Ja]at h2;have h:geti (c::r) 0=some c:=rfl;have B:List.drop 1 (c::r)=r:=rfl;have f:decide (1<=((c::r:Str).length:Int))=true:=Ia (by grind);simp only[h,B,f,Yd,zX,Aa,zDo,wT,Qr,Sr];have v:(acc++numT t.num (!t.flag)).length<=100000000:=by rw[Ka];omega
   have d:=au (l:=c::r) (acc:=acc++numT t.num (!t.flag)) (by grind) v;have e:jf (c::r)=(bif (c==101||c==69)&&numS r&& !(List.isPrefixOf [45,45] r)then escC c++encW false 0 r else ZT (c::r)):=rfl;rw[e];have Y:(c==101||c==69)=true->Zg ((c.toNat:Int),acc++numT t.num (!t.flag))=some (acc++numT t.num (!t.flag)++escC c):=fun _=>Om c (by grind);cases S:c==101||c==69 with
   |false=> simp_all
   |true=>
    simp only[zx,Aa,Ca,ma];cases J:numS r with
    |false=> simp_all
    |true=>
     simp only[zx,Aa,Ca,ma];cases hp:List.isPrefixOf [45,45] r with
     |true=> simp only[ja,Ba,d,Aa];rw[La]
     |false=> simp only[Ua,Ca,Y S,Aa];have K:=Dw c;rw[show(0:Int)=((0:Nat):Int)from rfl,LG (by omega) (by rw[Ka,Ka];omega)];rw[La,La];rfl
 |false=>
 obtain⟨W,V⟩:=K5 x H L M Q P O N s E o;obtain⟨n,J⟩: ∃n:Nat,t.kind=13+(n:Int):=⟨(t.kind - 13).toNat,by omega⟩;have h:=zAN n (by omega);rw[<-J]at h;have k:=iO t.kind;simp only[Ba];have U:Rs ()=some ⟨[32],[60,33,45,45],[45,45,62],[58],[59],[44],[91],[93],[40],[41],[123],[125]⟩:=rfl;rw[U]at h ⊢;simp only[Aa]at h ⊢;rw[h];simp only[Aa];rw[zB (uj (by omega) (by omega))]
theorem mo{c:UInt8}(h0:c≠0)(h:c.toNat<128)(R:Str): ∃d t,escC c++R=92::d::t/\(d==10)=false/\zt (d::t)=([c],R):=by
 unfold escC;cases hg:decide (32<c.toNat)&&decide (c.toNat<127)&& !digB c&& !alB c with
 |true=>
  have hx:Qz c=false/\(c==10)=false:=by
   have: ∀n:Nat,n<256->(decide (32<(UInt8.ofNat n).toNat)&&decide ((UInt8.ofNat n).toNat<127)&& !digB (UInt8.ofNat n)&& !alB (UInt8.ofNat n))=true->Qz (UInt8.ofNat n)=false/\(UInt8.ofNat n==10)=false:=by decide+kernel
   have:=this c.toNat (Eb c);rw[Td]at this;exact this hg
  exact⟨c,R,rfl,hx.2,by show(if Qz c then _ else _)=_;grind⟩
 |false=> obtain⟨d,t,e,hd,h10⟩:=jG (n:=c.toNat) (Eb c) ([32]++R);refine⟨d,t,by grind,h10,?_⟩;have hh:=PL (n:=c.toNat) (Eb c) R;rw[show(32::R:Str)=[32]++R from rfl,e]at hh;show(if Qz d then(Og (hexes 6 0 (d::t)).1,unsp (hexes 6 0 (d::t)).2)else _)=_;rw[Ha hd,hh,bO h0 h];rfl
theorem zEj(n:Nat):Og n≠[]:=by
 unfold Og El
 grind
theorem J3(r:Str):(zt r).1≠[]:=by
 cases r with
 |nil=>show El≠[];decide
 |cons c r=>
  show(if Qz c then(Og (hexes 6 0 (c::r)).1,unsp (hexes 6 0 (c::r)).2)else([c],r)).1≠[];split
  ·exact zEj _
  ·simp
theorem iA{x:Str}(h:(zq x).1=[]):(zq x).2=x:=by
 cases x with
 |nil=>rw[qV]
 |cons c r=>
  rw[zR]at h ⊢;split
  ·grind
  ·rename_i b;rw[Ga b]at h;split
   ·rename_i a;rw[Ha a]at h;exact absurd (List.append_eq_nil_iff.1 h).1 (J3 r)
   ·rfl
theorem Wj{c:UInt8}{r:Str}(h:Zp (c::r)=true):c≠0/\Zp r=true:=by
 unfold Zp at h ⊢
 grind
theorem pG{dash:Bool}(R:Str): ∀(k:Nat) (l:Str),Zp l=true->(dash=true-> ∀c∈l,c.toNat<128)->zq (encW dash k l++R)=(l++(zq R).1,(zq R).2)
 |_,[],_,_=>by rw[encW];rfl
 |k,c::r,h,a=>by obtain⟨f,d⟩:=Wj h;rw[encW,La,jK f (fun e=>a e c (Ab ..)),pG R (k - 1) r d (fun e x b=>a e x (aa _ b))];rfl
theorem Vj{l:Str}(R:Str)(h:Zp l=true):zq (ZT l++R)=(l++(zq R).1,(zq R).2):=by refine pG R _ _ h (fun e c a=> ?_);simp_all
theorem XO{l:Str}(R:Str)(k:Nat)(h:Zp l=true):zq (encW false k l++R)=(l++(zq R).1,(zq R).2):=pG R k l h (fun e=>by cases e)
theorem XY(c:UInt8):(quoB c=true->c.toNat<128)/\(quoB c=false->(c==34)=false/\(c==10)=false/\(c==92)=false):=by
 have: ∀n:Nat,n<256->(quoB (UInt8.ofNat n)=true->(UInt8.ofNat n).toNat<128)/\(quoB (UInt8.ofNat n)=false->(UInt8.ofNat n==34)=false/\(UInt8.ofNat n==10)=false/\(UInt8.ofNat n==92)=false):=by decide+kernel
 have:=this c.toNat (Eb c);simp_all
theorem dN(x:Str): ∀(l:Str),Zp l=true->Za 34 (encB quoB l++34::x)=(some l,x)
 |[],_=>by rw[encB,Ob,Qu,Ha (by decide)]
 |c::r,h=>by
  obtain⟨f,k⟩:=Wj h;have m:=dN x r k;obtain⟨p,j⟩:=XY c;rw[encB,La];cases a:quoB c with
  |true=>
   obtain⟨d,t,o,n,b⟩:=mo f (p a) (encB quoB r++34::x);rw[Ca,o,Qu,Ga (by decide),Ga (by decide),Ha (by decide),show(d::t).isEmpty=false from rfl,Ga (by decide),show atS (d::t) 0=d from rfl,n,Ga (by decide),b]
   grind
  |false=> obtain⟨g,i,e⟩:=j a;rw[Ba,Tc,Qu,g,Ga (by decide),i,Ga (by decide),e,Ga (by decide),m];rfl
theorem xL(c:UInt8):(urB c=true->c.toNat<128)/\(urB c=false->(c==41)=false/\spB c=false/\(c==34||c==39||c==40||unB c)=false/\(c==92)=false/\(c==34)=false/\(c==39)=false):=by
 have: ∀n:Nat,n<256->(urB (UInt8.ofNat n)=true->(UInt8.ofNat n).toNat<128)/\(urB (UInt8.ofNat n)=false->(UInt8.ofNat n==41)=false/\spB (UInt8.ofNat n)=false/\(UInt8.ofNat n==34||UInt8.ofNat n==39||UInt8.ofNat n==40||unB (UInt8.ofNat n))=false/\(UInt8.ofNat n==92)=false/\(UInt8.ofNat n==34)=false/\(UInt8.ofNat n==39)=false):=by decide+kernel
 have:=this c.toNat (Eb c);simp_all
theorem bN(x:Str): ∀(l:Str),Zp l=true->urlS (encB urB l++41::x)=(some l,x)
 |[],_=>by rw[encB,Ob,ak,Ha (by decide)]
 |c::r,h=>by
  obtain⟨g,n⟩:=Wj h;have o:=bN x r n;obtain⟨s,k⟩:=xL c;rw[encB,La];cases a:urB c with
  |true=>
   obtain⟨d,t,q,p,e⟩:=mo g (s a) (encB urB r++41::x);have m:escS (92::d::t)=true:=by unfold escS;rw[show atS (92::d::t) 1=d from rfl,p];rfl
   rw[Ca,q,ak,Ga (by decide),Ga (by decide),m,Ga (by decide),Ha (by decide),e]
   grind
  |false=> obtain⟨i,j,f,b,_,_⟩:=k a;rw[Ba,Tc,ak,i,Ga (by decide),j,Ga (by decide),f,b,Nb,Fe,Ga (by decide),Ga (by decide),o];rfl
theorem zBH(x:Str)(l:Str)(h:Zp l=true):past spB (encB urB l++41::x)=encB urB l++41::x/\(atS (encB urB l++41::x) 0==34||atS (encB urB l++41::x) 0==39)=false:=by
 cases l with
 |nil=>exact⟨rfl,rfl⟩
 |cons c r=>
  obtain⟨b,q⟩:=Wj h;obtain⟨k,f⟩:=xL c;rw[encB,La];cases a:urB c with
  |true=> obtain⟨d,t,i,s,n⟩:=mo b (k a) (encB urB r++41::x);rw[Ca,i];exact⟨rfl,rfl⟩
  |false=> obtain⟨p,e,o,m,j,g⟩:=f a;rw[Ba,Tc];refine⟨by rw[past,e];rfl,?_⟩;show(c==34||c==39)=false;rw[j,g];rfl
theorem zDO{n:Int}{p:Bool}:(partT (n.natAbs%1000) p).isEmpty=((n.natAbs%1000==0)&& !p):=(Nk (r:=n.natAbs%1000) (by omega) p).2.2.2.2
def sgT(n:Int):Str:=if n<0 then [45]else []
theorem eu(n:Int)(p:Bool):numT n p=sgT n++(Lib.decDigits (n.natAbs / 1000)++dotS (if(partT (n.natAbs%1000) p).isEmpty then none else some (partT (n.natAbs%1000) p))):=by
 have h:=(Nk (r:=n.natAbs%1000) (by omega) p).2.2.2.1;unfold numT Ag sgT;rw[h];cases (partT (n.natAbs%1000) p).isEmpty with
 |true=>rfl
 |false=>rfl
theorem q2_T(n:Int)(p:Bool)(x:Str):Jf (numT n p++x)=past digB (dotS (if(partT (n.natAbs%1000) p).isEmpty then none else some (partT (n.natAbs%1000) p))++x):=by
 obtain⟨d,f,g⟩:=Br (n.natAbs / 1000);obtain⟨c,r,e,a⟩:=Aw (n.natAbs / 1000);rw[eu];generalize dotS _=t;unfold Jf;have b:unsign ((sgT n++(Lib.decDigits (n.natAbs / 1000)++t))++x)=Lib.decDigits (n.natAbs / 1000)++(t++x):=by
  unfold sgT;split
  ·rw[La,Tc,La];rfl
  ·rw[Ob,La,e,Ra];unfold unsign Xf;rw[show atS (c::(r++(t++x))) 0=c from rfl,Fa.2 (pg a).2.1,Fa.2 (pg a).1];rfl
 rw[b,GA _ _ d]
theorem IG{n:Int}{p:Bool}:(partT (n.natAbs%1000) p).all digB=true:=(Nk (r:=n.natAbs%1000) (by omega) p).1
theorem fF{n:Int}{p:Bool}(h:(partT (n.natAbs%1000) p).isEmpty=true)(x:Str):zP (numT n p++x)=(match expS (z8 (past digB x)).1 with|some r=>(r,false)|none=>z8 (past digB x)):=by rw[Ui,q2_T,h];rfl
theorem nD{n:Int}{p:Bool}(h:(partT (n.natAbs%1000) p).isEmpty=false)(x:Str):zP (numT n p++x)=(match expS (past digB x)with|some r=>(r,false)|none=>(past digB x,false)):=by
 obtain⟨c,r,b⟩: ∃c r,partT (n.natAbs%1000) p=c::r:=by
  cases f:partT (n.natAbs%1000) p with
  |nil=>grind
  |cons c r=>grind
 have a:=IG (n:=n) (p:=p);rw[Ui,q2_T,h];have e:past digB (dotS (some (partT (n.natAbs%1000) p))++x)=46::(partT (n.natAbs%1000) p++x):=rfl;rw[show(if false=true then none else some (partT (n.natAbs%1000) p))=some (partT (n.natAbs%1000) p)from rfl,e];have g:z8 (46::(partT (n.natAbs%1000) p++x))=(past digB x,false):=by
  have d:digB c=true:=by rw[b,xc,Ea]at a;exact a.1
  unfold z8;rw[show atS (46::(partT (n.natAbs%1000) p++x)) 1=c by rw[b];rfl,d,show(atS (46::(partT (n.natAbs%1000) p++x)) 0==46&&true)=true from rfl,Ha rfl];rw[show(46::(partT (n.natAbs%1000) p++x)).drop 1=partT (n.natAbs%1000) p++x from rfl,GA _ _ a]
 grind
theorem RV(n:Int)(p:Bool)(x:Str):nbS (numT n p++x)=true:=by
 obtain⟨c,r,b,a⟩:=Aw (n.natAbs / 1000);rw[eu,b];unfold nbS;have d:unsign ((sgT n++(c::r++dotS (if(partT (n.natAbs%1000) p).isEmpty then none else some (partT (n.natAbs%1000) p))))++x)=c::(r++dotS (if(partT (n.natAbs%1000) p).isEmpty then none else some (partT (n.natAbs%1000) p))++x):=by
  unfold sgT;split
  ·rfl
  ·unfold unsign Xf;show(if(c==43||c==45)then _ else _)=_;rw[Fa.2 (pg a).2.1,Fa.2 (pg a).1];rfl
 rw[d];unfold undot;rw[show atS (c::(r++dotS (if(partT (n.natAbs%1000) p).isEmpty then none else some (partT (n.natAbs%1000) p))++x)) 0=c from rfl,Fa.2 (pg a).2.2.1,Ga (by decide)];exact a
theorem ut{n:Int}(c: -1000000000000<=n)(h2:n<=1000000000000){p:Bool}{x:Str}(f:(zP (numT n p++x)).1=x):(numP (numT n p++x)).val=n:=by
 have h:=sG (numT n p++x);rw[f]at h;have b:=XD (RV n p x);have d:=(Iy c h2 p).1;have a:=p9 c h2 p;generalize numP (numT n p++x)=N at h b ⊢;have g:N.txt=numT n p:=(List.append_left_inj x).1 h;rw[<-g]at a d;have e:=DU b (Xb d (by decide));rw[a]at e
 grind
theorem Yn(n:Int)(p:Bool)(x:Str): ∃c r,numT n p++x=c::r/\(c==45||digB c)=true/\spB c=false/\(c==34||c==39)=false/\(c==35)=false/\c≠47:=by
 obtain⟨c,r,hc,hcd⟩:=Aw (n.natAbs / 1000);have key: ∀d:UInt8,(d==45||digB d)=true->spB d=false/\(d==34||d==39)=false/\(d==35)=false/\d≠47:=by
  intro d;have: ∀n:Nat,n<256->(UInt8.ofNat n==45||digB (UInt8.ofNat n))=true->spB (UInt8.ofNat n)=false/\(UInt8.ofNat n==34||UInt8.ofNat n==39)=false/\(UInt8.ofNat n==35)=false/\UInt8.ofNat n≠47:=by decide+kernel
  have:=this d.toNat (Eb d)
  rwa [Td]at this
 rw[eu,hc];unfold sgT
 grind
theorem Wn(n:Int)(p:Bool)(x:Str):Zo (numT n p++x)=zI (numT n p++x):=by obtain⟨c,r,e,g,f,d,b,h⟩:=Yn n p x;have a:=RV n p x;rw[e]at a ⊢;rw[wo,f,Ga (by decide),d,Ga (by decide),b,Nb,Ga (by decide),a,Ha rfl]
inductive zf3:ze->Prop
 |cId (l:Str) (h0:l≠[]) (h:Zp l=true):zf3 ⟨1,l,0,[],false⟩
 |cFn (l:Str) (h0:l≠[]) (h:Zp l=true):zf3 ⟨2,l,0,[],false⟩
 |cAt (l:Str) (h0:l≠[]) (h:Zp l=true):zf3 ⟨3,l,0,[],false⟩
 |cHash (l:Str) (f:Bool) (h0:l≠[]) (h:Zp l=true) (hb:f=true\/Yi l=true):zf3 ⟨4,l,0,[],f⟩
 |cStr (l:Str) (h:Zp l=true):zf3 ⟨5,l,0,[],false⟩
 |cUrl (l:Str) (h:Zp l=true):zf3 ⟨7,l,0,[],false⟩
 |cDel (c:UInt8) (h:Lh c.toNat=true):zf3 ⟨9,[c],0,[],false⟩
 |cNum (n:Int) (f:Bool) (h1: -1000000000000<=n) (h2:n<=1000000000000) (hf:f=true->Int.tmod n 1000=0):zf3 ⟨10,[],n,[],f⟩
 |cPct (n:Int) (h1: -1000000000000<=n) (h2:n<=1000000000000):zf3 ⟨11,[],n,[],false⟩
 |cDim (n:Int) (u:Str) (f:Bool) (h1: -1000000000000<=n) (h2:n<=1000000000000) (hf:f=true->Int.tmod n 1000=0) (h0:u≠[]) (h:Zp u=true):zf3 ⟨12,[],n,u,f⟩
 |cMark (k:Int) (h1:13<=k) (h2:k<=24):zf3 ⟨k,[],0,[],false⟩
theorem Pq{t:ze}(h:yf t=true):zf3 t:=by
 obtain⟨k,l,n,u,f⟩:=t;unfold yf at h;simp only at h;by_cases h1:(k==1||k==2||k==3)=true
 ·rw[h1,Ca]at h;simp only[Ea,Od,Fa,Jb]at h;obtain⟨a,b,rfl,rfl,rfl⟩:=h;simp only[Lc,Jb]at h1;rcases h1 with(rfl|rfl)|rfl
  ·exact .cId l a b
  ·exact .cFn l a b
  ·exact .cAt l a b
 ·rw[Bool.not_eq_true]at h1;rw[h1,Ba]at h;by_cases h4:(k==4)=true
  ·rw[h4,Ca]at h;simp only[Ea,Od,Fa,Jb,Lc]at h;obtain⟨a,b,c,rfl,rfl⟩:=h;rw[Jb]at h4;subst h4;exact .cHash l f a b c
  ·rw[Bool.not_eq_true]at h4;rw[h4,Ba]at h;by_cases h5:(k==5||k==7)=true
   ·rw[h5,Ca]at h;simp only[Ea,Od,Jb]at h;obtain⟨b,rfl,rfl,rfl⟩:=h;simp only[Lc,Jb]at h5;rcases h5 with rfl|rfl
    ·exact .cStr l b
    ·exact .cUrl l b
   ·rw[Bool.not_eq_true]at h5;rw[h5,Ba]at h;by_cases h9:(k==9)=true
    ·rw[h9,Ca]at h;simp only[Ea,Od,Jb]at h;obtain⟨b,rfl,rfl,rfl⟩:=h;rw[Jb]at h9;subst h9;unfold delS at b;split at b
     ·exact .cDel _ b
     ·cases b
    ·rw[Bool.not_eq_true]at h9;rw[h9,Ba]at h;by_cases h10:(k==10||k==11||k==12)=true
     ·rw[h10,Ca]at h;unfold rngS at h;simp only[Ea,Ib,Lc,Od,Jb]at h;obtain⟨⟨a1,a2,a3⟩,a4,a5,a6,rfl⟩:=h;have hf:f=true->Int.tmod n 1000=0:=by
       intro e;rcases a3 with a3|a3
       ·grind
       ·exact a3
      simp only[Lc,Jb]at h10;rcases h10 with(rfl|rfl)|rfl
      ·have:u=[]:=by
        cases u with
        |nil=>rfl
        |cons c r=>grind
       subst this;exact .cNum n f a1 a2 hf
      ·have:u=[]:=by
        cases u with
        |nil=>rfl
        |cons c r=>grind
       subst this;have:f=false:=by
        rcases a6 with a6|a6
        ·grind
        ·exact a6
       subst this;exact .cPct n a1 a2
      ·have:u≠[]:=by rintro rfl;exact absurd a4 (by decide)
       exact .cDim n u f a1 a2 hf this a5
     ·rw[Bool.not_eq_true]at h10;rw[h10,Ba]at h;simp only[Ea,Od,Ib,Jb]at h;obtain⟨⟨a1,a2⟩,rfl,rfl,rfl,rfl⟩:=h;exact .cMark k a1 a2
def neu(x:Str):Prop:=x=[]\/ ∃y,x=47::y
theorem zEE{x:Str}(a:neu x)(c:UInt8)(r:Str):brS c (r++x)=brS c r:=by
 rcases a with rfl|⟨y,rfl⟩
 ·grind
 ·exact rV c r y
theorem Yy{x:Str}(a:neu x)(q:Str):nmS (q++x)=nmS q:=by
 rcases a with rfl|⟨y,rfl⟩
 ·grind
 ·exact Eu q y
theorem jA{x:Str}(a:neu x):zq x=([],x):=by
 rcases a with rfl|⟨y,rfl⟩
 ·exact qV
 ·rw[zR,Ga (by decide),show escS (47::y)=false from rfl,Ga (by decide)]
theorem BN{p:UInt8->Bool}(h:p 47=false){x:Str}(a:neu x):past p x=x:=by
 rcases a with rfl|⟨y,rfl⟩
 ·rfl
 ·rw[past,h];rfl
theorem zEz{x:Str}(a:neu x):atS x 0=0\/atS x 0=47:=by
 rcases a with rfl|⟨y,rfl⟩
 ·exact .inl rfl
 ·exact .inr rfl
theorem I1(c:UInt8)(r:Str):Bj (c::r)=((c==101||c==69)&&numS r&& !(List.isPrefixOf [45,45] r)):=rfl
theorem LY(b:UInt8)(r:Str):numS (b::r)=bif b==45 then !(r==[])&&digN (r.headD 0).toNat else digN b.toNat:=rfl
theorem wH{c:UInt8}{r:Str}(h:Bj (c::r)=true):c=101\/c=69:=by
 unfold Bj at h
 grind
theorem zAk{d:UInt8}{t:Str}(h:(d==10)=false):escS (92::d::t)=true:=by unfold escS;rw[show atS (92::d::t) 1=d from rfl,h];rfl
theorem Js(c:UInt8)(r:Str):jf (c::r)=bif Bj (c::r)then escC c++encW false 0 r else ZT (c::r):=rfl
theorem IB{w:Str}(f:w≠[])(h:Zp w=true)(x:Str):zq (jf w++x)=(w++(zq x).1,(zq x).2):=by
 cases w with
 |nil=>grind
 |cons c r=>
  obtain⟨a,e⟩:=Wj h;rw[Js];cases b:Bj (c::r)with
  |true=>
   have d:c.toNat<128:=by rcases wH b with rfl|rfl<;>decide
   rw[Ca,La,gN a d,XO x 0 e];rfl
  |false=>rw[Ba];exact Vj x h
theorem ny{w:Str}(i:w≠[])(h:Zp w=true):nmS (jf w)=true:=by
 cases w with
 |nil=>grind
 |cons c r=>
  obtain⟨a,j⟩:=Wj h;rw[Js];cases e:Bj (c::r)with
  |true=>
   have f:c.toNat<128:=by rcases wH e with rfl|rfl<;>decide
   obtain⟨d,t,b,g,_⟩:=mo a f (encW false 0 r);rw[Ca,b];exact dW rfl (zAk g)
  |false=>rw[Ba];exact Oi (by simp)
theorem Xi{q:Str}(h:nmS q=true):q≠[]:=by rintro rfl;exact absurd h (by decide)
theorem Az{q:Str}(h:nmS q=true)(x:Str):past digB (q++x)=q++x/\z8 (q++x)=(q++x,true):=by
 obtain⟨_,_,_,_,_,_,_,_,b,a,_⟩:=Oq (Ym h);cases q with
 |nil=>exact absurd rfl (Xi h)
 |cons c r=> refine⟨by rw[Ra,past,show digB c=false from a];rfl,?_⟩;unfold z8;rw[show atS ((c::r)++x) 0=c from rfl,show(c==46)=false from b];rfl
theorem jF{w:Str}(h0:w≠[])(h:Zp w=true)(x:Str):expS (jf w++x)=none\/ ∃e s,(e=101\/e=69)/\(s=[]\/s=[45])/\w=e::s/\jf w=e::s:=by
 cases w with
 |nil=>grind
 |cons c r=>
  obtain⟨h1,h2⟩:=Wj h;have he92: ∀t:Str,expS (92::t)=none:=fun t=>rfl;cases he:Bj (c::r)with
  |true=>
   left;have hc:c.toNat<128:=by rcases wH he with rfl|rfl<;>decide
   obtain⟨d,t,e1,e2,_⟩:=mo h1 hc (encW false 0 r++x);have:jf (c::r)++x=92::d::t:=by rw[Js,he,Ca,La,e1]
   grind
  |false=>
   have hu:jf (c::r)=ZT (c::r):=by rw[Js,he,Ba]
   rw[hu];have hn:ZT (c::r)=pcW ((c::r:Str)==[45]) (QT (c::r)) c++encW ((c::r:Str)==[45]) (QT (c::r) - 1) r:=rfl;obtain⟨d,t,e,hd⟩:=EA (dash:=(c::r:Str)==[45]) (k:=QT (c::r)) (by unfold QT;split<;>omega) c (encW ((c::r:Str)==[45]) (QT (c::r) - 1) r);rw[hn,e];rcases hd with⟨rfl,h3⟩|⟨rfl,h3,h4,h5,h6⟩
   ·grind
   ·by_cases hee:d=101\/d=69
    ·have hf:QT (d::r)=1:=by rcases hee with rfl|rfl<;>rfl
     have hdash:((d::r:Str)==[45])=false:=h3;rw[hdash,hf]at h6;have h6':t=encW false 0 r:=h6;have hee':(d==101||d==69)=true:=by rcases hee with rfl|rfl<;>rfl
     cases r with
     |nil=>
      right;rw[encW]at h6'
      grind
     |cons d2 r2=>
      obtain⟨g1,g2⟩:=Wj h2;have hnum:numS (d2::r2)=false:=by
       cases hq:numS (d2::r2)with
       |false=>rfl
       |true=>
        exfalso;rw[I1,hee',hq,ma,ma]at he;have hp:List.isPrefixOf [45,45] (d2::r2)=true:=by
         cases hh:List.isPrefixOf [45,45] (d2::r2)with
         |true=>rfl
         |false=>grind
        obtain⟨z,hz⟩:=Ef.1 hp;rw[<-hz]at hq;exact absurd hq (by show numS (45::45::z)≠true;unfold numS;simp[digN])
      have hgoal: ∀q:Str,digB (atS (unsign q) 0)=false->expS (d::q)=none:=by intro q hq;rw[si];show((d==101||d==69)&&digB (atS (unsign q) 0))=false;rw[hq,Rc]
      have hpc:encW false 0 (d2::r2)=pcW false 0 d2++encW false 0 r2:=rfl;by_cases h45:d2=45
      ·subst h45;have hp1:pcW false 0 45=[45]:=rfl;cases r2 with
       |nil=>
        right;rw[hpc,hp1,encW]at h6'
        grind
       |cons d3 r3=>
        left;obtain⟨k1,k2⟩:=Wj g2;have hdg:digB d3=false:=by
         have:digN d3.toNat=false:=by have:=hnum;unfold numS at this;simpa using this
         exact this
        rw[Ra];refine hgoal _ ?_;rw[h6',hpc,hp1];show digB (atS (encW false 0 (d3::r3)++x) 0)=false;rw[show encW false 0 (d3::r3)=pcW false 0 d3++encW false 0 r3 from rfl];unfold pcW;cases hl:letB d3 with
        |true=>exact hdg
        |false=>
         rw[Nb,Nb,Ba];have hc:d3.toNat<128:=by
          by_cases hc:d3.toNat<128
          ·exact hc
          ·rw[(VE hc).1]at hl;cases hl
         obtain⟨d4,t4,e4,_,_⟩:=mo k1 hc (encW false 0 r3++x);rw[La,e4];rfl
      ·left;have hdg:digB d2=false:=by
        have:digN d2.toNat=false:=by have:=hnum;rw[LY,Fa.2 h45,Ba]at this;exact this
        exact this
       rw[Ra];refine hgoal _ ?_;rw[h6',hpc];unfold pcW;cases hl:letB d2 with
       |true=>
        have hs:Xf d2=false:=by unfold Xf;rw[Fa.2 h45,Fe,Fa];rintro rfl;exact absurd hl (by decide)
        show digB (atS (if Xf d2 then _ else d2::_) 0)=false;rw[hs,Ga (by decide)];exact hdg
       |false=>
        rw[Nb,Nb,Ba];have hc:d2.toNat<128:=by
         by_cases hc:d2.toNat<128
         ·exact hc
         ·rw[(VE hc).1]at hl;cases hl
        obtain⟨d4,t4,e4,_,_⟩:=mo g1 hc (encW false 0 r2++x);rw[La,e4];rfl
    ·left;rw[si];have:(d==101||d==69)=false:=by rw[Oc,Fa,Fa];exact not_or.1 hee
     rw[Ra,show atS (d::(t++x)) 0=d from rfl,this,Nb]
theorem dR{w:Str}(d:w≠[])(h:Zp w=true){x:Str}(a:neu x):expS (jf w++x)=none:=by
 rcases jF d h x with c|⟨e,s,i,b,_,f⟩
 ·exact c
 ·rw[f,si];have g:digB (atS (unsign (s++x)) 0)=false:=by
   rcases b with rfl|rfl
   ·rcases a with rfl|⟨y,rfl⟩<;>rfl
   ·rcases a with rfl|⟨y,rfl⟩<;>rfl
  grind
theorem Hw{n:Int}{f:Bool}(a:f=true->Int.tmod n 1000=0):(partT (n.natAbs%1000) (!f)).isEmpty=f:=by
 rw[zDO,Bool.not_not];cases f with
 |false=>grind
 |true=>
  grind
theorem Sq{n:Int}{p:Bool}{z:Str}(b:past digB z=z)(h2:z8 z=(z,true))(a:expS z=none):zP (numT n p++z)=(z,(partT (n.natAbs%1000) p).isEmpty):=by
 cases c:(partT (n.natAbs%1000) p).isEmpty with
 |true=>rw[fF c,b,h2];simp only[a]
 |false=>rw[nD c,b];simp only[a]
theorem zDA{x:Str}(a:neu x):past digB x=x/\z8 x=(x,true)/\expS x=none:=by
 rcases a with rfl|⟨y,rfl⟩
 ·exact⟨rfl,rfl,rfl⟩
 ·exact⟨rfl,rfl,rfl⟩
theorem J4{q:Str}(h:[45,45,62].isPrefixOf q=true): ∃t,(zq q).2=62::t:=by obtain⟨t,rfl⟩:=Ef.1 h;refine⟨t,?_⟩;rw[show [45,45,62]++t=45::45::62::t from rfl,zR,Ha (by decide),zR,Ha (by decide),zR,Ga (by decide),Ga (by unfold escS;rw[show atS (62::t) 0=62 from rfl];simp)]
theorem Jv{c:UInt8}{r:Str}(h:nmS (c::r)=true)(u: ∀t,(zq (c::r)).2≠62::t):brS c r=7:=by
 obtain⟨i,b,g,d,f,p,a,v,s,l,k⟩:=Oq (Ym h);have o:[45,45,62].isPrefixOf (c::r)=false:=by
  cases j:[45,45,62].isPrefixOf (c::r)with
  |false=>rfl
  |true=>obtain⟨t,e⟩:=J4 j;grind
 have n:atS (c::r) 0=c:=rfl;rw[n]at i b g d f a;unfold brS;rw[i,Ga (by decide),b,g,Ga (by decide),d,Nb,Ga (by decide),NV h,Ga (by decide),o,Ga (by decide),nK (q:=c::r) (m:=[33,45,45]) (show(60:UInt8)≠0 by decide) a,Ga (by decide),f,Nb,Ga (by decide),h,Ha rfl]
theorem gK{q z:Str}(h:nmS q=true)(i:atS z 0≠10):nmS (q++z)=true:=by
 have b:(atS z 0==10)=false:=Fa.2 i
 match q with
 |[]=>exact absurd h (by decide)
 |[c]=>
  unfold nmS at h ⊢;have f:atS ([c]++z) 0=c:=rfl;rw[show atS [c] 0=c from rfl]at h;rw[f];cases a:c==45 with
  |true=>rw[a,Ha rfl]at h;exact absurd (show(fstB 0||(0:UInt8)==45||escS [])=true from h) (by decide)
  |false=> rw[a,Ga (by decide)]at h;rw[Ga (by decide)];unfold escS at h ⊢;rw[show atS [c] 0=c from rfl,show atS [c] 1=0 from rfl]at h;rw[f,show atS ([c]++z) 1=atS z 0 from rfl,b];exact h
 |c::d::t=>
  unfold nmS at h ⊢;have f:atS ((c::d::t)++z) 0=c:=rfl;have g:atS ((c::d::t)++z) 1=d:=rfl;have j:((c::d::t)++z).drop 1=(d::t)++z:=rfl;rw[show atS (c::d::t) 0=c from rfl,show atS (c::d::t) 1=d from rfl,show(c::d::t:Str).drop 1=d::t from rfl]at h;rw[f,g,j];cases a:c==45 with
  |true=>
   rw[a,Ha rfl]at h;rw[Ha rfl];cases t with
   |nil=> unfold escS at h ⊢;rw[show atS [d] 0=d from rfl,show atS [d] 1=0 from rfl]at h;rw[show atS ([d]++z) 0=d from rfl,show atS ([d]++z) 1=atS z 0 from rfl,b];exact h
   |cons e t=>exact h
  |false=> rw[a,Ga (by decide)]at h;rw[Ga (by decide)];exact h
theorem KG(x:Str):zq (40::x)=([],40::x):=by rw[zR,Ga (by decide),Ga (by unfold escS;rw[show atS (40::x) 0=40 from rfl];simp)]
theorem TL{l:Str}(h:Zp l=true)(x:Str):zq (ZT l++40::x)=(l,40::x):=by rw[Vj _ h,KG,Va]
theorem Bh{q:Str}(h:q≠[]): ∃c r,q=c::r:=by
 cases q with
 |nil=>grind
 |cons c r=>grind
def ag(f:Bool)(l:Str):Str:=bif f then ZT l else encW false 0 l
theorem WH{f:Bool}{l:Str}(h:Zp l=true)(x:Str):zq (ag f l++x)=(l++(zq x).1,(zq x).2):=by
 cases f with
 |true=>exact Vj x h
 |false=>exact XO x 0 h
theorem tO{f:Bool}{l:Str}(h0:l≠[])(h:Zp l=true)(hb:f=true\/Yi l=true):(letB (atS (ag f l) 0)||escS (ag f l))=true/\(f=true->nmS (ag f l)=true)/\(f=false->nmS (ag f l)=false):=by
 cases f with
 |true=>
  have hn:=Oi h0;obtain⟨c,r,e⟩:=Bh (Xi hn);refine⟨?_,fun _=>hn,fun e=>by cases e⟩;show(letB (atS (ZT l) 0)||escS (ZT l))=true;rw[e]at hn ⊢;rcases MN hn with h1|h1
  ·rw[show letB (atS (c::r) 0)=true from h1];rfl
  ·grind
 |false=>
  have hb':Yi l=true:=by rcases hb with hb|hb;cases hb;exact hb
  cases l with
  |nil=>grind
  |cons c r=>
   have hw:ag false (c::r)=pcW false 0 c++encW false 0 r:=rfl;have hb2:(digN c.toNat||(c==45&&(r==[]||digN (r.headD 0).toNat)))=true:=hb';by_cases h45:c=45
   ·subst h45;rw[hw,show pcW false 0 45=[45]from rfl];refine⟨rfl,fun e=>by(cases e),fun _=> ?_⟩;cases r with
    |nil=>rfl
    |cons d t=>
     have hd:digB d=true:=hb2;have hp:pcW false 0 d=[d]:=by
      unfold pcW;have:letB d=true:=by unfold letB;rw[hd,Hf];rfl
      rw[this];rfl
     rw[show encW false 0 (d::t)=pcW false 0 d++encW false 0 t from rfl,hp];have hk: ∀n:Nat,n<256->digB (UInt8.ofNat n)=true->fstB (UInt8.ofNat n)=false/\(UInt8.ofNat n==45)=false/\(UInt8.ofNat n==92)=false:=by decide+kernel
     have:=hk d.toNat (Eb d);rw[Td]at this;obtain⟨k1,k2,k3⟩:=this hd;show(fstB d||d==45||escS (d::(encW false 0 t)))=false;unfold escS;rw[k1,k2,show atS (d::encW false 0 t) 0=d from rfl,k3];rfl
   ·have hd:digB c=true:=by
     have:digN c.toNat=true:=by rw[Fa.2 h45,Nb,Fe]at hb2;exact hb2
     exact this
    have hl:letB c=true:=by unfold letB;rw[hd,Hf];rfl
    have hp:pcW false 0 c=[c]:=by unfold pcW;rw[hl];rfl
    rw[hw,hp];refine⟨by rw[show letB (atS ([c]++encW false 0 r) 0)=letB c from rfl,hl];rfl,fun e=>by(cases e),fun _=> ?_⟩;have hk: ∀n:Nat,n<256->digB (UInt8.ofNat n)=true->fstB (UInt8.ofNat n)=false/\(UInt8.ofNat n==45)=false/\(UInt8.ofNat n==92)=false:=by decide+kernel
    have:=hk c.toNat (Eb c);rw[Td]at this;obtain⟨k1,k2,k3⟩:=this hd;unfold nmS escS;rw[show atS ([c]++encW false 0 r) 0=c from rfl,k2,Ga (by decide),k1,k3];rfl
theorem FX(c:UInt8)(h:Lh c.toNat=true)(h2:c≠92):brS c []=8:=by
 have: ∀n:Nat,n<256->Lh (UInt8.ofNat n).toNat=true->UInt8.ofNat n≠92->brS (UInt8.ofNat n) []=8:=by decide+kernel
 have:=this c.toNat (Eb c);simp_all
theorem zDR(x:Str):past digB (37::x)=37::x/\z8 (37::x)=(37::x,true)/\expS (37::x)=none:=⟨rfl,rfl,rfl⟩
theorem WG{n:Int}{u:Str}{p:Bool}(x:Str):(numT n p++jf u)++x=numT n p++(jf u++x):=La ..
theorem JG{c:UInt8}{r x:Str}(a:neu x):Zo (c::(r++x))=nxB (brS c r) c (r++x):=by rw[qf,zEE a]
theorem PG{n:Int}(b: -1000000000000<=n)(h2:n<=1000000000000)(x:Str):Zo ((numT n false++[37])++x)=(⟨11,[],n,[],false⟩,x):=by rw[La,Tc];obtain⟨c,e,d⟩:=zDR x;have a:=Sq (n:=n) (p:=false) c e d;have f:=ut b h2 (p:=false) (x:=37::x) (by rw[a]);rw[Wn];unfold zI;rw[a,f,Ga (by unfold nmS escS;rw[show atS (37::x) 0=37 from rfl];simp[fstB,alB]),Ha (by rfl)];rfl
theorem bF{l:Str}(d:l≠[])(h:Zp l=true)(hu:(lowS l==[117,114,108])=false)(x:Str):Zo ((ZT l++[40])++x)=(⟨2,l,0,[],false⟩,x):=by rw[La,Tc];have b:=gK (z:=40::x) (Oi d) (by show(40:UInt8)≠10;decide);have a:=TL h x;obtain⟨c,r,e⟩:=Bh (Xi b);rw[e]at b a ⊢;rw[qf,Jv b (by grind),Gi];unfold qQ;rw[a];simp only;rw[Ha (by rfl),hu,Nb,Ga (by decide)];rfl
theorem vz{l:Str}(h:Zp l=true)(x:Str):Zo ((34::(encB quoB l++[34]))++x)=(⟨5,l,0,[],false⟩,x):=by rw[Ra,La,Tc,qf,show brS 34 (encB quoB l++34::x)=1 from rfl,Du,dN x l h];rfl
theorem gF{l:Str}(h:Zp l=true)(x:Str):Zo (([117,114,108,40]++(encB urB l++[41]))++x)=(⟨7,l,0,[],false⟩,x):=by
 have e:([117,114,108,40]++(encB urB l++[41]))++x=117::114::108::40::(encB urB l++41::x):=by simp
 obtain⟨c,b⟩:=zBH x l h;have a:zq (117::114::108::40::(encB urB l++41::x))=([117,114,108],40::(encB urB l++41::x)):=by rw[zR,Ha (by decide),zR,Ha (by decide),zR,Ha (by decide),KG]
 rw[e,qf,Jv (by rfl) (by grind),Gi];unfold qQ;rw[a];simp only;rw[Ha (by rfl),wu,show(40::(encB urB l++41::x)).drop 1=encB urB l++41::x from rfl,c,b,Ha (by decide),bN x l h];rfl
theorem rA{k:Int}(b:13<=k)(h2:k<=24)(x:Str):Zo (Dl k++x)=(⟨k,[],0,[],false⟩,if k=13 then past spB x else x):=by
 have a:k=13\/k=14\/k=15\/k=16\/k=17\/k=18\/k=19\/k=20\/k=21\/k=22\/k=23\/k=24:=by omega
 rcases a with rfl|rfl|rfl|rfl|rfl|rfl|rfl|rfl|rfl|rfl|rfl|rfl<;>rfl
theorem vk(l:Str):txS ⟨1,l,0,[],false⟩=ZT l:=by rw[txS];rfl
theorem aj(l:Str):txS ⟨2,l,0,[],false⟩=ZT l++[40]:=by rw[txS];rfl
theorem om(l:Str):txS ⟨3,l,0,[],false⟩=64::ZT l:=by rw[txS];rfl
theorem dn(l:Str)(f:Bool):txS ⟨4,l,0,[],f⟩=35::ag f l:=by rw[txS];rfl
theorem Ol(l:Str):txS ⟨5,l,0,[],false⟩=34::(encB quoB l++[34]):=by rw[txS];rfl
theorem Gn(l:Str):txS ⟨7,l,0,[],false⟩=[117,114,108,40]++(encB urB l++[41]):=by rw[txS];rfl
theorem Pn(c:UInt8):txS ⟨9,[c],0,[],false⟩=[c]:=by rw[txS];rfl
theorem Kn(n:Int)(f:Bool):txS ⟨10,[],n,[],f⟩=numT n (!f):=by rw[txS];rfl
theorem Jn(n:Int):txS ⟨11,[],n,[],false⟩=numT n false++[37]:=by rw[txS];rfl
theorem Nn(n:Int)(u:Str)(f:Bool):txS ⟨12,[],n,u,f⟩=numT n (!f)++jf u:=by rw[txS];rfl
theorem bn{k:Int}(b:13<=k)(h2:k<=24):txS ⟨k,[],0,[],false⟩=Dl k:=by
 have a:k=13\/k=14\/k=15\/k=16\/k=17\/k=18\/k=19\/k=20\/k=21\/k=22\/k=23\/k=24:=by omega
 rcases a with rfl|rfl|rfl|rfl|rfl|rfl|rfl|rfl|rfl|rfl|rfl|rfl<;>rfl
theorem zCO{t:ze}(h:zf3 t)(hb: ¬(t.kind=9/\t.text=[92]))(hu:Hg t=false){x:Str}(hx:neu x):Zo (txS t++x)=(t,x):=by
 have ha:=zEz hx;have hn0:nmS x=false:=by have:=Yy hx [];rw[Ob]at this;rw[this];rfl
 cases h with
 |cId l h0 h=>
  have hn:=Oi h0;have hnd:=Vj x h;rw[jA hx,Va]at hnd;obtain⟨c,r,e⟩:=Bh (Xi hn);rw[vk];have hr:=WO h;rw[e]at hn hr hnd ⊢;rw[Ra,JG hx,Jv hn (by grind),Gi];unfold qQ;rw[show c::(r++x)=(c::r)++x from rfl,hnd]
  grind
 |cFn l h0 h=>rw[aj];exact bF h0 h (by unfold Hg at hu;exact hu) x
 |cAt l h0 h=>
  have hnd:=Vj x h;rw[jA hx,Va]at hnd;rw[om,Ra];have hb6:brS 64 (ZT l++x)=6:=by unfold brS;rw[Yy hx,Oi h0];rfl
  rw[qf,hb6,Gq,hnd]
 |cHash l f h0 h hbb=>
  obtain⟨g1,g2,g3⟩:=tO h0 h hbb;have hnd:=WH (f:=f) h x;rw[jA hx,Va]at hnd;rw[dn,Ra];have hb2:brS 35 (ag f l)=2:=by unfold brS;rw[g1];rfl
  have hf:nmS (ag f l)=f:=by
   cases f with
   |true=>exact g2 rfl
   |false=>exact g3 rfl
  rw[JG hx,hb2,Jl,hnd,Yy hx,hf]
 |cStr l h=>rw[Ol];exact vz h x
 |cUrl l h=>rw[Gn];exact gF h x
 |cDel c h=>
  have h92:c≠92:=by rintro rfl;exact hb ⟨rfl,rfl⟩
  rw[Pn,Ra,JG hx,FX c h h92,Fq,Ob]
 |cNum n f h1 h2 hf=>
  obtain⟨e1,e2,e3⟩:=zDA hx;have he:=Sq (n:=n) (p:= !f) e1 e2 e3;rw[Hw hf]at he;rw[Kn,Wn];unfold zI;rw[ut h1 h2 (by rw[he]),he]
  grind
 |cPct n h1 h2=>rw[Jn];exact PG h1 h2 x
 |cDim n u f h1 h2 hf h0 h=> have hnm:=ny h0 h;obtain⟨e1,e2⟩:=Az hnm x;have he:=Sq (n:=n) (p:= !f) e1 e2 (dR h0 h hx);rw[Hw hf]at he;rw[Nn,WG,Wn];unfold zI;rw[ut h1 h2 (by rw[he]),he];simp only;rw[Yy hx,hnm,Ha rfl,IB h0 h,jA hx,Va]
 |cMark k h1 h2=> rw[bn h1 h2,rA h1 h2,BN (by decide) hx,ite_self]
def dL(t:ze)(x r:Str):Prop:=zP (numT t.num (!t.flag)++x)=(r,t.flag)/\nmS r=false/\(atS r 0==37)=false
def zCx(x r:Str):Prop:= ∃s,(s=[]\/s=[45])/\digB (atS (unsign (s++x)) 0)=true/\nmS (past digB (unsign (s++x)))=true/\r=(zq (past digB (unsign (s++x)))).2
def kV(t:ze)(x r:Str):Prop:=r=x\/(t.kind=13/\r=past spB x)\/(t.kind=10/\dL t x r)\/(t.kind=12/\zCx x r)
theorem jM{w r:Str}(h:expS w=some r):(atS w 0=101\/atS w 0=69)/\digB (atS (unsign (w.drop 1)) 0)=true/\r=past digB (unsign (w.drop 1)):=by
 unfold expS at h
 grind
theorem aA{l a:Str}(h:l++a=l):a=[]:=by simp_all
theorem kF{a b:ze}(h:a=b):a.text=b.text:=by rw[h]
theorem WX{t:ze}(h:zf3 t)(hu:Hg t=false){x:Str}(ht:(Zo (txS t++x)).1=t):kV t x (Zo (txS t++x)).2:=by
 cases h with
 |cId l h0 h=>
  left;have hn:=Oi h0;have hnd:=Vj x h;obtain⟨c,r,e⟩:=Bh (Xi hn);rw[vk]at ht ⊢;rw[e,Ra]at ht ⊢;have hbr:=Dm c (r++x);rw[ht]at hbr;have hbr':brS c (r++x)=7:=hbr.symm;rw[qf,hbr',Gi]at ht ⊢;rw[show c::(r++x)=ZT l++x by rw[e];rfl]at ht ⊢;unfold qQ at ht ⊢;rw[hnd]at ht ⊢;simp only at ht ⊢;split at ht
  ·rename_i h40;exfalso;split at ht
   ·have:=congrArg ze.kind ht;rcases iF (urlS (past spB ((zq x).2.drop 1))).1 with hk|hk<;>rw[hk]at this<;>cases this
   grind
  ·rename_i h40;rw[Ga h40];have:=kF ht;exact iA (aA this)
 |cFn l h0 h=> left;rw[aj,bF h0 h (by unfold Hg at hu;exact hu)]
 |cAt l h0 h=> left;rw[om,Ra]at ht ⊢;have hbr:=Dm 64 (ZT l++x);rw[ht]at hbr;have hbr':brS 64 (ZT l++x)=6:=hbr.symm;rw[qf,hbr',Gq,Vj x h]at ht ⊢;exact iA (aA (kF ht))
 |cHash l f h0 h hbb=> left;rw[dn,Ra]at ht ⊢;have hbr:=Dm 35 (ag f l++x);rw[ht]at hbr;have hbr':brS 35 (ag f l++x)=2:=hbr.symm;rw[qf,hbr',Jl,WH h x]at ht ⊢;exact iA (aA (kF ht))
 |cStr l h=>left;rw[Ol,vz h]
 |cUrl l h=>left;rw[Gn,gF h]
 |cDel c h=> left;rw[Pn,Ra]at ht ⊢;have hbr:=Dm c ([]++x);rw[ht]at hbr;have hbr':brS c ([]++x)=8:=hbr.symm;rw[qf,hbr',Fq,Ob]
 |cNum n f h1 h2 hf=>
  right;right;left;refine⟨rfl,?_⟩;rw[Kn,Wn]at ht ⊢;unfold dL;show zP (numT n (!f)++x)=_/\_;unfold zI at ht ⊢
  grind
 |cPct n h1 h2=>left;rw[Jn,PG h1 h2]
 |cDim n u f h1 h2 hf h0 h=>
  have hnm:=ny h0 h;obtain⟨e1,e2⟩:=Az hnm x;rw[Nn,WG,Wn]at ht ⊢;have plain:expS (jf u++x)=none->(zI (numT n (!f)++(jf u++x))).2=x:=by
   intro hexp;have he:=Sq (n:=n) (p:= !f) e1 e2 hexp;unfold zI at ht ⊢;rw[he]at ht ⊢;simp only at ht ⊢;split at ht
   ·rename_i hn;rw[Ha hn];rw[IB h0 h]at ht ⊢;have:(u++(zq x).1)=u:=congrArg ze.unit ht;exact iA (aA this)
   ·grind
  rcases jF h0 h x with hx|⟨e,s,he,hs,_,hu'⟩
  ·left;exact plain hx
  ·cases hexp:expS (jf u++x)with
   |none=>left;exact plain hexp
   |some z=>
    right;right;right;refine⟨rfl,s,hs,?_⟩;obtain⟨_,hd,hz⟩:=jM hexp;have hdrop:(jf u++x).drop 1=s++x:=by rw[hu'];rfl
    rw[hdrop]at hd hz;have hend:zP (numT n (!f)++(jf u++x))=(z,false):=by
     cases hp:(partT (n.natAbs%1000) (!f)).isEmpty with
     |true=>rw[fF hp,e1,e2];simp only[hexp]
     |false=>rw[nD hp,e1];simp only[hexp]
    unfold zI at ht ⊢
    grind
 |cMark k h1 h2=>
  rw[bn h1 h2,rA h1 h2];by_cases hk:k=13
  ·right;grind
  ·left
   grind
end Go.Lv.VT
