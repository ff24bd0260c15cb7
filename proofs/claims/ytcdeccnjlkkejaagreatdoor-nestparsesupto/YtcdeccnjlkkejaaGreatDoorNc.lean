/- What is read of a text, and of a longer one. -/
import Derived.Test.YtcdeccnjlkkejaaGreatDoorNb
import Derived.Test.YtcdeccnjlkkejaaGreatDoorLaw
import Derived.Test.YtcdeccnjlkkejaaGreatDoorNam
set_option linter.unusedSimpArgs false
set_option linter.unusedVariables false
namespace Go.Lv.VT
set_option maxRecDepth 100000
theorem Eh{q:Str}{n:Nat}(x:Str)(h:n<q.length):atS (q++x) n=atS q n:=by
 unfold atS
 grind
theorem Ij{p:UInt8->Bool}(x:Str): ∀{q:Str},past p q≠[]->past p (q++x)=past p q++x
 |[],h=>absurd rfl h
 |c::r,h=>by
  rw[Ya,past,past];rw[past]at h;cases a:p c with
  |true=>rw[a,Ka rfl]at h;rw[Ka rfl,Ka rfl];exact Ij x h
  |false=>rfl
theorem dx{p:UInt8->Bool}(x:Str): ∀{q:Str},past p q≠[]->(q++x).takeWhile p=q.takeWhile p
 |[],h=>absurd rfl h
 |c::r,h=>by
  rw[Ya,Dg,Dg];rw[past]at h;cases a:p c with
  |true=>rw[a,Ka rfl]at h;rw[Ka rfl,Ka rfl,dx x h]
  |false=>rfl
theorem mM(x:Str): ∀{k n:Nat} {l:Str},(hexes k n l).2≠[]->hexes k n (l++x)=((hexes k n l).1,(hexes k n l).2++x)
 |0,n,l,_=>rfl
 |k+1,n,[],h=>absurd rfl h
 |k+1,n,c::r,h=>by
  rw[Ya,hexes,hexes];rw[hexes]at h;split
  ·rename_i a;rw[Ka a]at h;exact mM x h
  ·rfl
theorem iU{l:Str}(x:Str)(h:l≠[]):unsp (l++x)=unsp l++x:=by
 cases l with
 |nil=>grind
 |cons c r=> show(if spB c then r++x else c::(r++x))=(if spB c then r else c::r)++x;split<;>rfl
theorem wz{r:Str}(x:Str)(h:(zq r).2≠[]):zq (r++x)=((zq r).1,(zq r).2++x):=by
 cases r with
 |nil=>exact absurd rfl h
 |cons c r=>
  have e: ∀t:Str,zq (c::t)=if qA c then(rf (hexes 6 0 (c::t)).1,unsp (hexes 6 0 (c::t)).2)else([c],t):=fun t=>rfl;rw[Ya,e,e];rw[e]at h;split
  ·rename_i b;rw[Ka b]at h;have a:(hexes 6 0 (c::r)).2≠[]:=by intro d;rw[d]at h;exact h rfl
   rw[show c::(r++x)=(c::r)++x from rfl,mM x a,iU x a]
  ·rfl
theorem Gt{c:UInt8}{r:Str}(x:Str)(h:r≠[]\/c≠92):escS (c::(r++x))=escS (c::r):=by
 unfold escS;show(c==92&& !(atS (r++x) 0==10))=(c==92&& !(atS r 0==10));rcases h with h|h
 ·cases r with
  |nil=>grind
  |cons d t=>rfl
 grind
theorem Fq{q:Str}(x:Str)(h:(zo q).2≠[]):zo (q++x)=((zo q).1,(zo q).2++x):=by
 match q with
 |[]=>rw[qB]at h;grind
 |c::r=>
  rw[Ya,zO,zO];rw[zO]at h;cases f:letB c with
  |true=> rw[f,Ka rfl]at h;simp only[Jd];rw[Fq x h]
  |false=>
   rw[f,Ja (by decide)]at h;simp only[Ob,Ed];cases a:escS (c::r)with
   |true=>
    rw[a,Ka rfl]at h;have g:(zq r).2≠[]:=by intro e;simp only[e,qB]at h;exact h rfl
    have b:r≠[]:=by rintro rfl;exact g rfl
    rw[Gt x (.inl b),a];simp only[Jd];rw[wz x g];have:=Zf r;simp only;rw[Fq x h]
   |false=>
    have b:r≠[]\/c≠92:=by
     cases r with
     |nil=> right;rintro rfl;exact absurd a (by decide)
     |cons d t=>left;simp
    rw[Gt x b,a];grind
termination_by q.length
decreasing_by
 all_goals grind
theorem kz{m:UInt8}{q:Str}(x:Str)(h:(zY m q).2≠[]):zY m (q++x)=((zY m q).1,(zY m q).2++x):=by
 match q with
 |[]=>rw[Qq]at h;grind
 |c::r=>
  rw[Ya,qP,qP];rw[qP]at h;cases g:c==m with
  |true=>grind
  |false=>
   rw[g,Ja (by decide)]at h;simp only[Ob,Ed];cases k:c==10 with
   |true=>grind
   |false=>
    rw[k,Ja (by decide)]at h;simp only[Ob,Ed];cases b:c==92 with
    |false=> rw[b,Ja (by decide)]at h;simp only[Ob,Ed];rw[kz x h]
    |true=>
     rw[b,Ka rfl]at h;simp only[Jd];cases f:r with
     |nil=>grind
     |cons d t=>
      rw[f]at h;have j:r.length=t.length+1:=by rw[f];rfl
      rw[Ya,show(d::(t++x)).isEmpty=false from rfl,show(d::t).isEmpty=false from rfl];simp only[Ob,Ed];rw[show(d::t).isEmpty=false from rfl,Ja (by decide)]at h;rw[show atS (d::(t++x)) 0=atS (d::t) 0 from rfl];cases a:atS (d::t) 0==10 with
      |true=> rw[a,Ka rfl]at h;simp only[Jd];exact kz (q:=t) x h
      |false=>
       rw[a,Ja (by decide)]at h;simp only[Ob,Ed];have i:(zq (d::t)).2≠[]:=by intro e;simp only[e,Qq]at h;exact h rfl
       rw[show d::(t++x)=(d::t)++x from rfl,wz x i];have:=Zf (d::t);simp only;rw[kz x h]
termination_by q.length
decreasing_by
 all_goals grind
theorem Iy{q:Str}(x:Str)(h:badS q≠[]):badS (q++x)=badS q++x:=by
 match q with
 |[]=>rw[gp]at h;grind
 |c::r=>
  rw[Ya,Iq,Iq];rw[Iq]at h;cases f:c==41 with
  |true=>grind
  |false=>
   rw[f,Ja (by decide)]at h;simp only[Ob,Ed];cases a:escS (c::r)with
   |true=>
    rw[a,Ka rfl]at h;have d:(zq r).2≠[]:=by intro e;rw[e,gp]at h;exact h rfl
    have b:r≠[]:=by rintro rfl;exact d rfl
    rw[Gt x (.inl b),a];simp only[Jd];rw[wz x d];have:=Zf r;exact Iy x h
   |false=>
    rw[a,Ja (by decide)]at h;have b:r≠[]\/c≠92:=by left;rintro rfl;rw[gp]at h;exact h rfl
    rw[Gt x b,a];simp only[Ob,Ed];exact Iy x h
termination_by q.length
decreasing_by
 all_goals grind
theorem vC{q:Str}(x:Str)(h:(urlS q).2≠[]):urlS (q++x)=((urlS q).1,(urlS q).2++x):=by
 match q with
 |[]=>rw[Gj]at h;grind
 |c::r=>
  rw[Ya,Qv,Qv];rw[Qv]at h;cases l:c==41 with
  |true=>grind
  |false=>
   rw[l,Ja (by decide)]at h;simp only[Ob,Ed];cases j:spB c with
   |true=>
    rw[j,Ka rfl]at h;simp only[Jd];cases f:past spB r with
    |nil=>grind
    |cons d t=>
     rw[Ij x (by rw[f];simp),f];rw[f]at h;simp only[Ya]at h ⊢;cases a:d==41 with
     |true=>grind
     |false=> rw[a,Ja (by decide)]at h;simp only[Ob,Ed];rw[show d::(t++x)=(d::t)++x from rfl,Iy x h]
   |false=>
    rw[j,Ja (by decide)]at h;simp only[Ob,Ed];have b:(c=92->r≠[])->escS (c::(r++x))=escS (c::r):=by
     intro k;refine Gt x ?_;by_cases e:c=92
     ·exact .inl (k e)
     ·exact .inr e
    have m:c=92->r≠[]:=by
     rintro rfl rfl;have o:escS [92]=true:=by decide
     rw[o,show((92:UInt8)==92&& !true)=false from rfl,Ke]at h;cases i:((92:UInt8)==34||(92:UInt8)==39||(92:UInt8)==40||unB 92)with
     |true=>exact absurd i (by decide)
     |false=> rw[i,Ja (by decide),Ka (by decide)]at h;exact absurd (by show(urlS (zq []).2).2=[];rw[show(zq []).2=[]from rfl,Gj]) h
    rw[b m];cases a:c==34||c==39||c==40||unB c||c==92&& !escS (c::r)with
    |true=> rw[a,Ka rfl]at h;simp only[Jd];rw[show c::(r++x)=(c::r)++x from rfl,Iy x h]
    |false=>
     rw[a,Ja (by decide)]at h;simp only[Ob,Ed];cases g:c==92 with
     |true=>
      rw[g,Ka rfl]at h;simp only[Jd];have n:(zq r).2≠[]:=by intro e;simp only[e,Gj]at h;exact h rfl
      rw[wz x n];have:=Zf r;simp only;rw[vC x h]
     |false=> rw[g,Ja (by decide)]at h;simp only[Ob,Ed];rw[vC x h]
termination_by q.length
decreasing_by
 all_goals grind
theorem ak{q:Str}(x:Str)(h:q≠[]):unsign (q++x)=unsign q++x/\sgOf (q++x)=sgOf q:=by
 cases q with
 |nil=>grind
 |cons c r=> unfold unsign sgOf;show(if Jf c then r++x else c::(r++x))=(if Jf c then r else c::r)++x/\_;refine⟨by split<;>rfl,rfl⟩
def Ff(q:Str):Str:=past digB (unsign q)
theorem wL{q x:Str}(h:(zT q).1≠[])(f:q=[46]->digB (atS x 0)=false):zT (q++x)=((zT q).1++x,(zT q).2)/\dotP (q++x)=dotP q:=by
 unfold zT dotP;unfold zT at h;cases q with
 |nil=>exact absurd rfl h
 |cons c r=>
  have g:(atS ((c::r)++x) 0==46&&digB (atS ((c::r)++x) 1))=(atS (c::r) 0==46&&digB (atS (c::r) 1)):=by
   show(c==46&&digB (atS (r++x) 0))=(c==46&&digB (atS r 0));cases r with
   |nil=>
    cases a:c==46 with
    |false=>rfl
    |true=> rw[Ab]at a;subst a;show(true&&digB (atS x 0))=(true&&digB (atS [] 0));rw[f rfl];rfl
   |cons d t=>rfl
  rw[g];cases e:(atS (c::r) 0==46&&digB (atS (c::r) 1))with
  |false=>grind
  |true=>
   rw[e,Ka rfl]at h;simp only[Jd];rw[show((c::r)++x).drop 1=r++x from rfl,show(c::r).drop 1=r from rfl];have b:past digB r≠[]:=h;rw[Ij x b,dx x b]
   grind
theorem FT{w x:Str}(hw:w≠[])(h: ∀r,expS w=some r->r≠[])(hn:expS w=none->expS (w++x)=none):
  expS (w++x)=(expS w).map (· ++x)/\expP (w++x)=expP w:=by
 have hP: ∀q:Str,expP q=if(expS q).isSome then some (atS q 0,sgOf (q.drop 1),(unsign (q.drop 1)).takeWhile digB)else none:=by
  intro q;unfold expP expS;cases atS q 0==101||atS q 0==69 with
  |false=>rfl
  |true=>
   grind
 cases he:expS w with
 |none=>
  grind
 |some r=>
  have hr:=h r he;cases w with
  |nil=>grind
  |cons c t=>
   have he':=he;unfold expS at he';cases h1:atS (c::t) 0==101||atS (c::t) 0==69 with
   |false=>grind
   |true=>
    rw[h1,Ka rfl]at he';cases h2:digB (atS (unsign ((c::t).drop 1)) 0)with
    |false=>grind
    |true=>
     rw[h2,Ka rfl]at he';have hrr:past digB (unsign t)=r:=by injection he'
     have ht:t≠[]:=by rintro rfl;exact absurd (show digB (atS (unsign []) 0)=true from h2) (by decide)
     obtain⟨u1,u2⟩:=ak x ht;have hun:unsign t≠[]:=by intro e;rw[show(c::t).drop 1=t from rfl,e]at h2;exact absurd h2 (by decide)
     have hexp:expS ((c::t)++x)=some (r++x):=by unfold expS;rw[show atS ((c::t)++x) 0=atS (c::t) 0 from rfl,h1,Ka rfl,show((c::t)++x).drop 1=t++x from rfl,u1];have:atS (unsign t++x) 0=atS (unsign t) 0:=Eh x (Ce.2 hun);rw[this,show digB (atS (unsign t) 0)=true from h2,Ka rfl,Ij x (by grind),hrr]
     refine⟨by rw[hexp];rfl,?_⟩;rw[hP,hP,hexp,he];simp only[Option.isSome_some,Jd];rw[show((c::t)++x).drop 1=t++x from rfl,show(c::t).drop 1=t from rfl,u1,u2,dx x (by grind)];rfl
theorem Qd(q:Str):zy q=(match expS (zT (Ff q)).1 with|some r=>(r,false)|none=>zT (Ff q)):=rfl
theorem fD{q x:Str}(h:(zy q).1≠[])(j:Ff q=[46]->digB (atS x 0)=false)(l:expS (zT (Ff q)).1=none->expS ((zT (Ff q)).1++x)=none):
  zy (q++x)=((zy q).1++x,(zy q).2)/\numP (q++x)=numP q:=by
 rw[Qd]at h;have a: ∀r,expS (zT (Ff q)).1=some r->r≠[]:=by intro r p;rw[p]at h;exact h
 have b:(zT (Ff q)).1≠[]:=by intro e;rw[e,show expS []=none from rfl]at h;exact h e
 have c:Ff q≠[]:=by intro e;rw[e]at b;exact b rfl
 have n:q≠[]:=by rintro rfl;exact c rfl
 obtain⟨d,k⟩:=ak x n;have f:Ff (q++x)=Ff q++x:=by unfold Ff;rw[d];exact Ij x c
 obtain⟨i,m⟩:=wL b j;obtain⟨s,o⟩:=FT b a l;have g: ∀z:Str,numP z=⟨sgOf z,(unsign z).takeWhile digB,dotP (Ff z),expP (zT (Ff z)).1⟩:=fun z=>rfl;constructor
 ·rw[Qd,Qd,f,i]
  grind
 ·rw[g,g,k,d,dx x c,f,i,m,o]
def brS(c:UInt8)(r:Str):Nat:=
 if spB c then 0
 else if c==34||c==39 then 1
 else if c==35&&(letB (atS r 0)||escS r)then 2
 else if nbS (c::r)then 3
 else if [45,45,62].isPrefixOf (c::r)then 4
 else if [60,33,45,45].isPrefixOf (c::r)then 5
 else if c==64&&nmS r then 6
 else if nmS (c::r)then 7
 else if bf c==0 then 8
 else 9
def nxB:Nat->UInt8->Str->zb×Str
 |0,c,r=>(Ug 13,past spB (c::r))
 |1,c,r=>(xh (zY c r).1,(zY c r).2)
 |2,_,r=>(⟨4,(zo r).1,0,[],nmS r⟩,(zo r).2)
 |3,c,r=>zB (c::r)
 |4,c,r=>(Ug 15,(c::r).drop 3)
 |5,c,r=>(Ug 14,(c::r).drop 4)
 |6,_,r=>(⟨3,(zo r).1,0,[],false⟩,(zo r).2)
 |7,c,r=>qh (c::r)
 |8,c,r=>(⟨9,[c],0,[],false⟩,r)
 |_+9,c,r=>(Ug (bf c),r)
theorem Mw(c:UInt8)(r:Str):nxB 0 c r=(Ug 13,past spB (c::r)):=by rw[nxB]
theorem Xn(c:UInt8)(r:Str):nxB 1 c r=(xh (zY c r).1,(zY c r).2):=by rw[nxB]
theorem Rj(c:UInt8)(r:Str):nxB 2 c r=(⟨4,(zo r).1,0,[],nmS r⟩,(zo r).2):=by rw[nxB]
theorem jh(c:UInt8)(r:Str):nxB 3 c r=zB (c::r):=by rw[nxB]
theorem WB(c:UInt8)(r:Str):nxB 4 c r=(Ug 15,(c::r).drop 3):=by rw[nxB]
theorem VB(c:UInt8)(r:Str):nxB 5 c r=(Ug 14,(c::r).drop 4):=by rw[nxB]
theorem Wn(c:UInt8)(r:Str):nxB 6 c r=(⟨3,(zo r).1,0,[],false⟩,(zo r).2):=by rw[nxB]
theorem Oh(c:UInt8)(r:Str):nxB 7 c r=qh (c::r):=by rw[nxB]
theorem Ar(c:UInt8)(r:Str):nxB 8 c r=(⟨9,[c],0,[],false⟩,r):=by rw[nxB]
theorem Kw(c:UInt8)(r:Str):nxB 9 c r=(Ug (bf c),r):=rfl
theorem qo(c:UInt8)(r:Str):Zm (c::r)=nxB (brS c r) c r:=by
 rw[Mq];unfold brS;split
 ·rfl
 ·split
  ·rfl
  ·split
   ·rfl
   ·split
    ·rfl
    ·split
     ·rfl
     ·split
      ·rfl
      ·split
       ·rfl
       ·split
        ·rfl
        ·split<;>rfl
theorem br_4{c:UInt8}{r:Str}:brS c r=4->[45,45,62].isPrefixOf (c::r)=true:=by unfold brS;grind
theorem br_5{c:UInt8}{r:Str}:brS c r=5->[60,33,45,45].isPrefixOf (c::r)=true:=by unfold brS;grind
theorem br_9{c:UInt8}{r:Str}:brS c r=9-> ¬(bf c==0)=true:=by unfold brS;grind
theorem GH(c:UInt8)(r:Str):brS c r<=9:=by unfold brS;grind
def brK(k:Int):Nat:=
 if k=13 then 0 else if k=5\/k=6 then 1 else if k=4 then 2 else if k=10\/k=11\/k=12 then 3 else if k=15 then 4 else if k=14 then 5 else if k=3 then 6
 else if k=1\/k=2\/k=7\/k=8 then 7 else if k=9 then 8 else 9
theorem GV(c:UInt8):bf c=0\/(16<=bf c/\bf c<=24):=by
 have: ∀n:Nat,n<256->bf (UInt8.ofNat n)=0\/(16<=bf (UInt8.ofNat n)/\bf (UInt8.ofNat n)<=24):=by decide+kernel
 have:=this c.toNat (aa c);simp_all
theorem lV(o:Option Str):(xh o).kind=5\/(xh o).kind=6:=by cases o<;>simp[xh]
theorem CE(o:Option Str):(ig o).kind=7\/(ig o).kind=8:=by cases o<;>simp[ig]
theorem OZ(l:Str):(qh l).1.kind=1\/(qh l).1.kind=2\/(qh l).1.kind=7\/(qh l).1.kind=8:=by
 unfold qh;split
 ·split
  ·exact .inr (.inr (CE _))
  grind
 ·exact .inl rfl
theorem K3(l:Str):(zB l).1.kind=10\/(zB l).1.kind=11\/(zB l).1.kind=12:=by
 unfold zB
 grind
theorem tQ{i:Nat}(h:i<=9):i=0\/i=1\/i=2\/i=3\/i=4\/i=5\/i=6\/i=7\/i=8\/i=9:=by omega
theorem Kk(c:UInt8)(r:Str):brK (Zm (c::r)).1.kind=brS c r:=by
 rw[qo];rcases tQ (GH c r)with h|h|h|h|h|h|h|h|h|h
 ·rw[h];rfl
 ·rw[h,Xn];show brK (xh (zY c r).1).kind=1;rcases lV (zY c r).1 with h|h<;>rw[h]<;>rfl
 ·rw[h];rfl
 ·rw[h,jh];rcases K3 (c::r)with h|h|h<;>rw[h]<;>rfl
 ·rw[h];rfl
 ·rw[h];rfl
 ·rw[h];rfl
 ·rw[h,Oh];rcases OZ (c::r)with h|h|h|h<;>rw[h]<;>rfl
 ·rw[h];rfl
 ·have b:=GV c;have a:=br_9 h;rw[Ab]at a;rw[h,Kw];show brK (bf c)=9;unfold brK
  repeat rw[Ja (by omega)]
theorem RY{q x:Str}(h:(qh q).2≠[]):qh (q++x)=((qh q).1,(qh q).2++x):=by
 have g:(zo q).2≠[]:=by intro e;unfold qh at h;rw[e,Ja (by decide)]at h;exact h rfl
 have e:=Fq x g;unfold qh;unfold qh at h;rw[e];simp only;have i:atS ((zo q).2++x) 0=atS (zo q).2 0:=Eh x (Ce.2 g);rw[i];cases b:atS (zo q).2 0==40 with
 |false=>rfl
 |true=>
  rw[b,Ka rfl]at h;simp only[Jd];cases f:(zo q).2 with
  |nil=>grind
  |cons c r=>
   rw[f]at h;rw[show((c::r)++x).drop 1=r++x from rfl];rw[show(c::r).drop 1=r from rfl]at h ⊢;cases j:lowS (zo q).1==[117,114,108]with
   |false=>
    grind
   |true=>
    rw[j,Eb]at h;simp only[Eb];cases a:past spB r with
    |nil=>
     rw[a,Ka (by decide),Gj]at h
     grind
    |cons d t=>
     rw[Ij x (by rw[a];simp),a];rw[a]at h;rw[show atS ((d::t)++x) 0=atS (d::t) 0 from rfl];split
     ·rename_i k;rw[Ka k]at h;rw[vC x h]
     ·rfl
theorem Yp{q x:Str}{n:Nat}(h:n<=q.length):(q++x).drop n=q.drop n++x:=List.drop_append_of_le_length h
structure ziM (q x:Str):Prop where
 e:zy (q++x)=((zy q).1++x,(zy q).2)
 p:numP (q++x)=numP q
 n:nmS ((zy q).1++x)=nmS (zy q).1
theorem O0{q x:Str}(a:ziM q x)(h:(zB q).2≠[]):zB (q++x)=((zB q).1,(zB q).2++x):=by
 have f:(zy q).1≠[]:=by intro e;unfold zB at h;rw[e,Ja (by decide),Ja (by decide)]at h;exact h rfl
 have b:atS ((zy q).1++x) 0=atS (zy q).1 0:=Eh x (Ce.2 f);unfold zB;unfold zB at h;rw[a.e,a.p];simp only[a.n,b];cases c:nmS (zy q).1 with
 |true=> rw[c,Ka rfl]at h;simp only[Jd];rw[Fq x h]
 |false=>
  simp only[Ob,Ed];cases d:atS (zy q).1 0==37 with
  |true=> simp_all
  |false=>grind
theorem Sy {c:UInt8} {r x:Str} (f:brS c (r++x)=brS c r) (h:(Zm (c::r)).2≠[]) (e:brS c r=2->nmS (r++x)=nmS r)
  (b:brS c r=3->ziM (c::r) x):Zm (c::(r++x))=((Zm (c::r)).1,(Zm (c::r)).2++x):=by
 rw[qo c (r++x),f];rw[qo]at h ⊢;rcases tQ (GH c r)with a|a|a|a|a|a|a|a|a|a
 ·rw[a,Mw]at h;rw[a,Mw,Mw,show c::(r++x)=(c::r)++x from rfl,Ij x h]
 ·rw[a,Xn]at h;rw[a,Xn,Xn,kz x h]
 ·rw[a,Rj]at h;rw[a,Rj,Rj,Fq x h,e a]
 ·have g:=b a;rw[a,jh]at h;rw[a,jh,jh,show c::(r++x)=(c::r)++x from rfl,O0 g h]
 ·have d:=Vh (br_4 a);rw[a,WB,WB,show c::(r++x)=(c::r)++x from rfl,Yp (show 3<=(c::r).length from d)]
 ·have d:=Vh (br_5 a);rw[a,VB,VB,show c::(r++x)=(c::r)++x from rfl,Yp (show 4<=(c::r).length from d)]
 ·rw[a,Wn]at h;rw[a,Wn,Wn,Fq x h]
 ·rw[a,Oh]at h;rw[a,Oh,Oh,show c::(r++x)=(c::r)++x from rfl,RY h]
 ·rw[a,Ar,Ar]
 ·rw[a,Kw,Kw]
theorem BM{q:Str}(x:Str)(h:q≠[]):undot (q++x)=undot q++x:=by
 cases q with
 |nil=>grind
 |cons c r=> unfold undot;show(if c==46 then r++x else c::(r++x))=(if c==46 then r else c::r)++x;split<;>rfl
theorem VW(q:Str):q.length<=(undot q).length+1:=by
 unfold undot
 grind
theorem MG(q:Str):q.length<=(unsign q).length+1:=by
 unfold unsign
 grind
theorem Xm{q:Str}(h:1<=q.length):q≠[]:=by grind
theorem zAw{q:Str}(x:Str)(h:3<=q.length):nbS (q++x)=nbS q:=by have b:=MG q;have a:=VW (unsign q);unfold nbS;rw[(ak x (Xm (by omega))).1,BM x (Xm (by omega)),Eh x (by omega)]
theorem Fx{q:Str}(x:Str)(h:3<=q.length):nmS (q++x)=nmS q:=by unfold nmS escS;rw[Yp (by omega),Eh x (show 0<q.length by omega),Eh x (show 1<q.length by omega),Eh x (show 0<(q.drop 1).length by grind),Eh x (show 1<(q.drop 1).length by grind)]
theorem Ep{m:Str}: ∀{q:Str} (x:Str),m.length<=q.length->m.isPrefixOf (q++x)=m.isPrefixOf q:=by
 induction m with
 |nil=>grind
 |cons a m c=>
  intro q x h;cases q with
  |nil=>grind
  |cons b t=>
   grind
theorem KS{c:UInt8}{r:Str}(x:Str)(h:4<=r.length):brS c (r++x)=brS c r:=by
 have e:c::(r++x)=(c::r)++x:=rfl;have hl:(c::r).length=r.length+1:=rfl;unfold brS;rw[e,zAw x (by omega),Ep x (by grind),Ep x (by grind),Fx x (q:=r) (by omega),Fx x (q:=c::r) (by omega),Eh x (show 0<r.length by omega)];have:escS (r++x)=escS r:=by unfold escS;rw[Eh x (show 0<r.length by omega),Eh x (show 1<r.length by omega)]
 rw[this]
theorem Uk{w:Str}:expS w=none↔((atS w 0==101||atS w 0==69)&&digB (atS (unsign (w.drop 1)) 0))=false:=by
 unfold expS
 grind
theorem PU{w:Str}(x:Str)(h:3<=w.length)(a:expS w=none):expS (w++x)=none:=by rw[Uk]at a ⊢;have b:=MG (w.drop 1);rw[ib]at b;rw[Yp (by omega),(ak x (Xm (by grind))).1,Eh x (show 0<w.length by omega),Eh x (by omega)];exact a
theorem YY(q:Str):(zT q).1<:+q:=by
 unfold zT;split
 ·exact(Tm _ _).trans (Xd 1 q)
 grind
theorem sS(q:Str):(zy q).1<:+(zT (Ff q)).1:=by
 rw[Qd];cases h:expS (zT (Ff q)).1 with
 |some r=>exact wI (Ad _) h
 |none=>grind
theorem gN(q:Str):(zB q).2<:+(zy q).1:=by
 unfold zB;split
 ·exact Vi _
 ·split
  ·exact Xd 1 _
  grind
theorem YU{q:Str}(x:Str)(h:4<=(zy q).1.length):ziM q x:=by have d:=(sS q).length_le;have c:=(YY (Ff q)).length_le;obtain⟨a,b⟩:=fD (q:=q) (x:=x) (Xm (by omega)) (fun e=>by grind) (PU x (by omega));exact⟨a,b,Fx x (by omega)⟩
theorem AV{c:UInt8}{r:Str}(x:Str)(h:4<=(Zm (c::r)).2.length):Zm (c::(r++x))=((Zm (c::r)).1,(Zm (c::r)).2++x):=by have b:=(Ei c r).length_le;refine Sy (KS x (by omega)) (Xm (by omega)) (fun _=>Fx x (by omega)) (fun a=>YU x ?_);rw[qo,a,jh]at h;have:=(gN (c::r)).length_le;omega
theorem uw(q y:Str):escS (q++47::y)=escS q:=by
 match q with
 |[]=>rfl
 |[c]=>rfl
 |c::d::t=>rfl
theorem Br(q y:Str):nmS (q++47::y)=nmS q:=by
 match q with
 |[]=>rfl
 |[c]=> unfold nmS;show(if c==45 then fstB 47||47==45||escS (47::y)else fstB c||escS ([c]++47::y))=(if c==45 then fstB 0||0==45||escS []else fstB c||escS [c]);rw[uw];rfl
 |c::d::t=> unfold nmS;show(if c==45 then fstB d||d==45||escS ((d::t)++47::y)else fstB c||escS ((c::d::t)++47::y))=(if c==45 then fstB d||d==45||escS (d::t)else fstB c||escS (c::d::t));rw[uw,uw]
theorem JI(q y:Str):digB (atS (q++47::y) 0)=digB (atS q 0):=by
 cases q with
 |nil=>rfl
 |cons c t=>rfl
theorem yL(q y:Str):unsign (q++47::y)=unsign q++47::y:=by
 cases q with
 |nil=>rfl
 |cons c t=>exact(ak (47::y) (by simp)).1
theorem jU(q y:Str):undot (q++47::y)=undot q++47::y:=by
 cases q with
 |nil=>rfl
 |cons c t=>exact BM (47::y) (by simp)
theorem zBi(q y:Str):nbS (q++47::y)=nbS q:=by unfold nbS;rw[yL,jU,JI]
theorem rH{m:Str}(c: ∀b∈m,b≠47): ∀(q y:Str),m.isPrefixOf (q++47::y)=m.isPrefixOf q:=by
 induction m with
 |nil=>grind
 |cons a m d=>
  intro q y;cases q with
  |nil=>
   grind
  |cons b t=>grind
theorem zAo(q y:Str):letB (atS (q++47::y) 0)=letB (atS q 0):=by
 cases q with
 |nil=>rfl
 |cons c t=>rfl
theorem RH(c:UInt8)(r y:Str):brS c (r++47::y)=brS c r:=by have e:c::(r++47::y)=(c::r)++47::y:=rfl;unfold brS;rw[e,zBi,rH (by decide),rH (by decide),Br,Br,zAo,uw]
theorem zAa{w:Str}(y:Str)(a:expS w=none):expS (w++47::y)=none:=by
 cases w with
 |nil=>rfl
 |cons c t=> rw[Uk]at a ⊢;show((c==101||c==69)&&digB (atS (unsign (t++47::y)) 0))=false;rw[yL,JI];exact a
theorem zAB{q:Str}(y:Str)(h:(zy q).1≠[]):ziM q (47::y):=by obtain⟨a,b⟩:=fD (q:=q) (x:=47::y) h (fun _=>rfl) (zAa y);exact⟨a,b,Br _ y⟩
theorem sM{q:Str}(h:(zB q).2≠[]):(zy q).1≠[]:=by intro e;have:=(gN q).length_le;simp_all
theorem rT{c:UInt8}{r:Str}(y:Str)(h:(Zm (c::r)).2≠[]):Zm (c::(r++47::y))=((Zm (c::r)).1,(Zm (c::r)).2++47::y):=by refine Sy (RH c r y) h (fun _=>Br r y) (fun a=>zAB y ?_);rw[qo,a,jh]at h;exact sM h
def XB(c:UInt8)(r x:Str):Prop:=(∃e a,(e=101\/e=69)/\zT (Ff (c::r))=([e,43],a))/\(Zm (c::r)).2=[43]/\(Zm (c::r)).1.kind=12/\digB (atS x 0)=true
theorem tV{c:UInt8}{r x:Str}(hb:brS c r=3)(h:(Zm (c::r)).2≠[])(hx:x≠[])(ht:(zB ((c::r)++x)).1=(zB (c::r)).1):
  ziM (c::r) x\/XB c r x:=by
 have hnx:Zm (c::r)=zB (c::r):=by rw[qo,hb,jh]
 rw[hnx]at h;have he:=sM h;have hflag: ∀q:Str,(zB q).1.kind=10->(zB q).1.flag=(zy q).2:=by
  intro q;unfold zB;split
  ·intro h;cases h
  ·grind
 have hnm: ∀q:Str,((zB q).1.kind=12↔nmS (zy q).1=true):=by
  intro q;unfold zB;split
  ·grind
  ·grind
 by_cases hd:Ff (c::r)=[46]->digB (atS x 0)=false
 ·by_cases hn:expS (zT (Ff (c::r))).1=none->expS ((zT (Ff (c::r))).1++x)=none
  ·obtain⟨a,b⟩:=fD he hd hn;refine .inl ⟨a,b,?_⟩
   grind
  ·right;obtain⟨hn1,hn2⟩:=Classical.not_imp.1 hn;have hend:zy (c::r)=zT (Ff (c::r)):=by rw[Qd,hn1]
   rw[hend]at he;obtain⟨w,fl⟩: ∃w fl,zT (Ff (c::r))=(w,fl):=⟨_,_,rfl⟩;obtain⟨fl,hw⟩:=fl;rw[hw]at he hn1 hn2 hend;simp only at he hn1 hn2;rw[Uk]at hn1;rw[Uk]at hn2;cases w with
   |nil=>grind
   |cons e t=>
    have h2:((e==101||e==69)&&digB (atS (unsign (t++x)) 0))=true:=by
     have:((atS ((e::t)++x) 0==101||atS ((e::t)++x) 0==69)&&digB (atS (unsign (((e::t)++x).drop 1)) 0))=true:=by
      cases hh:((atS ((e::t)++x) 0==101||atS ((e::t)++x) 0==69)&&digB (atS (unsign (((e::t)++x).drop 1)) 0))with
      |true=>rfl
      |false=>grind
     exact this
    have h1:((e==101||e==69)&&digB (atS (unsign t) 0))=false:=hn1;rw[Ea]at h2;rw[h2.1,Eb]at h1;have hee:e=101\/e=69:=by have:=h2.1;rw[Gc,Ab,Ab]at this;exact this
    have hfst:fstB e=true/\letB e=true/\(e==45)=false:=by rcases hee with rfl|rfl<;>decide
    have hnmw:nmS (e::t)=true:=by unfold nmS;rw[show atS (e::t) 0=e from rfl,hfst.2.2,Ja (by decide),hfst.1];rfl
    have hnum:zB (c::r)=(⟨12,[],(numP (c::r)).val,(zo (e::t)).1,fl⟩,(zo (e::t)).2):=by unfold zB;rw[hend,Ka hnmw]
    rw[hnum]at h;have h':(zo (e::t)).2≠[]:=h;have ht43:t=[43]/\digB (atS x 0)=true:=by
     match t with
     |[]=>rw[zO,Ka hfst.2.1,qB]at h';grind
     |[d]=>
      have hux:unsign ([d]++x)=if Jf d then x else d::x:=rfl;have hu:unsign [d]=if Jf d then []else [d]:=rfl;rw[hux]at h2;rw[hu]at h1;cases hs:Jf d with
      |false=>
       rw[hs,Ja (by decide)]at h1 h2;have:=h2.2;rw[show atS (d::x) 0=atS [d] 0 from rfl,h1]at this;cases this
      |true=>
       rw[hs,Ka rfl]at h2;unfold Jf at hs;rw[Gc,Ab,Ab]at hs;rcases hs with rfl|rfl
       ·grind
       ·rw[zO,Ka hfst.2.1,zO,Ka (by decide),qB]at h';grind
     |d::d2::t2=>
      exfalso;have hlen:1<=(unsign (d::d2::t2)).length:=by have:=MG (d::d2::t2);rw[Ia,Ia]at this;omega
      have:=h2.2;rw[(ak x (by simp)).1,Eh x (by omega),h1]at this;cases this
    obtain⟨rfl,hdx⟩:=ht43;refine⟨⟨e,fl,hee,hw⟩,?_,?_,hdx⟩
    ·rw[hnx,hnum];show(zo [e,43]).2=[43];rw[zO,Ka hfst.2.1,zO,Ja (by decide),Ja (by decide)]
    ·rw[hnx,hnum]
 ·exfalso;obtain⟨hq2,hdx⟩:=Classical.not_imp.1 hd;have hend:zy (c::r)=([46],true):=by rw[Qd,hq2];rfl
  have hnum:zB (c::r)=(⟨10,[],(numP (c::r)).val,[],true⟩,[46]):=by unfold zB;rw[hend,Ja (by decide),Ja (by decide)]
  rw[hnum]at ht;have hf:=hflag ((c::r)++x) (by rw[ht]);rw[ht]at hf;have hun:unsign (c::r)≠[]:=by intro e;rw[Ff,e]at hq2;cases hq2
  have e2:Ff ((c::r)++x)=46::x:=by unfold Ff;rw[(ak x (by simp)).1,Ij x (by unfold Ff at hq2;rw[hq2];simp)];unfold Ff at hq2;rw[hq2];rfl
  have hw:zT (46::x)=(past digB x,false):=by
   unfold zT;have:digB (atS x 0)=true:=by cases hh:digB (atS x 0)with|true=>rfl|false=>grind
   rw[show atS (46::x) 0=46 from rfl,show atS (46::x) 1=atS x 0 from rfl,this];rfl
  have hfl:(zy ((c::r)++x)).2=false:=by rw[Qd,e2,hw];simp only;cases expS (past digB x)<;>rfl
  rw[hfl]at hf;cases hf
theorem UY{c:UInt8}{r x:Str}(h:(Zm (c::r)).2≠[])(hx:x≠[])(ht:(Zm (c::(r++x))).1=(Zm (c::r)).1):
  (Zm (c::(r++x))).2=(Zm (c::r)).2++x\/XB c r x:=by
 have hb:brS c (r++x)=brS c r:=by rw[<-Kk,<-Kk,ht]
 have hh:brS c r=2->nmS (r++x)=nmS r:=by intro hi;have:=congrArg zb.flag ht;rw[qo,qo,hb,hi,Rj,Rj]at this;exact this
 by_cases hi:brS c r=3
 ·have hnx:Zm (c::r)=zB (c::r):=by rw[qo,hi,jh]
  have hnx2:Zm (c::(r++x))=zB ((c::r)++x):=by rw[qo,hb,hi,jh];rfl
  have ht':=ht;rw[hnx,hnx2]at ht';rcases tV hi h hx ht' with hs|hp
  ·left;rw[Sy hb h hh (fun _=>hs)]
  ·exact .inr hp
 ·left;rw[Sy hb h hh (fun e=>absurd e hi)]
def run:Str->List zb->Str->Prop
 |q,[],R=>q=R
 |q,t::a,R=> ∃c r,cmtS q=c::r/\(Zm (c::r)).1=t/\run (Zm (c::r)).2 a R
theorem Rs: ∀{ts:List zb} {q R:Str},run q ts R->R<:+q
 |[],q,R,h=>by rw[run]at h;grind
 |t::ts,q,R,h=>by obtain⟨c,r,d,e,b⟩:=h;have a:=Lh q;rw[d]at a;exact(Rs b).trans ((Ei c r).trans ((lc c r).trans a))
theorem Pp: ∀{ts:List zb} {q R:Str},run q ts R->ql q=ts++ql R
 |[],q,R,h=>by rw[run]at h;subst h;rfl
 |t::ts,q,R,h=>by obtain⟨c,r,d,b,a⟩:=h;rw[Qu d,b,Pp a];rfl
theorem yE: ∀{ts us:List zb} {q R S:Str},run q ts R->run R us S->run q (ts++us) S
 |[],us,q,R,S,h,a=>by rw[run]at h;subst h;exact a
 |t::ts,us,q,R,S,h,a=>by obtain⟨c,r,e,d,b⟩:=h;exact⟨c,r,e,d,yE b a⟩
theorem bJ: ∀{ts us:List zb} {q:Str},ql q=ts++us-> ∃R,run q ts R/\ql R=us
 |[],us,q,h=>⟨q,rfl,h⟩
 |t::ts,us,q,h=>by
  cases a:cmtS q with
  |nil=>rw[QG a]at h;cases h
  |cons c r=> rw[Qu a,Ya]at h;injection h with d f;obtain⟨R,e,b⟩:=bJ f;exact⟨R,⟨c,r,a,d,e⟩,b⟩
theorem fI: ∀{ts:List zb} {q R S:Str},run q ts R->run q ts S->R=S
 |[],q,R,S,h,b=>by rw[run]at h b;rw[<-h,b]
 |t::ts,q,R,S,h,b=>by obtain⟨c,r,f,m,g⟩:=h;obtain⟨l,k,a,e,d⟩:=b;rw[f]at a;injection a with i j;subst i j;exact fI g d
theorem gI{ts:List zb}{q R:Str}(d:ts≠[]):run (cmtS q) ts R↔run q ts R:=by
 cases ts with
 |nil=>grind
 |cons t ts=>
  constructor
  ·rintro⟨c,r,a,b⟩;rw[Nj]at a;exact⟨c,r,a,b⟩
  ·rintro⟨c,r,a,b⟩;exact⟨c,r,by rw[Nj];exact a,b⟩
theorem KD(x:Str): ∀{l r:Str},clsS l=some r->clsS (l++x)=some (r++x)
 |[],r,h=>by cases h
 |c::t,r,h=>by
  rw[clsS]at h;rw[Ya,clsS];cases t with
  |nil=>
   cases a:c==42&&atS ([]:Str) 0==47 with
   |true=>rw[Ea]at a;exact absurd a.2 (by decide)
   |false=>rw[a,Ja (by decide)]at h;cases h
  |cons d u=>
   rw[show atS ((d::u)++x) 0=atS (d::u) 0 from rfl];split
   ·grind
   ·rename_i a;rw[Ja a]at h;exact KD x h
theorem Rt{q x:Str}(h:cmtS q≠[])(a:([47,42]:Str).isPrefixOf (cmtS q++x)=false):cmtS (q++x)=cmtS q++x:=by
 rw[Mh q]at h a ⊢;split at h
 ·rename_i b;have c:=Vh b;rw[show([47,42]:Str).length=2 from rfl]at c;rw[Ka b]at a ⊢;cases d:clsS (q.drop 2)with
  |none=>grind
  |some p=>
   rw[d]at h a;simp only at h a ⊢;rw[Mh (q++x),Ep x (by exact c),b,Ka rfl,Yp c,KD x d];simp only;have e:p.length<q.length:=by have e:=(Cj _ d).2;rw[ib]at e;omega
   exact Rt h a
 ·rename_i b;rw[Ja b]at a ⊢;exact ZX a
termination_by q.length
decreasing_by omega
theorem nV{c d:UInt8}(t x:Str):([47,42]:Str).isPrefixOf ((c::d::t)++x)=([47,42]:Str).isPrefixOf (c::d::t):=Ep x (by grind)
theorem OJ{q x:Str}(h:2<=(cmtS q).length):cmtS (q++x)=cmtS q++x:=by refine Rt (Xm (by omega)) ?_;rw[Ep x (by exact h)];exact Jt q
theorem GL{c:UInt8}{r:Str}(h:(Zm (c::r)).2≠[]):2<=(c::r).length:=by
 have b:=(Ei c r).length_le;have a:=Ce.2 h
 grind
theorem dI: ∀{ts:List zb} {q R:Str} (x:Str),run q ts R->4<=R.length->run (q++x) ts (R++x)
 |[],q,R,x,h,_=>by rw[run]at h;subst h;rfl
 |t::ts,q,R,x,h,e=>by obtain⟨c,r,a,f,b⟩:=h;have i:=(Rs b).length_le;have d:=AV x (c:=c) (r:=r) (by omega);have g:=GL (c:=c) (r:=r) (Xm (by omega));refine⟨c,r++x,by rw[OJ (by rw[a];exact g),a];rfl,by rw[d];exact f,?_⟩;rw[d];exact dI x b e
theorem aC{q:Str}(y:Str)(h:cmtS q≠[]):cmtS (q++47::42::y)=cmtS q++47::42::y:=by
 refine Rt h ?_;have b:=Jt q;cases a:cmtS q with
 |nil=>exact absurd a h
 |cons c t=>
  cases t with
  |nil=>
   grind
  |cons d u=>grind
theorem DC: ∀{ts:List zb} {q R:Str} (y:Str),run q ts R->R≠[]->run (q++47::42::y) ts (R++47::42::y)
 |[],q,R,y,h,_=>by rw[run]at h;subst h;rfl
 |t::ts,q,R,y,h,hl=>by
  obtain⟨c,r,h1,h2,h3⟩:=h;have h4:(Zm (c::r)).2≠[]:=by intro e;have:=(Rs h3).length_le;rw[e]at this;exact hl (List.length_eq_zero_iff.1 (by simpa using this))
  have h5:=rT (42::y) h4;refine⟨c,r++47::42::y,by rw[aC y (by rw[h1];simp),h1];rfl,by rw[h5];exact h2,?_⟩;rw[h5];exact DC y h3 hl
def NH(q x:Str)(us:List zb):Prop:= ∃c r,cmtS q=c::r/\XB c r x/\(Zm (c::(r++x))).1=(Zm (c::r)).1/\ql (Zm (c::(r++x))).2=us
theorem mJ: ∀{ts us:List zb} {q R:Str} {x:Str},run q ts R->R≠[]->x≠[]->ql (q++x)=ts++us->run (q++x) ts (R++x)\/(R=[43]/\ ∃p,p<:+q/\NH p x us)
 |[],us,q,R,x,h,_,_,_=>by rw[run]at h;subst h;exact .inl rfl
 |t::ts,us,q,R,x,h,hl,hx,ht=>by
  obtain⟨c,r,h1,h2,h3⟩:=h;have h4:(Zm (c::r)).2≠[]:=by intro e;have:=(Rs h3).length_le;rw[e]at this;exact hl (List.length_eq_zero_iff.1 (by simpa using this))
  have hc:cmtS (q++x)=c::(r++x):=by rw[OJ (by rw[h1];exact GL h4),h1];rfl
  rw[Qu hc,Ya]at ht;injection ht with ht1 ht2;rcases UY h4 hx (by rw[ht1,h2])with h5|h5
  ·rw[h5]at ht2;rcases mJ h3 hl hx ht2 with h6|⟨h6,p,hp,h7⟩
   ·exact .inl ⟨c,r++x,hc,ht1,by rw[h5];exact h6⟩
   ·refine .inr ⟨h6,p,hp.trans ((Ei c r).trans ((lc c r).trans ?_)),h7⟩;rw[<-h1];exact Lh q
  ·right;have h43:=h5.2.1;have hR:R=[43]/\ts=[]:=by
    cases ts with
    |nil=>rw[run,h43]at h3;grind
    |cons u us'=> exfalso;rw[h43]at h3;obtain⟨c',r',e1,e2,e3⟩:=h3;rw[show cmtS [43]=[43]from ZX rfl]at e1;injection e1 with e4 e5;subst e4 e5;have:=(Rs e3).length_le;have h9:=(Ei (43:UInt8) []).length_le;simp_all
   obtain⟨hR,rfl⟩:=hR;refine⟨hR,q,Ad _,c,r,h1,h5,by rw[ht1,h2],?_⟩;rw[ht2];rfl
def encB(p:UInt8->Bool):Str->Str
 |[]=>[]
 |c::r=>(bif p c then escC c else [c])++encB p r
def quoB(c:UInt8):Bool:=c==10||c==12||c==13||c==34||c==92
def urB(c:UInt8):Bool:=decide (c.toNat<=32)||c==34||c==39||c==40||c==41||c==92||c==127
def Jh:Str->Bool
 |[]=>false
 |c::r=>(c==101||c==69)&&numS r&& !(List.isPrefixOf [45,45] r)
def Tf:Str->Str
 |[]=>[]
 |c::r=>bif Jh (c::r)then escC c++encW false 0 r else ZR (c::r)
def Tj(k:Int):Str:=
 bif k==13 then [32]else bif k==14 then [60,33,45,45]else bif k==15 then [45,45,62]else bif k==16 then [58]else bif k==17 then [59]else bif k==18 then [44]else
 bif k==19 then [91]else bif k==20 then [93]else bif k==21 then [40]else bif k==22 then [41]else bif k==23 then [123]else [125]
def txS(t:zb):Str:=
 bif t.kind==1 then ZR t.text
 else bif t.kind==2 then ZR t.text++[40]
 else bif t.kind==3 then 64::ZR t.text
 else bif t.kind==4 then 35::(bif t.flag then ZR t.text else encW false 0 t.text)
 else bif t.kind==5 then 34::(encB quoB t.text++[34])
 else bif t.kind==7 then [117,114,108,40]++(encB urB t.text++[41])
 else bif t.kind==9 then t.text
 else bif t.kind==10 then numT t.num (!t.flag)
 else bif t.kind==11 then numT t.num false++[37]
 else bif t.kind==12 then numT t.num (!t.flag)++Tf t.unit
 else Tj t.kind
theorem Mj(p:UInt8->Bool): ∀l:Str,(encB p l).length<=4*l.length
 |[]=>by unfold encB;simp
 |c::r=>by
  have:=QY c;have:=Mj p r;unfold encB
  grind
theorem PT{p:UInt8->Bool}{i:Nat}{l:Str}(h:i<l.length):encB p (l.drop i)=(bif p l[i]then escC l[i]else [l[i]])++encB p (l.drop (i+1)):=by rw[ja h,encB]
theorem PM {R:Type} {step:Int×List UInt8->Option (LO (Int×List UInt8) (List UInt8) R)} {l acc:Str} {p:UInt8->Bool} (hl:l.length<=100000) (ha:acc.length<=100000000)
  (h1: ∀(i:Nat) (a:Str) (hi:i<l.length),a.length<=500000000->step ((i:Int),a)=some (.again (w64 ((i:Int)+1),a++(bif p l[i]then escC l[i]else [l[i]]))))
  (h2: ∀a,step ((l.length:Int),a)=some (.out a)):Lf step (0,acc)=some (.out (acc++encB p l)):=by
 refine Zw (fun z=> ∃(i:Nat) (a:Str),z=((i:Int),a)/\i<=l.length/\a.length<=acc.length+4*i/\a++encB p (l.drop i)=acc++encB p l) (fun z=>l.length - z.1.toNat) _ ?_ ⟨0,acc,rfl,by omega,by omega,rfl⟩;rintro _ ⟨i,a,rfl,hi,hal,he⟩;rcases Yc i l.length with h|h
 ·refine .inl ⟨_,h1 i a h (by omega),⟨i+1,_,by rw[zK (by omega) (by omega)];rfl,by omega,?_,?_⟩,by simp only;rw[zK (by omega) (by omega)];omega⟩
  ·have:=QY l[i]
   grind
  ·rw[<-he,PT h,Oa]
 ·have:i=l.length:=by omega
  subst this;refine .inr (.inl ⟨_,h2 a,?_⟩);rw[<-he,jd (Va _)];rw[show encB p []=[] by rw[encB],Xa]
theorem SE{l acc:Str}{k:Nat}(d:l.length<=100000)(b:acc.length<=100000000):qD ((l,(k:Int)),acc)=some (acc++encW (El k l) k l):=by
 unfold qD;rw[Za (WS (dash:=El k l) (k:=k) (l:=l) (acc:=acc) d b (fun i a f b=> ?_) (fun a=> ?_))]
 ·have g:decide ((i:Int)<(l.length:Int))=true:=Fa (by omega);have e:geti l (i:Int)=some l[i]:=Z8 f;have j:decide ((i:Int)>=(k:Int))=(k - i==0):=by
   by_cases h:k<=i
   ·grind
   ·grind
  have m:((k:Int)==0)=(k==0):=by
   by_cases h:k=0
   ·subst h;rfl
   ·grind
  simp only[g,Ca,e,j,m,ze,Aa,IU,pI];have c:(bif k==0 then true else !(l==[45]))= !El k l:=by unfold El;cases k==0<;>cases l==[45]<;>rfl
  rw[c];unfold pcW;cases letB l[i]with
  |false=>
   cases k - i==0<;>simp only[zt,Db,ma,Be,Ac,Ib,Ca,Ba,Aa,Hq l[i] (show a.length<=1000000000 by omega),zh]
  |true=> cases k - i==0<;>cases digB l[i]<;>cases El k l<;>simp only[zt,Db,ma,Be,Ac,Ib,ae,Ke,Eb,Jc,Wd,Ca,Ba,Aa,Mt,zm (Kg (show a.length+1<=2000000000 by omega)),Hq l[i] (show a.length<=1000000000 by omega),zh]
 grind
theorem aZ(l:Str):El (ZP l) l=(l==[45]):=by unfold El ZP;split<;>rfl
theorem Ir{l acc:Str}(a:l.length<=100000)(b:acc.length<=100000000):qD ((l,((ZP l:Nat):Int)),acc)=some (acc++ZR l):=by rw[SE a b,aZ];rfl
theorem vU{n:Nat}{b:Str}(c:n<=1000000000000)(d:b.length<=100000):Sm (((n:Int),10),b)=some (b++Lib.decDigits n):=by have a:short b=true:=Fa (by omega);unfold Sm;simp only[a,Ib,Ra,decide_true,Eb];rw[Fa (by omega),Fa (by omega)];rfl
theorem fO{m:Nat}(n:m<=1000000000000)(p:Bool)(b:Str)(o:b.length<=90000):
  ((Sm ((w64 (Int.tdiv (m:Int) 1000),10),b)).bind fun a=>(Jm (w64 (1000+Int.tmod (m:Int) 1000),10)).bind fun d=>need (decide (1<=(d.length:Int)))<|
   (sj (List.drop 1 d,[48])).bind fun c=>zX (X:=List UInt8) (R:=List UInt8) (bif !(c==[])then need (zQ a.length 1 1)<|need (zQ (a++[(46:UInt8)]).length c.length 1)<|some (LX.out (a++[(46:UInt8)]++c))else bif p then need (zQ a.length ([46,48]:Str).length 1)<|some (LX.out (a++([46,48]:Str)))else some (LX.out a)) fun l=>some l)=some (b++Vf m p):=by
 have k:w64 (Int.tdiv (m:Int) 1000)=((m / 1000:Nat):Int):=by rw[show Int.tdiv (m:Int) 1000=((m / 1000:Nat):Int)from rfl,zK (by omega) (by omega)]
 have j:w64 (1000+Int.tmod (m:Int) 1000)=((1000+m%1000:Nat):Int):=by rw[show Int.tmod (m:Int) 1000=((m%1000:Nat):Int)from rfl,zK (by omega) (by omega)];omega
 have f:m%1000<1000:=by omega
 rw[k,j];have i:Jm (((1000+m%1000:Nat):Int),10)=some (49::[d48 (m%1000 / 100),d48 (m%1000 / 10%10),d48 (m%1000%10)]):=by unfold Jm i64B;simp only[decide_true,Eb];rw[Fa (by omega),Fa (by omega)];rw[<-wK f];show some (Lib.itoa _)=_;unfold Lib.itoa;rw[Ja (by omega),Ra]
 have e:=Gu (u:=m / 1000) (by omega);rw[vU (by omega) (by omega),Aa,i,Aa,zm (Fa (by simp))];have g:sj (List.drop 1 (49::[d48 (m%1000 / 100),d48 (m%1000 / 10%10),d48 (m%1000%10)]),[48])=some (mg (m%1000)):=rfl;rw[g,Aa,FZ];have h:=Xy _ f;simp only[kr,Ea,Jb]at h;unfold Vf Ni;cases (mg (m%1000)).isEmpty with
 |true=>
  simp only[Db,Ba,Ca];cases p with
  |true=>rw[Ca,zm (ai (by grind) (by omega)),zh,Oa];rfl
  |false=>simp_all
 |false=> simp only[ma,Ba,Ca];rw[zm (ai (by grind) (by omega)),zm (ai (by grind) (by omega)),zh,Oa,Oa];rfl
theorem PG{n:Int}(d: -1000000000000<=n)(h2:n<=1000000000000)(p:Bool){acc:Str}(c:acc.length<=80000):Qo ((n,p),acc)=some (acc++numT n p):=by
 unfold Qo numT;simp only[ze];by_cases a:n<0
 ·obtain⟨m,rfl⟩: ∃m:Nat,n= -(m:Int):=⟨n.natAbs,by omega⟩;rw[Fa a,Ca,zm (ai (by omega) (by omega)),zh,Ka a];simp only;have b:w64 (0 - -(m:Int))=(m:Int):=by rw[show(0 - -(m:Int))=(m:Int) by omega,zK (by omega) (by omega)]
  rw[b,Int.natAbs_neg,Int.natAbs_natCast,<-Oa];exact fO (by omega) p (acc++[45]) (by grind)
 ·obtain⟨m,rfl⟩: ∃m:Nat,n=(m:Int):=⟨n.toNat,by omega⟩;rw[Ua a,Ba,zh,Ja a];simp only;rw[Int.natAbs_natCast,Yb];exact fO (by omega) p acc (by omega)
theorem AU: ∀n:Nat,n<256->(ibOr IntKind.u8 (n:Int) 32==101)=(UInt8.ofNat n==101||UInt8.ofNat n==69):=by decide+kernel
theorem BU(c:UInt8):(ibOr IntKind.u8 (c.toNat:Int) 32==101)=(c==101||c==69):=by have:=AU c.toNat (aa c);simp_all
theorem wR(c:UInt8):decide (Lib.indexByte [10,12,13,34,92] c.toNat.toUInt8>=0)=quoB c:=by
 have: ∀n:Nat,n<256->decide (Lib.indexByte [10,12,13,34,92] n.toUInt8>=0)=quoB (UInt8.ofNat n):=by decide+kernel
 have:=this c.toNat (aa c);simp_all
theorem dS(c:UInt8):(decide ((c.toNat:Int)<=32)||decide (Lib.indexByte [34,39,40,41,92,127] c.toNat.toUInt8>=0))=urB c:=by
 have: ∀n:Nat,n<256->(decide ((n:Int)<=32)||decide (Lib.indexByte [34,39,40,41,92,127] n.toUInt8>=0))=urB (UInt8.ofNat n):=by decide+kernel
 have:=this c.toNat (aa c);simp_all
theorem jN {t:zb} (h:Nf t=true) (e:(t.kind==1)=false) (h2:(t.kind==2)=false) (g:(t.kind==3)=false) (d:(t.kind==4)=false) (i:(t.kind==5)=false) (j:(t.kind==7)=false) (f:(t.kind==9)=false)
  (c:(t.kind==10)=false) (b:(t.kind==11)=false) (a:(t.kind==12)=false):13<=t.kind/\t.kind<=24:=by
 unfold Nf at h
 grind
theorem JV: ∀n:Nat,n<12->(Xu ()).bind (fun a=>geti [a.e0,a.e1,a.e2,a.e3,a.e4,a.e5,a.e6,a.e7,a.e8,a.e9,a.e10,a.e11] (wu8 ((13+n:Int) - 13)))=some (Tj (13+n:Int)):=by decide+kernel
theorem oF(k:Int):(Tj k).length<=4:=by
 unfold Tj;cases k==13<;>cases k==14<;>cases k==15<;>simp only[Ca,Ba]<;>try (simp;done)
 grind
theorem nU{t:zb}{acc:Str}(x:Nf t=true)(R:t.text.length<=5000)(h2:t.unit.length<=5000)(ha:acc.length<=60000):Sq (t,acc)=some (acc++txS t):=by
 have one: ∀q:Str,q.length<=90000->zQ q.length 1 1=true:=fun q hq=>ai (by omega) (by omega);have z: ∀l:Str,l.length<=5000->(ZR l).length<=20000:=fun l hl=>by have:=Gi (l==[45]) (ZP l) l;unfold ZR;omega
 unfold Sq txS;simp only[ze];cases H:t.kind==1 with
 |true=>simp only[Ca,Au,Aa,Ir (show t.text.length<=100000 by omega) (show acc.length<=100000000 by omega)]
 |false=>
 cases L:t.kind==2 with
 |true=> simp only[Ca,Ba,Au,Aa,Ir (show t.text.length<=100000 by omega) (show acc.length<=100000000 by omega)];have:=z t.text R;rw[zm (one _ (by grind)),Oa]
 |false=>
 cases M:t.kind==3 with
 |true=> simp only[Ca,Ba,Au,Aa];rw[zm (one _ (by omega)),Ir (by omega) (by grind),Oa];rfl
 |false=>
 cases Q:t.kind==4 with
 |true=>
  simp only[Ca,Ba,Au,Aa];cases t.flag with
  |true=> simp only[Ca,zh];rw[zm (one _ (by omega)),Ir (by omega) (by grind),Oa];rfl
  |false=> simp only[Ba,zh];rw[zm (one _ (by omega)),show(0:Int)=((0:Nat):Int)from rfl,SE (by omega) (by grind),Oa];rfl
 |false=>
 cases P:t.kind==5 with
 |true=>
  simp only[Ca,Ba];have k:maxLen=9223372036854775807:=rfl;rw[zm (one _ (by omega)),zm (Fa (by omega))];have C:=Mj quoB t.text;rw[Za (PM (p:=quoB) (l:=t.text) (acc:=acc++[34]) (by omega) (by grind) (fun i a F y=> ?_) (fun a=> ?_))]
  ·rw[zm (one _ (by grind)),Oa,Oa];rfl
  ·have D:decide ((i:Int)<(t.text.length:Int))=true:=Fa (by omega);have A:decide ((0:Int)<=(i:Int))=true:=Fa (by omega);simp only[D,A,Ib,Ca,Zd,Ra,Sa F,Aa,GA,wR];cases quoB t.text[i]with
   |true=>simp only[Ca,Hq _ (show a.length<=1000000000 by omega),Aa,zh]
   |false=>simp only[Ba,Mt,Aa,zm (Kg (show a.length+1<=2000000000 by omega)),zh]
  ·grind
 |false=>
 cases O:t.kind==7 with
 |true=>
  simp only[Ca,Ba];have k:maxLen=9223372036854775807:=rfl;rw[zm (ai (by grind) (by omega)),zm (Fa (by omega))];have C:=Mj urB t.text;rw[Za (PM (p:=urB) (l:=t.text) (acc:=acc++[117,114,108,40]) (by omega) (by grind) (fun i a F y=> ?_) (fun a=> ?_))]
  ·rw[zm (one _ (by grind)),Oa,Oa]
  ·have D:decide ((i:Int)<(t.text.length:Int))=true:=Fa (by omega);have A:decide ((0:Int)<=(i:Int))=true:=Fa (by omega);simp only[D,A,Ib,Ca,Zd,Ra,Sa F,Aa,GA];rw[<-dS];cases decide ((t.text[i].toNat:Int)<=32)with
   |true=>simp only[Db,Zb,Aa,Ca,Wd,Hq _ (show a.length<=1000000000 by omega),zh]
   |false=>
    simp only[ma,zH,Aa,Ba,Jc];cases decide (Lib.indexByte [34,39,40,41,92,127] t.text[i].toNat.toUInt8>=0)with
    |true=>simp only[Ca,Hq _ (show a.length<=1000000000 by omega),Aa,zh]
    |false=>simp only[Ba,Mt,Aa,zm (Kg (show a.length+1<=2000000000 by omega)),zh]
  ·grind
 |false=>
 cases N:t.kind==9 with
 |true=> simp only[Ca,Ba];rw[zm (ai (by omega) (by omega))]
 |false=>
 have g:(t.kind==10||t.kind==11||t.kind==12)=true->rngS t=true/\(!(t.unit==[])==(t.kind==12))=true:=by intro Z;unfold Nf at x;simp only[H,L,M,Q,P,O,N,Z,Bool.or_self,Ba,Ca,Ea]at x;exact⟨x.1,x.2.1⟩
 have b:rngS t=true-> -1000000000000<=t.num/\t.num<=1000000000000:=by intro j;unfold rngS at j;simp only[Ea,Jb]at j;exact⟨j.1,j.2.1⟩
 cases s:t.kind==10 with
 |true=> obtain⟨u,w⟩:=b (g (by rw[s];rfl)).1;simp only[Ca,Ba,PG u w _ (show acc.length<=80000 by omega),Aa]
 |false=>
 cases E:t.kind==11 with
 |true=>
  obtain⟨u,w⟩:=b (g (by grind)).1;have T:(numT t.num false).length<=25:=by
   have:=Yt (m:=t.num.natAbs) (by omega) false;unfold numT;rw[Ha];split
   ·grind
   ·grind
  simp only[Ca,Ba,PG u w _ (show acc.length<=80000 by omega),Aa];rw[zm (one _ (by grind)),Oa]
 |false=>
 cases o:t.kind==12 with
 |true=>
  obtain⟨j,X⟩:=g (by grind);obtain⟨u,w⟩:=b j;rw[o]at X;have T:(numT t.num (!t.flag)).length<=25:=by
   have:=Yt (m:=t.num.natAbs) (by omega) (!t.flag);unfold numT;rw[Ha];split
   ·grind
   ·grind
  simp only[Ca,Ba,PG u w _ (show acc.length<=80000 by omega),Aa];cases G:t.unit with
  |nil=>grind
  |cons c r=>
   rw[G,Ia]at h2;have h:geti (c::r) 0=some c:=rfl;have B:List.drop 1 (c::r)=r:=rfl;have f:decide (1<=((c::r:Str).length:Int))=true:=Fa (by grind);simp only[h,B,f,Wd,Zd,Aa,BU,IQ,Xq,Au];have v:(acc++numT t.num (!t.flag)).length<=100000000:=by rw[Ha];omega
   have d:=Ir (l:=c::r) (acc:=acc++numT t.num (!t.flag)) (by grind) v;have e:Tf (c::r)=(bif (c==101||c==69)&&numS r&& !(List.isPrefixOf [45,45] r)then escC c++encW false 0 r else ZR (c::r)):=rfl;rw[e];have Y:(c==101||c==69)=true->ZZ ((c.toNat:Int),acc++numT t.num (!t.flag))=some (acc++numT t.num (!t.flag)++escC c):=fun _=>Hq c (by grind);cases S:c==101||c==69 with
   |false=> simp_all
   |true=>
    simp only[zH,Aa,Ca,Eb];cases J:numS r with
    |false=> simp_all
    |true=>
     simp only[zH,Aa,Ca,Eb];cases hp:List.isPrefixOf [45,45] r with
     |true=> simp only[Db,Ba,d,Aa];rw[Oa]
     |false=> simp only[ma,Ca,Y S,Aa];have K:=QY c;rw[show(0:Int)=((0:Nat):Int)from rfl,SE (by omega) (by rw[Ha,Ha];omega)];rw[Oa,Oa];rfl
 |false=>
 obtain⟨W,V⟩:=jN x H L M Q P O N s E o;obtain⟨n,J⟩: ∃n:Nat,t.kind=13+(n:Int):=⟨(t.kind - 13).toNat,by omega⟩;have h:=JV n (by omega);rw[<-J]at h;have k:=oF t.kind;simp only[Ba];have U:Xu ()=some ⟨[32],[60,33,45,45],[45,45,62],[58],[59],[44],[91],[93],[40],[41],[123],[125]⟩:=rfl;rw[U]at h ⊢;simp only[Aa]at h ⊢;rw[h];simp only[Aa];rw[zm (ai (by omega) (by omega))]
theorem gm{c:UInt8}(h0:c≠0)(h:c.toNat<128)(R:Str): ∃d t,escC c++R=92::d::t/\(d==10)=false/\zq (d::t)=([c],R):=by
 unfold escC;cases hg:decide (32<c.toNat)&&decide (c.toNat<127)&& !digB c&& !alB c with
 |true=>
  have hx:qA c=false/\(c==10)=false:=by
   have: ∀n:Nat,n<256->(decide (32<(UInt8.ofNat n).toNat)&&decide ((UInt8.ofNat n).toNat<127)&& !digB (UInt8.ofNat n)&& !alB (UInt8.ofNat n))=true->qA (UInt8.ofNat n)=false/\(UInt8.ofNat n==10)=false:=by decide+kernel
   have:=this c.toNat (aa c);rw[Kc]at this;exact this hg
  exact⟨c,R,rfl,hx.2,by show(if qA c then _ else _)=_;grind⟩
 |false=> obtain⟨d,t,e,hd,h10⟩:=YF (n:=c.toNat) (aa c) ([32]++R);refine⟨d,t,by grind,h10,?_⟩;have hh:=GJ (n:=c.toNat) (aa c) R;rw[show(32::R:Str)=[32]++R from rfl,e]at hh;show(if qA d then(rf (hexes 6 0 (d::t)).1,unsp (hexes 6 0 (d::t)).2)else _)=_;rw[Ka hd,hh,xL h0 h];rfl
theorem aS(n:Nat):rf n≠[]:=by
 unfold rf Ji
 grind
theorem WZ(r:Str):(zq r).1≠[]:=by
 cases r with
 |nil=>show Ji≠[];decide
 |cons c r=>
  show(if qA c then(rf (hexes 6 0 (c::r)).1,unsp (hexes 6 0 (c::r)).2)else([c],r)).1≠[];split
  ·exact aS _
  ·simp
theorem Uz{x:Str}(h:(zo x).1=[]):(zo x).2=x:=by
 cases x with
 |nil=>rw[qB]
 |cons c r=>
  rw[zO]at h ⊢;split
  ·grind
  ·rename_i b;rw[Ja b]at h;split
   ·rename_i a;rw[Ka a]at h;exact absurd (List.append_eq_nil_iff.1 h).1 (WZ r)
   ·rfl
theorem QB{c:UInt8}{r:Str}(h:Zp (c::r)=true):c≠0/\Zp r=true:=by
 unfold Zp at h ⊢
 grind
theorem sF{dash:Bool}(R:Str): ∀(k:Nat) (l:Str),Zp l=true->(dash=true-> ∀c∈l,c.toNat<128)->zo (encW dash k l++R)=(l++(zo R).1,(zo R).2)
 |_,[],_,_=>by rw[encW];rfl
 |k,c::r,h,a=>by obtain⟨f,d⟩:=QB h;rw[encW,Oa,kI f (fun e=>a e c (Vb ..)),sF R (k - 1) r d (fun e x b=>a e x (Rb _ b))];rfl
theorem ek{l:Str}(R:Str)(h:Zp l=true):zo (ZR l++R)=(l++(zo R).1,(zo R).2):=by refine sF R _ _ h (fun e c a=> ?_);simp_all
theorem lL{l:Str}(R:Str)(k:Nat)(h:Zp l=true):zo (encW false k l++R)=(l++(zo R).1,(zo R).2):=sF R k l h (fun e=>by cases e)
theorem lX(c:UInt8):(quoB c=true->c.toNat<128)/\(quoB c=false->(c==34)=false/\(c==10)=false/\(c==92)=false):=by
 have: ∀n:Nat,n<256->(quoB (UInt8.ofNat n)=true->(UInt8.ofNat n).toNat<128)/\(quoB (UInt8.ofNat n)=false->(UInt8.ofNat n==34)=false/\(UInt8.ofNat n==10)=false/\(UInt8.ofNat n==92)=false):=by decide+kernel
 have:=this c.toNat (aa c);simp_all
theorem sJ(x:Str): ∀(l:Str),Zp l=true->zY 34 (encB quoB l++34::x)=(some l,x)
 |[],_=>by rw[encB,Yb,qP,Ka (by decide)]
 |c::r,h=>by
  obtain⟨f,k⟩:=QB h;have m:=sJ x r k;obtain⟨p,j⟩:=lX c;rw[encB,Oa];cases a:quoB c with
  |true=>
   obtain⟨d,t,o,n,b⟩:=gm f (p a) (encB quoB r++34::x);rw[Ca,o,qP,Ja (by decide),Ja (by decide),Ka (by decide),show(d::t).isEmpty=false from rfl,Ja (by decide),show atS (d::t) 0=d from rfl,n,Ja (by decide),b]
   grind
  |false=> obtain⟨g,i,e⟩:=j a;rw[Ba,Lc,qP,g,Ja (by decide),i,Ja (by decide),e,Ja (by decide),m];rfl
theorem YJ(c:UInt8):(urB c=true->c.toNat<128)/\(urB c=false->(c==41)=false/\spB c=false/\(c==34||c==39||c==40||unB c)=false/\(c==92)=false/\(c==34)=false/\(c==39)=false):=by
 have: ∀n:Nat,n<256->(urB (UInt8.ofNat n)=true->(UInt8.ofNat n).toNat<128)/\(urB (UInt8.ofNat n)=false->(UInt8.ofNat n==41)=false/\spB (UInt8.ofNat n)=false/\(UInt8.ofNat n==34||UInt8.ofNat n==39||UInt8.ofNat n==40||unB (UInt8.ofNat n))=false/\(UInt8.ofNat n==92)=false/\(UInt8.ofNat n==34)=false/\(UInt8.ofNat n==39)=false):=by decide+kernel
 have:=this c.toNat (aa c);simp_all
theorem rJ(x:Str): ∀(l:Str),Zp l=true->urlS (encB urB l++41::x)=(some l,x)
 |[],_=>by rw[encB,Yb,Qv,Ka (by decide)]
 |c::r,h=>by
  obtain⟨g,n⟩:=QB h;have o:=rJ x r n;obtain⟨s,k⟩:=YJ c;rw[encB,Oa];cases a:urB c with
  |true=>
   obtain⟨d,t,q,p,e⟩:=gm g (s a) (encB urB r++41::x);have m:escS (92::d::t)=true:=by unfold escS;rw[show atS (92::d::t) 1=d from rfl,p];rfl
   rw[Ca,q,Qv,Ja (by decide),Ja (by decide),m,Ja (by decide),Ka (by decide),e]
   grind
  |false=> obtain⟨i,j,f,b,_,_⟩:=k a;rw[Ba,Lc,Qv,i,Ja (by decide),j,Ja (by decide),f,b,Ac,Ke,Ja (by decide),Ja (by decide),o];rfl
theorem eU(x:Str)(l:Str)(h:Zp l=true):past spB (encB urB l++41::x)=encB urB l++41::x/\(atS (encB urB l++41::x) 0==34||atS (encB urB l++41::x) 0==39)=false:=by
 cases l with
 |nil=>exact⟨rfl,rfl⟩
 |cons c r=>
  obtain⟨b,q⟩:=QB h;obtain⟨k,f⟩:=YJ c;rw[encB,Oa];cases a:urB c with
  |true=> obtain⟨d,t,i,s,n⟩:=gm b (k a) (encB urB r++41::x);rw[Ca,i];exact⟨rfl,rfl⟩
  |false=> obtain⟨p,e,o,m,j,g⟩:=f a;rw[Ba,Lc];refine⟨by rw[past,e];rfl,?_⟩;show(c==34||c==39)=false;rw[j,g];rfl
theorem RU{n:Int}{p:Bool}:(partT (n.natAbs%1000) p).isEmpty=((n.natAbs%1000==0)&& !p):=(Fj (r:=n.natAbs%1000) (by omega) p).2.2.2.2
def sgT(n:Int):Str:=if n<0 then [45]else []
theorem Xr(n:Int)(p:Bool):numT n p=sgT n++(Lib.decDigits (n.natAbs / 1000)++dotS (if(partT (n.natAbs%1000) p).isEmpty then none else some (partT (n.natAbs%1000) p))):=by
 have h:=(Fj (r:=n.natAbs%1000) (by omega) p).2.2.2.1;unfold numT Vf sgT;rw[h];cases (partT (n.natAbs%1000) p).isEmpty with
 |true=>rfl
 |false=>rfl
theorem q2_T(n:Int)(p:Bool)(x:Str):Ff (numT n p++x)=past digB (dotS (if(partT (n.natAbs%1000) p).isEmpty then none else some (partT (n.natAbs%1000) p))++x):=by
 obtain⟨d,f,g⟩:=Yo (n.natAbs / 1000);obtain⟨c,r,e,a⟩:=Cu (n.natAbs / 1000);rw[Xr];generalize dotS _=t;unfold Ff;have b:unsign ((sgT n++(Lib.decDigits (n.natAbs / 1000)++t))++x)=Lib.decDigits (n.natAbs / 1000)++(t++x):=by
  unfold sgT;split
  ·rw[Oa,Lc,Oa];rfl
  ·rw[Yb,Oa,e,Ya];unfold unsign Jf;rw[show atS (c::(r++(t++x))) 0=c from rfl,Ga.2 (Qc a).2.1,Ga.2 (Qc a).1];rfl
 rw[b,Eu _ _ d]
theorem wE{n:Int}{p:Bool}:(partT (n.natAbs%1000) p).all digB=true:=(Fj (r:=n.natAbs%1000) (by omega) p).1
theorem ED{n:Int}{p:Bool}(h:(partT (n.natAbs%1000) p).isEmpty=true)(x:Str):zy (numT n p++x)=(match expS (zT (past digB x)).1 with|some r=>(r,false)|none=>zT (past digB x)):=by rw[Qd,q2_T,h];rfl
theorem KC{n:Int}{p:Bool}(h:(partT (n.natAbs%1000) p).isEmpty=false)(x:Str):zy (numT n p++x)=(match expS (past digB x)with|some r=>(r,false)|none=>(past digB x,false)):=by
 obtain⟨c,r,b⟩: ∃c r,partT (n.natAbs%1000) p=c::r:=by
  cases f:partT (n.natAbs%1000) p with
  |nil=>grind
  |cons c r=>grind
 have a:=wE (n:=n) (p:=p);rw[Qd,q2_T,h];have e:past digB (dotS (some (partT (n.natAbs%1000) p))++x)=46::(partT (n.natAbs%1000) p++x):=rfl;rw[show(if false=true then none else some (partT (n.natAbs%1000) p))=some (partT (n.natAbs%1000) p)from rfl,e];have g:zT (46::(partT (n.natAbs%1000) p++x))=(past digB x,false):=by
  have d:digB c=true:=by rw[b,Uc,Ea]at a;exact a.1
  unfold zT;rw[show atS (46::(partT (n.natAbs%1000) p++x)) 1=c by rw[b];rfl,d,show(atS (46::(partT (n.natAbs%1000) p++x)) 0==46&&true)=true from rfl,Ka rfl];rw[show(46::(partT (n.natAbs%1000) p++x)).drop 1=partT (n.natAbs%1000) p++x from rfl,Eu _ _ a]
 grind
theorem sQ(n:Int)(p:Bool)(x:Str):nbS (numT n p++x)=true:=by
 obtain⟨c,r,b,a⟩:=Cu (n.natAbs / 1000);rw[Xr,b];unfold nbS;have d:unsign ((sgT n++(c::r++dotS (if(partT (n.natAbs%1000) p).isEmpty then none else some (partT (n.natAbs%1000) p))))++x)=c::(r++dotS (if(partT (n.natAbs%1000) p).isEmpty then none else some (partT (n.natAbs%1000) p))++x):=by
  unfold sgT;split
  ·rfl
  ·unfold unsign Jf;show(if(c==43||c==45)then _ else _)=_;rw[Ga.2 (Qc a).2.1,Ga.2 (Qc a).1];rfl
 rw[d];unfold undot;rw[show atS (c::(r++dotS (if(partT (n.natAbs%1000) p).isEmpty then none else some (partT (n.natAbs%1000) p))++x)) 0=c from rfl,Ga.2 (Qc a).2.2.1,Ja (by decide)];exact a
theorem BB{n:Int}(c: -1000000000000<=n)(h2:n<=1000000000000){p:Bool}{x:Str}(f:(zy (numT n p++x)).1=x):(numP (numT n p++x)).val=n:=by
 have h:=Sz (numT n p++x);rw[f]at h;have b:=yw (sQ n p x);have d:=(Wj c h2 p).1;have a:=C8 c h2 p;generalize numP (numT n p++x)=N at h b ⊢;have g:N.txt=numT n p:=(List.append_left_inj x).1 h;rw[<-g]at a d;have e:=JQ b (Ic d (by decide));rw[a]at e
 grind
theorem ol(n:Int)(p:Bool)(x:Str): ∃c r,numT n p++x=c::r/\(c==45||digB c)=true/\spB c=false/\(c==34||c==39)=false/\(c==35)=false/\c≠47:=by
 obtain⟨c,r,hc,hcd⟩:=Cu (n.natAbs / 1000);have key: ∀d:UInt8,(d==45||digB d)=true->spB d=false/\(d==34||d==39)=false/\(d==35)=false/\d≠47:=by
  intro d;have: ∀n:Nat,n<256->(UInt8.ofNat n==45||digB (UInt8.ofNat n))=true->spB (UInt8.ofNat n)=false/\(UInt8.ofNat n==34||UInt8.ofNat n==39)=false/\(UInt8.ofNat n==35)=false/\UInt8.ofNat n≠47:=by decide+kernel
  have:=this d.toNat (aa d)
  rwa [Kc]at this
 rw[Xr,hc];unfold sgT
 grind
theorem Hr(n:Int)(p:Bool)(x:Str):Zm (numT n p++x)=zB (numT n p++x):=by obtain⟨c,r,e,g,f,d,b,h⟩:=ol n p x;have a:=sQ n p x;rw[e]at a ⊢;rw[Mq,f,Ja (by decide),d,Ja (by decide),b,Ac,Ja (by decide),a,Ka rfl]
inductive zfq:zb->Prop
 |cId (l:Str) (h0:l≠[]) (h:Zp l=true):zfq ⟨1,l,0,[],false⟩
 |cFn (l:Str) (h0:l≠[]) (h:Zp l=true):zfq ⟨2,l,0,[],false⟩
 |cAt (l:Str) (h0:l≠[]) (h:Zp l=true):zfq ⟨3,l,0,[],false⟩
 |cHash (l:Str) (f:Bool) (h0:l≠[]) (h:Zp l=true) (hb:f=true\/oh l=true):zfq ⟨4,l,0,[],f⟩
 |cStr (l:Str) (h:Zp l=true):zfq ⟨5,l,0,[],false⟩
 |cUrl (l:Str) (h:Zp l=true):zfq ⟨7,l,0,[],false⟩
 |cDel (c:UInt8) (h:vg c.toNat=true):zfq ⟨9,[c],0,[],false⟩
 |cNum (n:Int) (f:Bool) (h1: -1000000000000<=n) (h2:n<=1000000000000) (hf:f=true->Int.tmod n 1000=0):zfq ⟨10,[],n,[],f⟩
 |cPct (n:Int) (h1: -1000000000000<=n) (h2:n<=1000000000000):zfq ⟨11,[],n,[],false⟩
 |cDim (n:Int) (u:Str) (f:Bool) (h1: -1000000000000<=n) (h2:n<=1000000000000) (hf:f=true->Int.tmod n 1000=0) (h0:u≠[]) (h:Zp u=true):zfq ⟨12,[],n,u,f⟩
 |cMark (k:Int) (h1:13<=k) (h2:k<=24):zfq ⟨k,[],0,[],false⟩
theorem Yl{t:zb}(h:Nf t=true):zfq t:=by
 obtain⟨k,l,n,u,f⟩:=t;unfold Nf at h;simp only at h;by_cases h1:(k==1||k==2||k==3)=true
 ·rw[h1,Ca]at h;simp only[Ea,Ee,Ga,Ab]at h;obtain⟨a,b,rfl,rfl,rfl⟩:=h;simp only[Gc,Ab]at h1;rcases h1 with(rfl|rfl)|rfl
  ·exact .cId l a b
  ·exact .cFn l a b
  ·exact .cAt l a b
 ·rw[Bool.not_eq_true]at h1;rw[h1,Ba]at h;by_cases h4:(k==4)=true
  ·rw[h4,Ca]at h;simp only[Ea,Ee,Ga,Ab,Gc]at h;obtain⟨a,b,c,rfl,rfl⟩:=h;rw[Ab]at h4;subst h4;exact .cHash l f a b c
  ·rw[Bool.not_eq_true]at h4;rw[h4,Ba]at h;by_cases h5:(k==5||k==7)=true
   ·rw[h5,Ca]at h;simp only[Ea,Ee,Ab]at h;obtain⟨b,rfl,rfl,rfl⟩:=h;simp only[Gc,Ab]at h5;rcases h5 with rfl|rfl
    ·exact .cStr l b
    ·exact .cUrl l b
   ·rw[Bool.not_eq_true]at h5;rw[h5,Ba]at h;by_cases h9:(k==9)=true
    ·rw[h9,Ca]at h;simp only[Ea,Ee,Ab]at h;obtain⟨b,rfl,rfl,rfl⟩:=h;rw[Ab]at h9;subst h9;unfold delS at b;split at b
     ·exact .cDel _ b
     ·cases b
    ·rw[Bool.not_eq_true]at h9;rw[h9,Ba]at h;by_cases h10:(k==10||k==11||k==12)=true
     ·rw[h10,Ca]at h;unfold rngS at h;simp only[Ea,Jb,Gc,Ee,Ab]at h;obtain⟨⟨a1,a2,a3⟩,a4,a5,a6,rfl⟩:=h;have hf:f=true->Int.tmod n 1000=0:=by
       intro e;rcases a3 with a3|a3
       ·grind
       ·exact a3
      simp only[Gc,Ab]at h10;rcases h10 with(rfl|rfl)|rfl
      ·have:u=[]:=by
        cases u with
        |nil=>rfl
        |cons c r=>grind
       subst this;exact .cNum n f a1 a2 hf
      ·have:u=[]:=by
        cases u with
        |nil=>rfl
        |cons c r=>grind
       subst this;have:f=false:=by
        rcases a6 with a6|a6
        ·grind
        ·exact a6
       subst this;exact .cPct n a1 a2
      ·have:u≠[]:=by rintro rfl;exact absurd a4 (by decide)
       exact .cDim n u f a1 a2 hf this a5
     ·rw[Bool.not_eq_true]at h10;rw[h10,Ba]at h;simp only[Ea,Ee,Jb,Ab]at h;obtain⟨⟨a1,a2⟩,rfl,rfl,rfl,rfl⟩:=h;exact .cMark k a1 a2
def neu(x:Str):Prop:=x=[]\/ ∃y,x=47::y
theorem JS{x:Str}(a:neu x)(c:UInt8)(r:Str):brS c (r++x)=brS c r:=by
 rcases a with rfl|⟨y,rfl⟩
 ·grind
 ·exact RH c r y
theorem Ex{x:Str}(a:neu x)(q:Str):nmS (q++x)=nmS q:=by
 rcases a with rfl|⟨y,rfl⟩
 ·grind
 ·exact Br q y
theorem Vz{x:Str}(a:neu x):zo x=([],x):=by
 rcases a with rfl|⟨y,rfl⟩
 ·exact qB
 ·rw[zO,Ja (by decide),show escS (47::y)=false from rfl,Ja (by decide)]
theorem yJ{p:UInt8->Bool}(h:p 47=false){x:Str}(a:neu x):past p x=x:=by
 rcases a with rfl|⟨y,rfl⟩
 ·rfl
 ·rw[past,h];rfl
theorem PS{x:Str}(a:neu x):atS x 0=0\/atS x 0=47:=by
 rcases a with rfl|⟨y,rfl⟩
 ·exact .inl rfl
 ·exact .inr rfl
theorem GN(c:UInt8)(r:Str):Jh (c::r)=((c==101||c==69)&&numS r&& !(List.isPrefixOf [45,45] r)):=rfl
theorem mF(b:UInt8)(r:Str):numS (b::r)=bif b==45 then !(r==[])&&digN (r.headD 0).toNat else digN b.toNat:=rfl
theorem gG{c:UInt8}{r:Str}(h:Jh (c::r)=true):c=101\/c=69:=by
 unfold Jh at h
 grind
theorem OX{d:UInt8}{t:Str}(h:(d==10)=false):escS (92::d::t)=true:=by unfold escS;rw[show atS (92::d::t) 1=d from rfl,h];rfl
theorem Q5(c:UInt8)(r:Str):Tf (c::r)=bif Jh (c::r)then escC c++encW false 0 r else ZR (c::r):=rfl
theorem NG{w:Str}(f:w≠[])(h:Zp w=true)(x:Str):zo (Tf w++x)=(w++(zo x).1,(zo x).2):=by
 cases w with
 |nil=>grind
 |cons c r=>
  obtain⟨a,e⟩:=QB h;rw[Q5];cases b:Jh (c::r)with
  |true=>
   have d:c.toNat<128:=by rcases gG b with rfl|rfl<;>decide
   rw[Ca,Oa,tJ a d,lL x 0 e];rfl
  |false=>rw[Ba];exact ek x h
theorem xC{w:Str}(i:w≠[])(h:Zp w=true):nmS (Tf w)=true:=by
 cases w with
 |nil=>grind
 |cons c r=>
  obtain⟨a,j⟩:=QB h;rw[Q5];cases e:Jh (c::r)with
  |true=>
   have f:c.toNat<128:=by rcases gG e with rfl|rfl<;>decide
   obtain⟨d,t,b,g,_⟩:=gm a f (encW false 0 r);rw[Ca,b];exact xH rfl (OX g)
  |false=>rw[Ba];exact Bj (by simp)
theorem Yi{q:Str}(h:nmS q=true):q≠[]:=by rintro rfl;exact absurd h (by decide)
theorem yC{q:Str}(h:nmS q=true)(x:Str):past digB (q++x)=q++x/\zT (q++x)=(q++x,true):=by
 obtain⟨_,_,_,_,_,_,_,_,b,a,_⟩:=Gs (Yn h);cases q with
 |nil=>exact absurd rfl (Yi h)
 |cons c r=> refine⟨by rw[Ya,past,show digB c=false from a];rfl,?_⟩;unfold zT;rw[show atS ((c::r)++x) 0=c from rfl,show(c==46)=false from b];rfl
theorem aJ{w:Str}(h0:w≠[])(h:Zp w=true)(x:Str):expS (Tf w++x)=none\/ ∃e s,(e=101\/e=69)/\(s=[]\/s=[45])/\w=e::s/\Tf w=e::s:=by
 cases w with
 |nil=>grind
 |cons c r=>
  obtain⟨h1,h2⟩:=QB h;have he92: ∀t:Str,expS (92::t)=none:=fun t=>rfl;cases he:Jh (c::r)with
  |true=>
   left;have hc:c.toNat<128:=by rcases gG he with rfl|rfl<;>decide
   obtain⟨d,t,e1,e2,_⟩:=gm h1 hc (encW false 0 r++x);have:Tf (c::r)++x=92::d::t:=by rw[Q5,he,Ca,Oa,e1]
   grind
  |false=>
   have hu:Tf (c::r)=ZR (c::r):=by rw[Q5,he,Ba]
   rw[hu];have hn:ZR (c::r)=pcW ((c::r:Str)==[45]) (ZP (c::r)) c++encW ((c::r:Str)==[45]) (ZP (c::r) - 1) r:=rfl;obtain⟨d,t,e,hd⟩:=Dz (dash:=(c::r:Str)==[45]) (k:=ZP (c::r)) (by unfold ZP;split<;>omega) c (encW ((c::r:Str)==[45]) (ZP (c::r) - 1) r);rw[hn,e];rcases hd with⟨rfl,h3⟩|⟨rfl,h3,h4,h5,h6⟩
   ·grind
   ·by_cases hee:d=101\/d=69
    ·have hf:ZP (d::r)=1:=by rcases hee with rfl|rfl<;>rfl
     have hdash:((d::r:Str)==[45])=false:=h3;rw[hdash,hf]at h6;have h6':t=encW false 0 r:=h6;have hee':(d==101||d==69)=true:=by rcases hee with rfl|rfl<;>rfl
     cases r with
     |nil=>
      right;rw[encW]at h6'
      grind
     |cons d2 r2=>
      obtain⟨g1,g2⟩:=QB h2;have hnum:numS (d2::r2)=false:=by
       cases hq:numS (d2::r2)with
       |false=>rfl
       |true=>
        exfalso;rw[GN,hee',hq,Eb,Eb]at he;have hp:List.isPrefixOf [45,45] (d2::r2)=true:=by
         cases hh:List.isPrefixOf [45,45] (d2::r2)with
         |true=>rfl
         |false=>grind
        obtain⟨z,hz⟩:=Cf.1 hp;rw[<-hz]at hq;exact absurd hq (by show numS (45::45::z)≠true;unfold numS;simp[digN])
      have hgoal: ∀q:Str,digB (atS (unsign q) 0)=false->expS (d::q)=none:=by intro q hq;rw[Uk];show((d==101||d==69)&&digB (atS (unsign q) 0))=false;rw[hq,Be]
      have hpc:encW false 0 (d2::r2)=pcW false 0 d2++encW false 0 r2:=rfl;by_cases h45:d2=45
      ·subst h45;have hp1:pcW false 0 45=[45]:=rfl;cases r2 with
       |nil=>
        right;rw[hpc,hp1,encW]at h6'
        grind
       |cons d3 r3=>
        left;obtain⟨k1,k2⟩:=QB g2;have hdg:digB d3=false:=by
         have:digN d3.toNat=false:=by have:=hnum;unfold numS at this;simpa using this
         exact this
        rw[Ya];refine hgoal _ ?_;rw[h6',hpc,hp1];show digB (atS (encW false 0 (d3::r3)++x) 0)=false;rw[show encW false 0 (d3::r3)=pcW false 0 d3++encW false 0 r3 from rfl];unfold pcW;cases hl:letB d3 with
        |true=>exact hdg
        |false=>
         rw[Ac,Ac,Ba];have hc:d3.toNat<128:=by
          by_cases hc:d3.toNat<128
          ·exact hc
          ·rw[(jD hc).1]at hl;cases hl
         obtain⟨d4,t4,e4,_,_⟩:=gm k1 hc (encW false 0 r3++x);rw[Oa,e4];rfl
      ·left;have hdg:digB d2=false:=by
        have:digN d2.toNat=false:=by have:=hnum;rw[mF,Ga.2 h45,Ba]at this;exact this
        exact this
       rw[Ya];refine hgoal _ ?_;rw[h6',hpc];unfold pcW;cases hl:letB d2 with
       |true=>
        have hs:Jf d2=false:=by unfold Jf;rw[Ga.2 h45,Ke,Ga];rintro rfl;exact absurd hl (by decide)
        show digB (atS (if Jf d2 then _ else d2::_) 0)=false;rw[hs,Ja (by decide)];exact hdg
       |false=>
        rw[Ac,Ac,Ba];have hc:d2.toNat<128:=by
         by_cases hc:d2.toNat<128
         ·exact hc
         ·rw[(jD hc).1]at hl;cases hl
        obtain⟨d4,t4,e4,_,_⟩:=gm g1 hc (encW false 0 r2++x);rw[Oa,e4];rfl
    ·left;rw[Uk];have:(d==101||d==69)=false:=by rw[Re,Ga,Ga];exact not_or.1 hee
     rw[Ya,show atS (d::(t++x)) 0=d from rfl,this,Ac]
theorem sN{w:Str}(d:w≠[])(h:Zp w=true){x:Str}(a:neu x):expS (Tf w++x)=none:=by
 rcases aJ d h x with c|⟨e,s,i,b,_,f⟩
 ·exact c
 ·rw[f,Uk];have g:digB (atS (unsign (s++x)) 0)=false:=by
   rcases b with rfl|rfl
   ·rcases a with rfl|⟨y,rfl⟩<;>rfl
   ·rcases a with rfl|⟨y,rfl⟩<;>rfl
  grind
theorem bF{n:Int}{f:Bool}(a:f=true->Int.tmod n 1000=0):(partT (n.natAbs%1000) (!f)).isEmpty=f:=by
 rw[RU,Bool.not_not];cases f with
 |false=>grind
 |true=>
  grind
theorem ww{n:Int}{p:Bool}{z:Str}(b:past digB z=z)(h2:zT z=(z,true))(a:expS z=none):zy (numT n p++z)=(z,(partT (n.natAbs%1000) p).isEmpty):=by
 cases c:(partT (n.natAbs%1000) p).isEmpty with
 |true=>rw[ED c,b,h2];simp only[a]
 |false=>rw[KC c,b];simp only[a]
theorem tT{x:Str}(a:neu x):past digB x=x/\zT x=(x,true)/\expS x=none:=by
 rcases a with rfl|⟨y,rfl⟩
 ·exact⟨rfl,rfl,rfl⟩
 ·exact⟨rfl,rfl,rfl⟩
theorem nY{q:Str}(h:[45,45,62].isPrefixOf q=true): ∃t,(zo q).2=62::t:=by obtain⟨t,rfl⟩:=Cf.1 h;refine⟨t,?_⟩;rw[show [45,45,62]++t=45::45::62::t from rfl,zO,Ka (by decide),zO,Ka (by decide),zO,Ja (by decide),Ja (by unfold escS;rw[show atS (62::t) 0=62 from rfl];simp)]
theorem Gy{c:UInt8}{r:Str}(h:nmS (c::r)=true)(u: ∀t,(zo (c::r)).2≠62::t):brS c r=7:=by
 obtain⟨i,b,g,d,f,p,a,v,s,l,k⟩:=Gs (Yn h);have o:[45,45,62].isPrefixOf (c::r)=false:=by
  cases j:[45,45,62].isPrefixOf (c::r)with
  |false=>rfl
  |true=>obtain⟨t,e⟩:=nY j;grind
 have n:atS (c::r) 0=c:=rfl;rw[n]at i b g d f a;unfold brS;rw[i,Ja (by decide),b,g,Ja (by decide),d,Ac,Ja (by decide),pQ h,Ja (by decide),o,Ja (by decide),xR (q:=c::r) (m:=[33,45,45]) (show(60:UInt8)≠0 by decide) a,Ja (by decide),f,Ac,Ja (by decide),h,Ka rfl]
theorem KJ{q z:Str}(h:nmS q=true)(i:atS z 0≠10):nmS (q++z)=true:=by
 have b:(atS z 0==10)=false:=Ga.2 i
 match q with
 |[]=>exact absurd h (by decide)
 |[c]=>
  unfold nmS at h ⊢;have f:atS ([c]++z) 0=c:=rfl;rw[show atS [c] 0=c from rfl]at h;rw[f];cases a:c==45 with
  |true=>rw[a,Ka rfl]at h;exact absurd (show(fstB 0||(0:UInt8)==45||escS [])=true from h) (by decide)
  |false=> rw[a,Ja (by decide)]at h;rw[Ja (by decide)];unfold escS at h ⊢;rw[show atS [c] 0=c from rfl,show atS [c] 1=0 from rfl]at h;rw[f,show atS ([c]++z) 1=atS z 0 from rfl,b];exact h
 |c::d::t=>
  unfold nmS at h ⊢;have f:atS ((c::d::t)++z) 0=c:=rfl;have g:atS ((c::d::t)++z) 1=d:=rfl;have j:((c::d::t)++z).drop 1=(d::t)++z:=rfl;rw[show atS (c::d::t) 0=c from rfl,show atS (c::d::t) 1=d from rfl,show(c::d::t:Str).drop 1=d::t from rfl]at h;rw[f,g,j];cases a:c==45 with
  |true=>
   rw[a,Ka rfl]at h;rw[Ka rfl];cases t with
   |nil=> unfold escS at h ⊢;rw[show atS [d] 0=d from rfl,show atS [d] 1=0 from rfl]at h;rw[show atS ([d]++z) 0=d from rfl,show atS ([d]++z) 1=atS z 0 from rfl,b];exact h
   |cons e t=>exact h
  |false=> rw[a,Ja (by decide)]at h;rw[Ja (by decide)];exact h
theorem PE(x:Str):zo (40::x)=([],40::x):=by rw[zO,Ja (by decide),Ja (by unfold escS;rw[show atS (40::x) 0=40 from rfl];simp)]
theorem yI{l:Str}(h:Zp l=true)(x:Str):zo (ZR l++40::x)=(l,40::x):=by rw[ek _ h,PE,Xa]
theorem Gh{q:Str}(h:q≠[]): ∃c r,q=c::r:=by
 cases q with
 |nil=>grind
 |cons c r=>grind
def Og(f:Bool)(l:Str):Str:=bif f then ZR l else encW false 0 l
theorem JN{f:Bool}{l:Str}(h:Zp l=true)(x:Str):zo (Og f l++x)=(l++(zo x).1,(zo x).2):=by
 cases f with
 |true=>exact ek x h
 |false=>exact lL x 0 h
theorem SY{f:Bool}{l:Str}(h0:l≠[])(h:Zp l=true)(hb:f=true\/oh l=true):(letB (atS (Og f l) 0)||escS (Og f l))=true/\(f=true->nmS (Og f l)=true)/\(f=false->nmS (Og f l)=false):=by
 cases f with
 |true=>
  have hn:=Bj h0;obtain⟨c,r,e⟩:=Gh (Yi hn);refine⟨?_,fun _=>hn,fun e=>by cases e⟩;show(letB (atS (ZR l) 0)||escS (ZR l))=true;rw[e]at hn ⊢;rcases FL hn with h1|h1
  ·rw[show letB (atS (c::r) 0)=true from h1];rfl
  ·grind
 |false=>
  have hb':oh l=true:=by rcases hb with hb|hb;cases hb;exact hb
  cases l with
  |nil=>grind
  |cons c r=>
   have hw:Og false (c::r)=pcW false 0 c++encW false 0 r:=rfl;have hb2:(digN c.toNat||(c==45&&(r==[]||digN (r.headD 0).toNat)))=true:=hb';by_cases h45:c=45
   ·subst h45;rw[hw,show pcW false 0 45=[45]from rfl];refine⟨rfl,fun e=>by(cases e),fun _=> ?_⟩;cases r with
    |nil=>rfl
    |cons d t=>
     have hd:digB d=true:=hb2;have hp:pcW false 0 d=[d]:=by
      unfold pcW;have:letB d=true:=by unfold letB;rw[hd,ae];rfl
      rw[this];rfl
     rw[show encW false 0 (d::t)=pcW false 0 d++encW false 0 t from rfl,hp];have hk: ∀n:Nat,n<256->digB (UInt8.ofNat n)=true->fstB (UInt8.ofNat n)=false/\(UInt8.ofNat n==45)=false/\(UInt8.ofNat n==92)=false:=by decide+kernel
     have:=hk d.toNat (aa d);rw[Kc]at this;obtain⟨k1,k2,k3⟩:=this hd;show(fstB d||d==45||escS (d::(encW false 0 t)))=false;unfold escS;rw[k1,k2,show atS (d::encW false 0 t) 0=d from rfl,k3];rfl
   ·have hd:digB c=true:=by
     have:digN c.toNat=true:=by rw[Ga.2 h45,Ac,Ke]at hb2;exact hb2
     exact this
    have hl:letB c=true:=by unfold letB;rw[hd,ae];rfl
    have hp:pcW false 0 c=[c]:=by unfold pcW;rw[hl];rfl
    rw[hw,hp];refine⟨by rw[show letB (atS ([c]++encW false 0 r) 0)=letB c from rfl,hl];rfl,fun e=>by(cases e),fun _=> ?_⟩;have hk: ∀n:Nat,n<256->digB (UInt8.ofNat n)=true->fstB (UInt8.ofNat n)=false/\(UInt8.ofNat n==45)=false/\(UInt8.ofNat n==92)=false:=by decide+kernel
    have:=hk c.toNat (aa c);rw[Kc]at this;obtain⟨k1,k2,k3⟩:=this hd;unfold nmS escS;rw[show atS ([c]++encW false 0 r) 0=c from rfl,k2,Ja (by decide),k1,k3];rfl
theorem vS(c:UInt8)(h:vg c.toNat=true)(h2:c≠92):brS c []=8:=by
 have: ∀n:Nat,n<256->vg (UInt8.ofNat n).toNat=true->UInt8.ofNat n≠92->brS (UInt8.ofNat n) []=8:=by decide+kernel
 have:=this c.toNat (aa c);simp_all
theorem BS(x:Str):past digB (37::x)=37::x/\zT (37::x)=(37::x,true)/\expS (37::x)=none:=⟨rfl,rfl,rfl⟩
theorem sK{n:Int}{u:Str}{p:Bool}(x:Str):(numT n p++Tf u)++x=numT n p++(Tf u++x):=Oa ..
theorem xE{c:UInt8}{r x:Str}(a:neu x):Zm (c::(r++x))=nxB (brS c r) c (r++x):=by rw[qo,JS a]
theorem wJ{n:Int}(b: -1000000000000<=n)(h2:n<=1000000000000)(x:Str):Zm ((numT n false++[37])++x)=(⟨11,[],n,[],false⟩,x):=by rw[Oa,Lc];obtain⟨c,e,d⟩:=BS x;have a:=ww (n:=n) (p:=false) c e d;have f:=BB b h2 (p:=false) (x:=37::x) (by rw[a]);rw[Hr];unfold zB;rw[a,f,Ja (by unfold nmS escS;rw[show atS (37::x) 0=37 from rfl];simp[fstB,alB]),Ka (by rfl)];rfl
theorem uI{l:Str}(d:l≠[])(h:Zp l=true)(hu:(lowS l==[117,114,108])=false)(x:Str):Zm ((ZR l++[40])++x)=(⟨2,l,0,[],false⟩,x):=by rw[Oa,Lc];have b:=KJ (z:=40::x) (Bj d) (by show(40:UInt8)≠10;decide);have a:=yI h x;obtain⟨c,r,e⟩:=Gh (Yi b);rw[e]at b a ⊢;rw[qo,Gy b (by grind),Oh];unfold qh;rw[a];simp only;rw[Ka (by rfl),hu,Ac,Ja (by decide)];rfl
theorem KE{l:Str}(h:Zp l=true)(x:Str):Zm ((34::(encB quoB l++[34]))++x)=(⟨5,l,0,[],false⟩,x):=by rw[Ya,Oa,Lc,qo,show brS 34 (encB quoB l++34::x)=1 from rfl,Xn,sJ x l h];rfl
theorem GK{l:Str}(h:Zp l=true)(x:Str):Zm (([117,114,108,40]++(encB urB l++[41]))++x)=(⟨7,l,0,[],false⟩,x):=by
 have e:([117,114,108,40]++(encB urB l++[41]))++x=117::114::108::40::(encB urB l++41::x):=by simp
 obtain⟨c,b⟩:=eU x l h;have a:zo (117::114::108::40::(encB urB l++41::x))=([117,114,108],40::(encB urB l++41::x)):=by rw[zO,Ka (by decide),zO,Ka (by decide),zO,Ka (by decide),PE]
 rw[e,qo,Gy (by rfl) (by grind),Oh];unfold qh;rw[a];simp only;rw[Ka (by rfl),Xo,show(40::(encB urB l++41::x)).drop 1=encB urB l++41::x from rfl,c,b,Ka (by decide),rJ x l h];rfl
theorem TL{k:Int}(b:13<=k)(h2:k<=24)(x:Str):Zm (Tj k++x)=(⟨k,[],0,[],false⟩,if k=13 then past spB x else x):=by
 have a:k=13\/k=14\/k=15\/k=16\/k=17\/k=18\/k=19\/k=20\/k=21\/k=22\/k=23\/k=24:=by omega
 rcases a with rfl|rfl|rfl|rfl|rfl|rfl|rfl|rfl|rfl|rfl|rfl|rfl<;>rfl
theorem Al(l:Str):txS ⟨1,l,0,[],false⟩=ZR l:=by rw[txS];rfl
theorem Xi(l:Str):txS ⟨2,l,0,[],false⟩=ZR l++[40]:=by rw[txS];rfl
theorem Bl(l:Str):txS ⟨3,l,0,[],false⟩=64::ZR l:=by rw[txS];rfl
theorem Am(l:Str)(f:Bool):txS ⟨4,l,0,[],f⟩=35::Og f l:=by rw[txS];rfl
theorem aj(l:Str):txS ⟨5,l,0,[],false⟩=34::(encB quoB l++[34]):=by rw[txS];rfl
theorem Ml(l:Str):txS ⟨7,l,0,[],false⟩=[117,114,108,40]++(encB urB l++[41]):=by rw[txS];rfl
theorem Sl(c:UInt8):txS ⟨9,[c],0,[],false⟩=[c]:=by rw[txS];rfl
theorem Ol(n:Int)(f:Bool):txS ⟨10,[],n,[],f⟩=numT n (!f):=by rw[txS];rfl
theorem Nl(n:Int):txS ⟨11,[],n,[],false⟩=numT n false++[37]:=by rw[txS];rfl
theorem Rl(n:Int)(u:Str)(f:Bool):txS ⟨12,[],n,u,f⟩=numT n (!f)++Tf u:=by rw[txS];rfl
theorem yl{k:Int}(b:13<=k)(h2:k<=24):txS ⟨k,[],0,[],false⟩=Tj k:=by
 have a:k=13\/k=14\/k=15\/k=16\/k=17\/k=18\/k=19\/k=20\/k=21\/k=22\/k=23\/k=24:=by omega
 rcases a with rfl|rfl|rfl|rfl|rfl|rfl|rfl|rfl|rfl|rfl|rfl|rfl<;>rfl
theorem jT{t:zb}(h:zfq t)(hb: ¬(t.kind=9/\t.text=[92]))(hu:df t=false){x:Str}(hx:neu x):Zm (txS t++x)=(t,x):=by
 have ha:=PS hx;have hn0:nmS x=false:=by have:=Ex hx [];rw[Yb]at this;rw[this];rfl
 cases h with
 |cId l h0 h=>
  have hn:=Bj h0;have hnd:=ek x h;rw[Vz hx,Xa]at hnd;obtain⟨c,r,e⟩:=Gh (Yi hn);rw[Al];have hr:=gX h;rw[e]at hn hr hnd ⊢;rw[Ya,xE hx,Gy hn (by grind),Oh];unfold qh;rw[show c::(r++x)=(c::r)++x from rfl,hnd]
  grind
 |cFn l h0 h=>rw[Xi];exact uI h0 h (by unfold df at hu;exact hu) x
 |cAt l h0 h=>
  have hnd:=ek x h;rw[Vz hx,Xa]at hnd;rw[Bl,Ya];have hb6:brS 64 (ZR l++x)=6:=by unfold brS;rw[Ex hx,Bj h0];rfl
  rw[qo,hb6,Wn,hnd]
 |cHash l f h0 h hbb=>
  obtain⟨g1,g2,g3⟩:=SY h0 h hbb;have hnd:=JN (f:=f) h x;rw[Vz hx,Xa]at hnd;rw[Am,Ya];have hb2:brS 35 (Og f l)=2:=by unfold brS;rw[g1];rfl
  have hf:nmS (Og f l)=f:=by
   cases f with
   |true=>exact g2 rfl
   |false=>exact g3 rfl
  rw[xE hx,hb2,Rj,hnd,Ex hx,hf]
 |cStr l h=>rw[aj];exact KE h x
 |cUrl l h=>rw[Ml];exact GK h x
 |cDel c h=>
  have h92:c≠92:=by rintro rfl;exact hb ⟨rfl,rfl⟩
  rw[Sl,Ya,xE hx,vS c h h92,Ar,Yb]
 |cNum n f h1 h2 hf=>
  obtain⟨e1,e2,e3⟩:=tT hx;have he:=ww (n:=n) (p:= !f) e1 e2 e3;rw[bF hf]at he;rw[Ol,Hr];unfold zB;rw[BB h1 h2 (by rw[he]),he]
  grind
 |cPct n h1 h2=>rw[Nl];exact wJ h1 h2 x
 |cDim n u f h1 h2 hf h0 h=> have hnm:=xC h0 h;obtain⟨e1,e2⟩:=yC hnm x;have he:=ww (n:=n) (p:= !f) e1 e2 (sN h0 h hx);rw[bF hf]at he;rw[Rl,sK,Hr];unfold zB;rw[BB h1 h2 (by rw[he]),he];simp only;rw[Ex hx,hnm,Ka rfl,NG h0 h,Vz hx,Xa]
 |cMark k h1 h2=> rw[yl h1 h2,TL h1 h2,yJ (by decide) hx,ite_self]
def NJ(t:zb)(x r:Str):Prop:=zy (numT t.num (!t.flag)++x)=(r,t.flag)/\nmS r=false/\(atS r 0==37)=false
def yU(x r:Str):Prop:= ∃s,(s=[]\/s=[45])/\digB (atS (unsign (s++x)) 0)=true/\nmS (past digB (unsign (s++x)))=true/\r=(zo (past digB (unsign (s++x)))).2
def MH(t:zb)(x r:Str):Prop:=r=x\/(t.kind=13/\r=past spB x)\/(t.kind=10/\NJ t x r)\/(t.kind=12/\yU x r)
theorem nK{w r:Str}(h:expS w=some r):(atS w 0=101\/atS w 0=69)/\digB (atS (unsign (w.drop 1)) 0)=true/\r=past digB (unsign (w.drop 1)):=by
 unfold expS at h
 grind
theorem jy{l a:Str}(h:l++a=l):a=[]:=by simp_all
theorem FE{a b:zb}(h:a=b):a.text=b.text:=by rw[h]
theorem wW{t:zb}(h:zfq t)(hu:df t=false){x:Str}(ht:(Zm (txS t++x)).1=t):MH t x (Zm (txS t++x)).2:=by
 cases h with
 |cId l h0 h=>
  left;have hn:=Bj h0;have hnd:=ek x h;obtain⟨c,r,e⟩:=Gh (Yi hn);rw[Al]at ht ⊢;rw[e,Ya]at ht ⊢;have hbr:=Kk c (r++x);rw[ht]at hbr;have hbr':brS c (r++x)=7:=hbr.symm;rw[qo,hbr',Oh]at ht ⊢;rw[show c::(r++x)=ZR l++x by rw[e];rfl]at ht ⊢;unfold qh at ht ⊢;rw[hnd]at ht ⊢;simp only at ht ⊢;split at ht
  ·rename_i h40;exfalso;split at ht
   ·have:=congrArg zb.kind ht;rcases CE (urlS (past spB ((zo x).2.drop 1))).1 with hk|hk<;>rw[hk]at this<;>cases this
   grind
  ·rename_i h40;rw[Ja h40];have:=FE ht;exact Uz (jy this)
 |cFn l h0 h=> left;rw[Xi,uI h0 h (by unfold df at hu;exact hu)]
 |cAt l h0 h=> left;rw[Bl,Ya]at ht ⊢;have hbr:=Kk 64 (ZR l++x);rw[ht]at hbr;have hbr':brS 64 (ZR l++x)=6:=hbr.symm;rw[qo,hbr',Wn,ek x h]at ht ⊢;exact Uz (jy (FE ht))
 |cHash l f h0 h hbb=> left;rw[Am,Ya]at ht ⊢;have hbr:=Kk 35 (Og f l++x);rw[ht]at hbr;have hbr':brS 35 (Og f l++x)=2:=hbr.symm;rw[qo,hbr',Rj,JN h x]at ht ⊢;exact Uz (jy (FE ht))
 |cStr l h=>left;rw[aj,KE h]
 |cUrl l h=>left;rw[Ml,GK h]
 |cDel c h=> left;rw[Sl,Ya]at ht ⊢;have hbr:=Kk c ([]++x);rw[ht]at hbr;have hbr':brS c ([]++x)=8:=hbr.symm;rw[qo,hbr',Ar,Yb]
 |cNum n f h1 h2 hf=>
  right;right;left;refine⟨rfl,?_⟩;rw[Ol,Hr]at ht ⊢;unfold NJ;show zy (numT n (!f)++x)=_/\_;unfold zB at ht ⊢
  grind
 |cPct n h1 h2=>left;rw[Nl,wJ h1 h2]
 |cDim n u f h1 h2 hf h0 h=>
  have hnm:=xC h0 h;obtain⟨e1,e2⟩:=yC hnm x;rw[Rl,sK,Hr]at ht ⊢;have plain:expS (Tf u++x)=none->(zB (numT n (!f)++(Tf u++x))).2=x:=by
   intro hexp;have he:=ww (n:=n) (p:= !f) e1 e2 hexp;unfold zB at ht ⊢;rw[he]at ht ⊢;simp only at ht ⊢;split at ht
   ·rename_i hn;rw[Ka hn];rw[NG h0 h]at ht ⊢;have:(u++(zo x).1)=u:=congrArg zb.unit ht;exact Uz (jy this)
   ·grind
  rcases aJ h0 h x with hx|⟨e,s,he,hs,_,hu'⟩
  ·left;exact plain hx
  ·cases hexp:expS (Tf u++x)with
   |none=>left;exact plain hexp
   |some z=>
    right;right;right;refine⟨rfl,s,hs,?_⟩;obtain⟨_,hd,hz⟩:=nK hexp;have hdrop:(Tf u++x).drop 1=s++x:=by rw[hu'];rfl
    rw[hdrop]at hd hz;have hend:zy (numT n (!f)++(Tf u++x))=(z,false):=by
     cases hp:(partT (n.natAbs%1000) (!f)).isEmpty with
     |true=>rw[ED hp,e1,e2];simp only[hexp]
     |false=>rw[KC hp,e1];simp only[hexp]
    unfold zB at ht ⊢
    grind
 |cMark k h1 h2=>
  rw[yl h1 h2,TL h1 h2];by_cases hk:k=13
  ·right;grind
  ·left
   grind
end Go.Lv.VT
