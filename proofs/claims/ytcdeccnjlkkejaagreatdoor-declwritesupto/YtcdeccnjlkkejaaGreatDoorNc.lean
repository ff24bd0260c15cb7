/- What is read of a text, and of a longer one. -/
import Derived.Test.YtcdeccnjlkkejaaGreatDoorNb
import Derived.Test.YtcdeccnjlkkejaaGreatDoorLaw
import Derived.Test.YtcdeccnjlkkejaaGreatDoorNam
set_option linter.unusedSimpArgs false
set_option linter.unusedVariables false
namespace Go.Lv.VT
set_option maxRecDepth 100000
theorem Oh{q:Str}{n:Nat}(x:Str)(h:n<q.length):atS (q++x) n=atS q n:=by
 unfold atS
 grind
theorem Ak{p:UInt8->Bool}(x:Str): ∀{q:Str},past p q≠[]->past p (q++x)=past p q++x
 |[],h=>absurd rfl h
 |c::r,h=>by
  rw[Xa,past,past];rw[past]at h;cases a:p c with
  |true=>rw[a,Ka rfl]at h;rw[Ka rfl,Ka rfl];exact Ak x h
  |false=>rfl
theorem Hy{p:UInt8->Bool}(x:Str): ∀{q:Str},past p q≠[]->(q++x).takeWhile p=q.takeWhile p
 |[],h=>absurd rfl h
 |c::r,h=>by
  rw[Xa,Gg,Gg];rw[past]at h;cases a:p c with
  |true=>rw[a,Ka rfl]at h;rw[Ka rfl,Ka rfl,Hy x h]
  |false=>rfl
theorem WN(x:Str): ∀{k n:Nat} {l:Str},(hexes k n l).2≠[]->hexes k n (l++x)=((hexes k n l).1,(hexes k n l).2++x)
 |0,n,l,_=>rfl
 |k+1,n,[],h=>absurd rfl h
 |k+1,n,c::r,h=>by
  rw[Xa,hexes,hexes];rw[hexes]at h;split
  ·rename_i a;rw[Ka a]at h;exact WN x h
  ·rfl
theorem SV{l:Str}(x:Str)(h:l≠[]):unsp (l++x)=unsp l++x:=by
 cases l with
 |nil=>grind
 |cons c r=> show(if spB c then r++x else c::(r++x))=(if spB c then r else c::r)++x;split<;>rfl
theorem fA{r:Str}(x:Str)(h:(zt r).2≠[]):zt (r++x)=((zt r).1,(zt r).2++x):=by
 cases r with
 |nil=>exact absurd rfl h
 |cons c r=>
  have e: ∀t:Str,zt (c::t)=if qQ c then(Ag (hexes 6 0 (c::t)).1,unsp (hexes 6 0 (c::t)).2)else([c],t):=fun t=>rfl;rw[Xa,e,e];rw[e]at h;split
  ·rename_i b;rw[Ka b]at h;have a:(hexes 6 0 (c::r)).2≠[]:=by intro d;rw[d]at h;exact h rfl
   rw[show c::(r++x)=(c::r)++x from rfl,WN x a,SV x a]
  ·rfl
theorem Fu{c:UInt8}{r:Str}(x:Str)(h:r≠[]\/c≠92):escS (c::(r++x))=escS (c::r):=by
 unfold escS;show(c==92&& !(atS (r++x) 0==10))=(c==92&& !(atS r 0==10));rcases h with h|h
 ·cases r with
  |nil=>grind
  |cons d t=>rfl
 grind
theorem jq{q:Str}(x:Str)(h:(zo q).2≠[]):zo (q++x)=((zo q).1,(zo q).2++x):=by
 match q with
 |[]=>rw[qR]at h;grind
 |c::r=>
  rw[Xa,zQ,zQ];rw[zQ]at h;cases f:letB c with
  |true=> rw[f,Ka rfl]at h;simp only[Md];rw[jq x h]
  |false=>
   rw[f,Ja (by decide)]at h;simp only[Sb,Ad];cases a:escS (c::r)with
   |true=>
    rw[a,Ka rfl]at h;have g:(zt r).2≠[]:=by intro e;simp only[e,qR]at h;exact h rfl
    have b:r≠[]:=by rintro rfl;exact g rfl
    rw[Fu x (.inl b),a];simp only[Md];rw[fA x g];have:=Zg r;simp only;rw[jq x h]
   |false=>
    have b:r≠[]\/c≠92:=by
     cases r with
     |nil=> right;rintro rfl;exact absurd a (by decide)
     |cons d t=>left;simp
    rw[Fu x b,a];grind
termination_by q.length
decreasing_by
 all_goals grind
theorem UA{m:UInt8}{q:Str}(x:Str)(h:(z8 m q).2≠[]):z8 m (q++x)=((z8 m q).1,(z8 m q).2++x):=by
 match q with
 |[]=>rw[QG]at h;grind
 |c::r=>
  rw[Xa,Ql,Ql];rw[Ql]at h;cases g:c==m with
  |true=>grind
  |false=>
   rw[g,Ja (by decide)]at h;simp only[Sb,Ad];cases k:c==10 with
   |true=>grind
   |false=>
    rw[k,Ja (by decide)]at h;simp only[Sb,Ad];cases b:c==92 with
    |false=> rw[b,Ja (by decide)]at h;simp only[Sb,Ad];rw[UA x h]
    |true=>
     rw[b,Ka rfl]at h;simp only[Md];cases f:r with
     |nil=>grind
     |cons d t=>
      rw[f]at h;have j:r.length=t.length+1:=by rw[f];rfl
      rw[Xa,show(d::(t++x)).isEmpty=false from rfl,show(d::t).isEmpty=false from rfl];simp only[Sb,Ad];rw[show(d::t).isEmpty=false from rfl,Ja (by decide)]at h;rw[show atS (d::(t++x)) 0=atS (d::t) 0 from rfl];cases a:atS (d::t) 0==10 with
      |true=> rw[a,Ka rfl]at h;simp only[Md];exact UA (q:=t) x h
      |false=>
       rw[a,Ja (by decide)]at h;simp only[Sb,Ad];have i:(zt (d::t)).2≠[]:=by intro e;simp only[e,QG]at h;exact h rfl
       rw[show d::(t++x)=(d::t)++x from rfl,fA x i];have:=Zg (d::t);simp only;rw[UA x h]
termination_by q.length
decreasing_by
 all_goals grind
theorem wy{q:Str}(x:Str)(h:badS q≠[]):badS (q++x)=badS q++x:=by
 match q with
 |[]=>rw[Tq]at h;grind
 |c::r=>
  rw[Xa,mq,mq];rw[mq]at h;cases f:c==41 with
  |true=>grind
  |false=>
   rw[f,Ja (by decide)]at h;simp only[Sb,Ad];cases a:escS (c::r)with
   |true=>
    rw[a,Ka rfl]at h;have d:(zt r).2≠[]:=by intro e;rw[e,Tq]at h;exact h rfl
    have b:r≠[]:=by rintro rfl;exact d rfl
    rw[Fu x (.inl b),a];simp only[Md];rw[fA x d];have:=Zg r;exact wy x h
   |false=>
    rw[a,Ja (by decide)]at h;have b:r≠[]\/c≠92:=by left;rintro rfl;rw[Tq]at h;exact h rfl
    rw[Fu x b,a];simp only[Sb,Ad];exact wy x h
termination_by q.length
decreasing_by
 all_goals grind
theorem gD{q:Str}(x:Str)(h:(urlS q).2≠[]):urlS (q++x)=((urlS q).1,(urlS q).2++x):=by
 match q with
 |[]=>rw[yj]at h;grind
 |c::r=>
  rw[Xa,QQ,QQ];rw[QQ]at h;cases l:c==41 with
  |true=>grind
  |false=>
   rw[l,Ja (by decide)]at h;simp only[Sb,Ad];cases j:spB c with
   |true=>
    rw[j,Ka rfl]at h;simp only[Md];cases f:past spB r with
    |nil=>grind
    |cons d t=>
     rw[Ak x (by rw[f];simp),f];rw[f]at h;simp only[Xa]at h ⊢;cases a:d==41 with
     |true=>grind
     |false=> rw[a,Ja (by decide)]at h;simp only[Sb,Ad];rw[show d::(t++x)=(d::t)++x from rfl,wy x h]
   |false=>
    rw[j,Ja (by decide)]at h;simp only[Sb,Ad];have b:(c=92->r≠[])->escS (c::(r++x))=escS (c::r):=by
     intro k;refine Fu x ?_;by_cases e:c=92
     ·exact .inl (k e)
     ·exact .inr e
    have m:c=92->r≠[]:=by
     rintro rfl rfl;have o:escS [92]=true:=by decide
     rw[o,show((92:UInt8)==92&& !true)=false from rfl,Be]at h;cases i:((92:UInt8)==34||(92:UInt8)==39||(92:UInt8)==40||unB 92)with
     |true=>exact absurd i (by decide)
     |false=> rw[i,Ja (by decide),Ka (by decide)]at h;exact absurd (by show(urlS (zt []).2).2=[];rw[show(zt []).2=[]from rfl,yj]) h
    rw[b m];cases a:c==34||c==39||c==40||unB c||c==92&& !escS (c::r)with
    |true=> rw[a,Ka rfl]at h;simp only[Md];rw[show c::(r++x)=(c::r)++x from rfl,wy x h]
    |false=>
     rw[a,Ja (by decide)]at h;simp only[Sb,Ad];cases g:c==92 with
     |true=>
      rw[g,Ka rfl]at h;simp only[Md];have n:(zt r).2≠[]:=by intro e;simp only[e,yj]at h;exact h rfl
      rw[fA x n];have:=Zg r;simp only;rw[gD x h]
     |false=> rw[g,Ja (by decide)]at h;simp only[Sb,Ad];rw[gD x h]
termination_by q.length
decreasing_by
 all_goals grind
theorem Ml{q:Str}(x:Str)(h:q≠[]):unsign (q++x)=unsign q++x/\sgOf (q++x)=sgOf q:=by
 cases q with
 |nil=>grind
 |cons c r=> unfold unsign sgOf;show(if Lf c then r++x else c::(r++x))=(if Lf c then r else c::r)++x/\_;refine⟨by split<;>rfl,rfl⟩
def Ef(q:Str):Str:=past digB (unsign q)
theorem vM{q x:Str}(h:(zV q).1≠[])(f:q=[46]->digB (atS x 0)=false):zV (q++x)=((zV q).1++x,(zV q).2)/\dotP (q++x)=dotP q:=by
 unfold zV dotP;unfold zV at h;cases q with
 |nil=>exact absurd rfl h
 |cons c r=>
  have g:(atS ((c::r)++x) 0==46&&digB (atS ((c::r)++x) 1))=(atS (c::r) 0==46&&digB (atS (c::r) 1)):=by
   show(c==46&&digB (atS (r++x) 0))=(c==46&&digB (atS r 0));cases r with
   |nil=>
    cases a:c==46 with
    |false=>rfl
    |true=> rw[Cb]at a;subst a;show(true&&digB (atS x 0))=(true&&digB (atS [] 0));rw[f rfl];rfl
   |cons d t=>rfl
  rw[g];cases e:(atS (c::r) 0==46&&digB (atS (c::r) 1))with
  |false=>grind
  |true=>
   rw[e,Ka rfl]at h;simp only[Md];rw[show((c::r)++x).drop 1=r++x from rfl,show(c::r).drop 1=r from rfl];have b:past digB r≠[]:=h;rw[Ak x b,Hy x b]
   grind
theorem zAc{w x:Str}(hw:w≠[])(h: ∀r,expS w=some r->r≠[])(hn:expS w=none->expS (w++x)=none):
  expS (w++x)=(expS w).map (· ++x)/\expP (w++x)=expP w:=by
 have hP: ∀q:Str,expP q=if(expS q).isSome then some (atS q 0,sgOf (q.drop 1),(unsign (q.drop 1)).takeWhile digB)else none:=by
  intro q;unfold expP expS;cases atS q 0==101||atS q 0==69 with
  |false=>rfl
  |true=>
   grind
 cases he:expS w with
 |none=>
  grind
 |some r=>
  have hr:=h r he;cases w with
  |nil=>grind
  |cons c t=>
   have he':=he;unfold expS at he';cases h1:atS (c::t) 0==101||atS (c::t) 0==69 with
   |false=>grind
   |true=>
    rw[h1,Ka rfl]at he';cases h2:digB (atS (unsign ((c::t).drop 1)) 0)with
    |false=>grind
    |true=>
     rw[h2,Ka rfl]at he';have hrr:past digB (unsign t)=r:=by injection he'
     have ht:t≠[]:=by rintro rfl;exact absurd (show digB (atS (unsign []) 0)=true from h2) (by decide)
     obtain⟨u1,u2⟩:=Ml x ht;have hun:unsign t≠[]:=by intro e;rw[show(c::t).drop 1=t from rfl,e]at h2;exact absurd h2 (by decide)
     have hexp:expS ((c::t)++x)=some (r++x):=by unfold expS;rw[show atS ((c::t)++x) 0=atS (c::t) 0 from rfl,h1,Ka rfl,show((c::t)++x).drop 1=t++x from rfl,u1];have:atS (unsign t++x) 0=atS (unsign t) 0:=Oh x (Ie.2 hun);rw[this,show digB (atS (unsign t) 0)=true from h2,Ka rfl,Ak x (by grind),hrr]
     refine⟨by rw[hexp];rfl,?_⟩;rw[hP,hP,hexp,he];simp only[Option.isSome_some,Md];rw[show((c::t)++x).drop 1=t++x from rfl,show(c::t).drop 1=t from rfl,u1,u2,Hy x (by grind)];rfl
theorem Qw(q:Str):zC q=(match expS (zV (Ef q)).1 with|some r=>(r,false)|none=>zV (Ef q)):=rfl
theorem bD{q x:Str}(h:(zC q).1≠[])(j:Ef q=[46]->digB (atS x 0)=false)(l:expS (zV (Ef q)).1=none->expS ((zV (Ef q)).1++x)=none):
  zC (q++x)=((zC q).1++x,(zC q).2)/\numP (q++x)=numP q:=by
 rw[Qw]at h;have a: ∀r,expS (zV (Ef q)).1=some r->r≠[]:=by intro r p;rw[p]at h;exact h
 have b:(zV (Ef q)).1≠[]:=by intro e;rw[e,show expS []=none from rfl]at h;exact h e
 have c:Ef q≠[]:=by intro e;rw[e]at b;exact b rfl
 have n:q≠[]:=by rintro rfl;exact c rfl
 obtain⟨d,k⟩:=Ml x n;have f:Ef (q++x)=Ef q++x:=by unfold Ef;rw[d];exact Ak x c
 obtain⟨i,m⟩:=vM b j;obtain⟨s,o⟩:=zAc b a l;have g: ∀z:Str,numP z=⟨sgOf z,(unsign z).takeWhile digB,dotP (Ef z),expP (zV (Ef z)).1⟩:=fun z=>rfl;constructor
 ·rw[Qw,Qw,f,i]
  grind
 ·rw[g,g,k,d,Hy x c,f,i,m,o]
def brS(c:UInt8)(r:Str):Nat:=
 if spB c then 0
 else if c==34||c==39 then 1
 else if c==35&&(letB (atS r 0)||escS r)then 2
 else if nbS (c::r)then 3
 else if [45,45,62].isPrefixOf (c::r)then 4
 else if [60,33,45,45].isPrefixOf (c::r)then 5
 else if c==64&&nmS r then 6
 else if nmS (c::r)then 7
 else if mf c==0 then 8
 else 9
def nxB:Nat->UInt8->Str->ze×Str
 |0,c,r=>(ag 13,past spB (c::r))
 |1,c,r=>(Ui (z8 c r).1,(z8 c r).2)
 |2,_,r=>(⟨4,(zo r).1,0,[],nmS r⟩,(zo r).2)
 |3,c,r=>zG (c::r)
 |4,c,r=>(ag 15,(c::r).drop 3)
 |5,c,r=>(ag 14,(c::r).drop 4)
 |6,_,r=>(⟨3,(zo r).1,0,[],false⟩,(zo r).2)
 |7,c,r=>qG (c::r)
 |8,c,r=>(⟨9,[c],0,[],false⟩,r)
 |_+9,c,r=>(ag (mf c),r)
theorem uw(c:UInt8)(r:Str):nxB 0 c r=(ag 13,past spB (c::r)):=by rw[nxB]
theorem Ko(c:UInt8)(r:Str):nxB 1 c r=(Ui (z8 c r).1,(z8 c r).2):=by rw[nxB]
theorem Tk(c:UInt8)(r:Str):nxB 2 c r=(⟨4,(zo r).1,0,[],nmS r⟩,(zo r).2):=by rw[nxB]
theorem Ni(c:UInt8)(r:Str):nxB 3 c r=zG (c::r):=by rw[nxB]
theorem VI(c:UInt8)(r:Str):nxB 4 c r=(ag 15,(c::r).drop 3):=by rw[nxB]
theorem UI(c:UInt8)(r:Str):nxB 5 c r=(ag 14,(c::r).drop 4):=by rw[nxB]
theorem Jo(c:UInt8)(r:Str):nxB 6 c r=(⟨3,(zo r).1,0,[],false⟩,(zo r).2):=by rw[nxB]
theorem wh(c:UInt8)(r:Str):nxB 7 c r=qG (c::r):=by rw[nxB]
theorem Ms(c:UInt8)(r:Str):nxB 8 c r=(⟨9,[c],0,[],false⟩,r):=by rw[nxB]
theorem sw(c:UInt8)(r:Str):nxB 9 c r=(ag (mf c),r):=rfl
theorem qL(c:UInt8)(r:Str):Zu (c::r)=nxB (brS c r) c r:=by
 rw[uq];unfold brS;split
 ·rfl
 ·split
  ·rfl
  ·split
   ·rfl
   ·split
    ·rfl
    ·split
     ·rfl
     ·split
      ·rfl
      ·split
       ·rfl
       ·split
        ·rfl
        ·split<;>rfl
theorem br_4{c:UInt8}{r:Str}:brS c r=4->[45,45,62].isPrefixOf (c::r)=true:=by unfold brS;grind
theorem br_5{c:UInt8}{r:Str}:brS c r=5->[60,33,45,45].isPrefixOf (c::r)=true:=by unfold brS;grind
theorem br_9{c:UInt8}{r:Str}:brS c r=9-> ¬(mf c==0)=true:=by unfold brS;grind
theorem lT(c:UInt8)(r:Str):brS c r<=9:=by unfold brS;grind
def brK(k:Int):Nat:=
 if k=13 then 0 else if k=5\/k=6 then 1 else if k=4 then 2 else if k=10\/k=11\/k=12 then 3 else if k=15 then 4 else if k=14 then 5 else if k=3 then 6
 else if k=1\/k=2\/k=7\/k=8 then 7 else if k=9 then 8 else 9
theorem MW(c:UInt8):mf c=0\/(16<=mf c/\mf c<=24):=by
 have: ∀n:Nat,n<256->mf (UInt8.ofNat n)=0\/(16<=mf (UInt8.ofNat n)/\mf (UInt8.ofNat n)<=24):=by decide+kernel
 have:=this c.toNat (Bb c);simp_all
theorem CV(o:Option Str):(Ui o).kind=5\/(Ui o).kind=6:=by cases o<;>simp[Ui]
theorem bE(o:Option Str):(og o).kind=7\/(og o).kind=8:=by cases o<;>simp[og]
theorem AZ(l:Str):(qG l).1.kind=1\/(qG l).1.kind=2\/(qG l).1.kind=7\/(qG l).1.kind=8:=by
 unfold qG;split
 ·split
  ·exact .inr (.inr (bE _))
  grind
 ·exact .inl rfl
theorem M4(l:Str):(zG l).1.kind=10\/(zG l).1.kind=11\/(zG l).1.kind=12:=by
 unfold zG
 grind
theorem JU{i:Nat}(h:i<=9):i=0\/i=1\/i=2\/i=3\/i=4\/i=5\/i=6\/i=7\/i=8\/i=9:=by omega
theorem Hl(c:UInt8)(r:Str):brK (Zu (c::r)).1.kind=brS c r:=by
 rw[qL];rcases JU (lT c r)with h|h|h|h|h|h|h|h|h|h
 ·rw[h];rfl
 ·rw[h,Ko];show brK (Ui (z8 c r).1).kind=1;rcases CV (z8 c r).1 with h|h<;>rw[h]<;>rfl
 ·rw[h];rfl
 ·rw[h,Ni];rcases M4 (c::r)with h|h|h<;>rw[h]<;>rfl
 ·rw[h];rfl
 ·rw[h];rfl
 ·rw[h];rfl
 ·rw[h,wh];rcases AZ (c::r)with h|h|h|h<;>rw[h]<;>rfl
 ·rw[h];rfl
 ·have b:=MW c;have a:=br_9 h;rw[Cb]at a;rw[h,sw];show brK (mf c)=9;unfold brK
  repeat rw[Ja (by omega)]
theorem xX{q x:Str}(h:(qG q).2≠[]):qG (q++x)=((qG q).1,(qG q).2++x):=by
 have g:(zo q).2≠[]:=by intro e;unfold qG at h;rw[e,Ja (by decide)]at h;exact h rfl
 have e:=jq x g;unfold qG;unfold qG at h;rw[e];simp only;have i:atS ((zo q).2++x) 0=atS (zo q).2 0:=Oh x (Ie.2 g);rw[i];cases b:atS (zo q).2 0==40 with
 |false=>rfl
 |true=>
  rw[b,Ka rfl]at h;simp only[Md];cases f:(zo q).2 with
  |nil=>grind
  |cons c r=>
   rw[f]at h;rw[show((c::r)++x).drop 1=r++x from rfl];rw[show(c::r).drop 1=r from rfl]at h ⊢;cases j:lowS (zo q).1==[117,114,108]with
   |false=>
    grind
   |true=>
    rw[j,ma]at h;simp only[ma];cases a:past spB r with
    |nil=>
     rw[a,Ka (by decide),yj]at h
     grind
    |cons d t=>
     rw[Ak x (by rw[a];simp),a];rw[a]at h;rw[show atS ((d::t)++x) 0=atS (d::t) 0 from rfl];split
     ·rename_i k;rw[Ka k]at h;rw[gD x h]
     ·rfl
theorem Sq{q x:Str}{n:Nat}(h:n<=q.length):(q++x).drop n=q.drop n++x:=List.drop_append_of_le_length h
structure zjX (q x:Str):Prop where
 e:zC (q++x)=((zC q).1++x,(zC q).2)
 p:numP (q++x)=numP q
 n:nmS ((zC q).1++x)=nmS (zC q).1
theorem xZ{q x:Str}(a:zjX q x)(h:(zG q).2≠[]):zG (q++x)=((zG q).1,(zG q).2++x):=by
 have f:(zC q).1≠[]:=by intro e;unfold zG at h;rw[e,Ja (by decide),Ja (by decide)]at h;exact h rfl
 have b:atS ((zC q).1++x) 0=atS (zC q).1 0:=Oh x (Ie.2 f);unfold zG;unfold zG at h;rw[a.e,a.p];simp only[a.n,b];cases c:nmS (zC q).1 with
 |true=> rw[c,Ka rfl]at h;simp only[Md];rw[jq x h]
 |false=>
  simp only[Sb,Ad];cases d:atS (zC q).1 0==37 with
  |true=> simp_all
  |false=>grind
theorem Vz {c:UInt8} {r x:Str} (f:brS c (r++x)=brS c r) (h:(Zu (c::r)).2≠[]) (e:brS c r=2->nmS (r++x)=nmS r)
  (b:brS c r=3->zjX (c::r) x):Zu (c::(r++x))=((Zu (c::r)).1,(Zu (c::r)).2++x):=by
 rw[qL c (r++x),f];rw[qL]at h ⊢;rcases JU (lT c r)with a|a|a|a|a|a|a|a|a|a
 ·rw[a,uw]at h;rw[a,uw,uw,show c::(r++x)=(c::r)++x from rfl,Ak x h]
 ·rw[a,Ko]at h;rw[a,Ko,Ko,UA x h]
 ·rw[a,Tk]at h;rw[a,Tk,Tk,jq x h,e a]
 ·have g:=b a;rw[a,Ni]at h;rw[a,Ni,Ni,show c::(r++x)=(c::r)++x from rfl,xZ g h]
 ·have d:=Ai (br_4 a);rw[a,VI,VI,show c::(r++x)=(c::r)++x from rfl,Sq (show 3<=(c::r).length from d)]
 ·have d:=Ai (br_5 a);rw[a,UI,UI,show c::(r++x)=(c::r)++x from rfl,Sq (show 4<=(c::r).length from d)]
 ·rw[a,Jo]at h;rw[a,Jo,Jo,jq x h]
 ·rw[a,wh]at h;rw[a,wh,wh,show c::(r++x)=(c::r)++x from rfl,xX h]
 ·rw[a,Ms,Ms]
 ·rw[a,sw,sw]
theorem yM{q:Str}(x:Str)(h:q≠[]):undot (q++x)=undot q++x:=by
 cases q with
 |nil=>grind
 |cons c r=> unfold undot;show(if c==46 then r++x else c::(r++x))=(if c==46 then r else c::r)++x;split<;>rfl
theorem UX(q:Str):q.length<=(undot q).length+1:=by
 unfold undot
 grind
theorem bG(q:Str):q.length<=(unsign q).length+1:=by
 unfold unsign
 grind
theorem Pn{q:Str}(h:1<=q.length):q≠[]:=by grind
theorem zB2{q:Str}(x:Str)(h:3<=q.length):nbS (q++x)=nbS q:=by have b:=bG q;have a:=UX (unsign q);unfold nbS;rw[(Ml x (Pn (by omega))).1,yM x (Pn (by omega)),Oh x (by omega)]
theorem Wx{q:Str}(x:Str)(h:3<=q.length):nmS (q++x)=nmS q:=by unfold nmS escS;rw[Sq (by omega),Oh x (show 0<q.length by omega),Oh x (show 1<q.length by omega),Oh x (show 0<(q.drop 1).length by grind),Oh x (show 1<(q.drop 1).length by grind)]
theorem Iq{m:Str}: ∀{q:Str} (x:Str),m.length<=q.length->m.isPrefixOf (q++x)=m.isPrefixOf q:=by
 induction m with
 |nil=>grind
 |cons a m c=>
  intro q x h;cases q with
  |nil=>grind
  |cons b t=>
   grind
theorem zBw{c:UInt8}{r:Str}(x:Str)(h:4<=r.length):brS c (r++x)=brS c r:=by
 have e:c::(r++x)=(c::r)++x:=rfl;have hl:(c::r).length=r.length+1:=rfl;unfold brS;rw[e,zB2 x (by omega),Iq x (by grind),Iq x (by grind),Wx x (q:=r) (by omega),Wx x (q:=c::r) (by omega),Oh x (show 0<r.length by omega)];have:escS (r++x)=escS r:=by unfold escS;rw[Oh x (show 0<r.length by omega),Oh x (show 1<r.length by omega)]
 rw[this]
theorem Jl{w:Str}:expS w=none↔((atS w 0==101||atS w 0==69)&&digB (atS (unsign (w.drop 1)) 0))=false:=by
 unfold expS
 grind
theorem zAe{w:Str}(x:Str)(h:3<=w.length)(a:expS w=none):expS (w++x)=none:=by rw[Jl]at a ⊢;have b:=bG (w.drop 1);rw[Ec]at b;rw[Sq (by omega),(Ml x (Pn (by grind))).1,Oh x (show 0<w.length by omega),Oh x (by omega)];exact a
theorem TZ(q:Str):(zV q).1<:+q:=by
 unfold zV;split
 ·exact(Dn _ _).trans (Ke 1 q)
 grind
theorem zBG(q:Str):(zC q).1<:+(zV (Ef q)).1:=by
 rw[Qw];cases h:expS (zV (Ef q)).1 with
 |some r=>exact lK (Vd _) h
 |none=>grind
theorem fP(q:Str):(zG q).2<:+(zC q).1:=by
 unfold zG;split
 ·exact Jj _
 ·split
  ·exact Ke 1 _
  grind
theorem zAE{q:Str}(x:Str)(h:4<=(zC q).1.length):zjX q x:=by have d:=(zBG q).length_le;have c:=(TZ (Ef q)).length_le;obtain⟨a,b⟩:=bD (q:=q) (x:=x) (Pn (by omega)) (fun e=>by grind) (zAe x (by omega));exact⟨a,b,Wx x (by omega)⟩
theorem wW{c:UInt8}{r:Str}(x:Str)(h:4<=(Zu (c::r)).2.length):Zu (c::(r++x))=((Zu (c::r)).1,(Zu (c::r)).2++x):=by have b:=(Xi c r).length_le;refine Vz (zBw x (by omega)) (Pn (by omega)) (fun _=>Wx x (by omega)) (fun a=>zAE x ?_);rw[qL,a,Ni]at h;have:=(fP (c::r)).length_le;omega
theorem Dy(q y:Str):escS (q++47::y)=escS q:=by
 match q with
 |[]=>rfl
 |[c]=>rfl
 |c::d::t=>rfl
theorem Ns(q y:Str):nmS (q++47::y)=nmS q:=by
 match q with
 |[]=>rfl
 |[c]=> unfold nmS;show(if c==45 then fstB 47||47==45||escS (47::y)else fstB c||escS ([c]++47::y))=(if c==45 then fstB 0||0==45||escS []else fstB c||escS [c]);rw[Dy];rfl
 |c::d::t=> unfold nmS;show(if c==45 then fstB d||d==45||escS ((d::t)++47::y)else fstB c||escS ((c::d::t)++47::y))=(if c==45 then fstB d||d==45||escS (d::t)else fstB c||escS (c::d::t));rw[Dy,Dy]
theorem TJ(q y:Str):digB (atS (q++47::y) 0)=digB (atS q 0):=by
 cases q with
 |nil=>rfl
 |cons c t=>rfl
theorem xM(q y:Str):unsign (q++47::y)=unsign q++47::y:=by
 cases q with
 |nil=>rfl
 |cons c t=>exact(Ml (47::y) (by simp)).1
theorem TV(q y:Str):undot (q++47::y)=undot q++47::y:=by
 cases q with
 |nil=>rfl
 |cons c t=>exact yM (47::y) (by simp)
theorem zCT(q y:Str):nbS (q++47::y)=nbS q:=by unfold nbS;rw[xM,TV,TJ]
theorem sI{m:Str}(c: ∀b∈m,b≠47): ∀(q y:Str),m.isPrefixOf (q++47::y)=m.isPrefixOf q:=by
 induction m with
 |nil=>grind
 |cons a m d=>
  intro q y;cases q with
  |nil=>
   grind
  |cons b t=>grind
theorem zBV(q y:Str):letB (atS (q++47::y) 0)=letB (atS q 0):=by
 cases q with
 |nil=>rfl
 |cons c t=>rfl
theorem kT(c:UInt8)(r y:Str):brS c (r++47::y)=brS c r:=by have e:c::(r++47::y)=(c::r)++47::y:=rfl;unfold brS;rw[e,zCT,sI (by decide),sI (by decide),Ns,Ns,zBV,Dy]
theorem zBJ{w:Str}(y:Str)(a:expS w=none):expS (w++47::y)=none:=by
 cases w with
 |nil=>rfl
 |cons c t=> rw[Jl]at a ⊢;show((c==101||c==69)&&digB (atS (unsign (t++47::y)) 0))=false;rw[xM,TJ];exact a
theorem zB7{q:Str}(y:Str)(h:(zC q).1≠[]):zjX q (47::y):=by obtain⟨a,b⟩:=bD (q:=q) (x:=47::y) h (fun _=>rfl) (zBJ y);exact⟨a,b,Ns _ y⟩
theorem pO{q:Str}(h:(zG q).2≠[]):(zC q).1≠[]:=by intro e;have:=(fP q).length_le;simp_all
theorem zAB{c:UInt8}{r:Str}(y:Str)(h:(Zu (c::r)).2≠[]):Zu (c::(r++47::y))=((Zu (c::r)).1,(Zu (c::r)).2++47::y):=by refine Vz (kT c r y) h (fun _=>Ns r y) (fun a=>zB7 y ?_);rw[qL,a,Ni]at h;exact pO h
def jB(c:UInt8)(r x:Str):Prop:=(∃e a,(e=101\/e=69)/\zV (Ef (c::r))=([e,43],a))/\(Zu (c::r)).2=[43]/\(Zu (c::r)).1.kind=12/\digB (atS x 0)=true
theorem sW{c:UInt8}{r x:Str}(hb:brS c r=3)(h:(Zu (c::r)).2≠[])(hx:x≠[])(ht:(zG ((c::r)++x)).1=(zG (c::r)).1):
  zjX (c::r) x\/jB c r x:=by
 have hnx:Zu (c::r)=zG (c::r):=by rw[qL,hb,Ni]
 rw[hnx]at h;have he:=pO h;have hflag: ∀q:Str,(zG q).1.kind=10->(zG q).1.flag=(zC q).2:=by
  intro q;unfold zG;split
  ·intro h;cases h
  ·grind
 have hnm: ∀q:Str,((zG q).1.kind=12↔nmS (zC q).1=true):=by
  intro q;unfold zG;split
  ·grind
  ·grind
 by_cases hd:Ef (c::r)=[46]->digB (atS x 0)=false
 ·by_cases hn:expS (zV (Ef (c::r))).1=none->expS ((zV (Ef (c::r))).1++x)=none
  ·obtain⟨a,b⟩:=bD he hd hn;refine .inl ⟨a,b,?_⟩
   grind
  ·right;obtain⟨hn1,hn2⟩:=Classical.not_imp.1 hn;have hend:zC (c::r)=zV (Ef (c::r)):=by rw[Qw,hn1]
   rw[hend]at he;obtain⟨w,fl⟩: ∃w fl,zV (Ef (c::r))=(w,fl):=⟨_,_,rfl⟩;obtain⟨fl,hw⟩:=fl;rw[hw]at he hn1 hn2 hend;simp only at he hn1 hn2;rw[Jl]at hn1;rw[Jl]at hn2;cases w with
   |nil=>grind
   |cons e t=>
    have h2:((e==101||e==69)&&digB (atS (unsign (t++x)) 0))=true:=by
     have:((atS ((e::t)++x) 0==101||atS ((e::t)++x) 0==69)&&digB (atS (unsign (((e::t)++x).drop 1)) 0))=true:=by
      cases hh:((atS ((e::t)++x) 0==101||atS ((e::t)++x) 0==69)&&digB (atS (unsign (((e::t)++x).drop 1)) 0))with
      |true=>rfl
      |false=>grind
     exact this
    have h1:((e==101||e==69)&&digB (atS (unsign t) 0))=false:=hn1;rw[Fa]at h2;rw[h2.1,ma]at h1;have hee:e=101\/e=69:=by have:=h2.1;rw[Jc,Cb,Cb]at this;exact this
    have hfst:fstB e=true/\letB e=true/\(e==45)=false:=by rcases hee with rfl|rfl<;>decide
    have hnmw:nmS (e::t)=true:=by unfold nmS;rw[show atS (e::t) 0=e from rfl,hfst.2.2,Ja (by decide),hfst.1];rfl
    have hnum:zG (c::r)=(⟨12,[],(numP (c::r)).val,(zo (e::t)).1,fl⟩,(zo (e::t)).2):=by unfold zG;rw[hend,Ka hnmw]
    rw[hnum]at h;have h':(zo (e::t)).2≠[]:=h;have ht43:t=[43]/\digB (atS x 0)=true:=by
     match t with
     |[]=>rw[zQ,Ka hfst.2.1,qR]at h';grind
     |[d]=>
      have hux:unsign ([d]++x)=if Lf d then x else d::x:=rfl;have hu:unsign [d]=if Lf d then []else [d]:=rfl;rw[hux]at h2;rw[hu]at h1;cases hs:Lf d with
      |false=>
       rw[hs,Ja (by decide)]at h1 h2;have:=h2.2;rw[show atS (d::x) 0=atS [d] 0 from rfl,h1]at this;cases this
      |true=>
       rw[hs,Ka rfl]at h2;unfold Lf at hs;rw[Jc,Cb,Cb]at hs;rcases hs with rfl|rfl
       ·grind
       ·rw[zQ,Ka hfst.2.1,zQ,Ka (by decide),qR]at h';grind
     |d::d2::t2=>
      exfalso;have hlen:1<=(unsign (d::d2::t2)).length:=by have:=bG (d::d2::t2);rw[Ia,Ia]at this;omega
      have:=h2.2;rw[(Ml x (by simp)).1,Oh x (by omega),h1]at this;cases this
    obtain⟨rfl,hdx⟩:=ht43;refine⟨⟨e,fl,hee,hw⟩,?_,?_,hdx⟩
    ·rw[hnx,hnum];show(zo [e,43]).2=[43];rw[zQ,Ka hfst.2.1,zQ,Ja (by decide),Ja (by decide)]
    ·rw[hnx,hnum]
 ·exfalso;obtain⟨hq2,hdx⟩:=Classical.not_imp.1 hd;have hend:zC (c::r)=([46],true):=by rw[Qw,hq2];rfl
  have hnum:zG (c::r)=(⟨10,[],(numP (c::r)).val,[],true⟩,[46]):=by unfold zG;rw[hend,Ja (by decide),Ja (by decide)]
  rw[hnum]at ht;have hf:=hflag ((c::r)++x) (by rw[ht]);rw[ht]at hf;have hun:unsign (c::r)≠[]:=by intro e;rw[Ef,e]at hq2;cases hq2
  have e2:Ef ((c::r)++x)=46::x:=by unfold Ef;rw[(Ml x (by simp)).1,Ak x (by unfold Ef at hq2;rw[hq2];simp)];unfold Ef at hq2;rw[hq2];rfl
  have hw:zV (46::x)=(past digB x,false):=by
   unfold zV;have:digB (atS x 0)=true:=by cases hh:digB (atS x 0)with|true=>rfl|false=>grind
   rw[show atS (46::x) 0=46 from rfl,show atS (46::x) 1=atS x 0 from rfl,this];rfl
  have hfl:(zC ((c::r)++x)).2=false:=by rw[Qw,e2,hw];simp only;cases expS (past digB x)<;>rfl
  rw[hfl]at hf;cases hf
theorem FY{c:UInt8}{r x:Str}(h:(Zu (c::r)).2≠[])(hx:x≠[])(ht:(Zu (c::(r++x))).1=(Zu (c::r)).1):
  (Zu (c::(r++x))).2=(Zu (c::r)).2++x\/jB c r x:=by
 have hb:brS c (r++x)=brS c r:=by rw[<-Hl,<-Hl,ht]
 have hh:brS c r=2->nmS (r++x)=nmS r:=by intro hi;have:=congrArg ze.flag ht;rw[qL,qL,hb,hi,Tk,Tk]at this;exact this
 by_cases hi:brS c r=3
 ·have hnx:Zu (c::r)=zG (c::r):=by rw[qL,hi,Ni]
  have hnx2:Zu (c::(r++x))=zG ((c::r)++x):=by rw[qL,hb,hi,Ni];rfl
  have ht':=ht;rw[hnx,hnx2]at ht';rcases sW hi h hx ht' with hs|hp
  ·left;rw[Vz hb h hh (fun _=>hs)]
  ·exact .inr hp
 ·left;rw[Vz hb h hh (fun e=>absurd e hi)]
def run:Str->List ze->Str->Prop
 |q,[],R=>q=R
 |q,t::a,R=> ∃c r,cmtS q=c::r/\(Zu (c::r)).1=t/\run (Zu (c::r)).2 a R
theorem ut: ∀{ts:List ze} {q R:Str},run q ts R->R<:+q
 |[],q,R,h=>by rw[run]at h;grind
 |t::ts,q,R,h=>by obtain⟨c,r,d,e,b⟩:=h;have a:=Xh q;rw[d]at a;exact(ut b).trans ((Xi c r).trans ((Ld c r).trans a))
theorem Vq: ∀{ts:List ze} {q R:Str},run q ts R->qz q=ts++qz R
 |[],q,R,h=>by rw[run]at h;subst h;rfl
 |t::ts,q,R,h=>by obtain⟨c,r,d,b,a⟩:=h;rw[QP d,b,Vq a];rfl
theorem UE: ∀{ts us:List ze} {q R S:Str},run q ts R->run R us S->run q (ts++us) S
 |[],us,q,R,S,h,a=>by rw[run]at h;subst h;exact a
 |t::ts,us,q,R,S,h,a=>by obtain⟨c,r,e,d,b⟩:=h;exact⟨c,r,e,d,UE b a⟩
theorem aL: ∀{ts us:List ze} {q:Str},qz q=ts++us-> ∃R,run q ts R/\qz R=us
 |[],us,q,h=>⟨q,rfl,h⟩
 |t::ts,us,q,h=>by
  cases a:cmtS q with
  |nil=>rw[Q4 a]at h;cases h
  |cons c r=> rw[QP a,Xa]at h;injection h with d f;obtain⟨R,e,b⟩:=aL f;exact⟨R,⟨c,r,a,d,e⟩,b⟩
theorem gJ: ∀{ts:List ze} {q R S:Str},run q ts R->run q ts S->R=S
 |[],q,R,S,h,b=>by rw[run]at h b;rw[<-h,b]
 |t::ts,q,R,S,h,b=>by obtain⟨c,r,f,m,g⟩:=h;obtain⟨l,k,a,e,d⟩:=b;rw[f]at a;injection a with i j;subst i j;exact gJ g d
theorem iJ{ts:List ze}{q R:Str}(d:ts≠[]):run (cmtS q) ts R↔run q ts R:=by
 cases ts with
 |nil=>grind
 |cons t ts=>
  constructor
  ·rintro⟨c,r,a,b⟩;rw[Ik]at a;exact⟨c,r,a,b⟩
  ·rintro⟨c,r,a,b⟩;exact⟨c,r,by rw[Ik];exact a,b⟩
theorem EE(x:Str): ∀{l r:Str},clsS l=some r->clsS (l++x)=some (r++x)
 |[],r,h=>by cases h
 |c::t,r,h=>by
  rw[clsS]at h;rw[Xa,clsS];cases t with
  |nil=>
   cases a:c==42&&atS ([]:Str) 0==47 with
   |true=>rw[Fa]at a;exact absurd a.2 (by decide)
   |false=>rw[a,Ja (by decide)]at h;cases h
  |cons d u=>
   rw[show atS ((d::u)++x) 0=atS (d::u) 0 from rfl];split
   ·grind
   ·rename_i a;rw[Ja a]at h;exact EE x h
theorem Iu{q x:Str}(h:cmtS q≠[])(a:([47,42]:Str).isPrefixOf (cmtS q++x)=false):cmtS (q++x)=cmtS q++x:=by
 rw[Yh q]at h a ⊢;split at h
 ·rename_i b;have c:=Ai b;rw[show([47,42]:Str).length=2 from rfl]at c;rw[Ka b]at a ⊢;cases d:clsS (q.drop 2)with
  |none=>grind
  |some p=>
   rw[d]at h a;simp only at h a ⊢;rw[Yh (q++x),Iq x (by exact c),b,Ka rfl,Sq c,EE x d];simp only;have e:p.length<q.length:=by have e:=(Xj _ d).2;rw[Ec]at e;omega
   exact Iu h a
 ·rename_i b;rw[Ja b]at a ⊢;exact qg a
termination_by q.length
decreasing_by omega
theorem FV{c d:UInt8}(t x:Str):([47,42]:Str).isPrefixOf ((c::d::t)++x)=([47,42]:Str).isPrefixOf (c::d::t):=Iq x (by grind)
theorem aK{q x:Str}(h:2<=(cmtS q).length):cmtS (q++x)=cmtS q++x:=by refine Iu (Pn (by omega)) ?_;rw[Iq x (by exact h)];exact Hu q
theorem BL{c:UInt8}{r:Str}(h:(Zu (c::r)).2≠[]):2<=(c::r).length:=by
 have b:=(Xi c r).length_le;have a:=Ie.2 h
 grind
theorem fJ: ∀{ts:List ze} {q R:Str} (x:Str),run q ts R->4<=R.length->run (q++x) ts (R++x)
 |[],q,R,x,h,_=>by rw[run]at h;subst h;rfl
 |t::ts,q,R,x,h,e=>by obtain⟨c,r,a,f,b⟩:=h;have i:=(ut b).length_le;have d:=wW x (c:=c) (r:=r) (by omega);have g:=BL (c:=c) (r:=r) (Pn (by omega));refine⟨c,r++x,by rw[aK (by rw[a];exact g),a];rfl,by rw[d];exact f,?_⟩;rw[d];exact fJ x b e
theorem lC{q:Str}(y:Str)(h:cmtS q≠[]):cmtS (q++47::42::y)=cmtS q++47::42::y:=by
 refine Iu h ?_;have b:=Hu q;cases a:cmtS q with
 |nil=>exact absurd a h
 |cons c t=>
  cases t with
  |nil=>
   grind
  |cons d u=>grind
theorem DC: ∀{ts:List ze} {q R:Str} (y:Str),run q ts R->R≠[]->run (q++47::42::y) ts (R++47::42::y)
 |[],q,R,y,h,_=>by rw[run]at h;subst h;rfl
 |t::ts,q,R,y,h,hl=>by
  obtain⟨c,r,h1,h2,h3⟩:=h;have h4:(Zu (c::r)).2≠[]:=by intro e;have:=(ut h3).length_le;rw[e]at this;exact hl (List.length_eq_zero_iff.1 (by simpa using this))
  have h5:=zAB (42::y) h4;refine⟨c,r++47::42::y,by rw[lC y (by rw[h1];simp),h1];rfl,by rw[h5];exact h2,?_⟩;rw[h5];exact DC y h3 hl
def uT(q x:Str)(us:List ze):Prop:= ∃c r,cmtS q=c::r/\jB c r x/\(Zu (c::(r++x))).1=(Zu (c::r)).1/\qz (Zu (c::(r++x))).2=us
theorem oL: ∀{ts us:List ze} {q R:Str} {x:Str},run q ts R->R≠[]->x≠[]->qz (q++x)=ts++us->run (q++x) ts (R++x)\/(R=[43]/\ ∃p,p<:+q/\uT p x us)
 |[],us,q,R,x,h,_,_,_=>by rw[run]at h;subst h;exact .inl rfl
 |t::ts,us,q,R,x,h,hl,hx,ht=>by
  obtain⟨c,r,h1,h2,h3⟩:=h;have h4:(Zu (c::r)).2≠[]:=by intro e;have:=(ut h3).length_le;rw[e]at this;exact hl (List.length_eq_zero_iff.1 (by simpa using this))
  have hc:cmtS (q++x)=c::(r++x):=by rw[aK (by rw[h1];exact BL h4),h1];rfl
  rw[QP hc,Xa]at ht;injection ht with ht1 ht2;rcases FY h4 hx (by rw[ht1,h2])with h5|h5
  ·rw[h5]at ht2;rcases oL h3 hl hx ht2 with h6|⟨h6,p,hp,h7⟩
   ·exact .inl ⟨c,r++x,hc,ht1,by rw[h5];exact h6⟩
   ·refine .inr ⟨h6,p,hp.trans ((Xi c r).trans ((Ld c r).trans ?_)),h7⟩;rw[<-h1];exact Xh q
  ·right;have h43:=h5.2.1;have hR:R=[43]/\ts=[]:=by
    cases ts with
    |nil=>rw[run,h43]at h3;grind
    |cons u us'=> exfalso;rw[h43]at h3;obtain⟨c',r',e1,e2,e3⟩:=h3;rw[show cmtS [43]=[43]from qg rfl]at e1;injection e1 with e4 e5;subst e4 e5;have:=(ut e3).length_le;have h9:=(Xi (43:UInt8) []).length_le;simp_all
   obtain⟨hR,rfl⟩:=hR;refine⟨hR,q,Vd _,c,r,h1,h5,by rw[ht1,h2],?_⟩;rw[ht2];rfl
def encB(p:UInt8->Bool):Str->Str
 |[]=>[]
 |c::r=>(bif p c then escC c else [c])++encB p r
def quoB(c:UInt8):Bool:=c==10||c==12||c==13||c==34||c==92
def urB(c:UInt8):Bool:=decide (c.toNat<=32)||c==34||c==39||c==40||c==41||c==92||c==127
def Rh:Str->Bool
 |[]=>false
 |c::r=>(c==101||c==69)&&numS r&& !(List.isPrefixOf [45,45] r)
def Vf:Str->Str
 |[]=>[]
 |c::r=>bif Rh (c::r)then escC c++encW false 0 r else Zx (c::r)
def Vk(k:Int):Str:=
 bif k==13 then [32]else bif k==14 then [60,33,45,45]else bif k==15 then [45,45,62]else bif k==16 then [58]else bif k==17 then [59]else bif k==18 then [44]else
 bif k==19 then [91]else bif k==20 then [93]else bif k==21 then [40]else bif k==22 then [41]else bif k==23 then [123]else [125]
def txS(t:ze):Str:=
 bif t.kind==1 then Zx t.text
 else bif t.kind==2 then Zx t.text++[40]
 else bif t.kind==3 then 64::Zx t.text
 else bif t.kind==4 then 35::(bif t.flag then Zx t.text else encW false 0 t.text)
 else bif t.kind==5 then 34::(encB quoB t.text++[34])
 else bif t.kind==7 then [117,114,108,40]++(encB urB t.text++[41])
 else bif t.kind==9 then t.text
 else bif t.kind==10 then numT t.num (!t.flag)
 else bif t.kind==11 then numT t.num false++[37]
 else bif t.kind==12 then numT t.num (!t.flag)++Vf t.unit
 else Vk t.kind
theorem Dk(p:UInt8->Bool): ∀l:Str,(encB p l).length<=4*l.length
 |[]=>by unfold encB;simp
 |c::r=>by
  have:=oh c;have:=Dk p r;unfold encB
  grind
theorem gU{p:UInt8->Bool}{i:Nat}{l:Str}(h:i<l.length):encB p (l.drop i)=(bif p l[i]then escC l[i]else [l[i]])++encB p (l.drop (i+1)):=by rw[Ab h,encB]
theorem gN {R:Type} {step:Int×List UInt8->Option (LO (Int×List UInt8) (List UInt8) R)} {l acc:Str} {p:UInt8->Bool} (hl:l.length<=100000) (ha:acc.length<=100000000)
  (h1: ∀(i:Nat) (a:Str) (hi:i<l.length),a.length<=500000000->step ((i:Int),a)=some (.again (w64 ((i:Int)+1),a++(bif p l[i]then escC l[i]else [l[i]]))))
  (h2: ∀a,step ((l.length:Int),a)=some (.out a)):Nf step (0,acc)=some (.out (acc++encB p l)):=by
 refine Zv (fun z=> ∃(i:Nat) (a:Str),z=((i:Int),a)/\i<=l.length/\a.length<=acc.length+4*i/\a++encB p (l.drop i)=acc++encB p l) (fun z=>l.length - z.1.toNat) _ ?_ ⟨0,acc,rfl,by omega,by omega,rfl⟩;rintro _ ⟨i,a,rfl,hi,hal,he⟩;rcases Lc i l.length with h|h
 ·refine .inl ⟨_,h1 i a h (by omega),⟨i+1,_,by rw[zJ (by omega) (by omega)];rfl,by omega,?_,?_⟩,by simp only;rw[zJ (by omega) (by omega)];omega⟩
  ·have:=oh l[i]
   grind
  ·rw[<-he,gU h,Oa]
 ·have:i=l.length:=by omega
  subst this;refine .inr (.inl ⟨_,h2 a,?_⟩);rw[<-he,De (aa _)];rw[show encB p []=[] by rw[encB],ja]
theorem MF{l acc:Str}{k:Nat}(d:l.length<=100000)(b:acc.length<=100000000):qW ((l,(k:Int)),acc)=some (acc++encW (Ih k l) k l):=by
 unfold qW;rw[Ze (nJ (dash:=Ih k l) (k:=k) (l:=l) (acc:=acc) d b (fun i a f b=> ?_) (fun a=> ?_))]
 ·have g:decide ((i:Int)<(l.length:Int))=true:=Ea (by omega);have e:geti l (i:Int)=some l[i]:=Zo f;have j:decide ((i:Int)>=(k:Int))=(k - i==0):=by
   by_cases h:k<=i
   ·grind
   ·grind
  have m:((k:Int)==0)=(k==0):=by
   by_cases h:k=0
   ·subst h;rfl
   ·grind
  simp only[g,Ca,e,j,m,zb,Aa,gK,sD];have c:(bif k==0 then true else !(l==[45]))= !Ih k l:=by unfold Ih;cases k==0<;>cases l==[45]<;>rfl
  rw[c];unfold pcW;cases letB l[i]with
  |false=>
   cases k - i==0<;>simp only[zq,Ya,Va,lc,Pb,Lb,Ca,Ba,Aa,Ll l[i] (show a.length<=1000000000 by omega),zh]
  |true=> cases k - i==0<;>cases digB l[i]<;>cases Ih k l<;>simp only[zq,Ya,Va,lc,Pb,Lb,Xe,Be,ma,Gc,Wd,Ca,Ba,Aa,Su,zm (Jg (show a.length+1<=2000000000 by omega)),Ll l[i] (show a.length<=1000000000 by omega),zh]
 grind
theorem KZ(l:Str):Ih (ZN l) l=(l==[45]):=by unfold Ih ZN;split<;>rfl
theorem Ot{l acc:Str}(a:l.length<=100000)(b:acc.length<=100000000):qW ((l,((ZN l:Nat):Int)),acc)=some (acc++Zx l):=by rw[MF a b,KZ];rfl
theorem XU{n:Nat}{b:Str}(c:n<=1000000000000)(d:b.length<=100000):Bn (((n:Int),10),b)=some (b++Lib.decDigits n):=by have a:short b=true:=Ea (by omega);unfold Bn;simp only[a,Lb,Sa,decide_true,ma];rw[Ea (by omega),Ea (by omega)];rfl
theorem oP{m:Nat}(n:m<=1000000000000)(p:Bool)(b:Str)(o:b.length<=90000):
  ((Bn ((w64 (Int.tdiv (m:Int) 1000),10),b)).bind fun a=>(gm (w64 (1000+Int.tmod (m:Int) 1000),10)).bind fun d=>need (decide (1<=(d.length:Int)))<|
   (ak (List.drop 1 d,[48])).bind fun c=>zS (X:=List UInt8) (R:=List UInt8) (bif !(c==[])then need (Zc a.length 1 1)<|need (Zc (a++[(46:UInt8)]).length c.length 1)<|some (LX.out (a++[(46:UInt8)]++c))else bif p then need (Zc a.length ([46,48]:Str).length 1)<|some (LX.out (a++([46,48]:Str)))else some (LX.out a)) fun l=>some l)=some (b++Yf m p):=by
 have k:w64 (Int.tdiv (m:Int) 1000)=((m / 1000:Nat):Int):=by rw[show Int.tdiv (m:Int) 1000=((m / 1000:Nat):Int)from rfl,zJ (by omega) (by omega)]
 have j:w64 (1000+Int.tmod (m:Int) 1000)=((1000+m%1000:Nat):Int):=by rw[show Int.tmod (m:Int) 1000=((m%1000:Nat):Int)from rfl,zJ (by omega) (by omega)];omega
 have f:m%1000<1000:=by omega
 rw[k,j];have i:gm (((1000+m%1000:Nat):Int),10)=some (49::[d48 (m%1000 / 100),d48 (m%1000 / 10%10),d48 (m%1000%10)]):=by unfold gm i64B;simp only[decide_true,ma];rw[Ea (by omega),Ea (by omega)];rw[<-TM f];show some (Lib.itoa _)=_;unfold Lib.itoa;rw[Ja (by omega),Sa]
 have e:=Bv (u:=m / 1000) (by omega);rw[XU (by omega) (by omega),Aa,i,Aa,zm (Ea (by simp))];have g:ak (List.drop 1 (49::[d48 (m%1000 / 100),d48 (m%1000 / 10%10),d48 (m%1000%10)]),[48])=some (vg (m%1000)):=rfl;rw[g,Aa,lZ];have h:=bz _ f;simp only[Lt,Fa,Kb]at h;unfold Yf mi;cases (vg (m%1000)).isEmpty with
 |true=>
  simp only[Ya,Ba,Ca];cases p with
  |true=>rw[Ca,zm (Mj (by grind) (by omega)),zh,Oa];rfl
  |false=>simp_all
 |false=> simp only[Va,Ba,Ca];rw[zm (Mj (by grind) (by omega)),zm (Mj (by grind) (by omega)),zh,Oa,Oa];rfl
theorem jG{n:Int}(d: -1000000000000<=n)(h2:n<=1000000000000)(p:Bool){acc:Str}(c:acc.length<=80000):QE ((n,p),acc)=some (acc++numT n p):=by
 unfold QE numT;simp only[zb];by_cases a:n<0
 ·obtain⟨m,rfl⟩: ∃m:Nat,n= -(m:Int):=⟨n.natAbs,by omega⟩;rw[Ea a,Ca,zm (Mj (by omega) (by omega)),zh,Ka a];simp only;have b:w64 (0 - -(m:Int))=(m:Int):=by rw[show(0 - -(m:Int))=(m:Int) by omega,zJ (by omega) (by omega)]
  rw[b,Int.natAbs_neg,Int.natAbs_natCast,<-Oa];exact oP (by omega) p (acc++[45]) (by grind)
 ·obtain⟨m,rfl⟩: ∃m:Nat,n=(m:Int):=⟨n.toNat,by omega⟩;rw[Ra a,Ba,zh,Ja a];simp only;rw[Int.natAbs_natCast,Ub];exact oP (by omega) p acc (by omega)
theorem zAr: ∀n:Nat,n<256->(ibOr IntKind.u8 (n:Int) 32==101)=(UInt8.ofNat n==101||UInt8.ofNat n==69):=by decide+kernel
theorem zAq(c:UInt8):(ibOr IntKind.u8 (c.toNat:Int) 32==101)=(c==101||c==69):=by have:=zAr c.toNat (Bb c);simp_all
theorem zAY(c:UInt8):decide (Lib.indexByte [10,12,13,34,92] c.toNat.toUInt8>=0)=quoB c:=by
 have: ∀n:Nat,n<256->decide (Lib.indexByte [10,12,13,34,92] n.toUInt8>=0)=quoB (UInt8.ofNat n):=by decide+kernel
 have:=this c.toNat (Bb c);simp_all
theorem zBe(c:UInt8):(decide ((c.toNat:Int)<=32)||decide (Lib.indexByte [34,39,40,41,92,127] c.toNat.toUInt8>=0))=urB c:=by
 have: ∀n:Nat,n<256->(decide ((n:Int)<=32)||decide (Lib.indexByte [34,39,40,41,92,127] n.toUInt8>=0))=urB (UInt8.ofNat n):=by decide+kernel
 have:=this c.toNat (Bb c);simp_all
theorem dP {t:ze} (h:Pf t=true) (e:(t.kind==1)=false) (h2:(t.kind==2)=false) (g:(t.kind==3)=false) (d:(t.kind==4)=false) (i:(t.kind==5)=false) (j:(t.kind==7)=false) (f:(t.kind==9)=false)
  (c:(t.kind==10)=false) (b:(t.kind==11)=false) (a:(t.kind==12)=false):13<=t.kind/\t.kind<=24:=by
 unfold Pf at h
 grind
theorem OW: ∀n:Nat,n<12->(bv ()).bind (fun a=>geti [a.e0,a.e1,a.e2,a.e3,a.e4,a.e5,a.e6,a.e7,a.e8,a.e9,a.e10,a.e11] (wu8 ((13+n:Int) - 13)))=some (Vk (13+n:Int)):=by decide+kernel
theorem IG(k:Int):(Vk k).length<=4:=by
 unfold Vk;cases k==13<;>cases k==14<;>cases k==15<;>simp only[Ca,Ba]<;>try (simp;done)
 grind
theorem YV{t:ze}{acc:Str}(x:Pf t=true)(R:t.text.length<=5000)(h2:t.unit.length<=5000)(ha:acc.length<=60000):Er (t,acc)=some (acc++txS t):=by
 have one: ∀q:Str,q.length<=90000->Zc q.length 1 1=true:=fun q hq=>Mj (by omega) (by omega);have z: ∀l:Str,l.length<=5000->(Zx l).length<=20000:=fun l hl=>by have:=uh (l==[45]) (ZN l) l;unfold Zx;omega
 unfold Er txS;simp only[zb];cases H:t.kind==1 with
 |true=>simp only[Ca,Rq,Aa,Ot (show t.text.length<=100000 by omega) (show acc.length<=100000000 by omega)]
 |false=>
 cases L:t.kind==2 with
 |true=> simp only[Ca,Ba,Rq,Aa,Ot (show t.text.length<=100000 by omega) (show acc.length<=100000000 by omega)];have:=z t.text R;rw[zm (one _ (by grind)),Oa]
 |false=>
 cases M:t.kind==3 with
 |true=> simp only[Ca,Ba,Rq,Aa];rw[zm (one _ (by omega)),Ot (by omega) (by grind),Oa];rfl
 |false=>
 cases Q:t.kind==4 with
 |true=>
  simp only[Ca,Ba,Rq,Aa];cases t.flag with
  |true=> simp only[Ca,zh];rw[zm (one _ (by omega)),Ot (by omega) (by grind),Oa];rfl
  |false=> simp only[Ba,zh];rw[zm (one _ (by omega)),show(0:Int)=((0:Nat):Int)from rfl,MF (by omega) (by grind),Oa];rfl
 |false=>
 cases P:t.kind==5 with
 |true=>
  simp only[Ca,Ba];have k:maxLen=9223372036854775807:=rfl;rw[zm (one _ (by omega)),zm (Ea (by omega))];have C:=Dk quoB t.text;rw[Ze (gN (p:=quoB) (l:=t.text) (acc:=acc++[34]) (by omega) (by grind) (fun i a F y=> ?_) (fun a=> ?_))]
  ·rw[zm (one _ (by grind)),Oa,Oa];rfl
  ·have D:decide ((i:Int)<(t.text.length:Int))=true:=Ea (by omega);have A:decide ((0:Int)<=(i:Int))=true:=Ea (by omega);simp only[D,A,Lb,Ca,Zi,Sa,Ta F,Aa,Dr,zAY];cases quoB t.text[i]with
   |true=>simp only[Ca,Ll _ (show a.length<=1000000000 by omega),Aa,zh]
   |false=>simp only[Ba,Su,Aa,zm (Jg (show a.length+1<=2000000000 by omega)),zh]
  ·grind
 |false=>
 cases O:t.kind==7 with
 |true=>
  simp only[Ca,Ba];have k:maxLen=9223372036854775807:=rfl;rw[zm (Mj (by grind) (by omega)),zm (Ea (by omega))];have C:=Dk urB t.text;rw[Ze (gN (p:=urB) (l:=t.text) (acc:=acc++[117,114,108,40]) (by omega) (by grind) (fun i a F y=> ?_) (fun a=> ?_))]
  ·rw[zm (one _ (by grind)),Oa,Oa]
  ·have D:decide ((i:Int)<(t.text.length:Int))=true:=Ea (by omega);have A:decide ((0:Int)<=(i:Int))=true:=Ea (by omega);simp only[D,A,Lb,Ca,Zi,Sa,Ta F,Aa,Dr];rw[<-zBe];cases decide ((t.text[i].toNat:Int)<=32)with
   |true=>simp only[Ya,zP,Aa,Ca,Wd,Ll _ (show a.length<=1000000000 by omega),zh]
   |false=>
    simp only[Va,zx,Aa,Ba,Gc];cases decide (Lib.indexByte [34,39,40,41,92,127] t.text[i].toNat.toUInt8>=0)with
    |true=>simp only[Ca,Ll _ (show a.length<=1000000000 by omega),Aa,zh]
    |false=>simp only[Ba,Su,Aa,zm (Jg (show a.length+1<=2000000000 by omega)),zh]
  ·grind
 |false=>
 cases N:t.kind==9 with
 |true=> simp only[Ca,Ba];rw[zm (Mj (by omega) (by omega))]
 |false=>
 have g:(t.kind==10||t.kind==11||t.kind==12)=true->rngS t=true/\(!(t.unit==[])==(t.kind==12))=true:=by intro Z;unfold Pf at x;simp only[H,L,M,Q,P,O,N,Z,Bool.or_self,Ba,Ca,Fa]at x;exact⟨x.1,x.2.1⟩
 have b:rngS t=true-> -1000000000000<=t.num/\t.num<=1000000000000:=by intro j;unfold rngS at j;simp only[Fa,Kb]at j;exact⟨j.1,j.2.1⟩
 cases s:t.kind==10 with
 |true=> obtain⟨u,w⟩:=b (g (by rw[s];rfl)).1;simp only[Ca,Ba,jG u w _ (show acc.length<=80000 by omega),Aa]
 |false=>
 cases E:t.kind==11 with
 |true=>
  obtain⟨u,w⟩:=b (g (by grind)).1;have T:(numT t.num false).length<=25:=by
   have:=fu (m:=t.num.natAbs) (by omega) false;unfold numT;rw[Ga];split
   ·grind
   ·grind
  simp only[Ca,Ba,jG u w _ (show acc.length<=80000 by omega),Aa];rw[zm (one _ (by grind)),Oa]
 |false=>
 cases o:t.kind==12 with
 |true=>
  obtain⟨j,X⟩:=g (by grind);obtain⟨u,w⟩:=b j;rw[o]at X;have T:(numT t.num (!t.flag)).length<=25:=by
   have:=fu (m:=t.num.natAbs) (by omega) (!t.flag);unfold numT;rw[Ga];split
   ·grind
   ·grind
  simp only[Ca,Ba,jG u w _ (show acc.length<=80000 by omega),Aa];cases G:t.unit with
  |nil=>grind
  |cons c r=>
   rw[G,Ia]at h2;have h:geti (c::r) 0=some c:=rfl;have B:List.drop 1 (c::r)=r:=rfl;have f:decide (1<=((c::r:Str).length:Int))=true:=Ea (by grind);simp only[h,B,f,Wd,Zi,Aa,zAq,dR,QA,Rq];have v:(acc++numT t.num (!t.flag)).length<=100000000:=by rw[Ga];omega
   have d:=Ot (l:=c::r) (acc:=acc++numT t.num (!t.flag)) (by grind) v;have e:Vf (c::r)=(bif (c==101||c==69)&&numS r&& !(List.isPrefixOf [45,45] r)then escC c++encW false 0 r else Zx (c::r)):=rfl;rw[e];have Y:(c==101||c==69)=true->ZH ((c.toNat:Int),acc++numT t.num (!t.flag))=some (acc++numT t.num (!t.flag)++escC c):=fun _=>Ll c (by grind);cases S:c==101||c==69 with
   |false=> simp_all
   |true=>
    simp only[zx,Aa,Ca,ma];cases J:numS r with
    |false=> simp_all
    |true=>
     simp only[zx,Aa,Ca,ma];cases hp:List.isPrefixOf [45,45] r with
     |true=> simp only[Ya,Ba,d,Aa];rw[Oa]
     |false=> simp only[Va,Ca,Y S,Aa];have K:=oh c;rw[show(0:Int)=((0:Nat):Int)from rfl,MF (by omega) (by rw[Ga,Ga];omega)];rw[Oa,Oa];rfl
 |false=>
 obtain⟨W,V⟩:=dP x H L M Q P O N s E o;obtain⟨n,J⟩: ∃n:Nat,t.kind=13+(n:Int):=⟨(t.kind - 13).toNat,by omega⟩;have h:=OW n (by omega);rw[<-J]at h;have k:=IG t.kind;simp only[Ba];have U:bv ()=some ⟨[32],[60,33,45,45],[45,45,62],[58],[59],[44],[91],[93],[40],[41],[123],[125]⟩:=rfl;rw[U]at h ⊢;simp only[Aa]at h ⊢;rw[h];simp only[Aa];rw[zm (Mj (by omega) (by omega))]
theorem Tn{c:UInt8}(h0:c≠0)(h:c.toNat<128)(R:Str): ∃d t,escC c++R=92::d::t/\(d==10)=false/\zt (d::t)=([c],R):=by
 unfold escC;cases hg:decide (32<c.toNat)&&decide (c.toNat<127)&& !digB c&& !alB c with
 |true=>
  have hx:qQ c=false/\(c==10)=false:=by
   have: ∀n:Nat,n<256->(decide (32<(UInt8.ofNat n).toNat)&&decide ((UInt8.ofNat n).toNat<127)&& !digB (UInt8.ofNat n)&& !alB (UInt8.ofNat n))=true->qQ (UInt8.ofNat n)=false/\(UInt8.ofNat n==10)=false:=by decide+kernel
   have:=this c.toNat (Bb c);rw[Nc]at this;exact this hg
  exact⟨c,R,rfl,hx.2,by show(if qQ c then _ else _)=_;grind⟩
 |false=> obtain⟨d,t,e,hd,h10⟩:=MG (n:=c.toNat) (Bb c) ([32]++R);refine⟨d,t,by grind,h10,?_⟩;have hh:=nK (n:=c.toNat) (Bb c) R;rw[show(32::R:Str)=[32]++R from rfl,e]at hh;show(if qQ d then(Ag (hexes 6 0 (d::t)).1,unsp (hexes 6 0 (d::t)).2)else _)=_;rw[Ka hd,hh,wM h0 h];rfl
theorem zBg(n:Nat):Ag n≠[]:=by
 unfold Ag ui
 grind
theorem GZ(r:Str):(zt r).1≠[]:=by
 cases r with
 |nil=>show ui≠[];decide
 |cons c r=>
  show(if qQ c then(Ag (hexes 6 0 (c::r)).1,unsp (hexes 6 0 (c::r)).2)else([c],r)).1≠[];split
  ·exact zBg _
  ·simp
theorem EA{x:Str}(h:(zo x).1=[]):(zo x).2=x:=by
 cases x with
 |nil=>rw[qR]
 |cons c r=>
  rw[zQ]at h ⊢;split
  ·grind
  ·rename_i b;rw[Ja b]at h;split
   ·rename_i a;rw[Ka a]at h;exact absurd (List.append_eq_nil_iff.1 h).1 (GZ r)
   ·rfl
theorem QW{c:UInt8}{r:Str}(h:Zm (c::r)=true):c≠0/\Zm r=true:=by
 unfold Zm at h ⊢
 grind
theorem jF{dash:Bool}(R:Str): ∀(k:Nat) (l:Str),Zm l=true->(dash=true-> ∀c∈l,c.toNat<128)->zo (encW dash k l++R)=(l++(zo R).1,(zo R).2)
 |_,[],_,_=>by rw[encW];rfl
 |k,c::r,h,a=>by obtain⟨f,d⟩:=QW h;rw[encW,Oa,mJ f (fun e=>a e c (jb ..)),jF R (k - 1) r d (fun e x b=>a e x (Xb _ b))];rfl
theorem Ol{l:Str}(R:Str)(h:Zm l=true):zo (Zx l++R)=(l++(zo R).1,(zo R).2):=by refine jF R _ _ h (fun e c a=> ?_);simp_all
theorem PN{l:Str}(R:Str)(k:Nat)(h:Zm l=true):zo (encW false k l++R)=(l++(zo R).1,(zo R).2):=jF R k l h (fun e=>by cases e)
theorem HY(c:UInt8):(quoB c=true->c.toNat<128)/\(quoB c=false->(c==34)=false/\(c==10)=false/\(c==92)=false):=by
 have: ∀n:Nat,n<256->(quoB (UInt8.ofNat n)=true->(UInt8.ofNat n).toNat<128)/\(quoB (UInt8.ofNat n)=false->(UInt8.ofNat n==34)=false/\(UInt8.ofNat n==10)=false/\(UInt8.ofNat n==92)=false):=by decide+kernel
 have:=this c.toNat (Bb c);simp_all
theorem xL(x:Str): ∀(l:Str),Zm l=true->z8 34 (encB quoB l++34::x)=(some l,x)
 |[],_=>by rw[encB,Ub,Ql,Ka (by decide)]
 |c::r,h=>by
  obtain⟨f,k⟩:=QW h;have m:=xL x r k;obtain⟨p,j⟩:=HY c;rw[encB,Oa];cases a:quoB c with
  |true=>
   obtain⟨d,t,o,n,b⟩:=Tn f (p a) (encB quoB r++34::x);rw[Ca,o,Ql,Ja (by decide),Ja (by decide),Ka (by decide),show(d::t).isEmpty=false from rfl,Ja (by decide),show atS (d::t) 0=d from rfl,n,Ja (by decide),b]
   grind
  |false=> obtain⟨g,i,e⟩:=j a;rw[Ba,ic,Ql,g,Ja (by decide),i,Ja (by decide),e,Ja (by decide),m];rfl
theorem PM(c:UInt8):(urB c=true->c.toNat<128)/\(urB c=false->(c==41)=false/\spB c=false/\(c==34||c==39||c==40||unB c)=false/\(c==92)=false/\(c==34)=false/\(c==39)=false):=by
 have: ∀n:Nat,n<256->(urB (UInt8.ofNat n)=true->(UInt8.ofNat n).toNat<128)/\(urB (UInt8.ofNat n)=false->(UInt8.ofNat n==41)=false/\spB (UInt8.ofNat n)=false/\(UInt8.ofNat n==34||UInt8.ofNat n==39||UInt8.ofNat n==40||unB (UInt8.ofNat n))=false/\(UInt8.ofNat n==92)=false/\(UInt8.ofNat n==34)=false/\(UInt8.ofNat n==39)=false):=by decide+kernel
 have:=this c.toNat (Bb c);simp_all
theorem wL(x:Str): ∀(l:Str),Zm l=true->urlS (encB urB l++41::x)=(some l,x)
 |[],_=>by rw[encB,Ub,QQ,Ka (by decide)]
 |c::r,h=>by
  obtain⟨g,n⟩:=QW h;have o:=wL x r n;obtain⟨s,k⟩:=PM c;rw[encB,Oa];cases a:urB c with
  |true=>
   obtain⟨d,t,q,p,e⟩:=Tn g (s a) (encB urB r++41::x);have m:escS (92::d::t)=true:=by unfold escS;rw[show atS (92::d::t) 1=d from rfl,p];rfl
   rw[Ca,q,QQ,Ja (by decide),Ja (by decide),m,Ja (by decide),Ka (by decide),e]
   grind
  |false=> obtain⟨i,j,f,b,_,_⟩:=k a;rw[Ba,ic,QQ,i,Ja (by decide),j,Ja (by decide),f,b,Pb,Be,Ja (by decide),Ja (by decide),o];rfl
theorem NV(x:Str)(l:Str)(h:Zm l=true):past spB (encB urB l++41::x)=encB urB l++41::x/\(atS (encB urB l++41::x) 0==34||atS (encB urB l++41::x) 0==39)=false:=by
 cases l with
 |nil=>exact⟨rfl,rfl⟩
 |cons c r=>
  obtain⟨b,q⟩:=QW h;obtain⟨k,f⟩:=PM c;rw[encB,Oa];cases a:urB c with
  |true=> obtain⟨d,t,i,s,n⟩:=Tn b (k a) (encB urB r++41::x);rw[Ca,i];exact⟨rfl,rfl⟩
  |false=> obtain⟨p,e,o,m,j,g⟩:=f a;rw[Ba,ic];refine⟨by rw[past,e];rfl,?_⟩;show(c==34||c==39)=false;rw[j,g];rfl
theorem zAM{n:Int}{p:Bool}:(partT (n.natAbs%1000) p).isEmpty=((n.natAbs%1000==0)&& !p):=(aj (r:=n.natAbs%1000) (by omega) p).2.2.2.2
def sgT(n:Int):Str:=if n<0 then [45]else []
theorem Vt(n:Int)(p:Bool):numT n p=sgT n++(Lib.decDigits (n.natAbs / 1000)++dotS (if(partT (n.natAbs%1000) p).isEmpty then none else some (partT (n.natAbs%1000) p))):=by
 have h:=(aj (r:=n.natAbs%1000) (by omega) p).2.2.2.1;unfold numT Yf sgT;rw[h];cases (partT (n.natAbs%1000) p).isEmpty with
 |true=>rfl
 |false=>rfl
theorem q2_T(n:Int)(p:Bool)(x:Str):Ef (numT n p++x)=past digB (dotS (if(partT (n.natAbs%1000) p).isEmpty then none else some (partT (n.natAbs%1000) p))++x):=by
 obtain⟨d,f,g⟩:=gp (n.natAbs / 1000);obtain⟨c,r,e,a⟩:=bu (n.natAbs / 1000);rw[Vt];generalize dotS _=t;unfold Ef;have b:unsign ((sgT n++(Lib.decDigits (n.natAbs / 1000)++t))++x)=Lib.decDigits (n.natAbs / 1000)++(t++x):=by
  unfold sgT;split
  ·rw[Oa,ic,Oa];rfl
  ·rw[Ub,Oa,e,Xa];unfold unsign Lf;rw[show atS (c::(r++(t++x))) 0=c from rfl,Ha.2 (Qt a).2.1,Ha.2 (Qt a).1];rfl
 rw[b,ou _ _ d]
theorem YE{n:Int}{p:Bool}:(partT (n.natAbs%1000) p).all digB=true:=(aj (r:=n.natAbs%1000) (by omega) p).1
theorem wD{n:Int}{p:Bool}(h:(partT (n.natAbs%1000) p).isEmpty=true)(x:Str):zC (numT n p++x)=(match expS (zV (past digB x)).1 with|some r=>(r,false)|none=>zV (past digB x)):=by rw[Qw,q2_T,h];rfl
theorem wC{n:Int}{p:Bool}(h:(partT (n.natAbs%1000) p).isEmpty=false)(x:Str):zC (numT n p++x)=(match expS (past digB x)with|some r=>(r,false)|none=>(past digB x,false)):=by
 obtain⟨c,r,b⟩: ∃c r,partT (n.natAbs%1000) p=c::r:=by
  cases f:partT (n.natAbs%1000) p with
  |nil=>grind
  |cons c r=>grind
 have a:=YE (n:=n) (p:=p);rw[Qw,q2_T,h];have e:past digB (dotS (some (partT (n.natAbs%1000) p))++x)=46::(partT (n.natAbs%1000) p++x):=rfl;rw[show(if false=true then none else some (partT (n.natAbs%1000) p))=some (partT (n.natAbs%1000) p)from rfl,e];have g:zV (46::(partT (n.natAbs%1000) p++x))=(past digB x,false):=by
  have d:digB c=true:=by rw[b,Rc,Fa]at a;exact a.1
  unfold zV;rw[show atS (46::(partT (n.natAbs%1000) p++x)) 1=c by rw[b];rfl,d,show(atS (46::(partT (n.natAbs%1000) p++x)) 0==46&&true)=true from rfl,Ka rfl];rw[show(46::(partT (n.natAbs%1000) p++x)).drop 1=partT (n.natAbs%1000) p++x from rfl,ou _ _ a]
 grind
theorem IU(n:Int)(p:Bool)(x:Str):nbS (numT n p++x)=true:=by
 obtain⟨c,r,b,a⟩:=bu (n.natAbs / 1000);rw[Vt,b];unfold nbS;have d:unsign ((sgT n++(c::r++dotS (if(partT (n.natAbs%1000) p).isEmpty then none else some (partT (n.natAbs%1000) p))))++x)=c::(r++dotS (if(partT (n.natAbs%1000) p).isEmpty then none else some (partT (n.natAbs%1000) p))++x):=by
  unfold sgT;split
  ·rfl
  ·unfold unsign Lf;show(if(c==43||c==45)then _ else _)=_;rw[Ha.2 (Qt a).2.1,Ha.2 (Qt a).1];rfl
 rw[d];unfold undot;rw[show atS (c::(r++dotS (if(partT (n.natAbs%1000) p).isEmpty then none else some (partT (n.natAbs%1000) p))++x)) 0=c from rfl,Ha.2 (Qt a).2.2.1,Ja (by decide)];exact a
theorem DI{n:Int}(c: -1000000000000<=n)(h2:n<=1000000000000){p:Bool}{x:Str}(f:(zC (numT n p++x)).1=x):(numP (numT n p++x)).val=n:=by
 have h:=AA (numT n p++x);rw[f]at h;have b:=Tx (IU n p x);have d:=(Xk c h2 p).1;have a:=F7 c h2 p;generalize numP (numT n p++x)=N at h b ⊢;have g:N.txt=numT n p:=(List.append_left_inj x).1 h;rw[<-g]at a d;have e:=pR b (Ic d (by decide));rw[a]at e
 grind
theorem Wm(n:Int)(p:Bool)(x:Str): ∃c r,numT n p++x=c::r/\(c==45||digB c)=true/\spB c=false/\(c==34||c==39)=false/\(c==35)=false/\c≠47:=by
 obtain⟨c,r,hc,hcd⟩:=bu (n.natAbs / 1000);have key: ∀d:UInt8,(d==45||digB d)=true->spB d=false/\(d==34||d==39)=false/\(d==35)=false/\d≠47:=by
  intro d;have: ∀n:Nat,n<256->(UInt8.ofNat n==45||digB (UInt8.ofNat n))=true->spB (UInt8.ofNat n)=false/\(UInt8.ofNat n==34||UInt8.ofNat n==39)=false/\(UInt8.ofNat n==35)=false/\UInt8.ofNat n≠47:=by decide+kernel
  have:=this d.toNat (Bb d)
  rwa [Nc]at this
 rw[Vt,hc];unfold sgT
 grind
theorem Nt(n:Int)(p:Bool)(x:Str):Zu (numT n p++x)=zG (numT n p++x):=by obtain⟨c,r,e,g,f,d,b,h⟩:=Wm n p x;have a:=IU n p x;rw[e]at a ⊢;rw[uq,f,Ja (by decide),d,Ja (by decide),b,Pb,Ja (by decide),a,Ka rfl]
inductive zgg:ze->Prop
 |cId (l:Str) (h0:l≠[]) (h:Zm l=true):zgg ⟨1,l,0,[],false⟩
 |cFn (l:Str) (h0:l≠[]) (h:Zm l=true):zgg ⟨2,l,0,[],false⟩
 |cAt (l:Str) (h0:l≠[]) (h:Zm l=true):zgg ⟨3,l,0,[],false⟩
 |cHash (l:Str) (f:Bool) (h0:l≠[]) (h:Zm l=true) (hb:f=true\/Oi l=true):zgg ⟨4,l,0,[],f⟩
 |cStr (l:Str) (h:Zm l=true):zgg ⟨5,l,0,[],false⟩
 |cUrl (l:Str) (h:Zm l=true):zgg ⟨7,l,0,[],false⟩
 |cDel (c:UInt8) (h:Dh c.toNat=true):zgg ⟨9,[c],0,[],false⟩
 |cNum (n:Int) (f:Bool) (h1: -1000000000000<=n) (h2:n<=1000000000000) (hf:f=true->Int.tmod n 1000=0):zgg ⟨10,[],n,[],f⟩
 |cPct (n:Int) (h1: -1000000000000<=n) (h2:n<=1000000000000):zgg ⟨11,[],n,[],false⟩
 |cDim (n:Int) (u:Str) (f:Bool) (h1: -1000000000000<=n) (h2:n<=1000000000000) (hf:f=true->Int.tmod n 1000=0) (h0:u≠[]) (h:Zm u=true):zgg ⟨12,[],n,u,f⟩
 |cMark (k:Int) (h1:13<=k) (h2:k<=24):zgg ⟨k,[],0,[],false⟩
theorem Vm{t:ze}(h:Pf t=true):zgg t:=by
 obtain⟨k,l,n,u,f⟩:=t;unfold Pf at h;simp only at h;by_cases h1:(k==1||k==2||k==3)=true
 ·rw[h1,Ca]at h;simp only[Fa,Fe,Ha,Cb]at h;obtain⟨a,b,rfl,rfl,rfl⟩:=h;simp only[Jc,Cb]at h1;rcases h1 with(rfl|rfl)|rfl
  ·exact .cId l a b
  ·exact .cFn l a b
  ·exact .cAt l a b
 ·rw[Bool.not_eq_true]at h1;rw[h1,Ba]at h;by_cases h4:(k==4)=true
  ·rw[h4,Ca]at h;simp only[Fa,Fe,Ha,Cb,Jc]at h;obtain⟨a,b,c,rfl,rfl⟩:=h;rw[Cb]at h4;subst h4;exact .cHash l f a b c
  ·rw[Bool.not_eq_true]at h4;rw[h4,Ba]at h;by_cases h5:(k==5||k==7)=true
   ·rw[h5,Ca]at h;simp only[Fa,Fe,Cb]at h;obtain⟨b,rfl,rfl,rfl⟩:=h;simp only[Jc,Cb]at h5;rcases h5 with rfl|rfl
    ·exact .cStr l b
    ·exact .cUrl l b
   ·rw[Bool.not_eq_true]at h5;rw[h5,Ba]at h;by_cases h9:(k==9)=true
    ·rw[h9,Ca]at h;simp only[Fa,Fe,Cb]at h;obtain⟨b,rfl,rfl,rfl⟩:=h;rw[Cb]at h9;subst h9;unfold delS at b;split at b
     ·exact .cDel _ b
     ·cases b
    ·rw[Bool.not_eq_true]at h9;rw[h9,Ba]at h;by_cases h10:(k==10||k==11||k==12)=true
     ·rw[h10,Ca]at h;unfold rngS at h;simp only[Fa,Kb,Jc,Fe,Cb]at h;obtain⟨⟨a1,a2,a3⟩,a4,a5,a6,rfl⟩:=h;have hf:f=true->Int.tmod n 1000=0:=by
       intro e;rcases a3 with a3|a3
       ·grind
       ·exact a3
      simp only[Jc,Cb]at h10;rcases h10 with(rfl|rfl)|rfl
      ·have:u=[]:=by
        cases u with
        |nil=>rfl
        |cons c r=>grind
       subst this;exact .cNum n f a1 a2 hf
      ·have:u=[]:=by
        cases u with
        |nil=>rfl
        |cons c r=>grind
       subst this;have:f=false:=by
        rcases a6 with a6|a6
        ·grind
        ·exact a6
       subst this;exact .cPct n a1 a2
      ·have:u≠[]:=by rintro rfl;exact absurd a4 (by decide)
       exact .cDim n u f a1 a2 hf this a5
     ·rw[Bool.not_eq_true]at h10;rw[h10,Ba]at h;simp only[Fa,Fe,Kb,Cb]at h;obtain⟨⟨a1,a2⟩,rfl,rfl,rfl,rfl⟩:=h;exact .cMark k a1 a2
def neu(x:Str):Prop:=x=[]\/ ∃y,x=47::y
theorem zBy{x:Str}(a:neu x)(c:UInt8)(r:Str):brS c (r++x)=brS c r:=by
 rcases a with rfl|⟨y,rfl⟩
 ·grind
 ·exact kT c r y
theorem Vx{x:Str}(a:neu x)(q:Str):nmS (q++x)=nmS q:=by
 rcases a with rfl|⟨y,rfl⟩
 ·grind
 ·exact Ns q y
theorem GA{x:Str}(a:neu x):zo x=([],x):=by
 rcases a with rfl|⟨y,rfl⟩
 ·exact qR
 ·rw[zQ,Ja (by decide),show escS (47::y)=false from rfl,Ja (by decide)]
theorem JM{p:UInt8->Bool}(h:p 47=false){x:Str}(a:neu x):past p x=x:=by
 rcases a with rfl|⟨y,rfl⟩
 ·rfl
 ·rw[past,h];rfl
theorem zBt{x:Str}(a:neu x):atS x 0=0\/atS x 0=47:=by
 rcases a with rfl|⟨y,rfl⟩
 ·exact .inl rfl
 ·exact .inr rfl
theorem EP(c:UInt8)(r:Str):Rh (c::r)=((c==101||c==69)&&numS r&& !(List.isPrefixOf [45,45] r)):=rfl
theorem SG(b:UInt8)(r:Str):numS (b::r)=bif b==45 then !(r==[])&&digN (r.headD 0).toNat else digN b.toNat:=rfl
theorem yG{c:UInt8}{r:Str}(h:Rh (c::r)=true):c=101\/c=69:=by
 unfold Rh at h
 grind
theorem lV{d:UInt8}{t:Str}(h:(d==10)=false):escS (92::d::t)=true:=by unfold escS;rw[show atS (92::d::t) 1=d from rfl,h];rfl
theorem Mk(c:UInt8)(r:Str):Vf (c::r)=bif Rh (c::r)then escC c++encW false 0 r else Zx (c::r):=rfl
theorem dG{w:Str}(f:w≠[])(h:Zm w=true)(x:Str):zo (Vf w++x)=(w++(zo x).1,(zo x).2):=by
 cases w with
 |nil=>grind
 |cons c r=>
  obtain⟨a,e⟩:=QW h;rw[Mk];cases b:Rh (c::r)with
  |true=>
   have d:c.toNat<128:=by rcases yG b with rfl|rfl<;>decide
   rw[Ca,Oa,yL a d,PN x 0 e];rfl
  |false=>rw[Ba];exact Ol x h
theorem jD{w:Str}(i:w≠[])(h:Zm w=true):nmS (Vf w)=true:=by
 cases w with
 |nil=>grind
 |cons c r=>
  obtain⟨a,j⟩:=QW h;rw[Mk];cases e:Rh (c::r)with
  |true=>
   have f:c.toNat<128:=by rcases yG e with rfl|rfl<;>decide
   obtain⟨d,t,b,g,_⟩:=Tn a f (encW false 0 r);rw[Ca,b];exact yI rfl (lV g)
  |false=>rw[Ba];exact sj (by simp)
theorem Nj{q:Str}(h:nmS q=true):q≠[]:=by rintro rfl;exact absurd h (by decide)
theorem rD{q:Str}(h:nmS q=true)(x:Str):past digB (q++x)=q++x/\zV (q++x)=(q++x,true):=by
 obtain⟨_,_,_,_,_,_,_,_,b,a,_⟩:=Jt (Mo h);cases q with
 |nil=>exact absurd rfl (Nj h)
 |cons c r=> refine⟨by rw[Xa,past,show digB c=false from a];rfl,?_⟩;unfold zV;rw[show atS ((c::r)++x) 0=c from rfl,show(c==46)=false from b];rfl
theorem YL{w:Str}(h0:w≠[])(h:Zm w=true)(x:Str):expS (Vf w++x)=none\/ ∃e s,(e=101\/e=69)/\(s=[]\/s=[45])/\w=e::s/\Vf w=e::s:=by
 cases w with
 |nil=>grind
 |cons c r=>
  obtain⟨h1,h2⟩:=QW h;have he92: ∀t:Str,expS (92::t)=none:=fun t=>rfl;cases he:Rh (c::r)with
  |true=>
   left;have hc:c.toNat<128:=by rcases yG he with rfl|rfl<;>decide
   obtain⟨d,t,e1,e2,_⟩:=Tn h1 hc (encW false 0 r++x);have:Vf (c::r)++x=92::d::t:=by rw[Mk,he,Ca,Oa,e1]
   grind
  |false=>
   have hu:Vf (c::r)=Zx (c::r):=by rw[Mk,he,Ba]
   rw[hu];have hn:Zx (c::r)=pcW ((c::r:Str)==[45]) (ZN (c::r)) c++encW ((c::r:Str)==[45]) (ZN (c::r) - 1) r:=rfl;obtain⟨d,t,e,hd⟩:=Tz (dash:=(c::r:Str)==[45]) (k:=ZN (c::r)) (by unfold ZN;split<;>omega) c (encW ((c::r:Str)==[45]) (ZN (c::r) - 1) r);rw[hn,e];rcases hd with⟨rfl,h3⟩|⟨rfl,h3,h4,h5,h6⟩
   ·grind
   ·by_cases hee:d=101\/d=69
    ·have hf:ZN (d::r)=1:=by rcases hee with rfl|rfl<;>rfl
     have hdash:((d::r:Str)==[45])=false:=h3;rw[hdash,hf]at h6;have h6':t=encW false 0 r:=h6;have hee':(d==101||d==69)=true:=by rcases hee with rfl|rfl<;>rfl
     cases r with
     |nil=>
      right;rw[encW]at h6'
      grind
     |cons d2 r2=>
      obtain⟨g1,g2⟩:=QW h2;have hnum:numS (d2::r2)=false:=by
       cases hq:numS (d2::r2)with
       |false=>rfl
       |true=>
        exfalso;rw[EP,hee',hq,ma,ma]at he;have hp:List.isPrefixOf [45,45] (d2::r2)=true:=by
         cases hh:List.isPrefixOf [45,45] (d2::r2)with
         |true=>rfl
         |false=>grind
        obtain⟨z,hz⟩:=We.1 hp;rw[<-hz]at hq;exact absurd hq (by show numS (45::45::z)≠true;unfold numS;simp[digN])
      have hgoal: ∀q:Str,digB (atS (unsign q) 0)=false->expS (d::q)=none:=by intro q hq;rw[Jl];show((d==101||d==69)&&digB (atS (unsign q) 0))=false;rw[hq,lc]
      have hpc:encW false 0 (d2::r2)=pcW false 0 d2++encW false 0 r2:=rfl;by_cases h45:d2=45
      ·subst h45;have hp1:pcW false 0 45=[45]:=rfl;cases r2 with
       |nil=>
        right;rw[hpc,hp1,encW]at h6'
        grind
       |cons d3 r3=>
        left;obtain⟨k1,k2⟩:=QW g2;have hdg:digB d3=false:=by
         have:digN d3.toNat=false:=by have:=hnum;unfold numS at this;simpa using this
         exact this
        rw[Xa];refine hgoal _ ?_;rw[h6',hpc,hp1];show digB (atS (encW false 0 (d3::r3)++x) 0)=false;rw[show encW false 0 (d3::r3)=pcW false 0 d3++encW false 0 r3 from rfl];unfold pcW;cases hl:letB d3 with
        |true=>exact hdg
        |false=>
         rw[Pb,Pb,Ba];have hc:d3.toNat<128:=by
          by_cases hc:d3.toNat<128
          ·exact hc
          ·rw[(OE hc).1]at hl;cases hl
         obtain⟨d4,t4,e4,_,_⟩:=Tn k1 hc (encW false 0 r3++x);rw[Oa,e4];rfl
      ·left;have hdg:digB d2=false:=by
        have:digN d2.toNat=false:=by have:=hnum;rw[SG,Ha.2 h45,Ba]at this;exact this
        exact this
       rw[Xa];refine hgoal _ ?_;rw[h6',hpc];unfold pcW;cases hl:letB d2 with
       |true=>
        have hs:Lf d2=false:=by unfold Lf;rw[Ha.2 h45,Be,Ha];rintro rfl;exact absurd hl (by decide)
        show digB (atS (if Lf d2 then _ else d2::_) 0)=false;rw[hs,Ja (by decide)];exact hdg
       |false=>
        rw[Pb,Pb,Ba];have hc:d2.toNat<128:=by
         by_cases hc:d2.toNat<128
         ·exact hc
         ·rw[(OE hc).1]at hl;cases hl
        obtain⟨d4,t4,e4,_,_⟩:=Tn g1 hc (encW false 0 r2++x);rw[Oa,e4];rfl
    ·left;rw[Jl];have:(d==101||d==69)=false:=by rw[Ye,Ha,Ha];exact not_or.1 hee
     rw[Xa,show atS (d::(t++x)) 0=d from rfl,this,Pb]
theorem gP{w:Str}(d:w≠[])(h:Zm w=true){x:Str}(a:neu x):expS (Vf w++x)=none:=by
 rcases YL d h x with c|⟨e,s,i,b,_,f⟩
 ·exact c
 ·rw[f,Jl];have g:digB (atS (unsign (s++x)) 0)=false:=by
   rcases b with rfl|rfl
   ·rcases a with rfl|⟨y,rfl⟩<;>rfl
   ·rcases a with rfl|⟨y,rfl⟩<;>rfl
  grind
theorem OG{n:Int}{f:Bool}(a:f=true->Int.tmod n 1000=0):(partT (n.natAbs%1000) (!f)).isEmpty=f:=by
 rw[zAM,Bool.not_not];cases f with
 |false=>grind
 |true=>
  grind
theorem Ey{n:Int}{p:Bool}{z:Str}(b:past digB z=z)(h2:zV z=(z,true))(a:expS z=none):zC (numT n p++z)=(z,(partT (n.natAbs%1000) p).isEmpty):=by
 cases c:(partT (n.natAbs%1000) p).isEmpty with
 |true=>rw[wD c,b,h2];simp only[a]
 |false=>rw[wC c,b];simp only[a]
theorem zAA{x:Str}(a:neu x):past digB x=x/\zV x=(x,true)/\expS x=none:=by
 rcases a with rfl|⟨y,rfl⟩
 ·exact⟨rfl,rfl,rfl⟩
 ·exact⟨rfl,rfl,rfl⟩
theorem eZ{q:Str}(h:[45,45,62].isPrefixOf q=true): ∃t,(zo q).2=62::t:=by obtain⟨t,rfl⟩:=We.1 h;refine⟨t,?_⟩;rw[show [45,45,62]++t=45::45::62::t from rfl,zQ,Ka (by decide),zQ,Ka (by decide),zQ,Ja (by decide),Ja (by unfold escS;rw[show atS (62::t) 0=62 from rfl];simp)]
theorem ry{c:UInt8}{r:Str}(h:nmS (c::r)=true)(u: ∀t,(zo (c::r)).2≠62::t):brS c r=7:=by
 obtain⟨i,b,g,d,f,p,a,v,s,l,k⟩:=Jt (Mo h);have o:[45,45,62].isPrefixOf (c::r)=false:=by
  cases j:[45,45,62].isPrefixOf (c::r)with
  |false=>rfl
  |true=>obtain⟨t,e⟩:=eZ j;grind
 have n:atS (c::r) 0=c:=rfl;rw[n]at i b g d f a;unfold brS;rw[i,Ja (by decide),b,g,Ja (by decide),d,Pb,Ja (by decide),FU h,Ja (by decide),o,Ja (by decide),zAX (q:=c::r) (m:=[33,45,45]) (show(60:UInt8)≠0 by decide) a,Ja (by decide),f,Pb,Ja (by decide),h,Ka rfl]
theorem UK{q z:Str}(h:nmS q=true)(i:atS z 0≠10):nmS (q++z)=true:=by
 have b:(atS z 0==10)=false:=Ha.2 i
 match q with
 |[]=>exact absurd h (by decide)
 |[c]=>
  unfold nmS at h ⊢;have f:atS ([c]++z) 0=c:=rfl;rw[show atS [c] 0=c from rfl]at h;rw[f];cases a:c==45 with
  |true=>rw[a,Ka rfl]at h;exact absurd (show(fstB 0||(0:UInt8)==45||escS [])=true from h) (by decide)
  |false=> rw[a,Ja (by decide)]at h;rw[Ja (by decide)];unfold escS at h ⊢;rw[show atS [c] 0=c from rfl,show atS [c] 1=0 from rfl]at h;rw[f,show atS ([c]++z) 1=atS z 0 from rfl,b];exact h
 |c::d::t=>
  unfold nmS at h ⊢;have f:atS ((c::d::t)++z) 0=c:=rfl;have g:atS ((c::d::t)++z) 1=d:=rfl;have j:((c::d::t)++z).drop 1=(d::t)++z:=rfl;rw[show atS (c::d::t) 0=c from rfl,show atS (c::d::t) 1=d from rfl,show(c::d::t:Str).drop 1=d::t from rfl]at h;rw[f,g,j];cases a:c==45 with
  |true=>
   rw[a,Ka rfl]at h;rw[Ka rfl];cases t with
   |nil=> unfold escS at h ⊢;rw[show atS [d] 0=d from rfl,show atS [d] 1=0 from rfl]at h;rw[show atS ([d]++z) 0=d from rfl,show atS ([d]++z) 1=atS z 0 from rfl,b];exact h
   |cons e t=>exact h
  |false=> rw[a,Ja (by decide)]at h;rw[Ja (by decide)];exact h
theorem LF(x:Str):zo (40::x)=([],40::x):=by rw[zQ,Ja (by decide),Ja (by unfold escS;rw[show atS (40::x) 0=40 from rfl];simp)]
theorem xJ{l:Str}(h:Zm l=true)(x:Str):zo (Zx l++40::x)=(l,40::x):=by rw[Ol _ h,LF,ja]
theorem Nh{q:Str}(h:q≠[]): ∃c r,q=c::r:=by
 cases q with
 |nil=>grind
 |cons c r=>grind
def Sg(f:Bool)(l:Str):Str:=bif f then Zx l else encW false 0 l
theorem FP{f:Bool}{l:Str}(h:Zm l=true)(x:Str):zo (Sg f l++x)=(l++(zo x).1,(zo x).2):=by
 cases f with
 |true=>exact Ol x h
 |false=>exact PN x 0 h
theorem pY{f:Bool}{l:Str}(h0:l≠[])(h:Zm l=true)(hb:f=true\/Oi l=true):(letB (atS (Sg f l) 0)||escS (Sg f l))=true/\(f=true->nmS (Sg f l)=true)/\(f=false->nmS (Sg f l)=false):=by
 cases f with
 |true=>
  have hn:=sj h0;obtain⟨c,r,e⟩:=Nh (Nj hn);refine⟨?_,fun _=>hn,fun e=>by cases e⟩;show(letB (atS (Zx l) 0)||escS (Zx l))=true;rw[e]at hn ⊢;rcases AL hn with h1|h1
  ·rw[show letB (atS (c::r) 0)=true from h1];rfl
  ·grind
 |false=>
  have hb':Oi l=true:=by rcases hb with hb|hb;cases hb;exact hb
  cases l with
  |nil=>grind
  |cons c r=>
   have hw:Sg false (c::r)=pcW false 0 c++encW false 0 r:=rfl;have hb2:(digN c.toNat||(c==45&&(r==[]||digN (r.headD 0).toNat)))=true:=hb';by_cases h45:c=45
   ·subst h45;rw[hw,show pcW false 0 45=[45]from rfl];refine⟨rfl,fun e=>by(cases e),fun _=> ?_⟩;cases r with
    |nil=>rfl
    |cons d t=>
     have hd:digB d=true:=hb2;have hp:pcW false 0 d=[d]:=by
      unfold pcW;have:letB d=true:=by unfold letB;rw[hd,Xe];rfl
      rw[this];rfl
     rw[show encW false 0 (d::t)=pcW false 0 d++encW false 0 t from rfl,hp];have hk: ∀n:Nat,n<256->digB (UInt8.ofNat n)=true->fstB (UInt8.ofNat n)=false/\(UInt8.ofNat n==45)=false/\(UInt8.ofNat n==92)=false:=by decide+kernel
     have:=hk d.toNat (Bb d);rw[Nc]at this;obtain⟨k1,k2,k3⟩:=this hd;show(fstB d||d==45||escS (d::(encW false 0 t)))=false;unfold escS;rw[k1,k2,show atS (d::encW false 0 t) 0=d from rfl,k3];rfl
   ·have hd:digB c=true:=by
     have:digN c.toNat=true:=by rw[Ha.2 h45,Pb,Be]at hb2;exact hb2
     exact this
    have hl:letB c=true:=by unfold letB;rw[hd,Xe];rfl
    have hp:pcW false 0 c=[c]:=by unfold pcW;rw[hl];rfl
    rw[hw,hp];refine⟨by rw[show letB (atS ([c]++encW false 0 r) 0)=letB c from rfl,hl];rfl,fun e=>by(cases e),fun _=> ?_⟩;have hk: ∀n:Nat,n<256->digB (UInt8.ofNat n)=true->fstB (UInt8.ofNat n)=false/\(UInt8.ofNat n==45)=false/\(UInt8.ofNat n==92)=false:=by decide+kernel
    have:=hk c.toNat (Bb c);rw[Nc]at this;obtain⟨k1,k2,k3⟩:=this hd;unfold nmS escS;rw[show atS ([c]++encW false 0 r) 0=c from rfl,k2,Ja (by decide),k1,k3];rfl
theorem zBE(c:UInt8)(h:Dh c.toNat=true)(h2:c≠92):brS c []=8:=by
 have: ∀n:Nat,n<256->Dh (UInt8.ofNat n).toNat=true->UInt8.ofNat n≠92->brS (UInt8.ofNat n) []=8:=by decide+kernel
 have:=this c.toNat (Bb c);simp_all
theorem zAO(x:Str):past digB (37::x)=37::x/\zV (37::x)=(37::x,true)/\expS (37::x)=none:=⟨rfl,rfl,rfl⟩
theorem pM{n:Int}{u:Str}{p:Bool}(x:Str):(numT n p++Vf u)++x=numT n p++(Vf u++x):=Oa ..
theorem JF{c:UInt8}{r x:Str}(a:neu x):Zu (c::(r++x))=nxB (brS c r) c (r++x):=by rw[qL,zBy a]
theorem IM{n:Int}(b: -1000000000000<=n)(h2:n<=1000000000000)(x:Str):Zu ((numT n false++[37])++x)=(⟨11,[],n,[],false⟩,x):=by rw[Oa,ic];obtain⟨c,e,d⟩:=zAO x;have a:=Ey (n:=n) (p:=false) c e d;have f:=DI b h2 (p:=false) (x:=37::x) (by rw[a]);rw[Nt];unfold zG;rw[a,f,Ja (by unfold nmS escS;rw[show atS (37::x) 0=37 from rfl];simp[fstB,alB]),Ka (by rfl)];rfl
theorem jK{l:Str}(d:l≠[])(h:Zm l=true)(hu:(lowS l==[117,114,108])=false)(x:Str):Zu ((Zx l++[40])++x)=(⟨2,l,0,[],false⟩,x):=by rw[Oa,ic];have b:=UK (z:=40::x) (sj d) (by show(40:UInt8)≠10;decide);have a:=xJ h x;obtain⟨c,r,e⟩:=Nh (Nj b);rw[e]at b a ⊢;rw[qL,ry b (by grind),wh];unfold qG;rw[a];simp only;rw[Ka (by rfl),hu,Pb,Ja (by decide)];rfl
theorem jE{l:Str}(h:Zm l=true)(x:Str):Zu ((34::(encB quoB l++[34]))++x)=(⟨5,l,0,[],false⟩,x):=by rw[Xa,Oa,ic,qL,show brS 34 (encB quoB l++34::x)=1 from rfl,Ko,xL x l h];rfl
theorem OM{l:Str}(h:Zm l=true)(x:Str):Zu (([117,114,108,40]++(encB urB l++[41]))++x)=(⟨7,l,0,[],false⟩,x):=by
 have e:([117,114,108,40]++(encB urB l++[41]))++x=117::114::108::40::(encB urB l++41::x):=by simp
 obtain⟨c,b⟩:=NV x l h;have a:zo (117::114::108::40::(encB urB l++41::x))=([117,114,108],40::(encB urB l++41::x)):=by rw[zQ,Ka (by decide),zQ,Ka (by decide),zQ,Ka (by decide),LF]
 rw[e,qL,ry (by rfl) (by grind),wh];unfold qG;rw[a];simp only;rw[Ka (by rfl),Yp,show(40::(encB urB l++41::x)).drop 1=encB urB l++41::x from rfl,c,b,Ka (by decide),wL x l h];rfl
theorem vN{k:Int}(b:13<=k)(h2:k<=24)(x:Str):Zu (Vk k++x)=(⟨k,[],0,[],false⟩,if k=13 then past spB x else x):=by
 have a:k=13\/k=14\/k=15\/k=16\/k=17\/k=18\/k=19\/k=20\/k=21\/k=22\/k=23\/k=24:=by omega
 rcases a with rfl|rfl|rfl|rfl|rfl|rfl|rfl|rfl|rfl|rfl|rfl|rfl<;>rfl
theorem Am(l:Str):txS ⟨1,l,0,[],false⟩=Zx l:=by rw[txS];rfl
theorem Lj(l:Str):txS ⟨2,l,0,[],false⟩=Zx l++[40]:=by rw[txS];rfl
theorem Cm(l:Str):txS ⟨3,l,0,[],false⟩=64::Zx l:=by rw[txS];rfl
theorem Ym(l:Str)(f:Bool):txS ⟨4,l,0,[],f⟩=35::Sg f l:=by rw[txS];rfl
theorem Yk(l:Str):txS ⟨5,l,0,[],false⟩=34::(encB quoB l++[34]):=by rw[txS];rfl
theorem Km(l:Str):txS ⟨7,l,0,[],false⟩=[117,114,108,40]++(encB urB l++[41]):=by rw[txS];rfl
theorem Pm(c:UInt8):txS ⟨9,[c],0,[],false⟩=[c]:=by rw[txS];rfl
theorem Mm(n:Int)(f:Bool):txS ⟨10,[],n,[],f⟩=numT n (!f):=by rw[txS];rfl
theorem Lm(n:Int):txS ⟨11,[],n,[],false⟩=numT n false++[37]:=by rw[txS];rfl
theorem Om(n:Int)(u:Str)(f:Bool):txS ⟨12,[],n,u,f⟩=numT n (!f)++Vf u:=by rw[txS];rfl
theorem Xm{k:Int}(b:13<=k)(h2:k<=24):txS ⟨k,[],0,[],false⟩=Vk k:=by
 have a:k=13\/k=14\/k=15\/k=16\/k=17\/k=18\/k=19\/k=20\/k=21\/k=22\/k=23\/k=24:=by omega
 rcases a with rfl|rfl|rfl|rfl|rfl|rfl|rfl|rfl|rfl|rfl|rfl|rfl<;>rfl
theorem OU{t:ze}(h:zgg t)(hb: ¬(t.kind=9/\t.text=[92]))(hu:rf t=false){x:Str}(hx:neu x):Zu (txS t++x)=(t,x):=by
 have ha:=zBt hx;have hn0:nmS x=false:=by have:=Vx hx [];rw[Ub]at this;rw[this];rfl
 cases h with
 |cId l h0 h=>
  have hn:=sj h0;have hnd:=Ol x h;rw[GA hx,ja]at hnd;obtain⟨c,r,e⟩:=Nh (Nj hn);rw[Am];have hr:=IX h;rw[e]at hn hr hnd ⊢;rw[Xa,JF hx,ry hn (by grind),wh];unfold qG;rw[show c::(r++x)=(c::r)++x from rfl,hnd]
  grind
 |cFn l h0 h=>rw[Lj];exact jK h0 h (by unfold rf at hu;exact hu) x
 |cAt l h0 h=>
  have hnd:=Ol x h;rw[GA hx,ja]at hnd;rw[Cm,Xa];have hb6:brS 64 (Zx l++x)=6:=by unfold brS;rw[Vx hx,sj h0];rfl
  rw[qL,hb6,Jo,hnd]
 |cHash l f h0 h hbb=>
  obtain⟨g1,g2,g3⟩:=pY h0 h hbb;have hnd:=FP (f:=f) h x;rw[GA hx,ja]at hnd;rw[Ym,Xa];have hb2:brS 35 (Sg f l)=2:=by unfold brS;rw[g1];rfl
  have hf:nmS (Sg f l)=f:=by
   cases f with
   |true=>exact g2 rfl
   |false=>exact g3 rfl
  rw[JF hx,hb2,Tk,hnd,Vx hx,hf]
 |cStr l h=>rw[Yk];exact jE h x
 |cUrl l h=>rw[Km];exact OM h x
 |cDel c h=>
  have h92:c≠92:=by rintro rfl;exact hb ⟨rfl,rfl⟩
  rw[Pm,Xa,JF hx,zBE c h h92,Ms,Ub]
 |cNum n f h1 h2 hf=>
  obtain⟨e1,e2,e3⟩:=zAA hx;have he:=Ey (n:=n) (p:= !f) e1 e2 e3;rw[OG hf]at he;rw[Mm,Nt];unfold zG;rw[DI h1 h2 (by rw[he]),he]
  grind
 |cPct n h1 h2=>rw[Lm];exact IM h1 h2 x
 |cDim n u f h1 h2 hf h0 h=> have hnm:=jD h0 h;obtain⟨e1,e2⟩:=rD hnm x;have he:=Ey (n:=n) (p:= !f) e1 e2 (gP h0 h hx);rw[OG hf]at he;rw[Om,pM,Nt];unfold zG;rw[DI h1 h2 (by rw[he]),he];simp only;rw[Vx hx,hnm,Ka rfl,dG h0 h,GA hx,ja]
 |cMark k h1 h2=> rw[Xm h1 h2,vN h1 h2,JM (by decide) hx,ite_self]
def tK(t:ze)(x r:Str):Prop:=zC (numT t.num (!t.flag)++x)=(r,t.flag)/\nmS r=false/\(atS r 0==37)=false
def eU(x r:Str):Prop:= ∃s,(s=[]\/s=[45])/\digB (atS (unsign (s++x)) 0)=true/\nmS (past digB (unsign (s++x)))=true/\r=(zo (past digB (unsign (s++x)))).2
def tT(t:ze)(x r:Str):Prop:=r=x\/(t.kind=13/\r=past spB x)\/(t.kind=10/\tK t x r)\/(t.kind=12/\eU x r)
theorem XL{w r:Str}(h:expS w=some r):(atS w 0=101\/atS w 0=69)/\digB (atS (unsign (w.drop 1)) 0)=true/\r=past digB (unsign (w.drop 1)):=by
 unfold expS at h
 grind
theorem oz{l a:Str}(h:l++a=l):a=[]:=by simp_all
theorem fE{a b:ze}(h:a=b):a.text=b.text:=by rw[h]
theorem IW{t:ze}(h:zgg t)(hu:rf t=false){x:Str}(ht:(Zu (txS t++x)).1=t):tT t x (Zu (txS t++x)).2:=by
 cases h with
 |cId l h0 h=>
  left;have hn:=sj h0;have hnd:=Ol x h;obtain⟨c,r,e⟩:=Nh (Nj hn);rw[Am]at ht ⊢;rw[e,Xa]at ht ⊢;have hbr:=Hl c (r++x);rw[ht]at hbr;have hbr':brS c (r++x)=7:=hbr.symm;rw[qL,hbr',wh]at ht ⊢;rw[show c::(r++x)=Zx l++x by rw[e];rfl]at ht ⊢;unfold qG at ht ⊢;rw[hnd]at ht ⊢;simp only at ht ⊢;split at ht
  ·rename_i h40;exfalso;split at ht
   ·have:=congrArg ze.kind ht;rcases bE (urlS (past spB ((zo x).2.drop 1))).1 with hk|hk<;>rw[hk]at this<;>cases this
   grind
  ·rename_i h40;rw[Ja h40];have:=fE ht;exact EA (oz this)
 |cFn l h0 h=> left;rw[Lj,jK h0 h (by unfold rf at hu;exact hu)]
 |cAt l h0 h=> left;rw[Cm,Xa]at ht ⊢;have hbr:=Hl 64 (Zx l++x);rw[ht]at hbr;have hbr':brS 64 (Zx l++x)=6:=hbr.symm;rw[qL,hbr',Jo,Ol x h]at ht ⊢;exact EA (oz (fE ht))
 |cHash l f h0 h hbb=> left;rw[Ym,Xa]at ht ⊢;have hbr:=Hl 35 (Sg f l++x);rw[ht]at hbr;have hbr':brS 35 (Sg f l++x)=2:=hbr.symm;rw[qL,hbr',Tk,FP h x]at ht ⊢;exact EA (oz (fE ht))
 |cStr l h=>left;rw[Yk,jE h]
 |cUrl l h=>left;rw[Km,OM h]
 |cDel c h=> left;rw[Pm,Xa]at ht ⊢;have hbr:=Hl c ([]++x);rw[ht]at hbr;have hbr':brS c ([]++x)=8:=hbr.symm;rw[qL,hbr',Ms,Ub]
 |cNum n f h1 h2 hf=>
  right;right;left;refine⟨rfl,?_⟩;rw[Mm,Nt]at ht ⊢;unfold tK;show zC (numT n (!f)++x)=_/\_;unfold zG at ht ⊢
  grind
 |cPct n h1 h2=>left;rw[Lm,IM h1 h2]
 |cDim n u f h1 h2 hf h0 h=>
  have hnm:=jD h0 h;obtain⟨e1,e2⟩:=rD hnm x;rw[Om,pM,Nt]at ht ⊢;have plain:expS (Vf u++x)=none->(zG (numT n (!f)++(Vf u++x))).2=x:=by
   intro hexp;have he:=Ey (n:=n) (p:= !f) e1 e2 hexp;unfold zG at ht ⊢;rw[he]at ht ⊢;simp only at ht ⊢;split at ht
   ·rename_i hn;rw[Ka hn];rw[dG h0 h]at ht ⊢;have:(u++(zo x).1)=u:=congrArg ze.unit ht;exact EA (oz this)
   ·grind
  rcases YL h0 h x with hx|⟨e,s,he,hs,_,hu'⟩
  ·left;exact plain hx
  ·cases hexp:expS (Vf u++x)with
   |none=>left;exact plain hexp
   |some z=>
    right;right;right;refine⟨rfl,s,hs,?_⟩;obtain⟨_,hd,hz⟩:=XL hexp;have hdrop:(Vf u++x).drop 1=s++x:=by rw[hu'];rfl
    rw[hdrop]at hd hz;have hend:zC (numT n (!f)++(Vf u++x))=(z,false):=by
     cases hp:(partT (n.natAbs%1000) (!f)).isEmpty with
     |true=>rw[wD hp,e1,e2];simp only[hexp]
     |false=>rw[wC hp,e1];simp only[hexp]
    unfold zG at ht ⊢
    grind
 |cMark k h1 h2=>
  rw[Xm h1 h2,vN h1 h2];by_cases hk:k=13
  ·right;grind
  ·left
   grind
end Go.Lv.VT
