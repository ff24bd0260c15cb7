/- What is read of a text, and of a longer one. -/
import Derived.Test.YtcdeccnjlkkejaaGreatDoorNb
import Derived.Test.YtcdeccnjlkkejaaGreatDoorLaw
import Derived.Test.YtcdeccnjlkkejaaGreatDoorNam
set_option linter.unusedSimpArgs false
set_option linter.unusedVariables false
namespace Go.Lv.VT
set_option maxRecDepth 100000
theorem Eh{q:Str}{n:Nat}(x:Str)(h:n<q.length):atS (q++x) n=atS q n:=by
 unfold atS
 grind
theorem Ej{p:UInt8->Bool}(x:Str): ∀{q:Str},past p q≠[]->past p (q++x)=past p q++x
 |[],h=>absurd rfl h
 |c::r,h=>by
  rw[Ta,past,past];rw[past]at h;cases a:p c with
  |true=>rw[a,Ia rfl]at h;rw[Ia rfl,Ia rfl];exact Ej x h
  |false=>rfl
theorem Tv{p:UInt8->Bool}(x:Str): ∀{q:Str},past p q≠[]->(q++x).takeWhile p=q.takeWhile p
 |[],h=>absurd rfl h
 |c::r,h=>by
  rw[Ta,List.takeWhile_cons,List.takeWhile_cons];rw[past]at h;cases a:p c with
  |true=>rw[a,Ia rfl]at h;rw[Ia rfl,Ia rfl,Tv x h]
  |false=>rfl
theorem JM(x:Str): ∀{k n:Nat} {l:Str},(hexes k n l).2≠[]->hexes k n (l++x)=((hexes k n l).1,(hexes k n l).2++x)
 |0,n,l,_=>rfl
 |k+1,n,[],h=>absurd rfl h
 |k+1,n,c::r,h=>by
  rw[Ta,hexes,hexes];rw[hexes]at h;split
  ·rename_i a;rw[Ia a]at h;exact JM x h
  ·rfl
theorem xU{l:Str}(x:Str)(h:l≠[]):unsp (l++x)=unsp l++x:=by
 cases l with
 |nil=>grind
 |cons c r=> show(if spB c then r++x else c::(r++x))=(if spB c then r else c::r)++x;split<;>rfl
theorem Hy{r:Str}(x:Str)(h:(zo r).2≠[]):zo (r++x)=((zo r).1,(zo r).2++x):=by
 cases r with
 |nil=>exact absurd rfl h
 |cons c r=>
  have e: ∀t:Str,zo (c::t)=if qY c then(Cg (hexes 6 0 (c::t)).1,unsp (hexes 6 0 (c::t)).2)else([c],t):=fun t=>rfl;rw[Ta,e,e];rw[e]at h;split
  ·rename_i b;rw[Ia b]at h;have a:(hexes 6 0 (c::r)).2≠[]:=by intro d;rw[d]at h;exact h rfl
   rw[show c::(r++x)=(c::r)++x from rfl,JM x a,xU x a]
  ·rfl
theorem Mr{c:UInt8}{r:Str}(x:Str)(h:r≠[]\/c≠92):escS (c::(r++x))=escS (c::r):=by
 unfold escS;show(c==92&& !(atS (r++x) 0==10))=(c==92&& !(atS r 0==10));rcases h with h|h
 ·cases r with
  |nil=>grind
  |cons d t=>rfl
 grind
theorem uo{q:Str}(x:Str)(h:(zm q).2≠[]):zm (q++x)=((zm q).1,(zm q).2++x):=by
 match q with
 |[]=>rw[qA]at h;grind
 |c::r=>
  rw[Ta,zP,zP];rw[zP]at h;cases f:letB c with
  |true=> rw[f,Ia rfl]at h;simp only[jd];rw[uo x h]
  |false=>
   rw[f,Fa (by decide)]at h;simp only[Ob,Ld];cases a:escS (c::r)with
   |true=>
    rw[a,Ia rfl]at h;have g:(zo r).2≠[]:=by intro e;simp only[e,qA]at h;exact h rfl
    have b:r≠[]:=by rintro rfl;exact g rfl
    rw[Mr x (.inl b),a];simp only[jd];rw[Hy x g];have:=zX r;simp only;rw[uo x h]
   |false=>
    have b:r≠[]\/c≠92:=by
     cases r with
     |nil=> right;rintro rfl;exact absurd a (by decide)
     |cons d t=>left;simp
    rw[Mr x b,a];grind
termination_by q.length
decreasing_by
 all_goals grind
theorem Yx{m:UInt8}{q:Str}(x:Str)(h:(zV m q).2≠[]):zV m (q++x)=((zV m q).1,(zV m q).2++x):=by
 match q with
 |[]=>rw[Um]at h;grind
 |c::r=>
  rw[Ta,qV,qV];rw[qV]at h;cases g:c==m with
  |true=>grind
  |false=>
   rw[g,Fa (by decide)]at h;simp only[Ob,Ld];cases k:c==10 with
   |true=>grind
   |false=>
    rw[k,Fa (by decide)]at h;simp only[Ob,Ld];cases b:c==92 with
    |false=> rw[b,Fa (by decide)]at h;simp only[Ob,Ld];rw[Yx x h]
    |true=>
     rw[b,Ia rfl]at h;simp only[jd];cases f:r with
     |nil=>grind
     |cons d t=>
      rw[f]at h;have j:r.length=t.length+1:=by rw[f];rfl
      rw[Ta,show(d::(t++x)).isEmpty=false from rfl,show(d::t).isEmpty=false from rfl];simp only[Ob,Ld];rw[show(d::t).isEmpty=false from rfl,Fa (by decide)]at h;rw[show atS (d::(t++x)) 0=atS (d::t) 0 from rfl];cases a:atS (d::t) 0==10 with
      |true=> rw[a,Ia rfl]at h;simp only[jd];exact Yx (q:=t) x h
      |false=>
       rw[a,Fa (by decide)]at h;simp only[Ob,Ld];have i:(zo (d::t)).2≠[]:=by intro e;simp only[e,Um]at h;exact h rfl
       rw[show d::(t++x)=(d::t)++x from rfl,Hy x i];have:=zX (d::t);simp only;rw[Yx x h]
termination_by q.length
decreasing_by
 all_goals grind
theorem Fw{q:Str}(x:Str)(h:badS q≠[]):badS (q++x)=badS q++x:=by
 match q with
 |[]=>rw[Vs]at h;grind
 |c::r=>
  rw[Ta,Vt,Vt];rw[Vt]at h;cases f:c==41 with
  |true=>grind
  |false=>
   rw[f,Fa (by decide)]at h;simp only[Ob,Ld];cases a:escS (c::r)with
   |true=>
    rw[a,Ia rfl]at h;have d:(zo r).2≠[]:=by intro e;rw[e,Vs]at h;exact h rfl
    have b:r≠[]:=by rintro rfl;exact d rfl
    rw[Mr x (.inl b),a];simp only[jd];rw[Hy x d];have:=zX r;exact Fw x h
   |false=>
    rw[a,Fa (by decide)]at h;have b:r≠[]\/c≠92:=by left;rintro rfl;rw[Vs]at h;exact h rfl
    rw[Mr x b,a];simp only[Ob,Ld];exact Fw x h
termination_by q.length
decreasing_by
 all_goals grind
theorem aB{q:Str}(x:Str)(h:(urlS q).2≠[]):urlS (q++x)=((urlS q).1,(urlS q).2++x):=by
 match q with
 |[]=>rw[ol]at h;grind
 |c::r=>
  rw[Ta,Jj,Jj];rw[Jj]at h;cases l:c==41 with
  |true=>grind
  |false=>
   rw[l,Fa (by decide)]at h;simp only[Ob,Ld];cases j:spB c with
   |true=>
    rw[j,Ia rfl]at h;simp only[jd];cases f:past spB r with
    |nil=>grind
    |cons d t=>
     rw[Ej x (by rw[f];simp),f];rw[f]at h;simp only[Ta]at h ⊢;cases a:d==41 with
     |true=>grind
     |false=> rw[a,Fa (by decide)]at h;simp only[Ob,Ld];rw[show d::(t++x)=(d::t)++x from rfl,Fw x h]
   |false=>
    rw[j,Fa (by decide)]at h;simp only[Ob,Ld];have b:(c=92->r≠[])->escS (c::(r++x))=escS (c::r):=by
     intro k;refine Mr x ?_;by_cases e:c=92
     ·exact .inl (k e)
     ·exact .inr e
    have m:c=92->r≠[]:=by
     rintro rfl rfl;have o:escS [92]=true:=by decide
     rw[o,show((92:UInt8)==92&& !true)=false from rfl,He]at h;cases i:((92:UInt8)==34||(92:UInt8)==39||(92:UInt8)==40||unB 92)with
     |true=>exact absurd i (by decide)
     |false=> rw[i,Fa (by decide),Ia (by decide)]at h;exact absurd (by show(urlS (zo []).2).2=[];rw[show(zo []).2=[]from rfl,ol]) h
    rw[b m];cases a:c==34||c==39||c==40||unB c||c==92&& !escS (c::r)with
    |true=> rw[a,Ia rfl]at h;simp only[jd];rw[show c::(r++x)=(c::r)++x from rfl,Fw x h]
    |false=>
     rw[a,Fa (by decide)]at h;simp only[Ob,Ld];cases g:c==92 with
     |true=>
      rw[g,Ia rfl]at h;simp only[jd];have n:(zo r).2≠[]:=by intro e;simp only[e,ol]at h;exact h rfl
      rw[Hy x n];have:=zX r;simp only;rw[aB x h]
     |false=> rw[g,Fa (by decide)]at h;simp only[Ob,Ld];rw[aB x h]
termination_by q.length
decreasing_by
 all_goals grind
theorem Vk{q:Str}(x:Str)(h:q≠[]):unsign (q++x)=unsign q++x/\sgOf (q++x)=sgOf q:=by
 cases q with
 |nil=>grind
 |cons c r=> unfold unsign sgOf;show(if Jf c then r++x else c::(r++x))=(if Jf c then r else c::r)++x/\_;refine⟨by split<;>rfl,rfl⟩
def Cf(q:Str):Str:=past digB (unsign q)
theorem FL{q x:Str}(h:(Za q).1≠[])(f:q=[46]->digB (atS x 0)=false):Za (q++x)=((Za q).1++x,(Za q).2)/\dotP (q++x)=dotP q:=by
 unfold Za dotP;unfold Za at h;cases q with
 |nil=>exact absurd rfl h
 |cons c r=>
  have g:(atS ((c::r)++x) 0==46&&digB (atS ((c::r)++x) 1))=(atS (c::r) 0==46&&digB (atS (c::r) 1)):=by
   show(c==46&&digB (atS (r++x) 0))=(c==46&&digB (atS r 0));cases r with
   |nil=>
    cases a:c==46 with
    |false=>rfl
    |true=> rw[Db]at a;subst a;show(true&&digB (atS x 0))=(true&&digB (atS [] 0));rw[f rfl];rfl
   |cons d t=>rfl
  rw[g];cases e:(atS (c::r) 0==46&&digB (atS (c::r) 1))with
  |false=>grind
  |true=>
   rw[e,Ia rfl]at h;simp only[jd];rw[show((c::r)++x).drop 1=r++x from rfl,show(c::r).drop 1=r from rfl];have b:past digB r≠[]:=h;rw[Ej x b,Tv x b]
   grind
theorem BS{w x:Str}(hw:w≠[])(h: ∀r,expS w=some r->r≠[])(hn:expS w=none->expS (w++x)=none):
  expS (w++x)=(expS w).map (· ++x)/\expP (w++x)=expP w:=by
 have hP: ∀q:Str,expP q=if(expS q).isSome then some (atS q 0,sgOf (q.drop 1),(unsign (q.drop 1)).takeWhile digB)else none:=by
  intro q;unfold expP expS;cases atS q 0==101||atS q 0==69 with
  |false=>rfl
  |true=>
   grind
 cases he:expS w with
 |none=>
  grind
 |some r=>
  have hr:=h r he;cases w with
  |nil=>grind
  |cons c t=>
   have he':=he;unfold expS at he';cases h1:atS (c::t) 0==101||atS (c::t) 0==69 with
   |false=>grind
   |true=>
    rw[h1,Ia rfl]at he';cases h2:digB (atS (unsign ((c::t).drop 1)) 0)with
    |false=>grind
    |true=>
     rw[h2,Ia rfl]at he';have hrr:past digB (unsign t)=r:=by injection he'
     have ht:t≠[]:=by rintro rfl;exact absurd (show digB (atS (unsign []) 0)=true from h2) (by decide)
     obtain⟨u1,u2⟩:=Vk x ht;have hun:unsign t≠[]:=by intro e;rw[show(c::t).drop 1=t from rfl,e]at h2;exact absurd h2 (by decide)
     have hexp:expS ((c::t)++x)=some (r++x):=by unfold expS;rw[show atS ((c::t)++x) 0=atS (c::t) 0 from rfl,h1,Ia rfl,show((c::t)++x).drop 1=t++x from rfl,u1];have:atS (unsign t++x) 0=atS (unsign t) 0:=Eh x (Ce.2 hun);rw[this,show digB (atS (unsign t) 0)=true from h2,Ia rfl,Ej x (by grind),hrr]
     refine⟨by rw[hexp];rfl,?_⟩;rw[hP,hP,hexp,he];simp only[Option.isSome_some,jd];rw[show((c::t)++x).drop 1=t++x from rfl,show(c::t).drop 1=t from rfl,u1,u2,Tv x (by grind)];rfl
theorem Qy(q:Str):zI q=(match expS (Za (Cf q)).1 with|some r=>(r,false)|none=>Za (Cf q)):=rfl
theorem jA{q x:Str}(h:(zI q).1≠[])(j:Cf q=[46]->digB (atS x 0)=false)(l:expS (Za (Cf q)).1=none->expS ((Za (Cf q)).1++x)=none):
  zI (q++x)=((zI q).1++x,(zI q).2)/\numP (q++x)=numP q:=by
 rw[Qy]at h;have a: ∀r,expS (Za (Cf q)).1=some r->r≠[]:=by intro r p;rw[p]at h;exact h
 have b:(Za (Cf q)).1≠[]:=by intro e;rw[e,show expS []=none from rfl]at h;exact h e
 have c:Cf q≠[]:=by intro e;rw[e]at b;exact b rfl
 have n:q≠[]:=by rintro rfl;exact c rfl
 obtain⟨d,k⟩:=Vk x n;have f:Cf (q++x)=Cf q++x:=by unfold Cf;rw[d];exact Ej x c
 obtain⟨i,m⟩:=FL b j;obtain⟨s,o⟩:=BS b a l;have g: ∀z:Str,numP z=⟨sgOf z,(unsign z).takeWhile digB,dotP (Cf z),expP (Za (Cf z)).1⟩:=fun z=>rfl;constructor
 ·rw[Qy,Qy,f,i]
  grind
 ·rw[g,g,k,d,Tv x c,f,i,m,o]
def brS(c:UInt8)(r:Str):Nat:=
 if spB c then 0
 else if c==34||c==39 then 1
 else if c==35&&(letB (atS r 0)||escS r)then 2
 else if nbS (c::r)then 3
 else if [45,45,62].isPrefixOf (c::r)then 4
 else if [60,33,45,45].isPrefixOf (c::r)then 5
 else if c==64&&nmS r then 6
 else if nmS (c::r)then 7
 else if jf c==0 then 8
 else 9
def nxB:Nat->UInt8->Str->ze×Str
 |0,c,r=>(uf 13,past spB (c::r))
 |1,c,r=>(Ii (zV c r).1,(zV c r).2)
 |2,_,r=>(⟨4,(zm r).1,0,[],nmS r⟩,(zm r).2)
 |3,c,r=>zG (c::r)
 |4,c,r=>(uf 15,(c::r).drop 3)
 |5,c,r=>(uf 14,(c::r).drop 4)
 |6,_,r=>(⟨3,(zm r).1,0,[],false⟩,(zm r).2)
 |7,c,r=>qC (c::r)
 |8,c,r=>(⟨9,[c],0,[],false⟩,r)
 |_+9,c,r=>(uf (jf c),r)
theorem Hz(c:UInt8)(r:Str):nxB 0 c r=(uf 13,past spB (c::r)):=by rw[nxB]
theorem Kq(c:UInt8)(r:Str):nxB 1 c r=(Ii (zV c r).1,(zV c r).2):=by rw[nxB]
theorem Bl(c:UInt8)(r:Str):nxB 2 c r=(⟨4,(zm r).1,0,[],nmS r⟩,(zm r).2):=by rw[nxB]
theorem Ci(c:UInt8)(r:Str):nxB 3 c r=zG (c::r):=by rw[nxB]
theorem sF(c:UInt8)(r:Str):nxB 4 c r=(uf 15,(c::r).drop 3):=by rw[nxB]
theorem rF(c:UInt8)(r:Str):nxB 5 c r=(uf 14,(c::r).drop 4):=by rw[nxB]
theorem Jq(c:UInt8)(r:Str):nxB 6 c r=(⟨3,(zm r).1,0,[],false⟩,(zm r).2):=by rw[nxB]
theorem mh(c:UInt8)(r:Str):nxB 7 c r=qC (c::r):=by rw[nxB]
theorem Yu(c:UInt8)(r:Str):nxB 8 c r=(⟨9,[c],0,[],false⟩,r):=by rw[nxB]
theorem Gz(c:UInt8)(r:Str):nxB 9 c r=(uf (jf c),r):=rfl
theorem qE(c:UInt8)(r:Str):Zy (c::r)=nxB (brS c r) c r:=by
 rw[Om];unfold brS;split
 ·rfl
 ·split
  ·rfl
  ·split
   ·rfl
   ·split
    ·rfl
    ·split
     ·rfl
     ·split
      ·rfl
      ·split
       ·rfl
       ·split
        ·rfl
        ·split<;>rfl
theorem br_4{c:UInt8}{r:Str}:brS c r=4->[45,45,62].isPrefixOf (c::r)=true:=by unfold brS;grind
theorem br_5{c:UInt8}{r:Str}:brS c r=5->[60,33,45,45].isPrefixOf (c::r)=true:=by unfold brS;grind
theorem br_9{c:UInt8}{r:Str}:brS c r=9-> ¬(jf c==0)=true:=by unfold brS;grind
theorem XG(c:UInt8)(r:Str):brS c r<=9:=by unfold brS;grind
def brK(k:Int):Nat:=
 if k=13 then 0 else if k=5\/k=6 then 1 else if k=4 then 2 else if k=10\/k=11\/k=12 then 3 else if k=15 then 4 else if k=14 then 5 else if k=3 then 6
 else if k=1\/k=2\/k=7\/k=8 then 7 else if k=9 then 8 else 9
theorem LU(c:UInt8):jf c=0\/(16<=jf c/\jf c<=24):=by
 have: ∀n:Nat,n<256->jf (UInt8.ofNat n)=0\/(16<=jf (UInt8.ofNat n)/\jf (UInt8.ofNat n)<=24):=by decide+kernel
 have:=this c.toNat (Bb c);simp_all
theorem lU(o:Option Str):(Ii o).kind=5\/(Ii o).kind=6:=by cases o<;>simp[Ii]
theorem aC(o:Option Str):(Gi o).kind=7\/(Gi o).kind=8:=by cases o<;>simp[Gi]
theorem lY(l:Str):(qC l).1.kind=1\/(qC l).1.kind=2\/(qC l).1.kind=7\/(qC l).1.kind=8:=by
 unfold qC;split
 ·split
  ·exact .inr (.inr (aC _))
  grind
 ·exact .inl rfl
theorem lZ(l:Str):(zG l).1.kind=10\/(zG l).1.kind=11\/(zG l).1.kind=12:=by
 unfold zG
 grind
theorem yF{i:Nat}(h:i<=9):i=0\/i=1\/i=2\/i=3\/i=4\/i=5\/i=6\/i=7\/i=8\/i=9:=by omega
theorem Nk(c:UInt8)(r:Str):brK (Zy (c::r)).1.kind=brS c r:=by
 rw[qE];rcases yF (XG c r)with h|h|h|h|h|h|h|h|h|h
 ·rw[h];rfl
 ·rw[h,Kq];show brK (Ii (zV c r).1).kind=1;rcases lU (zV c r).1 with h|h<;>rw[h]<;>rfl
 ·rw[h];rfl
 ·rw[h,Ci];rcases lZ (c::r)with h|h|h<;>rw[h]<;>rfl
 ·rw[h];rfl
 ·rw[h];rfl
 ·rw[h];rfl
 ·rw[h,mh];rcases lY (c::r)with h|h|h|h<;>rw[h]<;>rfl
 ·rw[h];rfl
 ·have b:=LU c;have a:=br_9 h;rw[Db]at a;rw[h,Gz];show brK (jf c)=9;unfold brK
  repeat rw[Fa (by omega)]
theorem wW{q x:Str}(h:(qC q).2≠[]):qC (q++x)=((qC q).1,(qC q).2++x):=by
 have g:(zm q).2≠[]:=by intro e;unfold qC at h;rw[e,Fa (by decide)]at h;exact h rfl
 have e:=uo x g;unfold qC;unfold qC at h;rw[e];simp only;have i:atS ((zm q).2++x) 0=atS (zm q).2 0:=Eh x (Ce.2 g);rw[i];cases b:atS (zm q).2 0==40 with
 |false=>rfl
 |true=>
  rw[b,Ia rfl]at h;simp only[jd];cases f:(zm q).2 with
  |nil=>grind
  |cons c r=>
   rw[f]at h;rw[show((c::r)++x).drop 1=r++x from rfl];rw[show(c::r).drop 1=r from rfl]at h ⊢;cases j:lowS (zm q).1==[117,114,108]with
   |false=>
    grind
   |true=>
    rw[j,Ab]at h;simp only[Ab];cases a:past spB r with
    |nil=>
     rw[a,Ia (by decide),ol]at h
     grind
    |cons d t=>
     rw[Ej x (by rw[a];simp),a];rw[a]at h;rw[show atS ((d::t)++x) 0=atS (d::t) 0 from rfl];split
     ·rename_i k;rw[Ia k]at h;rw[aB x h]
     ·rfl
theorem Wo{q x:Str}{n:Nat}(h:n<=q.length):(q++x).drop n=q.drop n++x:=bf h
structure zim (q x:Str):Prop where
 e:zI (q++x)=((zI q).1++x,(zI q).2)
 p:numP (q++x)=numP q
 n:nmS ((zI q).1++x)=nmS (zI q).1
theorem YZ{q x:Str}(a:zim q x)(h:(zG q).2≠[]):zG (q++x)=((zG q).1,(zG q).2++x):=by
 have f:(zI q).1≠[]:=by intro e;unfold zG at h;rw[e,Fa (by decide),Fa (by decide)]at h;exact h rfl
 have b:atS ((zI q).1++x) 0=atS (zI q).1 0:=Eh x (Ce.2 f);unfold zG;unfold zG at h;rw[a.e,a.p];simp only[a.n,b];cases c:nmS (zI q).1 with
 |true=> rw[c,Ia rfl]at h;simp only[jd];rw[uo x h]
 |false=>
  simp only[Ob,Ld];cases d:atS (zI q).1 0==37 with
  |true=> simp_all
  |false=>grind
theorem uw {c:UInt8} {r x:Str} (f:brS c (r++x)=brS c r) (h:(Zy (c::r)).2≠[]) (e:brS c r=2->nmS (r++x)=nmS r)
  (b:brS c r=3->zim (c::r) x):Zy (c::(r++x))=((Zy (c::r)).1,(Zy (c::r)).2++x):=by
 rw[qE c (r++x),f];rw[qE]at h ⊢;rcases yF (XG c r)with a|a|a|a|a|a|a|a|a|a
 ·rw[a,Hz]at h;rw[a,Hz,Hz,show c::(r++x)=(c::r)++x from rfl,Ej x h]
 ·rw[a,Kq]at h;rw[a,Kq,Kq,Yx x h]
 ·rw[a,Bl]at h;rw[a,Bl,Bl,uo x h,e a]
 ·have g:=b a;rw[a,Ci]at h;rw[a,Ci,Ci,show c::(r++x)=(c::r)++x from rfl,YZ g h]
 ·have d:=Kk (br_4 a);rw[a,sF,sF,show c::(r++x)=(c::r)++x from rfl,Wo (show 3<=(c::r).length from d)]
 ·have d:=Kk (br_5 a);rw[a,rF,rF,show c::(r++x)=(c::r)++x from rfl,Wo (show 4<=(c::r).length from d)]
 ·rw[a,Jq]at h;rw[a,Jq,Jq,uo x h]
 ·rw[a,mh]at h;rw[a,mh,mh,show c::(r++x)=(c::r)++x from rfl,wW h]
 ·rw[a,Yu,Yu]
 ·rw[a,Gz,Gz]
theorem JL{q:Str}(x:Str)(h:q≠[]):undot (q++x)=undot q++x:=by
 cases q with
 |nil=>grind
 |cons c r=> unfold undot;show(if c==46 then r++x else c::(r++x))=(if c==46 then r else c::r)++x;split<;>rfl
theorem YV(q:Str):q.length<=(undot q).length+1:=by
 unfold undot
 grind
theorem kD(q:Str):q.length<=(unsign q).length+1:=by
 unfold unsign
 grind
theorem Im{q:Str}(h:1<=q.length):q≠[]:=by grind
theorem sP{q:Str}(x:Str)(h:3<=q.length):nbS (q++x)=nbS q:=by have b:=kD q;have a:=YV (unsign q);unfold nbS;rw[(Vk x (Im (by omega))).1,JL x (Im (by omega)),Eh x (by omega)]
theorem Bv{q:Str}(x:Str)(h:3<=q.length):nmS (q++x)=nmS q:=by unfold nmS escS;rw[Wo (by omega),Eh x (show 0<q.length by omega),Eh x (show 1<q.length by omega),Eh x (show 0<(q.drop 1).length by grind),Eh x (show 1<(q.drop 1).length by grind)]
theorem Bo{m:Str}: ∀{q:Str} (x:Str),m.length<=q.length->m.isPrefixOf (q++x)=m.isPrefixOf q:=by
 induction m with
 |nil=>grind
 |cons a m c=>
  intro q x h;cases q with
  |nil=>grind
  |cons b t=>
   grind
theorem GR{c:UInt8}{r:Str}(x:Str)(h:4<=r.length):brS c (r++x)=brS c r:=by
 have e:c::(r++x)=(c::r)++x:=rfl;have hl:(c::r).length=r.length+1:=rfl;unfold brS;rw[e,sP x (by omega),Bo x (by grind),Bo x (by grind),Bv x (q:=r) (by omega),Bv x (q:=c::r) (by omega),Eh x (show 0<r.length by omega)];have:escS (r++x)=escS r:=by unfold escS;rw[Eh x (show 0<r.length by omega),Eh x (show 1<r.length by omega)]
 rw[this]
theorem Rk{w:Str}:expS w=none↔((atS w 0==101||atS w 0==69)&&digB (atS (unsign (w.drop 1)) 0))=false:=by
 unfold expS
 grind
theorem yR{w:Str}(x:Str)(h:3<=w.length)(a:expS w=none):expS (w++x)=none:=by rw[Rk]at a ⊢;have b:=kD (w.drop 1);rw[Pb]at b;rw[Wo (by omega),(Vk x (Im (by grind))).1,Eh x (show 0<w.length by omega),Eh x (by omega)];exact a
theorem pX(q:Str):(Za q).1<:+q:=by
 unfold Za;split
 ·exact(Pk _ _).trans (Fe 1 q)
 grind
theorem dR(q:Str):(zI q).1<:+(Za (Cf q)).1:=by
 rw[Qy];cases h:expS (Za (Cf q)).1 with
 |some r=>exact BJ (Oe _) h
 |none=>grind
theorem sM(q:Str):(zG q).2<:+(zI q).1:=by
 unfold zG;split
 ·exact Gj _
 ·split
  ·exact Fe 1 _
  grind
theorem dS{q:Str}(x:Str)(h:4<=(zI q).1.length):zim q x:=by have d:=(dR q).length_le;have c:=(pX (Cf q)).length_le;obtain⟨a,b⟩:=jA (q:=q) (x:=x) (Im (by omega)) (fun e=>by grind) (yR x (by omega));exact⟨a,b,Bv x (by omega)⟩
theorem EU{c:UInt8}{r:Str}(x:Str)(h:4<=(Zy (c::r)).2.length):Zy (c::(r++x))=((Zy (c::r)).1,(Zy (c::r)).2++x):=by have b:=(Ni c r).length_le;refine uw (GR x (by omega)) (Im (by omega)) (fun _=>Bv x (by omega)) (fun a=>dS x ?_);rw[qE,a,Ci]at h;have:=(sM (c::r)).length_le;omega
theorem su(q y:Str):escS (q++47::y)=escS q:=by
 match q with
 |[]=>rfl
 |[c]=>rfl
 |c::d::t=>rfl
theorem Mq(q y:Str):nmS (q++47::y)=nmS q:=by
 match q with
 |[]=>rfl
 |[c]=> unfold nmS;show(if c==45 then fstB 47||47==45||escS (47::y)else fstB c||escS ([c]++47::y))=(if c==45 then fstB 0||0==45||escS []else fstB c||escS [c]);rw[su];rfl
 |c::d::t=> unfold nmS;show(if c==45 then fstB d||d==45||escS ((d::t)++47::y)else fstB c||escS ((c::d::t)++47::y))=(if c==45 then fstB d||d==45||escS (d::t)else fstB c||escS (c::d::t));rw[su,su]
theorem yG(q y:Str):digB (atS (q++47::y) 0)=digB (atS q 0):=by
 cases q with
 |nil=>rfl
 |cons c t=>rfl
theorem IL(q y:Str):unsign (q++47::y)=unsign q++47::y:=by
 cases q with
 |nil=>rfl
 |cons c t=>exact(Vk (47::y) (by simp)).1
theorem yU(q y:Str):undot (q++47::y)=undot q++47::y:=by
 cases q with
 |nil=>rfl
 |cons c t=>exact JL (47::y) (by simp)
theorem VQ(q y:Str):nbS (q++47::y)=nbS q:=by unfold nbS;rw[IL,yU,yG]
theorem XH{m:Str}(c: ∀b∈m,b≠47): ∀(q y:Str),m.isPrefixOf (q++47::y)=m.isPrefixOf q:=by
 induction m with
 |nil=>grind
 |cons a m d=>
  intro q y;cases q with
  |nil=>
   grind
  |cons b t=>grind
theorem xP(q y:Str):letB (atS (q++47::y) 0)=letB (atS q 0):=by
 cases q with
 |nil=>rfl
 |cons c t=>rfl
theorem WG(c:UInt8)(r y:Str):brS c (r++47::y)=brS c r:=by have e:c::(r++47::y)=(c::r)++47::y:=rfl;unfold brS;rw[e,VQ,XH (by decide),XH (by decide),Mq,Mq,xP,su]
theorem YR{w:Str}(y:Str)(a:expS w=none):expS (w++47::y)=none:=by
 cases w with
 |nil=>rfl
 |cons c t=> rw[Rk]at a ⊢;show((c==101||c==69)&&digB (atS (unsign (t++47::y)) 0))=false;rw[IL,yG];exact a
theorem mP{q:Str}(y:Str)(h:(zI q).1≠[]):zim q (47::y):=by obtain⟨a,b⟩:=jA (q:=q) (x:=47::y) h (fun _=>rfl) (YR y);exact⟨a,b,Mq _ y⟩
theorem aM{q:Str}(h:(zG q).2≠[]):(zI q).1≠[]:=by intro e;have:=(sM q).length_le;simp_all
theorem kS{c:UInt8}{r:Str}(y:Str)(h:(Zy (c::r)).2≠[]):Zy (c::(r++47::y))=((Zy (c::r)).1,(Zy (c::r)).2++47::y):=by refine uw (WG c r y) h (fun _=>Mq r y) (fun a=>mP y ?_);rw[qE,a,Ci]at h;exact aM h
def Uz(c:UInt8)(r x:Str):Prop:=(∃e a,(e=101\/e=69)/\Za (Cf (c::r))=([e,43],a))/\(Zy (c::r)).2=[43]/\(Zy (c::r)).1.kind=12/\digB (atS x 0)=true
theorem BU{c:UInt8}{r x:Str}(hb:brS c r=3)(h:(Zy (c::r)).2≠[])(hx:x≠[])(ht:(zG ((c::r)++x)).1=(zG (c::r)).1):
  zim (c::r) x\/Uz c r x:=by
 have hnx:Zy (c::r)=zG (c::r):=by rw[qE,hb,Ci]
 rw[hnx]at h;have he:=aM h;have hflag: ∀q:Str,(zG q).1.kind=10->(zG q).1.flag=(zI q).2:=by
  intro q;unfold zG;split
  ·intro h;cases h
  ·grind
 have hnm: ∀q:Str,((zG q).1.kind=12↔nmS (zI q).1=true):=by
  intro q;unfold zG;split
  ·grind
  ·grind
 by_cases hd:Cf (c::r)=[46]->digB (atS x 0)=false
 ·by_cases hn:expS (Za (Cf (c::r))).1=none->expS ((Za (Cf (c::r))).1++x)=none
  ·obtain⟨a,b⟩:=jA he hd hn;refine .inl ⟨a,b,?_⟩
   grind
  ·right;obtain⟨hn1,hn2⟩:=Classical.not_imp.1 hn;have hend:zI (c::r)=Za (Cf (c::r)):=by rw[Qy,hn1]
   rw[hend]at he;obtain⟨w,fl⟩: ∃w fl,Za (Cf (c::r))=(w,fl):=⟨_,_,rfl⟩;obtain⟨fl,hw⟩:=fl;rw[hw]at he hn1 hn2 hend;simp only at he hn1 hn2;rw[Rk]at hn1;rw[Rk]at hn2;cases w with
   |nil=>grind
   |cons e t=>
    have h2:((e==101||e==69)&&digB (atS (unsign (t++x)) 0))=true:=by
     have:((atS ((e::t)++x) 0==101||atS ((e::t)++x) 0==69)&&digB (atS (unsign (((e::t)++x).drop 1)) 0))=true:=by
      cases hh:((atS ((e::t)++x) 0==101||atS ((e::t)++x) 0==69)&&digB (atS (unsign (((e::t)++x).drop 1)) 0))with
      |true=>rfl
      |false=>grind
     exact this
    have h1:((e==101||e==69)&&digB (atS (unsign t) 0))=false:=hn1;rw[Ca]at h2;rw[h2.1,Ab]at h1;have hee:e=101\/e=69:=by have:=h2.1;rw[Jc,Db,Db]at this;exact this
    have hfst:fstB e=true/\letB e=true/\(e==45)=false:=by rcases hee with rfl|rfl<;>decide
    have hnmw:nmS (e::t)=true:=by unfold nmS;rw[show atS (e::t) 0=e from rfl,hfst.2.2,Fa (by decide),hfst.1];rfl
    have hnum:zG (c::r)=(⟨12,[],(numP (c::r)).val,(zm (e::t)).1,fl⟩,(zm (e::t)).2):=by unfold zG;rw[hend,Ia hnmw]
    rw[hnum]at h;have h':(zm (e::t)).2≠[]:=h;have ht43:t=[43]/\digB (atS x 0)=true:=by
     match t with
     |[]=>rw[zP,Ia hfst.2.1,qA]at h';grind
     |[d]=>
      have hux:unsign ([d]++x)=if Jf d then x else d::x:=rfl;have hu:unsign [d]=if Jf d then []else [d]:=rfl;rw[hux]at h2;rw[hu]at h1;cases hs:Jf d with
      |false=>
       rw[hs,Fa (by decide)]at h1 h2;have:=h2.2;rw[show atS (d::x) 0=atS [d] 0 from rfl,h1]at this;cases this
      |true=>
       rw[hs,Ia rfl]at h2;unfold Jf at hs;rw[Jc,Db,Db]at hs;rcases hs with rfl|rfl
       ·grind
       ·rw[zP,Ia hfst.2.1,zP,Ia (by decide),qA]at h';grind
     |d::d2::t2=>
      exfalso;have hlen:1<=(unsign (d::d2::t2)).length:=by have:=kD (d::d2::t2);rw[Ka,Ka]at this;omega
      have:=h2.2;rw[(Vk x (by simp)).1,Eh x (by omega),h1]at this;cases this
    obtain⟨rfl,hdx⟩:=ht43;refine⟨⟨e,fl,hee,hw⟩,?_,?_,hdx⟩
    ·rw[hnx,hnum];show(zm [e,43]).2=[43];rw[zP,Ia hfst.2.1,zP,Fa (by decide),Fa (by decide)]
    ·rw[hnx,hnum]
 ·exfalso;obtain⟨hq2,hdx⟩:=Classical.not_imp.1 hd;have hend:zI (c::r)=([46],true):=by rw[Qy,hq2];rfl
  have hnum:zG (c::r)=(⟨10,[],(numP (c::r)).val,[],true⟩,[46]):=by unfold zG;rw[hend,Fa (by decide),Fa (by decide)]
  rw[hnum]at ht;have hf:=hflag ((c::r)++x) (by rw[ht]);rw[ht]at hf;have hun:unsign (c::r)≠[]:=by intro e;rw[Cf,e]at hq2;cases hq2
  have e2:Cf ((c::r)++x)=46::x:=by unfold Cf;rw[(Vk x (by simp)).1,Ej x (by unfold Cf at hq2;rw[hq2];simp)];unfold Cf at hq2;rw[hq2];rfl
  have hw:Za (46::x)=(past digB x,false):=by
   unfold Za;have:digB (atS x 0)=true:=by cases hh:digB (atS x 0)with|true=>rfl|false=>grind
   rw[show atS (46::x) 0=46 from rfl,show atS (46::x) 1=atS x 0 from rfl,this];rfl
  have hfl:(zI ((c::r)++x)).2=false:=by rw[Qy,e2,hw];simp only;cases expS (past digB x)<;>rfl
  rw[hfl]at hf;cases hf
theorem MX{c:UInt8}{r x:Str}(h:(Zy (c::r)).2≠[])(hx:x≠[])(ht:(Zy (c::(r++x))).1=(Zy (c::r)).1):
  (Zy (c::(r++x))).2=(Zy (c::r)).2++x\/Uz c r x:=by
 have hb:brS c (r++x)=brS c r:=by rw[<-Nk,<-Nk,ht]
 have hh:brS c r=2->nmS (r++x)=nmS r:=by intro hi;have:=congrArg ze.flag ht;rw[qE,qE,hb,hi,Bl,Bl]at this;exact this
 by_cases hi:brS c r=3
 ·have hnx:Zy (c::r)=zG (c::r):=by rw[qE,hi,Ci]
  have hnx2:Zy (c::(r++x))=zG ((c::r)++x):=by rw[qE,hb,hi,Ci];rfl
  have ht':=ht;rw[hnx,hnx2]at ht';rcases BU hi h hx ht' with hs|hp
  ·left;rw[uw hb h hh (fun _=>hs)]
  ·exact .inr hp
 ·left;rw[uw hb h hh (fun e=>absurd e hi)]
def run:Str->List ze->Str->Prop
 |q,[],R=>q=R
 |q,t::a,R=> ∃c r,cmtS q=c::r/\(Zy (c::r)).1=t/\run (Zy (c::r)).2 a R
theorem Ar: ∀{ts:List ze} {q R:Str},run q ts R->R<:+q
 |[],q,R,h=>by rw[run]at h;grind
 |t::ts,q,R,h=>by obtain⟨c,r,d,e,b⟩:=h;have a:=mi q;rw[d]at a;exact(Ar b).trans ((Ni c r).trans ((Td c r).trans a))
theorem Mo: ∀{ts:List ze} {q R:Str},run q ts R->qB q=ts++qB R
 |[],q,R,h=>by rw[run]at h;subst h;rfl
 |t::ts,q,R,h=>by obtain⟨c,r,d,b,a⟩:=h;rw[QV d,b,Mo a];rfl
theorem WC: ∀{ts us:List ze} {q R S:Str},run q ts R->run R us S->run q (ts++us) S
 |[],us,q,R,S,h,a=>by rw[run]at h;subst h;exact a
 |t::ts,us,q,R,S,h,a=>by obtain⟨c,r,e,d,b⟩:=h;exact⟨c,r,e,d,WC b a⟩
theorem JJ: ∀{ts us:List ze} {q:Str},qB q=ts++us-> ∃R,run q ts R/\qB R=us
 |[],us,q,h=>⟨q,rfl,h⟩
 |t::ts,us,q,h=>by
  cases a:cmtS q with
  |nil=>rw[Q6 a]at h;cases h
  |cons c r=> rw[QV a,Ta]at h;injection h with d f;obtain⟨R,e,b⟩:=JJ f;exact⟨R,⟨c,r,a,d,e⟩,b⟩
theorem EI: ∀{ts:List ze} {q R S:Str},run q ts R->run q ts S->R=S
 |[],q,R,S,h,b=>by rw[run]at h b;rw[<-h,b]
 |t::ts,q,R,S,h,b=>by obtain⟨c,r,f,m,g⟩:=h;obtain⟨l,k,a,e,d⟩:=b;rw[f]at a;injection a with i j;subst i j;exact EI g d
theorem FI{ts:List ze}{q R:Str}(d:ts≠[]):run (cmtS q) ts R↔run q ts R:=by
 cases ts with
 |nil=>grind
 |cons t ts=>
  constructor
  ·rintro⟨c,r,a,b⟩;rw[il]at a;exact⟨c,r,a,b⟩
  ·rintro⟨c,r,a,b⟩;exact⟨c,r,by rw[il];exact a,b⟩
theorem cB(x:Str): ∀{l r:Str},clsS l=some r->clsS (l++x)=some (r++x)
 |[],r,h=>by cases h
 |c::t,r,h=>by
  rw[clsS]at h;rw[Ta,clsS];cases t with
  |nil=>
   cases a:c==42&&atS ([]:Str) 0==47 with
   |true=>rw[Ca]at a;exact absurd a.2 (by decide)
   |false=>rw[a,Fa (by decide)]at h;cases h
  |cons d u=>
   rw[show atS ((d::u)++x) 0=atS (d::u) 0 from rfl];split
   ·grind
   ·rename_i a;rw[Fa a]at h;exact cB x h
theorem Vr{q x:Str}(h:cmtS q≠[])(a:([47,42]:Str).isPrefixOf (cmtS q++x)=false):cmtS (q++x)=cmtS q++x:=by
 rw[Xh q]at h a ⊢;split at h
 ·rename_i b;have c:=Kk b;rw[show([47,42]:Str).length=2 from rfl]at c;rw[Ia b]at a ⊢;cases d:clsS (q.drop 2)with
  |none=>grind
  |some p=>
   rw[d]at h a;simp only at h a ⊢;rw[Xh (q++x),Bo x (by exact c),b,Ia rfl,Wo c,cB x d];simp only;have e:p.length<q.length:=by have e:=(ni _ d).2;rw[Pb]at e;omega
   exact Vr h a
 ·rename_i b;rw[Fa b]at a ⊢;exact qg a
termination_by q.length
decreasing_by omega
theorem nU{c d:UInt8}(t x:Str):([47,42]:Str).isPrefixOf ((c::d::t)++x)=([47,42]:Str).isPrefixOf (c::d::t):=Bo x (by grind)
theorem uI{q x:Str}(h:2<=(cmtS q).length):cmtS (q++x)=cmtS q++x:=by refine Vr (Im (by omega)) ?_;rw[Bo x (by exact h)];exact Ur q
theorem LK{c:UInt8}{r:Str}(h:(Zy (c::r)).2≠[]):2<=(c::r).length:=by
 have b:=(Ni c r).length_le;have a:=Ce.2 h
 grind
theorem DI: ∀{ts:List ze} {q R:Str} (x:Str),run q ts R->4<=R.length->run (q++x) ts (R++x)
 |[],q,R,x,h,_=>by rw[run]at h;subst h;rfl
 |t::ts,q,R,x,h,e=>by obtain⟨c,r,a,f,b⟩:=h;have i:=(Ar b).length_le;have d:=EU x (c:=c) (r:=r) (by omega);have g:=LK (c:=c) (r:=r) (Im (by omega));refine⟨c,r++x,by rw[uI (by rw[a];exact g),a];rfl,by rw[d];exact f,?_⟩;rw[d];exact DI x b e
theorem bA{q:Str}(y:Str)(h:cmtS q≠[]):cmtS (q++47::42::y)=cmtS q++47::42::y:=by
 refine Vr h ?_;have b:=Ur q;cases a:cmtS q with
 |nil=>exact absurd a h
 |cons c t=>
  cases t with
  |nil=>
   grind
  |cons d u=>grind
theorem xz: ∀{ts:List ze} {q R:Str} (y:Str),run q ts R->R≠[]->run (q++47::42::y) ts (R++47::42::y)
 |[],q,R,y,h,_=>by rw[run]at h;subst h;rfl
 |t::ts,q,R,y,h,hl=>by
  obtain⟨c,r,h1,h2,h3⟩:=h;have h4:(Zy (c::r)).2≠[]:=by intro e;have:=(Ar h3).length_le;rw[e]at this;exact hl (List.length_eq_zero_iff.1 (by simpa using this))
  have h5:=kS (42::y) h4;refine⟨c,r++47::42::y,by rw[bA y (by rw[h1];simp),h1];rfl,by rw[h5];exact h2,?_⟩;rw[h5];exact xz y h3 hl
def eG(q x:Str)(us:List ze):Prop:= ∃c r,cmtS q=c::r/\Uz c r x/\(Zy (c::(r++x))).1=(Zy (c::r)).1/\qB (Zy (c::(r++x))).2=us
theorem bK: ∀{ts us:List ze} {q R:Str} {x:Str},run q ts R->R≠[]->x≠[]->qB (q++x)=ts++us->run (q++x) ts (R++x)\/(R=[43]/\ ∃p,p<:+q/\eG p x us)
 |[],us,q,R,x,h,_,_,_=>by rw[run]at h;subst h;exact .inl rfl
 |t::ts,us,q,R,x,h,hl,hx,ht=>by
  obtain⟨c,r,h1,h2,h3⟩:=h;have h4:(Zy (c::r)).2≠[]:=by intro e;have:=(Ar h3).length_le;rw[e]at this;exact hl (List.length_eq_zero_iff.1 (by simpa using this))
  have hc:cmtS (q++x)=c::(r++x):=by rw[uI (by rw[h1];exact LK h4),h1];rfl
  rw[QV hc,Ta]at ht;injection ht with ht1 ht2;rcases MX h4 hx (by rw[ht1,h2])with h5|h5
  ·rw[h5]at ht2;rcases bK h3 hl hx ht2 with h6|⟨h6,p,hp,h7⟩
   ·exact .inl ⟨c,r++x,hc,ht1,by rw[h5];exact h6⟩
   ·refine .inr ⟨h6,p,hp.trans ((Ni c r).trans ((Td c r).trans ?_)),h7⟩;rw[<-h1];exact mi q
  ·right;have h43:=h5.2.1;have hR:R=[43]/\ts=[]:=by
    cases ts with
    |nil=>rw[run,h43]at h3;grind
    |cons u us'=> exfalso;rw[h43]at h3;obtain⟨c',r',e1,e2,e3⟩:=h3;rw[show cmtS [43]=[43]from qg rfl]at e1;injection e1 with e4 e5;subst e4 e5;have:=(Ar e3).length_le;have h9:=(Ni (43:UInt8) []).length_le;simp_all
   obtain⟨hR,rfl⟩:=hR;refine⟨hR,q,Oe _,c,r,h1,h5,by rw[ht1,h2],?_⟩;rw[ht2];rfl
def encB(p:UInt8->Bool):Str->Str
 |[]=>[]
 |c::r=>(bif p c then escC c else [c])++encB p r
def quoB(c:UInt8):Bool:=c==10||c==12||c==13||c==34||c==92
def urB(c:UInt8):Bool:=decide (c.toNat<=32)||c==34||c==39||c==40||c==41||c==92||c==127
def Di:Str->Bool
 |[]=>false
 |c::r=>(c==101||c==69)&&numS r&& !(List.isPrefixOf [45,45] r)
def Uf:Str->Str
 |[]=>[]
 |c::r=>bif Di (c::r)then escC c++encW false 0 r else ZQ (c::r)
def ek(k:Int):Str:=
 bif k==13 then [32]else bif k==14 then [60,33,45,45]else bif k==15 then [45,45,62]else bif k==16 then [58]else bif k==17 then [59]else bif k==18 then [44]else
 bif k==19 then [91]else bif k==20 then [93]else bif k==21 then [40]else bif k==22 then [41]else bif k==23 then [123]else [125]
def txS(t:ze):Str:=
 bif t.kind==1 then ZQ t.text
 else bif t.kind==2 then ZQ t.text++[40]
 else bif t.kind==3 then 64::ZQ t.text
 else bif t.kind==4 then 35::(bif t.flag then ZQ t.text else encW false 0 t.text)
 else bif t.kind==5 then 34::(encB quoB t.text++[34])
 else bif t.kind==7 then [117,114,108,40]++(encB urB t.text++[41])
 else bif t.kind==9 then t.text
 else bif t.kind==10 then numT t.num (!t.flag)
 else bif t.kind==11 then numT t.num false++[37]
 else bif t.kind==12 then numT t.num (!t.flag)++Uf t.unit
 else ek t.kind
theorem Fs(p:UInt8->Bool): ∀l:Str,(encB p l).length<=4*l.length
 |[]=>by unfold encB;simp
 |c::r=>by
  have:=Cs c;have:=Fs p r;unfold encB
  grind
theorem MS{p:UInt8->Bool}{i:Nat}{l:Str}(h:i<l.length):encB p (l.drop i)=(bif p l[i]then escC l[i]else [l[i]])++encB p (l.drop (i+1)):=by rw[ma h,encB]
theorem XL {R:Type} {step:Int×List UInt8->Option (LO (Int×List UInt8) (List UInt8) R)} {l acc:Str} {p:UInt8->Bool} (hl:l.length<=100000) (ha:acc.length<=100000000)
  (h1: ∀(i:Nat) (a:Str) (hi:i<l.length),a.length<=500000000->step ((i:Int),a)=some (.again (w64 ((i:Int)+1),a++(bif p l[i]then escC l[i]else [l[i]]))))
  (h2: ∀a,step ((l.length:Int),a)=some (.out a)):Dg step (0,acc)=some (.out (acc++encB p l)):=by
 refine ZT (fun z=> ∃(i:Nat) (a:Str),z=((i:Int),a)/\i<=l.length/\a.length<=acc.length+4*i/\a++encB p (l.drop i)=acc++encB p l) (fun z=>l.length - z.1.toNat) _ ?_ ⟨0,acc,rfl,by omega,by omega,rfl⟩;rintro _ ⟨i,a,rfl,hi,hal,he⟩;rcases Yc i l.length with h|h
 ·refine .inl ⟨_,h1 i a h (by omega),⟨i+1,_,by rw[Zd (by omega) (by omega)];rfl,by omega,?_,?_⟩,by simp only;rw[Zd (by omega) (by omega)];omega⟩
  ·have:=Cs l[i]
   grind
  ·rw[<-he,MS h,Oa]
 ·have:i=l.length:=by omega
  subst this;refine .inr (.inl ⟨_,h2 a,?_⟩);rw[<-he,We (Ua _)];rw[show encB p []=[] by rw[encB],Cb]
theorem AC{l acc:Str}{k:Nat}(d:l.length<=100000)(b:acc.length<=100000000):Z4 ((l,(k:Int)),acc)=some (acc++encW (yg k l) k l):=by
 unfold Z4;rw[qD (eH (dash:=yg k l) (k:=k) (l:=l) (acc:=acc) d b (fun i a f b=> ?_) (fun a=> ?_))]
 ·have g:decide ((i:Int)<(l.length:Int))=true:=Ga (by omega);have e:geti l (i:Int)=some l[i]:=qI f;have j:decide ((i:Int)>=(k:Int))=(k - i==0):=by
   by_cases h:k<=i
   ·grind
   ·grind
  have m:((k:Int)==0)=(k==0):=by
   by_cases h:k=0
   ·subst h;rfl
   ·grind
  simp only[g,Ea,e,j,m,zg,Aa,UI,IB];have c:(bif k==0 then true else !(l==[45]))= !yg k l:=by unfold yg;cases k==0<;>cases l==[45]<;>rfl
  rw[c];unfold pcW;cases letB l[i]with
  |false=>
   cases k - i==0<;>simp only[zx,Ib,Xa,Pd,Nb,Sb,Ea,Da,Aa,Tk l[i] (show a.length<=1000000000 by omega),zh]
  |true=> cases k - i==0<;>cases digB l[i]<;>cases yg k l<;>simp only[zx,Ib,Xa,Pd,Nb,Sb,Gg,He,Ab,xc,Ae,Ea,Da,Aa,Ir,zA (Fg (show a.length+1<=2000000000 by omega)),Tk l[i] (show a.length<=1000000000 by omega),zh]
 grind
theorem OY(l:Str):yg (Qi l) l=(l==[45]):=by unfold yg Qi;split<;>rfl
theorem rq{l acc:Str}(a:l.length<=100000)(b:acc.length<=100000000):Z4 ((l,((Qi l:Nat):Int)),acc)=some (acc++ZQ l):=by rw[AC a b,OY];rfl
theorem gT{n:Nat}{b:Str}(c:n<=1000000000000)(d:b.length<=100000):ll (((n:Int),10),b)=some (b++Lib.decDigits n):=by have a:short b=true:=Ga (by omega);unfold ll;simp only[a,Sb,Va,decide_true,Ab];rw[Ga (by omega),Ga (by omega)];rfl
theorem oN{m:Nat}(n:m<=1000000000000)(p:Bool)(b:Str)(o:b.length<=90000):
  ((ll ((w64 (Int.tdiv (m:Int) 1000),10),b)).bind fun a=>(Vl (w64 (1000+Int.tmod (m:Int) 1000),10)).bind fun d=>need (decide (1<=(d.length:Int)))<|
   (Wj (List.drop 1 d,[48])).bind fun c=>zY (X:=List UInt8) (R:=List UInt8) (bif !(c==[])then need (zD a.length 1 1)<|need (zD (a++[(46:UInt8)]).length c.length 1)<|some (LX.out (a++[(46:UInt8)]++c))else bif p then need (zD a.length ([46,48]:Str).length 1)<|some (LX.out (a++([46,48]:Str)))else some (LX.out a)) fun l=>some l)=some (b++Xf m p):=by
 have k:w64 (Int.tdiv (m:Int) 1000)=((m / 1000:Nat):Int):=by rw[show Int.tdiv (m:Int) 1000=((m / 1000:Nat):Int)from rfl,Zd (by omega) (by omega)]
 have j:w64 (1000+Int.tmod (m:Int) 1000)=((1000+m%1000:Nat):Int):=by rw[show Int.tmod (m:Int) 1000=((m%1000:Nat):Int)from rfl,Zd (by omega) (by omega)];omega
 have f:m%1000<1000:=by omega
 rw[k,j];have i:Vl (((1000+m%1000:Nat):Int),10)=some (49::[d48 (m%1000 / 100),d48 (m%1000 / 10%10),d48 (m%1000%10)]):=by unfold Vl i64B;simp only[decide_true,Ab];rw[Ga (by omega),Ga (by omega)];rw[<-oV f];show some (Lib.itoa _)=_;unfold Lib.itoa;rw[Fa (by omega),Va]
 have e:=XD (u:=m / 1000) (by omega);rw[gT (by omega) (by omega),Aa,i,Aa,zA (Ga (by simp))];have g:Wj (List.drop 1 (49::[d48 (m%1000 / 100),d48 (m%1000 / 10%10),d48 (m%1000%10)]),[48])=some (Gh (m%1000)):=rfl;rw[g,Aa,kX];have h:=yC _ f;simp only[pu,Ca,Eb]at h;unfold Xf Nj;cases (Gh (m%1000)).isEmpty with
 |true=>
  simp only[Ib,Da,Ea];cases p with
  |true=>rw[Ea,zA (Vi (by grind) (by omega)),zh,Oa];rfl
  |false=>simp_all
 |false=> simp only[Xa,Da,Ea];rw[zA (Vi (by grind) (by omega)),zA (Vi (by grind) (by omega)),zh,Oa,Oa];rfl
theorem nD{n:Int}(d: -1000000000000<=n)(h2:n<=1000000000000)(p:Bool){acc:Str}(c:acc.length<=80000):qa ((n,p),acc)=some (acc++numT n p):=by
 unfold qa numT;simp only[zg];by_cases a:n<0
 ·obtain⟨m,rfl⟩: ∃m:Nat,n= -(m:Int):=⟨n.natAbs,by omega⟩;rw[Ga a,Ea,zA (Vi (by omega) (by omega)),zh,Ia a];simp only;have b:w64 (0 - -(m:Int))=(m:Int):=by rw[show(0 - -(m:Int))=(m:Int) by omega,Zd (by omega) (by omega)]
  rw[b,Int.natAbs_neg,Int.natAbs_natCast,<-Oa];exact oN (by omega) p (acc++[45]) (by grind)
 ·obtain⟨m,rfl⟩: ∃m:Nat,n=(m:Int):=⟨n.toNat,by omega⟩;rw[aa a,Da,zh,Fa a];simp only;rw[Int.natAbs_natCast,Xb];exact oN (by omega) p acc (by omega)
theorem mR: ∀n:Nat,n<256->(ibOr IntKind.u8 (n:Int) 32==101)=(UInt8.ofNat n==101||UInt8.ofNat n==69):=by decide+kernel
theorem nR(c:UInt8):(ibOr IntKind.u8 (c.toNat:Int) 32==101)=(c==101||c==69):=by have:=mR c.toNat (Bb c);simp_all
theorem uQ(c:UInt8):decide (Lib.indexByte [10,12,13,34,92] c.toNat.toUInt8>=0)=quoB c:=by
 have: ∀n:Nat,n<256->decide (Lib.indexByte [10,12,13,34,92] n.toUInt8>=0)=quoB (UInt8.ofNat n):=by decide+kernel
 have:=this c.toNat (Bb c);simp_all
theorem eQ(c:UInt8):(decide ((c.toNat:Int)<=32)||decide (Lib.indexByte [34,39,40,41,92,127] c.toNat.toUInt8>=0))=urB c:=by
 have: ∀n:Nat,n<256->(decide ((n:Int)<=32)||decide (Lib.indexByte [34,39,40,41,92,127] n.toUInt8>=0))=urB (UInt8.ofNat n):=by decide+kernel
 have:=this c.toNat (Bb c);simp_all
theorem KZ {t:ze} (h:yf t=true) (e:(t.kind==1)=false) (h2:(t.kind==2)=false) (g:(t.kind==3)=false) (d:(t.kind==4)=false) (i:(t.kind==5)=false) (j:(t.kind==7)=false) (f:(t.kind==9)=false)
  (c:(t.kind==10)=false) (b:(t.kind==11)=false) (a:(t.kind==12)=false):13<=t.kind/\t.kind<=24:=by
 unfold yf at h
 grind
theorem NU: ∀n:Nat,n<12->(Pp ()).bind (fun a=>geti [a.e0,a.e1,a.e2,a.e3,a.e4,a.e5,a.e6,a.e7,a.e8,a.e9,a.e10,a.e11] (wu8 ((13+n:Int) - 13)))=some (ek (13+n:Int)):=by decide+kernel
theorem xL(k:Int):(ek k).length<=4:=by
 unfold ek;cases k==13<;>cases k==14<;>cases k==15<;>simp only[Ea,Da]<;>try (simp;done)
 grind
theorem aU{t:ze}{acc:Str}(x:yf t=true)(R:t.text.length<=5000)(h2:t.unit.length<=5000)(ha:acc.length<=60000):QQ (t,acc)=some (acc++txS t):=by
 have one: ∀q:Str,q.length<=90000->zD q.length 1 1=true:=fun q hq=>Vi (by omega) (by omega);have z: ∀l:Str,l.length<=5000->(ZQ l).length<=20000:=fun l hl=>by have:=Xl (l==[45]) (Qi l) l;unfold ZQ;omega
 unfold QQ txS;simp only[zg];cases H:t.kind==1 with
 |true=>simp only[Ea,Uo,Aa,rq (show t.text.length<=100000 by omega) (show acc.length<=100000000 by omega)]
 |false=>
 cases L:t.kind==2 with
 |true=> simp only[Ea,Da,Uo,Aa,rq (show t.text.length<=100000 by omega) (show acc.length<=100000000 by omega)];have:=z t.text R;rw[zA (one _ (by grind)),Oa]
 |false=>
 cases M:t.kind==3 with
 |true=> simp only[Ea,Da,Uo,Aa];rw[zA (one _ (by omega)),rq (by omega) (by grind),Oa];rfl
 |false=>
 cases Q:t.kind==4 with
 |true=>
  simp only[Ea,Da,Uo,Aa];cases t.flag with
  |true=> simp only[Ea,zh];rw[zA (one _ (by omega)),rq (by omega) (by grind),Oa];rfl
  |false=> simp only[Da,zh];rw[zA (one _ (by omega)),show(0:Int)=((0:Nat):Int)from rfl,AC (by omega) (by grind),Oa];rfl
 |false=>
 cases P:t.kind==5 with
 |true=>
  simp only[Ea,Da];have k:maxLen=9223372036854775807:=rfl;rw[zA (one _ (by omega)),zA (Ga (by omega))];have C:=Fs quoB t.text;rw[qD (XL (p:=quoB) (l:=t.text) (acc:=acc++[34]) (by omega) (by grind) (fun i a F y=> ?_) (fun a=> ?_))]
  ·rw[zA (one _ (by grind)),Oa,Oa];rfl
  ·have D:decide ((i:Int)<(t.text.length:Int))=true:=Ga (by omega);have A:decide ((0:Int)<=(i:Int))=true:=Ga (by omega);simp only[D,A,Sb,Ea,zR,Va,Sa F,Aa,Xp,uQ];cases quoB t.text[i]with
   |true=>simp only[Ea,Tk _ (show a.length<=1000000000 by omega),Aa,zh]
   |false=>simp only[Da,Ir,Aa,zA (Fg (show a.length+1<=2000000000 by omega)),zh]
  ·grind
 |false=>
 cases O:t.kind==7 with
 |true=>
  simp only[Ea,Da];have k:maxLen=9223372036854775807:=rfl;rw[zA (Vi (by grind) (by omega)),zA (Ga (by omega))];have C:=Fs urB t.text;rw[qD (XL (p:=urB) (l:=t.text) (acc:=acc++[117,114,108,40]) (by omega) (by grind) (fun i a F y=> ?_) (fun a=> ?_))]
  ·rw[zA (one _ (by grind)),Oa,Oa]
  ·have D:decide ((i:Int)<(t.text.length:Int))=true:=Ga (by omega);have A:decide ((0:Int)<=(i:Int))=true:=Ga (by omega);simp only[D,A,Sb,Ea,zR,Va,Sa F,Aa,Xp];rw[<-eQ];cases decide ((t.text[i].toNat:Int)<=32)with
   |true=>simp only[Ib,ZH,Aa,Ea,Ae,Tk _ (show a.length<=1000000000 by omega),zh]
   |false=>
    simp only[Xa,zS,Aa,Da,xc];cases decide (Lib.indexByte [34,39,40,41,92,127] t.text[i].toNat.toUInt8>=0)with
    |true=>simp only[Ea,Tk _ (show a.length<=1000000000 by omega),Aa,zh]
    |false=>simp only[Da,Ir,Aa,zA (Fg (show a.length+1<=2000000000 by omega)),zh]
  ·grind
 |false=>
 cases N:t.kind==9 with
 |true=> simp only[Ea,Da];rw[zA (Vi (by omega) (by omega))]
 |false=>
 have g:(t.kind==10||t.kind==11||t.kind==12)=true->rngS t=true/\(!(t.unit==[])==(t.kind==12))=true:=by intro Z;unfold yf at x;simp only[H,L,M,Q,P,O,N,Z,Bool.or_self,Da,Ea,Ca]at x;exact⟨x.1,x.2.1⟩
 have b:rngS t=true-> -1000000000000<=t.num/\t.num<=1000000000000:=by intro j;unfold rngS at j;simp only[Ca,Eb]at j;exact⟨j.1,j.2.1⟩
 cases s:t.kind==10 with
 |true=> obtain⟨u,w⟩:=b (g (by rw[s];rfl)).1;simp only[Ea,Da,nD u w _ (show acc.length<=80000 by omega),Aa]
 |false=>
 cases E:t.kind==11 with
 |true=>
  obtain⟨u,w⟩:=b (g (by grind)).1;have T:(numT t.num false).length<=25:=by
   have:=Dx (m:=t.num.natAbs) (by omega) false;unfold numT;rw[Ha];split
   ·grind
   ·grind
  simp only[Ea,Da,nD u w _ (show acc.length<=80000 by omega),Aa];rw[zA (one _ (by grind)),Oa]
 |false=>
 cases o:t.kind==12 with
 |true=>
  obtain⟨j,X⟩:=g (by grind);obtain⟨u,w⟩:=b j;rw[o]at X;have T:(numT t.num (!t.flag)).length<=25:=by
   have:=Dx (m:=t.num.natAbs) (by omega) (!t.flag);unfold numT;rw[Ha];split
   ·grind
   ·grind
  simp only[Ea,Da,nD u w _ (show acc.length<=80000 by omega),Aa];cases G:t.unit with
  |nil=>grind
  |cons c r=>
   rw[G,Ka]at h2;have h:geti (c::r) 0=some c:=rfl;have B:List.drop 1 (c::r)=r:=rfl;have f:decide (1<=((c::r:Str).length:Int))=true:=Ga (by grind);simp only[h,B,f,Ae,zR,Aa,nR,sO,qR,Uo];have v:(acc++numT t.num (!t.flag)).length<=100000000:=by rw[Ha];omega
   have d:=rq (l:=c::r) (acc:=acc++numT t.num (!t.flag)) (by grind) v;have e:Uf (c::r)=(bif (c==101||c==69)&&numS r&& !(List.isPrefixOf [45,45] r)then escC c++encW false 0 r else ZQ (c::r)):=rfl;rw[e];have Y:(c==101||c==69)=true->Zc ((c.toNat:Int),acc++numT t.num (!t.flag))=some (acc++numT t.num (!t.flag)++escC c):=fun _=>Tk c (by grind);cases S:c==101||c==69 with
   |false=> simp_all
   |true=>
    simp only[zS,Aa,Ea,Ab];cases J:numS r with
    |false=> simp_all
    |true=>
     simp only[zS,Aa,Ea,Ab];cases hp:List.isPrefixOf [45,45] r with
     |true=> simp only[Ib,Da,d,Aa];rw[Oa]
     |false=> simp only[Xa,Ea,Y S,Aa];have K:=Cs c;rw[show(0:Int)=((0:Nat):Int)from rfl,AC (by omega) (by rw[Ha,Ha];omega)];rw[Oa,Oa];rfl
 |false=>
 obtain⟨W,V⟩:=KZ x H L M Q P O N s E o;obtain⟨n,J⟩: ∃n:Nat,t.kind=13+(n:Int):=⟨(t.kind - 13).toNat,by omega⟩;have h:=NU n (by omega);rw[<-J]at h;have k:=xL t.kind;simp only[Da];have U:Pp ()=some ⟨[32],[60,33,45,45],[45,45,62],[58],[59],[44],[91],[93],[40],[41],[123],[125]⟩:=rfl;rw[U]at h ⊢;simp only[Aa]at h ⊢;rw[h];simp only[Aa];rw[zA (Vi (by omega) (by omega))]
theorem Lm{c:UInt8}(h0:c≠0)(h:c.toNat<128)(R:Str): ∃d t,escC c++R=92::d::t/\(d==10)=false/\zo (d::t)=([c],R):=by
 unfold escC;cases hg:decide (32<c.toNat)&&decide (c.toNat<127)&& !digB c&& !alB c with
 |true=>
  have hx:qY c=false/\(c==10)=false:=by
   have: ∀n:Nat,n<256->(decide (32<(UInt8.ofNat n).toNat)&&decide ((UInt8.ofNat n).toNat<127)&& !digB (UInt8.ofNat n)&& !alB (UInt8.ofNat n))=true->qY (UInt8.ofNat n)=false/\(UInt8.ofNat n==10)=false:=by decide+kernel
   have:=this c.toNat (Bb c);rw[Md]at this;exact this hg
  exact⟨c,R,rfl,hx.2,by show(if qY c then _ else _)=_;grind⟩
 |false=> obtain⟨d,t,e,hd,h10⟩:=iD (n:=c.toNat) (Bb c) ([32]++R);refine⟨d,t,by grind,h10,?_⟩;have hh:=PI (n:=c.toNat) (Bb c) R;rw[show(32::R:Str)=[32]++R from rfl,e]at hh;show(if qY d then(Cg (hexes 6 0 (d::t)).1,unsp (hexes 6 0 (d::t)).2)else _)=_;rw[Ia hd,hh,GL h0 h];rfl
theorem dQ(n:Nat):Cg n≠[]:=by
 unfold Cg Rj
 grind
theorem vY(r:Str):(zo r).1≠[]:=by
 cases r with
 |nil=>show Rj≠[];decide
 |cons c r=>
  show(if qY c then(Cg (hexes 6 0 (c::r)).1,unsp (hexes 6 0 (c::r)).2)else([c],r)).1≠[];split
  ·exact dQ _
  ·simp
theorem Tx{x:Str}(h:(zm x).1=[]):(zm x).2=x:=by
 cases x with
 |nil=>rw[qA]
 |cons c r=>
  rw[zP]at h ⊢;split
  ·grind
  ·rename_i b;rw[Fa b]at h;split
   ·rename_i a;rw[Ia a]at h;exact absurd (List.append_eq_nil_iff.1 h).1 (vY r)
   ·rfl
theorem QG{c:UInt8}{r:Str}(h:Zt (c::r)=true):c≠0/\Zt r=true:=by
 unfold Zt at h ⊢
 grind
theorem DD{dash:Bool}(R:Str): ∀(k:Nat) (l:Str),Zt l=true->(dash=true-> ∀c∈l,c.toNat<128)->zm (encW dash k l++R)=(l++(zm R).1,(zm R).2)
 |_,[],_,_=>by rw[encW];rfl
 |k,c::r,h,a=>by obtain⟨f,d⟩:=QG h;rw[encW,Oa,kH f (fun e=>a e c (ib ..)),DD R (k - 1) r d (fun e x b=>a e x (Lb _ b))];rfl
theorem Xk{l:Str}(R:Str)(h:Zt l=true):zm (ZQ l++R)=(l++(zm R).1,(zm R).2):=by refine DD R _ _ h (fun e c a=> ?_);simp_all
theorem wK{l:Str}(R:Str)(k:Nat)(h:Zt l=true):zm (encW false k l++R)=(l++(zm R).1,(zm R).2):=DD R k l h (fun e=>by cases e)
theorem VW(c:UInt8):(quoB c=true->c.toNat<128)/\(quoB c=false->(c==34)=false/\(c==10)=false/\(c==92)=false):=by
 have: ∀n:Nat,n<256->(quoB (UInt8.ofNat n)=true->(UInt8.ofNat n).toNat<128)/\(quoB (UInt8.ofNat n)=false->(UInt8.ofNat n==34)=false/\(UInt8.ofNat n==10)=false/\(UInt8.ofNat n==92)=false):=by decide+kernel
 have:=this c.toNat (Bb c);simp_all
theorem iK(x:Str): ∀(l:Str),Zt l=true->zV 34 (encB quoB l++34::x)=(some l,x)
 |[],_=>by rw[encB,Xb,qV,Ia (by decide)]
 |c::r,h=>by
  obtain⟨f,k⟩:=QG h;have m:=iK x r k;obtain⟨p,j⟩:=VW c;rw[encB,Oa];cases a:quoB c with
  |true=>
   obtain⟨d,t,o,n,b⟩:=Lm f (p a) (encB quoB r++34::x);rw[Ea,o,qV,Fa (by decide),Fa (by decide),Ia (by decide),show(d::t).isEmpty=false from rfl,Fa (by decide),show atS (d::t) 0=d from rfl,n,Fa (by decide),b]
   grind
  |false=> obtain⟨g,i,e⟩:=j a;rw[Da,Uc,qV,g,Fa (by decide),i,Fa (by decide),e,Fa (by decide),m];rfl
theorem FJ(c:UInt8):(urB c=true->c.toNat<128)/\(urB c=false->(c==41)=false/\spB c=false/\(c==34||c==39||c==40||unB c)=false/\(c==92)=false/\(c==34)=false/\(c==39)=false):=by
 have: ∀n:Nat,n<256->(urB (UInt8.ofNat n)=true->(UInt8.ofNat n).toNat<128)/\(urB (UInt8.ofNat n)=false->(UInt8.ofNat n==41)=false/\spB (UInt8.ofNat n)=false/\(UInt8.ofNat n==34||UInt8.ofNat n==39||UInt8.ofNat n==40||unB (UInt8.ofNat n))=false/\(UInt8.ofNat n==92)=false/\(UInt8.ofNat n==34)=false/\(UInt8.ofNat n==39)=false):=by decide+kernel
 have:=this c.toNat (Bb c);simp_all
theorem gK(x:Str): ∀(l:Str),Zt l=true->urlS (encB urB l++41::x)=(some l,x)
 |[],_=>by rw[encB,Xb,Jj,Ia (by decide)]
 |c::r,h=>by
  obtain⟨g,n⟩:=QG h;have o:=gK x r n;obtain⟨s,k⟩:=FJ c;rw[encB,Oa];cases a:urB c with
  |true=>
   obtain⟨d,t,q,p,e⟩:=Lm g (s a) (encB urB r++41::x);have m:escS (92::d::t)=true:=by unfold escS;rw[show atS (92::d::t) 1=d from rfl,p];rfl
   rw[Ea,q,Jj,Fa (by decide),Fa (by decide),m,Fa (by decide),Ia (by decide),e]
   grind
  |false=> obtain⟨i,j,f,b,_,_⟩:=k a;rw[Da,Uc,Jj,i,Fa (by decide),j,Fa (by decide),f,b,Nb,He,Fa (by decide),Fa (by decide),o];rfl
theorem vU(x:Str)(l:Str)(h:Zt l=true):past spB (encB urB l++41::x)=encB urB l++41::x/\(atS (encB urB l++41::x) 0==34||atS (encB urB l++41::x) 0==39)=false:=by
 cases l with
 |nil=>exact⟨rfl,rfl⟩
 |cons c r=>
  obtain⟨b,q⟩:=QG h;obtain⟨k,f⟩:=FJ c;rw[encB,Oa];cases a:urB c with
  |true=> obtain⟨d,t,i,s,n⟩:=Lm b (k a) (encB urB r++41::x);rw[Ea,i];exact⟨rfl,rfl⟩
  |false=> obtain⟨p,e,o,m,j,g⟩:=f a;rw[Da,Uc];refine⟨by rw[past,e];rfl,?_⟩;show(c==34||c==39)=false;rw[j,g];rfl
theorem PT{n:Int}{p:Bool}:(partT (n.natAbs%1000) p).isEmpty=((n.natAbs%1000==0)&& !p):=(Aj (r:=n.natAbs%1000) (by omega) p).2.2.2.2
def sgT(n:Int):Str:=if n<0 then [45]else []
theorem uq(n:Int)(p:Bool):numT n p=sgT n++(Lib.decDigits (n.natAbs / 1000)++dotS (if(partT (n.natAbs%1000) p).isEmpty then none else some (partT (n.natAbs%1000) p))):=by
 have h:=(Aj (r:=n.natAbs%1000) (by omega) p).2.2.2.1;unfold numT Xf sgT;rw[h];cases (partT (n.natAbs%1000) p).isEmpty with
 |true=>rfl
 |false=>rfl
theorem q2_T(n:Int)(p:Bool)(x:Str):Cf (numT n p++x)=past digB (dotS (if(partT (n.natAbs%1000) p).isEmpty then none else some (partT (n.natAbs%1000) p))++x):=by
 obtain⟨d,f,g⟩:=Jo (n.natAbs / 1000);obtain⟨c,r,e,a⟩:=Js (n.natAbs / 1000);rw[uq];generalize dotS _=t;unfold Cf;have b:unsign ((sgT n++(Lib.decDigits (n.natAbs / 1000)++t))++x)=Lib.decDigits (n.natAbs / 1000)++(t++x):=by
  unfold sgT;split
  ·rw[Oa,Uc,Oa];rfl
  ·rw[Xb,Oa,e,Ta];unfold unsign Jf;rw[show atS (c::(r++(t++x))) 0=c from rfl,Ja.2 (QP a).2.1,Ja.2 (QP a).1];rfl
 rw[b,lw _ _ d]
theorem XC{n:Int}{p:Bool}:(partT (n.natAbs%1000) p).all digB=true:=(Aj (r:=n.natAbs%1000) (by omega) p).1
theorem vB{n:Int}{p:Bool}(h:(partT (n.natAbs%1000) p).isEmpty=true)(x:Str):zI (numT n p++x)=(match expS (Za (past digB x)).1 with|some r=>(r,false)|none=>Za (past digB x)):=by rw[Qy,q2_T,h];rfl
theorem iA{n:Int}{p:Bool}(h:(partT (n.natAbs%1000) p).isEmpty=false)(x:Str):zI (numT n p++x)=(match expS (past digB x)with|some r=>(r,false)|none=>(past digB x,false)):=by
 obtain⟨c,r,b⟩: ∃c r,partT (n.natAbs%1000) p=c::r:=by
  cases f:partT (n.natAbs%1000) p with
  |nil=>grind
  |cons c r=>grind
 have a:=XC (n:=n) (p:=p);rw[Qy,q2_T,h];have e:past digB (dotS (some (partT (n.natAbs%1000) p))++x)=46::(partT (n.natAbs%1000) p++x):=rfl;rw[show(if false=true then none else some (partT (n.natAbs%1000) p))=some (partT (n.natAbs%1000) p)from rfl,e];have g:Za (46::(partT (n.natAbs%1000) p++x))=(past digB x,false):=by
  have d:digB c=true:=by rw[b,Nc,Ca]at a;exact a.1
  unfold Za;rw[show atS (46::(partT (n.natAbs%1000) p++x)) 1=c by rw[b];rfl,d,show(atS (46::(partT (n.natAbs%1000) p++x)) 0==46&&true)=true from rfl,Ia rfl];rw[show(46::(partT (n.natAbs%1000) p++x)).drop 1=partT (n.natAbs%1000) p++x from rfl,lw _ _ a]
 grind
theorem wF(n:Int)(p:Bool)(x:Str):nbS (numT n p++x)=true:=by
 obtain⟨c,r,b,a⟩:=Js (n.natAbs / 1000);rw[uq,b];unfold nbS;have d:unsign ((sgT n++(c::r++dotS (if(partT (n.natAbs%1000) p).isEmpty then none else some (partT (n.natAbs%1000) p))))++x)=c::(r++dotS (if(partT (n.natAbs%1000) p).isEmpty then none else some (partT (n.natAbs%1000) p))++x):=by
  unfold sgT;split
  ·rfl
  ·unfold unsign Jf;show(if(c==43||c==45)then _ else _)=_;rw[Ja.2 (QP a).2.1,Ja.2 (QP a).1];rfl
 rw[d];unfold undot;rw[show atS (c::(r++dotS (if(partT (n.natAbs%1000) p).isEmpty then none else some (partT (n.natAbs%1000) p))++x)) 0=c from rfl,Ja.2 (QP a).2.2.1,Fa (by decide)];exact a
theorem gy{n:Int}(c: -1000000000000<=n)(h2:n<=1000000000000){p:Bool}{x:Str}(f:(zI (numT n p++x)).1=x):(numP (numT n p++x)).val=n:=by
 have h:=GD (numT n p++x);rw[f]at h;have b:=LA (wF n p x);have d:=(cu c h2 p).1;have a:=D6 c h2 p;generalize numP (numT n p++x)=N at h b ⊢;have g:N.txt=numT n p:=(List.append_left_inj x).1 h;rw[<-g]at a d;have e:=uO b (Ub d (by decide));rw[a]at e
 grind
theorem Ll(n:Int)(p:Bool)(x:Str): ∃c r,numT n p++x=c::r/\(c==45||digB c)=true/\spB c=false/\(c==34||c==39)=false/\(c==35)=false/\c≠47:=by
 obtain⟨c,r,hc,hcd⟩:=Js (n.natAbs / 1000);have key: ∀d:UInt8,(d==45||digB d)=true->spB d=false/\(d==34||d==39)=false/\(d==35)=false/\d≠47:=by
  intro d;have: ∀n:Nat,n<256->(UInt8.ofNat n==45||digB (UInt8.ofNat n))=true->spB (UInt8.ofNat n)=false/\(UInt8.ofNat n==34||UInt8.ofNat n==39)=false/\(UInt8.ofNat n==35)=false/\UInt8.ofNat n≠47:=by decide+kernel
  have:=this d.toNat (Bb d)
  rwa [Md]at this
 rw[uq,hc];unfold sgT
 grind
theorem pq(n:Int)(p:Bool)(x:Str):Zy (numT n p++x)=zG (numT n p++x):=by obtain⟨c,r,e,g,f,d,b,h⟩:=Ll n p x;have a:=wF n p x;rw[e]at a ⊢;rw[Om,f,Fa (by decide),d,Fa (by decide),b,Nb,Fa (by decide),a,Ia rfl]
inductive ze5:ze->Prop
 |cId (l:Str) (h0:l≠[]) (h:Zt l=true):ze5 ⟨1,l,0,[],false⟩
 |cFn (l:Str) (h0:l≠[]) (h:Zt l=true):ze5 ⟨2,l,0,[],false⟩
 |cAt (l:Str) (h0:l≠[]) (h:Zt l=true):ze5 ⟨3,l,0,[],false⟩
 |cHash (l:Str) (f:Bool) (h0:l≠[]) (h:Zt l=true) (hb:f=true\/El l=true):ze5 ⟨4,l,0,[],f⟩
 |cStr (l:Str) (h:Zt l=true):ze5 ⟨5,l,0,[],false⟩
 |cUrl (l:Str) (h:Zt l=true):ze5 ⟨7,l,0,[],false⟩
 |cDel (c:UInt8) (h:Wh c.toNat=true):ze5 ⟨9,[c],0,[],false⟩
 |cNum (n:Int) (f:Bool) (h1: -1000000000000<=n) (h2:n<=1000000000000) (hf:f=true->Int.tmod n 1000=0):ze5 ⟨10,[],n,[],f⟩
 |cPct (n:Int) (h1: -1000000000000<=n) (h2:n<=1000000000000):ze5 ⟨11,[],n,[],false⟩
 |cDim (n:Int) (u:Str) (f:Bool) (h1: -1000000000000<=n) (h2:n<=1000000000000) (hf:f=true->Int.tmod n 1000=0) (h0:u≠[]) (h:Zt u=true):ze5 ⟨12,[],n,u,f⟩
 |cMark (k:Int) (h1:13<=k) (h2:k<=24):ze5 ⟨k,[],0,[],false⟩
theorem Pn{t:ze}(h:yf t=true):ze5 t:=by
 obtain⟨k,l,n,u,f⟩:=t;unfold yf at h;simp only at h;by_cases h1:(k==1||k==2||k==3)=true
 ·rw[h1,Ea]at h;simp only[Ca,Be,Ja,Db]at h;obtain⟨a,b,rfl,rfl,rfl⟩:=h;simp only[Jc,Db]at h1;rcases h1 with(rfl|rfl)|rfl
  ·exact .cId l a b
  ·exact .cFn l a b
  ·exact .cAt l a b
 ·rw[Bool.not_eq_true]at h1;rw[h1,Da]at h;by_cases h4:(k==4)=true
  ·rw[h4,Ea]at h;simp only[Ca,Be,Ja,Db,Jc]at h;obtain⟨a,b,c,rfl,rfl⟩:=h;rw[Db]at h4;subst h4;exact .cHash l f a b c
  ·rw[Bool.not_eq_true]at h4;rw[h4,Da]at h;by_cases h5:(k==5||k==7)=true
   ·rw[h5,Ea]at h;simp only[Ca,Be,Db]at h;obtain⟨b,rfl,rfl,rfl⟩:=h;simp only[Jc,Db]at h5;rcases h5 with rfl|rfl
    ·exact .cStr l b
    ·exact .cUrl l b
   ·rw[Bool.not_eq_true]at h5;rw[h5,Da]at h;by_cases h9:(k==9)=true
    ·rw[h9,Ea]at h;simp only[Ca,Be,Db]at h;obtain⟨b,rfl,rfl,rfl⟩:=h;rw[Db]at h9;subst h9;unfold delS at b;split at b
     ·exact .cDel _ b
     ·cases b
    ·rw[Bool.not_eq_true]at h9;rw[h9,Da]at h;by_cases h10:(k==10||k==11||k==12)=true
     ·rw[h10,Ea]at h;unfold rngS at h;simp only[Ca,Eb,Jc,Be,Db]at h;obtain⟨⟨a1,a2,a3⟩,a4,a5,a6,rfl⟩:=h;have hf:f=true->Int.tmod n 1000=0:=by
       intro e;rcases a3 with a3|a3
       ·grind
       ·exact a3
      simp only[Jc,Db]at h10;rcases h10 with(rfl|rfl)|rfl
      ·have:u=[]:=by
        cases u with
        |nil=>rfl
        |cons c r=>grind
       subst this;exact .cNum n f a1 a2 hf
      ·have:u=[]:=by
        cases u with
        |nil=>rfl
        |cons c r=>grind
       subst this;have:f=false:=by
        rcases a6 with a6|a6
        ·grind
        ·exact a6
       subst this;exact .cPct n a1 a2
      ·have:u≠[]:=by rintro rfl;exact absurd a4 (by decide)
       exact .cDim n u f a1 a2 hf this a5
     ·rw[Bool.not_eq_true]at h10;rw[h10,Da]at h;simp only[Ca,Be,Eb,Db]at h;obtain⟨⟨a1,a2⟩,rfl,rfl,rfl,rfl⟩:=h;exact .cMark k a1 a2
def neu(x:Str):Prop:=x=[]\/ ∃y,x=47::y
theorem FR{x:Str}(a:neu x)(c:UInt8)(r:Str):brS c (r++x)=brS c r:=by
 rcases a with rfl|⟨y,rfl⟩
 ·grind
 ·exact WG c r y
theorem Av{x:Str}(a:neu x)(q:Str):nmS (q++x)=nmS q:=by
 rcases a with rfl|⟨y,rfl⟩
 ·grind
 ·exact Mq q y
theorem Ux{x:Str}(a:neu x):zm x=([],x):=by
 rcases a with rfl|⟨y,rfl⟩
 ·exact qA
 ·rw[zP,Fa (by decide),show escS (47::y)=false from rfl,Fa (by decide)]
theorem CK{p:UInt8->Bool}(h:p 47=false){x:Str}(a:neu x):past p x=x:=by
 rcases a with rfl|⟨y,rfl⟩
 ·rfl
 ·rw[past,h];rfl
theorem KR{x:Str}(a:neu x):atS x 0=0\/atS x 0=47:=by
 rcases a with rfl|⟨y,rfl⟩
 ·exact .inl rfl
 ·exact .inr rfl
theorem kY(c:UInt8)(r:Str):Di (c::r)=((c==101||c==69)&&numS r&& !(List.isPrefixOf [45,45] r)):=rfl
theorem JX(b:UInt8)(r:Str):numS (b::r)=bif b==45 then !(r==[])&&digN (r.headD 0).toNat else digN b.toNat:=rfl
theorem iE{c:UInt8}{r:Str}(h:Di (c::r)=true):c=101\/c=69:=by
 unfold Di at h
 grind
theorem iV{d:UInt8}{t:Str}(h:(d==10)=false):escS (92::d::t)=true:=by unfold escS;rw[show atS (92::d::t) 1=d from rfl,h];rfl
theorem Rp(c:UInt8)(r:Str):Uf (c::r)=bif Di (c::r)then escC c++encW false 0 r else ZQ (c::r):=rfl
theorem lD{w:Str}(f:w≠[])(h:Zt w=true)(x:Str):zm (Uf w++x)=(w++(zm x).1,(zm x).2):=by
 cases w with
 |nil=>grind
 |cons c r=>
  obtain⟨a,e⟩:=QG h;rw[Rp];cases b:Di (c::r)with
  |true=>
   have d:c.toNat<128:=by rcases iE b with rfl|rfl<;>decide
   rw[Ea,Oa,vJ a d,wK x 0 e];rfl
  |false=>rw[Da];exact Xk x h
theorem MB{w:Str}(i:w≠[])(h:Zt w=true):nmS (Uf w)=true:=by
 cases w with
 |nil=>grind
 |cons c r=>
  obtain⟨a,j⟩:=QG h;rw[Rp];cases e:Di (c::r)with
  |true=>
   have f:c.toNat<128:=by rcases iE e with rfl|rfl<;>decide
   obtain⟨d,t,b,g,_⟩:=Lm a f (encW false 0 r);rw[Ea,b];exact kG rfl (iV g)
  |false=>rw[Da];exact Bj (by simp)
theorem Ui{q:Str}(h:nmS q=true):q≠[]:=by rintro rfl;exact absurd h (by decide)
theorem FB{q:Str}(h:nmS q=true)(x:Str):past digB (q++x)=q++x/\Za (q++x)=(q++x,true):=by
 obtain⟨_,_,_,_,_,_,_,_,b,a,_⟩:=oq (dm h);cases q with
 |nil=>exact absurd rfl (Ui h)
 |cons c r=> refine⟨by rw[Ta,past,show digB c=false from a];rfl,?_⟩;unfold Za;rw[show atS ((c::r)++x) 0=c from rfl,show(c==46)=false from b];rfl
theorem IJ{w:Str}(h0:w≠[])(h:Zt w=true)(x:Str):expS (Uf w++x)=none\/ ∃e s,(e=101\/e=69)/\(s=[]\/s=[45])/\w=e::s/\Uf w=e::s:=by
 cases w with
 |nil=>grind
 |cons c r=>
  obtain⟨h1,h2⟩:=QG h;have he92: ∀t:Str,expS (92::t)=none:=fun t=>rfl;cases he:Di (c::r)with
  |true=>
   left;have hc:c.toNat<128:=by rcases iE he with rfl|rfl<;>decide
   obtain⟨d,t,e1,e2,_⟩:=Lm h1 hc (encW false 0 r++x);have:Uf (c::r)++x=92::d::t:=by rw[Rp,he,Ea,Oa,e1]
   grind
  |false=>
   have hu:Uf (c::r)=ZQ (c::r):=by rw[Rp,he,Da]
   rw[hu];have hn:ZQ (c::r)=pcW ((c::r:Str)==[45]) (Qi (c::r)) c++encW ((c::r:Str)==[45]) (Qi (c::r) - 1) r:=rfl;obtain⟨d,t,e,hd⟩:=kw (dash:=(c::r:Str)==[45]) (k:=Qi (c::r)) (by unfold Qi;split<;>omega) c (encW ((c::r:Str)==[45]) (Qi (c::r) - 1) r);rw[hn,e];rcases hd with⟨rfl,h3⟩|⟨rfl,h3,h4,h5,h6⟩
   ·grind
   ·by_cases hee:d=101\/d=69
    ·have hf:Qi (d::r)=1:=by rcases hee with rfl|rfl<;>rfl
     have hdash:((d::r:Str)==[45])=false:=h3;rw[hdash,hf]at h6;have h6':t=encW false 0 r:=h6;have hee':(d==101||d==69)=true:=by rcases hee with rfl|rfl<;>rfl
     cases r with
     |nil=>
      right;rw[encW]at h6'
      grind
     |cons d2 r2=>
      obtain⟨g1,g2⟩:=QG h2;have hnum:numS (d2::r2)=false:=by
       cases hq:numS (d2::r2)with
       |false=>rfl
       |true=>
        exfalso;rw[kY,hee',hq,Ab,Ab]at he;have hp:List.isPrefixOf [45,45] (d2::r2)=true:=by
         cases hh:List.isPrefixOf [45,45] (d2::r2)with
         |true=>rfl
         |false=>grind
        obtain⟨z,hz⟩:=Mg.1 hp;rw[<-hz]at hq;exact absurd hq (by show numS (45::45::z)≠true;unfold numS;simp[digN])
      have hgoal: ∀q:Str,digB (atS (unsign q) 0)=false->expS (d::q)=none:=by intro q hq;rw[Rk];show((d==101||d==69)&&digB (atS (unsign q) 0))=false;rw[hq,Pd]
      have hpc:encW false 0 (d2::r2)=pcW false 0 d2++encW false 0 r2:=rfl;by_cases h45:d2=45
      ·subst h45;have hp1:pcW false 0 45=[45]:=rfl;cases r2 with
       |nil=>
        right;rw[hpc,hp1,encW]at h6'
        grind
       |cons d3 r3=>
        left;obtain⟨k1,k2⟩:=QG g2;have hdg:digB d3=false:=by
         have:digN d3.toNat=false:=by have:=hnum;unfold numS at this;simpa using this
         exact this
        rw[Ta];refine hgoal _ ?_;rw[h6',hpc,hp1];show digB (atS (encW false 0 (d3::r3)++x) 0)=false;rw[show encW false 0 (d3::r3)=pcW false 0 d3++encW false 0 r3 from rfl];unfold pcW;cases hl:letB d3 with
        |true=>exact hdg
        |false=>
         rw[Nb,Nb,Da];have hc:d3.toNat<128:=by
          by_cases hc:d3.toNat<128
          ·exact hc
          ·rw[(uA hc).1]at hl;cases hl
         obtain⟨d4,t4,e4,_,_⟩:=Lm k1 hc (encW false 0 r3++x);rw[Oa,e4];rfl
      ·left;have hdg:digB d2=false:=by
        have:digN d2.toNat=false:=by have:=hnum;rw[JX,Ja.2 h45,Da]at this;exact this
        exact this
       rw[Ta];refine hgoal _ ?_;rw[h6',hpc];unfold pcW;cases hl:letB d2 with
       |true=>
        have hs:Jf d2=false:=by unfold Jf;rw[Ja.2 h45,He,Ja];rintro rfl;exact absurd hl (by decide)
        show digB (atS (if Jf d2 then _ else d2::_) 0)=false;rw[hs,Fa (by decide)];exact hdg
       |false=>
        rw[Nb,Nb,Da];have hc:d2.toNat<128:=by
         by_cases hc:d2.toNat<128
         ·exact hc
         ·rw[(uA hc).1]at hl;cases hl
        obtain⟨d4,t4,e4,_,_⟩:=Lm g1 hc (encW false 0 r2++x);rw[Oa,e4];rfl
    ·left;rw[Rk];have:(d==101||d==69)=false:=by rw[Je,Ja,Ja];exact not_or.1 hee
     rw[Ta,show atS (d::(t++x)) 0=d from rfl,this,Nb]
theorem bN{w:Str}(d:w≠[])(h:Zt w=true){x:Str}(a:neu x):expS (Uf w++x)=none:=by
 rcases IJ d h x with c|⟨e,s,i,b,_,f⟩
 ·exact c
 ·rw[f,Rk];have g:digB (atS (unsign (s++x)) 0)=false:=by
   rcases b with rfl|rfl
   ·rcases a with rfl|⟨y,rfl⟩<;>rfl
   ·rcases a with rfl|⟨y,rfl⟩<;>rfl
  grind
theorem PD{n:Int}{f:Bool}(a:f=true->Int.tmod n 1000=0):(partT (n.natAbs%1000) (!f)).isEmpty=f:=by
 rw[PT,Bool.not_not];cases f with
 |false=>grind
 |true=>
  grind
theorem tu{n:Int}{p:Bool}{z:Str}(b:past digB z=z)(h2:Za z=(z,true))(a:expS z=none):zI (numT n p++z)=(z,(partT (n.natAbs%1000) p).isEmpty):=by
 cases c:(partT (n.natAbs%1000) p).isEmpty with
 |true=>rw[vB c,b,h2];simp only[a]
 |false=>rw[iA c,b];simp only[a]
theorem lS{x:Str}(a:neu x):past digB x=x/\Za x=(x,true)/\expS x=none:=by
 rcases a with rfl|⟨y,rfl⟩
 ·exact⟨rfl,rfl,rfl⟩
 ·exact⟨rfl,rfl,rfl⟩
theorem DZ{q:Str}(h:[45,45,62].isPrefixOf q=true): ∃t,(zm q).2=62::t:=by obtain⟨t,rfl⟩:=Mg.1 h;refine⟨t,?_⟩;rw[show [45,45,62]++t=45::45::62::t from rfl,zP,Ia (by decide),zP,Ia (by decide),zP,Fa (by decide),Fa (by unfold escS;rw[show atS (62::t) 0=62 from rfl];simp)]
theorem Dw{c:UInt8}{r:Str}(h:nmS (c::r)=true)(u: ∀t,(zm (c::r)).2≠62::t):brS c r=7:=by
 obtain⟨i,b,g,d,f,p,a,v,s,l,k⟩:=oq (dm h);have o:[45,45,62].isPrefixOf (c::r)=false:=by
  cases j:[45,45,62].isPrefixOf (c::r)with
  |false=>rfl
  |true=>obtain⟨t,e⟩:=DZ j;grind
 have n:atS (c::r) 0=c:=rfl;rw[n]at i b g d f a;unfold brS;rw[i,Fa (by decide),b,g,Fa (by decide),d,Nb,Fa (by decide),uF h,Fa (by decide),o,Fa (by decide),vQ (q:=c::r) (m:=[33,45,45]) (show(60:UInt8)≠0 by decide) a,Fa (by decide),f,Nb,Fa (by decide),h,Ia rfl]
theorem VI{q z:Str}(h:nmS q=true)(i:atS z 0≠10):nmS (q++z)=true:=by
 have b:(atS z 0==10)=false:=Ja.2 i
 match q with
 |[]=>exact absurd h (by decide)
 |[c]=>
  unfold nmS at h ⊢;have f:atS ([c]++z) 0=c:=rfl;rw[show atS [c] 0=c from rfl]at h;rw[f];cases a:c==45 with
  |true=>rw[a,Ia rfl]at h;exact absurd (show(fstB 0||(0:UInt8)==45||escS [])=true from h) (by decide)
  |false=> rw[a,Fa (by decide)]at h;rw[Fa (by decide)];unfold escS at h ⊢;rw[show atS [c] 0=c from rfl,show atS [c] 1=0 from rfl]at h;rw[f,show atS ([c]++z) 1=atS z 0 from rfl,b];exact h
 |c::d::t=>
  unfold nmS at h ⊢;have f:atS ((c::d::t)++z) 0=c:=rfl;have g:atS ((c::d::t)++z) 1=d:=rfl;have j:((c::d::t)++z).drop 1=(d::t)++z:=rfl;rw[show atS (c::d::t) 0=c from rfl,show atS (c::d::t) 1=d from rfl,show(c::d::t:Str).drop 1=d::t from rfl]at h;rw[f,g,j];cases a:c==45 with
  |true=>
   rw[a,Ia rfl]at h;rw[Ia rfl];cases t with
   |nil=> unfold escS at h ⊢;rw[show atS [d] 0=d from rfl,show atS [d] 1=0 from rfl]at h;rw[show atS ([d]++z) 0=d from rfl,show atS ([d]++z) 1=atS z 0 from rfl,b];exact h
   |cons e t=>exact h
  |false=> rw[a,Fa (by decide)]at h;rw[Fa (by decide)];exact h
theorem yB(x:Str):zm (40::x)=([],40::x):=by rw[zP,Fa (by decide),Fa (by unfold escS;rw[show atS (40::x) 0=40 from rfl];simp)]
theorem XI{l:Str}(h:Zt l=true)(x:Str):zm (ZQ l++40::x)=(l,40::x):=by rw[Xk _ h,yB,Cb]
theorem Lh{q:Str}(h:q≠[]): ∃c r,q=c::r:=by
 cases q with
 |nil=>grind
 |cons c r=>grind
def Vg(f:Bool)(l:Str):Str:=bif f then ZQ l else encW false 0 l
theorem kM{f:Bool}{l:Str}(h:Zt l=true)(x:Str):zm (Vg f l++x)=(l++(zm x).1,(zm x).2):=by
 cases f with
 |true=>exact Xk x h
 |false=>exact wK x 0 h
theorem xW{f:Bool}{l:Str}(h0:l≠[])(h:Zt l=true)(hb:f=true\/El l=true):(letB (atS (Vg f l) 0)||escS (Vg f l))=true/\(f=true->nmS (Vg f l)=true)/\(f=false->nmS (Vg f l)=false):=by
 cases f with
 |true=>
  have hn:=Bj h0;obtain⟨c,r,e⟩:=Lh (Ui hn);refine⟨?_,fun _=>hn,fun e=>by cases e⟩;show(letB (atS (ZQ l) 0)||escS (ZQ l))=true;rw[e]at hn ⊢;rcases JK hn with h1|h1
  ·rw[show letB (atS (c::r) 0)=true from h1];rfl
  ·grind
 |false=>
  have hb':El l=true:=by rcases hb with hb|hb;cases hb;exact hb
  cases l with
  |nil=>grind
  |cons c r=>
   have hw:Vg false (c::r)=pcW false 0 c++encW false 0 r:=rfl;have hb2:(digN c.toNat||(c==45&&(r==[]||digN (r.headD 0).toNat)))=true:=hb';by_cases h45:c=45
   ·subst h45;rw[hw,show pcW false 0 45=[45]from rfl];refine⟨rfl,fun e=>by(cases e),fun _=> ?_⟩;cases r with
    |nil=>rfl
    |cons d t=>
     have hd:digB d=true:=hb2;have hp:pcW false 0 d=[d]:=by
      unfold pcW;have:letB d=true:=by unfold letB;rw[hd,Gg];rfl
      rw[this];rfl
     rw[show encW false 0 (d::t)=pcW false 0 d++encW false 0 t from rfl,hp];have hk: ∀n:Nat,n<256->digB (UInt8.ofNat n)=true->fstB (UInt8.ofNat n)=false/\(UInt8.ofNat n==45)=false/\(UInt8.ofNat n==92)=false:=by decide+kernel
     have:=hk d.toNat (Bb d);rw[Md]at this;obtain⟨k1,k2,k3⟩:=this hd;show(fstB d||d==45||escS (d::(encW false 0 t)))=false;unfold escS;rw[k1,k2,show atS (d::encW false 0 t) 0=d from rfl,k3];rfl
   ·have hd:digB c=true:=by
     have:digN c.toNat=true:=by rw[Ja.2 h45,Nb,He]at hb2;exact hb2
     exact this
    have hl:letB c=true:=by unfold letB;rw[hd,Gg];rfl
    have hp:pcW false 0 c=[c]:=by unfold pcW;rw[hl];rfl
    rw[hw,hp];refine⟨by rw[show letB (atS ([c]++encW false 0 r) 0)=letB c from rfl,hl];rfl,fun e=>by(cases e),fun _=> ?_⟩;have hk: ∀n:Nat,n<256->digB (UInt8.ofNat n)=true->fstB (UInt8.ofNat n)=false/\(UInt8.ofNat n==45)=false/\(UInt8.ofNat n==92)=false:=by decide+kernel
    have:=hk c.toNat (Bb c);rw[Md]at this;obtain⟨k1,k2,k3⟩:=this hd;unfold nmS escS;rw[show atS ([c]++encW false 0 r) 0=c from rfl,k2,Fa (by decide),k1,k3];rfl
theorem yQ(c:UInt8)(h:Wh c.toNat=true)(h2:c≠92):brS c []=8:=by
 have: ∀n:Nat,n<256->Wh (UInt8.ofNat n).toNat=true->UInt8.ofNat n≠92->brS (UInt8.ofNat n) []=8:=by decide+kernel
 have:=this c.toNat (Bb c);simp_all
theorem KT(x:Str):past digB (37::x)=37::x/\Za (37::x)=(37::x,true)/\expS (37::x)=none:=⟨rfl,rfl,rfl⟩
theorem mJ{n:Int}{u:Str}{p:Bool}(x:Str):(numT n p++Uf u)++x=numT n p++(Uf u++x):=Oa ..
theorem xB{c:UInt8}{r x:Str}(a:neu x):Zy (c::(r++x))=nxB (brS c r) c (r++x):=by rw[qE,FR a]
theorem BK{n:Int}(b: -1000000000000<=n)(h2:n<=1000000000000)(x:Str):Zy ((numT n false++[37])++x)=(⟨11,[],n,[],false⟩,x):=by rw[Oa,Uc];obtain⟨c,e,d⟩:=KT x;have a:=tu (n:=n) (p:=false) c e d;have f:=gy b h2 (p:=false) (x:=37::x) (by rw[a]);rw[pq];unfold zG;rw[a,f,Fa (by unfold nmS escS;rw[show atS (37::x) 0=37 from rfl];simp[fstB,alB]),Ia (by rfl)];rfl
theorem yI{l:Str}(d:l≠[])(h:Zt l=true)(hu:(lowS l==[117,114,108])=false)(x:Str):Zy ((ZQ l++[40])++x)=(⟨2,l,0,[],false⟩,x):=by rw[Oa,Uc];have b:=VI (z:=40::x) (Bj d) (by show(40:UInt8)≠10;decide);have a:=XI h x;obtain⟨c,r,e⟩:=Lh (Ui b);rw[e]at b a ⊢;rw[qE,Dw b (by grind),mh];unfold qC;rw[a];simp only;rw[Ia (by rfl),hu,Nb,Fa (by decide)];rfl
theorem UC{l:Str}(h:Zt l=true)(x:Str):Zy ((34::(encB quoB l++[34]))++x)=(⟨5,l,0,[],false⟩,x):=by rw[Ta,Oa,Uc,qE,show brS 34 (encB quoB l++34::x)=1 from rfl,Kq,iK x l h];rfl
theorem EJ{l:Str}(h:Zt l=true)(x:Str):Zy (([117,114,108,40]++(encB urB l++[41]))++x)=(⟨7,l,0,[],false⟩,x):=by
 have e:([117,114,108,40]++(encB urB l++[41]))++x=117::114::108::40::(encB urB l++41::x):=by simp
 obtain⟨c,b⟩:=vU x l h;have a:zm (117::114::108::40::(encB urB l++41::x))=([117,114,108],40::(encB urB l++41::x)):=by rw[zP,Ia (by decide),zP,Ia (by decide),zP,Ia (by decide),yB]
 rw[e,qE,Dw (by rfl) (by grind),mh];unfold qC;rw[a];simp only;rw[Ia (by rfl),Kv,show(40::(encB urB l++41::x)).drop 1=encB urB l++41::x from rfl,c,b,Ia (by decide),gK x l h];rfl
theorem TM{k:Int}(b:13<=k)(h2:k<=24)(x:Str):Zy (ek k++x)=(⟨k,[],0,[],false⟩,if k=13 then past spB x else x):=by
 have a:k=13\/k=14\/k=15\/k=16\/k=17\/k=18\/k=19\/k=20\/k=21\/k=22\/k=23\/k=24:=by omega
 rcases a with rfl|rfl|rfl|rfl|rfl|rfl|rfl|rfl|rfl|rfl|rfl|rfl<;>rfl
theorem nk(l:Str):txS ⟨1,l,0,[],false⟩=ZQ l:=by rw[txS];rfl
theorem Mj(l:Str):txS ⟨2,l,0,[],false⟩=ZQ l++[40]:=by rw[txS];rfl
theorem om(l:Str):txS ⟨3,l,0,[],false⟩=64::ZQ l:=by rw[txS];rfl
theorem dn(l:Str)(f:Bool):txS ⟨4,l,0,[],f⟩=35::Vg f l:=by rw[txS];rfl
theorem Jl(l:Str):txS ⟨5,l,0,[],false⟩=34::(encB quoB l++[34]):=by rw[txS];rfl
theorem Un(l:Str):txS ⟨7,l,0,[],false⟩=[117,114,108,40]++(encB urB l++[41]):=by rw[txS];rfl
theorem Bn(c:UInt8):txS ⟨9,[c],0,[],false⟩=[c]:=by rw[txS];rfl
theorem Wn(n:Int)(f:Bool):txS ⟨10,[],n,[],f⟩=numT n (!f):=by rw[txS];rfl
theorem Vn(n:Int):txS ⟨11,[],n,[],false⟩=numT n false++[37]:=by rw[txS];rfl
theorem ym(n:Int)(u:Str)(f:Bool):txS ⟨12,[],n,u,f⟩=numT n (!f)++Uf u:=by rw[txS];rfl
theorem bn{k:Int}(b:13<=k)(h2:k<=24):txS ⟨k,[],0,[],false⟩=ek k:=by
 have a:k=13\/k=14\/k=15\/k=16\/k=17\/k=18\/k=19\/k=20\/k=21\/k=22\/k=23\/k=24:=by omega
 rcases a with rfl|rfl|rfl|rfl|rfl|rfl|rfl|rfl|rfl|rfl|rfl|rfl<;>rfl
theorem wT{t:ze}(h:ze5 t)(hb: ¬(t.kind=9/\t.text=[92]))(hu:Og t=false){x:Str}(hx:neu x):Zy (txS t++x)=(t,x):=by
 have ha:=KR hx;have hn0:nmS x=false:=by have:=Av hx [];rw[Xb]at this;rw[this];rfl
 cases h with
 |cId l h0 h=>
  have hn:=Bj h0;have hnd:=Xk x h;rw[Ux hx,Cb]at hnd;obtain⟨c,r,e⟩:=Lh (Ui hn);rw[nk];have hr:=UW h;rw[e]at hn hr hnd ⊢;rw[Ta,xB hx,Dw hn (by grind),mh];unfold qC;rw[show c::(r++x)=(c::r)++x from rfl,hnd]
  grind
 |cFn l h0 h=>rw[Mj];exact yI h0 h (by unfold Og at hu;exact hu) x
 |cAt l h0 h=>
  have hnd:=Xk x h;rw[Ux hx,Cb]at hnd;rw[om,Ta];have hb6:brS 64 (ZQ l++x)=6:=by unfold brS;rw[Av hx,Bj h0];rfl
  rw[qE,hb6,Jq,hnd]
 |cHash l f h0 h hbb=>
  obtain⟨g1,g2,g3⟩:=xW h0 h hbb;have hnd:=kM (f:=f) h x;rw[Ux hx,Cb]at hnd;rw[dn,Ta];have hb2:brS 35 (Vg f l)=2:=by unfold brS;rw[g1];rfl
  have hf:nmS (Vg f l)=f:=by
   cases f with
   |true=>exact g2 rfl
   |false=>exact g3 rfl
  rw[xB hx,hb2,Bl,hnd,Av hx,hf]
 |cStr l h=>rw[Jl];exact UC h x
 |cUrl l h=>rw[Un];exact EJ h x
 |cDel c h=>
  have h92:c≠92:=by rintro rfl;exact hb ⟨rfl,rfl⟩
  rw[Bn,Ta,xB hx,yQ c h h92,Yu,Xb]
 |cNum n f h1 h2 hf=>
  obtain⟨e1,e2,e3⟩:=lS hx;have he:=tu (n:=n) (p:= !f) e1 e2 e3;rw[PD hf]at he;rw[Wn,pq];unfold zG;rw[gy h1 h2 (by rw[he]),he]
  grind
 |cPct n h1 h2=>rw[Vn];exact BK h1 h2 x
 |cDim n u f h1 h2 hf h0 h=> have hnm:=MB h0 h;obtain⟨e1,e2⟩:=FB hnm x;have he:=tu (n:=n) (p:= !f) e1 e2 (bN h0 h hx);rw[PD hf]at he;rw[ym,mJ,pq];unfold zG;rw[gy h1 h2 (by rw[he]),he];simp only;rw[Av hx,hnm,Ia rfl,lD h0 h,Ux hx,Cb]
 |cMark k h1 h2=> rw[bn h1 h2,TM h1 h2,CK (by decide) hx,ite_self]
def pI(t:ze)(x r:Str):Prop:=zI (numT t.num (!t.flag)++x)=(r,t.flag)/\nmS r=false/\(atS r 0==37)=false
def nT(x r:Str):Prop:= ∃s,(s=[]\/s=[45])/\digB (atS (unsign (s++x)) 0)=true/\nmS (past digB (unsign (s++x)))=true/\r=(zm (past digB (unsign (s++x)))).2
def dG(t:ze)(x r:Str):Prop:=r=x\/(t.kind=13/\r=past spB x)\/(t.kind=10/\pI t x r)\/(t.kind=12/\nT x r)
theorem jJ{w r:Str}(h:expS w=some r):(atS w 0=101\/atS w 0=69)/\digB (atS (unsign (w.drop 1)) 0)=true/\r=past digB (unsign (w.drop 1)):=by
 unfold expS at h
 grind
theorem iw{l a:Str}(h:l++a=l):a=[]:=by simp_all
theorem iC{a b:ze}(h:a=b):a.text=b.text:=by rw[h]
theorem GV{t:ze}(h:ze5 t)(hu:Og t=false){x:Str}(ht:(Zy (txS t++x)).1=t):dG t x (Zy (txS t++x)).2:=by
 cases h with
 |cId l h0 h=>
  left;have hn:=Bj h0;have hnd:=Xk x h;obtain⟨c,r,e⟩:=Lh (Ui hn);rw[nk]at ht ⊢;rw[e,Ta]at ht ⊢;have hbr:=Nk c (r++x);rw[ht]at hbr;have hbr':brS c (r++x)=7:=hbr.symm;rw[qE,hbr',mh]at ht ⊢;rw[show c::(r++x)=ZQ l++x by rw[e];rfl]at ht ⊢;unfold qC at ht ⊢;rw[hnd]at ht ⊢;simp only at ht ⊢;split at ht
  ·rename_i h40;exfalso;split at ht
   ·have:=congrArg ze.kind ht;rcases aC (urlS (past spB ((zm x).2.drop 1))).1 with hk|hk<;>rw[hk]at this<;>cases this
   grind
  ·rename_i h40;rw[Fa h40];have:=iC ht;exact Tx (iw this)
 |cFn l h0 h=> left;rw[Mj,yI h0 h (by unfold Og at hu;exact hu)]
 |cAt l h0 h=> left;rw[om,Ta]at ht ⊢;have hbr:=Nk 64 (ZQ l++x);rw[ht]at hbr;have hbr':brS 64 (ZQ l++x)=6:=hbr.symm;rw[qE,hbr',Jq,Xk x h]at ht ⊢;exact Tx (iw (iC ht))
 |cHash l f h0 h hbb=> left;rw[dn,Ta]at ht ⊢;have hbr:=Nk 35 (Vg f l++x);rw[ht]at hbr;have hbr':brS 35 (Vg f l++x)=2:=hbr.symm;rw[qE,hbr',Bl,kM h x]at ht ⊢;exact Tx (iw (iC ht))
 |cStr l h=>left;rw[Jl,UC h]
 |cUrl l h=>left;rw[Un,EJ h]
 |cDel c h=> left;rw[Bn,Ta]at ht ⊢;have hbr:=Nk c ([]++x);rw[ht]at hbr;have hbr':brS c ([]++x)=8:=hbr.symm;rw[qE,hbr',Yu,Xb]
 |cNum n f h1 h2 hf=>
  right;right;left;refine⟨rfl,?_⟩;rw[Wn,pq]at ht ⊢;unfold pI;show zI (numT n (!f)++x)=_/\_;unfold zG at ht ⊢
  grind
 |cPct n h1 h2=>left;rw[Vn,BK h1 h2]
 |cDim n u f h1 h2 hf h0 h=>
  have hnm:=MB h0 h;obtain⟨e1,e2⟩:=FB hnm x;rw[ym,mJ,pq]at ht ⊢;have plain:expS (Uf u++x)=none->(zG (numT n (!f)++(Uf u++x))).2=x:=by
   intro hexp;have he:=tu (n:=n) (p:= !f) e1 e2 hexp;unfold zG at ht ⊢;rw[he]at ht ⊢;simp only at ht ⊢;split at ht
   ·rename_i hn;rw[Ia hn];rw[lD h0 h]at ht ⊢;have:(u++(zm x).1)=u:=congrArg ze.unit ht;exact Tx (iw this)
   ·grind
  rcases IJ h0 h x with hx|⟨e,s,he,hs,_,hu'⟩
  ·left;exact plain hx
  ·cases hexp:expS (Uf u++x)with
   |none=>left;exact plain hexp
   |some z=>
    right;right;right;refine⟨rfl,s,hs,?_⟩;obtain⟨_,hd,hz⟩:=jJ hexp;have hdrop:(Uf u++x).drop 1=s++x:=by rw[hu'];rfl
    rw[hdrop]at hd hz;have hend:zI (numT n (!f)++(Uf u++x))=(z,false):=by
     cases hp:(partT (n.natAbs%1000) (!f)).isEmpty with
     |true=>rw[vB hp,e1,e2];simp only[hexp]
     |false=>rw[iA hp,e1];simp only[hexp]
    unfold zG at ht ⊢
    grind
 |cMark k h1 h2=>
  rw[bn h1 h2,TM h1 h2];by_cases hk:k=13
  ·right;grind
  ·left
   grind
end Go.Lv.VT
