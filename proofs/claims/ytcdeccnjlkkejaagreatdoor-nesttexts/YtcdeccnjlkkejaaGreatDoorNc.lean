/- What is read of a text, and of a longer one. -/
import Derived.Test.YtcdeccnjlkkejaaGreatDoorNb
import Derived.Test.YtcdeccnjlkkejaaGreatDoorLaw
import Derived.Test.YtcdeccnjlkkejaaGreatDoorNam
set_option linter.unusedSimpArgs false
set_option linter.unusedVariables false
namespace Go.Lv.VT
set_option maxRecDepth 100000
theorem Bi{q:Str}{n:Nat}(x:Str)(h:n<q.length):atS (q++x) n=atS q n:=by
 unfold atS
 grind
theorem nk{p:UInt8->Bool}(x:Str): ∀{q:Str},past p q≠[]->past p (q++x)=past p q++x
 |[],h=>absurd rfl h
 |c::r,h=>by
  rw[ma,past,past];rw[past]at h;cases a:p c with
  |true=>rw[a,La rfl]at h;rw[La rfl,La rfl];exact nk x h
  |false=>rfl
theorem XA{p:UInt8->Bool}(x:Str): ∀{q:Str},past p q≠[]->(q++x).takeWhile p=q.takeWhile p
 |[],h=>absurd rfl h
 |c::r,h=>by
  rw[ma,List.takeWhile_cons,List.takeWhile_cons];rw[past]at h;cases a:p c with
  |true=>rw[a,La rfl]at h;rw[La rfl,La rfl,XA x h]
  |false=>rfl
theorem mO(x:Str): ∀{k n:Nat} {l:Str},(hexes k n l).2≠[]->hexes k n (l++x)=((hexes k n l).1,(hexes k n l).2++x)
 |0,n,l,_=>rfl
 |k+1,n,[],h=>absurd rfl h
 |k+1,n,c::r,h=>by
  rw[ma,hexes,hexes];rw[hexes]at h;split
  ·rename_i a;rw[La a]at h;exact mO x h
  ·rfl
theorem zAj{l:Str}(x:Str)(h:l≠[]):unsp (l++x)=unsp l++x:=by
 cases l with
 |nil=>grind
 |cons c r=> show(if spB c then r++x else c::(r++x))=(if spB c then r else c::r)++x;split<;>rfl
theorem OD{r:Str}(x:Str)(h:(zq r).2≠[]):zq (r++x)=((zq r).1,(zq r).2++x):=by
 cases r with
 |nil=>exact absurd rfl h
 |cons c r=>
  have e: ∀t:Str,zq (c::t)=if Qd c then(ag (hexes 6 0 (c::t)).1,unsp (hexes 6 0 (c::t)).2)else([c],t):=fun t=>rfl;rw[ma,e,e];rw[e]at h;split
  ·rename_i b;rw[La b]at h;have a:(hexes 6 0 (c::r)).2≠[]:=by intro d;rw[d]at h;exact h rfl
   rw[show c::(r++x)=(c::r)++x from rfl,mO x a,zAj x a]
  ·rfl
theorem Fw{c:UInt8}{r:Str}(x:Str)(h:r≠[]\/c≠92):escS (c::(r++x))=escS (c::r):=by
 unfold escS;show(c==92&& !(atS (r++x) 0==10))=(c==92&& !(atS r 0==10));rcases h with h|h
 ·cases r with
  |nil=>grind
  |cons d t=>rfl
 grind
theorem Gs{q:Str}(x:Str)(h:(zm q).2≠[]):zm (q++x)=((zm q).1,(zm q).2++x):=by
 match q with
 |[]=>rw[qJ]at h;grind
 |c::r=>
  rw[ma,zF,zF];rw[zF]at h;cases f:letB c with
  |true=> rw[f,La rfl]at h;simp only[yc];rw[Gs x h]
  |false=>
   rw[f,Ga (by decide)]at h;simp only[Nc,Ce];cases a:escS (c::r)with
   |true=>
    rw[a,La rfl]at h;have g:(zq r).2≠[]:=by intro e;simp only[e,qJ]at h;exact h rfl
    have b:r≠[]:=by rintro rfl;exact g rfl
    rw[Fw x (.inl b),a];simp only[yc];rw[OD x g];have:=Za r;simp only;rw[Gs x h]
   |false=>
    have b:r≠[]\/c≠92:=by
     cases r with
     |nil=> right;rintro rfl;exact absurd a (by decide)
     |cons d t=>left;simp
    rw[Fw x b,a];grind
termination_by q.length
decreasing_by
 all_goals grind
theorem lC{m:UInt8}{q:Str}(x:Str)(h:(zV m q).2≠[]):zV m (q++x)=((zV m q).1,(zV m q).2++x):=by
 match q with
 |[]=>rw[jo]at h;grind
 |c::r=>
  rw[ma,qO,qO];rw[qO]at h;cases g:c==m with
  |true=>grind
  |false=>
   rw[g,Ga (by decide)]at h;simp only[Nc,Ce];cases k:c==10 with
   |true=>grind
   |false=>
    rw[k,Ga (by decide)]at h;simp only[Nc,Ce];cases b:c==92 with
    |false=> rw[b,Ga (by decide)]at h;simp only[Nc,Ce];rw[lC x h]
    |true=>
     rw[b,La rfl]at h;simp only[yc];cases f:r with
     |nil=>grind
     |cons d t=>
      rw[f]at h;have j:r.length=t.length+1:=by rw[f];rfl
      rw[ma,show(d::(t++x)).isEmpty=false from rfl,show(d::t).isEmpty=false from rfl];simp only[Nc,Ce];rw[show(d::t).isEmpty=false from rfl,Ga (by decide)]at h;rw[show atS (d::(t++x)) 0=atS (d::t) 0 from rfl];cases a:atS (d::t) 0==10 with
      |true=> rw[a,La rfl]at h;simp only[yc];exact lC (q:=t) x h
      |false=>
       rw[a,Ga (by decide)]at h;simp only[Nc,Ce];have i:(zq (d::t)).2≠[]:=by intro e;simp only[e,jo]at h;exact h rfl
       rw[show d::(t++x)=(d::t)++x from rfl,OD x i];have:=Za (d::t);simp only;rw[lC x h]
termination_by q.length
decreasing_by
 all_goals grind
theorem iA{q:Str}(x:Str)(h:badS q≠[]):badS (q++x)=badS q++x:=by
 match q with
 |[]=>rw[Yw]at h;grind
 |c::r=>
  rw[ma,Dx,Dx];rw[Dx]at h;cases f:c==41 with
  |true=>grind
  |false=>
   rw[f,Ga (by decide)]at h;simp only[Nc,Ce];cases a:escS (c::r)with
   |true=>
    rw[a,La rfl]at h;have d:(zq r).2≠[]:=by intro e;rw[e,Yw]at h;exact h rfl
    have b:r≠[]:=by rintro rfl;exact d rfl
    rw[Fw x (.inl b),a];simp only[yc];rw[OD x d];have:=Za r;exact iA x h
   |false=>
    rw[a,Ga (by decide)]at h;have b:r≠[]\/c≠92:=by left;rintro rfl;rw[Yw]at h;exact h rfl
    rw[Fw x b,a];simp only[Nc,Ce];exact iA x h
termination_by q.length
decreasing_by
 all_goals grind
theorem gF{q:Str}(x:Str)(h:(urlS q).2≠[]):urlS (q++x)=((urlS q).1,(urlS q).2++x):=by
 match q with
 |[]=>rw[Jo]at h;grind
 |c::r=>
  rw[ma,Bl,Bl];rw[Bl]at h;cases l:c==41 with
  |true=>grind
  |false=>
   rw[l,Ga (by decide)]at h;simp only[Nc,Ce];cases j:spB c with
   |true=>
    rw[j,La rfl]at h;simp only[yc];cases f:past spB r with
    |nil=>grind
    |cons d t=>
     rw[nk x (by rw[f];simp),f];rw[f]at h;simp only[ma]at h ⊢;cases a:d==41 with
     |true=>grind
     |false=> rw[a,Ga (by decide)]at h;simp only[Nc,Ce];rw[show d::(t++x)=(d::t)++x from rfl,iA x h]
   |false=>
    rw[j,Ga (by decide)]at h;simp only[Nc,Ce];have b:(c=92->r≠[])->escS (c::(r++x))=escS (c::r):=by
     intro k;refine Fw x ?_;by_cases e:c=92
     ·exact .inl (k e)
     ·exact .inr e
    have m:c=92->r≠[]:=by
     rintro rfl rfl;have o:escS [92]=true:=by decide
     rw[o,show((92:UInt8)==92&& !true)=false from rfl,Gf]at h;cases i:((92:UInt8)==34||(92:UInt8)==39||(92:UInt8)==40||unB 92)with
     |true=>exact absurd i (by decide)
     |false=> rw[i,Ga (by decide),La (by decide)]at h;exact absurd (by show(urlS (zq []).2).2=[];rw[show(zq []).2=[]from rfl,Jo]) h
    rw[b m];cases a:c==34||c==39||c==40||unB c||c==92&& !escS (c::r)with
    |true=> rw[a,La rfl]at h;simp only[yc];rw[show c::(r++x)=(c::r)++x from rfl,iA x h]
    |false=>
     rw[a,Ga (by decide)]at h;simp only[Nc,Ce];cases g:c==92 with
     |true=>
      rw[g,La rfl]at h;simp only[yc];have n:(zq r).2≠[]:=by intro e;simp only[e,Jo]at h;exact h rfl
      rw[OD x n];have:=Za r;simp only;rw[gF x h]
     |false=> rw[g,Ga (by decide)]at h;simp only[Nc,Ce];rw[gF x h]
termination_by q.length
decreasing_by
 all_goals grind
theorem Um{q:Str}(x:Str)(h:q≠[]):unsign (q++x)=unsign q++x/\sgOf (q++x)=sgOf q:=by
 cases q with
 |nil=>grind
 |cons c r=> unfold unsign sgOf;show(if Xf c then r++x else c::(r++x))=(if Xf c then r else c::r)++x/\_;refine⟨by split<;>rfl,rfl⟩
def Mf(q:Str):Str:=past digB (unsign q)
theorem OO{q x:Str}(h:(zP q).1≠[])(f:q=[46]->digB (atS x 0)=false):zP (q++x)=((zP q).1++x,(zP q).2)/\dotP (q++x)=dotP q:=by
 unfold zP dotP;unfold zP at h;cases q with
 |nil=>exact absurd rfl h
 |cons c r=>
  have g:(atS ((c::r)++x) 0==46&&digB (atS ((c::r)++x) 1))=(atS (c::r) 0==46&&digB (atS (c::r) 1)):=by
   show(c==46&&digB (atS (r++x) 0))=(c==46&&digB (atS r 0));cases r with
   |nil=>
    cases a:c==46 with
    |false=>rfl
    |true=> rw[Rb]at a;subst a;show(true&&digB (atS x 0))=(true&&digB (atS [] 0));rw[f rfl];rfl
   |cons d t=>rfl
  rw[g];cases e:(atS (c::r) 0==46&&digB (atS (c::r) 1))with
  |false=>grind
  |true=>
   rw[e,La rfl]at h;simp only[yc];rw[show((c::r)++x).drop 1=r++x from rfl,show(c::r).drop 1=r from rfl];have b:past digB r≠[]:=h;rw[nk x b,XA x b]
   grind
theorem zBx{w x:Str}(hw:w≠[])(h: ∀r,expS w=some r->r≠[])(hn:expS w=none->expS (w++x)=none):
  expS (w++x)=(expS w).map (· ++x)/\expP (w++x)=expP w:=by
 have hP: ∀q:Str,expP q=if(expS q).isSome then some (atS q 0,sgOf (q.drop 1),(unsign (q.drop 1)).takeWhile digB)else none:=by
  intro q;unfold expP expS;cases atS q 0==101||atS q 0==69 with
  |false=>rfl
  |true=>
   grind
 cases he:expS w with
 |none=>
  grind
 |some r=>
  have hr:=h r he;cases w with
  |nil=>grind
  |cons c t=>
   have he':=he;unfold expS at he';cases h1:atS (c::t) 0==101||atS (c::t) 0==69 with
   |false=>grind
   |true=>
    rw[h1,La rfl]at he';cases h2:digB (atS (unsign ((c::t).drop 1)) 0)with
    |false=>grind
    |true=>
     rw[h2,La rfl]at he';have hrr:past digB (unsign t)=r:=by injection he'
     have ht:t≠[]:=by rintro rfl;exact absurd (show digB (atS (unsign []) 0)=true from h2) (by decide)
     obtain⟨u1,u2⟩:=Um x ht;have hun:unsign t≠[]:=by intro e;rw[show(c::t).drop 1=t from rfl,e]at h2;exact absurd h2 (by decide)
     have hexp:expS ((c::t)++x)=some (r++x):=by unfold expS;rw[show atS ((c::t)++x) 0=atS (c::t) 0 from rfl,h1,La rfl,show((c::t)++x).drop 1=t++x from rfl,u1];have:atS (unsign t++x) 0=atS (unsign t) 0:=Bi x (Ie.2 hun);rw[this,show digB (atS (unsign t) 0)=true from h2,La rfl,nk x (by grind),hrr]
     refine⟨by rw[hexp];rfl,?_⟩;rw[hP,hP,hexp,he];simp only[Option.isSome_some,yc];rw[show((c::t)++x).drop 1=t++x from rfl,show(c::t).drop 1=t from rfl,u1,u2,XA x (by grind)];rfl
theorem QE(q:Str):zB q=(match expS (zP (Mf q)).1 with|some r=>(r,false)|none=>zP (Mf q)):=rfl
theorem SF{q x:Str}(h:(zB q).1≠[])(j:Mf q=[46]->digB (atS x 0)=false)(l:expS (zP (Mf q)).1=none->expS ((zP (Mf q)).1++x)=none):
  zB (q++x)=((zB q).1++x,(zB q).2)/\numP (q++x)=numP q:=by
 rw[QE]at h;have a: ∀r,expS (zP (Mf q)).1=some r->r≠[]:=by intro r p;rw[p]at h;exact h
 have b:(zP (Mf q)).1≠[]:=by intro e;rw[e,show expS []=none from rfl]at h;exact h e
 have c:Mf q≠[]:=by intro e;rw[e]at b;exact b rfl
 have n:q≠[]:=by rintro rfl;exact c rfl
 obtain⟨d,k⟩:=Um x n;have f:Mf (q++x)=Mf q++x:=by unfold Mf;rw[d];exact nk x c
 obtain⟨i,m⟩:=OO b j;obtain⟨s,o⟩:=zBx b a l;have g: ∀z:Str,numP z=⟨sgOf z,(unsign z).takeWhile digB,dotP (Mf z),expP (zP (Mf z)).1⟩:=fun z=>rfl;constructor
 ·rw[QE,QE,f,i]
  grind
 ·rw[g,g,k,d,XA x c,f,i,m,o]
def brS(c:UInt8)(r:Str):Nat:=
 if spB c then 0
 else if c==34||c==39 then 1
 else if c==35&&(letB (atS r 0)||escS r)then 2
 else if nbS (c::r)then 3
 else if [45,45,62].isPrefixOf (c::r)then 4
 else if [60,33,45,45].isPrefixOf (c::r)then 5
 else if c==64&&nmS r then 6
 else if nmS (c::r)then 7
 else if Ng c==0 then 8
 else 9
def nxB:Nat->UInt8->Str->zb×Str
 |0,c,r=>(yg 13,past spB (c::r))
 |1,c,r=>(Vi (zV c r).1,(zV c r).2)
 |2,_,r=>(⟨4,(zm r).1,0,[],nmS r⟩,(zm r).2)
 |3,c,r=>zA (c::r)
 |4,c,r=>(yg 15,(c::r).drop 3)
 |5,c,r=>(yg 14,(c::r).drop 4)
 |6,_,r=>(⟨3,(zm r).1,0,[],false⟩,(zm r).2)
 |7,c,r=>qz (c::r)
 |8,c,r=>(⟨9,[c],0,[],false⟩,r)
 |_+9,c,r=>(yg (Ng c),r)
theorem Cz(c:UInt8)(r:Str):nxB 0 c r=(yg 13,past spB (c::r)):=by rw[nxB]
theorem Rp(c:UInt8)(r:Str):nxB 1 c r=(Vi (zV c r).1,(zV c r).2):=by rw[nxB]
theorem Sl(c:UInt8)(r:Str):nxB 2 c r=(⟨4,(zm r).1,0,[],nmS r⟩,(zm r).2):=by rw[nxB]
theorem si(c:UInt8)(r:Str):nxB 3 c r=zA (c::r):=by rw[nxB]
theorem UK(c:UInt8)(r:Str):nxB 4 c r=(yg 15,(c::r).drop 3):=by rw[nxB]
theorem TK(c:UInt8)(r:Str):nxB 5 c r=(yg 14,(c::r).drop 4):=by rw[nxB]
theorem Pp(c:UInt8)(r:Str):nxB 6 c r=(⟨3,(zm r).1,0,[],false⟩,(zm r).2):=by rw[nxB]
theorem Ri(c:UInt8)(r:Str):nxB 7 c r=qz (c::r):=by rw[nxB]
theorem Du(c:UInt8)(r:Str):nxB 8 c r=(⟨9,[c],0,[],false⟩,r):=by rw[nxB]
theorem Bz(c:UInt8)(r:Str):nxB 9 c r=(yg (Ng c),r):=rfl
theorem qh(c:UInt8)(r:Str):Zl (c::r)=nxB (brS c r) c r:=by
 rw[Gt];unfold brS;split
 ·rfl
 ·split
  ·rfl
  ·split
   ·rfl
   ·split
    ·rfl
    ·split
     ·rfl
     ·split
      ·rfl
      ·split
       ·rfl
       ·split
        ·rfl
        ·split<;>rfl
theorem br_4{c:UInt8}{r:Str}:brS c r=4->[45,45,62].isPrefixOf (c::r)=true:=by unfold brS;grind
theorem br_5{c:UInt8}{r:Str}:brS c r=5->[60,33,45,45].isPrefixOf (c::r)=true:=by unfold brS;grind
theorem br_9{c:UInt8}{r:Str}:brS c r=9-> ¬(Ng c==0)=true:=by unfold brS;grind
theorem JK(c:UInt8)(r:Str):brS c r<=9:=by unfold brS;grind
def brK(k:Int):Nat:=
 if k=13 then 0 else if k=5\/k=6 then 1 else if k=4 then 2 else if k=10\/k=11\/k=12 then 3 else if k=15 then 4 else if k=14 then 5 else if k=3 then 6
 else if k=1\/k=2\/k=7\/k=8 then 7 else if k=9 then 8 else 9
theorem NW(c:UInt8):Ng c=0\/(16<=Ng c/\Ng c<=24):=by
 have: ∀n:Nat,n<256->Ng (UInt8.ofNat n)=0\/(16<=Ng (UInt8.ofNat n)/\Ng (UInt8.ofNat n)<=24):=by decide+kernel
 have:=this c.toNat (Fb c);simp_all
theorem AX(o:Option Str):(Vi o).kind=5\/(Vi o).kind=6:=by cases o<;>simp[Vi]
theorem GG(o:Option Str):(Ti o).kind=7\/(Ti o).kind=8:=by cases o<;>simp[Ti]
theorem J6(l:Str):(qz l).1.kind=1\/(qz l).1.kind=2\/(qz l).1.kind=7\/(qz l).1.kind=8:=by
 unfold qz;split
 ·split
  ·exact .inr (.inr (GG _))
  grind
 ·exact .inl rfl
theorem O9(l:Str):(zA l).1.kind=10\/(zA l).1.kind=11\/(zA l).1.kind=12:=by
 unfold zA
 grind
theorem LK{i:Nat}(h:i<=9):i=0\/i=1\/i=2\/i=3\/i=4\/i=5\/i=6\/i=7\/i=8\/i=9:=by omega
theorem Im(c:UInt8)(r:Str):brK (Zl (c::r)).1.kind=brS c r:=by
 rw[qh];rcases LK (JK c r)with h|h|h|h|h|h|h|h|h|h
 ·rw[h];rfl
 ·rw[h,Rp];show brK (Vi (zV c r).1).kind=1;rcases AX (zV c r).1 with h|h<;>rw[h]<;>rfl
 ·rw[h];rfl
 ·rw[h,si];rcases O9 (c::r)with h|h|h<;>rw[h]<;>rfl
 ·rw[h];rfl
 ·rw[h];rfl
 ·rw[h];rfl
 ·rw[h,Ri];rcases J6 (c::r)with h|h|h|h<;>rw[h]<;>rfl
 ·rw[h];rfl
 ·have b:=NW c;have a:=br_9 h;rw[Rb]at a;rw[h,Bz];show brK (Ng c)=9;unfold brK
  repeat rw[Ga (by omega)]
theorem cZ{q x:Str}(h:(qz q).2≠[]):qz (q++x)=((qz q).1,(qz q).2++x):=by
 have g:(zm q).2≠[]:=by intro e;unfold qz at h;rw[e,Ga (by decide)]at h;exact h rfl
 have e:=Gs x g;unfold qz;unfold qz at h;rw[e];simp only;have i:atS ((zm q).2++x) 0=atS (zm q).2 0:=Bi x (Ie.2 g);rw[i];cases b:atS (zm q).2 0==40 with
 |false=>rfl
 |true=>
  rw[b,La rfl]at h;simp only[yc];cases f:(zm q).2 with
  |nil=>grind
  |cons c r=>
   rw[f]at h;rw[show((c::r)++x).drop 1=r++x from rfl];rw[show(c::r).drop 1=r from rfl]at h ⊢;cases j:lowS (zm q).1==[117,114,108]with
   |false=>
    grind
   |true=>
    rw[j,Sb]at h;simp only[Sb];cases a:past spB r with
    |nil=>
     rw[a,La (by decide),Jo]at h
     grind
    |cons d t=>
     rw[nk x (by rw[a];simp),a];rw[a]at h;rw[show atS ((d::t)++x) 0=atS (d::t) 0 from rfl];split
     ·rename_i k;rw[La k]at h;rw[gF x h]
     ·rfl
theorem Xr{q x:Str}{n:Nat}(h:n<=q.length):(q++x).drop n=q.drop n++x:=List.drop_append_of_le_length h
structure zkp (q x:Str):Prop where
 e:zB (q++x)=((zB q).1++x,(zB q).2)
 p:numP (q++x)=numP q
 n:nmS ((zB q).1++x)=nmS (zB q).1
theorem H7{q x:Str}(a:zkp q x)(h:(zA q).2≠[]):zA (q++x)=((zA q).1,(zA q).2++x):=by
 have f:(zB q).1≠[]:=by intro e;unfold zA at h;rw[e,Ga (by decide),Ga (by decide)]at h;exact h rfl
 have b:atS ((zB q).1++x) 0=atS (zB q).1 0:=Bi x (Ie.2 f);unfold zA;unfold zA at h;rw[a.e,a.p];simp only[a.n,b];cases c:nmS (zB q).1 with
 |true=> rw[c,La rfl]at h;simp only[yc];rw[Gs x h]
 |false=>
  simp only[Nc,Ce];cases d:atS (zB q).1 0==37 with
  |true=> simp_all
  |false=>grind
theorem yB {c:UInt8} {r x:Str} (f:brS c (r++x)=brS c r) (h:(Zl (c::r)).2≠[]) (e:brS c r=2->nmS (r++x)=nmS r)
  (b:brS c r=3->zkp (c::r) x):Zl (c::(r++x))=((Zl (c::r)).1,(Zl (c::r)).2++x):=by
 rw[qh c (r++x),f];rw[qh]at h ⊢;rcases LK (JK c r)with a|a|a|a|a|a|a|a|a|a
 ·rw[a,Cz]at h;rw[a,Cz,Cz,show c::(r++x)=(c::r)++x from rfl,nk x h]
 ·rw[a,Rp]at h;rw[a,Rp,Rp,lC x h]
 ·rw[a,Sl]at h;rw[a,Sl,Sl,Gs x h,e a]
 ·have g:=b a;rw[a,si]at h;rw[a,si,si,show c::(r++x)=(c::r)++x from rfl,H7 g h]
 ·have d:=Am (br_4 a);rw[a,UK,UK,show c::(r++x)=(c::r)++x from rfl,Xr (show 3<=(c::r).length from d)]
 ·have d:=Am (br_5 a);rw[a,TK,TK,show c::(r++x)=(c::r)++x from rfl,Xr (show 4<=(c::r).length from d)]
 ·rw[a,Pp]at h;rw[a,Pp,Pp,Gs x h]
 ·rw[a,Ri]at h;rw[a,Ri,Ri,show c::(r++x)=(c::r)++x from rfl,cZ h]
 ·rw[a,Du,Du]
 ·rw[a,Bz,Bz]
theorem sN{q:Str}(x:Str)(h:q≠[]):undot (q++x)=undot q++x:=by
 cases q with
 |nil=>grind
 |cons c r=> unfold undot;show(if c==46 then r++x else c::(r++x))=(if c==46 then r else c::r)++x;split<;>rfl
theorem kX(q:Str):q.length<=(undot q).length+1:=by
 unfold undot
 grind
theorem XI(q:Str):q.length<=(unsign q).length+1:=by
 unfold unsign
 grind
theorem Oo{q:Str}(h:1<=q.length):q≠[]:=by grind
theorem zDl{q:Str}(x:Str)(h:3<=q.length):nbS (q++x)=nbS q:=by have b:=XI q;have a:=kX (unsign q);unfold nbS;rw[(Um x (Oo (by omega))).1,sN x (Oo (by omega)),Bi x (by omega)]
theorem nz{q:Str}(x:Str)(h:3<=q.length):nmS (q++x)=nmS q:=by unfold nmS escS;rw[Xr (by omega),Bi x (show 0<q.length by omega),Bi x (show 1<q.length by omega),Bi x (show 0<(q.drop 1).length by grind),Bi x (show 1<(q.drop 1).length by grind)]
theorem Dr{m:Str}: ∀{q:Str} (x:Str),m.length<=q.length->m.isPrefixOf (q++x)=m.isPrefixOf q:=by
 induction m with
 |nil=>grind
 |cons a m c=>
  intro q x h;cases q with
  |nil=>grind
  |cons b t=>
   grind
theorem zCQ{c:UInt8}{r:Str}(x:Str)(h:4<=r.length):brS c (r++x)=brS c r:=by
 have e:c::(r++x)=(c::r)++x:=rfl;have hl:(c::r).length=r.length+1:=rfl;unfold brS;rw[e,zDl x (by omega),Dr x (by grind),Dr x (by grind),nz x (q:=r) (by omega),nz x (q:=c::r) (by omega),Bi x (show 0<r.length by omega)];have:escS (r++x)=escS r:=by unfold escS;rw[Bi x (show 0<r.length by omega),Bi x (show 1<r.length by omega)]
 rw[this]
theorem Pm{w:Str}:expS w=none↔((atS w 0==101||atS w 0==69)&&digB (atS (unsign (w.drop 1)) 0))=false:=by
 unfold expS
 grind
theorem zBy{w:Str}(x:Str)(h:3<=w.length)(a:expS w=none):expS (w++x)=none:=by rw[Pm]at a ⊢;have b:=XI (w.drop 1);rw[Xc]at b;rw[Xr (by omega),(Um x (Oo (by grind))).1,Bi x (show 0<w.length by omega),Bi x (by omega)];exact a
theorem NQ(q:Str):(zP q).1<:+q:=by
 unfold zP;split
 ·exact(Mm _ _).trans (Me 1 q)
 grind
theorem xV(q:Str):(zB q).1<:+(zP (Mf q)).1:=by
 rw[QE];cases h:expS (zP (Mf q)).1 with
 |some r=>exact UL (Bf _) h
 |none=>grind
theorem iQ(q:Str):(zA q).2<:+(zB q).1:=by
 unfold zA;split
 ·exact Dk _
 ·split
  ·exact Me 1 _
  grind
theorem zBZ{q:Str}(x:Str)(h:4<=(zB q).1.length):zkp q x:=by have d:=(xV q).length_le;have c:=(NQ (Mf q)).length_le;obtain⟨a,b⟩:=SF (q:=q) (x:=x) (Oo (by omega)) (fun e=>by grind) (zBy x (by omega));exact⟨a,b,nz x (by omega)⟩
theorem MX{c:UInt8}{r:Str}(x:Str)(h:4<=(Zl (c::r)).2.length):Zl (c::(r++x))=((Zl (c::r)).1,(Zl (c::r)).2++x):=by have b:=(aj c r).length_le;refine yB (zCQ x (by omega)) (Oo (by omega)) (fun _=>nz x (by omega)) (fun a=>zBZ x ?_);rw[qh,a,si]at h;have:=(iQ (c::r)).length_le;omega
theorem Wz(q y:Str):escS (q++47::y)=escS q:=by
 match q with
 |[]=>rfl
 |[c]=>rfl
 |c::d::t=>rfl
theorem Lu(q y:Str):nmS (q++47::y)=nmS q:=by
 match q with
 |[]=>rfl
 |[c]=> unfold nmS;show(if c==45 then fstB 47||47==45||escS (47::y)else fstB c||escS ([c]++47::y))=(if c==45 then fstB 0||0==45||escS []else fstB c||escS [c]);rw[Wz];rfl
 |c::d::t=> unfold nmS;show(if c==45 then fstB d||d==45||escS ((d::t)++47::y)else fstB c||escS ((c::d::t)++47::y))=(if c==45 then fstB d||d==45||escS (d::t)else fstB c||escS (c::d::t));rw[Wz,Wz]
theorem yV(q y:Str):digB (atS (q++47::y) 0)=digB (atS q 0):=by
 cases q with
 |nil=>rfl
 |cons c t=>rfl
theorem oN(q y:Str):unsign (q++47::y)=unsign q++47::y:=by
 cases q with
 |nil=>rfl
 |cons c t=>exact(Um (47::y) (by simp)).1
theorem zAi(q y:Str):undot (q++47::y)=undot q++47::y:=by
 cases q with
 |nil=>rfl
 |cons c t=>exact sN (47::y) (by simp)
theorem zD6(q y:Str):nbS (q++47::y)=nbS q:=by unfold nbS;rw[oN,zAi,yV]
theorem lV{m:Str}(c: ∀b∈m,b≠47): ∀(q y:Str),m.isPrefixOf (q++47::y)=m.isPrefixOf q:=by
 induction m with
 |nil=>grind
 |cons a m d=>
  intro q y;cases q with
  |nil=>
   grind
  |cons b t=>grind
theorem zDg(q y:Str):letB (atS (q++47::y) 0)=letB (atS q 0):=by
 cases q with
 |nil=>rfl
 |cons c t=>rfl
theorem KV(c:UInt8)(r y:Str):brS c (r++47::y)=brS c r:=by have e:c::(r++47::y)=(c::r)++47::y:=rfl;unfold brS;rw[e,zD6,lV (by decide),lV (by decide),Lu,Lu,zDg,Wz]
theorem zC2{w:Str}(y:Str)(a:expS w=none):expS (w++47::y)=none:=by
 cases w with
 |nil=>rfl
 |cons c t=> rw[Pm]at a ⊢;show((c==101||c==69)&&digB (atS (unsign (t++47::y)) 0))=false;rw[oN,yV];exact a
theorem zDp{q:Str}(y:Str)(h:(zB q).1≠[]):zkp q (47::y):=by obtain⟨a,b⟩:=SF (q:=q) (x:=47::y) h (fun _=>rfl) (zC2 y);exact⟨a,b,Lu _ y⟩
theorem AQ{q:Str}(h:(zA q).2≠[]):(zB q).1≠[]:=by intro e;have:=(iQ q).length_le;simp_all
theorem zBX{c:UInt8}{r:Str}(y:Str)(h:(Zl (c::r)).2≠[]):Zl (c::(r++47::y))=((Zl (c::r)).1,(Zl (c::r)).2++47::y):=by refine yB (KV c r y) h (fun _=>Lu r y) (fun a=>zDp y ?_);rw[qh,a,si]at h;exact AQ h
def XK(c:UInt8)(r x:Str):Prop:=(∃e a,(e=101\/e=69)/\zP (Mf (c::r))=([e,43],a))/\(Zl (c::r)).2=[43]/\(Zl (c::r)).1.kind=12/\digB (atS x 0)=true
theorem FX{c:UInt8}{r x:Str}(hb:brS c r=3)(h:(Zl (c::r)).2≠[])(hx:x≠[])(ht:(zA ((c::r)++x)).1=(zA (c::r)).1):
  zkp (c::r) x\/XK c r x:=by
 have hnx:Zl (c::r)=zA (c::r):=by rw[qh,hb,si]
 rw[hnx]at h;have he:=AQ h;have hflag: ∀q:Str,(zA q).1.kind=10->(zA q).1.flag=(zB q).2:=by
  intro q;unfold zA;split
  ·intro h;cases h
  ·grind
 have hnm: ∀q:Str,((zA q).1.kind=12↔nmS (zB q).1=true):=by
  intro q;unfold zA;split
  ·grind
  ·grind
 by_cases hd:Mf (c::r)=[46]->digB (atS x 0)=false
 ·by_cases hn:expS (zP (Mf (c::r))).1=none->expS ((zP (Mf (c::r))).1++x)=none
  ·obtain⟨a,b⟩:=SF he hd hn;refine .inl ⟨a,b,?_⟩
   grind
  ·right;obtain⟨hn1,hn2⟩:=Classical.not_imp.1 hn;have hend:zB (c::r)=zP (Mf (c::r)):=by rw[QE,hn1]
   rw[hend]at he;obtain⟨w,fl⟩: ∃w fl,zP (Mf (c::r))=(w,fl):=⟨_,_,rfl⟩;obtain⟨fl,hw⟩:=fl;rw[hw]at he hn1 hn2 hend;simp only at he hn1 hn2;rw[Pm]at hn1;rw[Pm]at hn2;cases w with
   |nil=>grind
   |cons e t=>
    have h2:((e==101||e==69)&&digB (atS (unsign (t++x)) 0))=true:=by
     have:((atS ((e::t)++x) 0==101||atS ((e::t)++x) 0==69)&&digB (atS (unsign (((e::t)++x).drop 1)) 0))=true:=by
      cases hh:((atS ((e::t)++x) 0==101||atS ((e::t)++x) 0==69)&&digB (atS (unsign (((e::t)++x).drop 1)) 0))with
      |true=>rfl
      |false=>grind
     exact this
    have h1:((e==101||e==69)&&digB (atS (unsign t) 0))=false:=hn1;rw[Ca]at h2;rw[h2.1,Sb]at h1;have hee:e=101\/e=69:=by have:=h2.1;rw[Tc,Rb,Rb]at this;exact this
    have hfst:fstB e=true/\letB e=true/\(e==45)=false:=by rcases hee with rfl|rfl<;>decide
    have hnmw:nmS (e::t)=true:=by unfold nmS;rw[show atS (e::t) 0=e from rfl,hfst.2.2,Ga (by decide),hfst.1];rfl
    have hnum:zA (c::r)=(⟨12,[],(numP (c::r)).val,(zm (e::t)).1,fl⟩,(zm (e::t)).2):=by unfold zA;rw[hend,La hnmw]
    rw[hnum]at h;have h':(zm (e::t)).2≠[]:=h;have ht43:t=[43]/\digB (atS x 0)=true:=by
     match t with
     |[]=>rw[zF,La hfst.2.1,qJ]at h';grind
     |[d]=>
      have hux:unsign ([d]++x)=if Xf d then x else d::x:=rfl;have hu:unsign [d]=if Xf d then []else [d]:=rfl;rw[hux]at h2;rw[hu]at h1;cases hs:Xf d with
      |false=>
       rw[hs,Ga (by decide)]at h1 h2;have:=h2.2;rw[show atS (d::x) 0=atS [d] 0 from rfl,h1]at this;cases this
      |true=>
       rw[hs,La rfl]at h2;unfold Xf at hs;rw[Tc,Rb,Rb]at hs;rcases hs with rfl|rfl
       ·grind
       ·rw[zF,La hfst.2.1,zF,La (by decide),qJ]at h';grind
     |d::d2::t2=>
      exfalso;have hlen:1<=(unsign (d::d2::t2)).length:=by have:=XI (d::d2::t2);rw[Sa,Sa]at this;omega
      have:=h2.2;rw[(Um x (by simp)).1,Bi x (by omega),h1]at this;cases this
    obtain⟨rfl,hdx⟩:=ht43;refine⟨⟨e,fl,hee,hw⟩,?_,?_,hdx⟩
    ·rw[hnx,hnum];show(zm [e,43]).2=[43];rw[zF,La hfst.2.1,zF,Ga (by decide),Ga (by decide)]
    ·rw[hnx,hnum]
 ·exfalso;obtain⟨hq2,hdx⟩:=Classical.not_imp.1 hd;have hend:zB (c::r)=([46],true):=by rw[QE,hq2];rfl
  have hnum:zA (c::r)=(⟨10,[],(numP (c::r)).val,[],true⟩,[46]):=by unfold zA;rw[hend,Ga (by decide),Ga (by decide)]
  rw[hnum]at ht;have hf:=hflag ((c::r)++x) (by rw[ht]);rw[ht]at hf;have hun:unsign (c::r)≠[]:=by intro e;rw[Mf,e]at hq2;cases hq2
  have e2:Mf ((c::r)++x)=46::x:=by unfold Mf;rw[(Um x (by simp)).1,nk x (by unfold Mf at hq2;rw[hq2];simp)];unfold Mf at hq2;rw[hq2];rfl
  have hw:zP (46::x)=(past digB x,false):=by
   unfold zP;have:digB (atS x 0)=true:=by cases hh:digB (atS x 0)with|true=>rfl|false=>grind
   rw[show atS (46::x) 0=46 from rfl,show atS (46::x) 1=atS x 0 from rfl,this];rfl
  have hfl:(zB ((c::r)++x)).2=false:=by rw[QE,e2,hw];simp only;cases expS (past digB x)<;>rfl
  rw[hfl]at hf;cases hf
theorem iZ{c:UInt8}{r x:Str}(h:(Zl (c::r)).2≠[])(hx:x≠[])(ht:(Zl (c::(r++x))).1=(Zl (c::r)).1):
  (Zl (c::(r++x))).2=(Zl (c::r)).2++x\/XK c r x:=by
 have hb:brS c (r++x)=brS c r:=by rw[<-Im,<-Im,ht]
 have hh:brS c r=2->nmS (r++x)=nmS r:=by intro hi;have:=congrArg zb.flag ht;rw[qh,qh,hb,hi,Sl,Sl]at this;exact this
 by_cases hi:brS c r=3
 ·have hnx:Zl (c::r)=zA (c::r):=by rw[qh,hi,si]
  have hnx2:Zl (c::(r++x))=zA ((c::r)++x):=by rw[qh,hb,hi,si];rfl
  have ht':=ht;rw[hnx,hnx2]at ht';rcases FX hi h hx ht' with hs|hp
  ·left;rw[yB hb h hh (fun _=>hs)]
  ·exact .inr hp
 ·left;rw[yB hb h hh (fun e=>absurd e hi)]
def run:Str->List zb->Str->Prop
 |q,[],R=>q=R
 |q,t::a,R=> ∃c r,cmtS q=c::r/\(Zl (c::r)).1=t/\run (Zl (c::r)).2 a R
theorem Uv: ∀{ts:List zb} {q R:Str},run q ts R->R<:+q
 |[],q,R,h=>by rw[run]at h;grind
 |t::ts,q,R,h=>by obtain⟨c,r,d,e,b⟩:=h;have a:=Vj q;rw[d]at a;exact(Uv b).trans ((aj c r).trans ((Be c r).trans a))
theorem Es: ∀{ts:List zb} {q R:Str},run q ts R->qj q=ts++qj R
 |[],q,R,h=>by rw[run]at h;subst h;rfl
 |t::ts,q,R,h=>by obtain⟨c,r,d,b,a⟩:=h;rw[QH d,b,Es a];rfl
theorem mG: ∀{ts us:List zb} {q R S:Str},run q ts R->run R us S->run q (ts++us) S
 |[],us,q,R,S,h,a=>by rw[run]at h;subst h;exact a
 |t::ts,us,q,R,S,h,a=>by obtain⟨c,r,e,d,b⟩:=h;exact⟨c,r,e,d,mG b a⟩
theorem XN: ∀{ts us:List zb} {q:Str},qj q=ts++us-> ∃R,run q ts R/\qj R=us
 |[],us,q,h=>⟨q,rfl,h⟩
 |t::ts,us,q,h=>by
  cases a:cmtS q with
  |nil=>rw[QB a]at h;cases h
  |cons c r=> rw[QH a,ma]at h;injection h with d f;obtain⟨R,e,b⟩:=XN f;exact⟨R,⟨c,r,a,d,e⟩,b⟩
theorem xK: ∀{ts:List zb} {q R S:Str},run q ts R->run q ts S->R=S
 |[],q,R,S,h,b=>by rw[run]at h b;rw[<-h,b]
 |t::ts,q,R,S,h,b=>by obtain⟨c,r,f,m,g⟩:=h;obtain⟨l,k,a,e,d⟩:=b;rw[f]at a;injection a with i j;subst i j;exact xK g d
theorem yK{ts:List zb}{q R:Str}(d:ts≠[]):run (cmtS q) ts R↔run q ts R:=by
 cases ts with
 |nil=>grind
 |cons t ts=>
  constructor
  ·rintro⟨c,r,a,b⟩;rw[Eo]at a;exact⟨c,r,a,b⟩
  ·rintro⟨c,r,a,b⟩;exact⟨c,r,by rw[Eo];exact a,b⟩
theorem rF(x:Str): ∀{l r:Str},clsS l=some r->clsS (l++x)=some (r++x)
 |[],r,h=>by cases h
 |c::t,r,h=>by
  rw[clsS]at h;rw[ma,clsS];cases t with
  |nil=>
   cases a:c==42&&atS ([]:Str) 0==47 with
   |true=>rw[Ca]at a;exact absurd a.2 (by decide)
   |false=>rw[a,Ga (by decide)]at h;cases h
  |cons d u=>
   rw[show atS ((d::u)++x) 0=atS (d::u) 0 from rfl];split
   ·grind
   ·rename_i a;rw[Ga a]at h;exact rF x h
theorem Cw{q x:Str}(h:cmtS q≠[])(a:([47,42]:Str).isPrefixOf (cmtS q++x)=false):cmtS (q++x)=cmtS q++x:=by
 rw[bi q]at h a ⊢;split at h
 ·rename_i b;have c:=Am b;rw[show([47,42]:Str).length=2 from rfl]at c;rw[La b]at a ⊢;cases d:clsS (q.drop 2)with
  |none=>grind
  |some p=>
   rw[d]at h a;simp only at h a ⊢;rw[bi (q++x),Dr x (by exact c),b,La rfl,Xr c,rF x d];simp only;have e:p.length<q.length:=by have e:=(ak _ d).2;rw[Xc]at e;omega
   exact Cw h a
 ·rename_i b;rw[Ga b]at a ⊢;exact ZZ a
termination_by q.length
decreasing_by omega
theorem BX{c d:UInt8}(t x:Str):([47,42]:Str).isPrefixOf ((c::d::t)++x)=([47,42]:Str).isPrefixOf (c::d::t):=Dr x (by grind)
theorem wL{q x:Str}(h:2<=(cmtS q).length):cmtS (q++x)=cmtS q++x:=by refine Cw (Oo (by omega)) ?_;rw[Dr x (by exact h)];exact Bw q
theorem KN{c:UInt8}{r:Str}(h:(Zl (c::r)).2≠[]):2<=(c::r).length:=by
 have b:=(aj c r).length_le;have a:=Ie.2 h
 grind
theorem wK: ∀{ts:List zb} {q R:Str} (x:Str),run q ts R->4<=R.length->run (q++x) ts (R++x)
 |[],q,R,x,h,_=>by rw[run]at h;subst h;rfl
 |t::ts,q,R,x,h,e=>by obtain⟨c,r,a,f,b⟩:=h;have i:=(Uv b).length_le;have d:=MX x (c:=c) (r:=r) (by omega);have g:=KN (c:=c) (r:=r) (Oo (by omega));refine⟨c,r++x,by rw[wL (by rw[a];exact g),a];rfl,by rw[d];exact f,?_⟩;rw[d];exact wK x b e
theorem KF{q:Str}(y:Str)(h:cmtS q≠[]):cmtS (q++47::42::y)=cmtS q++47::42::y:=by
 refine Cw h ?_;have b:=Bw q;cases a:cmtS q with
 |nil=>exact absurd a h
 |cons c t=>
  cases t with
  |nil=>
   grind
  |cons d u=>grind
theorem nE: ∀{ts:List zb} {q R:Str} (y:Str),run q ts R->R≠[]->run (q++47::42::y) ts (R++47::42::y)
 |[],q,R,y,h,_=>by rw[run]at h;subst h;rfl
 |t::ts,q,R,y,h,hl=>by
  obtain⟨c,r,h1,h2,h3⟩:=h;have h4:(Zl (c::r)).2≠[]:=by intro e;have:=(Uv h3).length_le;rw[e]at this;exact hl (Vf.1 (by simpa using this))
  have h5:=zBX (42::y) h4;refine⟨c,r++47::42::y,by rw[KF y (by rw[h1];simp),h1];rfl,by rw[h5];exact h2,?_⟩;rw[h5];exact nE y h3 hl
def OV(q x:Str)(us:List zb):Prop:= ∃c r,cmtS q=c::r/\XK c r x/\(Zl (c::(r++x))).1=(Zl (c::r)).1/\qj (Zl (c::(r++x))).2=us
theorem sM: ∀{ts us:List zb} {q R:Str} {x:Str},run q ts R->R≠[]->x≠[]->qj (q++x)=ts++us->run (q++x) ts (R++x)\/(R=[43]/\ ∃p,p<:+q/\OV p x us)
 |[],us,q,R,x,h,_,_,_=>by rw[run]at h;subst h;exact .inl rfl
 |t::ts,us,q,R,x,h,hl,hx,ht=>by
  obtain⟨c,r,h1,h2,h3⟩:=h;have h4:(Zl (c::r)).2≠[]:=by intro e;have:=(Uv h3).length_le;rw[e]at this;exact hl (Vf.1 (by simpa using this))
  have hc:cmtS (q++x)=c::(r++x):=by rw[wL (by rw[h1];exact KN h4),h1];rfl
  rw[QH hc,ma]at ht;injection ht with ht1 ht2;rcases iZ h4 hx (by rw[ht1,h2])with h5|h5
  ·rw[h5]at ht2;rcases sM h3 hl hx ht2 with h6|⟨h6,p,hp,h7⟩
   ·exact .inl ⟨c,r++x,hc,ht1,by rw[h5];exact h6⟩
   ·refine .inr ⟨h6,p,hp.trans ((aj c r).trans ((Be c r).trans ?_)),h7⟩;rw[<-h1];exact Vj q
  ·right;have h43:=h5.2.1;have hR:R=[43]/\ts=[]:=by
    cases ts with
    |nil=>rw[run,h43]at h3;grind
    |cons u us'=> exfalso;rw[h43]at h3;obtain⟨c',r',e1,e2,e3⟩:=h3;rw[show cmtS [43]=[43]from ZZ rfl]at e1;injection e1 with e4 e5;subst e4 e5;have:=(Uv e3).length_le;have h9:=(aj (43:UInt8) []).length_le;simp_all
   obtain⟨hR,rfl⟩:=hR;refine⟨hR,q,Bf _,c,r,h1,h5,by rw[ht1,h2],?_⟩;rw[ht2];rfl
def encB(p:UInt8->Bool):Str->Str
 |[]=>[]
 |c::r=>(bif p c then escC c else [c])++encB p r
def quoB(c:UInt8):Bool:=c==10||c==12||c==13||c==34||c==92
def urB(c:UInt8):Bool:=decide (c.toNat<=32)||c==34||c==39||c==40||c==41||c==92||c==127
def Oj:Str->Bool
 |[]=>false
 |c::r=>(c==101||c==69)&&numS r&& !(List.isPrefixOf [45,45] r)
def Bg:Str->Str
 |[]=>[]
 |c::r=>bif Oj (c::r)then escC c++encW false 0 r else qg (c::r)
def dm(k:Int):Str:=
 bif k==13 then [32]else bif k==14 then [60,33,45,45]else bif k==15 then [45,45,62]else bif k==16 then [58]else bif k==17 then [59]else bif k==18 then [44]else
 bif k==19 then [91]else bif k==20 then [93]else bif k==21 then [40]else bif k==22 then [41]else bif k==23 then [123]else [125]
def txS(t:zb):Str:=
 bif t.kind==1 then qg t.text
 else bif t.kind==2 then qg t.text++[40]
 else bif t.kind==3 then 64::qg t.text
 else bif t.kind==4 then 35::(bif t.flag then qg t.text else encW false 0 t.text)
 else bif t.kind==5 then 34::(encB quoB t.text++[34])
 else bif t.kind==7 then [117,114,108,40]++(encB urB t.text++[41])
 else bif t.kind==9 then t.text
 else bif t.kind==10 then numT t.num (!t.flag)
 else bif t.kind==11 then numT t.num false++[37]
 else bif t.kind==12 then numT t.num (!t.flag)++Bg t.unit
 else dm t.kind
theorem Nw(p:UInt8->Bool): ∀l:Str,(encB p l).length<=4*l.length
 |[]=>by unfold encB;simp
 |c::r=>by
  have:=Jw c;have:=Nw p r;unfold encB
  grind
theorem zBt{p:UInt8->Bool}{i:Nat}{l:Str}(h:i<l.length):encB p (l.drop i)=(bif p l[i]then escC l[i]else [l[i]])++encB p (l.drop (i+1)):=by rw[Jb h,encB]
theorem uP {R:Type} {step:Int×List UInt8->Option (LO (Int×List UInt8) (List UInt8) R)} {l acc:Str} {p:UInt8->Bool} (hl:l.length<=100000) (ha:acc.length<=100000000)
  (h1: ∀(i:Nat) (a:Str) (hi:i<l.length),a.length<=500000000->step ((i:Int),a)=some (.again (w64 ((i:Int)+1),a++(bif p l[i]then escC l[i]else [l[i]]))))
  (h2: ∀a,step ((l.length:Int),a)=some (.out a)):Tg step (0,acc)=some (.out (acc++encB p l)):=by
 refine Qf (fun z=> ∃(i:Nat) (a:Str),z=((i:Int),a)/\i<=l.length/\a.length<=acc.length+4*i/\a++encB p (l.drop i)=acc++encB p l) (fun z=>l.length - z.1.toNat) _ ?_ ⟨0,acc,rfl,by omega,by omega,rfl⟩;rintro _ ⟨i,a,rfl,hi,hal,he⟩;rcases Lc i l.length with h|h
 ·refine .inl ⟨_,h1 i a h (by omega),⟨i+1,_,by rw[zW (by omega) (by omega)];rfl,by omega,?_,?_⟩,by simp only;rw[zW (by omega) (by omega)];omega⟩
  ·have:=Jw l[i]
   grind
  ·rw[<-he,zBt h,Ra]
 ·have:i=l.length:=by omega
  subst this;refine .inr (.inl ⟨_,h2 a,?_⟩);rw[<-he,Ue (Ya _)];rw[show encB p []=[] by rw[encB],Bb]
theorem RG{l acc:Str}{k:Nat}(d:l.length<=100000)(b:acc.length<=100000000):qy ((l,(k:Int)),acc)=some (acc++encW (Bn k l) k l):=by
 unfold qy;rw[Qg (zCI (dash:=Bn k l) (k:=k) (l:=l) (acc:=acc) d b (fun i a f b=> ?_) (fun a=> ?_))]
 ·have g:decide ((i:Int)<(l.length:Int))=true:=Ma (by omega);have e:geti l (i:Int)=some l[i]:=QV f;have j:decide ((i:Int)>=(k:Int))=(k - i==0):=by
   by_cases h:k<=i
   ·grind
   ·grind
  have m:((k:Int)==0)=(k==0):=by
   by_cases h:k=0
   ·subst h;rfl
   ·grind
  simp only[g,Ea,e,j,m,ze,Aa,zBG,NL];have c:(bif k==0 then true else !(l==[45]))= !Bn k l:=by unfold Bn;cases k==0<;>cases l==[45]<;>rfl
  rw[c];unfold pcW;cases letB l[i]with
  |false=>
   cases k - i==0<;>simp only[zu,Ec,Cc,Df,Rc,Jc,Ea,Ha,Aa,Ms l[i] (show a.length<=1000000000 by omega),zh]
  |true=> cases k - i==0<;>cases digB l[i]<;>cases Bn k l<;>simp only[zu,Ec,Cc,Df,Rc,Jc,Bool.or_true,Gf,Sb,Ld,Oe,Ea,Ha,Aa,bA,zy (kg (show a.length+1<=2000000000 by omega)),Ms l[i] (show a.length<=1000000000 by omega),zh]
 grind
theorem D5(l:Str):Bn (QU l) l=(l==[45]):=by unfold Bn QU;split<;>rfl
theorem su{l acc:Str}(a:l.length<=100000)(b:acc.length<=100000000):qy ((l,((QU l:Nat):Int)),acc)=some (acc++qg l):=by rw[RG a b,D5];rfl
theorem zA7{n:Nat}{b:Str}(c:n<=1000000000000)(d:b.length<=100000):Io (((n:Int),10),b)=some (b++Lib.decDigits n):=by have a:short b=true:=Ma (by omega);unfold Io;simp only[a,Jc,Ic,decide_true,Sb];rw[Ma (by omega),Ma (by omega)];rfl
theorem PR{m:Nat}(n:m<=1000000000000)(p:Bool)(b:Str)(o:b.length<=90000):
  ((Io ((w64 (Int.tdiv (m:Int) 1000),10),b)).bind fun a=>(bn (w64 (1000+Int.tmod (m:Int) 1000),10)).bind fun d=>need (decide (1<=(d.length:Int)))<|
   (ol (List.drop 1 d,[48])).bind fun c=>zS (X:=List UInt8) (R:=List UInt8) (bif !(c==[])then need (zX a.length 1 1)<|need (zX (a++[(46:UInt8)]).length c.length 1)<|some (LX.out (a++[(46:UInt8)]++c))else bif p then need (zX a.length ([46,48]:Str).length 1)<|some (LX.out (a++([46,48]:Str)))else some (LX.out a)) fun l=>some l)=some (b++Ig m p):=by
 have k:w64 (Int.tdiv (m:Int) 1000)=((m / 1000:Nat):Int):=by rw[show Int.tdiv (m:Int) 1000=((m / 1000:Nat):Int)from rfl,zW (by omega) (by omega)]
 have j:w64 (1000+Int.tmod (m:Int) 1000)=((1000+m%1000:Nat):Int):=by rw[show Int.tmod (m:Int) 1000=((m%1000:Nat):Int)from rfl,zW (by omega) (by omega)];omega
 have f:m%1000<1000:=by omega
 rw[k,j];have i:bn (((1000+m%1000:Nat):Int),10)=some (49::[d48 (m%1000 / 100),d48 (m%1000 / 10%10),d48 (m%1000%10)]):=by unfold bn i64B;simp only[decide_true,Sb];rw[Ma (by omega),Ma (by omega)];rw[<-uX f];show some (Lib.itoa _)=_;unfold Lib.itoa;rw[Ga (by omega),Ic]
 have e:=dH (u:=m / 1000) (by omega);rw[zA7 (by omega) (by omega),Aa,i,Aa,zy (Ma (by simp))];have g:ol (List.drop 1 (49::[d48 (m%1000 / 100),d48 (m%1000 / 10%10),d48 (m%1000%10)]),[48])=some (Ci (m%1000)):=rfl;rw[g,Aa,J3];have h:=XG _ f;simp only[Vz,Ca,jb]at h;unfold Ig Jl;cases (Ci (m%1000)).isEmpty with
 |true=>
  simp only[Ec,Ha,Ea];cases p with
  |true=>rw[Ea,zy (Nk (by grind) (by omega)),zh,Ra];rfl
  |false=>simp_all
 |false=> simp only[Cc,Ha,Ea];rw[zy (Nk (by grind) (by omega)),zy (Nk (by grind) (by omega)),zh,Ra,Ra];rfl
theorem NI{n:Int}(d: -1000000000000<=n)(h2:n<=1000000000000)(p:Bool){acc:Str}(c:acc.length<=80000):Qz ((n,p),acc)=some (acc++numT n p):=by
 unfold Qz numT;simp only[ze];by_cases a:n<0
 ·obtain⟨m,rfl⟩: ∃m:Nat,n= -(m:Int):=⟨n.natAbs,by omega⟩;rw[Ma a,Ea,zy (Nk (by omega) (by omega)),zh,La a];simp only;have b:w64 (0 - -(m:Int))=(m:Int):=by rw[show(0 - -(m:Int))=(m:Int) by omega,zW (by omega) (by omega)]
  rw[b,Int.natAbs_neg,Int.natAbs_natCast,<-Ra];exact PR (by omega) p (acc++[45]) (by grind)
 ·obtain⟨m,rfl⟩: ∃m:Nat,n=(m:Int):=⟨n.toNat,by omega⟩;rw[Dc a,Ha,zh,Ga a];simp only;rw[Int.natAbs_natCast,Mc];exact PR (by omega) p acc (by omega)
theorem zBO: ∀n:Nat,n<256->(ibOr IntKind.u8 (n:Int) 32==101)=(UInt8.ofNat n==101||UInt8.ofNat n==69):=by decide+kernel
theorem zBN(c:UInt8):(ibOr IntKind.u8 (c.toNat:Int) 32==101)=(c==101||c==69):=by have:=zBO c.toNat (Fb c);simp_all
theorem zCl(c:UInt8):decide (Lib.indexByte [10,12,13,34,92] c.toNat.toUInt8>=0)=quoB c:=by
 have: ∀n:Nat,n<256->decide (Lib.indexByte [10,12,13,34,92] n.toUInt8>=0)=quoB (UInt8.ofNat n):=by decide+kernel
 have:=this c.toNat (Fb c);simp_all
theorem zCC(c:UInt8):(decide ((c.toNat:Int)<=32)||decide (Lib.indexByte [34,39,40,41,92,127] c.toNat.toUInt8>=0))=urB c:=by
 have: ∀n:Nat,n<256->(decide ((n:Int)<=32)||decide (Lib.indexByte [34,39,40,41,92,127] n.toUInt8>=0))=urB (UInt8.ofNat n):=by decide+kernel
 have:=this c.toNat (Fb c);simp_all
theorem M7 {t:zb} (h:Gg t=true) (e:(t.kind==1)=false) (h2:(t.kind==2)=false) (g:(t.kind==3)=false) (d:(t.kind==4)=false) (i:(t.kind==5)=false) (j:(t.kind==7)=false) (f:(t.kind==9)=false)
  (c:(t.kind==10)=false) (b:(t.kind==11)=false) (a:(t.kind==12)=false):13<=t.kind/\t.kind<=24:=by
 unfold Gg at h
 grind
theorem PW: ∀n:Nat,n<12->(Tx ()).bind (fun a=>geti [a.e0,a.e1,a.e2,a.e3,a.e4,a.e5,a.e6,a.e7,a.e8,a.e9,a.e10,a.e11] (wu8 ((13+n:Int) - 13)))=some (dm (13+n:Int)):=by decide+kernel
theorem XO(k:Int):(dm k).length<=4:=by
 unfold dm;cases k==13<;>cases k==14<;>cases k==15<;>simp only[Ea,Ha]<;>try (simp;done)
 grind
theorem zAc{t:zb}{acc:Str}(x:Gg t=true)(R:t.text.length<=5000)(h2:t.unit.length<=5000)(ha:acc.length<=60000):Lt (t,acc)=some (acc++txS t):=by
 have one: ∀q:Str,q.length<=90000->zX q.length 1 1=true:=fun q hq=>Nk (by omega) (by omega);have z: ∀l:Str,l.length<=5000->(qg l).length<=20000:=fun l hl=>by have:=Mw (l==[45]) (QU l) l;unfold qg;omega
 unfold Lt txS;simp only[ze];cases H:t.kind==1 with
 |true=>simp only[Ea,Uw,Aa,su (show t.text.length<=100000 by omega) (show acc.length<=100000000 by omega)]
 |false=>
 cases L:t.kind==2 with
 |true=> simp only[Ea,Ha,Uw,Aa,su (show t.text.length<=100000 by omega) (show acc.length<=100000000 by omega)];have:=z t.text R;rw[zy (one _ (by grind)),Ra]
 |false=>
 cases M:t.kind==3 with
 |true=> simp only[Ea,Ha,Uw,Aa];rw[zy (one _ (by omega)),su (by omega) (by grind),Ra];rfl
 |false=>
 cases Q:t.kind==4 with
 |true=>
  simp only[Ea,Ha,Uw,Aa];cases t.flag with
  |true=> simp only[Ea,zh];rw[zy (one _ (by omega)),su (by omega) (by grind),Ra];rfl
  |false=> simp only[Ha,zh];rw[zy (one _ (by omega)),show(0:Int)=((0:Nat):Int)from rfl,RG (by omega) (by grind),Ra];rfl
 |false=>
 cases P:t.kind==5 with
 |true=>
  simp only[Ea,Ha];have k:maxLen=9223372036854775807:=rfl;rw[zy (one _ (by omega)),zy (Ma (by omega))];have C:=Nw quoB t.text;rw[Qg (uP (p:=quoB) (l:=t.text) (acc:=acc++[34]) (by omega) (by grind) (fun i a F y=> ?_) (fun a=> ?_))]
  ·rw[zy (one _ (by grind)),Ra,Ra];rfl
  ·have D:decide ((i:Int)<(t.text.length:Int))=true:=Ma (by omega);have A:decide ((0:Int)<=(i:Int))=true:=Ma (by omega);simp only[D,A,Jc,Ea,qA,Ic,Ja F,Aa,aD,zCl];cases quoB t.text[i]with
   |true=>simp only[Ea,Ms _ (show a.length<=1000000000 by omega),Aa,zh]
   |false=>simp only[Ha,bA,Aa,zy (kg (show a.length+1<=2000000000 by omega)),zh]
  ·grind
 |false=>
 cases O:t.kind==7 with
 |true=>
  simp only[Ea,Ha];have k:maxLen=9223372036854775807:=rfl;rw[zy (Nk (by grind) (by omega)),zy (Ma (by omega))];have C:=Nw urB t.text;rw[Qg (uP (p:=urB) (l:=t.text) (acc:=acc++[117,114,108,40]) (by omega) (by grind) (fun i a F y=> ?_) (fun a=> ?_))]
  ·rw[zy (one _ (by grind)),Ra,Ra]
  ·have D:decide ((i:Int)<(t.text.length:Int))=true:=Ma (by omega);have A:decide ((0:Int)<=(i:Int))=true:=Ma (by omega);simp only[D,A,Jc,Ea,qA,Ic,Ja F,Aa,aD];rw[<-zCC];cases decide ((t.text[i].toNat:Int)<=32)with
   |true=>simp only[Ec,Qx,Aa,Ea,Oe,Ms _ (show a.length<=1000000000 by omega),zh]
   |false=>
    simp only[Cc,Zx,Aa,Ha,Ld];cases decide (Lib.indexByte [34,39,40,41,92,127] t.text[i].toNat.toUInt8>=0)with
    |true=>simp only[Ea,Ms _ (show a.length<=1000000000 by omega),Aa,zh]
    |false=>simp only[Ha,bA,Aa,zy (kg (show a.length+1<=2000000000 by omega)),zh]
  ·grind
 |false=>
 cases N:t.kind==9 with
 |true=> simp only[Ea,Ha];rw[zy (Nk (by omega) (by omega))]
 |false=>
 have g:(t.kind==10||t.kind==11||t.kind==12)=true->rngS t=true/\(!(t.unit==[])==(t.kind==12))=true:=by intro Z;unfold Gg at x;simp only[H,L,M,Q,P,O,N,Z,Bool.or_self,Ha,Ea,Ca]at x;exact⟨x.1,x.2.1⟩
 have b:rngS t=true-> -1000000000000<=t.num/\t.num<=1000000000000:=by intro j;unfold rngS at j;simp only[Ca,jb]at j;exact⟨j.1,j.2.1⟩
 cases s:t.kind==10 with
 |true=> obtain⟨u,w⟩:=b (g (by rw[s];rfl)).1;simp only[Ea,Ha,NI u w _ (show acc.length<=80000 by omega),Aa]
 |false=>
 cases E:t.kind==11 with
 |true=>
  obtain⟨u,w⟩:=b (g (by grind)).1;have T:(numT t.num false).length<=25:=by
   have:=cB (m:=t.num.natAbs) (by omega) false;unfold numT;rw[Ia];split
   ·grind
   ·grind
  simp only[Ea,Ha,NI u w _ (show acc.length<=80000 by omega),Aa];rw[zy (one _ (by grind)),Ra]
 |false=>
 cases o:t.kind==12 with
 |true=>
  obtain⟨j,X⟩:=g (by grind);obtain⟨u,w⟩:=b j;rw[o]at X;have T:(numT t.num (!t.flag)).length<=25:=by
   have:=cB (m:=t.num.natAbs) (by omega) (!t.flag);unfold numT;rw[Ia];split
   ·grind
   ·grind
  simp only[Ea,Ha,NI u w _ (show acc.length<=80000 by omega),Aa];cases G:t.unit with
  |nil=>grind
  |cons c r=>
   rw[G,Sa]at h2;have h:geti (c::r) 0=some c:=rfl;have B:List.drop 1 (c::r)=r:=rfl;have f:decide (1<=((c::r:Str).length:Int))=true:=Ma (by grind);simp only[h,B,f,Oe,qA,Aa,zBN,yT,Xt,Uw];have v:(acc++numT t.num (!t.flag)).length<=100000000:=by rw[Ia];omega
   have d:=su (l:=c::r) (acc:=acc++numT t.num (!t.flag)) (by grind) v;have e:Bg (c::r)=(bif (c==101||c==69)&&numS r&& !(List.isPrefixOf [45,45] r)then escC c++encW false 0 r else qg (c::r)):=rfl;rw[e];have Y:(c==101||c==69)=true->ZU ((c.toNat:Int),acc++numT t.num (!t.flag))=some (acc++numT t.num (!t.flag)++escC c):=fun _=>Ms c (by grind);cases S:c==101||c==69 with
   |false=> simp_all
   |true=>
    simp only[Zx,Aa,Ea,Sb];cases J:numS r with
    |false=> simp_all
    |true=>
     simp only[Zx,Aa,Ea,Sb];cases hp:List.isPrefixOf [45,45] r with
     |true=> simp only[Ec,Ha,d,Aa];rw[Ra]
     |false=> simp only[Cc,Ea,Y S,Aa];have K:=Jw c;rw[show(0:Int)=((0:Nat):Int)from rfl,RG (by omega) (by rw[Ia,Ia];omega)];rw[Ra,Ra];rfl
 |false=>
 obtain⟨W,V⟩:=M7 x H L M Q P O N s E o;obtain⟨n,J⟩: ∃n:Nat,t.kind=13+(n:Int):=⟨(t.kind - 13).toNat,by omega⟩;have h:=PW n (by omega);rw[<-J]at h;have k:=XO t.kind;simp only[Ha];have U:Tx ()=some ⟨[32],[60,33,45,45],[45,45,62],[58],[59],[44],[91],[93],[40],[41],[123],[125]⟩:=rfl;rw[U]at h ⊢;simp only[Aa]at h ⊢;rw[h];simp only[Aa];rw[zy (Nk (by omega) (by omega))]
theorem Po{c:UInt8}(h0:c≠0)(h:c.toNat<128)(R:Str): ∃d t,escC c++R=92::d::t/\(d==10)=false/\zq (d::t)=([c],R):=by
 unfold escC;cases hg:decide (32<c.toNat)&&decide (c.toNat<127)&& !digB c&& !alB c with
 |true=>
  have hx:Qd c=false/\(c==10)=false:=by
   have: ∀n:Nat,n<256->(decide (32<(UInt8.ofNat n).toNat)&&decide ((UInt8.ofNat n).toNat<127)&& !digB (UInt8.ofNat n)&& !alB (UInt8.ofNat n))=true->Qd (UInt8.ofNat n)=false/\(UInt8.ofNat n==10)=false:=by decide+kernel
   have:=this c.toNat (Fb c);rw[Ud]at this;exact this hg
  exact⟨c,R,rfl,hx.2,by show(if Qd c then _ else _)=_;grind⟩
 |false=> obtain⟨d,t,e,hd,h10⟩:=mH (n:=c.toNat) (Fb c) ([32]++R);refine⟨d,t,by grind,h10,?_⟩;have hh:=lL (n:=c.toNat) (Fb c) R;rw[show(32::R:Str)=[32]++R from rfl,e]at hh;show(if Qd d then(ag (hexes 6 0 (d::t)).1,unsp (hexes 6 0 (d::t)).2)else _)=_;rw[La hd,hh,PO h0 h];rfl
theorem zCD(n:Nat):ag n≠[]:=by
 unfold ag Ml
 grind
theorem V4(r:Str):(zq r).1≠[]:=by
 cases r with
 |nil=>show Ml≠[];decide
 |cons c r=>
  show(if Qd c then(ag (hexes 6 0 (c::r)).1,unsp (hexes 6 0 (c::r)).2)else([c],r)).1≠[];split
  ·exact zCD _
  ·simp
theorem KC{x:Str}(h:(zm x).1=[]):(zm x).2=x:=by
 cases x with
 |nil=>rw[qJ]
 |cons c r=>
  rw[zF]at h ⊢;split
  ·grind
  ·rename_i b;rw[Ga b]at h;split
   ·rename_i a;rw[La a]at h;exact absurd (List.append_eq_nil_iff.1 h).1 (V4 r)
   ·rfl
theorem QL{c:UInt8}{r:Str}(h:Zm (c::r)=true):c≠0/\Zm r=true:=by
 unfold Zm at h ⊢
 grind
theorem SH{dash:Bool}(R:Str): ∀(k:Nat) (l:Str),Zm l=true->(dash=true-> ∀c∈l,c.toNat<128)->zm (encW dash k l++R)=(l++(zm R).1,(zm R).2)
 |_,[],_,_=>by rw[encW];rfl
 |k,c::r,h,a=>by obtain⟨f,d⟩:=QL h;rw[encW,Ra,DL f (fun e=>a e c (Nb ..)),SH R (k - 1) r d (fun e x b=>a e x (Eb _ b))];rfl
theorem Vm{l:Str}(R:Str)(h:Zm l=true):zm (qg l++R)=(l++(zm R).1,(zm R).2):=by refine SH R _ _ h (fun e c a=> ?_);simp_all
theorem JP{l:Str}(R:Str)(k:Nat)(h:Zm l=true):zm (encW false k l++R)=(l++(zm R).1,(zm R).2):=SH R k l h (fun e=>by cases e)
theorem AZ(c:UInt8):(quoB c=true->c.toNat<128)/\(quoB c=false->(c==34)=false/\(c==10)=false/\(c==92)=false):=by
 have: ∀n:Nat,n<256->(quoB (UInt8.ofNat n)=true->(UInt8.ofNat n).toNat<128)/\(quoB (UInt8.ofNat n)=false->(UInt8.ofNat n==34)=false/\(UInt8.ofNat n==10)=false/\(UInt8.ofNat n==92)=false):=by decide+kernel
 have:=this c.toNat (Fb c);simp_all
theorem xM(x:Str): ∀(l:Str),Zm l=true->zV 34 (encB quoB l++34::x)=(some l,x)
 |[],_=>by rw[encB,Mc,qO,La (by decide)]
 |c::r,h=>by
  obtain⟨f,k⟩:=QL h;have m:=xM x r k;obtain⟨p,j⟩:=AZ c;rw[encB,Ra];cases a:quoB c with
  |true=>
   obtain⟨d,t,o,n,b⟩:=Po f (p a) (encB quoB r++34::x);rw[Ea,o,qO,Ga (by decide),Ga (by decide),La (by decide),show(d::t).isEmpty=false from rfl,Ga (by decide),show atS (d::t) 0=d from rfl,n,Ga (by decide),b]
   grind
  |false=> obtain⟨g,i,e⟩:=j a;rw[Ha,Yc,qO,g,Ga (by decide),i,Ga (by decide),e,Ga (by decide),m];rfl
theorem TN(c:UInt8):(urB c=true->c.toNat<128)/\(urB c=false->(c==41)=false/\spB c=false/\(c==34||c==39||c==40||unB c)=false/\(c==92)=false/\(c==34)=false/\(c==39)=false):=by
 have: ∀n:Nat,n<256->(urB (UInt8.ofNat n)=true->(UInt8.ofNat n).toNat<128)/\(urB (UInt8.ofNat n)=false->(UInt8.ofNat n==41)=false/\spB (UInt8.ofNat n)=false/\(UInt8.ofNat n==34||UInt8.ofNat n==39||UInt8.ofNat n==40||unB (UInt8.ofNat n))=false/\(UInt8.ofNat n==92)=false/\(UInt8.ofNat n==34)=false/\(UInt8.ofNat n==39)=false):=by decide+kernel
 have:=this c.toNat (Fb c);simp_all
theorem wM(x:Str): ∀(l:Str),Zm l=true->urlS (encB urB l++41::x)=(some l,x)
 |[],_=>by rw[encB,Mc,Bl,La (by decide)]
 |c::r,h=>by
  obtain⟨g,n⟩:=QL h;have o:=wM x r n;obtain⟨s,k⟩:=TN c;rw[encB,Ra];cases a:urB c with
  |true=>
   obtain⟨d,t,q,p,e⟩:=Po g (s a) (encB urB r++41::x);have m:escS (92::d::t)=true:=by unfold escS;rw[show atS (92::d::t) 1=d from rfl,p];rfl
   rw[Ea,q,Bl,Ga (by decide),Ga (by decide),m,Ga (by decide),La (by decide),e]
   grind
  |false=> obtain⟨i,j,f,b,_,_⟩:=k a;rw[Ha,Yc,Bl,i,Ga (by decide),j,Ga (by decide),f,b,Rc,Gf,Ga (by decide),Ga (by decide),o];rfl
theorem zAm(x:Str)(l:Str)(h:Zm l=true):past spB (encB urB l++41::x)=encB urB l++41::x/\(atS (encB urB l++41::x) 0==34||atS (encB urB l++41::x) 0==39)=false:=by
 cases l with
 |nil=>exact⟨rfl,rfl⟩
 |cons c r=>
  obtain⟨b,q⟩:=QL h;obtain⟨k,f⟩:=TN c;rw[encB,Ra];cases a:urB c with
  |true=> obtain⟨d,t,i,s,n⟩:=Po b (k a) (encB urB r++41::x);rw[Ea,i];exact⟨rfl,rfl⟩
  |false=> obtain⟨p,e,o,m,j,g⟩:=f a;rw[Ha,Yc];refine⟨by rw[past,e];rfl,?_⟩;show(c==34||c==39)=false;rw[j,g];rfl
theorem zB8{n:Int}{p:Bool}:(partT (n.natAbs%1000) p).isEmpty=((n.natAbs%1000==0)&& !p):=(Yn (r:=n.natAbs%1000) (by omega) p).2.2.2.2
def sgT(n:Int):Str:=if n<0 then [45]else []
theorem uu(n:Int)(p:Bool):numT n p=sgT n++(Lib.decDigits (n.natAbs / 1000)++dotS (if(partT (n.natAbs%1000) p).isEmpty then none else some (partT (n.natAbs%1000) p))):=by
 have h:=(Yn (r:=n.natAbs%1000) (by omega) p).2.2.2.1;unfold numT Ig sgT;rw[h];cases (partT (n.natAbs%1000) p).isEmpty with
 |true=>rfl
 |false=>rfl
theorem q2_T(n:Int)(p:Bool)(x:Str):Mf (numT n p++x)=past digB (dotS (if(partT (n.natAbs%1000) p).isEmpty then none else some (partT (n.natAbs%1000) p))++x):=by
 obtain⟨d,f,g⟩:=oq (n.natAbs / 1000);obtain⟨c,r,e,a⟩:=Ow (n.natAbs / 1000);rw[uu];generalize dotS _=t;unfold Mf;have b:unsign ((sgT n++(Lib.decDigits (n.natAbs / 1000)++t))++x)=Lib.decDigits (n.natAbs / 1000)++(t++x):=by
  unfold sgT;split
  ·rw[Ra,Yc,Ra];rfl
  ·rw[Mc,Ra,e,ma];unfold unsign Xf;rw[show atS (c::(r++(t++x))) 0=c from rfl,Fa.2 (QT a).2.1,Fa.2 (QT a).1];rfl
 rw[b,vB _ _ d]
theorem gG{n:Int}{p:Bool}:(partT (n.natAbs%1000) p).all digB=true:=(Yn (r:=n.natAbs%1000) (by omega) p).1
theorem wF{n:Int}{p:Bool}(h:(partT (n.natAbs%1000) p).isEmpty=true)(x:Str):zB (numT n p++x)=(match expS (zP (past digB x)).1 with|some r=>(r,false)|none=>zP (past digB x)):=by rw[QE,q2_T,h];rfl
theorem wE{n:Int}{p:Bool}(h:(partT (n.natAbs%1000) p).isEmpty=false)(x:Str):zB (numT n p++x)=(match expS (past digB x)with|some r=>(r,false)|none=>(past digB x,false)):=by
 obtain⟨c,r,b⟩: ∃c r,partT (n.natAbs%1000) p=c::r:=by
  cases f:partT (n.natAbs%1000) p with
  |nil=>grind
  |cons c r=>grind
 have a:=gG (n:=n) (p:=p);rw[QE,q2_T,h];have e:past digB (dotS (some (partT (n.natAbs%1000) p))++x)=46::(partT (n.natAbs%1000) p++x):=rfl;rw[show(if false=true then none else some (partT (n.natAbs%1000) p))=some (partT (n.natAbs%1000) p)from rfl,e];have g:zP (46::(partT (n.natAbs%1000) p++x))=(past digB x,false):=by
  have d:digB c=true:=by rw[b,Jd,Ca]at a;exact a.1
  unfold zP;rw[show atS (46::(partT (n.natAbs%1000) p++x)) 1=c by rw[b];rfl,d,show(atS (46::(partT (n.natAbs%1000) p++x)) 0==46&&true)=true from rfl,La rfl];rw[show(46::(partT (n.natAbs%1000) p++x)).drop 1=partT (n.natAbs%1000) p++x from rfl,vB _ _ a]
 grind
theorem uU(n:Int)(p:Bool)(x:Str):nbS (numT n p++x)=true:=by
 obtain⟨c,r,b,a⟩:=Ow (n.natAbs / 1000);rw[uu,b];unfold nbS;have d:unsign ((sgT n++(c::r++dotS (if(partT (n.natAbs%1000) p).isEmpty then none else some (partT (n.natAbs%1000) p))))++x)=c::(r++dotS (if(partT (n.natAbs%1000) p).isEmpty then none else some (partT (n.natAbs%1000) p))++x):=by
  unfold sgT;split
  ·rfl
  ·unfold unsign Xf;show(if(c==43||c==45)then _ else _)=_;rw[Fa.2 (QT a).2.1,Fa.2 (QT a).1];rfl
 rw[d];unfold undot;rw[show atS (c::(r++dotS (if(partT (n.natAbs%1000) p).isEmpty then none else some (partT (n.natAbs%1000) p))++x)) 0=c from rfl,Fa.2 (QT a).2.2.1,Ga (by decide)];exact a
theorem BK{n:Int}(c: -1000000000000<=n)(h2:n<=1000000000000){p:Bool}{x:Str}(f:(zB (numT n p++x)).1=x):(numP (numT n p++x)).val=n:=by
 have h:=FH (numT n p++x);rw[f]at h;have b:=DF (uU n p x);have d:=(Jz c h2 p).1;have a:=zmQ c h2 p;generalize numP (numT n p++x)=N at h b ⊢;have g:N.txt=numT n p:=(List.append_left_inj x).1 h;rw[<-g]at a d;have e:=AU b (Lb d (by decide));rw[a]at e
 grind
theorem Un(n:Int)(p:Bool)(x:Str): ∃c r,numT n p++x=c::r/\(c==45||digB c)=true/\spB c=false/\(c==34||c==39)=false/\(c==35)=false/\c≠47:=by
 obtain⟨c,r,hc,hcd⟩:=Ow (n.natAbs / 1000);have key: ∀d:UInt8,(d==45||digB d)=true->spB d=false/\(d==34||d==39)=false/\(d==35)=false/\d≠47:=by
  intro d;have: ∀n:Nat,n<256->(UInt8.ofNat n==45||digB (UInt8.ofNat n))=true->spB (UInt8.ofNat n)=false/\(UInt8.ofNat n==34||UInt8.ofNat n==39)=false/\(UInt8.ofNat n==35)=false/\UInt8.ofNat n≠47:=by decide+kernel
  have:=this d.toNat (Fb d)
  rwa [Ud]at this
 rw[uu,hc];unfold sgT
 grind
theorem ru(n:Int)(p:Bool)(x:Str):Zl (numT n p++x)=zA (numT n p++x):=by obtain⟨c,r,e,g,f,d,b,h⟩:=Un n p x;have a:=uU n p x;rw[e]at a ⊢;rw[Gt,f,Ga (by decide),d,Ga (by decide),b,Rc,Ga (by decide),a,La rfl]
inductive zf8:zb->Prop
 |cId (l:Str) (h0:l≠[]) (h:Zm l=true):zf8 ⟨1,l,0,[],false⟩
 |cFn (l:Str) (h0:l≠[]) (h:Zm l=true):zf8 ⟨2,l,0,[],false⟩
 |cAt (l:Str) (h0:l≠[]) (h:Zm l=true):zf8 ⟨3,l,0,[],false⟩
 |cHash (l:Str) (f:Bool) (h0:l≠[]) (h:Zm l=true) (hb:f=true\/Dj l=true):zf8 ⟨4,l,0,[],f⟩
 |cStr (l:Str) (h:Zm l=true):zf8 ⟨5,l,0,[],false⟩
 |cUrl (l:Str) (h:Zm l=true):zf8 ⟨7,l,0,[],false⟩
 |cDel (c:UInt8) (h:Vh c.toNat=true):zf8 ⟨9,[c],0,[],false⟩
 |cNum (n:Int) (f:Bool) (h1: -1000000000000<=n) (h2:n<=1000000000000) (hf:f=true->Int.tmod n 1000=0):zf8 ⟨10,[],n,[],f⟩
 |cPct (n:Int) (h1: -1000000000000<=n) (h2:n<=1000000000000):zf8 ⟨11,[],n,[],false⟩
 |cDim (n:Int) (u:Str) (f:Bool) (h1: -1000000000000<=n) (h2:n<=1000000000000) (hf:f=true->Int.tmod n 1000=0) (h0:u≠[]) (h:Zm u=true):zf8 ⟨12,[],n,u,f⟩
 |cMark (k:Int) (h1:13<=k) (h2:k<=24):zf8 ⟨k,[],0,[],false⟩
theorem Jq{t:zb}(h:Gg t=true):zf8 t:=by
 obtain⟨k,l,n,u,f⟩:=t;unfold Gg at h;simp only at h;by_cases h1:(k==1||k==2||k==3)=true
 ·rw[h1,Ea]at h;simp only[Ca,He,Fa,Rb]at h;obtain⟨a,b,rfl,rfl,rfl⟩:=h;simp only[Tc,Rb]at h1;rcases h1 with(rfl|rfl)|rfl
  ·exact .cId l a b
  ·exact .cFn l a b
  ·exact .cAt l a b
 ·rw[Bool.not_eq_true]at h1;rw[h1,Ha]at h;by_cases h4:(k==4)=true
  ·rw[h4,Ea]at h;simp only[Ca,He,Fa,Rb,Tc]at h;obtain⟨a,b,c,rfl,rfl⟩:=h;rw[Rb]at h4;subst h4;exact .cHash l f a b c
  ·rw[Bool.not_eq_true]at h4;rw[h4,Ha]at h;by_cases h5:(k==5||k==7)=true
   ·rw[h5,Ea]at h;simp only[Ca,He,Rb]at h;obtain⟨b,rfl,rfl,rfl⟩:=h;simp only[Tc,Rb]at h5;rcases h5 with rfl|rfl
    ·exact .cStr l b
    ·exact .cUrl l b
   ·rw[Bool.not_eq_true]at h5;rw[h5,Ha]at h;by_cases h9:(k==9)=true
    ·rw[h9,Ea]at h;simp only[Ca,He,Rb]at h;obtain⟨b,rfl,rfl,rfl⟩:=h;rw[Rb]at h9;subst h9;unfold delS at b;split at b
     ·exact .cDel _ b
     ·cases b
    ·rw[Bool.not_eq_true]at h9;rw[h9,Ha]at h;by_cases h10:(k==10||k==11||k==12)=true
     ·rw[h10,Ea]at h;unfold rngS at h;simp only[Ca,jb,Tc,He,Rb]at h;obtain⟨⟨a1,a2,a3⟩,a4,a5,a6,rfl⟩:=h;have hf:f=true->Int.tmod n 1000=0:=by
       intro e;rcases a3 with a3|a3
       ·grind
       ·exact a3
      simp only[Tc,Rb]at h10;rcases h10 with(rfl|rfl)|rfl
      ·have:u=[]:=by
        cases u with
        |nil=>rfl
        |cons c r=>grind
       subst this;exact .cNum n f a1 a2 hf
      ·have:u=[]:=by
        cases u with
        |nil=>rfl
        |cons c r=>grind
       subst this;have:f=false:=by
        rcases a6 with a6|a6
        ·grind
        ·exact a6
       subst this;exact .cPct n a1 a2
      ·have:u≠[]:=by rintro rfl;exact absurd a4 (by decide)
       exact .cDim n u f a1 a2 hf this a5
     ·rw[Bool.not_eq_true]at h10;rw[h10,Ha]at h;simp only[Ca,He,jb,Rb]at h;obtain⟨⟨a1,a2⟩,rfl,rfl,rfl,rfl⟩:=h;exact .cMark k a1 a2
def neu(x:Str):Prop:=x=[]\/ ∃y,x=47::y
theorem zCR{x:Str}(a:neu x)(c:UInt8)(r:Str):brS c (r++x)=brS c r:=by
 rcases a with rfl|⟨y,rfl⟩
 ·grind
 ·exact KV c r y
theorem kz{x:Str}(a:neu x)(q:Str):nmS (q++x)=nmS q:=by
 rcases a with rfl|⟨y,rfl⟩
 ·grind
 ·exact Lu q y
theorem LC{x:Str}(a:neu x):zm x=([],x):=by
 rcases a with rfl|⟨y,rfl⟩
 ·exact qJ
 ·rw[zF,Ga (by decide),show escS (47::y)=false from rfl,Ga (by decide)]
theorem FN{p:UInt8->Bool}(h:p 47=false){x:Str}(a:neu x):past p x=x:=by
 rcases a with rfl|⟨y,rfl⟩
 ·rfl
 ·rw[past,h];rfl
theorem zCO{x:Str}(a:neu x):atS x 0=0\/atS x 0=47:=by
 rcases a with rfl|⟨y,rfl⟩
 ·exact .inl rfl
 ·exact .inr rfl
theorem F6(c:UInt8)(r:Str):Oj (c::r)=((c==101||c==69)&&numS r&& !(List.isPrefixOf [45,45] r)):=rfl
theorem gZ(b:UInt8)(r:Str):numS (b::r)=bif b==45 then !(r==[])&&digN (r.headD 0).toNat else digN b.toNat:=rfl
theorem yI{c:UInt8}{r:Str}(h:Oj (c::r)=true):c=101\/c=69:=by
 unfold Oj at h
 grind
theorem VY{d:UInt8}{t:Str}(h:(d==10)=false):escS (92::d::t)=true:=by unfold escS;rw[show atS (92::d::t) 1=d from rfl,h];rfl
theorem Bt(c:UInt8)(r:Str):Bg (c::r)=bif Oj (c::r)then escC c++encW false 0 r else qg (c::r):=rfl
theorem YI{w:Str}(f:w≠[])(h:Zm w=true)(x:Str):zm (Bg w++x)=(w++(zm x).1,(zm x).2):=by
 cases w with
 |nil=>grind
 |cons c r=>
  obtain⟨a,e⟩:=QL h;rw[Bt];cases b:Oj (c::r)with
  |true=>
   have d:c.toNat<128:=by rcases yI b with rfl|rfl<;>decide
   rw[Ea,Ra,yM a d,JP x 0 e];rfl
  |false=>rw[Ha];exact Vm x h
theorem iF{w:Str}(i:w≠[])(h:Zm w=true):nmS (Bg w)=true:=by
 cases w with
 |nil=>grind
 |cons c r=>
  obtain⟨a,j⟩:=QL h;rw[Bt];cases e:Oj (c::r)with
  |true=>
   have f:c.toNat<128:=by rcases yI e with rfl|rfl<;>decide
   obtain⟨d,t,b,g,_⟩:=Po a f (encW false 0 r);rw[Ea,b];exact pV rfl (VY g)
  |false=>rw[Ha];exact Yk (by simp)
theorem Mk{q:Str}(h:nmS q=true):q≠[]:=by rintro rfl;exact absurd h (by decide)
theorem eF{q:Str}(h:nmS q=true)(x:Str):past digB (q++x)=q++x/\zP (q++x)=(q++x,true):=by
 obtain⟨_,_,_,_,_,_,_,_,b,a,_⟩:=ou (Tp h);cases q with
 |nil=>exact absurd rfl (Mk h)
 |cons c r=> refine⟨by rw[ma,past,show digB c=false from a];rfl,?_⟩;unfold zP;rw[show atS ((c::r)++x) 0=c from rfl,show(c==46)=false from b];rfl
theorem VN{w:Str}(h0:w≠[])(h:Zm w=true)(x:Str):expS (Bg w++x)=none\/ ∃e s,(e=101\/e=69)/\(s=[]\/s=[45])/\w=e::s/\Bg w=e::s:=by
 cases w with
 |nil=>grind
 |cons c r=>
  obtain⟨h1,h2⟩:=QL h;have he92: ∀t:Str,expS (92::t)=none:=fun t=>rfl;cases he:Oj (c::r)with
  |true=>
   left;have hc:c.toNat<128:=by rcases yI he with rfl|rfl<;>decide
   obtain⟨d,t,e1,e2,_⟩:=Po h1 hc (encW false 0 r++x);have:Bg (c::r)++x=92::d::t:=by rw[Bt,he,Ea,Ra,e1]
   grind
  |false=>
   have hu:Bg (c::r)=qg (c::r):=by rw[Bt,he,Ha]
   rw[hu];have hn:qg (c::r)=pcW ((c::r:Str)==[45]) (QU (c::r)) c++encW ((c::r:Str)==[45]) (QU (c::r) - 1) r:=rfl;obtain⟨d,t,e,hd⟩:=uB (dash:=(c::r:Str)==[45]) (k:=QU (c::r)) (by unfold QU;split<;>omega) c (encW ((c::r:Str)==[45]) (QU (c::r) - 1) r);rw[hn,e];rcases hd with⟨rfl,h3⟩|⟨rfl,h3,h4,h5,h6⟩
   ·grind
   ·by_cases hee:d=101\/d=69
    ·have hf:QU (d::r)=1:=by rcases hee with rfl|rfl<;>rfl
     have hdash:((d::r:Str)==[45])=false:=h3;rw[hdash,hf]at h6;have h6':t=encW false 0 r:=h6;have hee':(d==101||d==69)=true:=by rcases hee with rfl|rfl<;>rfl
     cases r with
     |nil=>
      right;rw[encW]at h6'
      grind
     |cons d2 r2=>
      obtain⟨g1,g2⟩:=QL h2;have hnum:numS (d2::r2)=false:=by
       cases hq:numS (d2::r2)with
       |false=>rfl
       |true=>
        exfalso;rw[F6,hee',hq,Sb,Sb]at he;have hp:List.isPrefixOf [45,45] (d2::r2)=true:=by
         cases hh:List.isPrefixOf [45,45] (d2::r2)with
         |true=>rfl
         |false=>grind
        obtain⟨z,hz⟩:=vg.1 hp;rw[<-hz]at hq;exact absurd hq (by show numS (45::45::z)≠true;unfold numS;simp[digN])
      have hgoal: ∀q:Str,digB (atS (unsign q) 0)=false->expS (d::q)=none:=by intro q hq;rw[Pm];show((d==101||d==69)&&digB (atS (unsign q) 0))=false;rw[hq,Df]
      have hpc:encW false 0 (d2::r2)=pcW false 0 d2++encW false 0 r2:=rfl;by_cases h45:d2=45
      ·subst h45;have hp1:pcW false 0 45=[45]:=rfl;cases r2 with
       |nil=>
        right;rw[hpc,hp1,encW]at h6'
        grind
       |cons d3 r3=>
        left;obtain⟨k1,k2⟩:=QL g2;have hdg:digB d3=false:=by
         have:digN d3.toNat=false:=by have:=hnum;unfold numS at this;simpa using this
         exact this
        rw[ma];refine hgoal _ ?_;rw[h6',hpc,hp1];show digB (atS (encW false 0 (d3::r3)++x) 0)=false;rw[show encW false 0 (d3::r3)=pcW false 0 d3++encW false 0 r3 from rfl];unfold pcW;cases hl:letB d3 with
        |true=>exact hdg
        |false=>
         rw[Rc,Rc,Ha];have hc:d3.toNat<128:=by
          by_cases hc:d3.toNat<128
          ·exact hc
          ·rw[(WF hc).1]at hl;cases hl
         obtain⟨d4,t4,e4,_,_⟩:=Po k1 hc (encW false 0 r3++x);rw[Ra,e4];rfl
      ·left;have hdg:digB d2=false:=by
        have:digN d2.toNat=false:=by have:=hnum;rw[gZ,Fa.2 h45,Ha]at this;exact this
        exact this
       rw[ma];refine hgoal _ ?_;rw[h6',hpc];unfold pcW;cases hl:letB d2 with
       |true=>
        have hs:Xf d2=false:=by unfold Xf;rw[Fa.2 h45,Gf,Fa];rintro rfl;exact absurd hl (by decide)
        show digB (atS (if Xf d2 then _ else d2::_) 0)=false;rw[hs,Ga (by decide)];exact hdg
       |false=>
        rw[Rc,Rc,Ha];have hc:d2.toNat<128:=by
         by_cases hc:d2.toNat<128
         ·exact hc
         ·rw[(WF hc).1]at hl;cases hl
        obtain⟨d4,t4,e4,_,_⟩:=Po g1 hc (encW false 0 r2++x);rw[Ra,e4];rfl
    ·left;rw[Pm];have:(d==101||d==69)=false:=by rw[jd,Fa,Fa];exact not_or.1 hee
     rw[ma,show atS (d::(t++x)) 0=d from rfl,this,Rc]
theorem vR{w:Str}(d:w≠[])(h:Zm w=true){x:Str}(a:neu x):expS (Bg w++x)=none:=by
 rcases VN d h x with c|⟨e,s,i,b,_,f⟩
 ·exact c
 ·rw[f,Pm];have g:digB (atS (unsign (s++x)) 0)=false:=by
   rcases b with rfl|rfl
   ·rcases a with rfl|⟨y,rfl⟩<;>rfl
   ·rcases a with rfl|⟨y,rfl⟩<;>rfl
  grind
theorem oH{n:Int}{f:Bool}(a:f=true->Int.tmod n 1000=0):(partT (n.natAbs%1000) (!f)).isEmpty=f:=by
 rw[zB8,Bool.not_not];cases f with
 |false=>grind
 |true=>
  grind
theorem Xz{n:Int}{p:Bool}{z:Str}(b:past digB z=z)(h2:zP z=(z,true))(a:expS z=none):zB (numT n p++z)=(z,(partT (n.natAbs%1000) p).isEmpty):=by
 cases c:(partT (n.natAbs%1000) p).isEmpty with
 |true=>rw[wF c,b,h2];simp only[a]
 |false=>rw[wE c,b];simp only[a]
theorem zBW{x:Str}(a:neu x):past digB x=x/\zP x=(x,true)/\expS x=none:=by
 rcases a with rfl|⟨y,rfl⟩
 ·exact⟨rfl,rfl,rfl⟩
 ·exact⟨rfl,rfl,rfl⟩
theorem l6{q:Str}(h:[45,45,62].isPrefixOf q=true): ∃t,(zm q).2=62::t:=by obtain⟨t,rfl⟩:=vg.1 h;refine⟨t,?_⟩;rw[show [45,45,62]++t=45::45::62::t from rfl,zF,La (by decide),zF,La (by decide),zF,Ga (by decide),Ga (by unfold escS;rw[show atS (62::t) 0=62 from rfl];simp)]
theorem dA{c:UInt8}{r:Str}(h:nmS (c::r)=true)(u: ∀t,(zm (c::r)).2≠62::t):brS c r=7:=by
 obtain⟨i,b,g,d,f,p,a,v,s,l,k⟩:=ou (Tp h);have o:[45,45,62].isPrefixOf (c::r)=false:=by
  cases j:[45,45,62].isPrefixOf (c::r)with
  |false=>rfl
  |true=>obtain⟨t,e⟩:=l6 j;grind
 have n:atS (c::r) 0=c:=rfl;rw[n]at i b g d f a;unfold brS;rw[i,Ga (by decide),b,g,Ga (by decide),d,Rc,Ga (by decide),rU h,Ga (by decide),o,Ga (by decide),zCk (q:=c::r) (m:=[33,45,45]) (show(60:UInt8)≠0 by decide) a,Ga (by decide),f,Rc,Ga (by decide),h,La rfl]
theorem oL{q z:Str}(h:nmS q=true)(i:atS z 0≠10):nmS (q++z)=true:=by
 have b:(atS z 0==10)=false:=Fa.2 i
 match q with
 |[]=>exact absurd h (by decide)
 |[c]=>
  unfold nmS at h ⊢;have f:atS ([c]++z) 0=c:=rfl;rw[show atS [c] 0=c from rfl]at h;rw[f];cases a:c==45 with
  |true=>rw[a,La rfl]at h;exact absurd (show(fstB 0||(0:UInt8)==45||escS [])=true from h) (by decide)
  |false=> rw[a,Ga (by decide)]at h;rw[Ga (by decide)];unfold escS at h ⊢;rw[show atS [c] 0=c from rfl,show atS [c] 1=0 from rfl]at h;rw[f,show atS ([c]++z) 1=atS z 0 from rfl,b];exact h
 |c::d::t=>
  unfold nmS at h ⊢;have f:atS ((c::d::t)++z) 0=c:=rfl;have g:atS ((c::d::t)++z) 1=d:=rfl;have j:((c::d::t)++z).drop 1=(d::t)++z:=rfl;rw[show atS (c::d::t) 0=c from rfl,show atS (c::d::t) 1=d from rfl,show(c::d::t:Str).drop 1=d::t from rfl]at h;rw[f,g,j];cases a:c==45 with
  |true=>
   rw[a,La rfl]at h;rw[La rfl];cases t with
   |nil=> unfold escS at h ⊢;rw[show atS [d] 0=d from rfl,show atS [d] 1=0 from rfl]at h;rw[show atS ([d]++z) 0=d from rfl,show atS ([d]++z) 1=atS z 0 from rfl,b];exact h
   |cons e t=>exact h
  |false=> rw[a,Ga (by decide)]at h;rw[Ga (by decide)];exact h
theorem jG(x:Str):zm (40::x)=([],40::x):=by rw[zF,Ga (by decide),Ga (by unfold escS;rw[show atS (40::x) 0=40 from rfl];simp)]
theorem tL{l:Str}(h:Zm l=true)(x:Str):zm (qg l++40::x)=(l,40::x):=by rw[Vm _ h,jG,Bb]
theorem Ji{q:Str}(h:q≠[]): ∃c r,q=c::r:=by
 cases q with
 |nil=>grind
 |cons c r=>grind
def Eh(f:Bool)(l:Str):Str:=bif f then qg l else encW false 0 l
theorem GQ{f:Bool}{l:Str}(h:Zm l=true)(x:Str):zm (Eh f l++x)=(l++(zm x).1,(zm x).2):=by
 cases f with
 |true=>exact Vm x h
 |false=>exact JP x 0 h
theorem dZ{f:Bool}{l:Str}(h0:l≠[])(h:Zm l=true)(hb:f=true\/Dj l=true):(letB (atS (Eh f l) 0)||escS (Eh f l))=true/\(f=true->nmS (Eh f l)=true)/\(f=false->nmS (Eh f l)=false):=by
 cases f with
 |true=>
  have hn:=Yk h0;obtain⟨c,r,e⟩:=Ji (Mk hn);refine⟨?_,fun _=>hn,fun e=>by cases e⟩;show(letB (atS (qg l) 0)||escS (qg l))=true;rw[e]at hn ⊢;rcases GN hn with h1|h1
  ·rw[show letB (atS (c::r) 0)=true from h1];rfl
  ·grind
 |false=>
  have hb':Dj l=true:=by rcases hb with hb|hb;cases hb;exact hb
  cases l with
  |nil=>grind
  |cons c r=>
   have hw:Eh false (c::r)=pcW false 0 c++encW false 0 r:=rfl;have hb2:(digN c.toNat||(c==45&&(r==[]||digN (r.headD 0).toNat)))=true:=hb';by_cases h45:c=45
   ·subst h45;rw[hw,show pcW false 0 45=[45]from rfl];refine⟨rfl,fun e=>by(cases e),fun _=> ?_⟩;cases r with
    |nil=>rfl
    |cons d t=>
     have hd:digB d=true:=hb2;have hp:pcW false 0 d=[d]:=by
      unfold pcW;have:letB d=true:=by unfold letB;rw[hd,Bool.or_true];rfl
      rw[this];rfl
     rw[show encW false 0 (d::t)=pcW false 0 d++encW false 0 t from rfl,hp];have hk: ∀n:Nat,n<256->digB (UInt8.ofNat n)=true->fstB (UInt8.ofNat n)=false/\(UInt8.ofNat n==45)=false/\(UInt8.ofNat n==92)=false:=by decide+kernel
     have:=hk d.toNat (Fb d);rw[Ud]at this;obtain⟨k1,k2,k3⟩:=this hd;show(fstB d||d==45||escS (d::(encW false 0 t)))=false;unfold escS;rw[k1,k2,show atS (d::encW false 0 t) 0=d from rfl,k3];rfl
   ·have hd:digB c=true:=by
     have:digN c.toNat=true:=by rw[Fa.2 h45,Rc,Gf]at hb2;exact hb2
     exact this
    have hl:letB c=true:=by unfold letB;rw[hd,Bool.or_true];rfl
    have hp:pcW false 0 c=[c]:=by unfold pcW;rw[hl];rfl
    rw[hw,hp];refine⟨by rw[show letB (atS ([c]++encW false 0 r) 0)=letB c from rfl,hl];rfl,fun e=>by(cases e),fun _=> ?_⟩;have hk: ∀n:Nat,n<256->digB (UInt8.ofNat n)=true->fstB (UInt8.ofNat n)=false/\(UInt8.ofNat n==45)=false/\(UInt8.ofNat n==92)=false:=by decide+kernel
    have:=hk c.toNat (Fb c);rw[Ud]at this;obtain⟨k1,k2,k3⟩:=this hd;unfold nmS escS;rw[show atS ([c]++encW false 0 r) 0=c from rfl,k2,Ga (by decide),k1,k3];rfl
theorem zCX(c:UInt8)(h:Vh c.toNat=true)(h2:c≠92):brS c []=8:=by
 have: ∀n:Nat,n<256->Vh (UInt8.ofNat n).toNat=true->UInt8.ofNat n≠92->brS (UInt8.ofNat n) []=8:=by decide+kernel
 have:=this c.toNat (Fb c);simp_all
theorem zCb(x:Str):past digB (37::x)=37::x/\zP (37::x)=(37::x,true)/\expS (37::x)=none:=⟨rfl,rfl,rfl⟩
theorem jM{n:Int}{u:Str}{p:Bool}(x:Str):(numT n p++Bg u)++x=numT n p++(Bg u++x):=Ra ..
theorem iG{c:UInt8}{r x:Str}(a:neu x):Zl (c::(r++x))=nxB (brS c r) c (r++x):=by rw[qh,zCR a]
theorem EN{n:Int}(b: -1000000000000<=n)(h2:n<=1000000000000)(x:Str):Zl ((numT n false++[37])++x)=(⟨11,[],n,[],false⟩,x):=by rw[Ra,Yc];obtain⟨c,e,d⟩:=zCb x;have a:=Xz (n:=n) (p:=false) c e d;have f:=BK b h2 (p:=false) (x:=37::x) (by rw[a]);rw[ru];unfold zA;rw[a,f,Ga (by unfold nmS escS;rw[show atS (37::x) 0=37 from rfl];simp[fstB,alB]),La (by rfl)];rfl
theorem PL{l:Str}(d:l≠[])(h:Zm l=true)(hu:(lowS l==[117,114,108])=false)(x:Str):Zl ((qg l++[40])++x)=(⟨2,l,0,[],false⟩,x):=by rw[Ra,Yc];have b:=oL (z:=40::x) (Yk d) (by show(40:UInt8)≠10;decide);have a:=tL h x;obtain⟨c,r,e⟩:=Ji (Mk b);rw[e]at b a ⊢;rw[qh,dA b (by grind),Ri];unfold qz;rw[a];simp only;rw[La (by rfl),hu,Rc,Ga (by decide)];rfl
theorem OG{l:Str}(h:Zm l=true)(x:Str):Zl ((34::(encB quoB l++[34]))++x)=(⟨5,l,0,[],false⟩,x):=by rw[ma,Ra,Yc,qh,show brS 34 (encB quoB l++34::x)=1 from rfl,Rp,xM x l h];rfl
theorem SN{l:Str}(h:Zm l=true)(x:Str):Zl (([117,114,108,40]++(encB urB l++[41]))++x)=(⟨7,l,0,[],false⟩,x):=by
 have e:([117,114,108,40]++(encB urB l++[41]))++x=117::114::108::40::(encB urB l++41::x):=by simp
 obtain⟨c,b⟩:=zAm x l h;have a:zm (117::114::108::40::(encB urB l++41::x))=([117,114,108],40::(encB urB l++41::x)):=by rw[zF,La (by decide),zF,La (by decide),zF,La (by decide),jG]
 rw[e,qh,dA (by rfl) (by grind),Ri];unfold qz;rw[a];simp only;rw[La (by rfl),Pv,show(40::(encB urB l++41::x)).drop 1=encB urB l++41::x from rfl,c,b,La (by decide),wM x l h];rfl
theorem WO{k:Int}(b:13<=k)(h2:k<=24)(x:Str):Zl (dm k++x)=(⟨k,[],0,[],false⟩,if k=13 then past spB x else x):=by
 have a:k=13\/k=14\/k=15\/k=16\/k=17\/k=18\/k=19\/k=20\/k=21\/k=22\/k=23\/k=24:=by omega
 rcases a with rfl|rfl|rfl|rfl|rfl|rfl|rfl|rfl|rfl|rfl|rfl|rfl<;>rfl
theorem Bp(l:Str):txS ⟨1,l,0,[],false⟩=qg l:=by rw[txS];rfl
theorem Il(l:Str):txS ⟨2,l,0,[],false⟩=qg l++[40]:=by rw[txS];rfl
theorem Dp(l:Str):txS ⟨3,l,0,[],false⟩=64::qg l:=by rw[txS];rfl
theorem uq(l:Str)(f:Bool):txS ⟨4,l,0,[],f⟩=35::Eh f l:=by rw[txS];rfl
theorem Pn(l:Str):txS ⟨5,l,0,[],false⟩=34::(encB quoB l++[34]):=by rw[txS];rfl
theorem Yq(l:Str):txS ⟨7,l,0,[],false⟩=[117,114,108,40]++(encB urB l++[41]):=by rw[txS];rfl
theorem Bq(c:UInt8):txS ⟨9,[c],0,[],false⟩=[c]:=by rw[txS];rfl
theorem gq(n:Int)(f:Bool):txS ⟨10,[],n,[],f⟩=numT n (!f):=by rw[txS];rfl
theorem fq(n:Int):txS ⟨11,[],n,[],false⟩=numT n false++[37]:=by rw[txS];rfl
theorem Aq(n:Int)(u:Str)(f:Bool):txS ⟨12,[],n,u,f⟩=numT n (!f)++Bg u:=by rw[txS];rfl
theorem tq{k:Int}(b:13<=k)(h2:k<=24):txS ⟨k,[],0,[],false⟩=dm k:=by
 have a:k=13\/k=14\/k=15\/k=16\/k=17\/k=18\/k=19\/k=20\/k=21\/k=22\/k=23\/k=24:=by omega
 rcases a with rfl|rfl|rfl|rfl|rfl|rfl|rfl|rfl|rfl|rfl|rfl|rfl<;>rfl
theorem zBf{t:zb}(h:zf8 t)(hb: ¬(t.kind=9/\t.text=[92]))(hu:Vg t=false){x:Str}(hx:neu x):Zl (txS t++x)=(t,x):=by
 have ha:=zCO hx;have hn0:nmS x=false:=by have:=kz hx [];rw[Mc]at this;rw[this];rfl
 cases h with
 |cId l h0 h=>
  have hn:=Yk h0;have hnd:=Vm x h;rw[LC hx,Bb]at hnd;obtain⟨c,r,e⟩:=Ji (Mk hn);rw[Bp];have hr:=yY h;rw[e]at hn hr hnd ⊢;rw[ma,iG hx,dA hn (by grind),Ri];unfold qz;rw[show c::(r++x)=(c::r)++x from rfl,hnd]
  grind
 |cFn l h0 h=>rw[Il];exact PL h0 h (by unfold Vg at hu;exact hu) x
 |cAt l h0 h=>
  have hnd:=Vm x h;rw[LC hx,Bb]at hnd;rw[Dp,ma];have hb6:brS 64 (qg l++x)=6:=by unfold brS;rw[kz hx,Yk h0];rfl
  rw[qh,hb6,Pp,hnd]
 |cHash l f h0 h hbb=>
  obtain⟨g1,g2,g3⟩:=dZ h0 h hbb;have hnd:=GQ (f:=f) h x;rw[LC hx,Bb]at hnd;rw[uq,ma];have hb2:brS 35 (Eh f l)=2:=by unfold brS;rw[g1];rfl
  have hf:nmS (Eh f l)=f:=by
   cases f with
   |true=>exact g2 rfl
   |false=>exact g3 rfl
  rw[iG hx,hb2,Sl,hnd,kz hx,hf]
 |cStr l h=>rw[Pn];exact OG h x
 |cUrl l h=>rw[Yq];exact SN h x
 |cDel c h=>
  have h92:c≠92:=by rintro rfl;exact hb ⟨rfl,rfl⟩
  rw[Bq,ma,iG hx,zCX c h h92,Du,Mc]
 |cNum n f h1 h2 hf=>
  obtain⟨e1,e2,e3⟩:=zBW hx;have he:=Xz (n:=n) (p:= !f) e1 e2 e3;rw[oH hf]at he;rw[gq,ru];unfold zA;rw[BK h1 h2 (by rw[he]),he]
  grind
 |cPct n h1 h2=>rw[fq];exact EN h1 h2 x
 |cDim n u f h1 h2 hf h0 h=> have hnm:=iF h0 h;obtain⟨e1,e2⟩:=eF hnm x;have he:=Xz (n:=n) (p:= !f) e1 e2 (vR h0 h hx);rw[oH hf]at he;rw[Aq,jM,ru];unfold zA;rw[BK h1 h2 (by rw[he]),he];simp only;rw[kz hx,hnm,La rfl,YI h0 h,LC hx,Bb]
 |cMark k h1 h2=> rw[tq h1 h2,WO h1 h2,FN (by decide) hx,ite_self]
def vL(t:zb)(x r:Str):Prop:=zB (numT t.num (!t.flag)++x)=(r,t.flag)/\nmS r=false/\(atS r 0==37)=false
def zA1(x r:Str):Prop:= ∃s,(s=[]\/s=[45])/\digB (atS (unsign (s++x)) 0)=true/\nmS (past digB (unsign (s++x)))=true/\r=(zm (past digB (unsign (s++x)))).2
def NV(t:zb)(x r:Str):Prop:=r=x\/(t.kind=13/\r=past spB x)\/(t.kind=10/\vL t x r)\/(t.kind=12/\zA1 x r)
theorem gM{w r:Str}(h:expS w=some r):(atS w 0=101\/atS w 0=69)/\digB (atS (unsign (w.drop 1)) 0)=true/\r=past digB (unsign (w.drop 1)):=by
 unfold expS at h
 grind
theorem gB{l a:Str}(h:l++a=l):a=[]:=by simp_all
theorem MG{a b:zb}(h:a=b):a.text=b.text:=by rw[h]
theorem GY{t:zb}(h:zf8 t)(hu:Vg t=false){x:Str}(ht:(Zl (txS t++x)).1=t):NV t x (Zl (txS t++x)).2:=by
 cases h with
 |cId l h0 h=>
  left;have hn:=Yk h0;have hnd:=Vm x h;obtain⟨c,r,e⟩:=Ji (Mk hn);rw[Bp]at ht ⊢;rw[e,ma]at ht ⊢;have hbr:=Im c (r++x);rw[ht]at hbr;have hbr':brS c (r++x)=7:=hbr.symm;rw[qh,hbr',Ri]at ht ⊢;rw[show c::(r++x)=qg l++x by rw[e];rfl]at ht ⊢;unfold qz at ht ⊢;rw[hnd]at ht ⊢;simp only at ht ⊢;split at ht
  ·rename_i h40;exfalso;split at ht
   ·have:=congrArg zb.kind ht;rcases GG (urlS (past spB ((zm x).2.drop 1))).1 with hk|hk<;>rw[hk]at this<;>cases this
   grind
  ·rename_i h40;rw[Ga h40];have:=MG ht;exact KC (gB this)
 |cFn l h0 h=> left;rw[Il,PL h0 h (by unfold Vg at hu;exact hu)]
 |cAt l h0 h=> left;rw[Dp,ma]at ht ⊢;have hbr:=Im 64 (qg l++x);rw[ht]at hbr;have hbr':brS 64 (qg l++x)=6:=hbr.symm;rw[qh,hbr',Pp,Vm x h]at ht ⊢;exact KC (gB (MG ht))
 |cHash l f h0 h hbb=> left;rw[uq,ma]at ht ⊢;have hbr:=Im 35 (Eh f l++x);rw[ht]at hbr;have hbr':brS 35 (Eh f l++x)=2:=hbr.symm;rw[qh,hbr',Sl,GQ h x]at ht ⊢;exact KC (gB (MG ht))
 |cStr l h=>left;rw[Pn,OG h]
 |cUrl l h=>left;rw[Yq,SN h]
 |cDel c h=> left;rw[Bq,ma]at ht ⊢;have hbr:=Im c ([]++x);rw[ht]at hbr;have hbr':brS c ([]++x)=8:=hbr.symm;rw[qh,hbr',Du,Mc]
 |cNum n f h1 h2 hf=>
  right;right;left;refine⟨rfl,?_⟩;rw[gq,ru]at ht ⊢;unfold vL;show zB (numT n (!f)++x)=_/\_;unfold zA at ht ⊢
  grind
 |cPct n h1 h2=>left;rw[fq,EN h1 h2]
 |cDim n u f h1 h2 hf h0 h=>
  have hnm:=iF h0 h;obtain⟨e1,e2⟩:=eF hnm x;rw[Aq,jM,ru]at ht ⊢;have plain:expS (Bg u++x)=none->(zA (numT n (!f)++(Bg u++x))).2=x:=by
   intro hexp;have he:=Xz (n:=n) (p:= !f) e1 e2 hexp;unfold zA at ht ⊢;rw[he]at ht ⊢;simp only at ht ⊢;split at ht
   ·rename_i hn;rw[La hn];rw[YI h0 h]at ht ⊢;have:(u++(zm x).1)=u:=congrArg zb.unit ht;exact KC (gB this)
   ·grind
  rcases VN h0 h x with hx|⟨e,s,he,hs,_,hu'⟩
  ·left;exact plain hx
  ·cases hexp:expS (Bg u++x)with
   |none=>left;exact plain hexp
   |some z=>
    right;right;right;refine⟨rfl,s,hs,?_⟩;obtain⟨_,hd,hz⟩:=gM hexp;have hdrop:(Bg u++x).drop 1=s++x:=by rw[hu'];rfl
    rw[hdrop]at hd hz;have hend:zB (numT n (!f)++(Bg u++x))=(z,false):=by
     cases hp:(partT (n.natAbs%1000) (!f)).isEmpty with
     |true=>rw[wF hp,e1,e2];simp only[hexp]
     |false=>rw[wE hp,e1];simp only[hexp]
    unfold zA at ht ⊢
    grind
 |cMark k h1 h2=>
  rw[tq h1 h2,WO h1 h2];by_cases hk:k=13
  ·right;grind
  ·left
   grind
end Go.Lv.VT
