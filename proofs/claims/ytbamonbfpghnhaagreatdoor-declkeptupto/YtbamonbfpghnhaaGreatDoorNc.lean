/- What is read of a text, and of a longer one. -/
import Derived.Test.YtbamonbfpghnhaaGreatDoorNb
import Derived.Test.YtbamonbfpghnhaaGreatDoorLaw
import Derived.Test.YtbamonbfpghnhaaGreatDoorNam
set_option linter.unusedSimpArgs false
set_option linter.unusedVariables false
namespace Go.Lv.VT
set_option maxRecDepth 100000
theorem Yh{q:Str}{n:Nat}(x:Str)(h:n<q.length):atS (q++x) n=atS q n:=by
 unfold atS
 grind
theorem Ak{p:UInt8->Bool}(x:Str): ∀{q:Str},past p q≠[]->past p (q++x)=past p q++x
 |[],h=>absurd rfl h
 |c::r,h=>by
  rw[Ra,past,past];rw[past]at h;cases a:p c with
  |true=>rw[a,Ga rfl]at h;rw[Ga rfl,Ga rfl];exact Ak x h
  |false=>rfl
theorem Yx{p:UInt8->Bool}(x:Str): ∀{q:Str},past p q≠[]->(q++x).takeWhile p=q.takeWhile p
 |[],h=>absurd rfl h
 |c::r,h=>by
  rw[Ra,List.takeWhile_cons,List.takeWhile_cons];rw[past]at h;cases a:p c with
  |true=>rw[a,Ga rfl]at h;rw[Ga rfl,Ga rfl,Yx x h]
  |false=>rfl
theorem yN(x:Str): ∀{k n:Nat} {l:Str},(hexes k n l).2≠[]->hexes k n (l++x)=((hexes k n l).1,(hexes k n l).2++x)
 |0,n,l,_=>rfl
 |k+1,n,[],h=>absurd rfl h
 |k+1,n,c::r,h=>by
  rw[Ra,hexes,hexes];rw[hexes]at h;split
  ·rename_i a;rw[Ga a]at h;exact yN x h
  ·rfl
theorem mU{l:Str}(x:Str)(h:l≠[]):unsp (l++x)=unsp l++x:=by
 cases l with
 |nil=>grind
 |cons c r=> show(if spB c then r++x else c::(r++x))=(if spB c then r else c::r)++x;split<;>rfl
theorem TA{r:Str}(x:Str)(h:(zq r).2≠[]):zq (r++x)=((zq r).1,(zq r).2++x):=by
 cases r with
 |nil=>exact absurd rfl h
 |cons c r=>
  have e: ∀t:Str,zq (c::t)=if Qg c then(Sg (hexes 6 0 (c::t)).1,unsp (hexes 6 0 (c::t)).2)else([c],t):=fun t=>rfl;rw[Ra,e,e];rw[e]at h;split
  ·rename_i b;rw[Ga b]at h;have a:(hexes 6 0 (c::r)).2≠[]:=by intro d;rw[d]at h;exact h rfl
   rw[show c::(r++x)=(c::r)++x from rfl,yN x a,mU x a]
  ·rfl
theorem Uu{c:UInt8}{r:Str}(x:Str)(h:r≠[]\/c≠92):escS (c::(r++x))=escS (c::r):=by
 unfold escS;show(c==92&& !(atS (r++x) 0==10))=(c==92&& !(atS r 0==10));rcases h with h|h
 ·cases r with
  |nil=>grind
  |cons d t=>rfl
 grind
theorem Ar{q:Str}(x:Str)(h:(zm q).2≠[]):zm (q++x)=((zm q).1,(zm q).2++x):=by
 match q with
 |[]=>rw[qH]at h;grind
 |c::r=>
  rw[Ra,zN,zN];rw[zN]at h;cases f:letB c with
  |true=> rw[f,Ga rfl]at h;simp only[Ce];rw[Ar x h]
  |false=>
   rw[f,Fa (by decide)]at h;simp only[Sb,Od];cases a:escS (c::r)with
   |true=>
    rw[a,Ga rfl]at h;have g:(zq r).2≠[]:=by intro e;simp only[e,qH]at h;exact h rfl
    have b:r≠[]:=by rintro rfl;exact g rfl
    rw[Uu x (.inl b),a];simp only[Ce];rw[TA x g];have:=z8 r;simp only;rw[Ar x h]
   |false=>
    have b:r≠[]\/c≠92:=by
     cases r with
     |nil=> right;rintro rfl;exact absurd a (by decide)
     |cons d t=>left;simp
    rw[Uu x b,a];grind
termination_by q.length
decreasing_by
 all_goals grind
theorem NA{m:UInt8}{q:Str}(x:Str)(h:(zZ m q).2≠[]):zZ m (q++x)=((zZ m q).1,(zZ m q).2++x):=by
 match q with
 |[]=>rw[Uo]at h;grind
 |c::r=>
  rw[Ra,qF,qF];rw[qF]at h;cases g:c==m with
  |true=>grind
  |false=>
   rw[g,Fa (by decide)]at h;simp only[Sb,Od];cases k:c==10 with
   |true=>grind
   |false=>
    rw[k,Fa (by decide)]at h;simp only[Sb,Od];cases b:c==92 with
    |false=> rw[b,Fa (by decide)]at h;simp only[Sb,Od];rw[NA x h]
    |true=>
     rw[b,Ga rfl]at h;simp only[Ce];cases f:r with
     |nil=>grind
     |cons d t=>
      rw[f]at h;have j:r.length=t.length+1:=by rw[f];rfl
      rw[Ra,show(d::(t++x)).isEmpty=false from rfl,show(d::t).isEmpty=false from rfl];simp only[Sb,Od];rw[show(d::t).isEmpty=false from rfl,Fa (by decide)]at h;rw[show atS (d::(t++x)) 0=atS (d::t) 0 from rfl];cases a:atS (d::t) 0==10 with
      |true=> rw[a,Ga rfl]at h;simp only[Ce];exact NA (q:=t) x h
      |false=>
       rw[a,Fa (by decide)]at h;simp only[Sb,Od];have i:(zq (d::t)).2≠[]:=by intro e;simp only[e,Uo]at h;exact h rfl
       rw[show d::(t++x)=(d::t)++x from rfl,TA x i];have:=z8 (d::t);simp only;rw[NA x h]
termination_by q.length
decreasing_by
 all_goals grind
theorem Uy{q:Str}(x:Str)(h:badS q≠[]):badS (q++x)=badS q++x:=by
 match q with
 |[]=>rw[su]at h;grind
 |c::r=>
  rw[Ra,Jv,Jv];rw[Jv]at h;cases f:c==41 with
  |true=>grind
  |false=>
   rw[f,Fa (by decide)]at h;simp only[Sb,Od];cases a:escS (c::r)with
   |true=>
    rw[a,Ga rfl]at h;have d:(zq r).2≠[]:=by intro e;rw[e,su]at h;exact h rfl
    have b:r≠[]:=by rintro rfl;exact d rfl
    rw[Uu x (.inl b),a];simp only[Ce];rw[TA x d];have:=z8 r;exact Uy x h
   |false=>
    rw[a,Fa (by decide)]at h;have b:r≠[]\/c≠92:=by left;rintro rfl;rw[su]at h;exact h rfl
    rw[Uu x b,a];simp only[Sb,Od];exact Uy x h
termination_by q.length
decreasing_by
 all_goals grind
theorem FD{q:Str}(x:Str)(h:(urlS q).2≠[]):urlS (q++x)=((urlS q).1,(urlS q).2++x):=by
 match q with
 |[]=>rw[Nn]at h;grind
 |c::r=>
  rw[Ra,Dk,Dk];rw[Dk]at h;cases l:c==41 with
  |true=>grind
  |false=>
   rw[l,Fa (by decide)]at h;simp only[Sb,Od];cases j:spB c with
   |true=>
    rw[j,Ga rfl]at h;simp only[Ce];cases f:past spB r with
    |nil=>grind
    |cons d t=>
     rw[Ak x (by rw[f];simp),f];rw[f]at h;simp only[Ra]at h ⊢;cases a:d==41 with
     |true=>grind
     |false=> rw[a,Fa (by decide)]at h;simp only[Sb,Od];rw[show d::(t++x)=(d::t)++x from rfl,Uy x h]
   |false=>
    rw[j,Fa (by decide)]at h;simp only[Sb,Od];have b:(c=92->r≠[])->escS (c::(r++x))=escS (c::r):=by
     intro k;refine Uu x ?_;by_cases e:c=92
     ·exact .inl (k e)
     ·exact .inr e
    have m:c=92->r≠[]:=by
     rintro rfl rfl;have o:escS [92]=true:=by decide
     rw[o,show((92:UInt8)==92&& !true)=false from rfl,Ke]at h;cases i:((92:UInt8)==34||(92:UInt8)==39||(92:UInt8)==40||unB 92)with
     |true=>exact absurd i (by decide)
     |false=> rw[i,Fa (by decide),Ga (by decide)]at h;exact absurd (by show(urlS (zq []).2).2=[];rw[show(zq []).2=[]from rfl,Nn]) h
    rw[b m];cases a:c==34||c==39||c==40||unB c||c==92&& !escS (c::r)with
    |true=> rw[a,Ga rfl]at h;simp only[Ce];rw[show c::(r++x)=(c::r)++x from rfl,Uy x h]
    |false=>
     rw[a,Fa (by decide)]at h;simp only[Sb,Od];cases g:c==92 with
     |true=>
      rw[g,Ga rfl]at h;simp only[Ce];have n:(zq r).2≠[]:=by intro e;simp only[e,Nn]at h;exact h rfl
      rw[TA x n];have:=z8 r;simp only;rw[FD x h]
     |false=> rw[g,Fa (by decide)]at h;simp only[Sb,Od];rw[FD x h]
termination_by q.length
decreasing_by
 all_goals grind
theorem Jk{q:Str}(x:Str)(h:q≠[]):unsign (q++x)=unsign q++x/\sgOf (q++x)=sgOf q:=by
 cases q with
 |nil=>grind
 |cons c r=> unfold unsign sgOf;show(if Rf c then r++x else c::(r++x))=(if Rf c then r else c::r)++x/\_;refine⟨by split<;>rfl,rfl⟩
def Hf(q:Str):Str:=past digB (unsign q)
theorem bM{q x:Str}(h:(zY q).1≠[])(f:q=[46]->digB (atS x 0)=false):zY (q++x)=((zY q).1++x,(zY q).2)/\dotP (q++x)=dotP q:=by
 unfold zY dotP;unfold zY at h;cases q with
 |nil=>exact absurd rfl h
 |cons c r=>
  have g:(atS ((c::r)++x) 0==46&&digB (atS ((c::r)++x) 1))=(atS (c::r) 0==46&&digB (atS (c::r) 1)):=by
   show(c==46&&digB (atS (r++x) 0))=(c==46&&digB (atS r 0));cases r with
   |nil=>
    cases a:c==46 with
    |false=>rfl
    |true=> rw[Fb]at a;subst a;show(true&&digB (atS x 0))=(true&&digB (atS [] 0));rw[f rfl];rfl
   |cons d t=>rfl
  rw[g];cases e:(atS (c::r) 0==46&&digB (atS (c::r) 1))with
  |false=>grind
  |true=>
   rw[e,Ga rfl]at h;simp only[Ce];rw[show((c::r)++x).drop 1=r++x from rfl,show(c::r).drop 1=r from rfl];have b:past digB r≠[]:=h;rw[Ak x b,Yx x b]
   grind
theorem FU{w x:Str}(hw:w≠[])(h: ∀r,expS w=some r->r≠[])(hn:expS w=none->expS (w++x)=none):
  expS (w++x)=(expS w).map (· ++x)/\expP (w++x)=expP w:=by
 have hP: ∀q:Str,expP q=if(expS q).isSome then some (atS q 0,sgOf (q.drop 1),(unsign (q.drop 1)).takeWhile digB)else none:=by
  intro q;unfold expP expS;cases atS q 0==101||atS q 0==69 with
  |false=>rfl
  |true=>
   grind
 cases he:expS w with
 |none=>
  grind
 |some r=>
  have hr:=h r he;cases w with
  |nil=>grind
  |cons c t=>
   have he':=he;unfold expS at he';cases h1:atS (c::t) 0==101||atS (c::t) 0==69 with
   |false=>grind
   |true=>
    rw[h1,Ga rfl]at he';cases h2:digB (atS (unsign ((c::t).drop 1)) 0)with
    |false=>grind
    |true=>
     rw[h2,Ga rfl]at he';have hrr:past digB (unsign t)=r:=by injection he'
     have ht:t≠[]:=by rintro rfl;exact absurd (show digB (atS (unsign []) 0)=true from h2) (by decide)
     obtain⟨u1,u2⟩:=Jk x ht;have hun:unsign t≠[]:=by intro e;rw[show(c::t).drop 1=t from rfl,e]at h2;exact absurd h2 (by decide)
     have hexp:expS ((c::t)++x)=some (r++x):=by unfold expS;rw[show atS ((c::t)++x) 0=atS (c::t) 0 from rfl,h1,Ga rfl,show((c::t)++x).drop 1=t++x from rfl,u1];have:atS (unsign t++x) 0=atS (unsign t) 0:=Yh x (Fe.2 hun);rw[this,show digB (atS (unsign t) 0)=true from h2,Ga rfl,Ak x (by grind),hrr]
     refine⟨by rw[hexp];rfl,?_⟩;rw[hP,hP,hexp,he];simp only[Option.isSome_some,Ce];rw[show((c::t)++x).drop 1=t++x from rfl,show(c::t).drop 1=t from rfl,u1,u2,Yx x (by grind)];rfl
theorem QF(q:Str):zK q=(match expS (zY (Hf q)).1 with|some r=>(r,false)|none=>zY (Hf q)):=rfl
theorem Gy{q x:Str}(h:(zK q).1≠[])(j:Hf q=[46]->digB (atS x 0)=false)(l:expS (zY (Hf q)).1=none->expS ((zY (Hf q)).1++x)=none):
  zK (q++x)=((zK q).1++x,(zK q).2)/\numP (q++x)=numP q:=by
 rw[QF]at h;have a: ∀r,expS (zY (Hf q)).1=some r->r≠[]:=by intro r p;rw[p]at h;exact h
 have b:(zY (Hf q)).1≠[]:=by intro e;rw[e,show expS []=none from rfl]at h;exact h e
 have c:Hf q≠[]:=by intro e;rw[e]at b;exact b rfl
 have n:q≠[]:=by rintro rfl;exact c rfl
 obtain⟨d,k⟩:=Jk x n;have f:Hf (q++x)=Hf q++x:=by unfold Hf;rw[d];exact Ak x c
 obtain⟨i,m⟩:=bM b j;obtain⟨s,o⟩:=FU b a l;have g: ∀z:Str,numP z=⟨sgOf z,(unsign z).takeWhile digB,dotP (Hf z),expP (zY (Hf z)).1⟩:=fun z=>rfl;constructor
 ·rw[QF,QF,f,i]
  grind
 ·rw[g,g,k,d,Yx x c,f,i,m,o]
def brS(c:UInt8)(r:Str):Nat:=
 if spB c then 0
 else if c==34||c==39 then 1
 else if c==35&&(letB (atS r 0)||escS r)then 2
 else if nbS (c::r)then 3
 else if [45,45,62].isPrefixOf (c::r)then 4
 else if [60,33,45,45].isPrefixOf (c::r)then 5
 else if c==64&&nmS r then 6
 else if nmS (c::r)then 7
 else if Ig c==0 then 8
 else 9
def nxB:Nat->UInt8->Str->ze×Str
 |0,c,r=>(Mg 13,past spB (c::r))
 |1,c,r=>(ni (zZ c r).1,(zZ c r).2)
 |2,_,r=>(⟨4,(zm r).1,0,[],nmS r⟩,(zm r).2)
 |3,c,r=>zG (c::r)
 |4,c,r=>(Mg 15,(c::r).drop 3)
 |5,c,r=>(Mg 14,(c::r).drop 4)
 |6,_,r=>(⟨3,(zm r).1,0,[],false⟩,(zm r).2)
 |7,c,r=>qE (c::r)
 |8,c,r=>(⟨9,[c],0,[],false⟩,r)
 |_+9,c,r=>(Mg (Ig c),r)
theorem Nw(c:UInt8)(r:Str):nxB 0 c r=(Mg 13,past spB (c::r)):=by rw[nxB]
theorem oo(c:UInt8)(r:Str):nxB 1 c r=(ni (zZ c r).1,(zZ c r).2):=by rw[nxB]
theorem ek(c:UInt8)(r:Str):nxB 2 c r=(⟨4,(zm r).1,0,[],nmS r⟩,(zm r).2):=by rw[nxB]
theorem Mi(c:UInt8)(r:Str):nxB 3 c r=zG (c::r):=by rw[nxB]
theorem WS(c:UInt8)(r:Str):nxB 4 c r=(Mg 15,(c::r).drop 3):=by rw[nxB]
theorem DT(c:UInt8)(r:Str):nxB 5 c r=(Mg 14,(c::r).drop 4):=by rw[nxB]
theorem mo(c:UInt8)(r:Str):nxB 6 c r=(⟨3,(zm r).1,0,[],false⟩,(zm r).2):=by rw[nxB]
theorem Ci(c:UInt8)(r:Str):nxB 7 c r=qE (c::r):=by rw[nxB]
theorem ko(c:UInt8)(r:Str):nxB 8 c r=(⟨9,[c],0,[],false⟩,r):=by rw[nxB]
theorem XH(c:UInt8)(r:Str):nxB 9 c r=(Mg (Ig c),r):=rfl
theorem ZW(c:UInt8)(r:Str):Zk (c::r)=nxB (brS c r) c r:=by
 rw[Jo];unfold brS;split
 ·rfl
 ·split
  ·rfl
  ·split
   ·rfl
   ·split
    ·rfl
    ·split
     ·rfl
     ·split
      ·rfl
      ·split
       ·rfl
       ·split
        ·rfl
        ·split<;>rfl
theorem br_4{c:UInt8}{r:Str}:brS c r=4->[45,45,62].isPrefixOf (c::r)=true:=by unfold brS;grind
theorem br_5{c:UInt8}{r:Str}:brS c r=5->[60,33,45,45].isPrefixOf (c::r)=true:=by unfold brS;grind
theorem br_9{c:UInt8}{r:Str}:brS c r=9-> ¬(Ig c==0)=true:=by unfold brS;grind
theorem TS(c:UInt8)(r:Str):brS c r<=9:=by unfold brS;grind
def brK(k:Int):Nat:=
 if k=13 then 0 else if k=5\/k=6 then 1 else if k=4 then 2 else if k=10\/k=11\/k=12 then 3 else if k=15 then 4 else if k=14 then 5 else if k=3 then 6
 else if k=1\/k=2\/k=7\/k=8 then 7 else if k=9 then 8 else 9
theorem DV(c:UInt8):Ig c=0\/(16<=Ig c/\Ig c<=24):=by
 have: ∀n:Nat,n<256->Ig (UInt8.ofNat n)=0\/(16<=Ig (UInt8.ofNat n)/\Ig (UInt8.ofNat n)<=24):=by decide+kernel
 have:=this c.toNat (Jb c);simp_all
theorem iV(o:Option Str):(ni o).kind=5\/(ni o).kind=6:=by cases o<;>simp[ni]
theorem uD(o:Option Str):(mi o).kind=7\/(mi o).kind=8:=by cases o<;>simp[mi]
theorem xZ(l:Str):(qE l).1.kind=1\/(qE l).1.kind=2\/(qE l).1.kind=7\/(qE l).1.kind=8:=by
 unfold qE;split
 ·split
  ·exact .inr (.inr (uD _))
  grind
 ·exact .inl rfl
theorem J6(l:Str):(zG l).1.kind=10\/(zG l).1.kind=11\/(zG l).1.kind=12:=by
 unfold zG
 grind
theorem jS{i:Nat}(h:i<=9):i=0\/i=1\/i=2\/i=3\/i=4\/i=5\/i=6\/i=7\/i=8\/i=9:=by omega
theorem Vl(c:UInt8)(r:Str):brK (Zk (c::r)).1.kind=brS c r:=by
 rw[ZW];rcases jS (TS c r)with h|h|h|h|h|h|h|h|h|h
 ·rw[h];rfl
 ·rw[h,oo];show brK (ni (zZ c r).1).kind=1;rcases iV (zZ c r).1 with h|h<;>rw[h]<;>rfl
 ·rw[h];rfl
 ·rw[h,Mi];rcases J6 (c::r)with h|h|h<;>rw[h]<;>rfl
 ·rw[h];rfl
 ·rw[h];rfl
 ·rw[h];rfl
 ·rw[h,Ci];rcases xZ (c::r)with h|h|h|h<;>rw[h]<;>rfl
 ·rw[h];rfl
 ·have b:=DV c;have a:=br_9 h;rw[Fb]at a;rw[h,XH];show brK (Ig c)=9;unfold brK
  repeat rw[Fa (by omega)]
theorem EY{q x:Str}(h:(qE q).2≠[]):qE (q++x)=((qE q).1,(qE q).2++x):=by
 have g:(zm q).2≠[]:=by intro e;unfold qE at h;rw[e,Fa (by decide)]at h;exact h rfl
 have e:=Ar x g;unfold qE;unfold qE at h;rw[e];simp only;have i:atS ((zm q).2++x) 0=atS (zm q).2 0:=Yh x (Fe.2 g);rw[i];cases b:atS (zm q).2 0==40 with
 |false=>rfl
 |true=>
  rw[b,Ga rfl]at h;simp only[Ce];cases f:(zm q).2 with
  |nil=>grind
  |cons c r=>
   rw[f]at h;rw[show((c::r)++x).drop 1=r++x from rfl];rw[show(c::r).drop 1=r from rfl]at h ⊢;cases j:lowS (zm q).1==[117,114,108]with
   |false=>
    grind
   |true=>
    rw[j,Cb]at h;simp only[Cb];cases a:past spB r with
    |nil=>
     rw[a,Ga (by decide),Nn]at h
     grind
    |cons d t=>
     rw[Ak x (by rw[a];simp),a];rw[a]at h;rw[show atS ((d::t)++x) 0=atS (d::t) 0 from rfl];split
     ·rename_i k;rw[Ga k]at h;rw[FD x h]
     ·rfl
theorem gq{q x:Str}{n:Nat}(h:n<=q.length):(q++x).drop n=q.drop n++x:=Bg h
structure zjc (q x:Str):Prop where
 e:zK (q++x)=((zK q).1++x,(zK q).2)
 p:numP (q++x)=numP q
 n:nmS ((zK q).1++x)=nmS (zK q).1
theorem M3{q x:Str}(a:zjc q x)(h:(zG q).2≠[]):zG (q++x)=((zG q).1,(zG q).2++x):=by
 have f:(zK q).1≠[]:=by intro e;unfold zG at h;rw[e,Fa (by decide),Fa (by decide)]at h;exact h rfl
 have b:atS ((zK q).1++x) 0=atS (zK q).1 0:=Yh x (Fe.2 f);unfold zG;unfold zG at h;rw[a.e,a.p];simp only[a.n,b];cases c:nmS (zK q).1 with
 |true=> rw[c,Ga rfl]at h;simp only[Ce];rw[Ar x h]
 |false=>
  simp only[Sb,Od];cases d:atS (zK q).1 0==37 with
  |true=> simp_all
  |false=>grind
theorem cu {c:UInt8} {r x:Str} (f:brS c (r++x)=brS c r) (h:(Zk (c::r)).2≠[]) (e:brS c r=2->nmS (r++x)=nmS r)
  (b:brS c r=3->zjc (c::r) x):Zk (c::(r++x))=((Zk (c::r)).1,(Zk (c::r)).2++x):=by
 rw[ZW c (r++x),f];rw[ZW]at h ⊢;rcases jS (TS c r)with a|a|a|a|a|a|a|a|a|a
 ·rw[a,Nw]at h;rw[a,Nw,Nw,show c::(r++x)=(c::r)++x from rfl,Ak x h]
 ·rw[a,oo]at h;rw[a,oo,oo,NA x h]
 ·rw[a,ek]at h;rw[a,ek,ek,Ar x h,e a]
 ·have g:=b a;rw[a,Mi]at h;rw[a,Mi,Mi,show c::(r++x)=(c::r)++x from rfl,M3 g h]
 ·have d:=Ol (br_4 a);rw[a,WS,WS,show c::(r++x)=(c::r)++x from rfl,gq (show 3<=(c::r).length from d)]
 ·have d:=Ol (br_5 a);rw[a,DT,DT,show c::(r++x)=(c::r)++x from rfl,gq (show 4<=(c::r).length from d)]
 ·rw[a,mo]at h;rw[a,mo,mo,Ar x h]
 ·rw[a,Ci]at h;rw[a,Ci,Ci,show c::(r++x)=(c::r)++x from rfl,EY h]
 ·rw[a,ko,ko]
 ·rw[a,XH,XH]
theorem LF{q:Str}(x:Str)(h:q≠[]):undot (q++x)=undot q++x:=by
 cases q with
 |nil=>grind
 |cons c r=> unfold undot;show(if c==46 then r++x else c::(r++x))=(if c==46 then r else c::r)++x;split<;>rfl
theorem bW(q:Str):q.length<=(undot q).length+1:=by
 unfold undot
 grind
theorem CG(q:Str):q.length<=(unsign q).length+1:=by
 unfold unsign
 grind
theorem Bo{q:Str}(h:1<=q.length):q≠[]:=by grind
theorem zBR{q:Str}(x:Str)(h:3<=q.length):nbS (q++x)=nbS q:=by have b:=CG q;have a:=bW (unsign q);unfold nbS;rw[(Jk x (Bo (by omega))).1,LF x (Bo (by omega)),Yh x (by omega)]
theorem ow{q:Str}(x:Str)(h:3<=q.length):nmS (q++x)=nmS q:=by unfold nmS escS;rw[gq (by omega),Yh x (show 0<q.length by omega),Yh x (show 1<q.length by omega),Yh x (show 0<(q.drop 1).length by grind),Yh x (show 1<(q.drop 1).length by grind)]
theorem Vq{m:Str}: ∀{q:Str} (x:Str),m.length<=q.length->m.isPrefixOf (q++x)=m.isPrefixOf q:=by
 induction m with
 |nil=>grind
 |cons a m c=>
  intro q x h;cases q with
  |nil=>grind
  |cons b t=>
   grind
theorem zBe{c:UInt8}{r:Str}(x:Str)(h:4<=r.length):brS c (r++x)=brS c r:=by
 have e:c::(r++x)=(c::r)++x:=rfl;have hl:(c::r).length=r.length+1:=rfl;unfold brS;rw[e,zBR x (by omega),Vq x (by grind),Vq x (by grind),ow x (q:=r) (by omega),ow x (q:=c::r) (by omega),Yh x (show 0<r.length by omega)];have:escS (r++x)=escS r:=by unfold escS;rw[Yh x (show 0<r.length by omega),Yh x (show 1<r.length by omega)]
 rw[this]
theorem Ui{w:Str}:expS w=none↔((atS w 0==101||atS w 0==69)&&digB (atS (unsign (w.drop 1)) 0))=false:=by
 unfold expS
 grind
theorem EU{w:Str}(x:Str)(h:3<=w.length)(a:expS w=none):expS (w++x)=none:=by rw[Ui]at a ⊢;have b:=CG (w.drop 1);rw[Ub]at b;rw[gq (by omega),(Jk x (Bo (by grind))).1,Yh x (show 0<w.length by omega),Yh x (by omega)];exact a
theorem vY(q:Str):(zY q).1<:+q:=by
 unfold zY;split
 ·exact(Yl _ _).trans (Ie 1 q)
 grind
theorem zBr(q:Str):(zK q).1<:+(zY (Hf q)).1:=by
 rw[QF];cases h:expS (zY (Hf q)).1 with
 |some r=>exact UK (Re _) h
 |none=>grind
theorem FP(q:Str):(zG q).2<:+(zK q).1:=by
 unfold zG;split
 ·exact Ik _
 ·split
  ·exact Ie 1 _
  grind
theorem zAk{q:Str}(x:Str)(h:4<=(zK q).1.length):zjc q x:=by have d:=(zBr q).length_le;have c:=(vY (Hf q)).length_le;obtain⟨a,b⟩:=Gy (q:=q) (x:=x) (Bo (by omega)) (fun e=>by grind) (EU x (by omega));exact⟨a,b,ow x (by omega)⟩
theorem wV{c:UInt8}{r:Str}(x:Str)(h:4<=(Zk (c::r)).2.length):Zk (c::(r++x))=((Zk (c::r)).1,(Zk (c::r)).2++x):=by have b:=(ui c r).length_le;refine cu (zBe x (by omega)) (Bo (by omega)) (fun _=>ow x (by omega)) (fun a=>zAk x ?_);rw[ZW,a,Mi]at h;have:=(FP (c::r)).length_le;omega
theorem Ox(q y:Str):escS (q++47::y)=escS q:=by
 match q with
 |[]=>rfl
 |[c]=>rfl
 |c::d::t=>rfl
theorem Ns(q y:Str):nmS (q++47::y)=nmS q:=by
 match q with
 |[]=>rfl
 |[c]=> unfold nmS;show(if c==45 then fstB 47||47==45||escS (47::y)else fstB c||escS ([c]++47::y))=(if c==45 then fstB 0||0==45||escS []else fstB c||escS [c]);rw[Ox];rfl
 |c::d::t=> unfold nmS;show(if c==45 then fstB d||d==45||escS ((d::t)++47::y)else fstB c||escS ((c::d::t)++47::y))=(if c==45 then fstB d||d==45||escS (d::t)else fstB c||escS (c::d::t));rw[Ox,Ox]
theorem VI(q y:Str):digB (atS (q++47::y) 0)=digB (atS q 0):=by
 cases q with
 |nil=>rfl
 |cons c t=>rfl
theorem fM(q y:Str):unsign (q++47::y)=unsign q++47::y:=by
 cases q with
 |nil=>rfl
 |cons c t=>exact(Jk (47::y) (by simp)).1
theorem nU(q y:Str):undot (q++47::y)=undot q++47::y:=by
 cases q with
 |nil=>rfl
 |cons c t=>exact LF (47::y) (by simp)
theorem zCQ(q y:Str):nbS (q++47::y)=nbS q:=by unfold nbS;rw[fM,nU,VI]
theorem pI{m:Str}(c: ∀b∈m,b≠47): ∀(q y:Str),m.isPrefixOf (q++47::y)=m.isPrefixOf q:=by
 induction m with
 |nil=>grind
 |cons a m d=>
  intro q y;cases q with
  |nil=>
   grind
  |cons b t=>grind
theorem zBI(q y:Str):letB (atS (q++47::y) 0)=letB (atS q 0):=by
 cases q with
 |nil=>rfl
 |cons c t=>rfl
theorem RS(c:UInt8)(r y:Str):brS c (r++47::y)=brS c r:=by have e:c::(r++47::y)=(c::r)++47::y:=rfl;unfold brS;rw[e,zCQ,pI (by decide),pI (by decide),Ns,Ns,zBI,Ox]
theorem zBu{w:Str}(y:Str)(a:expS w=none):expS (w++47::y)=none:=by
 cases w with
 |nil=>rfl
 |cons c t=> rw[Ui]at a ⊢;show((c==101||c==69)&&digB (atS (unsign (t++47::y)) 0))=false;rw[fM,VI];exact a
theorem zBY{q:Str}(y:Str)(h:(zK q).1≠[]):zjc q (47::y):=by obtain⟨a,b⟩:=Gy (q:=q) (x:=47::y) h (fun _=>rfl) (zBu y);exact⟨a,b,Ns _ y⟩
theorem mF{q:Str}(h:(zG q).2≠[]):(zK q).1≠[]:=by intro e;have:=(FP q).length_le;simp_all
theorem zAg{c:UInt8}{r:Str}(y:Str)(h:(Zk (c::r)).2≠[]):Zk (c::(r++47::y))=((Zk (c::r)).1,(Zk (c::r)).2++47::y):=by refine cu (RS c r y) h (fun _=>Ns r y) (fun a=>zBY y ?_);rw[ZW,a,Mi]at h;exact mF h
def LB(c:UInt8)(r x:Str):Prop:=(∃e a,(e=101\/e=69)/\zY (Hf (c::r))=([e,43],a))/\(Zk (c::r)).2=[43]/\(Zk (c::r)).1.kind=12/\digB (atS x 0)=true
theorem sV{c:UInt8}{r x:Str}(hb:brS c r=3)(h:(Zk (c::r)).2≠[])(hx:x≠[])(ht:(zG ((c::r)++x)).1=(zG (c::r)).1):
  zjc (c::r) x\/LB c r x:=by
 have hnx:Zk (c::r)=zG (c::r):=by rw[ZW,hb,Mi]
 rw[hnx]at h;have he:=mF h;have hflag: ∀q:Str,(zG q).1.kind=10->(zG q).1.flag=(zK q).2:=by
  intro q;unfold zG;split
  ·intro h;cases h
  ·grind
 have hnm: ∀q:Str,((zG q).1.kind=12↔nmS (zK q).1=true):=by
  intro q;unfold zG;split
  ·grind
  ·grind
 by_cases hd:Hf (c::r)=[46]->digB (atS x 0)=false
 ·by_cases hn:expS (zY (Hf (c::r))).1=none->expS ((zY (Hf (c::r))).1++x)=none
  ·obtain⟨a,b⟩:=Gy he hd hn;refine .inl ⟨a,b,?_⟩
   grind
  ·right;obtain⟨hn1,hn2⟩:=Classical.not_imp.1 hn;have hend:zK (c::r)=zY (Hf (c::r)):=by rw[QF,hn1]
   rw[hend]at he;obtain⟨w,fl⟩: ∃w fl,zY (Hf (c::r))=(w,fl):=⟨_,_,rfl⟩;obtain⟨fl,hw⟩:=fl;rw[hw]at he hn1 hn2 hend;simp only at he hn1 hn2;rw[Ui]at hn1;rw[Ui]at hn2;cases w with
   |nil=>grind
   |cons e t=>
    have h2:((e==101||e==69)&&digB (atS (unsign (t++x)) 0))=true:=by
     have:((atS ((e::t)++x) 0==101||atS ((e::t)++x) 0==69)&&digB (atS (unsign (((e::t)++x).drop 1)) 0))=true:=by
      cases hh:((atS ((e::t)++x) 0==101||atS ((e::t)++x) 0==69)&&digB (atS (unsign (((e::t)++x).drop 1)) 0))with
      |true=>rfl
      |false=>grind
     exact this
    have h1:((e==101||e==69)&&digB (atS (unsign t) 0))=false:=hn1;rw[Da]at h2;rw[h2.1,Cb]at h1;have hee:e=101\/e=69:=by have:=h2.1;rw[Kc,Fb,Fb]at this;exact this
    have hfst:fstB e=true/\letB e=true/\(e==45)=false:=by rcases hee with rfl|rfl<;>decide
    have hnmw:nmS (e::t)=true:=by unfold nmS;rw[show atS (e::t) 0=e from rfl,hfst.2.2,Fa (by decide),hfst.1];rfl
    have hnum:zG (c::r)=(⟨12,[],(numP (c::r)).val,(zm (e::t)).1,fl⟩,(zm (e::t)).2):=by unfold zG;rw[hend,Ga hnmw]
    rw[hnum]at h;have h':(zm (e::t)).2≠[]:=h;have ht43:t=[43]/\digB (atS x 0)=true:=by
     match t with
     |[]=>rw[zN,Ga hfst.2.1,qH]at h';grind
     |[d]=>
      have hux:unsign ([d]++x)=if Rf d then x else d::x:=rfl;have hu:unsign [d]=if Rf d then []else [d]:=rfl;rw[hux]at h2;rw[hu]at h1;cases hs:Rf d with
      |false=>
       rw[hs,Fa (by decide)]at h1 h2;have:=h2.2;rw[show atS (d::x) 0=atS [d] 0 from rfl,h1]at this;cases this
      |true=>
       rw[hs,Ga rfl]at h2;unfold Rf at hs;rw[Kc,Fb,Fb]at hs;rcases hs with rfl|rfl
       ·grind
       ·rw[zN,Ga hfst.2.1,zN,Ga (by decide),qH]at h';grind
     |d::d2::t2=>
      exfalso;have hlen:1<=(unsign (d::d2::t2)).length:=by have:=CG (d::d2::t2);rw[Ka,Ka]at this;omega
      have:=h2.2;rw[(Jk x (by simp)).1,Yh x (by omega),h1]at this;cases this
    obtain⟨rfl,hdx⟩:=ht43;refine⟨⟨e,fl,hee,hw⟩,?_,?_,hdx⟩
    ·rw[hnx,hnum];show(zm [e,43]).2=[43];rw[zN,Ga hfst.2.1,zN,Fa (by decide),Fa (by decide)]
    ·rw[hnx,hnum]
 ·exfalso;obtain⟨hq2,hdx⟩:=Classical.not_imp.1 hd;have hend:zK (c::r)=([46],true):=by rw[QF,hq2];rfl
  have hnum:zG (c::r)=(⟨10,[],(numP (c::r)).val,[],true⟩,[46]):=by unfold zG;rw[hend,Fa (by decide),Fa (by decide)]
  rw[hnum]at ht;have hf:=hflag ((c::r)++x) (by rw[ht]);rw[ht]at hf;have hun:unsign (c::r)≠[]:=by intro e;rw[Hf,e]at hq2;cases hq2
  have e2:Hf ((c::r)++x)=46::x:=by unfold Hf;rw[(Jk x (by simp)).1,Ak x (by unfold Hf at hq2;rw[hq2];simp)];unfold Hf at hq2;rw[hq2];rfl
  have hw:zY (46::x)=(past digB x,false):=by
   unfold zY;have:digB (atS x 0)=true:=by cases hh:digB (atS x 0)with|true=>rfl|false=>grind
   rw[show atS (46::x) 0=46 from rfl,show atS (46::x) 1=atS x 0 from rfl,this];rfl
  have hfl:(zK ((c::r)++x)).2=false:=by rw[QF,e2,hw];simp only;cases expS (past digB x)<;>rfl
  rw[hfl]at hf;cases hf
theorem PY{c:UInt8}{r x:Str}(h:(Zk (c::r)).2≠[])(hx:x≠[])(ht:(Zk (c::(r++x))).1=(Zk (c::r)).1):
  (Zk (c::(r++x))).2=(Zk (c::r)).2++x\/LB c r x:=by
 have hb:brS c (r++x)=brS c r:=by rw[<-Vl,<-Vl,ht]
 have hh:brS c r=2->nmS (r++x)=nmS r:=by intro hi;have:=congrArg ze.flag ht;rw[ZW,ZW,hb,hi,ek,ek]at this;exact this
 by_cases hi:brS c r=3
 ·have hnx:Zk (c::r)=zG (c::r):=by rw[ZW,hi,Mi]
  have hnx2:Zk (c::(r++x))=zG ((c::r)++x):=by rw[ZW,hb,hi,Mi];rfl
  have ht':=ht;rw[hnx,hnx2]at ht';rcases sV hi h hx ht' with hs|hp
  ·left;rw[cu hb h hh (fun _=>hs)]
  ·exact .inr hp
 ·left;rw[cu hb h hh (fun e=>absurd e hi)]
def run:Str->List ze->Str->Prop
 |q,[],R=>q=R
 |q,t::a,R=> ∃c r,cmtS q=c::r/\(Zk (c::r)).1=t/\run (Zk (c::r)).2 a R
theorem Uq: ∀{ts:List ze} {q R:Str},run q ts R->R<:+q
 |[],q,R,h=>by rw[run]at h;grind
 |t::ts,q,R,h=>by obtain⟨c,r,d,e,b⟩:=h;have a:=uj q;rw[d]at a;exact(Uq b).trans ((ui c r).trans ((Ud c r).trans a))
theorem Xl: ∀{ts:List ze} {q R:Str},run q ts R->Ze q=ts++Ze R
 |[],q,R,h=>by rw[run]at h;subst h;rfl
 |t::ts,q,R,h=>by obtain⟨c,r,d,b,a⟩:=h;rw[qj d,b,Xl a];rfl
theorem Xz: ∀{ts us:List ze} {q R S:Str},run q ts R->run R us S->run q (ts++us) S
 |[],us,q,R,S,h,a=>by rw[run]at h;subst h;exact a
 |t::ts,us,q,R,S,h,a=>by obtain⟨c,r,e,d,b⟩:=h;exact⟨c,r,e,d,Xz b a⟩
theorem fK: ∀{ts us:List ze} {q:Str},Ze q=ts++us-> ∃R,run q ts R/\Ze R=us
 |[],us,q,h=>⟨q,rfl,h⟩
 |t::ts,us,q,h=>by
  cases a:cmtS q with
  |nil=>rw[Ql a]at h;cases h
  |cons c r=> rw[qj a,Ra]at h;injection h with d f;obtain⟨R,e,b⟩:=fK f;exact⟨R,⟨c,r,a,d,e⟩,b⟩
theorem OJ: ∀{ts:List ze} {q R S:Str},run q ts R->run q ts S->R=S
 |[],q,R,S,h,b=>by rw[run]at h b;rw[<-h,b]
 |t::ts,q,R,S,h,b=>by obtain⟨c,r,f,m,g⟩:=h;obtain⟨l,k,a,e,d⟩:=b;rw[f]at a;injection a with i j;subst i j;exact OJ g d
theorem RJ{ts:List ze}{q R:Str}(d:ts≠[]):run (cmtS q) ts R↔run q ts R:=by
 cases ts with
 |nil=>grind
 |cons t ts=>
  constructor
  ·rintro⟨c,r,a,b⟩;rw[Sn]at a;exact⟨c,r,a,b⟩
  ·rintro⟨c,r,a,b⟩;exact⟨c,r,by rw[Sn];exact a,b⟩
theorem gD(x:Str): ∀{l r:Str},clsS l=some r->clsS (l++x)=some (r++x)
 |[],r,h=>by cases h
 |c::t,r,h=>by
  rw[clsS]at h;rw[Ra,clsS];cases t with
  |nil=>
   cases a:c==42&&atS ([]:Str) 0==47 with
   |true=>rw[Da]at a;exact absurd a.2 (by decide)
   |false=>rw[a,Fa (by decide)]at h;cases h
  |cons d u=>
   rw[show atS ((d::u)++x) 0=atS (d::u) 0 from rfl];split
   ·grind
   ·rename_i a;rw[Fa a]at h;exact gD x h
theorem Oq{q x:Str}(h:cmtS q≠[])(a:([47,42]:Str).isPrefixOf (cmtS q++x)=false):cmtS (q++x)=cmtS q++x:=by
 rw[Ji q]at h a ⊢;split at h
 ·rename_i b;have c:=Ol b;rw[show([47,42]:Str).length=2 from rfl]at c;rw[Ga b]at a ⊢;cases d:clsS (q.drop 2)with
  |none=>grind
  |some p=>
   rw[d]at h a;simp only at h a ⊢;rw[Ji (q++x),Vq x (by exact c),b,Ga rfl,gq c,gD x d];simp only;have e:p.length<q.length:=by have e:=(Xj _ d).2;rw[Ub]at e;omega
   exact Oq h a
 ·rename_i b;rw[Fa b]at a ⊢;exact Zr a
termination_by q.length
decreasing_by omega
theorem XL{c d:UInt8}(t x:Str):([47,42]:Str).isPrefixOf ((c::d::t)++x)=([47,42]:Str).isPrefixOf (c::d::t):=Vq x (by grind)
theorem LK{q x:Str}(h:2<=(cmtS q).length):cmtS (q++x)=cmtS q++x:=by refine Oq (Bo (by omega)) ?_;rw[Vq x (by exact h)];exact Nq q
theorem gK{c:UInt8}{r:Str}(h:(Zk (c::r)).2≠[]):2<=(c::r).length:=by
 have b:=(ui c r).length_le;have a:=Fe.2 h
 grind
theorem NJ: ∀{ts:List ze} {q R:Str} (x:Str),run q ts R->4<=R.length->run (q++x) ts (R++x)
 |[],q,R,x,h,_=>by rw[run]at h;subst h;rfl
 |t::ts,q,R,x,h,e=>by obtain⟨c,r,a,f,b⟩:=h;have i:=(Uq b).length_le;have d:=wV x (c:=c) (r:=r) (by omega);have g:=gK (c:=c) (r:=r) (Bo (by omega));refine⟨c,r++x,by rw[LK (by rw[a];exact g),a];rfl,by rw[d];exact f,?_⟩;rw[d];exact NJ x b e
theorem SC{q:Str}(y:Str)(h:cmtS q≠[]):cmtS (q++47::42::y)=cmtS q++47::42::y:=by
 refine Oq h ?_;have b:=Nq q;cases a:cmtS q with
 |nil=>exact absurd a h
 |cons c t=>
  cases t with
  |nil=>
   grind
  |cons d u=>grind
theorem dB: ∀{ts:List ze} {q R:Str} (y:Str),run q ts R->R≠[]->run (q++47::42::y) ts (R++47::42::y)
 |[],q,R,y,h,_=>by rw[run]at h;subst h;rfl
 |t::ts,q,R,y,h,hl=>by
  obtain⟨c,r,h1,h2,h3⟩:=h;have h4:(Zk (c::r)).2≠[]:=by intro e;have:=(Uq h3).length_le;rw[e]at this;exact hl (ae.1 (by simpa using this))
  have h5:=zAg (42::y) h4;refine⟨c,r++47::42::y,by rw[SC y (by rw[h1];simp),h1];rfl,by rw[h5];exact h2,?_⟩;rw[h5];exact dB y h3 hl
def NT(q x:Str)(us:List ze):Prop:= ∃c r,cmtS q=c::r/\LB c r x/\(Zk (c::(r++x))).1=(Zk (c::r)).1/\Ze (Zk (c::(r++x))).2=us
theorem KL: ∀{ts us:List ze} {q R:Str} {x:Str},run q ts R->R≠[]->x≠[]->Ze (q++x)=ts++us->run (q++x) ts (R++x)\/(R=[43]/\ ∃p,p<:+q/\NT p x us)
 |[],us,q,R,x,h,_,_,_=>by rw[run]at h;subst h;exact .inl rfl
 |t::ts,us,q,R,x,h,hl,hx,ht=>by
  obtain⟨c,r,h1,h2,h3⟩:=h;have h4:(Zk (c::r)).2≠[]:=by intro e;have:=(Uq h3).length_le;rw[e]at this;exact hl (ae.1 (by simpa using this))
  have hc:cmtS (q++x)=c::(r++x):=by rw[LK (by rw[h1];exact gK h4),h1];rfl
  rw[qj hc,Ra]at ht;injection ht with ht1 ht2;rcases PY h4 hx (by rw[ht1,h2])with h5|h5
  ·rw[h5]at ht2;rcases KL h3 hl hx ht2 with h6|⟨h6,p,hp,h7⟩
   ·exact .inl ⟨c,r++x,hc,ht1,by rw[h5];exact h6⟩
   ·refine .inr ⟨h6,p,hp.trans ((ui c r).trans ((Ud c r).trans ?_)),h7⟩;rw[<-h1];exact uj q
  ·right;have h43:=h5.2.1;have hR:R=[43]/\ts=[]:=by
    cases ts with
    |nil=>rw[run,h43]at h3;grind
    |cons u us'=> exfalso;rw[h43]at h3;obtain⟨c',r',e1,e2,e3⟩:=h3;rw[show cmtS [43]=[43]from Zr rfl]at e1;injection e1 with e4 e5;subst e4 e5;have:=(Uq e3).length_le;have h9:=(ui (43:UInt8) []).length_le;simp_all
   obtain⟨hR,rfl⟩:=hR;refine⟨hR,q,Re _,c,r,h1,h5,by rw[ht1,h2],?_⟩;rw[ht2];rfl
def encB(p:UInt8->Bool):Str->Str
 |[]=>[]
 |c::r=>(bif p c then escC c else [c])++encB p r
def quoB(c:UInt8):Bool:=c==10||c==12||c==13||c==34||c==92
def urB(c:UInt8):Bool:=decide (c.toNat<=32)||c==34||c==39||c==40||c==41||c==92||c==127
def Yi:Str->Bool
 |[]=>false
 |c::r=>(c==101||c==69)&&numS r&& !(List.isPrefixOf [45,45] r)
def jf:Str->Str
 |[]=>[]
 |c::r=>bif Yi (c::r)then escC c++encW false 0 r else ZF (c::r)
def Uk(k:Int):Str:=
 bif k==13 then [32]else bif k==14 then [60,33,45,45]else bif k==15 then [45,45,62]else bif k==16 then [58]else bif k==17 then [59]else bif k==18 then [44]else
 bif k==19 then [91]else bif k==20 then [93]else bif k==21 then [40]else bif k==22 then [41]else bif k==23 then [123]else [125]
def txS(t:ze):Str:=
 bif t.kind==1 then ZF t.text
 else bif t.kind==2 then ZF t.text++[40]
 else bif t.kind==3 then 64::ZF t.text
 else bif t.kind==4 then 35::(bif t.flag then ZF t.text else encW false 0 t.text)
 else bif t.kind==5 then 34::(encB quoB t.text++[34])
 else bif t.kind==7 then [117,114,108,40]++(encB urB t.text++[41])
 else bif t.kind==9 then t.text
 else bif t.kind==10 then numT t.num (!t.flag)
 else bif t.kind==11 then numT t.num false++[37]
 else bif t.kind==12 then numT t.num (!t.flag)++jf t.unit
 else Uk t.kind
theorem gu(p:UInt8->Bool): ∀l:Str,(encB p l).length<=4*l.length
 |[]=>by unfold encB;simp
 |c::r=>by
  have:=uu c;have:=gu p r;unfold encB
  grind
theorem KU{p:UInt8->Bool}{i:Nat}{l:Str}(h:i<l.length):encB p (l.drop i)=(bif p l[i]then escC l[i]else [l[i]])++encB p (l.drop (i+1)):=by rw[Db h,encB]
theorem XN {R:Type} {step:Int×List UInt8->Option (LO (Int×List UInt8) (List UInt8) R)} {l acc:Str} {p:UInt8->Bool} (hl:l.length<=100000) (ha:acc.length<=100000000)
  (h1: ∀(i:Nat) (a:Str) (hi:i<l.length),a.length<=500000000->step ((i:Int),a)=some (.again (w64 ((i:Int)+1),a++(bif p l[i]then escC l[i]else [l[i]]))))
  (h2: ∀a,step ((l.length:Int),a)=some (.out a)):Lg step (0,acc)=some (.out (acc++encB p l)):=by
 refine ZV (fun z=> ∃(i:Nat) (a:Str),z=((i:Int),a)/\i<=l.length/\a.length<=acc.length+4*i/\a++encB p (l.drop i)=acc++encB p l) (fun z=>l.length - z.1.toNat) _ ?_ ⟨0,acc,rfl,by omega,by omega,rfl⟩;rintro _ ⟨i,a,rfl,hi,hal,he⟩;rcases Gd i l.length with h|h
 ·refine .inl ⟨_,h1 i a h (by omega),⟨i+1,_,by rw[Zd (by omega) (by omega)];rfl,by omega,?_,?_⟩,by simp only;rw[Zd (by omega) (by omega)];omega⟩
  ·have:=uu l[i]
   grind
  ·rw[<-he,KU h,La]
 ·have:i=l.length:=by omega
  subst this;refine .inr (.inl ⟨_,h2 a,?_⟩);rw[<-he,xe (Xa _)];rw[show encB p []=[] by rw[encB],Ua]
theorem YE{l acc:Str}{k:Nat}(d:l.length<=100000)(b:acc.length<=100000000):Z9 ((l,(k:Int)),acc)=some (acc++encW (Vh k l) k l):=by
 unfold Z9;rw[qM (sI (dash:=Vh k l) (k:=k) (l:=l) (acc:=acc) d b (fun i a f b=> ?_) (fun a=> ?_))]
 ·have g:decide ((i:Int)<(l.length:Int))=true:=Ia (by omega);have e:geti l (i:Int)=some l[i]:=Z8 f;have j:decide ((i:Int)>=(k:Int))=(k - i==0):=by
   by_cases h:k<=i
   ·grind
   ·grind
  have m:((k:Int)==0)=(k==0):=by
   by_cases h:k=0
   ·subst h;rfl
   ·grind
  simp only[g,Ea,e,j,m,zg,Aa,kJ,XD];have c:(bif k==0 then true else !(l==[45]))= !Vh k l:=by unfold Vh;cases k==0<;>cases l==[45]<;>rfl
  rw[c];unfold pcW;cases letB l[i]with
  |false=>
   cases k - i==0<;>simp only[zA,Lb,ja,Uc,Rb,Vb,Ea,Ca,Aa,jl l[i] (show a.length<=1000000000 by omega),zh]
  |true=> cases k - i==0<;>cases digB l[i]<;>cases Vh k l<;>simp only[zA,Lb,ja,Uc,Rb,Vb,Vg,Ke,Cb,Ld,Je,Ea,Ca,Aa,Ju,zB (Tg (show a.length+1<=2000000000 by omega)),jl l[i] (show a.length<=1000000000 by omega),zh]
 grind
theorem XZ(l:Str):Vh (Qr l) l=(l==[45]):=by unfold Vh Qr;split<;>rfl
theorem Ot{l acc:Str}(a:l.length<=100000)(b:acc.length<=100000000):Z9 ((l,((Qr l:Nat):Int)),acc)=some (acc++ZF l):=by rw[YE a b,XZ];rfl
theorem iT{n:Nat}{b:Str}(c:n<=1000000000000)(d:b.length<=100000):Un (((n:Int),10),b)=some (b++Lib.decDigits n):=by have a:short b=true:=Ia (by omega);unfold Un;simp only[a,Vb,Bb,decide_true,Cb];rw[Ia (by omega),Ia (by omega)];rfl
theorem kP{m:Nat}(n:m<=1000000000000)(p:Bool)(b:Str)(o:b.length<=90000):
  ((Un ((w64 (Int.tdiv (m:Int) 1000),10),b)).bind fun a=>(Jn (w64 (1000+Int.tmod (m:Int) 1000),10)).bind fun d=>need (decide (1<=(d.length:Int)))<|
   (Jl (List.drop 1 d,[48])).bind fun c=>zW (X:=List UInt8) (R:=List UInt8) (bif !(c==[])then need (zF a.length 1 1)<|need (zF (a++[(46:UInt8)]).length c.length 1)<|some (LX.out (a++[(46:UInt8)]++c))else bif p then need (zF a.length ([46,48]:Str).length 1)<|some (LX.out (a++([46,48]:Str)))else some (LX.out a)) fun l=>some l)=some (b++rf m p):=by
 have k:w64 (Int.tdiv (m:Int) 1000)=((m / 1000:Nat):Int):=by rw[show Int.tdiv (m:Int) 1000=((m / 1000:Nat):Int)from rfl,Zd (by omega) (by omega)]
 have j:w64 (1000+Int.tmod (m:Int) 1000)=((1000+m%1000:Nat):Int):=by rw[show Int.tmod (m:Int) 1000=((m%1000:Nat):Int)from rfl,Zd (by omega) (by omega)];omega
 have f:m%1000<1000:=by omega
 rw[k,j];have i:Jn (((1000+m%1000:Nat):Int),10)=some (49::[d48 (m%1000 / 100),d48 (m%1000 / 10%10),d48 (m%1000%10)]):=by unfold Jn i64B;simp only[decide_true,Cb];rw[Ia (by omega),Ia (by omega)];rw[<-oW f];show some (Lib.itoa _)=_;unfold Lib.itoa;rw[Fa (by omega),Bb]
 have e:=bF (u:=m / 1000) (by omega);rw[iT (by omega) (by omega),Aa,i,Aa,zB (Ia (by simp))];have g:Jl (List.drop 1 (49::[d48 (m%1000 / 100),d48 (m%1000 / 10%10),d48 (m%1000%10)]),[48])=some (dh (m%1000)):=rfl;rw[g,Aa,mY];have h:=OE _ f;simp only[xw,Da,Eb]at h;unfold rf Rk;cases (dh (m%1000)).isEmpty with
 |true=>
  simp only[Lb,Ca,Ea];cases p with
  |true=>rw[Ea,zB (Ij (by grind) (by omega)),zh,La];rfl
  |false=>simp_all
 |false=> simp only[ja,Ca,Ea];rw[zB (Ij (by grind) (by omega)),zB (Ij (by grind) (by omega)),zh,La,La];rfl
theorem oF{n:Int}(d: -1000000000000<=n)(h2:n<=1000000000000)(p:Bool){acc:Str}(c:acc.length<=80000):qd ((n,p),acc)=some (acc++numT n p):=by
 unfold qd numT;simp only[zg];by_cases a:n<0
 ·obtain⟨m,rfl⟩: ∃m:Nat,n= -(m:Int):=⟨n.natAbs,by omega⟩;rw[Ia a,Ea,zB (Ij (by omega) (by omega)),zh,Ga a];simp only;have b:w64 (0 - -(m:Int))=(m:Int):=by rw[show(0 - -(m:Int))=(m:Int) by omega,Zd (by omega) (by omega)]
  rw[b,Int.natAbs_neg,Int.natAbs_natCast,<-La];exact kP (by omega) p (acc++[45]) (by grind)
 ·obtain⟨m,rfl⟩: ∃m:Nat,n=(m:Int):=⟨n.toNat,by omega⟩;rw[Ya a,Ca,zh,Fa a];simp only;rw[Int.natAbs_natCast,Nb];exact kP (by omega) p acc (by omega)
theorem eU: ∀n:Nat,n<256->(ibOr IntKind.u8 (n:Int) 32==101)=(UInt8.ofNat n==101||UInt8.ofNat n==69):=by decide+kernel
theorem tT(c:UInt8):(ibOr IntKind.u8 (c.toNat:Int) 32==101)=(c==101||c==69):=by have:=eU c.toNat (Jb c);simp_all
theorem zAF(c:UInt8):decide (Lib.indexByte [10,12,13,34,92] c.toNat.toUInt8>=0)=quoB c:=by
 have: ∀n:Nat,n<256->decide (Lib.indexByte [10,12,13,34,92] n.toUInt8>=0)=quoB (UInt8.ofNat n):=by decide+kernel
 have:=this c.toNat (Jb c);simp_all
theorem zAU(c:UInt8):(decide ((c.toNat:Int)<=32)||decide (Lib.indexByte [34,39,40,41,92,127] c.toNat.toUInt8>=0))=urB c:=by
 have: ∀n:Nat,n<256->(decide ((n:Int)<=32)||decide (Lib.indexByte [34,39,40,41,92,127] n.toUInt8>=0))=urB (UInt8.ofNat n):=by decide+kernel
 have:=this c.toNat (Jb c);simp_all
theorem H5 {t:ze} (h:Ng t=true) (e:(t.kind==1)=false) (h2:(t.kind==2)=false) (g:(t.kind==3)=false) (d:(t.kind==4)=false) (i:(t.kind==5)=false) (j:(t.kind==7)=false) (f:(t.kind==9)=false)
  (c:(t.kind==10)=false) (b:(t.kind==11)=false) (a:(t.kind==12)=false):13<=t.kind/\t.kind<=24:=by
 unfold Ng at h
 grind
theorem GV: ∀n:Nat,n<12->(Hr ()).bind (fun a=>geti [a.e0,a.e1,a.e2,a.e3,a.e4,a.e5,a.e6,a.e7,a.e8,a.e9,a.e10,a.e11] (wu8 ((13+n:Int) - 13)))=some (Uk (13+n:Int)):=by decide+kernel
theorem pM(k:Int):(Uk k).length<=4:=by
 unfold Uk;cases k==13<;>cases k==14<;>cases k==15<;>simp only[Ea,Ca]<;>try (simp;done)
 grind
theorem wU{t:ze}{acc:Str}(x:Ng t=true)(R:t.text.length<=5000)(h2:t.unit.length<=5000)(ha:acc.length<=60000):Q5 (t,acc)=some (acc++txS t):=by
 have one: ∀q:Str,q.length<=90000->zF q.length 1 1=true:=fun q hq=>Ij (by omega) (by omega);have z: ∀l:Str,l.length<=5000->(ZF l).length<=20000:=fun l hl=>by have:=Wn (l==[45]) (Qr l) l;unfold ZF;omega
 unfold Q5 txS;simp only[zg];cases H:t.kind==1 with
 |true=>simp only[Ea,Yq,Aa,Ot (show t.text.length<=100000 by omega) (show acc.length<=100000000 by omega)]
 |false=>
 cases L:t.kind==2 with
 |true=> simp only[Ea,Ca,Yq,Aa,Ot (show t.text.length<=100000 by omega) (show acc.length<=100000000 by omega)];have:=z t.text R;rw[zB (one _ (by grind)),La]
 |false=>
 cases M:t.kind==3 with
 |true=> simp only[Ea,Ca,Yq,Aa];rw[zB (one _ (by omega)),Ot (by omega) (by grind),La];rfl
 |false=>
 cases Q:t.kind==4 with
 |true=>
  simp only[Ea,Ca,Yq,Aa];cases t.flag with
  |true=> simp only[Ea,zh];rw[zB (one _ (by omega)),Ot (by omega) (by grind),La];rfl
  |false=> simp only[Ca,zh];rw[zB (one _ (by omega)),show(0:Int)=((0:Nat):Int)from rfl,YE (by omega) (by grind),La];rfl
 |false=>
 cases P:t.kind==5 with
 |true=>
  simp only[Ea,Ca];have k:maxLen=9223372036854775807:=rfl;rw[zB (one _ (by omega)),zB (Ia (by omega))];have C:=gu quoB t.text;rw[qM (XN (p:=quoB) (l:=t.text) (acc:=acc++[34]) (by omega) (by grind) (fun i a F y=> ?_) (fun a=> ?_))]
  ·rw[zB (one _ (by grind)),La,La];rfl
  ·have D:decide ((i:Int)<(t.text.length:Int))=true:=Ia (by omega);have A:decide ((0:Int)<=(i:Int))=true:=Ia (by omega);simp only[D,A,Vb,Ea,zU,Bb,Sa F,Aa,Xr,zAF];cases quoB t.text[i]with
   |true=>simp only[Ea,jl _ (show a.length<=1000000000 by omega),Aa,zh]
   |false=>simp only[Ca,Ju,Aa,zB (Tg (show a.length+1<=2000000000 by omega)),zh]
  ·grind
 |false=>
 cases O:t.kind==7 with
 |true=>
  simp only[Ea,Ca];have k:maxLen=9223372036854775807:=rfl;rw[zB (Ij (by grind) (by omega)),zB (Ia (by omega))];have C:=gu urB t.text;rw[qM (XN (p:=urB) (l:=t.text) (acc:=acc++[117,114,108,40]) (by omega) (by grind) (fun i a F y=> ?_) (fun a=> ?_))]
  ·rw[zB (one _ (by grind)),La,La]
  ·have D:decide ((i:Int)<(t.text.length:Int))=true:=Ia (by omega);have A:decide ((0:Int)<=(i:Int))=true:=Ia (by omega);simp only[D,A,Vb,Ea,zU,Bb,Sa F,Aa,Xr];rw[<-zAU];cases decide ((t.text[i].toNat:Int)<=32)with
   |true=>simp only[Lb,Zt,Aa,Ea,Je,jl _ (show a.length<=1000000000 by omega),zh]
   |false=>
    simp only[ja,zQ,Aa,Ca,Ld];cases decide (Lib.indexByte [34,39,40,41,92,127] t.text[i].toNat.toUInt8>=0)with
    |true=>simp only[Ea,jl _ (show a.length<=1000000000 by omega),Aa,zh]
    |false=>simp only[Ca,Ju,Aa,zB (Tg (show a.length+1<=2000000000 by omega)),zh]
  ·grind
 |false=>
 cases N:t.kind==9 with
 |true=> simp only[Ea,Ca];rw[zB (Ij (by omega) (by omega))]
 |false=>
 have g:(t.kind==10||t.kind==11||t.kind==12)=true->rngS t=true/\(!(t.unit==[])==(t.kind==12))=true:=by intro Z;unfold Ng at x;simp only[H,L,M,Q,P,O,N,Z,Bool.or_self,Ca,Ea,Da]at x;exact⟨x.1,x.2.1⟩
 have b:rngS t=true-> -1000000000000<=t.num/\t.num<=1000000000000:=by intro j;unfold rngS at j;simp only[Da,Eb]at j;exact⟨j.1,j.2.1⟩
 cases s:t.kind==10 with
 |true=> obtain⟨u,w⟩:=b (g (by rw[s];rfl)).1;simp only[Ea,Ca,oF u w _ (show acc.length<=80000 by omega),Aa]
 |false=>
 cases E:t.kind==11 with
 |true=>
  obtain⟨u,w⟩:=b (g (by grind)).1;have T:(numT t.num false).length<=25:=by
   have:=Gz (m:=t.num.natAbs) (by omega) false;unfold numT;rw[Ja];split
   ·grind
   ·grind
  simp only[Ea,Ca,oF u w _ (show acc.length<=80000 by omega),Aa];rw[zB (one _ (by grind)),La]
 |false=>
 cases o:t.kind==12 with
 |true=>
  obtain⟨j,X⟩:=g (by grind);obtain⟨u,w⟩:=b j;rw[o]at X;have T:(numT t.num (!t.flag)).length<=25:=by
   have:=Gz (m:=t.num.natAbs) (by omega) (!t.flag);unfold numT;rw[Ja];split
   ·grind
   ·grind
  simp only[Ea,Ca,oF u w _ (show acc.length<=80000 by omega),Aa];cases G:t.unit with
  |nil=>grind
  |cons c r=>
   rw[G,Ka]at h2;have h:geti (c::r) 0=some c:=rfl;have B:List.drop 1 (c::r)=r:=rfl;have f:decide (1<=((c::r:Str).length:Int))=true:=Ia (by grind);simp only[h,B,f,Je,zU,Aa,tT,xQ,Qc,Yq];have v:(acc++numT t.num (!t.flag)).length<=100000000:=by rw[Ja];omega
   have d:=Ot (l:=c::r) (acc:=acc++numT t.num (!t.flag)) (by grind) v;have e:jf (c::r)=(bif (c==101||c==69)&&numS r&& !(List.isPrefixOf [45,45] r)then escC c++encW false 0 r else ZF (c::r)):=rfl;rw[e];have Y:(c==101||c==69)=true->Zc ((c.toNat:Int),acc++numT t.num (!t.flag))=some (acc++numT t.num (!t.flag)++escC c):=fun _=>jl c (by grind);cases S:c==101||c==69 with
   |false=> simp_all
   |true=>
    simp only[zQ,Aa,Ea,Cb];cases J:numS r with
    |false=> simp_all
    |true=>
     simp only[zQ,Aa,Ea,Cb];cases hp:List.isPrefixOf [45,45] r with
     |true=> simp only[Lb,Ca,d,Aa];rw[La]
     |false=> simp only[ja,Ea,Y S,Aa];have K:=uu c;rw[show(0:Int)=((0:Nat):Int)from rfl,YE (by omega) (by rw[Ja,Ja];omega)];rw[La,La];rfl
 |false=>
 obtain⟨W,V⟩:=H5 x H L M Q P O N s E o;obtain⟨n,J⟩: ∃n:Nat,t.kind=13+(n:Int):=⟨(t.kind - 13).toNat,by omega⟩;have h:=GV n (by omega);rw[<-J]at h;have k:=pM t.kind;simp only[Ca];have U:Hr ()=some ⟨[32],[60,33,45,45],[45,45,62],[58],[59],[44],[91],[93],[40],[41],[123],[125]⟩:=rfl;rw[U]at h ⊢;simp only[Aa]at h ⊢;rw[h];simp only[Aa];rw[zB (Ij (by omega) (by omega))]
theorem Ho{c:UInt8}(h0:c≠0)(h:c.toNat<128)(R:Str): ∃d t,escC c++R=92::d::t/\(d==10)=false/\zq (d::t)=([c],R):=by
 unfold escC;cases hg:decide (32<c.toNat)&&decide (c.toNat<127)&& !digB c&& !alB c with
 |true=>
  have hx:Qg c=false/\(c==10)=false:=by
   have: ∀n:Nat,n<256->(decide (32<(UInt8.ofNat n).toNat)&&decide ((UInt8.ofNat n).toNat<127)&& !digB (UInt8.ofNat n)&& !alB (UInt8.ofNat n))=true->Qg (UInt8.ofNat n)=false/\(UInt8.ofNat n==10)=false:=by decide+kernel
   have:=this c.toNat (Jb c);rw[Pd]at this;exact this hg
  exact⟨c,R,rfl,hx.2,by show(if Qg c then _ else _)=_;grind⟩
 |false=> obtain⟨d,t,e,hd,h10⟩:=WF (n:=c.toNat) (Jb c) ([32]++R);refine⟨d,t,by grind,h10,?_⟩;have hh:=iJ (n:=c.toNat) (Jb c) R;rw[show(32::R:Str)=[32]++R from rfl,e]at hh;show(if Qg d then(Sg (hexes 6 0 (d::t)).1,unsp (hexes 6 0 (d::t)).2)else _)=_;rw[Ga hd,hh,dM h0 h];rfl
theorem zAW(n:Nat):Sg n≠[]:=by
 unfold Sg Vk
 grind
theorem UZ(r:Str):(zq r).1≠[]:=by
 cases r with
 |nil=>show Vk≠[];decide
 |cons c r=>
  show(if Qg c then(Sg (hexes 6 0 (c::r)).1,unsp (hexes 6 0 (c::r)).2)else([c],r)).1≠[];split
  ·exact zAW _
  ·simp
theorem cz{x:Str}(h:(zm x).1=[]):(zm x).2=x:=by
 cases x with
 |nil=>rw[qH]
 |cons c r=>
  rw[zN]at h ⊢;split
  ·grind
  ·rename_i b;rw[Fa b]at h;split
   ·rename_i a;rw[Ga a]at h;exact absurd (List.append_eq_nil_iff.1 h).1 (UZ r)
   ·rfl
theorem QO{c:UInt8}{r:Str}(h:Zv (c::r)=true):c≠0/\Zv r=true:=by
 unfold Zv at h ⊢
 grind
theorem CF{dash:Bool}(R:Str): ∀(k:Nat) (l:Str),Zv l=true->(dash=true-> ∀c∈l,c.toNat<128)->zm (encW dash k l++R)=(l++(zm R).1,(zm R).2)
 |_,[],_,_=>by rw[encW];rfl
 |k,c::r,h,a=>by obtain⟨f,d⟩:=QO h;rw[encW,La,VJ f (fun e=>a e c (aa ..)),CF R (k - 1) r d (fun e x b=>a e x (Va _ b))];rfl
theorem QP{l:Str}(R:Str)(h:Zv l=true):zm (ZF l++R)=(l++(zm R).1,(zm R).2):=by refine CF R _ _ h (fun e c a=> ?_);simp_all
theorem TN{l:Str}(R:Str)(k:Nat)(h:Zv l=true):zm (encW false k l++R)=(l++(zm R).1,(zm R).2):=CF R k l h (fun e=>by cases e)
theorem YX(c:UInt8):(quoB c=true->c.toNat<128)/\(quoB c=false->(c==34)=false/\(c==10)=false/\(c==92)=false):=by
 have: ∀n:Nat,n<256->(quoB (UInt8.ofNat n)=true->(UInt8.ofNat n).toNat<128)/\(quoB (UInt8.ofNat n)=false->(UInt8.ofNat n==34)=false/\(UInt8.ofNat n==10)=false/\(UInt8.ofNat n==92)=false):=by decide+kernel
 have:=this c.toNat (Jb c);simp_all
theorem RL(x:Str): ∀(l:Str),Zv l=true->zZ 34 (encB quoB l++34::x)=(some l,x)
 |[],_=>by rw[encB,Nb,qF,Ga (by decide)]
 |c::r,h=>by
  obtain⟨f,k⟩:=QO h;have m:=RL x r k;obtain⟨p,j⟩:=YX c;rw[encB,La];cases a:quoB c with
  |true=>
   obtain⟨d,t,o,n,b⟩:=Ho f (p a) (encB quoB r++34::x);rw[Ea,o,qF,Fa (by decide),Fa (by decide),Ga (by decide),show(d::t).isEmpty=false from rfl,Fa (by decide),show atS (d::t) 0=d from rfl,n,Fa (by decide),b]
   grind
  |false=> obtain⟨g,i,e⟩:=j a;rw[Ca,Oc,qF,g,Fa (by decide),i,Fa (by decide),e,Fa (by decide),m];rfl
theorem bK(c:UInt8):(urB c=true->c.toNat<128)/\(urB c=false->(c==41)=false/\spB c=false/\(c==34||c==39||c==40||unB c)=false/\(c==92)=false/\(c==34)=false/\(c==39)=false):=by
 have: ∀n:Nat,n<256->(urB (UInt8.ofNat n)=true->(UInt8.ofNat n).toNat<128)/\(urB (UInt8.ofNat n)=false->(UInt8.ofNat n==41)=false/\spB (UInt8.ofNat n)=false/\(UInt8.ofNat n==34||UInt8.ofNat n==39||UInt8.ofNat n==40||unB (UInt8.ofNat n))=false/\(UInt8.ofNat n==92)=false/\(UInt8.ofNat n==34)=false/\(UInt8.ofNat n==39)=false):=by decide+kernel
 have:=this c.toNat (Jb c);simp_all
theorem PL(x:Str): ∀(l:Str),Zv l=true->urlS (encB urB l++41::x)=(some l,x)
 |[],_=>by rw[encB,Nb,Dk,Ga (by decide)]
 |c::r,h=>by
  obtain⟨g,n⟩:=QO h;have o:=PL x r n;obtain⟨s,k⟩:=bK c;rw[encB,La];cases a:urB c with
  |true=>
   obtain⟨d,t,q,p,e⟩:=Ho g (s a) (encB urB r++41::x);have m:escS (92::d::t)=true:=by unfold escS;rw[show atS (92::d::t) 1=d from rfl,p];rfl
   rw[Ea,q,Dk,Fa (by decide),Fa (by decide),m,Fa (by decide),Ga (by decide),e]
   grind
  |false=> obtain⟨i,j,f,b,_,_⟩:=k a;rw[Ca,Oc,Dk,i,Fa (by decide),j,Fa (by decide),f,b,Rb,Ke,Fa (by decide),Fa (by decide),o];rfl
theorem kU(x:Str)(l:Str)(h:Zv l=true):past spB (encB urB l++41::x)=encB urB l++41::x/\(atS (encB urB l++41::x) 0==34||atS (encB urB l++41::x) 0==39)=false:=by
 cases l with
 |nil=>exact⟨rfl,rfl⟩
 |cons c r=>
  obtain⟨b,q⟩:=QO h;obtain⟨k,f⟩:=bK c;rw[encB,La];cases a:urB c with
  |true=> obtain⟨d,t,i,s,n⟩:=Ho b (k a) (encB urB r++41::x);rw[Ea,i];exact⟨rfl,rfl⟩
  |false=> obtain⟨p,e,o,m,j,g⟩:=f a;rw[Ca,Oc];refine⟨by rw[past,e];rfl,?_⟩;show(c==34||c==39)=false;rw[j,g];rfl
theorem zAt{n:Int}{p:Bool}:(partT (n.natAbs%1000) p).isEmpty=((n.natAbs%1000==0)&& !p):=(Uj (r:=n.natAbs%1000) (by omega) p).2.2.2.2
def sgT(n:Int):Str:=if n<0 then [45]else []
theorem Yt(n:Int)(p:Bool):numT n p=sgT n++(Lib.decDigits (n.natAbs / 1000)++dotS (if(partT (n.natAbs%1000) p).isEmpty then none else some (partT (n.natAbs%1000) p))):=by
 have h:=(Uj (r:=n.natAbs%1000) (by omega) p).2.2.2.1;unfold numT rf sgT;rw[h];cases (partT (n.natAbs%1000) p).isEmpty with
 |true=>rfl
 |false=>rfl
theorem q2_T(n:Int)(p:Bool)(x:Str):Hf (numT n p++x)=past digB (dotS (if(partT (n.natAbs%1000) p).isEmpty then none else some (partT (n.natAbs%1000) p))++x):=by
 obtain⟨d,f,g⟩:=Kq (n.natAbs / 1000);obtain⟨c,r,e,a⟩:=lu (n.natAbs / 1000);rw[Yt];generalize dotS _=t;unfold Hf;have b:unsign ((sgT n++(Lib.decDigits (n.natAbs / 1000)++t))++x)=Lib.decDigits (n.natAbs / 1000)++(t++x):=by
  unfold sgT;split
  ·rw[La,Oc,La];rfl
  ·rw[Nb,La,e,Ra];unfold unsign Rf;rw[show atS (c::(r++(t++x))) 0=c from rfl,Ha.2 (Q4 a).2.1,Ha.2 (Q4 a).1];rfl
 rw[b,uy _ _ d]
theorem pE{n:Int}{p:Bool}:(partT (n.natAbs%1000) p).all digB=true:=(Uj (r:=n.natAbs%1000) (by omega) p).1
theorem dD{n:Int}{p:Bool}(h:(partT (n.natAbs%1000) p).isEmpty=true)(x:Str):zK (numT n p++x)=(match expS (zY (past digB x)).1 with|some r=>(r,false)|none=>zY (past digB x)):=by rw[QF,q2_T,h];rfl
theorem VC{n:Int}{p:Bool}(h:(partT (n.natAbs%1000) p).isEmpty=false)(x:Str):zK (numT n p++x)=(match expS (past digB x)with|some r=>(r,false)|none=>(past digB x,false)):=by
 obtain⟨c,r,b⟩: ∃c r,partT (n.natAbs%1000) p=c::r:=by
  cases f:partT (n.natAbs%1000) p with
  |nil=>grind
  |cons c r=>grind
 have a:=pE (n:=n) (p:=p);rw[QF,q2_T,h];have e:past digB (dotS (some (partT (n.natAbs%1000) p))++x)=46::(partT (n.natAbs%1000) p++x):=rfl;rw[show(if false=true then none else some (partT (n.natAbs%1000) p))=some (partT (n.natAbs%1000) p)from rfl,e];have g:zY (46::(partT (n.natAbs%1000) p++x))=(past digB x,false):=by
  have d:digB c=true:=by rw[b,Rc,Da]at a;exact a.1
  unfold zY;rw[show atS (46::(partT (n.natAbs%1000) p++x)) 1=c by rw[b];rfl,d,show(atS (46::(partT (n.natAbs%1000) p++x)) 0==46&&true)=true from rfl,Ga rfl];rw[show(46::(partT (n.natAbs%1000) p++x)).drop 1=partT (n.natAbs%1000) p++x from rfl,uy _ _ a]
 grind
theorem dS(n:Int)(p:Bool)(x:Str):nbS (numT n p++x)=true:=by
 obtain⟨c,r,b,a⟩:=lu (n.natAbs / 1000);rw[Yt,b];unfold nbS;have d:unsign ((sgT n++(c::r++dotS (if(partT (n.natAbs%1000) p).isEmpty then none else some (partT (n.natAbs%1000) p))))++x)=c::(r++dotS (if(partT (n.natAbs%1000) p).isEmpty then none else some (partT (n.natAbs%1000) p))++x):=by
  unfold sgT;split
  ·rfl
  ·unfold unsign Rf;show(if(c==43||c==45)then _ else _)=_;rw[Ha.2 (Q4 a).2.1,Ha.2 (Q4 a).1];rfl
 rw[d];unfold undot;rw[show atS (c::(r++dotS (if(partT (n.natAbs%1000) p).isEmpty then none else some (partT (n.natAbs%1000) p))++x)) 0=c from rfl,Ha.2 (Q4 a).2.2.1,Fa (by decide)];exact a
theorem mr{n:Int}(c: -1000000000000<=n)(h2:n<=1000000000000){p:Bool}{x:Str}(f:(zK (numT n p++x)).1=x):(numP (numT n p++x)).val=n:=by
 have h:=jF (numT n p++x);rw[f]at h;have b:=IC (dS n p x);have d:=(Uw c h2 p).1;have a:=p8 c h2 p;generalize numP (numT n p++x)=N at h b ⊢;have g:N.txt=numT n p:=(List.append_left_inj x).1 h;rw[<-g]at a d;have e:=bQ b (Yb d (by decide));rw[a]at e
 grind
theorem dm(n:Int)(p:Bool)(x:Str): ∃c r,numT n p++x=c::r/\(c==45||digB c)=true/\spB c=false/\(c==34||c==39)=false/\(c==35)=false/\c≠47:=by
 obtain⟨c,r,hc,hcd⟩:=lu (n.natAbs / 1000);have key: ∀d:UInt8,(d==45||digB d)=true->spB d=false/\(d==34||d==39)=false/\(d==35)=false/\d≠47:=by
  intro d;have: ∀n:Nat,n<256->(UInt8.ofNat n==45||digB (UInt8.ofNat n))=true->spB (UInt8.ofNat n)=false/\(UInt8.ofNat n==34||UInt8.ofNat n==39)=false/\(UInt8.ofNat n==35)=false/\UInt8.ofNat n≠47:=by decide+kernel
  have:=this d.toNat (Jb d)
  rwa [Pd]at this
 rw[Yt,hc];unfold sgT
 grind
theorem um(n:Int)(p:Bool)(x:Str):Zk (numT n p++x)=zG (numT n p++x):=by obtain⟨c,r,e,g,f,d,b,h⟩:=dm n p x;have a:=dS n p x;rw[e]at a ⊢;rw[Jo,f,Fa (by decide),d,Fa (by decide),b,Rb,Fa (by decide),a,Ga rfl]
inductive zeB:ze->Prop
 |cId (l:Str) (h0:l≠[]) (h:Zv l=true):zeB ⟨1,l,0,[],false⟩
 |cFn (l:Str) (h0:l≠[]) (h:Zv l=true):zeB ⟨2,l,0,[],false⟩
 |cAt (l:Str) (h0:l≠[]) (h:Zv l=true):zeB ⟨3,l,0,[],false⟩
 |cHash (l:Str) (f:Bool) (h0:l≠[]) (h:Zv l=true) (hb:f=true\/Km l=true):zeB ⟨4,l,0,[],f⟩
 |cStr (l:Str) (h:Zv l=true):zeB ⟨5,l,0,[],false⟩
 |cUrl (l:Str) (h:Zv l=true):zeB ⟨7,l,0,[],false⟩
 |cDel (c:UInt8) (h:Ii c.toNat=true):zeB ⟨9,[c],0,[],false⟩
 |cNum (n:Int) (f:Bool) (h1: -1000000000000<=n) (h2:n<=1000000000000) (hf:f=true->Int.tmod n 1000=0):zeB ⟨10,[],n,[],f⟩
 |cPct (n:Int) (h1: -1000000000000<=n) (h2:n<=1000000000000):zeB ⟨11,[],n,[],false⟩
 |cDim (n:Int) (u:Str) (f:Bool) (h1: -1000000000000<=n) (h2:n<=1000000000000) (hf:f=true->Int.tmod n 1000=0) (h0:u≠[]) (h:Zv u=true):zeB ⟨12,[],n,u,f⟩
 |cMark (k:Int) (h1:13<=k) (h2:k<=24):zeB ⟨k,[],0,[],false⟩
theorem Gp{t:ze}(h:Ng t=true):zeB t:=by
 obtain⟨k,l,n,u,f⟩:=t;unfold Ng at h;simp only at h;by_cases h1:(k==1||k==2||k==3)=true
 ·rw[h1,Ea]at h;simp only[Da,Yc,Ha,Fb]at h;obtain⟨a,b,rfl,rfl,rfl⟩:=h;simp only[Kc,Fb]at h1;rcases h1 with(rfl|rfl)|rfl
  ·exact .cId l a b
  ·exact .cFn l a b
  ·exact .cAt l a b
 ·rw[Bool.not_eq_true]at h1;rw[h1,Ca]at h;by_cases h4:(k==4)=true
  ·rw[h4,Ea]at h;simp only[Da,Yc,Ha,Fb,Kc]at h;obtain⟨a,b,c,rfl,rfl⟩:=h;rw[Fb]at h4;subst h4;exact .cHash l f a b c
  ·rw[Bool.not_eq_true]at h4;rw[h4,Ca]at h;by_cases h5:(k==5||k==7)=true
   ·rw[h5,Ea]at h;simp only[Da,Yc,Fb]at h;obtain⟨b,rfl,rfl,rfl⟩:=h;simp only[Kc,Fb]at h5;rcases h5 with rfl|rfl
    ·exact .cStr l b
    ·exact .cUrl l b
   ·rw[Bool.not_eq_true]at h5;rw[h5,Ca]at h;by_cases h9:(k==9)=true
    ·rw[h9,Ea]at h;simp only[Da,Yc,Fb]at h;obtain⟨b,rfl,rfl,rfl⟩:=h;rw[Fb]at h9;subst h9;unfold delS at b;split at b
     ·exact .cDel _ b
     ·cases b
    ·rw[Bool.not_eq_true]at h9;rw[h9,Ca]at h;by_cases h10:(k==10||k==11||k==12)=true
     ·rw[h10,Ea]at h;unfold rngS at h;simp only[Da,Eb,Kc,Yc,Fb]at h;obtain⟨⟨a1,a2,a3⟩,a4,a5,a6,rfl⟩:=h;have hf:f=true->Int.tmod n 1000=0:=by
       intro e;rcases a3 with a3|a3
       ·grind
       ·exact a3
      simp only[Kc,Fb]at h10;rcases h10 with(rfl|rfl)|rfl
      ·have:u=[]:=by
        cases u with
        |nil=>rfl
        |cons c r=>grind
       subst this;exact .cNum n f a1 a2 hf
      ·have:u=[]:=by
        cases u with
        |nil=>rfl
        |cons c r=>grind
       subst this;have:f=false:=by
        rcases a6 with a6|a6
        ·grind
        ·exact a6
       subst this;exact .cPct n a1 a2
      ·have:u≠[]:=by rintro rfl;exact absurd a4 (by decide)
       exact .cDim n u f a1 a2 hf this a5
     ·rw[Bool.not_eq_true]at h10;rw[h10,Ca]at h;simp only[Da,Yc,Eb,Fb]at h;obtain⟨⟨a1,a2⟩,rfl,rfl,rfl,rfl⟩:=h;exact .cMark k a1 a2
def neu(x:Str):Prop:=x=[]\/ ∃y,x=47::y
theorem zBg{x:Str}(a:neu x)(c:UInt8)(r:Str):brS c (r++x)=brS c r:=by
 rcases a with rfl|⟨y,rfl⟩
 ·grind
 ·exact RS c r y
theorem lw{x:Str}(a:neu x)(q:Str):nmS (q++x)=nmS q:=by
 rcases a with rfl|⟨y,rfl⟩
 ·grind
 ·exact Ns q y
theorem dz{x:Str}(a:neu x):zm x=([],x):=by
 rcases a with rfl|⟨y,rfl⟩
 ·exact qH
 ·rw[zN,Fa (by decide),show escS (47::y)=false from rfl,Fa (by decide)]
theorem aL{p:UInt8->Bool}(h:p 47=false){x:Str}(a:neu x):past p x=x:=by
 rcases a with rfl|⟨y,rfl⟩
 ·rfl
 ·rw[past,h];rfl
theorem zBb{x:Str}(a:neu x):atS x 0=0\/atS x 0=47:=by
 rcases a with rfl|⟨y,rfl⟩
 ·exact .inl rfl
 ·exact .inr rfl
theorem wZ(c:UInt8)(r:Str):Yi (c::r)=((c==101||c==69)&&numS r&& !(List.isPrefixOf [45,45] r)):=rfl
theorem dY(b:UInt8)(r:Str):numS (b::r)=bif b==45 then !(r==[])&&digN (r.headD 0).toNat else digN b.toNat:=rfl
theorem jG{c:UInt8}{r:Str}(h:Yi (c::r)=true):c=101\/c=69:=by
 unfold Yi at h
 grind
theorem WX{d:UInt8}{t:Str}(h:(d==10)=false):escS (92::d::t)=true:=by unfold escS;rw[show atS (92::d::t) 1=d from rfl,h];rfl
theorem Cr(c:UInt8)(r:Str):jf (c::r)=bif Yi (c::r)then escC c++encW false 0 r else ZF (c::r):=rfl
theorem KA{w:Str}(f:w≠[])(h:Zv w=true)(x:Str):zm (jf w++x)=(w++(zm x).1,(zm x).2):=by
 cases w with
 |nil=>grind
 |cons c r=>
  obtain⟨a,e⟩:=QO h;rw[Cr];cases b:Yi (c::r)with
  |true=>
   have d:c.toNat<128:=by rcases jG b with rfl|rfl<;>decide
   rw[Ea,La,TL a d,TN x 0 e];rfl
  |false=>rw[Ca];exact QP x h
theorem Tx{w:Str}(i:w≠[])(h:Zv w=true):nmS (jf w)=true:=by
 cases w with
 |nil=>grind
 |cons c r=>
  obtain⟨a,j⟩:=QO h;rw[Cr];cases e:Yi (c::r)with
  |true=>
   have f:c.toNat<128:=by rcases jG e with rfl|rfl<;>decide
   obtain⟨d,t,b,g,_⟩:=Ho a f (encW false 0 r);rw[Ea,b];exact II rfl (WX g)
  |false=>rw[Ca];exact Ki (by simp)
theorem Pi{q:Str}(h:nmS q=true):q≠[]:=by rintro rfl;exact absurd h (by decide)
theorem yx{q:Str}(h:nmS q=true)(x:Str):past digB (q++x)=q++x/\zY (q++x)=(q++x,true):=by
 obtain⟨_,_,_,_,_,_,_,_,b,a,_⟩:=Ep (Dm h);cases q with
 |nil=>exact absurd rfl (Pi h)
 |cons c r=> refine⟨by rw[Ra,past,show digB c=false from a];rfl,?_⟩;unfold zY;rw[show atS ((c::r)++x) 0=c from rfl,show(c==46)=false from b];rfl
theorem vD{w:Str}(h0:w≠[])(h:Zv w=true)(x:Str):expS (jf w++x)=none\/ ∃e s,(e=101\/e=69)/\(s=[]\/s=[45])/\w=e::s/\jf w=e::s:=by
 cases w with
 |nil=>grind
 |cons c r=>
  obtain⟨h1,h2⟩:=QO h;have he92: ∀t:Str,expS (92::t)=none:=fun t=>rfl;cases he:Yi (c::r)with
  |true=>
   left;have hc:c.toNat<128:=by rcases jG he with rfl|rfl<;>decide
   obtain⟨d,t,e1,e2,_⟩:=Ho h1 hc (encW false 0 r++x);have:jf (c::r)++x=92::d::t:=by rw[Cr,he,Ea,La,e1]
   grind
  |false=>
   have hu:jf (c::r)=ZF (c::r):=by rw[Cr,he,Ca]
   rw[hu];have hn:ZF (c::r)=pcW ((c::r:Str)==[45]) (Qr (c::r)) c++encW ((c::r:Str)==[45]) (Qr (c::r) - 1) r:=rfl;obtain⟨d,t,e,hd⟩:=ry (dash:=(c::r:Str)==[45]) (k:=Qr (c::r)) (by unfold Qr;split<;>omega) c (encW ((c::r:Str)==[45]) (Qr (c::r) - 1) r);rw[hn,e];rcases hd with⟨rfl,h3⟩|⟨rfl,h3,h4,h5,h6⟩
   ·grind
   ·by_cases hee:d=101\/d=69
    ·have hf:Qr (d::r)=1:=by rcases hee with rfl|rfl<;>rfl
     have hdash:((d::r:Str)==[45])=false:=h3;rw[hdash,hf]at h6;have h6':t=encW false 0 r:=h6;have hee':(d==101||d==69)=true:=by rcases hee with rfl|rfl<;>rfl
     cases r with
     |nil=>
      right;rw[encW]at h6'
      grind
     |cons d2 r2=>
      obtain⟨g1,g2⟩:=QO h2;have hnum:numS (d2::r2)=false:=by
       cases hq:numS (d2::r2)with
       |false=>rfl
       |true=>
        exfalso;rw[wZ,hee',hq,Cb,Cb]at he;have hp:List.isPrefixOf [45,45] (d2::r2)=true:=by
         cases hh:List.isPrefixOf [45,45] (d2::r2)with
         |true=>rfl
         |false=>grind
        obtain⟨z,hz⟩:=ug.1 hp;rw[<-hz]at hq;exact absurd hq (by show numS (45::45::z)≠true;unfold numS;simp[digN])
      have hgoal: ∀q:Str,digB (atS (unsign q) 0)=false->expS (d::q)=none:=by intro q hq;rw[Ui];show((d==101||d==69)&&digB (atS (unsign q) 0))=false;rw[hq,Uc]
      have hpc:encW false 0 (d2::r2)=pcW false 0 d2++encW false 0 r2:=rfl;by_cases h45:d2=45
      ·subst h45;have hp1:pcW false 0 45=[45]:=rfl;cases r2 with
       |nil=>
        right;rw[hpc,hp1,encW]at h6'
        grind
       |cons d3 r3=>
        left;obtain⟨k1,k2⟩:=QO g2;have hdg:digB d3=false:=by
         have:digN d3.toNat=false:=by have:=hnum;unfold numS at this;simpa using this
         exact this
        rw[Ra];refine hgoal _ ?_;rw[h6',hpc,hp1];show digB (atS (encW false 0 (d3::r3)++x) 0)=false;rw[show encW false 0 (d3::r3)=pcW false 0 d3++encW false 0 r3 from rfl];unfold pcW;cases hl:letB d3 with
        |true=>exact hdg
        |false=>
         rw[Rb,Rb,Ca];have hc:d3.toNat<128:=by
          by_cases hc:d3.toNat<128
          ·exact hc
          ·rw[(lD hc).1]at hl;cases hl
         obtain⟨d4,t4,e4,_,_⟩:=Ho k1 hc (encW false 0 r3++x);rw[La,e4];rfl
      ·left;have hdg:digB d2=false:=by
        have:digN d2.toNat=false:=by have:=hnum;rw[dY,Ha.2 h45,Ca]at this;exact this
        exact this
       rw[Ra];refine hgoal _ ?_;rw[h6',hpc];unfold pcW;cases hl:letB d2 with
       |true=>
        have hs:Rf d2=false:=by unfold Rf;rw[Ha.2 h45,Ke,Ha];rintro rfl;exact absurd hl (by decide)
        show digB (atS (if Rf d2 then _ else d2::_) 0)=false;rw[hs,Fa (by decide)];exact hdg
       |false=>
        rw[Rb,Rb,Ca];have hc:d2.toNat<128:=by
         by_cases hc:d2.toNat<128
         ·exact hc
         ·rw[(lD hc).1]at hl;cases hl
        obtain⟨d4,t4,e4,_,_⟩:=Ho g1 hc (encW false 0 r2++x);rw[La,e4];rfl
    ·left;rw[Ui];have:(d==101||d==69)=false:=by rw[Mc,Ha,Ha];exact not_or.1 hee
     rw[Ra,show atS (d::(t++x)) 0=d from rfl,this,Rb]
theorem wP{w:Str}(d:w≠[])(h:Zv w=true){x:Str}(a:neu x):expS (jf w++x)=none:=by
 rcases vD d h x with c|⟨e,s,i,b,_,f⟩
 ·exact c
 ·rw[f,Ui];have g:digB (atS (unsign (s++x)) 0)=false:=by
   rcases b with rfl|rfl
   ·rcases a with rfl|⟨y,rfl⟩<;>rfl
   ·rcases a with rfl|⟨y,rfl⟩<;>rfl
  grind
theorem Bv{n:Int}{f:Bool}(a:f=true->Int.tmod n 1000=0):(partT (n.natAbs%1000) (!f)).isEmpty=f:=by
 rw[zAt,Bool.not_not];cases f with
 |false=>grind
 |true=>
  grind
theorem Lp{n:Int}{p:Bool}{z:Str}(b:past digB z=z)(h2:zY z=(z,true))(a:expS z=none):zK (numT n p++z)=(z,(partT (n.natAbs%1000) p).isEmpty):=by
 cases c:(partT (n.natAbs%1000) p).isEmpty with
 |true=>rw[dD c,b,h2];simp only[a]
 |false=>rw[VC c,b];simp only[a]
theorem zAe{x:Str}(a:neu x):past digB x=x/\zY x=(x,true)/\expS x=none:=by
 rcases a with rfl|⟨y,rfl⟩
 ·exact⟨rfl,rfl,rfl⟩
 ·exact⟨rfl,rfl,rfl⟩
theorem fZ{q:Str}(h:[45,45,62].isPrefixOf q=true): ∃t,(zm q).2=62::t:=by obtain⟨t,rfl⟩:=ug.1 h;refine⟨t,?_⟩;rw[show [45,45,62]++t=45::45::62::t from rfl,zN,Ga (by decide),zN,Ga (by decide),zN,Fa (by decide),Fa (by unfold escS;rw[show atS (62::t) 0=62 from rfl];simp)]
theorem Lu{c:UInt8}{r:Str}(h:nmS (c::r)=true)(u: ∀t,(zm (c::r)).2≠62::t):brS c r=7:=by
 obtain⟨i,b,g,d,f,p,a,v,s,l,k⟩:=Ep (Dm h);have o:[45,45,62].isPrefixOf (c::r)=false:=by
  cases j:[45,45,62].isPrefixOf (c::r)with
  |false=>rfl
  |true=>obtain⟨t,e⟩:=fZ j;grind
 have n:atS (c::r) 0=c:=rfl;rw[n]at i b g d f a;unfold brS;rw[i,Fa (by decide),b,g,Fa (by decide),d,Rb,Fa (by decide),aS h,Fa (by decide),o,Fa (by decide),CJ (q:=c::r) (m:=[33,45,45]) (show(60:UInt8)≠0 by decide) a,Fa (by decide),f,Rb,Fa (by decide),h,Ga rfl]
theorem nJ{q z:Str}(h:nmS q=true)(i:atS z 0≠10):nmS (q++z)=true:=by
 have b:(atS z 0==10)=false:=Ha.2 i
 match q with
 |[]=>exact absurd h (by decide)
 |[c]=>
  unfold nmS at h ⊢;have f:atS ([c]++z) 0=c:=rfl;rw[show atS [c] 0=c from rfl]at h;rw[f];cases a:c==45 with
  |true=>rw[a,Ga rfl]at h;exact absurd (show(fstB 0||(0:UInt8)==45||escS [])=true from h) (by decide)
  |false=> rw[a,Fa (by decide)]at h;rw[Fa (by decide)];unfold escS at h ⊢;rw[show atS [c] 0=c from rfl,show atS [c] 1=0 from rfl]at h;rw[f,show atS ([c]++z) 1=atS z 0 from rfl,b];exact h
 |c::d::t=>
  unfold nmS at h ⊢;have f:atS ((c::d::t)++z) 0=c:=rfl;have g:atS ((c::d::t)++z) 1=d:=rfl;have j:((c::d::t)++z).drop 1=(d::t)++z:=rfl;rw[show atS (c::d::t) 0=c from rfl,show atS (c::d::t) 1=d from rfl,show(c::d::t:Str).drop 1=d::t from rfl]at h;rw[f,g,j];cases a:c==45 with
  |true=>
   rw[a,Ga rfl]at h;rw[Ga rfl];cases t with
   |nil=> unfold escS at h ⊢;rw[show atS [d] 0=d from rfl,show atS [d] 1=0 from rfl]at h;rw[show atS ([d]++z) 0=d from rfl,show atS ([d]++z) 1=atS z 0 from rfl,b];exact h
   |cons e t=>exact h
  |false=> rw[a,Fa (by decide)]at h;rw[Fa (by decide)];exact h
theorem XE(x:Str):zm (40::x)=([],40::x):=by rw[zN,Fa (by decide),Fa (by unfold escS;rw[show atS (40::x) 0=40 from rfl];simp)]
theorem pJ{l:Str}(h:Zv l=true)(x:Str):zm (ZF l++40::x)=(l,40::x):=by rw[QP _ h,XE,Ua]
theorem Eh{q:Str}(h:q≠[]): ∃c r,q=c::r:=by
 cases q with
 |nil=>grind
 |cons c r=>grind
def lg(f:Bool)(l:Str):Str:=bif f then ZF l else encW false 0 l
theorem uF{f:Bool}{l:Str}(h:Zv l=true)(x:Str):zm (lg f l++x)=(l++(zm x).1,(zm x).2):=by
 cases f with
 |true=>exact QP x h
 |false=>exact TN x 0 h
theorem AO{f:Bool}{l:Str}(h0:l≠[])(h:Zv l=true)(hb:f=true\/Km l=true):(letB (atS (lg f l) 0)||escS (lg f l))=true/\(f=true->nmS (lg f l)=true)/\(f=false->nmS (lg f l)=false):=by
 cases f with
 |true=>
  have hn:=Ki h0;obtain⟨c,r,e⟩:=Eh (Pi hn);refine⟨?_,fun _=>hn,fun e=>by cases e⟩;show(letB (atS (ZF l) 0)||escS (ZF l))=true;rw[e]at hn ⊢;rcases lL hn with h1|h1
  ·rw[show letB (atS (c::r) 0)=true from h1];rfl
  ·grind
 |false=>
  have hb':Km l=true:=by rcases hb with hb|hb;cases hb;exact hb
  cases l with
  |nil=>grind
  |cons c r=>
   have hw:lg false (c::r)=pcW false 0 c++encW false 0 r:=rfl;have hb2:(digN c.toNat||(c==45&&(r==[]||digN (r.headD 0).toNat)))=true:=hb';by_cases h45:c=45
   ·subst h45;rw[hw,show pcW false 0 45=[45]from rfl];refine⟨rfl,fun e=>by(cases e),fun _=> ?_⟩;cases r with
    |nil=>rfl
    |cons d t=>
     have hd:digB d=true:=hb2;have hp:pcW false 0 d=[d]:=by
      unfold pcW;have:letB d=true:=by unfold letB;rw[hd,Vg];rfl
      rw[this];rfl
     rw[show encW false 0 (d::t)=pcW false 0 d++encW false 0 t from rfl,hp];have hk: ∀n:Nat,n<256->digB (UInt8.ofNat n)=true->fstB (UInt8.ofNat n)=false/\(UInt8.ofNat n==45)=false/\(UInt8.ofNat n==92)=false:=by decide+kernel
     have:=hk d.toNat (Jb d);rw[Pd]at this;obtain⟨k1,k2,k3⟩:=this hd;show(fstB d||d==45||escS (d::(encW false 0 t)))=false;unfold escS;rw[k1,k2,show atS (d::encW false 0 t) 0=d from rfl,k3];rfl
   ·have hd:digB c=true:=by
     have:digN c.toNat=true:=by rw[Ha.2 h45,Rb,Ke]at hb2;exact hb2
     exact this
    have hl:letB c=true:=by unfold letB;rw[hd,Vg];rfl
    have hp:pcW false 0 c=[c]:=by unfold pcW;rw[hl];rfl
    rw[hw,hp];refine⟨by rw[show letB (atS ([c]++encW false 0 r) 0)=letB c from rfl,hl];rfl,fun e=>by(cases e),fun _=> ?_⟩;have hk: ∀n:Nat,n<256->digB (UInt8.ofNat n)=true->fstB (UInt8.ofNat n)=false/\(UInt8.ofNat n==45)=false/\(UInt8.ofNat n==92)=false:=by decide+kernel
    have:=hk c.toNat (Jb c);rw[Pd]at this;obtain⟨k1,k2,k3⟩:=this hd;unfold nmS escS;rw[show atS ([c]++encW false 0 r) 0=c from rfl,k2,Fa (by decide),k1,k3];rfl
theorem XI(c:UInt8)(h:Ii c.toNat=true)(h2:c≠92):brS c []=8:=by
 have: ∀n:Nat,n<256->Ii (UInt8.ofNat n).toNat=true->UInt8.ofNat n≠92->brS (UInt8.ofNat n) []=8:=by decide+kernel
 have:=this c.toNat (Jb c);simp_all
theorem zAw(x:Str):past digB (37::x)=37::x/\zY (37::x)=(37::x,true)/\expS (37::x)=none:=⟨rfl,rfl,rfl⟩
theorem TE{n:Int}{u:Str}{p:Bool}(x:Str):(numT n p++jf u)++x=numT n p++(jf u++x):=La ..
theorem WE{c:UInt8}{r x:Str}(a:neu x):Zk (c::(r++x))=nxB (brS c r) c (r++x):=by rw[ZW,zBg a]
theorem nE{n:Int}(b: -1000000000000<=n)(h2:n<=1000000000000)(x:Str):Zk ((numT n false++[37])++x)=(⟨11,[],n,[],false⟩,x):=by rw[La,Oc];obtain⟨c,e,d⟩:=zAw x;have a:=Lp (n:=n) (p:=false) c e d;have f:=mr b h2 (p:=false) (x:=37::x) (by rw[a]);rw[um];unfold zG;rw[a,f,Fa (by unfold nmS escS;rw[show atS (37::x) 0=37 from rfl];simp[fstB,alB]),Ga (by rfl)];rfl
theorem aD{l:Str}(d:l≠[])(h:Zv l=true)(hu:(lowS l==[117,114,108])=false)(x:Str):Zk ((ZF l++[40])++x)=(⟨2,l,0,[],false⟩,x):=by rw[La,Oc];have b:=nJ (z:=40::x) (Ki d) (by show(40:UInt8)≠10;decide);have a:=pJ h x;obtain⟨c,r,e⟩:=Eh (Pi b);rw[e]at b a ⊢;rw[ZW,Lu b (by grind),Ci];unfold qE;rw[a];simp only;rw[Ga (by rfl),hu,Rb,Fa (by decide)];rfl
theorem Uz{l:Str}(h:Zv l=true)(x:Str):Zk ((34::(encB quoB l++[34]))++x)=(⟨5,l,0,[],false⟩,x):=by rw[Ra,La,Oc,ZW,show brS 34 (encB quoB l++34::x)=1 from rfl,oo,RL x l h];rfl
theorem sD{l:Str}(h:Zv l=true)(x:Str):Zk (([117,114,108,40]++(encB urB l++[41]))++x)=(⟨7,l,0,[],false⟩,x):=by
 have e:([117,114,108,40]++(encB urB l++[41]))++x=117::114::108::40::(encB urB l++41::x):=by simp
 obtain⟨c,b⟩:=kU x l h;have a:zm (117::114::108::40::(encB urB l++41::x))=([117,114,108],40::(encB urB l++41::x)):=by rw[zN,Ga (by decide),zN,Ga (by decide),zN,Ga (by decide),XE]
 rw[e,ZW,Lu (by rfl) (by grind),Ci];unfold qE;rw[a];simp only;rw[Ga (by rfl),Ky,show(40::(encB urB l++41::x)).drop 1=encB urB l++41::x from rfl,c,b,Ga (by decide),PL x l h];rfl
theorem kz{k:Int}(b:13<=k)(h2:k<=24)(x:Str):Zk (Uk k++x)=(⟨k,[],0,[],false⟩,if k=13 then past spB x else x):=by
 have a:k=13\/k=14\/k=15\/k=16\/k=17\/k=18\/k=19\/k=20\/k=21\/k=22\/k=23\/k=24:=by omega
 rcases a with rfl|rfl|rfl|rfl|rfl|rfl|rfl|rfl|rfl|rfl|rfl|rfl<;>rfl
theorem Pk(l:Str):txS ⟨1,l,0,[],false⟩=ZF l:=by rw[txS];rfl
theorem Fj(l:Str):txS ⟨2,l,0,[],false⟩=ZF l++[40]:=by rw[txS];rfl
theorem Im(l:Str):txS ⟨3,l,0,[],false⟩=64::ZF l:=by rw[txS];rfl
theorem ym(l:Str)(f:Bool):txS ⟨4,l,0,[],f⟩=35::lg f l:=by rw[txS];rfl
theorem Il(l:Str):txS ⟨5,l,0,[],false⟩=34::(encB quoB l++[34]):=by rw[txS];rfl
theorem Um(l:Str):txS ⟨7,l,0,[],false⟩=[117,114,108,40]++(encB urB l++[41]):=by rw[txS];rfl
theorem Ym(c:UInt8):txS ⟨9,[c],0,[],false⟩=[c]:=by rw[txS];rfl
theorem Wm(n:Int)(f:Bool):txS ⟨10,[],n,[],f⟩=numT n (!f):=by rw[txS];rfl
theorem Vm(n:Int):txS ⟨11,[],n,[],false⟩=numT n false++[37]:=by rw[txS];rfl
theorem Xm(n:Int)(u:Str)(f:Bool):txS ⟨12,[],n,u,f⟩=numT n (!f)++jf u:=by rw[txS];rfl
theorem wm{k:Int}(b:13<=k)(h2:k<=24):txS ⟨k,[],0,[],false⟩=Uk k:=by
 have a:k=13\/k=14\/k=15\/k=16\/k=17\/k=18\/k=19\/k=20\/k=21\/k=22\/k=23\/k=24:=by omega
 rcases a with rfl|rfl|rfl|rfl|rfl|rfl|rfl|rfl|rfl|rfl|rfl|rfl<;>rfl
theorem YT{t:ze}(h:zeB t)(hb: ¬(t.kind=9/\t.text=[92]))(hu:ig t=false){x:Str}(hx:neu x):Zk (txS t++x)=(t,x):=by
 have ha:=zBb hx;have hn0:nmS x=false:=by have:=lw hx [];rw[Nb]at this;rw[this];rfl
 cases h with
 |cId l h0 h=>
  have hn:=Ki h0;have hnd:=QP x h;rw[dz hx,Ua]at hnd;obtain⟨c,r,e⟩:=Eh (Pi hn);rw[Pk];have hr:=SN h;rw[e]at hn hr hnd ⊢;rw[Ra,WE hx,Lu hn (by grind),Ci];unfold qE;rw[show c::(r++x)=(c::r)++x from rfl,hnd]
  grind
 |cFn l h0 h=>rw[Fj];exact aD h0 h (by unfold ig at hu;exact hu) x
 |cAt l h0 h=>
  have hnd:=QP x h;rw[dz hx,Ua]at hnd;rw[Im,Ra];have hb6:brS 64 (ZF l++x)=6:=by unfold brS;rw[lw hx,Ki h0];rfl
  rw[ZW,hb6,mo,hnd]
 |cHash l f h0 h hbb=>
  obtain⟨g1,g2,g3⟩:=AO h0 h hbb;have hnd:=uF (f:=f) h x;rw[dz hx,Ua]at hnd;rw[ym,Ra];have hb2:brS 35 (lg f l)=2:=by unfold brS;rw[g1];rfl
  have hf:nmS (lg f l)=f:=by
   cases f with
   |true=>exact g2 rfl
   |false=>exact g3 rfl
  rw[WE hx,hb2,ek,hnd,lw hx,hf]
 |cStr l h=>rw[Il];exact Uz h x
 |cUrl l h=>rw[Um];exact sD h x
 |cDel c h=>
  have h92:c≠92:=by rintro rfl;exact hb ⟨rfl,rfl⟩
  rw[Ym,Ra,WE hx,XI c h h92,ko,Nb]
 |cNum n f h1 h2 hf=>
  obtain⟨e1,e2,e3⟩:=zAe hx;have he:=Lp (n:=n) (p:= !f) e1 e2 e3;rw[Bv hf]at he;rw[Wm,um];unfold zG;rw[mr h1 h2 (by rw[he]),he]
  grind
 |cPct n h1 h2=>rw[Vm];exact nE h1 h2 x
 |cDim n u f h1 h2 hf h0 h=> have hnm:=Tx h0 h;obtain⟨e1,e2⟩:=yx hnm x;have he:=Lp (n:=n) (p:= !f) e1 e2 (wP h0 h hx);rw[Bv hf]at he;rw[Xm,TE,um];unfold zG;rw[mr h1 h2 (by rw[he]),he];simp only;rw[lw hx,hnm,Ga rfl,KA h0 h,dz hx,Ua]
 |cMark k h1 h2=> rw[wm h1 h2,kz h1 h2,aL (by decide) hx,ite_self]
def GK(t:ze)(x r:Str):Prop:=zK (numT t.num (!t.flag)++x)=(r,t.flag)/\nmS r=false/\(atS r 0==37)=false
def rT(x r:Str):Prop:= ∃s,(s=[]\/s=[45])/\digB (atS (unsign (s++x)) 0)=true/\nmS (past digB (unsign (s++x)))=true/\r=(zm (past digB (unsign (s++x)))).2
def KT(t:ze)(x r:Str):Prop:=r=x\/(t.kind=13/\r=past spB x)\/(t.kind=10/\GK t x r)\/(t.kind=12/\rT x r)
theorem DL{w r:Str}(h:expS w=some r):(atS w 0=101\/atS w 0=69)/\digB (atS (unsign (w.drop 1)) 0)=true/\r=past digB (unsign (w.drop 1)):=by
 unfold expS at h
 grind
theorem Jz{l a:Str}(h:l++a=l):a=[]:=by simp_all
theorem wD{a b:ze}(h:a=b):a.text=b.text:=by rw[h]
theorem FX{t:ze}(h:zeB t)(hu:ig t=false){x:Str}(ht:(Zk (txS t++x)).1=t):KT t x (Zk (txS t++x)).2:=by
 cases h with
 |cId l h0 h=>
  left;have hn:=Ki h0;have hnd:=QP x h;obtain⟨c,r,e⟩:=Eh (Pi hn);rw[Pk]at ht ⊢;rw[e,Ra]at ht ⊢;have hbr:=Vl c (r++x);rw[ht]at hbr;have hbr':brS c (r++x)=7:=hbr.symm;rw[ZW,hbr',Ci]at ht ⊢;rw[show c::(r++x)=ZF l++x by rw[e];rfl]at ht ⊢;unfold qE at ht ⊢;rw[hnd]at ht ⊢;simp only at ht ⊢;split at ht
  ·rename_i h40;exfalso;split at ht
   ·have:=congrArg ze.kind ht;rcases uD (urlS (past spB ((zm x).2.drop 1))).1 with hk|hk<;>rw[hk]at this<;>cases this
   grind
  ·rename_i h40;rw[Fa h40];have:=wD ht;exact cz (Jz this)
 |cFn l h0 h=> left;rw[Fj,aD h0 h (by unfold ig at hu;exact hu)]
 |cAt l h0 h=> left;rw[Im,Ra]at ht ⊢;have hbr:=Vl 64 (ZF l++x);rw[ht]at hbr;have hbr':brS 64 (ZF l++x)=6:=hbr.symm;rw[ZW,hbr',mo,QP x h]at ht ⊢;exact cz (Jz (wD ht))
 |cHash l f h0 h hbb=> left;rw[ym,Ra]at ht ⊢;have hbr:=Vl 35 (lg f l++x);rw[ht]at hbr;have hbr':brS 35 (lg f l++x)=2:=hbr.symm;rw[ZW,hbr',ek,uF h x]at ht ⊢;exact cz (Jz (wD ht))
 |cStr l h=>left;rw[Il,Uz h]
 |cUrl l h=>left;rw[Um,sD h]
 |cDel c h=> left;rw[Ym,Ra]at ht ⊢;have hbr:=Vl c ([]++x);rw[ht]at hbr;have hbr':brS c ([]++x)=8:=hbr.symm;rw[ZW,hbr',ko,Nb]
 |cNum n f h1 h2 hf=>
  right;right;left;refine⟨rfl,?_⟩;rw[Wm,um]at ht ⊢;unfold GK;show zK (numT n (!f)++x)=_/\_;unfold zG at ht ⊢
  grind
 |cPct n h1 h2=>left;rw[Vm,nE h1 h2]
 |cDim n u f h1 h2 hf h0 h=>
  have hnm:=Tx h0 h;obtain⟨e1,e2⟩:=yx hnm x;rw[Xm,TE,um]at ht ⊢;have plain:expS (jf u++x)=none->(zG (numT n (!f)++(jf u++x))).2=x:=by
   intro hexp;have he:=Lp (n:=n) (p:= !f) e1 e2 hexp;unfold zG at ht ⊢;rw[he]at ht ⊢;simp only at ht ⊢;split at ht
   ·rename_i hn;rw[Ga hn];rw[KA h0 h]at ht ⊢;have:(u++(zm x).1)=u:=congrArg ze.unit ht;exact cz (Jz this)
   ·grind
  rcases vD h0 h x with hx|⟨e,s,he,hs,_,hu'⟩
  ·left;exact plain hx
  ·cases hexp:expS (jf u++x)with
   |none=>left;exact plain hexp
   |some z=>
    right;right;right;refine⟨rfl,s,hs,?_⟩;obtain⟨_,hd,hz⟩:=DL hexp;have hdrop:(jf u++x).drop 1=s++x:=by rw[hu'];rfl
    rw[hdrop]at hd hz;have hend:zK (numT n (!f)++(jf u++x))=(z,false):=by
     cases hp:(partT (n.natAbs%1000) (!f)).isEmpty with
     |true=>rw[dD hp,e1,e2];simp only[hexp]
     |false=>rw[VC hp,e1];simp only[hexp]
    unfold zG at ht ⊢
    grind
 |cMark k h1 h2=>
  rw[wm h1 h2,kz h1 h2];by_cases hk:k=13
  ·right;grind
  ·left
   grind
end Go.Lv.VT
