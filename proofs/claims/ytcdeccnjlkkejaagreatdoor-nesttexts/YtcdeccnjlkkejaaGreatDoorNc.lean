/- What is read of a text, and of a longer one. -/
import Derived.Test.YtcdeccnjlkkejaaGreatDoorNb
import Derived.Test.YtcdeccnjlkkejaaGreatDoorLaw
import Derived.Test.YtcdeccnjlkkejaaGreatDoorNam
set_option linter.unusedSimpArgs false
set_option linter.unusedVariables false
namespace Go.Lv.VT
set_option maxRecDepth 100000
theorem Dj{q:Str}{n:Nat}(x:Str)(h:n<q.length):atS (q++x) n=atS q n:=by unfold atS;rw[jc,jc,Fb h]
theorem Em{p:UInt8->Bool}(x:Str): ∀{q:Str},past p q≠[]->past p (q++x)=past p q++x
 |[],h=>absurd rfl h
 |c::r,h=>by
  rw[ja,past,past];rw[past]at h;cases hp:p c with
  |true=>rw[hp,La rfl]at h;rw[La rfl,La rfl];exact Em x h
  |false=>rfl
theorem WB{p:UInt8->Bool}(x:Str): ∀{q:Str},past p q≠[]->(q++x).takeWhile p=q.takeWhile p
 |[],h=>absurd rfl h
 |c::r,h=>by
  rw[ja,List.takeWhile_cons,List.takeWhile_cons];rw[past]at h;cases hp:p c with
  |true=>rw[hp,La rfl]at h;rw[La rfl,La rfl,WB x h]
  |false=>rfl
theorem mQ(x:Str): ∀{k n:Nat} {l:Str},(hexes k n l).2≠[]->hexes k n (l++x)=((hexes k n l).1,(hexes k n l).2++x)
 |0,n,l,_=>rfl
 |k+1,n,[],h=>absurd rfl h
 |k+1,n,c::r,h=>by
  rw[ja,hexes,hexes];rw[hexes]at h;split
  ·rename_i hc;rw[La hc]at h;exact mQ x h
  ·rfl
theorem zAP{l:Str}(x:Str)(h:l≠[]):unsp (l++x)=unsp l++x:=by
 cases l with
 |nil=>exact absurd rfl h
 |cons c r=> show(if spB c then r++x else c::(r++x))=(if spB c then r else c::r)++x;split<;>rfl
theorem OE{r:Str}(x:Str)(h:(zq r).2≠[]):zq (r++x)=((zq r).1,(zq r).2++x):=by
 cases r with
 |nil=>exact absurd rfl h
 |cons c r=>
  have e: ∀t:Str,zq (c::t)=if Qb c then(Xh (hexes 6 0 (c::t)).1,unsp (hexes 6 0 (c::t)).2)else([c],t):=fun t=>rfl;rw[ja,e,e];rw[e]at h;split
  ·rename_i hc;rw[La hc]at h;have d:(hexes 6 0 (c::r)).2≠[]:=by intro e0;rw[e0]at h;exact h rfl
   rw[show c::(r++x)=(c::r)++x from rfl,mQ x d,zAP x d]
  ·rfl
theorem Vx{c:UInt8}{r:Str}(x:Str)(h:r≠[]\/c≠92):escS (c::(r++x))=escS (c::r):=by
 unfold escS;show(c==92&& !(atS (r++x) 0==10))=(c==92&& !(atS r 0==10));rcases h with h|h
 ·cases r with
  |nil=>exact absurd rfl h
  |cons d t=>rfl
 ·rw[Ga.2 h];rfl
theorem Uu{q:Str}(x:Str)(h:(zm q).2≠[]):zm (q++x)=((zm q).1,(zm q).2++x):=by
 match q with
 |[]=>rw[qN]at h;exact absurd rfl h
 |c::r=>
  rw[ja,zH,zH];rw[zH]at h;cases hl:letB c with
  |true=> rw[hl,La rfl]at h;simp only[Td];rw[Uu x h]
  |false=>
   rw[hl,Ha (by decide)]at h;simp only[Tc,Te];cases f:escS (c::r)with
   |true=>
    rw[f,La rfl]at h;have h2:(zq r).2≠[]:=by intro e;simp only[e,qN]at h;exact h rfl
    have hr:r≠[]:=by rintro rfl;exact h2 rfl
    rw[Vx x (.inl hr),f];simp only[Td];rw[OE x h2];have:=zD r;simp only;rw[Uu x h]
   |false=>
    have hr:r≠[]\/c≠92:=by
     cases r with
     |nil=> right;rintro rfl;exact absurd f (by decide)
     |cons d t=>left;simp
    rw[Vx x hr,f];simp only[Tc,Te];rfl
termination_by q.length
decreasing_by
 all_goals first|(have:=zD r;simp only[Ea];omega)|(simp only[Ea];omega)
theorem yD{m:UInt8}{q:Str}(x:Str)(h:(zZ m q).2≠[]):zZ m (q++x)=((zZ m q).1,(zZ m q).2++x):=by
 match q with
 |[]=>rw[Vq]at h;exact absurd rfl h
 |c::r=>
  rw[ja,qR,qR];rw[qR]at h;cases h1:c==m with
  |true=>simp only[Td]
  |false=>
   rw[h1,Ha (by decide)]at h;simp only[Tc,Te];cases h2:c==10 with
   |true=>simp only[Td];rfl
   |false=>
    rw[h2,Ha (by decide)]at h;simp only[Tc,Te];cases h3:c==92 with
    |false=> rw[h3,Ha (by decide)]at h;simp only[Tc,Te];rw[yD x h]
    |true=>
     rw[h3,La rfl]at h;simp only[Td];cases hr:r with
     |nil=>rw[hr]at h;exact absurd rfl h
     |cons d t=>
      rw[hr]at h;have f:r.length=t.length+1:=by rw[hr];rfl
      rw[ja,show(d::(t++x)).isEmpty=false from rfl,show(d::t).isEmpty=false from rfl];simp only[Tc,Te];rw[show(d::t).isEmpty=false from rfl,Ha (by decide)]at h;rw[show atS (d::(t++x)) 0=atS (d::t) 0 from rfl];cases h4:atS (d::t) 0==10 with
      |true=> rw[h4,La rfl]at h;simp only[Td];exact yD (q:=t) x h
      |false=>
       rw[h4,Ha (by decide)]at h;simp only[Tc,Te];have i:(zq (d::t)).2≠[]:=by intro e;simp only[e,Vq]at h;exact h rfl
       rw[show d::(t++x)=(d::t)++x from rfl,OE x i];have:=zD (d::t);simp only;rw[yD x h]
termination_by q.length
decreasing_by
 all_goals first|(simp only[Ea]at *; omega)|(have:=zD (d::t);simp only[Ea]at *; omega)
theorem wB{q:Str}(x:Str)(h:badS q≠[]):badS (q++x)=badS q++x:=by
 match q with
 |[]=>rw[Ty]at h;exact absurd rfl h
 |c::r=>
  rw[ja,Tz,Tz];rw[Tz]at h;cases h1:c==41 with
  |true=>simp only[Td]
  |false=>
   rw[h1,Ha (by decide)]at h;simp only[Tc,Te];cases d:escS (c::r)with
   |true=>
    rw[d,La rfl]at h;have f:(zq r).2≠[]:=by intro e;rw[e,Ty]at h;exact h rfl
    have hr:r≠[]:=by rintro rfl;exact f rfl
    rw[Vx x (.inl hr),d];simp only[Td];rw[OE x f];have:=zD r;exact wB x h
   |false=>
    rw[d,Ha (by decide)]at h;have hr:r≠[]\/c≠92:=by left;rintro rfl;rw[Ty]at h;exact h rfl
    rw[Vx x hr,d];simp only[Tc,Te];exact wB x h
termination_by q.length
decreasing_by
 all_goals first|(have:=zD r;simp only[Ea];omega)|(simp only[Ea];omega)
theorem XG{q:Str}(x:Str)(h:(urlS q).2≠[]):urlS (q++x)=((urlS q).1,(urlS q).2++x):=by
 match q with
 |[]=>rw[Hq]at h;exact absurd rfl h
 |c::r=>
  rw[ja,Lm,Lm];rw[Lm]at h;cases h1:c==41 with
  |true=>simp only[Td]
  |false=>
   rw[h1,Ha (by decide)]at h;simp only[Tc,Te];cases h2:spB c with
   |true=>
    rw[h2,La rfl]at h;simp only[Td];cases hp:past spB r with
    |nil=>rw[hp]at h;exact absurd rfl h
    |cons d t=>
     rw[Em x (by rw[hp];simp),hp];rw[hp]at h;simp only[ja]at h ⊢;cases h3:d==41 with
     |true=>simp only[Td]
     |false=> rw[h3,Ha (by decide)]at h;simp only[Tc,Te];rw[show d::(t++x)=(d::t)++x from rfl,wB x h]
   |false=>
    rw[h2,Ha (by decide)]at h;simp only[Tc,Te];have f:(c=92->r≠[])->escS (c::(r++x))=escS (c::r):=by
     intro i;refine Vx x ?_;by_cases e:c=92
     ·exact .inl (i e)
     ·exact .inr e
    have hr:c=92->r≠[]:=by
     rintro rfl rfl;have e1:escS [92]=true:=by decide
     rw[e1,show((92:UInt8)==92&& !true)=false from rfl,Uf]at h;cases hu:((92:UInt8)==34||(92:UInt8)==39||(92:UInt8)==40||unB 92)with
     |true=>exact absurd hu (by decide)
     |false=> rw[hu,Ha (by decide),La (by decide)]at h;exact absurd (by show(urlS (zq []).2).2=[];rw[show(zq []).2=[]from rfl,Hq]) h
    rw[f hr];cases h3:c==34||c==39||c==40||unB c||c==92&& !escS (c::r)with
    |true=> rw[h3,La rfl]at h;simp only[Td];rw[show c::(r++x)=(c::r)++x from rfl,wB x h]
    |false=>
     rw[h3,Ha (by decide)]at h;simp only[Tc,Te];cases h4:c==92 with
     |true=>
      rw[h4,La rfl]at h;simp only[Td];have j:(zq r).2≠[]:=by intro e;simp only[e,Hq]at h;exact h rfl
      rw[OE x j];have:=zD r;simp only;rw[XG x h]
     |false=> rw[h4,Ha (by decide)]at h;simp only[Tc,Te];rw[XG x h]
termination_by q.length
decreasing_by
 all_goals first|(have:=zD r;simp only[Ea];omega)|(simp only[Ea];omega)
theorem Jo{q:Str}(x:Str)(h:q≠[]):unsign (q++x)=unsign q++x/\sgOf (q++x)=sgOf q:=by
 cases q with
 |nil=>exact absurd rfl h
 |cons c r=> unfold unsign sgOf;show(if Ug c then r++x else c::(r++x))=(if Ug c then r else c::r)++x/\_;refine⟨by split<;>rfl,rfl⟩
def Jg(q:Str):Str:=past digB (unsign q)
theorem BQ{q x:Str}(h:(zQ q).1≠[])(i:q=[46]->digB (atS x 0)=false):zQ (q++x)=((zQ q).1++x,(zQ q).2)/\dotP (q++x)=dotP q:=by
 unfold zQ dotP;unfold zQ at h;cases q with
 |nil=>exact absurd rfl h
 |cons c r=>
  have hc:(atS ((c::r)++x) 0==46&&digB (atS ((c::r)++x) 1))=(atS (c::r) 0==46&&digB (atS (c::r) 1)):=by
   show(c==46&&digB (atS (r++x) 0))=(c==46&&digB (atS r 0));cases r with
   |nil=>
    cases f:c==46 with
    |false=>rfl
    |true=> rw[Ib]at f;subst f;show(true&&digB (atS x 0))=(true&&digB (atS [] 0));rw[i rfl];rfl
   |cons d t=>rfl
  rw[hc];cases j:(atS (c::r) 0==46&&digB (atS (c::r) 1))with
  |false=>exact⟨rfl,rfl⟩
  |true=> rw[j,La rfl]at h;simp only[Td];rw[show((c::r)++x).drop 1=r++x from rfl,show(c::r).drop 1=r from rfl];have h':past digB r≠[]:=h;rw[Em x h',WB x h'];exact⟨rfl,rfl⟩
theorem zB5{w x:Str}(y:w≠[])(h: ∀r,expS w=some r->r≠[])(hn:expS w=none->expS (w++x)=none):
  expS (w++x)=(expS w).map (· ++x)/\expP (w++x)=expP w:=by
 have m: ∀q:Str,expP q=if(expS q).isSome then some (atS q 0,sgOf (q.drop 1),(unsign (q.drop 1)).takeWhile digB)else none:=by
  intro q;unfold expP expS;cases atS q 0==101||atS q 0==69 with
  |false=>rfl
  |true=> cases digB (atS (unsign (q.drop 1)) 0)<;>rfl
 cases j:expS w with
 |none=> rw[hn j,m,m,hn j,j];exact⟨rfl,rfl⟩
 |some r=>
  have hr:=h r j;cases w with
  |nil=>exact absurd rfl y
  |cons c t=>
   have d:=j;unfold expS at d;cases h1:atS (c::t) 0==101||atS (c::t) 0==69 with
   |false=>rw[h1,Ha (by decide)]at d;cases d
   |true=>
    rw[h1,La rfl]at d;cases h2:digB (atS (unsign ((c::t).drop 1)) 0)with
    |false=>rw[h2,Ha (by decide)]at d;cases d
    |true=>
     rw[h2,La rfl]at d;have i:past digB (unsign t)=r:=by injection d
     have ht:t≠[]:=by rintro rfl;exact absurd (show digB (atS (unsign []) 0)=true from h2) (by decide)
     obtain⟨u,z⟩:=Jo x ht;have p:unsign t≠[]:=by intro e;rw[show(c::t).drop 1=t from rfl,e]at h2;exact absurd h2 (by decide)
     have f:expS ((c::t)++x)=some (r++x):=by unfold expS;rw[show atS ((c::t)++x) 0=atS (c::t) 0 from rfl,h1,La rfl,show((c::t)++x).drop 1=t++x from rfl,u];have:atS (unsign t++x) 0=atS (unsign t) 0:=Dj x (Xe.2 p);rw[v,show digB (atS (unsign t) 0)=true from h2,La rfl,Em x (by rw[i];exact hr),i]
     refine⟨by rw[f];rfl,?_⟩;rw[m,m,f,j];simp only[Option.isSome_some,Td];rw[show((c::t)++x).drop 1=t++x from rfl,show(c::t).drop 1=t from rfl,u,z,WB x (by rw[i];exact hr)];rfl
theorem QH(q:Str):zC q=(match expS (zQ (Jg q)).1 with|some r=>(r,false)|none=>zQ (Jg q)):=rfl
theorem nG{q x:Str}(h:(zC q).1≠[])(m:Jg q=[46]->digB (atS x 0)=false)(hn:expS (zQ (Jg q)).1=none->expS ((zQ (Jg q)).1++x)=none):
  zC (q++x)=((zC q).1++x,(zC q).2)/\numP (q++x)=numP q:=by
 rw[QH]at h;have c: ∀r,expS (zQ (Jg q)).1=some r->r≠[]:=by intro r hr;rw[hr]at h;exact h
 have d:(zQ (Jg q)).1≠[]:=by intro e;rw[e,show expS []=none from rfl]at h;exact h e
 have h2:Jg q≠[]:=by intro e;rw[e]at d;exact d rfl
 have p:q≠[]:=by rintro rfl;exact h2 rfl
 obtain⟨f,u⟩:=Jo x p;have e2:Jg (q++x)=Jg q++x:=by unfold Jg;rw[f];exact Em x h2
 obtain⟨i,v⟩:=BQ d m;obtain⟨y,A⟩:=zB5 d c hn;have j: ∀z:Str,numP z=⟨sgOf z,(unsign z).takeWhile digB,dotP (Jg z),expP (zQ (Jg z)).1⟩:=fun z=>rfl;constructor
 ·rw[QH,QH,e2,i];simp only[y];cases expS (zQ (Jg q)).1<;>rfl
 ·rw[j,j,u,f,WB x h2,e2,i,v,A]
def brS(c:UInt8)(r:Str):Nat:=
 if spB c then 0
 else if c==34||c==39 then 1
 else if c==35&&(letB (atS r 0)||escS r)then 2
 else if nbS (c::r)then 3
 else if [45,45,62].isPrefixOf (c::r)then 4
 else if [60,33,45,45].isPrefixOf (c::r)then 5
 else if c==64&&nmS r then 6
 else if nmS (c::r)then 7
 else if Fh c==0 then 8
 else 9
def nxB:Nat->UInt8->Str->zb×Str
 |0,c,r=>(yh 13,past spB (c::r))
 |1,c,r=>(Yj (zZ c r).1,(zZ c r).2)
 |2,_,r=>(⟨4,(zm r).1,0,[],nmS r⟩,(zm r).2)
 |3,c,r=>zA (c::r)
 |4,c,r=>(yh 15,(c::r).drop 3)
 |5,c,r=>(yh 14,(c::r).drop 4)
 |6,_,r=>(⟨3,(zm r).1,0,[],false⟩,(zm r).2)
 |7,c,r=>qD (c::r)
 |8,c,r=>(⟨9,[c],0,[],false⟩,r)
 |_+9,c,r=>(yh (Fh c),r)
theorem dF(c:UInt8)(r:Str):nxB 0 c r=(yh 13,past spB (c::r)):=by rw[nxB]
theorem fq(c:UInt8)(r:Str):nxB 1 c r=(Yj (zZ c r).1,(zZ c r).2):=by rw[nxB]
theorem um(c:UInt8)(r:Str):nxB 2 c r=(⟨4,(zm r).1,0,[],nmS r⟩,(zm r).2):=by rw[nxB]
theorem Kk(c:UInt8)(r:Str):nxB 3 c r=zA (c::r):=by rw[nxB]
theorem jL(c:UInt8)(r:Str):nxB 4 c r=(yh 15,(c::r).drop 3):=by rw[nxB]
theorem iL(c:UInt8)(r:Str):nxB 5 c r=(yh 14,(c::r).drop 4):=by rw[nxB]
theorem Yq(c:UInt8)(r:Str):nxB 6 c r=(⟨3,(zm r).1,0,[],false⟩,(zm r).2):=by rw[nxB]
theorem Tj(c:UInt8)(r:Str):nxB 7 c r=qD (c::r):=by rw[nxB]
theorem Sv(c:UInt8)(r:Str):nxB 8 c r=(⟨9,[c],0,[],false⟩,r):=by rw[nxB]
theorem bF(c:UInt8)(r:Str):nxB 9 c r=(yh (Fh c),r):=rfl
theorem qo(c:UInt8)(r:Str):Zq (c::r)=nxB (brS c r) c r:=by
 rw[bu];unfold brS;split
 ·rfl
 ·split
  ·rfl
  ·split
   ·rfl
   ·split
    ·rfl
    ·split
     ·rfl
     ·split
      ·rfl
      ·split
       ·rfl
       ·split
        ·rfl
        ·split<;>rfl
theorem br_4{c:UInt8}{r:Str}:brS c r=4->[45,45,62].isPrefixOf (c::r)=true:=by unfold brS;intro h;(repeat' split at h)<;>first|assumption|exact absurd h (by decide)
theorem br_5{c:UInt8}{r:Str}:brS c r=5->[60,33,45,45].isPrefixOf (c::r)=true:=by unfold brS;intro h;(repeat' split at h)<;>first|assumption|exact absurd h (by decide)
theorem br_9{c:UInt8}{r:Str}:brS c r=9-> ¬(Fh c==0)=true:=by unfold brS;intro h;(repeat' split at h)<;>first|assumption|exact absurd h (by decide)
theorem wL(c:UInt8)(r:Str):brS c r<=9:=by unfold brS;(repeat' split)<;>decide
def brK(k:Int):Nat:=
 if k=13 then 0 else if k=5\/k=6 then 1 else if k=4 then 2 else if k=10\/k=11\/k=12 then 3 else if k=15 then 4 else if k=14 then 5 else if k=3 then 6
 else if k=1\/k=2\/k=7\/k=8 then 7 else if k=9 then 8 else 9
theorem yY(c:UInt8):Fh c=0\/(16<=Fh c/\Fh c<=24):=by
 have: ∀n:Nat,n<256->Fh (UInt8.ofNat n)=0\/(16<=Fh (UInt8.ofNat n)/\Fh (UInt8.ofNat n)<=24):=by decide+f
 have:=d c.toNat (Rb c)
 rwa [Gc]at d
theorem zAp(o:Option Str):(Yj o).kind=5\/(Yj o).kind=6:=by cases o<;>simp[Yj]
theorem WH(o:Option Str):(Wj o).kind=7\/(Wj o).kind=8:=by cases o<;>simp[Wj]
theorem P6(l:Str):(qD l).1.kind=1\/(qD l).1.kind=2\/(qD l).1.kind=7\/(qD l).1.kind=8:=by
 unfold qD;split
 ·split
  ·exact .inr (.inr (WH _))
  ·exact .inr (.inl rfl)
 ·exact .inl rfl
theorem zq7(l:Str):(zA l).1.kind=10\/(zA l).1.kind=11\/(zA l).1.kind=12:=by
 unfold zA;split
 ·exact .inr (.inr rfl)
 ·split
  ·exact .inr (.inl rfl)
  ·exact .inl rfl
theorem JL{i:Nat}(h:i<=9):i=0\/i=1\/i=2\/i=3\/i=4\/i=5\/i=6\/i=7\/i=8\/i=9:=by omega
theorem Xn(c:UInt8)(r:Str):brK (Zq (c::r)).1.kind=brS c r:=by
 rw[qo];rcases JL (wL c r)with h|h|h|h|h|h|h|h|h|h
 ·rw[h];rfl
 ·rw[h,fq];show brK (Yj (zZ c r).1).kind=1;rcases zAp (zZ c r).1 with h|h<;>rw[h]<;>rfl
 ·rw[h];rfl
 ·rw[h,Kk];rcases zq7 (c::r)with h|h|h<;>rw[h]<;>rfl
 ·rw[h];rfl
 ·rw[h];rfl
 ·rw[h];rfl
 ·rw[h,Tj];rcases P6 (c::r)with h|h|h|h<;>rw[h]<;>rfl
 ·rw[h];rfl
 ·have h1:=yY c;have h0:=br_9 h;rw[Ib]at h0;rw[h,bF];show brK (Fh c)=9;unfold brK
  repeat rw[Ha (by omega)]
theorem nZ{q x:Str}(h:(qD q).2≠[]):qD (q++x)=((qD q).1,(qD q).2++x):=by
 have hn:(zm q).2≠[]:=by intro e;unfold qD at h;rw[e,Ha (by decide)]at h;exact h rfl
 have e:=Uu x hn;unfold qD;unfold qD at h;rw[e];simp only;have h0:atS ((zm q).2++x) 0=atS (zm q).2 0:=Dj x (Xe.2 hn);rw[h0];cases i:atS (zm q).2 0==40 with
 |false=>rfl
 |true=>
  rw[i,La rfl]at h;simp only[Td];cases f:(zm q).2 with
  |nil=>exact absurd f hn
  |cons c r=>
   rw[f]at h;rw[show((c::r)++x).drop 1=r++x from rfl];rw[show(c::r).drop 1=r from rfl]at h ⊢;cases hu:lowS (zm q).1==[117,114,108]with
   |false=> rw[hu,Sc,Ha (by decide)]at h;simp only[Sc,Tc,Te]
   |true=>
    rw[hu,Vb]at h;simp only[Vb];cases hp:past spB r with
    |nil=> rw[hp,La (by decide),Hq]at h;exact absurd rfl h
    |cons d t=>
     rw[Em x (by rw[hp];simp),hp];rw[hp]at h;rw[show atS ((d::t)++x) 0=atS (d::t) 0 from rfl];split
     ·rename_i j;rw[La j]at h;rw[XG x h]
     ·rfl
theorem Cq{q x:Str}{n:Nat}(h:n<=q.length):(q++x).drop n=q.drop n++x:=List.drop_append_of_le_length h
structure zkC (q x:Str):Prop where
 e:zC (q++x)=((zC q).1++x,(zC q).2)
 p:numP (q++x)=numP q
 n:nmS ((zC q).1++x)=nmS (zC q).1
theorem X9{q x:Str}(c:zkC q x)(h:(zA q).2≠[]):zA (q++x)=((zA q).1,(zA q).2++x):=by
 have d:(zC q).1≠[]:=by intro e;unfold zA at h;rw[e,Ha (by decide),Ha (by decide)]at h;exact h rfl
 have h0:atS ((zC q).1++x) 0=atS (zC q).1 0:=Dj x (Xe.2 d);unfold zA;unfold zA at h;rw[c.e,c.p];simp only[c.n,h0];cases hn:nmS (zC q).1 with
 |true=> rw[hn,La rfl]at h;simp only[Td];rw[Uu x h]
 |false=>
  simp only[Tc,Te];cases f:atS (zC q).1 0==37 with
  |true=> simp only[Td];rw[Cq (Xe.2 d)]
  |false=>simp only[Tc,Te]
theorem rC {c:UInt8} {r x:Str} (hb:brS c (r++x)=brS c r) (h:(Zq (c::r)).2≠[]) (f:brS c r=2->nmS (r++x)=nmS r)
  (d:brS c r=3->zkC (c::r) x):Zq (c::(r++x))=((Zq (c::r)).1,(Zq (c::r)).2++x):=by
 rw[qo c (r++x),hb];rw[qo]at h ⊢;rcases JL (wL c r)with hi|hi|hi|hi|hi|hi|hi|hi|hi|hi
 ·rw[hi,dF]at h;rw[hi,dF,dF,show c::(r++x)=(c::r)++x from rfl,Em x h]
 ·rw[hi,fq]at h;rw[hi,fq,fq,yD x h]
 ·rw[hi,um]at h;rw[hi,um,um,Uu x h,f hi]
 ·have hn:=d hi;rw[hi,Kk]at h;rw[hi,Kk,Kk,show c::(r++x)=(c::r)++x from rfl,X9 hn h]
 ·have h':=Vn (br_4 hi);rw[hi,jL,jL,show c::(r++x)=(c::r)++x from rfl,Cq (show 3<=(c::r).length from h')]
 ·have h':=Vn (br_5 hi);rw[hi,iL,iL,show c::(r++x)=(c::r)++x from rfl,Cq (show 4<=(c::r).length from h')]
 ·rw[hi,Yq]at h;rw[hi,Yq,Yq,Uu x h]
 ·rw[hi,Tj]at h;rw[hi,Tj,Tj,show c::(r++x)=(c::r)++x from rfl,nZ h]
 ·rw[hi,Sv,Sv]
 ·rw[hi,bF,bF]
theorem iP{q:Str}(x:Str)(h:q≠[]):undot (q++x)=undot q++x:=by
 cases q with
 |nil=>exact absurd rfl h
 |cons c r=> unfold undot;show(if c==46 then r++x else c::(r++x))=(if c==46 then r else c::r)++x;split<;>rfl
theorem PZ(q:Str):q.length<=(undot q).length+1:=by
 unfold undot;split
 ·rw[Ob];omega
 ·omega
theorem JJ(q:Str):q.length<=(unsign q).length+1:=by
 unfold unsign;split
 ·rw[Ob];omega
 ·omega
theorem Oq{q:Str}(h:1<=q.length):q≠[]:=by rintro rfl;cases h
theorem zDV{q:Str}(x:Str)(h:3<=q.length):nbS (q++x)=nbS q:=by have h1:=JJ q;have h2:=PZ (unsign q);unfold nbS;rw[(Jo x (Oq (by omega))).1,iP x (Oq (by omega)),Dj x (by omega)]
theorem SB{q:Str}(x:Str)(h:3<=q.length):nmS (q++x)=nmS q:=by unfold nmS escS;rw[Cq (by omega),Dj x (show 0<q.length by omega),Dj x (show 1<q.length by omega),Dj x (show 0<(q.drop 1).length by rw[Ob];omega),Dj x (show 1<(q.drop 1).length by rw[Ob];omega)]
theorem Du{m:Str}: ∀{q:Str} (x:Str),m.length<=q.length->m.isPrefixOf (q++x)=m.isPrefixOf q:=by
 induction m with
 |nil=>intros;rw[List.isPrefixOf,List.isPrefixOf]
 |cons a m c=>
  intro q x h;cases q with
  |nil=>rw[Ea,Lc]at h;omega
  |cons b t=> rw[Ea,Ea]at h;rw[ja,List.isPrefixOf,List.isPrefixOf,c x (by omega)]
theorem zDq{c:UInt8}{r:Str}(x:Str)(h:4<=r.length):brS c (r++x)=brS c r:=by
 have e:c::(r++x)=(c::r)++x:=rfl;have hl:(c::r).length=r.length+1:=rfl;unfold brS;rw[e,zDV x (by omega),Du x (by show 3<=_;omega),Du x (by show 4<=_;omega),SB x (q:=r) (by omega),SB x (q:=c::r) (by omega),Dj x (show 0<r.length by omega)];have:escS (r++x)=escS r:=by unfold escS;rw[Dj x (show 0<r.length by omega),Dj x (show 1<r.length by omega)]
 rw[d]
theorem xn{w:Str}:expS w=none↔((atS w 0==101||atS w 0==69)&&digB (atS (unsign (w.drop 1)) 0))=false:=by
 unfold expS;cases atS w 0==101||atS w 0==69 with
 |false=>simp
 |true=>cases digB (atS (unsign (w.drop 1)) 0)<;>simp
theorem zB6{w:Str}(x:Str)(h:3<=w.length)(hn:expS w=none):expS (w++x)=none:=by rw[xn]at hn ⊢;have h1:=JJ (w.drop 1);rw[Ob]at h1;rw[Cq (by omega),(Jo x (Oq (by rw[Ob];omega))).1,Dj x (show 0<w.length by omega),Dj x (by omega)];exact hn
theorem yR(q:Str):(zQ q).1<:+q:=by
 unfold zQ;split
 ·exact(bn _ _).trans (Nf 1 q)
 ·exact Ad _
theorem OX(q:Str):(zC q).1<:+(zQ (Jg q)).1:=by
 rw[QH];cases h:expS (zQ (Jg q)).1 with
 |some r=>exact SN (Ad _) h
 |none=>exact Ad _
theorem WS(q:Str):(zA q).2<:+(zC q).1:=by
 unfold zA;split
 ·exact Rl _
 ·split
  ·exact Nf 1 _
  ·exact Ad _
theorem zCz{q:Str}(x:Str)(h:4<=(zC q).1.length):zkC q x:=by have h1:=(OX q).length_le;have h2:=(yR (Jg q)).length_le;obtain⟨a,b⟩:=nG (q:=q) (x:=x) (Oq (by omega)) (fun e=>by rw[e]at h1 h2;simp only[Cb]at h2;omega) (zB6 x (by omega));exact⟨a,b,SB x (by omega)⟩
theorem rY{c:UInt8}{r:Str}(x:Str)(h:4<=(Zq (c::r)).2.length):Zq (c::(r++x))=((Zq (c::r)).1,(Zq (c::r)).2++x):=by have h1:=(Nl c r).length_le;refine rC (zDq x (by omega)) (Oq (by omega)) (fun _=>SB x (by omega)) (fun hb=>zCz x ?_);rw[qo,hb,Kk]at h;have:=(WS (c::r)).length_le;omega
theorem LB(q y:Str):escS (q++47::y)=escS q:=by
 match q with
 |[]=>rfl
 |[c]=>rfl
 |c::d::t=>rfl
theorem Tv(q y:Str):nmS (q++47::y)=nmS q:=by
 match q with
 |[]=>rfl
 |[c]=> unfold nmS;show(if c==45 then fstB 47||47==45||escS (47::y)else fstB c||escS ([c]++47::y))=(if c==45 then fstB 0||0==45||escS []else fstB c||escS [c]);rw[LB];rfl
 |c::d::t=> unfold nmS;show(if c==45 then fstB d||d==45||escS ((d::t)++47::y)else fstB c||escS ((c::d::t)++47::y))=(if c==45 then fstB d||d==45||escS (d::t)else fstB c||escS (c::d::t));rw[LB,LB]
theorem PX(q y:Str):digB (atS (q++47::y) 0)=digB (atS q 0):=by
 cases q with
 |nil=>rfl
 |cons c t=>rfl
theorem gP(q y:Str):unsign (q++47::y)=unsign q++47::y:=by
 cases q with
 |nil=>rfl
 |cons c t=>exact(Jo (47::y) (by simp)).1
theorem zAO(q y:Str):undot (q++47::y)=undot q++47::y:=by
 cases q with
 |nil=>rfl
 |cons c t=>exact iP (47::y) (by simp)
theorem zEF(q y:Str):nbS (q++47::y)=nbS q:=by unfold nbS;rw[gP,zAO,PX]
theorem xW{m:Str}(hm: ∀b∈m,b≠47): ∀(q y:Str),m.isPrefixOf (q++47::y)=m.isPrefixOf q:=by
 induction m with
 |nil=>intros;rw[List.isPrefixOf,List.isPrefixOf]
 |cons a m d=>
  intro q y;cases q with
  |nil=> have:(a==47)=false:=Ga.2 (hm a (Jb ..));show((a==47)&&m.isPrefixOf y)=false;rw[c];rfl
  |cons b t=>rw[ja,List.isPrefixOf,List.isPrefixOf,d (fun b hb=>hm b (Eb _ hb))]
theorem zDQ(q y:Str):letB (atS (q++47::y) 0)=letB (atS q 0):=by
 cases q with
 |nil=>rfl
 |cons c t=>rfl
theorem NW(c:UInt8)(r y:Str):brS c (r++47::y)=brS c r:=by have e:c::(r++47::y)=(c::r)++47::y:=rfl;unfold brS;rw[e,zEF,xW (by decide),xW (by decide),Tv,Tv,zDQ,LB]
theorem zDC{w:Str}(y:Str)(hn:expS w=none):expS (w++47::y)=none:=by
 cases w with
 |nil=>rfl
 |cons c t=> rw[xn]at hn ⊢;show((c==101||c==69)&&digB (atS (unsign (t++47::y)) 0))=false;rw[gP,PX];exact hn
theorem zDZ{q:Str}(y:Str)(h:(zC q).1≠[]):zkC q (47::y):=by obtain⟨a,b⟩:=nG (q:=q) (x:=47::y) h (fun _=>rfl) (zDC y);exact⟨a,b,Tv _ y⟩
theorem kR{q:Str}(h:(zA q).2≠[]):(zC q).1≠[]:=by intro e;have:=(WS q).length_le;rw[e]at c;exact h (Ye.1 (by simpa using c))
theorem zCx{c:UInt8}{r:Str}(y:Str)(h:(Zq (c::r)).2≠[]):Zq (c::(r++47::y))=((Zq (c::r)).1,(Zq (c::r)).2++47::y):=by refine rC (NW c r y) h (fun _=>Tv r y) (fun hb=>zDZ y ?_);rw[qo,hb,Kk]at h;exact kR h
def BM(c:UInt8)(r x:Str):Prop:=(∃e d,(e=101\/e=69)/\zQ (Jg (c::r))=([e,43],d))/\(Zq (c::r)).2=[43]/\(Zq (c::r)).1.kind=12/\digB (atS x 0)=true
theorem zAf{c:UInt8}{r x:Str}(hb:brS c r=3)(h:(Zq (c::r)).2≠[])(hx:x≠[])(ht:(zA ((c::r)++x)).1=(zA (c::r)).1):
  zkC (c::r) x\/BM c r x:=by
 have y:Zq (c::r)=zA (c::r):=by rw[qo,hb,Kk]
 rw[y]at h;have J:=kR h;have z: ∀q:Str,(zA q).1.kind=10->(zA q).1.flag=(zC q).2:=by
  intro q;unfold zA;split
  ·intro h;cases h
  ·split
   ·intro h;cases h
   ·intro _;rfl
 have L: ∀q:Str,((zA q).1.kind=12↔nmS (zC q).1=true):=by
  intro q;unfold zA;split
  ·rename_i h;simp[h]
  ·rename_i h;split<;>simp[h]
 by_cases hd:Jg (c::r)=[46]->digB (atS x 0)=false
 ·by_cases hn:expS (zQ (Jg (c::r))).1=none->expS ((zQ (Jg (c::r))).1++x)=none
  ·obtain⟨a,b⟩:=nG J hd hn;refine .inl ⟨a,b,?_⟩;have k1:=L ((c::r)++x);have k2:=L (c::r);rw[ht,a]at k1;rw[Kh];exact k1.symm.trans k2
  ·right;obtain⟨u,v⟩:=Classical.not_imp.1 hn;have i:zC (c::r)=zQ (Jg (c::r)):=by rw[QH,u]
   rw[i]at J;obtain⟨w,B⟩: ∃w B,zQ (Jg (c::r))=(w,B):=⟨_,_,rfl⟩;obtain⟨B,Y⟩:=B;rw[Y]at J u v i;simp only at J u v;rw[xn]at u;rw[xn]at v;cases w with
   |nil=>exact absurd rfl J
   |cons e t=>
    have h2:((e==101||e==69)&&digB (atS (unsign (t++x)) 0))=true:=by
     have:((atS ((e::t)++x) 0==101||atS ((e::t)++x) 0==69)&&digB (atS (unsign (((e::t)++x).drop 1)) 0))=true:=by
      cases Z:((atS ((e::t)++x) 0==101||atS ((e::t)++x) 0==69)&&digB (atS (unsign (((e::t)++x).drop 1)) 0))with
      |true=>rfl
      |false=>exact absurd Z v
     exact f
    have h1:((e==101||e==69)&&digB (atS (unsign t) 0))=false:=u;rw[Da]at h2;rw[h2.1,Vb]at h1;have O:e=101\/e=69:=by have:=h2.1;rw[Ld,Ib,Ib]at f;exact f
    have j:fstB e=true/\letB e=true/\(e==45)=false:=by rcases O with rfl|rfl<;>decide
    have U:nmS (e::t)=true:=by unfold nmS;rw[show atS (e::t) 0=e from rfl,j.2.2,Ha (by decide),j.1];rfl
    have m:zA (c::r)=(⟨12,[],(numP (c::r)).val,(zm (e::t)).1,B⟩,(zm (e::t)).2):=by unfold zA;rw[i,La U]
    rw[m]at h;have h':(zm (e::t)).2≠[]:=h;have V:t=[43]/\digB (atS x 0)=true:=by
     match t with
     |[]=>rw[zH,La j.2.1,qN]at h';exact absurd rfl h'
     |[d]=>
      have a3:unsign ([d]++x)=if Ug d then x else d::x:=rfl;have hu:unsign [d]=if Ug d then []else [d]:=rfl;rw[a3]at h2;rw[hu]at h1;cases W:Ug d with
      |false=>
       rw[W,Ha (by decide)]at h1 h2;have:=h2.2;rw[show atS (d::x) 0=atS [d] 0 from rfl,h1]at f;cases f
      |true=>
       rw[W,La rfl]at h2;unfold Ug at W;rw[Ld,Ib,Ib]at W;rcases W with rfl|rfl
       ·exact⟨rfl,h2.2⟩
       ·rw[zH,La j.2.1,zH,La (by decide),qN]at h';exact absurd rfl h'
     |d::d2::t2=>
      exfalso;have a6:1<=(unsign (d::d2::t2)).length:=by have:=JJ (d::d2::t2);rw[Ea,Ea]at f;omega
      have:=h2.2;rw[(Jo x (by simp)).1,Dj x (by omega),h1]at f;cases f
    obtain⟨rfl,A⟩:=V;refine⟨⟨e,B,O,Y⟩,?_,?_,A⟩
    ·rw[y,m];show(zm [e,43]).2=[43];rw[zH,La j.2.1,zH,Ha (by decide),Ha (by decide)]
    ·rw[y,m]
 ·exfalso;obtain⟨p,A⟩:=Classical.not_imp.1 hd;have i:zC (c::r)=([46],true):=by rw[QH,p];rfl
  have m:zA (c::r)=(⟨10,[],(numP (c::r)).val,[],true⟩,[46]):=by unfold zA;rw[i,Ha (by decide),Ha (by decide)]
  rw[m]at ht;have hf:=z ((c::r)++x) (by rw[ht]);rw[ht]at hf;have a7:unsign (c::r)≠[]:=by intro e;rw[Jg,e]at p;cases p
  have e2:Jg ((c::r)++x)=46::x:=by unfold Jg;rw[(Jo x (by simp)).1,Em x (by unfold Jg at p;rw[p];simp)];unfold Jg at p;rw[p];rfl
  have Y:zQ (46::x)=(past digB x,false):=by
   unfold zQ;have:digB (atS x 0)=true:=by cases Z:digB (atS x 0)with|true=>rfl|false=>exact absurd Z A
   rw[show atS (46::x) 0=46 from rfl,show atS (46::x) 1=atS x 0 from rfl,f];rfl
  have a5:(zC ((c::r)++x)).2=false:=by rw[QH,e2,Y];simp only;cases expS (past digB x)<;>rfl
  rw[a5]at hf;cases hf
theorem X0{c:UInt8}{r x:Str}(h:(Zq (c::r)).2≠[])(p:x≠[])(ht:(Zq (c::(r++x))).1=(Zq (c::r)).1):
  (Zq (c::(r++x))).2=(Zq (c::r)).2++x\/BM c r x:=by
 have hb:brS c (r++x)=brS c r:=by rw[<-Xn,<-Xn,ht]
 have m:brS c r=2->nmS (r++x)=nmS r:=by intro hi;have:=congrArg zb.flag ht;rw[qo,qo,hb,hi,um,um]at d;exact d
 by_cases hi:brS c r=3
 ·have j:Zq (c::r)=zA (c::r):=by rw[qo,hi,Kk]
  have f:Zq (c::(r++x))=zA ((c::r)++x):=by rw[qo,hb,hi,Kk];rfl
  have i:=ht;rw[j,f]at i;rcases zAf hi h p i with u|hp
  ·left;rw[rC hb h m (fun _=>u)]
  ·exact .inr hp
 ·left;rw[rC hb h m (fun e=>absurd e hi)]
def run:Str->List zb->Str->Prop
 |q,[],R=>q=R
 |q,t::ts,R=> ∃c r,cmtS q=c::r/\(Zq (c::r)).1=t/\run (Zq (c::r)).2 ts R
theorem Fx: ∀{ts:List zb} {q R:Str},run q ts R->R<:+q
 |[],q,R,h=>by rw[run]at h;subst h;exact Ad _
 |t::ts,q,R,h=>by obtain⟨c,r,h1,h2,h3⟩:=h;have h4:=Ml q;rw[h1]at h4;exact(Fx h3).trans ((Nl c r).trans ((Ee c r).trans h4))
theorem Ju: ∀{ts:List zb} {q R:Str},run q ts R->qj q=ts++qj R
 |[],q,R,h=>by rw[run]at h;subst h;rfl
 |t::ts,q,R,h=>by obtain⟨c,r,h1,h2,h3⟩:=h;rw[QJ h1,h2,Ju h3];rfl
theorem PH: ∀{ts us:List zb} {q R S:Str},run q ts R->run R us S->run q (ts++us) S
 |[],us,q,R,S,h,h'=>by rw[run]at h;subst h;exact h'
 |t::ts,us,q,R,S,h,h'=>by obtain⟨c,r,h1,h2,h3⟩:=h;exact⟨c,r,h1,h2,PH h3 h'⟩
theorem iN: ∀{ts us:List zb} {q:Str},qj q=ts++us-> ∃R,run q ts R/\qj R=us
 |[],us,q,h=>⟨q,rfl,h⟩
 |t::ts,us,q,h=>by
  cases hc:cmtS q with
  |nil=>rw[QE hc]at h;cases h
  |cons c r=> rw[QJ hc,ja]at h;injection h with h1 h2;obtain⟨R,h3,h4⟩:=iN h2;exact⟨R,⟨c,r,hc,h1,h3⟩,h4⟩
theorem MM: ∀{ts:List zb} {q R S:Str},run q ts R->run q ts S->R=S
 |[],q,R,S,h,h'=>by rw[run]at h h';rw[<-h,h']
 |t::ts,q,R,S,h,h'=>by obtain⟨c,r,h1,h2,h3⟩:=h;obtain⟨j,m,d,i,f⟩:=h';rw[h1]at d;injection d with e1 e2;subst e1 e2;exact MM h3 f
theorem NM{ts:List zb}{q R:Str}(d:ts≠[]):run (cmtS q) ts R↔run q ts R:=by
 cases ts with
 |nil=>exact absurd rfl d
 |cons t ts=>
  constructor
  ·rintro⟨c,r,h1,h2⟩;rw[Dq]at h1;exact⟨c,r,h1,h2⟩
  ·rintro⟨c,r,h1,h2⟩;exact⟨c,r,by rw[Dq];exact h1,h2⟩
theorem jG(x:Str): ∀{l r:Str},clsS l=some r->clsS (l++x)=some (r++x)
 |[],r,h=>by cases h
 |c::t,r,h=>by
  rw[clsS]at h;rw[ja,clsS];cases t with
  |nil=>
   cases hc:c==42&&atS ([]:Str) 0==47 with
   |true=>rw[Da]at hc;exact absurd hc.2 (by decide)
   |false=>rw[hc,Ha (by decide)]at h;cases h
  |cons d u=>
   rw[show atS ((d::u)++x) 0=atS (d::u) 0 from rfl];split
   ·rename_i hc;rw[La hc]at h;injection h with h;subst h;rfl
   ·rename_i hc;rw[Ha hc]at h;exact jG x h
theorem Fy{q x:Str}(h:cmtS q≠[])(hp:([47,42]:Str).isPrefixOf (cmtS q++x)=false):cmtS (q++x)=cmtS q++x:=by
 rw[Ak q]at h hp ⊢;split at h
 ·rename_i c;have hl:=Vn c;rw[show([47,42]:Str).length=2 from rfl]at hl;rw[La c]at hp ⊢;cases hc:clsS (q.drop 2)with
  |none=>rw[hc]at h;exact absurd rfl h
  |some p=>
   rw[hc]at h hp;simp only at h hp ⊢;rw[Ak (q++x),Du x (by exact hl),c,La rfl,Cq hl,jG x hc];simp only;have h2:p.length<q.length:=by have h2:=(Cm _ hc).2;rw[Ob]at h2;omega
   exact Fy h hp
 ·rename_i c;rw[Ha c]at hp ⊢;exact Z4 hp
termination_by q.length
decreasing_by omega
theorem SH{c d:UInt8}(t x:Str):([47,42]:Str).isPrefixOf ((c::d::t)++x)=([47,42]:Str).isPrefixOf (c::d::t):=Du x (by show 2<=_;simp)
theorem JN{q x:Str}(h:2<=(cmtS q).length):cmtS (q++x)=cmtS q++x:=by refine Fy (Oq (by omega)) ?_;rw[Du x (by exact h)];exact Ey q
theorem LP{c:UInt8}{r:Str}(h:(Zq (c::r)).2≠[]):2<=(c::r).length:=by have h1:=(Nl c r).length_le;have h2:=Xe.2 h;rw[Ea];omega
theorem LM: ∀{ts:List zb} {q R:Str} (x:Str),run q ts R->4<=R.length->run (q++x) ts (R++x)
 |[],q,R,x,h,_=>by rw[run]at h;subst h;rfl
 |t::ts,q,R,x,h,hl=>by obtain⟨c,r,h1,h2,h3⟩:=h;have h4:=(Fx h3).length_le;have d:=rY x (c:=c) (r:=r) (by omega);have f:=LP (c:=c) (r:=r) (Oq (by omega));refine⟨c,r++x,by rw[JN (by rw[h1];exact f),h1];rfl,by rw[d];exact h2,?_⟩;rw[d];exact LM x h3 hl
theorem KG{q:Str}(y:Str)(h:cmtS q≠[]):cmtS (q++47::42::y)=cmtS q++47::42::y:=by
 refine Fy h ?_;have hp:=Ey q;cases f:cmtS q with
 |nil=>exact absurd f h
 |cons c t=>
  cases t with
  |nil=> show((47==c)&&((42==(47:UInt8))&&_))=false;rw[show((42:UInt8)==47)=false from rfl,Sc,Ve]
  |cons d u=>rw[SH,<-f];exact hp
theorem kF: ∀{ts:List zb} {q R:Str} (y:Str),run q ts R->R≠[]->run (q++47::42::y) ts (R++47::42::y)
 |[],q,R,y,h,_=>by rw[run]at h;subst h;rfl
 |t::ts,q,R,y,h,hl=>by
  obtain⟨c,r,h1,h2,h3⟩:=h;have h4:(Zq (c::r)).2≠[]:=by intro e;have:=(Fx h3).length_le;rw[e]at d;exact hl (Ye.1 (by simpa using d))
  have f:=zCx (42::y) h4;refine⟨c,r++47::42::y,by rw[KG y (by rw[h1];simp),h1];rfl,by rw[f];exact h2,?_⟩;rw[f];exact kF y h3 hl
def UW(q x:Str)(us:List zb):Prop:= ∃c r,cmtS q=c::r/\BM c r x/\(Zq (c::(r++x))).1=(Zq (c::r)).1/\qj (Zq (c::(r++x))).2=us
theorem sN: ∀{ts us:List zb} {q R:Str} {x:Str},run q ts R->R≠[]->x≠[]->qj (q++x)=ts++us->run (q++x) ts (R++x)\/(R=[43]/\ ∃p,p<:+q/\UW p x us)
 |[],us,q,R,x,h,_,_,_=>by rw[run]at h;subst h;exact .inl rfl
 |t::ts,us,q,R,x,h,hl,z,ht=>by
  obtain⟨c,r,h1,h2,h3⟩:=h;have h4:(Zq (c::r)).2≠[]:=by intro e;have:=(Fx h3).length_le;rw[e]at i;exact hl (Ye.1 (by simpa using i))
  have hc:cmtS (q++x)=c::(r++x):=by rw[JN (by rw[h1];exact LP h4),h1];rfl
  rw[QJ hc,ja]at ht;injection ht with d f;rcases X0 h4 z (by rw[d,h2])with j|j
  ·rw[j]at f;rcases sN h3 hl z f with v|⟨v,p,hp,A⟩
   ·exact .inl ⟨c,r++x,hc,d,by rw[j];exact v⟩
   ·refine .inr ⟨v,p,hp.trans ((Nl c r).trans ((Ee c r).trans ?_)),A⟩;rw[<-h1];exact Ml q
  ·right;have m:=j.2.1;have y:R=[43]/\ts=[]:=by
    cases ts with
    |nil=>rw[run,m]at h3;exact⟨h3.symm,rfl⟩
    |cons u B=> exfalso;rw[m]at h3;obtain⟨L,O,e1,e2,e3⟩:=h3;rw[show cmtS [43]=[43]from Z4 rfl]at e1;injection e1 with e4 e5;subst e4 e5;have:=(Fx e3).length_le;have J:=(Nl (43:UInt8) []).length_le;exact hl (Ye.1 (by simp only[Lc]at J;omega))
   obtain⟨y,rfl⟩:=y;refine⟨y,q,Ad _,c,r,h1,j,by rw[d,h2],?_⟩;rw[f];rfl
def encB(p:UInt8->Bool):Str->Str
 |[]=>[]
 |c::r=>(bif p c then escC c else [c])++encB p r
def quoB(c:UInt8):Bool:=c==10||c==12||c==13||c==34||c==92
def urB(c:UInt8):Bool:=decide (c.toNat<=32)||c==34||c==39||c==40||c==41||c==92||c==127
def xk:Str->Bool
 |[]=>false
 |c::r=>(c==101||c==69)&&numS r&& !(List.isPrefixOf [45,45] r)
def ng:Str->Str
 |[]=>[]
 |c::r=>bif xk (c::r)then escC c++encW false 0 r else qm (c::r)
def Wo(k:Int):Str:=
 bif k==13 then [32]else bif k==14 then [60,33,45,45]else bif k==15 then [45,45,62]else bif k==16 then [58]else bif k==17 then [59]else bif k==18 then [44]else
 bif k==19 then [91]else bif k==20 then [93]else bif k==21 then [40]else bif k==22 then [41]else bif k==23 then [123]else [125]
def txS(t:zb):Str:=
 bif t.kind==1 then qm t.text
 else bif t.kind==2 then qm t.text++[40]
 else bif t.kind==3 then 64::qm t.text
 else bif t.kind==4 then 35::(bif t.flag then qm t.text else encW false 0 t.text)
 else bif t.kind==5 then 34::(encB quoB t.text++[34])
 else bif t.kind==7 then [117,114,108,40]++(encB urB t.text++[41])
 else bif t.kind==9 then t.text
 else bif t.kind==10 then numT t.num (!t.flag)
 else bif t.kind==11 then numT t.num false++[37]
 else bif t.kind==12 then numT t.num (!t.flag)++ng t.unit
 else Wo t.kind
theorem jy(p:UInt8->Bool): ∀l:Str,(encB p l).length<=4*l.length
 |[]=>by unfold encB;simp
 |c::r=>by
  have:=gy c;have:=jy p r;unfold encB;rw[Ba,Ea];cases p c with
  |true=>rw[Ka];omega
  |false=>rw[Ia,Cb];omega
theorem zB1{p:UInt8->Bool}{i:Nat}{l:Str}(h:i<l.length):encB p (l.drop i)=(bif p l[i]then escC l[i]else [l[i]])++encB p (l.drop (i+1)):=by rw[Yb h,encB]
theorem LQ {R:Type} {step:Int×List UInt8->Option (LO (Int×List UInt8) (List UInt8) R)} {l acc:Str} {p:UInt8->Bool} (hl:l.length<=100000) (ha:acc.length<=100000000)
  (h1: ∀(i:Nat) (a:Str) (hi:i<l.length),a.length<=500000000->step ((i:Int),a)=some (.again (w64 ((i:Int)+1),a++(bif p l[i]then escC l[i]else [l[i]]))))
  (h2: ∀a,step ((l.length:Int),a)=some (.out a)):Rh step (0,acc)=some (.out (acc++encB p l)):=by
 refine Qj (fun z=> ∃(i:Nat) (a:Str),z=((i:Int),a)/\i<=l.length/\a.length<=acc.length+4*i/\a++encB p (l.drop i)=acc++encB p l) (fun z=>l.length - z.1.toNat) _ ?_ ⟨0,acc,rfl,by omega,by omega,rfl⟩;rintro _ ⟨i,a,rfl,hi,f,c⟩;rcases Yc i l.length with h|h
 ·refine .inl ⟨_,h1 i a h (by omega),⟨i+1,_,by rw[Za (by omega) (by omega)];rfl,by omega,?_,?_⟩,by simp only;rw[Za (by omega) (by omega)];omega⟩
  ·have:=gy l[i];rw[Ba];cases p l[i]with
   |true=>rw[Ka];omega
   |false=>rw[Ia,Cb];omega
  ·rw[<-c,zB1 h,Na]
 ·have:i=l.length:=by omega
  subst d;refine .inr (.inl ⟨_,h2 a,?_⟩);rw[<-c,Re (Va _)];rw[show encB p []=[] by rw[encB],Ab]
theorem wH{l acc:Str}{k:Nat}(hl:l.length<=100000)(ha:acc.length<=100000000):qC ((l,(k:Int)),acc)=some (acc++encW (Po k l) k l):=by
 unfold qC;rw[Qk (zDi (dash:=Po k l) (k:=k) (l:=l) (acc:=acc) hl ha (fun i a hi ha=> ?_) (fun a=> ?_))]
 ·have d1:decide ((i:Int)<(l.length:Int))=true:=Ja (by omega);have d2:geti l (i:Int)=some l[i]:=QX hi;have c:decide ((i:Int)>=(k:Int))=(k - i==0):=by
   by_cases h:k<=i
   ·rw[Ja (by omega),show k - i=0 by omega];rfl
   ·rw[Db (by omega)];symm;rw[Ga];omega
  have d4:((k:Int)==0)=(k==0):=by
   by_cases h:k=0
   ·subst h;rfl
   ·rw[Ga.2 h,Ga];omega
  simp only[d1,Ka,d2,c,d4,ze,Aa,zCe,VN];have d:(bif k==0 then true else !(l==[45]))= !Po k l:=by unfold Po;cases k==0<;>cases l==[45]<;>rfl
  rw[d];unfold pcW;cases letB l[i]with
  |false=>
   cases k - i==0<;>simp only[zu,Nc,Ec,Ve,Sc,Uc,Ka,Ia,Aa,Ou l[i] (show a.length<=1000000000 by omega),zh]
  |true=> cases k - i==0<;>cases digB l[i]<;>cases Po k l<;>simp only[zu,Nc,Ec,Ve,Sc,Uc,Jf,Uf,Vb,Vd,Hf,Ka,Ia,Aa,jB,zy (mh (show a.length+1<=2000000000 by omega)),Ou l[i] (show a.length<=1000000000 by omega),zh]
 ·simp only;rw[Db (by omega),Ia]
theorem D8(l:Str):Po (QW l) l=(l==[45]):=by unfold Po QW;split<;>rfl
theorem Pw{l acc:Str}(hl:l.length<=100000)(ha:acc.length<=100000000):qC ((l,((QW l:Nat):Int)),acc)=some (acc++qm l):=by rw[wH hl ha,D8];rfl
theorem zBF{n:Nat}{b:Str}(hn:n<=1000000000000)(hb:b.length<=100000):Gq (((n:Int),10),b)=some (b++Lib.decDigits n):=by have c:short b=true:=Ja (by omega);unfold Gq;simp only[c,Uc,jb,decide_true,Vb];rw[Ja (by omega),Ja (by omega)];rfl
theorem tT{m:Nat}(hm:m<=1000000000000)(p:Bool)(b:Str)(hb:b.length<=90000):
  ((Gq ((w64 (Int.tdiv (m:Int) 1000),10),b)).bind fun c=>(Tp (w64 (1000+Int.tmod (m:Int) 1000),10)).bind fun f=>need (decide (1<=(f.length:Int)))<|
   (xm (List.drop 1 f,[48])).bind fun d=>zW (X:=List UInt8) (R:=List UInt8) (bif !(d==[])then need (Zb c.length 1 1)<|need (Zb (c++[(46:UInt8)]).length d.length 1)<|some (LX.out (c++[(46:UInt8)]++d))else bif p then need (Zb c.length ([46,48]:Str).length 1)<|some (LX.out (c++([46,48]:Str)))else some (LX.out c)) fun j=>some j)=some (b++xg m p):=by
 have e1:w64 (Int.tdiv (m:Int) 1000)=((m / 1000:Nat):Int):=by rw[show Int.tdiv (m:Int) 1000=((m / 1000:Nat):Int)from rfl,Za (by omega) (by omega)]
 have e2:w64 (1000+Int.tmod (m:Int) 1000)=((1000+m%1000:Nat):Int):=by rw[show Int.tmod (m:Int) 1000=((m%1000:Nat):Int)from rfl,Za (by omega) (by omega)];omega
 have hr:m%1000<1000:=by omega
 rw[e1,e2];have r:Tp (((1000+m%1000:Nat):Int),10)=some (49::[d48 (m%1000 / 100),d48 (m%1000 / 10%10),d48 (m%1000%10)]):=by unfold Tp i64B;simp only[decide_true,Vb];rw[Ja (by omega),Ja (by omega)];rw[<-vX hr];show some (Lib.itoa _)=_;unfold Lib.itoa;rw[Ha (by omega),jb]
 have i:=CJ (u:=m / 1000) (by omega);rw[zBF (by omega) (by omega),Aa,r,Aa,zy (Ja (by simp))];have v:xm (List.drop 1 (49::[d48 (m%1000 / 100),d48 (m%1000 / 10%10),d48 (m%1000%10)]),[48])=some (ni (m%1000)):=rfl;rw[v,Aa,Y3];have hf:=FI _ hr;simp only[JB,Da,Cc]at hf;unfold xg Xm;cases (ni (m%1000)).isEmpty with
 |true=>
  simp only[Nc,Ia,Ka];cases p with
  |true=>rw[Ka,zy (Yl (by rw[Ba];show _+2<=_;omega) (by omega)),zh,Na];rfl
  |false=>rw[Ia,zh,Ia,Ab]
 |false=> simp only[Ec,Ia,Ka];rw[zy (Yl (by rw[Ba];omega) (by omega)),zy (Yl (by rw[Ba,Ba,Cb];omega) (by omega)),zh,Na,Na];rfl
theorem NJ{n:Int}(h1: -1000000000000<=n)(h2:n<=1000000000000)(p:Bool){acc:Str}(ha:acc.length<=80000):QC ((n,p),acc)=some (acc++numT n p):=by
 unfold QC numT;simp only[ze];by_cases hn:n<0
 ·obtain⟨m,rfl⟩: ∃m:Nat,n= -(m:Int):=⟨n.natAbs,by omega⟩;rw[Ja hn,Ka,zy (Yl (by omega) (by omega)),zh,La hn];simp only;have e0:w64 (0 - -(m:Int))=(m:Int):=by rw[show(0 - -(m:Int))=(m:Int) by omega,Za (by omega) (by omega)]
  rw[e0,Int.natAbs_neg,Int.natAbs_natCast,<-Na];exact tT (by omega) p (acc++[45]) (by rw[Ba,Cb];omega)
 ·obtain⟨m,rfl⟩: ∃m:Nat,n=(m:Int):=⟨n.toNat,by omega⟩;rw[Db hn,Ia,zh,Ha hn];simp only;rw[Int.natAbs_natCast,Kc];exact tT (by omega) p acc (by omega)
theorem zCm: ∀n:Nat,n<256->(ibOr IntKind.u8 (n:Int) 32==101)=(UInt8.ofNat n==101||UInt8.ofNat n==69):=by decide+c
theorem zCl(c:UInt8):(ibOr IntKind.u8 (c.toNat:Int) 32==101)=(c==101||c==69):=by
 have:=zCm c.toNat (Rb c)
 rwa [Gc]at d
theorem zCV(c:UInt8):decide (Lib.indexByte [10,12,13,34,92] c.toNat.toUInt8>=0)=quoB c:=by
 have: ∀n:Nat,n<256->decide (Lib.indexByte [10,12,13,34,92] n.toUInt8>=0)=quoB (UInt8.ofNat n):=by decide+f
 have:=d c.toNat (Rb c)
 rwa [Gc]at d
theorem zDc(c:UInt8):(decide ((c.toNat:Int)<=32)||decide (Lib.indexByte [34,39,40,41,92,127] c.toNat.toUInt8>=0))=urB c:=by
 have: ∀n:Nat,n<256->(decide ((n:Int)<=32)||decide (Lib.indexByte [34,39,40,41,92,127] n.toUInt8>=0))=urB (UInt8.ofNat n):=by decide+f
 have:=d c.toNat (Rb c)
 rwa [Gc]at d
theorem zsL {t:zb} (h:ug t=true) (h1:(t.kind==1)=false) (h2:(t.kind==2)=false) (h3:(t.kind==3)=false) (h4:(t.kind==4)=false) (i:(t.kind==5)=false) (j:(t.kind==7)=false) (m:(t.kind==9)=false)
  (c:(t.kind==10)=false) (d:(t.kind==11)=false) (f:(t.kind==12)=false):13<=t.kind/\t.kind<=24:=by
 unfold ug at h;simp only[h1,h2,h3,h4,i,j,m,c,d,f,Bool.or_self,Ia,Da,Cc]at h;exact h.1
theorem LY: ∀n:Nat,n<12->(Yz ()).bind (fun c=>geti [c.e0,c.e1,c.e2,c.e3,c.e4,c.e5,c.e6,c.e7,c.e8,c.e9,c.e10,c.e11] (wu8 ((13+n:Int) - 13)))=some (Wo (13+n:Int)):=by decide+d
theorem bQ(k:Int):(Wo k).length<=4:=by
 unfold Wo;cases k==13<;>cases k==14<;>cases k==15<;>simp only[Ka,Ia]<;>try (simp;done)
 all_goals (repeat' (first|(simp;done)|(apply Decidable.byContradiction;intro h;revert h;rw[Bool.cond_eq_ite];split)))
theorem zAI{t:zb}{acc:Str}(hf:ug t=true)(h1:t.text.length<=5000)(h2:t.unit.length<=5000)(ha:acc.length<=60000):pu (t,acc)=some (acc++txS t):=by
 have one: ∀q:Str,q.length<=90000->Zb q.length 1 1=true:=fun q hq=>Yl (by omega) (by omega);have U: ∀l:Str,l.length<=5000->(qm l).length<=20000:=fun l hl=>by have:=iy (l==[45]) (QW l) l;unfold qm;omega
 unfold pu txS;simp only[ze];cases k1:t.kind==1 with
 |true=>simp only[Ka,ay,Aa,Pw (show t.text.length<=100000 by omega) (show acc.length<=100000000 by omega)]
 |false=>
 cases k2:t.kind==2 with
 |true=> simp only[Ka,Ia,ay,Aa,Pw (show t.text.length<=100000 by omega) (show acc.length<=100000000 by omega)];have:=U t.text h1;rw[zy (one _ (by rw[Ba];omega)),Na]
 |false=>
 cases k3:t.kind==3 with
 |true=> simp only[Ka,Ia,ay,Aa];rw[zy (one _ (by omega)),Pw (by omega) (by rw[Ba,Cb];omega),Na];rfl
 |false=>
 cases k4:t.kind==4 with
 |true=>
  simp only[Ka,Ia,ay,Aa];cases t.flag with
  |true=> simp only[Ka,zh];rw[zy (one _ (by omega)),Pw (by omega) (by rw[Ba,Cb];omega),Na];rfl
  |false=> simp only[Ia,zh];rw[zy (one _ (by omega)),show(0:Int)=((0:Nat):Int)from rfl,wH (by omega) (by rw[Ba,Cb];omega),Na];rfl
 |false=>
 cases k5:t.kind==5 with
 |true=>
  simp only[Ka,Ia];have A:maxLen=9223372036854775807:=rfl;rw[zy (one _ (by omega)),zy (Ja (by omega))];have V:=jy quoB t.text;rw[Qk (LQ (p:=quoB) (l:=t.text) (acc:=acc++[34]) (by omega) (by rw[Ba,Cb];omega) (fun i a hi W=> ?_) (fun a=> ?_))]
  ·rw[zy (one _ (by simp only[Ba,Cb];omega)),Na,Na];rfl
  ·have d1:decide ((i:Int)<(t.text.length:Int))=true:=Ja (by omega);have d0:decide ((0:Int)<=(i:Int))=true:=Ja (by omega);simp only[d1,d0,Uc,Ka,Z5,jb,Ma hi,Aa,jE,zCV];cases quoB t.text[i]with
   |true=>simp only[Ka,Ou _ (show a.length<=1000000000 by omega),Aa,zh]
   |false=>simp only[Ia,jB,Aa,zy (mh (show a.length+1<=2000000000 by omega)),zh]
  ·simp only;rw[Db (by omega),Ia]
 |false=>
 cases Z:t.kind==7 with
 |true=>
  simp only[Ka,Ia];have A:maxLen=9223372036854775807:=rfl;rw[zy (Yl (by show _+4<=_;omega) (by omega)),zy (Ja (by omega))];have V:=jy urB t.text;rw[Qk (LQ (p:=urB) (l:=t.text) (acc:=acc++[117,114,108,40]) (by omega) (by rw[Ba];show _+4<=_;omega) (fun i a hi W=> ?_) (fun a=> ?_))]
  ·rw[zy (one _ (by simp only[Ba];show _+4+_<=_;omega)),Na,Na]
  ·have d1:decide ((i:Int)<(t.text.length:Int))=true:=Ja (by omega);have d0:decide ((0:Int)<=(i:Int))=true:=Ja (by omega);simp only[d1,d0,Uc,Ka,Z5,jb,Ma hi,Aa,jE];rw[<-zDc];cases decide ((t.text[i].toNat:Int)<=32)with
   |true=>simp only[Nc,ZA,Aa,Ka,Hf,Ou _ (show a.length<=1000000000 by omega),zh]
   |false=>
    simp only[Ec,Zp,Aa,Ia,Vd];cases decide (Lib.indexByte [34,39,40,41,92,127] t.text[i].toNat.toUInt8>=0)with
    |true=>simp only[Ka,Ou _ (show a.length<=1000000000 by omega),Aa,zh]
    |false=>simp only[Ia,jB,Aa,zy (mh (show a.length+1<=2000000000 by omega)),zh]
  ·simp only;rw[Db (by omega),Ia]
 |false=>
 cases k9:t.kind==9 with
 |true=> simp only[Ka,Ia];rw[zy (Yl (by omega) (by omega))]
 |false=>
 have j:(t.kind==10||t.kind==11||t.kind==12)=true->rngS t=true/\(!(t.unit==[])==(t.kind==12))=true:=by intro hk;unfold ug at hf;simp only[k1,k2,k3,k4,k5,Z,k9,hk,Bool.or_self,Ia,Ka,Da]at hf;exact⟨hf.1,hf.2.1⟩
 have f:rngS t=true-> -1000000000000<=t.num/\t.num<=1000000000000:=by intro hr;unfold rngS at hr;simp only[Da,Cc]at hr;exact⟨hr.1,hr.2.1⟩
 cases B:t.kind==10 with
 |true=> obtain⟨r1,r2⟩:=f (j (by rw[B];rfl)).1;simp only[Ka,Ia,NJ r1 r2 _ (show acc.length<=80000 by omega),Aa]
 |false=>
 cases J:t.kind==11 with
 |true=>
  obtain⟨r1,r2⟩:=f (j (by rw[J,Jf];rfl)).1;have hT:(numT t.num false).length<=25:=by
   have:=LD (m:=t.num.natAbs) (by omega) false;unfold numT;rw[Ba];split
   ·rw[Cb];omega
   ·rw[Lc];omega
  simp only[Ka,Ia,NJ r1 r2 _ (show acc.length<=80000 by omega),Aa];rw[zy (one _ (by rw[Ba];omega)),Na]
 |false=>
 cases u:t.kind==12 with
 |true=>
  obtain⟨hr,hu⟩:=j (by rw[u,Jf]);obtain⟨r1,r2⟩:=f hr;rw[u]at hu;have hT:(numT t.num (!t.flag)).length<=25:=by
   have:=LD (m:=t.num.natAbs) (by omega) (!t.flag);unfold numT;rw[Ba];split
   ·rw[Cb];omega
   ·rw[Lc];omega
  simp only[Ka,Ia,NJ r1 r2 _ (show acc.length<=80000 by omega),Aa];cases L:t.unit with
  |nil=>rw[L]at hu;exact absurd hu (by decide)
  |cons c r=>
   rw[L,Ea]at h2;have z:geti (c::r) 0=some c:=rfl;have Y:List.drop 1 (c::r)=r:=rfl;have v:decide (1<=((c::r:Str).length:Int))=true:=Ja (by rw[Ea];omega);simp only[z,Y,v,Hf,Z5,Aa,zCl,KV,Bv,ay];have O:(acc++numT t.num (!t.flag)).length<=100000000:=by rw[Ba];omega
   have d:=Pw (l:=c::r) (acc:=acc++numT t.num (!t.flag)) (by rw[Ea];omega) O;have y:ng (c::r)=(bif (c==101||c==69)&&numS r&& !(List.isPrefixOf [45,45] r)then escC c++encW false 0 r else qm (c::r)):=rfl;rw[y];have he:(c==101||c==69)=true->ZW ((c.toNat:Int),acc++numT t.num (!t.flag))=some (acc++numT t.num (!t.flag)++escC c):=fun _=>Ou c (by rw[Ba];omega);cases hc:c==101||c==69 with
   |false=> simp only[ZA,Aa,Ia,Sc,d];rw[Na]
   |true=>
    simp only[Zp,Aa,Ka,Vb];cases hn:numS r with
    |false=> simp only[ZA,Aa,Ia,Sc,d];rw[Na]
    |true=>
     simp only[Zp,Aa,Ka,Vb];cases hp:List.isPrefixOf [45,45] r with
     |true=> simp only[Nc,Ia,d,Aa];rw[Na]
     |false=> simp only[Ec,Ka,he hc,Aa];have a3:=gy c;rw[show(0:Int)=((0:Nat):Int)from rfl,wH (by omega) (by rw[Ba,Ba];omega)];rw[Na,Na];rfl
 |false=>
 obtain⟨a5,a6⟩:=zsL hf k1 k2 k3 k4 k5 Z k9 B J u;obtain⟨n,hn⟩: ∃n:Nat,t.kind=13+(n:Int):=⟨(t.kind - 13).toNat,by omega⟩;have z:=LY n (by omega);rw[<-hn]at z;have A:=bQ t.kind;simp only[Ia];have hm:Yz ()=some ⟨[32],[60,33,45,45],[45,45,62],[58],[59],[44],[91],[93],[40],[41],[123],[125]⟩:=rfl;rw[hm]at z ⊢;simp only[Aa]at z ⊢;rw[z];simp only[Aa];rw[zy (Yl (by omega) (by omega))]
theorem Mq{c:UInt8}(h0:c≠0)(h:c.toNat<128)(R:Str): ∃d t,escC c++R=92::d::t/\(d==10)=false/\zq (d::t)=([c],R):=by
 unfold escC;cases r:decide (32<c.toNat)&&decide (c.toNat<127)&& !digB c&& !alB c with
 |true=>
  have m:Qb c=false/\(c==10)=false:=by
   have: ∀n:Nat,n<256->(decide (32<(UInt8.ofNat n).toNat)&&decide ((UInt8.ofNat n).toNat<127)&& !digB (UInt8.ofNat n)&& !alB (UInt8.ofNat n))=true->Qb (UInt8.ofNat n)=false/\(UInt8.ofNat n==10)=false:=by decide+i
   have:=f c.toNat (Rb c);rw[Gc]at f;exact f r
  exact⟨c,R,rfl,m.2,by show(if Qb c then _ else _)=_;rw[Ha (by rw[m.1];decide)]⟩
 |false=> obtain⟨d,t,e,u,j⟩:=XI (n:=c.toNat) (Rb c) ([32]++R);refine⟨d,t,by rw[Ia,ja,Na,e],j,?_⟩;have p:=vM (n:=c.toNat) (Rb c) R;rw[show(32::R:Str)=[32]++R from rfl,e]at p;show(if Qb d then(Xh (hexes 6 0 (d::t)).1,unsp (hexes 6 0 (d::t)).2)else _)=_;rw[La u,p,CQ h0 h];rfl
theorem zDd(n:Nat):Xh n≠[]:=by
 unfold Xh lm
 repeat' split
 all_goals simp
theorem V8(r:Str):(zq r).1≠[]:=by
 cases r with
 |nil=>show lm≠[];decide
 |cons c r=>
  show(if Qb c then(Xh (hexes 6 0 (c::r)).1,unsp (hexes 6 0 (c::r)).2)else([c],r)).1≠[];split
  ·exact zDd _
  ·simp
theorem mD{x:Str}(h:(zm x).1=[]):(zm x).2=x:=by
 cases x with
 |nil=>rw[qN]
 |cons c r=>
  rw[zH]at h ⊢;split
  ·rename_i hl;rw[La hl]at h;cases h
  ·rename_i hl;rw[Ha hl]at h;split
   ·rename_i d;rw[La d]at h;exact absurd (List.append_eq_nil_iff.1 h).1 (V8 r)
   ·rfl
theorem QN{c:UInt8}{r:Str}(h:Zn (c::r)=true):c≠0/\Zn r=true:=by unfold Zn at h ⊢;rw[Pd,Da]at h;exact⟨by rintro rfl;exact absurd h.1 (by decide),h.2⟩
theorem pI{dash:Bool}(R:Str): ∀(k:Nat) (l:Str),Zn l=true->(dash=true-> ∀c∈l,c.toNat<128)->zm (encW dash k l++R)=(l++(zm R).1,(zm R).2)
 |_,[],_,_=>by rw[encW];rfl
 |k,c::r,h,d=>by obtain⟨h1,h2⟩:=QN h;rw[encW,Na,UM h1 (fun e=>d e c (Jb ..)),pI R (k - 1) r h2 (fun e x f=>d e x (Eb _ f))];rfl
theorem Eo{l:Str}(R:Str)(h:Zn l=true):zm (qm l++R)=(l++(zm R).1,(zm R).2):=by refine pI R _ _ h (fun e c hc=> ?_);rw[Ib.1 e,Sa]at hc;subst hc;decide
theorem YP{l:Str}(R:Str)(k:Nat)(h:Zn l=true):zm (encW false k l++R)=(l++(zm R).1,(zm R).2):=pI R k l h (fun e=>by cases e)
theorem JZ(c:UInt8):(quoB c=true->c.toNat<128)/\(quoB c=false->(c==34)=false/\(c==10)=false/\(c==92)=false):=by
 have: ∀n:Nat,n<256->(quoB (UInt8.ofNat n)=true->(UInt8.ofNat n).toNat<128)/\(quoB (UInt8.ofNat n)=false->(UInt8.ofNat n==34)=false/\(UInt8.ofNat n==10)=false/\(UInt8.ofNat n==92)=false):=by decide+f
 have:=d c.toNat (Rb c)
 rwa [Gc]at d
theorem xN(x:Str): ∀(l:Str),Zn l=true->zZ 34 (encB quoB l++34::x)=(some l,x)
 |[],_=>by rw[encB,Kc,qR,La (by decide)]
 |c::r,h=>by
  obtain⟨h1,h2⟩:=QN h;have f:=xN x r h2;obtain⟨f1,j⟩:=JZ c;rw[encB,Na];cases i:quoB c with
  |true=> obtain⟨d,t,e1,e2,e3⟩:=Mq h1 (f1 i) (encB quoB r++34::x);rw[Ka,e1,qR,Ha (by decide),Ha (by decide),La (by decide),show(d::t).isEmpty=false from rfl,Ha (by decide),show atS (d::t) 0=d from rfl,e2,Ha (by decide),e3];simp only;rw[f];rfl
  |false=> obtain⟨g1,m,p⟩:=j i;rw[Ia,Gd,qR,g1,Ha (by decide),m,Ha (by decide),p,Ha (by decide),f];rfl
theorem VO(c:UInt8):(urB c=true->c.toNat<128)/\(urB c=false->(c==41)=false/\spB c=false/\(c==34||c==39||c==40||unB c)=false/\(c==92)=false/\(c==34)=false/\(c==39)=false):=by
 have: ∀n:Nat,n<256->(urB (UInt8.ofNat n)=true->(UInt8.ofNat n).toNat<128)/\(urB (UInt8.ofNat n)=false->(UInt8.ofNat n==41)=false/\spB (UInt8.ofNat n)=false/\(UInt8.ofNat n==34||UInt8.ofNat n==39||UInt8.ofNat n==40||unB (UInt8.ofNat n))=false/\(UInt8.ofNat n==92)=false/\(UInt8.ofNat n==34)=false/\(UInt8.ofNat n==39)=false):=by decide+f
 have:=d c.toNat (Rb c)
 rwa [Gc]at d
theorem wN(x:Str): ∀(l:Str),Zn l=true->urlS (encB urB l++41::x)=(some l,x)
 |[],_=>by rw[encB,Kc,Lm,La (by decide)]
 |c::r,h=>by
  obtain⟨h1,h2⟩:=QN h;have f:=wN x r h2;obtain⟨f1,j⟩:=VO c;rw[encB,Na];cases i:urB c with
  |true=>
   obtain⟨d,t,e1,e2,e3⟩:=Mq h1 (f1 i) (encB urB r++41::x);have m:escS (92::d::t)=true:=by unfold escS;rw[show atS (92::d::t) 1=d from rfl,e2];rfl
   rw[Ka,e1,Lm,Ha (by decide),Ha (by decide),m,Ha (by decide),La (by decide),e3];simp only;rw[f];rfl
  |false=> obtain⟨g1,p,u,v,_,_⟩:=j i;rw[Ia,Gd,Lm,g1,Ha (by decide),p,Ha (by decide),u,v,Sc,Uf,Ha (by decide),Ha (by decide),f];rfl
theorem zAS(x:Str)(l:Str)(h:Zn l=true):past spB (encB urB l++41::x)=encB urB l++41::x/\(atS (encB urB l++41::x) 0==34||atS (encB urB l++41::x) 0==39)=false:=by
 cases l with
 |nil=>exact⟨rfl,rfl⟩
 |cons c r=>
  obtain⟨h1,h2⟩:=QN h;obtain⟨f1,i⟩:=VO c;rw[encB,Na];cases f:urB c with
  |true=> obtain⟨d,t,e1,e2,e3⟩:=Mq h1 (f1 f) (encB urB r++41::x);rw[Ka,e1];exact⟨rfl,rfl⟩
  |false=> obtain⟨g1,j,u,v,m,p⟩:=i f;rw[Ia,Gd];refine⟨by rw[past,j];rfl,?_⟩;show(c==34||c==39)=false;rw[m,p];rfl
theorem zCI{n:Int}{p:Bool}:(partT (n.natAbs%1000) p).isEmpty=((n.natAbs%1000==0)&& !p):=(Xp (r:=n.natAbs%1000) (by omega) p).2.2.2.2
def sgT(n:Int):Str:=if n<0 then [45]else []
theorem Yw(n:Int)(p:Bool):numT n p=sgT n++(Lib.decDigits (n.natAbs / 1000)++dotS (if(partT (n.natAbs%1000) p).isEmpty then none else some (partT (n.natAbs%1000) p))):=by
 have h:=(Xp (r:=n.natAbs%1000) (by omega) p).2.2.2.1;unfold numT xg sgT;rw[h];cases (partT (n.natAbs%1000) p).isEmpty with
 |true=>rfl
 |false=>rfl
theorem q2_T(n:Int)(p:Bool)(x:Str):Jg (numT n p++x)=past digB (dotS (if(partT (n.natAbs%1000) p).isEmpty then none else some (partT (n.natAbs%1000) p))++x):=by
 obtain⟨d1,d2,f⟩:=yt (n.natAbs / 1000);obtain⟨c,r,hc,d⟩:=ky (n.natAbs / 1000);rw[Yw];generalize dotS _=t;unfold Jg;have hu:unsign ((sgT n++(Lib.decDigits (n.natAbs / 1000)++t))++x)=Lib.decDigits (n.natAbs / 1000)++(t++x):=by
  unfold sgT;split
  ·rw[Na,Gd,Na];rfl
  ·rw[Kc,Na,hc,ja];unfold unsign Ug;rw[show atS (c::(r++(t++x))) 0=c from rfl,Ga.2 (QV d).2.1,Ga.2 (QV d).1];rfl
 rw[hu,lC _ _ d1]
theorem TH{n:Int}{p:Bool}:(partT (n.natAbs%1000) p).all digB=true:=(Xp (r:=n.natAbs%1000) (by omega) p).1
theorem eG{n:Int}{p:Bool}(h:(partT (n.natAbs%1000) p).isEmpty=true)(x:Str):zC (numT n p++x)=(match expS (zQ (past digB x)).1 with|some r=>(r,false)|none=>zQ (past digB x)):=by rw[QH,q2_T,h];rfl
theorem NG{n:Int}{p:Bool}(h:(partT (n.natAbs%1000) p).isEmpty=false)(x:Str):zC (numT n p++x)=(match expS (past digB x)with|some r=>(r,false)|none=>(past digB x,false)):=by
 obtain⟨c,r,hp⟩: ∃c r,partT (n.natAbs%1000) p=c::r:=by
  cases f:partT (n.natAbs%1000) p with
  |nil=>rw[f]at h;cases h
  |cons c r=>exact⟨c,r,rfl⟩
 have d:=TH (n:=n) (p:=p);rw[QH,q2_T,h];have i:past digB (dotS (some (partT (n.natAbs%1000) p))++x)=46::(partT (n.natAbs%1000) p++x):=rfl;rw[show(if false=true then none else some (partT (n.natAbs%1000) p))=some (partT (n.natAbs%1000) p)from rfl,i];have j:zQ (46::(partT (n.natAbs%1000) p++x))=(past digB x,false):=by
  have hc:digB c=true:=by rw[hp,Pd,Da]at d;exact d.1
  unfold zQ;rw[show atS (46::(partT (n.natAbs%1000) p++x)) 1=c by rw[hp];rfl,hc,show(atS (46::(partT (n.natAbs%1000) p++x)) 0==46&&true)=true from rfl,La rfl];rw[show(46::(partT (n.natAbs%1000) p++x)).drop 1=partT (n.natAbs%1000) p++x from rfl,lC _ _ d]
 rw[j]
 all_goals (cases expS (past digB x)<;>rfl)
theorem XW(n:Int)(p:Bool)(x:Str):nbS (numT n p++x)=true:=by
 obtain⟨c,r,hc,d⟩:=ky (n.natAbs / 1000);rw[Yw,hc];unfold nbS;have hu:unsign ((sgT n++(c::r++dotS (if(partT (n.natAbs%1000) p).isEmpty then none else some (partT (n.natAbs%1000) p))))++x)=c::(r++dotS (if(partT (n.natAbs%1000) p).isEmpty then none else some (partT (n.natAbs%1000) p))++x):=by
  unfold sgT;split
  ·rfl
  ·unfold unsign Ug;show(if(c==43||c==45)then _ else _)=_;rw[Ga.2 (QV d).2.1,Ga.2 (QV d).1];rfl
 rw[hu];unfold undot;rw[show atS (c::(r++dotS (if(partT (n.natAbs%1000) p).isEmpty then none else some (partT (n.natAbs%1000) p))++x)) 0=c from rfl,Ga.2 (QV d).2.2.1,Ha (by decide)];exact d
theorem FL{n:Int}(h1: -1000000000000<=n)(h2:n<=1000000000000){p:Bool}{x:Str}(f:(zC (numT n p++x)).1=x):(numP (numT n p++x)).val=n:=by have h:=jI (numT n p++x);rw[f]at h;have c:=BG (XW n p x);have hl:=(aA h1 h2 p).1;have d:=znb h1 h2 p;generalize numP (numT n p++x)=N at h c ⊢;have ht:N.txt=numT n p:=(List.append_left_inj x).1 h;rw[<-ht]at d hl;have h3:=NV c (Sb hl (by decide));rw[d]at h3;exact(Option.some.inj h3).symm
theorem Np(n:Int)(p:Bool)(x:Str): ∃c r,numT n p++x=c::r/\(c==45||digB c)=true/\spB c=false/\(c==34||c==39)=false/\(c==35)=false/\c≠47:=by
 obtain⟨c,r,hc,m⟩:=ky (n.natAbs / 1000);have i: ∀d:UInt8,(d==45||digB d)=true->spB d=false/\(d==34||d==39)=false/\(d==35)=false/\d≠47:=by
  intro d;have: ∀n:Nat,n<256->(UInt8.ofNat n==45||digB (UInt8.ofNat n))=true->spB (UInt8.ofNat n)=false/\(UInt8.ofNat n==34||UInt8.ofNat n==39)=false/\(UInt8.ofNat n==35)=false/\UInt8.ofNat n≠47:=by decide+j
  have:=f d.toNat (Rb d)
  rwa [Gc]at f
 rw[Yw,hc];unfold sgT;split
 ·exact⟨45,_,rfl,rfl,i 45 rfl⟩
 ·have:(c==45||digB c)=true:=by rw[m,Jf]
  exact⟨c,_,rfl,f,i c f⟩
theorem Xw(n:Int)(p:Bool)(x:Str):Zq (numT n p++x)=zA (numT n p++x):=by obtain⟨c,r,hc,h1,h2,h3,h4,f⟩:=Np n p x;have d:=XW n p x;rw[hc]at d ⊢;rw[bu,h2,Ha (by decide),h3,Ha (by decide),h4,Sc,Ha (by decide),d,La rfl]
inductive zgg:zb->Prop
 |cId (l:Str) (h0:l≠[]) (h:Zn l=true):zgg ⟨1,l,0,[],false⟩
 |cFn (l:Str) (h0:l≠[]) (h:Zn l=true):zgg ⟨2,l,0,[],false⟩
 |cAt (l:Str) (h0:l≠[]) (h:Zn l=true):zgg ⟨3,l,0,[],false⟩
 |cHash (l:Str) (f:Bool) (h0:l≠[]) (h:Zn l=true) (hb:f=true\/Rk l=true):zgg ⟨4,l,0,[],f⟩
 |cStr (l:Str) (h:Zn l=true):zgg ⟨5,l,0,[],false⟩
 |cUrl (l:Str) (h:Zn l=true):zgg ⟨7,l,0,[],false⟩
 |cDel (c:UInt8) (h:Vi c.toNat=true):zgg ⟨9,[c],0,[],false⟩
 |cNum (n:Int) (f:Bool) (h1: -1000000000000<=n) (h2:n<=1000000000000) (hf:f=true->Int.tmod n 1000=0):zgg ⟨10,[],n,[],f⟩
 |cPct (n:Int) (h1: -1000000000000<=n) (h2:n<=1000000000000):zgg ⟨11,[],n,[],false⟩
 |cDim (n:Int) (u:Str) (f:Bool) (h1: -1000000000000<=n) (h2:n<=1000000000000) (hf:f=true->Int.tmod n 1000=0) (h0:u≠[]) (h:Zn u=true):zgg ⟨12,[],n,u,f⟩
 |cMark (k:Int) (h1:13<=k) (h2:k<=24):zgg ⟨k,[],0,[],false⟩
theorem Jr{t:zb}(h:ug t=true):zgg t:=by
 obtain⟨k,l,n,u,f⟩:=t;unfold ug at h;simp only at h;by_cases h1:(k==1||k==2||k==3)=true
 ·rw[h1,Ka]at h;simp only[Da,xe,Ga,Ib]at h;obtain⟨a,b,rfl,rfl,rfl⟩:=h;simp only[Ld,Ib]at h1;rcases h1 with(rfl|rfl)|rfl
  ·exact .cId l a b
  ·exact .cFn l a b
  ·exact .cAt l a b
 ·rw[Bool.not_eq_true]at h1;rw[h1,Ia]at h;by_cases h4:(k==4)=true
  ·rw[h4,Ka]at h;simp only[Da,xe,Ga,Ib,Ld]at h;obtain⟨a,b,c,rfl,rfl⟩:=h;rw[Ib]at h4;subst h4;exact .cHash l f a b c
  ·rw[Bool.not_eq_true]at h4;rw[h4,Ia]at h;by_cases m:(k==5||k==7)=true
   ·rw[m,Ka]at h;simp only[Da,xe,Ib]at h;obtain⟨b,rfl,rfl,rfl⟩:=h;simp only[Ld,Ib]at m;rcases m with rfl|rfl
    ·exact .cStr l b
    ·exact .cUrl l b
   ·rw[Bool.not_eq_true]at m;rw[m,Ia]at h;by_cases p:(k==9)=true
    ·rw[p,Ka]at h;simp only[Da,xe,Ib]at h;obtain⟨b,rfl,rfl,rfl⟩:=h;rw[Ib]at p;subst p;unfold delS at b;split at b
     ·exact .cDel _ b
     ·cases b
    ·rw[Bool.not_eq_true]at p;rw[p,Ia]at h;by_cases d:(k==10||k==11||k==12)=true
     ·rw[d,Ka]at h;unfold rngS at h;simp only[Da,Cc,Ld,xe,Ib]at h;obtain⟨⟨a1,a2,j⟩,a4,y,v,rfl⟩:=h;have hf:f=true->Int.tmod n 1000=0:=by
       intro e;rcases j with j|j
       ·rw[e]at j;cases j
       ·exact j
      simp only[Ld,Ib]at d;rcases d with(rfl|rfl)|rfl
      ·have:u=[]:=by
        cases u with
        |nil=>rfl
        |cons c r=>rw[show((c::r:Str)==[])=false from rfl]at a4;exact absurd a4 (by decide)
       subst i;exact .cNum n f a1 a2 hf
      ·have:u=[]:=by
        cases u with
        |nil=>rfl
        |cons c r=>rw[show((c::r:Str)==[])=false from rfl]at a4;exact absurd a4 (by decide)
       subst i;have:f=false:=by
        rcases v with v|v
        ·exact absurd v (by decide)
        ·exact v
       subst i;exact .cPct n a1 a2
      ·have:u≠[]:=by rintro rfl;exact absurd a4 (by decide)
       exact .cDim n u f a1 a2 hf i y
     ·rw[Bool.not_eq_true]at d;rw[d,Ia]at h;simp only[Da,xe,Cc,Ib]at h;obtain⟨⟨a1,a2⟩,rfl,rfl,rfl,rfl⟩:=h;exact .cMark k a1 a2
def neu(x:Str):Prop:=x=[]\/ ∃y,x=47::y
theorem zDr{x:Str}(d:neu x)(c:UInt8)(r:Str):brS c (r++x)=brS c r:=by
 rcases d with rfl|⟨y,rfl⟩
 ·rw[Ab]
 ·exact NW c r y
theorem RB{x:Str}(c:neu x)(q:Str):nmS (q++x)=nmS q:=by
 rcases c with rfl|⟨y,rfl⟩
 ·rw[Ab]
 ·exact Tv q y
theorem nD{x:Str}(c:neu x):zm x=([],x):=by
 rcases c with rfl|⟨y,rfl⟩
 ·exact qN
 ·rw[zH,Ha (by decide),show escS (47::y)=false from rfl,Ha (by decide)]
theorem FO{p:UInt8->Bool}(h:p 47=false){x:Str}(c:neu x):past p x=x:=by
 rcases c with rfl|⟨y,rfl⟩
 ·rfl
 ·rw[past,h];rfl
theorem zDo{x:Str}(c:neu x):atS x 0=0\/atS x 0=47:=by
 rcases c with rfl|⟨y,rfl⟩
 ·exact .inl rfl
 ·exact .inr rfl
theorem K6(c:UInt8)(r:Str):xk (c::r)=((c==101||c==69)&&numS r&& !(List.isPrefixOf [45,45] r)):=rfl
theorem U0(b:UInt8)(r:Str):numS (b::r)=bif b==45 then !(r==[])&&digN (r.headD 0).toNat else digN b.toNat:=rfl
theorem IK{c:UInt8}{r:Str}(h:xk (c::r)=true):c=101\/c=69:=by unfold xk at h;rw[Da,Da,Ld,Ib,Ib]at h;exact h.1.1
theorem pY{d:UInt8}{t:Str}(h:(d==10)=false):escS (92::d::t)=true:=by unfold escS;rw[show atS (92::d::t) 1=d from rfl,h];rfl
theorem Wu(c:UInt8)(r:Str):ng (c::r)=bif xk (c::r)then escC c++encW false 0 r else qm (c::r):=rfl
theorem KJ{w:Str}(h0:w≠[])(h:Zn w=true)(x:Str):zm (ng w++x)=(w++(zm x).1,(zm x).2):=by
 cases w with
 |nil=>exact absurd rfl h0
 |cons c r=>
  obtain⟨h1,h2⟩:=QN h;rw[Wu];cases d:xk (c::r)with
  |true=>
   have hc:c.toNat<128:=by rcases IK d with rfl|rfl<;>decide
   rw[Ka,Na,yN h1 hc,YP x 0 h2];rfl
  |false=>rw[Ia];exact Eo x h
theorem YG{w:Str}(h0:w≠[])(h:Zn w=true):nmS (ng w)=true:=by
 cases w with
 |nil=>exact absurd rfl h0
 |cons c r=>
  obtain⟨h1,h2⟩:=QN h;rw[Wu];cases f:xk (c::r)with
  |true=>
   have hc:c.toNat<128:=by rcases IK f with rfl|rfl<;>decide
   obtain⟨d,t,e1,e2,_⟩:=Mq h1 hc (encW false 0 r);rw[Ka,e1];exact DX rfl (pY e2)
  |false=>rw[Ia];exact Dm (by simp)
theorem jl{q:Str}(h:nmS q=true):q≠[]:=by rintro rfl;exact absurd h (by decide)
theorem BH{q:Str}(h:nmS q=true)(x:Str):past digB (q++x)=q++x/\zQ (q++x)=(q++x,true):=by
 obtain⟨_,_,_,_,_,_,_,_,d,f,_⟩:=Uw (gq h);cases q with
 |nil=>exact absurd rfl (jl h)
 |cons c r=> refine⟨by rw[ja,past,show digB c=false from f];rfl,?_⟩;unfold zQ;rw[show atS ((c::r)++x) 0=c from rfl,show(c==46)=false from d];rfl
theorem bN{w:Str}(h0:w≠[])(h:Zn w=true)(x:Str):expS (ng w++x)=none\/ ∃e s,(e=101\/e=69)/\(s=[]\/s=[45])/\w=e::s/\ng w=e::s:=by
 cases w with
 |nil=>exact absurd rfl h0
 |cons c r=>
  obtain⟨h1,h2⟩:=QN h;have p: ∀t:Str,expS (92::t)=none:=fun t=>rfl;cases L:xk (c::r)with
  |true=>
   left;have hc:c.toNat<128:=by rcases IK L with rfl|rfl<;>decide
   obtain⟨d,t,e1,e2,_⟩:=Mq h1 hc (encW false 0 r++x);have:ng (c::r)++x=92::d::t:=by rw[Wu,L,Ka,Na,e1]
   rw[f];exact p _
  |false=>
   have hu:ng (c::r)=qm (c::r):=by rw[Wu,L,Ia]
   rw[hu];have hn:qm (c::r)=pcW ((c::r:Str)==[45]) (QW (c::r)) c++encW ((c::r:Str)==[45]) (QW (c::r) - 1) r:=rfl;obtain⟨d,t,e,Y⟩:=kC (dash:=(c::r:Str)==[45]) (k:=QW (c::r)) (by unfold QW;split<;>omega) c (encW ((c::r:Str)==[45]) (QW (c::r) - 1) r);rw[hn,e];rcases Y with⟨rfl,h3⟩|⟨rfl,h3,h4,h5,W⟩
   ·left;exact p _
   ·by_cases j:d=101\/d=69
    ·have hf:QW (d::r)=1:=by rcases j with rfl|rfl<;>rfl
     have y:((d::r:Str)==[45])=false:=h3;rw[y,hf]at W;have i:t=encW false 0 r:=W;have O:(d==101||d==69)=true:=by rcases j with rfl|rfl<;>rfl
     cases r with
     |nil=> right;rw[encW]at i;exact⟨d,[],j, .inl rfl,rfl,by rw[i]⟩
     |cons d2 r2=>
      obtain⟨g1,Z⟩:=QN h2;have u:numS (d2::r2)=false:=by
       cases U:numS (d2::r2)with
       |false=>rfl
       |true=>
        exfalso;rw[K6,O,U,Vb,Vb]at L;have hp:List.isPrefixOf [45,45] (d2::r2)=true:=by
         cases hh:List.isPrefixOf [45,45] (d2::r2)with
         |true=>rfl
         |false=>rw[hh]at L;cases L
        obtain⟨z,hz⟩:=Ig.1 hp;rw[<-hz]at U;exact absurd U (by show numS (45::45::z)≠true;unfold numS;simp[digN])
      have m: ∀q:Str,digB (atS (unsign q) 0)=false->expS (d::q)=none:=by intro q U;rw[xn];show((d==101||d==69)&&digB (atS (unsign q) 0))=false;rw[U,Ve]
      have A:encW false 0 (d2::r2)=pcW false 0 d2++encW false 0 r2:=rfl;by_cases B:d2=45
      ·subst B;have V:pcW false 0 45=[45]:=rfl;cases r2 with
       |nil=> right;rw[A,V,encW]at i;exact⟨d,[45],j, .inr rfl,rfl,by rw[i];rfl⟩
       |cons v r3=>
        left;obtain⟨k1,k2⟩:=QN Z;have J:digB v=false:=by
         have:digN v.toNat=false:=by have:=u;unfold numS at f;simpa using f
         exact f
        rw[ja];refine m _ ?_;rw[i,A,V];show digB (atS (encW false 0 (v::r3)++x) 0)=false;rw[show encW false 0 (v::r3)=pcW false 0 v++encW false 0 r3 from rfl];unfold pcW;cases hl:letB v with
        |true=>exact J
        |false=>
         rw[Sc,Sc,Ia];have hc:v.toNat<128:=by
          by_cases hc:v.toNat<128
          ·exact hc
          ·rw[(sG hc).1]at hl;cases hl
         obtain⟨d4,t4,e4,_,_⟩:=Mq k1 hc (encW false 0 r3++x);rw[Na,e4];rfl
      ·left;have J:digB d2=false:=by
        have:digN d2.toNat=false:=by have:=u;rw[U0,Ga.2 B,Ia]at f;exact f
        exact f
       rw[ja];refine m _ ?_;rw[i,A];unfold pcW;cases hl:letB d2 with
       |true=>
        have hs:Ug d2=false:=by unfold Ug;rw[Ga.2 B,Uf,Ga];rintro rfl;exact absurd hl (by decide)
        show digB (atS (if Ug d2 then _ else d2::_) 0)=false;rw[hs,Ha (by decide)];exact J
       |false=>
        rw[Sc,Sc,Ia];have hc:d2.toNat<128:=by
         by_cases hc:d2.toNat<128
         ·exact hc
         ·rw[(sG hc).1]at hl;cases hl
        obtain⟨d4,t4,e4,_,_⟩:=Mq g1 hc (encW false 0 r2++x);rw[Na,e4];rfl
    ·left;rw[xn];have:(d==101||d==69)=false:=by rw[Ke,Ga,Ga];exact jg.1 j
     rw[ja,show atS (d::(t++x)) 0=d from rfl,f,Sc]
theorem kT{w:Str}(h0:w≠[])(h:Zn w=true){x:Str}(c:neu x):expS (ng w++x)=none:=by
 rcases bN h0 h x with h1|⟨e,s,i,d,_,hu⟩
 ·exact h1
 ·rw[hu,xn];have f:digB (atS (unsign (s++x)) 0)=false:=by
   rcases d with rfl|rfl
   ·rcases c with rfl|⟨y,rfl⟩<;>rfl
   ·rcases c with rfl|⟨y,rfl⟩<;>rfl
  show((e==101||e==69)&&digB (atS (unsign (s++x)) 0))=false;rw[f,Ve]
theorem aI{n:Int}{f:Bool}(hf:f=true->Int.tmod n 1000=0):(partT (n.natAbs%1000) (!f)).isEmpty=f:=by
 rw[zCI,Bool.not_not];cases f with
 |false=>rw[Ve]
 |true=>
  have:=hf rfl;have h2:n.natAbs%1000=0:=by have h3:(Int.tmod n 1000).natAbs=n.natAbs%1000:=Int.natAbs_tmod n 1000;rw[c]at h3;exact h3.symm
  rw[h2];rfl
theorem MB{n:Int}{p:Bool}{z:Str}(h1:past digB z=z)(h2:zQ z=(z,true))(h3:expS z=none):zC (numT n p++z)=(z,(partT (n.natAbs%1000) p).isEmpty):=by
 cases hp:(partT (n.natAbs%1000) p).isEmpty with
 |true=>rw[eG hp,h1,h2];simp only[h3]
 |false=>rw[NG hp,h1];simp only[h3]
theorem zCw{x:Str}(c:neu x):past digB x=x/\zQ x=(x,true)/\expS x=none:=by
 rcases c with rfl|⟨y,rfl⟩
 ·exact⟨rfl,rfl,rfl⟩
 ·exact⟨rfl,rfl,rfl⟩
theorem R7{q:Str}(h:[45,45,62].isPrefixOf q=true): ∃t,(zm q).2=62::t:=by obtain⟨t,rfl⟩:=Ig.1 h;refine⟨t,?_⟩;rw[show [45,45,62]++t=45::45::62::t from rfl,zH,La (by decide),zH,La (by decide),zH,Ha (by decide),Ha (by unfold escS;rw[show atS (62::t) 0=62 from rfl];simp)]
theorem uB{c:UInt8}{r:Str}(h:nmS (c::r)=true)(h3: ∀t,(zm (c::r)).2≠62::t):brS c r=7:=by
 obtain⟨a1,a2,d,a4,f,v,i,y,z,j,p⟩:=Uw (gq h);have hp:[45,45,62].isPrefixOf (c::r)=false:=by
  cases u:[45,45,62].isPrefixOf (c::r)with
  |false=>rfl
  |true=>obtain⟨t,e⟩:=R7 u;exact absurd e (h3 t)
 have hc:atS (c::r) 0=c:=rfl;rw[hc]at a1 a2 d a4 f i;unfold brS;rw[a1,Ha (by decide),a2,d,Ha (by decide),a4,Sc,Ha (by decide),VW h,Ha (by decide),hp,Ha (by decide),zCU (q:=c::r) (m:=[33,45,45]) (show(60:UInt8)≠0 by decide) i,Ha (by decide),f,Sc,Ha (by decide),h,La rfl]
theorem FN{q z:Str}(h:nmS q=true)(j:atS z 0≠10):nmS (q++z)=true:=by
 have i:(atS z 0==10)=false:=Ga.2 j
 match q with
 |[]=>exact absurd h (by decide)
 |[c]=>
  unfold nmS at h ⊢;have h0:atS ([c]++z) 0=c:=rfl;rw[show atS [c] 0=c from rfl]at h;rw[h0];cases f:c==45 with
  |true=>rw[f,La rfl]at h;exact absurd (show(fstB 0||(0:UInt8)==45||escS [])=true from h) (by decide)
  |false=> rw[f,Ha (by decide)]at h;rw[Ha (by decide)];unfold escS at h ⊢;rw[show atS [c] 0=c from rfl,show atS [c] 1=0 from rfl]at h;rw[h0,show atS ([c]++z) 1=atS z 0 from rfl,i];exact h
 |c::d::t=>
  unfold nmS at h ⊢;have h0:atS ((c::d::t)++z) 0=c:=rfl;have h1:atS ((c::d::t)++z) 1=d:=rfl;have h2:((c::d::t)++z).drop 1=(d::t)++z:=rfl;rw[show atS (c::d::t) 0=c from rfl,show atS (c::d::t) 1=d from rfl,show(c::d::t:Str).drop 1=d::t from rfl]at h;rw[h0,h1,h2];cases f:c==45 with
  |true=>
   rw[f,La rfl]at h;rw[La rfl];cases t with
   |nil=> unfold escS at h ⊢;rw[show atS [d] 0=d from rfl,show atS [d] 1=0 from rfl]at h;rw[show atS ([d]++z) 0=d from rfl,show atS ([d]++z) 1=atS z 0 from rfl,i];exact h
   |cons e t=>exact h
  |false=> rw[f,Ha (by decide)]at h;rw[Ha (by decide)];exact h
theorem vH(x:Str):zm (40::x)=([],40::x):=by rw[zH,Ha (by decide),Ha (by unfold escS;rw[show atS (40::x) 0=40 from rfl];simp)]
theorem nM{l:Str}(h:Zn l=true)(x:Str):zm (qm l++40::x)=(l,40::x):=by rw[Eo _ h,vH,Ab]
theorem Jj{q:Str}(h:q≠[]): ∃c r,q=c::r:=by
 cases q with
 |nil=>exact absurd rfl h
 |cons c r=>exact⟨c,r,rfl⟩
def Ei(f:Bool)(l:Str):Str:=bif f then qm l else encW false 0 l
theorem uR{f:Bool}{l:Str}(h:Zn l=true)(x:Str):zm (Ei f l++x)=(l++(zm x).1,(zm x).2):=by
 cases f with
 |true=>exact Eo x h
 |false=>exact YP x 0 h
theorem oZ{f:Bool}{l:Str}(h0:l≠[])(h:Zn l=true)(hb:f=true\/Rk l=true):(letB (atS (Ei f l) 0)||escS (Ei f l))=true/\(f=true->nmS (Ei f l)=true)/\(f=false->nmS (Ei f l)=false):=by
 cases f with
 |true=>
  have hn:=Dm h0;obtain⟨c,r,e⟩:=Jj (jl hn);refine⟨?_,fun _=>hn,fun e=>by cases e⟩;show(letB (atS (qm l) 0)||escS (qm l))=true;rw[e]at hn ⊢;rcases JP hn with h1|h1
  ·rw[show letB (atS (c::r) 0)=true from h1];rfl
  ·rw[h1,Jf]
 |false=>
  have v:Rk l=true:=by rcases hb with hb|hb;cases hb;exact hb
  cases l with
  |nil=>exact absurd rfl h0
  |cons c r=>
   have y:Ei false (c::r)=pcW false 0 c++encW false 0 r:=rfl;have m:(digN c.toNat||(c==45&&(r==[]||digN (r.headD 0).toNat)))=true:=v;by_cases p:c=45
   ·subst p;rw[y,show pcW false 0 45=[45]from rfl];refine⟨rfl,fun e=>by(cases e),fun _=> ?_⟩;cases r with
    |nil=>rfl
    |cons d t=>
     have u:digB d=true:=m;have hp:pcW false 0 d=[d]:=by
      unfold pcW;have:letB d=true:=by unfold letB;rw[u,Jf];rfl
      rw[i];rfl
     rw[show encW false 0 (d::t)=pcW false 0 d++encW false 0 t from rfl,hp];have hk: ∀n:Nat,n<256->digB (UInt8.ofNat n)=true->fstB (UInt8.ofNat n)=false/\(UInt8.ofNat n==45)=false/\(UInt8.ofNat n==92)=false:=by decide+j
     have:=hk d.toNat (Rb d);rw[Gc]at i;obtain⟨k1,k2,k3⟩:=i u;show(fstB d||d==45||escS (d::(encW false 0 t)))=false;unfold escS;rw[k1,k2,show atS (d::encW false 0 t) 0=d from rfl,k3];rfl
   ·have u:digB c=true:=by
     have:digN c.toNat=true:=by rw[Ga.2 p,Sc,Uf]at m;exact m
     exact i
    have hl:letB c=true:=by unfold letB;rw[u,Jf];rfl
    have hp:pcW false 0 c=[c]:=by unfold pcW;rw[hl];rfl
    rw[y,hp];refine⟨by rw[show letB (atS ([c]++encW false 0 r) 0)=letB c from rfl,hl];rfl,fun e=>by(cases e),fun _=> ?_⟩;have hk: ∀n:Nat,n<256->digB (UInt8.ofNat n)=true->fstB (UInt8.ofNat n)=false/\(UInt8.ofNat n==45)=false/\(UInt8.ofNat n==92)=false:=by decide+j
    have:=hk c.toNat (Rb c);rw[Gc]at i;obtain⟨k1,k2,k3⟩:=i u;unfold nmS escS;rw[show atS ([c]++encW false 0 r) 0=c from rfl,k2,Ha (by decide),k1,k3];rfl
theorem zDx(c:UInt8)(h:Vi c.toNat=true)(h2:c≠92):brS c []=8:=by
 have: ∀n:Nat,n<256->Vi (UInt8.ofNat n).toNat=true->UInt8.ofNat n≠92->brS (UInt8.ofNat n) []=8:=by decide+f
 have:=d c.toNat (Rb c);rw[Gc]at d;exact d h h2
theorem zCL(x:Str):past digB (37::x)=37::x/\zQ (37::x)=(37::x,true)/\expS (37::x)=none:=⟨rfl,rfl,rfl⟩
theorem AP{n:Int}{u:Str}{p:Bool}(x:Str):(numT n p++ng u)++x=numT n p++(ng u++x):=Na ..
theorem uH{c:UInt8}{r x:Str}(d:neu x):Zq (c::(r++x))=nxB (brS c r) c (r++x):=by rw[qo,zDr d]
theorem CO{n:Int}(h1: -1000000000000<=n)(h2:n<=1000000000000)(x:Str):Zq ((numT n false++[37])++x)=(⟨11,[],n,[],false⟩,x):=by rw[Na,Gd];obtain⟨p1,p2,d⟩:=zCL x;have c:=MB (n:=n) (p:=false) p1 p2 d;have hv:=FL h1 h2 (p:=false) (x:=37::x) (by rw[c]);rw[Xw];unfold zA;rw[c,hv,Ha (by unfold nmS escS;rw[show atS (37::x) 0=37 from rfl];simp[fstB,alB]),La (by rfl)];rfl
theorem WN{l:Str}(h0:l≠[])(h:Zn l=true)(hu:(lowS l==[117,114,108])=false)(x:Str):Zq ((qm l++[40])++x)=(⟨2,l,0,[],false⟩,x):=by rw[Na,Gd];have hn:=FN (z:=40::x) (Dm h0) (by show(40:UInt8)≠10;decide);have d:=nM h x;obtain⟨c,r,e⟩:=Jj (jl hn);rw[e]at hn d ⊢;rw[qo,uB hn (by rw[d];intro t e;injection e with e _;cases e),Tj];unfold qD;rw[d];simp only;rw[La (by rfl),hu,Sc,Ha (by decide)];rfl
theorem fH{l:Str}(h:Zn l=true)(x:Str):Zq ((34::(encB quoB l++[34]))++x)=(⟨5,l,0,[],false⟩,x):=by rw[ja,Na,Gd,qo,show brS 34 (encB quoB l++34::x)=1 from rfl,fq,xN x l h];rfl
theorem UO{l:Str}(h:Zn l=true)(x:Str):Zq (([117,114,108,40]++(encB urB l++[41]))++x)=(⟨7,l,0,[],false⟩,x):=by
 have e:([117,114,108,40]++(encB urB l++[41]))++x=117::114::108::40::(encB urB l++41::x):=by simp
 obtain⟨g1,d⟩:=zAS x l h;have c:zm (117::114::108::40::(encB urB l++41::x))=([117,114,108],40::(encB urB l++41::x)):=by rw[zH,La (by decide),zH,La (by decide),zH,La (by decide),vH]
 rw[e,qo,uB (by rfl) (by rw[c];intro t e;injection e with e _;cases e),Tj];unfold qD;rw[c];simp only;rw[La (by rfl),Xx,show(40::(encB urB l++41::x)).drop 1=encB urB l++41::x from rfl,g1,d,La (by decide),wN x l h];rfl
theorem aQ{k:Int}(h1:13<=k)(h2:k<=24)(x:Str):Zq (Wo k++x)=(⟨k,[],0,[],false⟩,if k=13 then past spB x else x):=by
 have hk:k=13\/k=14\/k=15\/k=16\/k=17\/k=18\/k=19\/k=20\/k=21\/k=22\/k=23\/k=24:=by omega
 rcases hk with rfl|rfl|rfl|rfl|rfl|rfl|rfl|rfl|rfl|rfl|rfl|rfl<;>rfl
theorem xq(l:Str):txS ⟨1,l,0,[],false⟩=qm l:=by rw[txS];rfl
theorem Wm(l:Str):txS ⟨2,l,0,[],false⟩=qm l++[40]:=by rw[txS];rfl
theorem Ar(l:Str):txS ⟨3,l,0,[],false⟩=64::qm l:=by rw[txS];rfl
theorem Ot(l:Str)(f:Bool):txS ⟨4,l,0,[],f⟩=35::Ei f l:=by rw[txS];rfl
theorem Yo(l:Str):txS ⟨5,l,0,[],false⟩=34::(encB quoB l++[34]):=by rw[txS];rfl
theorem Xr(l:Str):txS ⟨7,l,0,[],false⟩=[117,114,108,40]++(encB urB l++[41]):=by rw[txS];rfl
theorem mr(c:UInt8):txS ⟨9,[c],0,[],false⟩=[c]:=by rw[txS];rfl
theorem jr(n:Int)(f:Bool):txS ⟨10,[],n,[],f⟩=numT n (!f):=by rw[txS];rfl
theorem Yr(n:Int):txS ⟨11,[],n,[],false⟩=numT n false++[37]:=by rw[txS];rfl
theorem kr(n:Int)(u:Str)(f:Bool):txS ⟨12,[],n,u,f⟩=numT n (!f)++ng u:=by rw[txS];rfl
theorem Nt{k:Int}(h1:13<=k)(h2:k<=24):txS ⟨k,[],0,[],false⟩=Wo k:=by
 have hk:k=13\/k=14\/k=15\/k=16\/k=17\/k=18\/k=19\/k=20\/k=21\/k=22\/k=23\/k=24:=by omega
 rcases hk with rfl|rfl|rfl|rfl|rfl|rfl|rfl|rfl|rfl|rfl|rfl|rfl<;>rfl
theorem zBN{t:zb}(h:zgg t)(hb: ¬(t.kind=9/\t.text=[92]))(hu:Ph t=false){x:Str}(i:neu x):Zq (txS t++x)=(t,x):=by
 have ha:=zDo i;have y:nmS x=false:=by have:=RB i [];rw[Kc]at m;rw[m];rfl
 cases h with
 |cId l h0 h=>
  have hn:=Dm h0;have d:=Eo x h;rw[nD i,Ab]at d;obtain⟨c,r,e⟩:=Jj (jl hn);rw[xq];have hr:=IZ h;rw[e]at hn hr d ⊢;rw[ja,uH i,uB hn (by rw[hr];intro t e;cases e),Tj];unfold qD;rw[show c::(r++x)=(c::r)++x from rfl,d];simp only;rw[Ha (by rcases ha with ha|ha<;>rw[ha]<;>decide)]
 |cFn l h0 h=>rw[Wm];exact WN h0 h (by unfold Ph at hu;exact hu) x
 |cAt l h0 h=>
  have d:=Eo x h;rw[nD i,Ab]at d;rw[Ar,ja];have z:brS 64 (qm l++x)=6:=by unfold brS;rw[RB i,Dm h0];rfl
  rw[qo,z,Yq,d]
 |cHash l f h0 h A=>
  obtain⟨g1,L,O⟩:=oZ h0 h A;have d:=uR (f:=f) h x;rw[nD i,Ab]at d;rw[Ot,ja];have B:brS 35 (Ei f l)=2:=by unfold brS;rw[g1];rfl
  have hf:nmS (Ei f l)=f:=by
   cases f with
   |true=>exact L rfl
   |false=>exact O rfl
  rw[uH i,B,um,d,RB i,hf]
 |cStr l h=>rw[Yo];exact fH h x
 |cUrl l h=>rw[Xr];exact UO h x
 |cDel c h=>
  have J:c≠92:=by rintro rfl;exact hb ⟨rfl,rfl⟩
  rw[mr,ja,uH i,zDx c h J,Sv,Kc]
 |cNum n f h1 h2 hf=>
  obtain⟨e1,e2,e3⟩:=zCw i;have j:=MB (n:=n) (p:= !f) e1 e2 e3;rw[aI hf]at j;rw[jr,Xw];unfold zA;rw[FL h1 h2 (by rw[j]),j];simp only;rw[y,Ha (by decide),Ha (by rcases ha with ha|ha<;>rw[ha]<;>decide)]
 |cPct n h1 h2=>rw[Yr];exact CO h1 h2 x
 |cDim n u f h1 h2 hf h0 h=> have v:=YG h0 h;obtain⟨e1,e2⟩:=BH v x;have j:=MB (n:=n) (p:= !f) e1 e2 (kT h0 h i);rw[aI hf]at j;rw[kr,AP,Xw];unfold zA;rw[FL h1 h2 (by rw[j]),j];simp only;rw[RB i,v,La rfl,KJ h0 h,nD i,Ab]
 |cMark k h1 h2=> rw[Nt h1 h2,aQ h1 h2,FO (by decide) i,ite_self]
def aN(t:zb)(x r:Str):Prop:=zC (numT t.num (!t.flag)++x)=(r,t.flag)/\nmS r=false/\(atS r 0==37)=false
def zBz(x r:Str):Prop:= ∃s,(s=[]\/s=[45])/\digB (atS (unsign (s++x)) 0)=true/\nmS (past digB (unsign (s++x)))=true/\r=(zm (past digB (unsign (s++x)))).2
def PW(t:zb)(x r:Str):Prop:=r=x\/(t.kind=13/\r=past spB x)\/(t.kind=10/\aN t x r)\/(t.kind=12/\zBz x r)
theorem xO{w r:Str}(h:expS w=some r):(atS w 0=101\/atS w 0=69)/\digB (atS (unsign (w.drop 1)) 0)=true/\r=past digB (unsign (w.drop 1)):=by
 unfold expS at h;split at h
 ·rename_i h1;split at h
  ·rename_i h2;rw[Ld,Ib,Ib]at h1;injection h with h;exact⟨h1,h2,h.symm⟩
  ·cases h
 ·cases h
theorem RD{l a:Str}(h:l++a=l):a=[]:=by have:=congrArg List.length h;rw[Ba]at c;exact Ye.1 (by omega)
theorem dH{a b:zb}(h:a=b):a.text=b.text:=by rw[h]
theorem HY{t:zb}(h:zgg t)(hu:Ph t=false){x:Str}(ht:(Zq (txS t++x)).1=t):PW t x (Zq (txS t++x)).2:=by
 cases h with
 |cId l h0 h=>
  left;have hn:=Dm h0;have J:=Eo x h;obtain⟨c,r,e⟩:=Jj (jl hn);rw[xq]at ht ⊢;rw[e,ja]at ht ⊢;have d:=Xn c (r++x);rw[ht]at d;have i:brS c (r++x)=7:=d.symm;rw[qo,i,Tj]at ht ⊢;rw[show c::(r++x)=qm l++x by rw[e];rfl]at ht ⊢;unfold qD at ht ⊢;rw[J]at ht ⊢;simp only at ht ⊢;split at ht
  ·rename_i A;exfalso;split at ht
   ·have:=congrArg zb.kind ht;rcases WH (urlS (past spB ((zm x).2.drop 1))).1 with hk|hk<;>rw[hk]at m<;>cases m
   ·cases congrArg zb.kind ht
  ·rename_i A;rw[Ha A];have:=dH ht;exact mD (RD m)
 |cFn l h0 h=> left;rw[Wm,WN h0 h (by unfold Ph at hu;exact hu)]
 |cAt l h0 h=> left;rw[Ar,ja]at ht ⊢;have d:=Xn 64 (qm l++x);rw[ht]at d;have i:brS 64 (qm l++x)=6:=d.symm;rw[qo,i,Yq,Eo x h]at ht ⊢;exact mD (RD (dH ht))
 |cHash l f h0 h Y=> left;rw[Ot,ja]at ht ⊢;have d:=Xn 35 (Ei f l++x);rw[ht]at d;have i:brS 35 (Ei f l++x)=2:=d.symm;rw[qo,i,um,uR h x]at ht ⊢;exact mD (RD (dH ht))
 |cStr l h=>left;rw[Yo,fH h]
 |cUrl l h=>left;rw[Xr,UO h]
 |cDel c h=> left;rw[mr,ja]at ht ⊢;have d:=Xn c ([]++x);rw[ht]at d;have i:brS c ([]++x)=8:=d.symm;rw[qo,i,Sv,Kc]
 |cNum n f h1 h2 hf=>
  right;right;left;refine⟨rfl,?_⟩;rw[jr,Xw]at ht ⊢;unfold aN;show zC (numT n (!f)++x)=_/\_;unfold zA at ht ⊢;generalize zC (numT n (!f)++x)=e at ht ⊢;obtain⟨e,Z⟩:=e;simp only at ht ⊢;cases hn:nmS e with
  |true=>rw[hn,La rfl]at ht;cases congrArg zb.kind ht
  |false=>
   rw[hn,Ha (by decide)]at ht;rw[Ha (by decide)];cases v:atS e 0==37 with
   |true=>rw[v,La rfl]at ht;cases congrArg zb.kind ht
   |false=> rw[v,Ha (by decide)]at ht;rw[Ha (by decide)];have:Z=f:=congrArg zb.flag ht;rw[m];exact⟨rfl,hn,v⟩
 |cPct n h1 h2=>left;rw[Yr,CO h1 h2]
 |cDim n u f h1 h2 hf h0 h=>
  have L:=YG h0 h;obtain⟨e1,e2⟩:=BH L x;rw[kr,AP,Xw]at ht ⊢;have plain:expS (ng u++x)=none->(zA (numT n (!f)++(ng u++x))).2=x:=by
   intro j;have V:=MB (n:=n) (p:= !f) e1 e2 j;unfold zA at ht ⊢;rw[V]at ht ⊢;simp only at ht ⊢;split at ht
   ·rename_i hn;rw[La hn];rw[KJ h0 h]at ht ⊢;have:(u++(zm x).1)=u:=congrArg zb.unit ht;exact mD (RD m)
   ·rename_i hn;split at ht<;>cases congrArg zb.kind ht
  rcases bN h0 h x with hx|⟨e,s,V,hs,_,O⟩
  ·left;exact plain hx
  ·cases j:expS (ng u++x)with
   |none=>left;exact plain j
   |some z=>
    right;right;right;refine⟨rfl,s,hs,?_⟩;obtain⟨_,W,U⟩:=xO j;have y:(ng u++x).drop 1=s++x:=by rw[O];rfl
    rw[y]at W U;have B:zC (numT n (!f)++(ng u++x))=(z,false):=by
     cases hp:(partT (n.natAbs%1000) (!f)).isEmpty with
     |true=>rw[eG hp,e1,e2];simp only[j]
     |false=>rw[NG hp,e1];simp only[j]
    unfold zA at ht ⊢;rw[B]at ht ⊢;simp only at ht ⊢;split at ht
    ·rename_i hn;rw[La hn];exact⟨W,by rw[<-U];exact hn,by rw[<-U]⟩
    ·rename_i hn;split at ht<;>cases congrArg zb.kind ht
 |cMark k h1 h2=>
  rw[Nt h1 h2,aQ h1 h2];by_cases hk:k=13
  ·right;left;exact⟨hk,by simp only[hk,Td]⟩
  ·left;simp only[Ha hk]
end Go.Lv.VT
