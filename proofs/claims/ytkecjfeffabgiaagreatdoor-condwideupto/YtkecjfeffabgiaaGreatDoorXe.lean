/- One token: what the scanner's function computes. -/
import Derived.Test.YtkecjfeffabgiaaGreatDoorXd
import Derived.Test.YtkecjfeffabgiaaGreatDoorXa
set_option linter.unusedSimpArgs false
set_option linter.unusedVariables false
namespace Go.Lv.VT
set_option maxRecDepth 100000
theorem dI(p:UInt8->Bool): ∀l:Str,past p l=l.dropWhile p
 |[]=>rfl
 |c::r=>by
  rw[past,Ld];cases h:p c with
  |true=>exact dI p r
  |false=>rfl
theorem LB(p:UInt8->Bool)(l:Str):l.takeWhile p++past p l=l:=by rw[dI,List.takeWhile_append_dropWhile]
theorem AB(p:UInt8->Bool): ∀l:Str,(l.takeWhile p).all p=true
 |[]=>rfl
 |c::r=>by simp_all
def sgOf(l:Str):Str:=if Kl (atS l 0)then [atS l 0]else []
theorem tF(l:Str):sgOf l++unsign l=l:=by
 unfold sgOf unsign;cases h:Kl (atS l 0)with
 |false=>rfl
 |true=>
  rw[Na rfl,Na rfl];cases l with
  |nil=>exact absurd h (by decide)
  |cons c r=>rfl
theorem uF(l:Str):sgB (sgOf l)=true:=by
 unfold sgOf;cases h:Kl (atS l 0)with
 |false=>rfl
 |true=> rw[Na rfl];unfold Kl at h;rw[Cc,Sb,Sb]at h;rcases h with h|h<;>rw[h]<;>rfl
def dotP(q:Str):Option Str:=if atS q 0==46&&digB (atS q 1)then some ((q.drop 1).takeWhile digB)else none
def expP(q:Str):Option (UInt8×Str×Str):=
 if(atS q 0==101||atS q 0==69)&&digB (atS (unsign (q.drop 1)) 0)then some (atS q 0,sgOf (q.drop 1),(unsign (q.drop 1)).takeWhile digB)else none
def numP(l:Str):NumP:=⟨sgOf l,(unsign l).takeWhile digB,dotP (past digB (unsign l)),expP (Tg (past digB (unsign l))).1⟩
theorem lU(q:Str):dotS (dotP q)++(Tg q).1=q/\(Tg q).2=(dotP q).isNone:=by
 unfold dotP Tg;cases h:atS q 0==46&&digB (atS q 1)with
 |false=>exact⟨rfl,rfl⟩
 |true=>
  rw[Na rfl,Na rfl];cases q with
  |nil=>exact absurd h (by decide)
  |cons c r=> rw[Ca,Sb]at h;refine⟨?_,rfl⟩;show(46::List.takeWhile digB r)++past digB r=c::r;rw[Dc,LB,show c=46 from h.1]
theorem lS(q:Str):expT (expP q)++(match expS q with|some r=>r|none=>q)=q:=by
 unfold expP expS;cases a:atS q 0==101||atS q 0==69 with
 |false=>rfl
 |true=>
  cases b:digB (atS (unsign (q.drop 1)) 0)with
  |false=>rfl
  |true=>
   simp only[Bool.and_self,if_true];cases q with
   |nil=>exact absurd a (by decide)
   |cons c r=> show(c::(sgOf r++List.takeWhile digB (unsign r)))++past digB (unsign r)=c::r;rw[Dc,Sd,LB,tF]
theorem aT(l:Str):(numP l).txt++(Dg l).1=l:=by
 have c:=(lU (past digB (unsign l))).1;have b:=lS (Tg (past digB (unsign l))).1;have a:(Dg l).1=(match expS (Tg (past digB (unsign l))).1 with|some r=>r|none=>(Tg (past digB (unsign l))).1):=by unfold Dg;simp only;cases expS (Tg (past digB (unsign l))).1<;>rfl
 rw[a];show(sgOf l++(List.takeWhile digB (unsign l)++(dotS (dotP (past digB (unsign l)))++expT (expP (Tg (past digB (unsign l))).1))))++_=l;rw[Sd,Sd,Sd,b,c,LB,tF]
theorem Pz{p:UInt8->Bool}{q:Str}(h:p (atS q 0)=true)(a:p 0=false):(q.takeWhile p).isEmpty=false:=by
 cases q with
 |nil=>rw[show atS [] 0=0 from rfl,a]at h;cases h
 |cons c r=>rw[List.takeWhile_cons,Na (show p c=true from h)];rfl
theorem XP{l:Str}(h:nbS l=true):(numP l).ok=true:=by
 unfold NumP.ok numP;simp only[uF,AB,Ya,Ca];refine⟨?_,?_⟩
 ·unfold dotP;cases a:atS (past digB (unsign l)) 0==46&&digB (atS (past digB (unsign l)) 1)with
  |true=> rw[Na rfl];simp only[AB,Jc];rw[Ca]at a;rw[Pz (p:=digB) (by rw[bH];exact a.2) (by decide)];rfl
  |false=>
   rw[Ra (by decide)];simp only;cases b:digB (atS (unsign l) 0)with
   |true=>rw[Pz b (by decide)];rfl
   |false=>
    exfalso;have f:past digB (unsign l)=unsign l:=by
     cases e:unsign l with
     |nil=>rfl
     |cons c r=>rw[e]at b;rw[past,Ra (by rw[show digB c=false from b];decide)]
    rw[f]at a;unfold nbS undot at h;cases d:atS (unsign l) 0==46 with
    |false=>grind
    |true=>
     rw[d,Na rfl,bH]at h
     grind
 ·unfold expP;cases a:(atS (Tg (past digB (unsign l))).1 0==101||atS (Tg (past digB (unsign l))).1 0==69)&&digB (atS (unsign ((Tg (past digB (unsign l))).1.drop 1)) 0)with
  |false=>rfl
  |true=> rw[Na rfl];rw[Ca]at a;simp only[a.1,uF,AB,Jc,Ya];rw[Pz a.2 (by decide)];rfl
theorem FP{n:NumP}(h:n.ok=true):n.txt≠[]:=by
 obtain⟨c,D,F,X⟩:=n;unfold NumP.ok at h;simp only[Ca]at h;intro e;unfold NumP.txt at e;simp only[List.append_eq_nil_iff]at e;obtain⟨g,b,a,d⟩:=e;subst b;cases F with
 |none=>grind
 |some f=>cases a
theorem UW{c:UInt8}{r:Str}(h:nbS (c::r)=true):(Dg (c::r)).1<:+r:=by
 have e:=aT (c::r);have b:=FP (XP h);cases a:(numP (c::r)).txt with
 |nil=>grind
 |cons d t=>
  grind
def Xv(l:Str):zk×Str:=
 if nmS (Dg l).1 then(⟨12,[],(numP l).val,(qm (Dg l).1).1,(Dg l).2⟩,(qm (Dg l).1).2)
 else if atS (Dg l).1 0==37 then(⟨11,[],(numP l).val,[],false⟩,(Dg l).1.drop 1)
 else(⟨10,[],(numP l).val,[],(Dg l).2⟩,(Dg l).1)
def au(l:Str):zk×Str:=
 if atS (qm l).2 0==40 then
  (if(lowS (qm l).1==[117,114,108])&& !(atS (past spB ((qm l).2.drop 1)) 0==34||atS (past spB ((qm l).2.drop 1)) 0==39)
  then(BP (urlS (past spB ((qm l).2.drop 1))).1,(urlS (past spB ((qm l).2.drop 1))).2)
  else(⟨2,(qm l).1,0,[],false⟩,(qm l).2.drop 1))
 else(⟨1,(qm l).1,0,[],false⟩,(qm l).2)
theorem xS{c:UInt8}{r:Str}(h:letB c=true\/escS (c::r)=true):(qm (c::r)).2<:+r:=by
 rw[NK];split
 ·exact Ak r
 ·rename_i a;rw[Na (h.resolve_left a)];exact(Ak _).trans (bn r)
theorem vS{c:UInt8}{r:Str}(h:nmS (c::r)=true):letB c=true\/escS (c::r)=true:=by
 unfold nmS at h;cases a:atS (c::r) 0==45 with
 |true=> left;rw[show c=45 from Sb.1 a];decide
 |false=>
  rw[a,Ra (by decide),Cc]at h;rcases h with h|h
  ·left;unfold letB;rw[show fstB c=true from h];rfl
  ·exact .inr h
theorem XU{c:UInt8}{r:Str}(h:nmS (c::r)=true):(au (c::r)).2<:+r:=by
 have b:=xS (vS h);have a:(qm (c::r)).2.drop 1<:+r:=(Oe 1 _).trans b;unfold au;split
 ·split
  ·exact(BA _).trans ((Wv spB _).trans a)
  ·exact a
 ·exact b
def nxU(c:UInt8)(r:Str):zk×Str:=
  if nmS (c::r)then au (c::r)
  else if Nu c==0 then(⟨9,[c],0,[],false⟩,r)
  else(Ki (Nu c),r)
def nxT(c:UInt8)(r:Str):zk×Str:=
  if nbS (c::r)then Xv (c::r)
  else if [45,45,62].isPrefixOf (c::r)then(Ki 15,(c::r).drop 3)
  else if [60,33,45,45].isPrefixOf (c::r)then(Ki 14,(c::r).drop 4)
  else if c==64&&nmS r then(⟨3,(qm r).1,0,[],false⟩,(qm r).2)
  else nxU c r
def Nl:Str->zk×Str
 |[]=>(⟨0,[],0,[],false⟩,[])
 |c::r=>
  if spB c then(Ki 13,past spB (c::r))
  else if c==34||c==39 then(WG (rf c r).1,(rf c r).2)
  else if c==35&&(letB (atS r 0)||escS r)then(⟨4,(qm r).1,0,[],nmS r⟩,(qm r).2)
  else nxT c r
theorem jV(c:UInt8)(r:Str):Nl (c::r)=
  if spB c then(Ki 13,past spB (c::r))
  else if c==34||c==39 then(WG (rf c r).1,(rf c r).2)
  else if c==35&&(letB (atS r 0)||escS r)then(⟨4,(qm r).1,0,[],nmS r⟩,(qm r).2)
  else if nbS (c::r)then Xv (c::r)
  else if [45,45,62].isPrefixOf (c::r)then(Ki 15,(c::r).drop 3)
  else if [60,33,45,45].isPrefixOf (c::r)then(Ki 14,(c::r).drop 4)
  else if c==64&&nmS r then(⟨3,(qm r).1,0,[],false⟩,(qm r).2)
  else if nmS (c::r)then au (c::r)
  else if Nu c==0 then(⟨9,[c],0,[],false⟩,r)
  else(Ki (Nu c),r):=rfl
theorem PW{c:UInt8}{r:Str}(h:nbS (c::r)=true):(Xv (c::r)).2<:+r:=by
 have a:=UW h;unfold Xv;split
 ·exact(Ak _).trans a
 ·split
  ·exact(Oe 1 _).trans a
  ·exact a
theorem wS(c:UInt8)(r:Str):(Nl (c::r)).2<:+r:=by
 rw[jV];split
 ·rename_i h;show past spB (c::r)<:+r;rw[past,Na h];exact Wv spB r
 ·split
  ·exact Pw c r
  ·split
   ·exact Ak r
   ·split
    ·rename_i h;exact PW h
    ·split
     ·exact Oe 2 r
     ·split
      ·exact Oe 3 r
      ·split
       ·exact Ak r
       ·split
        ·rename_i h;exact XU h
        grind
def clsS:Str->Option Str
 |[]=>none
 |c::r=>if c==42&&atS r 0==47 then some (r.drop 1)else clsS r
theorem TA: ∀(l:Str) {r:Str},clsS l=some r->r<:+l/\r.length+2<=l.length
 |[],r,h=>by cases h
 |c::t,r,h=>by
  unfold clsS at h;split at h
  ·rename_i a;rw[Ca,Sb,Sb]at a;injection h with h;subst h;have:=yO (l:=t) (n:=0) (by rw[a.2];decide);exact⟨(Oe 1 t).trans (Vd c t),by grind⟩
  ·obtain⟨d,b⟩:=TA t h
   grind
def cmtS(l:Str):Str:=
 if([47,42]:Str).isPrefixOf l then
  (match h:clsS (l.drop 2)with
  |some q=>cmtS q
  |none=>[])
 else l
termination_by l.length
decreasing_by
 have:=(TA _ h).2
 grind
theorem TR(l:Str):cmtS l=if([47,42]:Str).isPrefixOf l then(match clsS (l.drop 2)with|some q=>cmtS q|none=>[])else l:=by
 rw[cmtS]
 grind
theorem yG(l:Str):cmtS l<:+l:=by
 rw[TR];split
 ·split
  ·rename_i q b;have a:=TA _ b;have c:=a.2;rw[yc]at c;exact(yG q).trans (a.1.trans (Oe 2 l))
  grind
 grind
termination_by l.length
decreasing_by
 grind
def Wy(l:Str):List zk:=
 match h:cmtS l with
 |[]=>[]
 |c::r=>(Nl (c::r)).1::Wy (Nl (c::r)).2
termination_by l.length
decreasing_by
 have b:=(wS c r).length_le;have a:=(yG l).length_le
 grind
structure zzW (q x:Str):Prop where
 e:Dg (q++x)=((Dg q).1++x,(Dg q).2)
 p:numP (q++x)=numP q
 n:nmS ((Dg q).1++x)=nmS (Dg q).1
def run:Str->List zk->Str->Prop
 |q,[],R=>q=R
 |q,t::a,R=> ∃c r,cmtS q=c::r/\(Nl (c::r)).1=t/\run (Nl (c::r)).2 a R
end Go.Lv.VT
