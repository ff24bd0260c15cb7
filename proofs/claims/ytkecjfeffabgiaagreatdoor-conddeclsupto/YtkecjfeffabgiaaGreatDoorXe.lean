/- One token: what the scanner's function computes. -/
import Derived.Test.YtkecjfeffabgiaaGreatDoorXd
import Derived.Test.YtkecjfeffabgiaaGreatDoorXa
set_option linter.unusedSimpArgs false
set_option linter.unusedVariables false
namespace Go.Lv.VT
set_option maxRecDepth 100000
theorem SK(p:UInt8->Bool): ∀l:Str,past p l=l.dropWhile p
 |[]=>rfl
 |c::r=>by
  rw[past,yc];cases h:p c with
  |true=>exact SK p r
  |false=>rfl
theorem vC(p:UInt8->Bool)(l:Str):l.takeWhile p++past p l=l:=by rw[SK,List.takeWhile_append_dropWhile]
theorem yB(p:UInt8->Bool): ∀l:Str,(l.takeWhile p).all p=true
 |[]=>rfl
 |c::r=>by simp_all
def sgOf(l:Str):Str:=if Sm (atS l 0)then [atS l 0]else []
theorem NR(l:Str):sgOf l++unsign l=l:=by
 unfold sgOf unsign;cases h:Sm (atS l 0)with
 |false=>rfl
 |true=>
  rw[Ma rfl,Ma rfl];cases l with
  |nil=>exact absurd h (by decide)
  |cons c r=>rfl
theorem PR(l:Str):sgB (sgOf l)=true:=by
 unfold sgOf;cases h:Sm (atS l 0)with
 |false=>rfl
 |true=> rw[Ma rfl];unfold Sm at h;rw[Yc,Sb,Sb]at h;rcases h with h|h<;>rw[h]<;>rfl
def dotP(q:Str):Option Str:=if atS q 0==46&&digB (atS q 1)then some ((q.drop 1).takeWhile digB)else none
def expP(q:Str):Option (UInt8×Str×Str):=
 if(atS q 0==101||atS q 0==69)&&digB (atS (unsign (q.drop 1)) 0)then some (atS q 0,sgOf (q.drop 1),(unsign (q.drop 1)).takeWhile digB)else none
def numP(l:Str):NumP:=⟨sgOf l,(unsign l).takeWhile digB,dotP (past digB (unsign l)),expP (Yg (past digB (unsign l))).1⟩
theorem GV(q:Str):dotS (dotP q)++(Yg q).1=q/\(Yg q).2=(dotP q).isNone:=by
 unfold dotP Yg;cases h:atS q 0==46&&digB (atS q 1)with
 |false=>exact⟨rfl,rfl⟩
 |true=>
  rw[Ma rfl,Ma rfl];cases q with
  |nil=>exact absurd h (by decide)
  |cons c r=> rw[Ca,Sb]at h;refine⟨?_,rfl⟩;show(46::List.takeWhile digB r)++past digB r=c::r;rw[Dc,vC,show c=46 from h.1]
theorem yS(q:Str):expT (expP q)++(match expS q with|some r=>r|none=>q)=q:=by
 unfold expP expS;cases a:atS q 0==101||atS q 0==69 with
 |false=>rfl
 |true=>
  cases b:digB (atS (unsign (q.drop 1)) 0)with
  |false=>rfl
  |true=>
   simp only[Bool.and_self,Og];cases q with
   |nil=>exact absurd a (by decide)
   |cons c r=> show(c::(sgOf r++List.takeWhile digB (unsign r)))++past digB (unsign r)=c::r;rw[Dc,Td,vC,NR]
theorem wT(l:Str):(numP l).txt++(Fg l).1=l:=by
 have c:=(GV (past digB (unsign l))).1;have b:=yS (Yg (past digB (unsign l))).1;have a:(Fg l).1=(match expS (Yg (past digB (unsign l))).1 with|some r=>r|none=>(Yg (past digB (unsign l))).1):=by unfold Fg;simp only;cases expS (Yg (past digB (unsign l))).1<;>rfl
 rw[a];show(sgOf l++(List.takeWhile digB (unsign l)++(dotS (dotP (past digB (unsign l)))++expT (expP (Yg (past digB (unsign l))).1))))++_=l;rw[Td,Td,Td,b,c,vC,NR]
theorem SB{p:UInt8->Bool}{q:Str}(h:p (atS q 0)=true)(a:p 0=false):(q.takeWhile p).isEmpty=false:=by
 cases q with
 |nil=>rw[show atS [] 0=0 from rfl,a]at h;cases h
 |cons c r=>rw[List.takeWhile_cons,Ma (show p c=true from h)];rfl
theorem zCH{l:Str}(h:nbS l=true):(numP l).ok=true:=by
 unfold NumP.ok numP;simp only[PR,yB,aa,Ca];refine⟨?_,?_⟩
 ·unfold dotP;cases a:atS (past digB (unsign l)) 0==46&&digB (atS (past digB (unsign l)) 1)with
  |true=> rw[Ma rfl];simp only[yB,Vb];rw[Ca]at a;rw[SB (p:=digB) (by rw[OJ];exact a.2) (by decide)];rfl
  |false=>
   rw[Oa (by decide)];simp only;cases b:digB (atS (unsign l) 0)with
   |true=>rw[SB b (by decide)];rfl
   |false=>
    exfalso;have f:past digB (unsign l)=unsign l:=by
     cases e:unsign l with
     |nil=>rfl
     |cons c r=>rw[e]at b;rw[past,Oa (by rw[show digB c=false from b];decide)]
    rw[f]at a;unfold nbS undot at h;cases d:atS (unsign l) 0==46 with
    |false=>grind
    |true=>
     rw[d,Ma rfl,OJ]at h
     grind
 ·unfold expP;cases a:(atS (Yg (past digB (unsign l))).1 0==101||atS (Yg (past digB (unsign l))).1 0==69)&&digB (atS (unsign ((Yg (past digB (unsign l))).1.drop 1)) 0)with
  |false=>rfl
  |true=> rw[Ma rfl];rw[Ca]at a;simp only[a.1,PR,yB,Vb,aa];rw[SB a.2 (by decide)];rfl
theorem zCV{n:NumP}(h:n.ok=true):n.txt≠[]:=by
 obtain⟨c,D,F,X⟩:=n;unfold NumP.ok at h;simp only[Ca]at h;intro e;unfold NumP.txt at e;simp only[List.append_eq_nil_iff]at e;obtain⟨g,b,a,d⟩:=e;subst b;cases F with
 |none=>grind
 |some f=>cases a
theorem oW{c:UInt8}{r:Str}(h:nbS (c::r)=true):(Fg (c::r)).1<:+r:=by
 have e:=wT (c::r);have b:=zCV (zCH h);cases a:(numP (c::r)).txt with
 |nil=>grind
 |cons d t=>
  grind
def Tx(l:Str):zf×Str:=
 if nmS (Fg l).1 then(⟨12,[],(numP l).val,(qF (Fg l).1).1,(Fg l).2⟩,(qF (Fg l).1).2)
 else if atS (Fg l).1 0==37 then(⟨11,[],(numP l).val,[],false⟩,(Fg l).1.drop 1)
 else(⟨10,[],(numP l).val,[],(Fg l).2⟩,(Fg l).1)
def Gw(l:Str):zf×Str:=
 if atS (qF l).2 0==40 then
  (if(lowS (qF l).1==[117,114,108])&& !(atS (past spB ((qF l).2.drop 1)) 0==34||atS (past spB ((qF l).2.drop 1)) 0==39)
  then(zCY (urlS (past spB ((qF l).2.drop 1))).1,(urlS (past spB ((qF l).2.drop 1))).2)
  else(⟨2,(qF l).1,0,[],false⟩,(qF l).2.drop 1))
 else(⟨1,(qF l).1,0,[],false⟩,(qF l).2)
theorem zAg{c:UInt8}{r:Str}(h:letB c=true\/escS (c::r)=true):(qF (c::r)).2<:+r:=by
 rw[jL];split
 ·exact Dl r
 ·rename_i a;rw[Ma (h.resolve_left a)];exact(Dl _).trans (Gp r)
theorem zAj{c:UInt8}{r:Str}(h:nmS (c::r)=true):letB c=true\/escS (c::r)=true:=by
 unfold nmS at h;cases a:atS (c::r) 0==45 with
 |true=> left;rw[show c=45 from Sb.1 a];decide
 |false=>
  rw[a,Oa (by decide),Yc]at h;rcases h with h|h
  ·left;unfold letB;rw[show fstB c=true from h];rfl
  ·exact .inr h
theorem TV{c:UInt8}{r:Str}(h:nmS (c::r)=true):(Gw (c::r)).2<:+r:=by
 have b:=zAg (zAj h);have a:(qF (c::r)).2.drop 1<:+r:=(Ue 1 _).trans b;unfold Gw;split
 ·split
  ·exact(uB _).trans ((Rx spB _).trans a)
  ·exact a
 ·exact b
def nxU(c:UInt8)(r:Str):zf×Str:=
  if nmS (c::r)then Gw (c::r)
  else if fA c==0 then(⟨9,[c],0,[],false⟩,r)
  else(di (fA c),r)
def nxT(c:UInt8)(r:Str):zf×Str:=
  if nbS (c::r)then Tx (c::r)
  else if [45,45,62].isPrefixOf (c::r)then(di 15,(c::r).drop 3)
  else if [60,33,45,45].isPrefixOf (c::r)then(di 14,(c::r).drop 4)
  else if c==64&&nmS r then(⟨3,(qF r).1,0,[],false⟩,(qF r).2)
  else nxU c r
def Jm:Str->zf×Str
 |[]=>(⟨0,[],0,[],false⟩,[])
 |c::r=>
  if spB c then(di 13,past spB (c::r))
  else if c==34||c==39 then(mR (mf c r).1,(mf c r).2)
  else if c==35&&(letB (atS r 0)||escS r)then(⟨4,(qF r).1,0,[],nmS r⟩,(qF r).2)
  else nxT c r
theorem wV(c:UInt8)(r:Str):Jm (c::r)=
  if spB c then(di 13,past spB (c::r))
  else if c==34||c==39 then(mR (mf c r).1,(mf c r).2)
  else if c==35&&(letB (atS r 0)||escS r)then(⟨4,(qF r).1,0,[],nmS r⟩,(qF r).2)
  else if nbS (c::r)then Tx (c::r)
  else if [45,45,62].isPrefixOf (c::r)then(di 15,(c::r).drop 3)
  else if [60,33,45,45].isPrefixOf (c::r)then(di 14,(c::r).drop 4)
  else if c==64&&nmS r then(⟨3,(qF r).1,0,[],false⟩,(qF r).2)
  else if nmS (c::r)then Gw (c::r)
  else if fA c==0 then(⟨9,[c],0,[],false⟩,r)
  else(di (fA c),r):=rfl
theorem nW{c:UInt8}{r:Str}(h:nbS (c::r)=true):(Tx (c::r)).2<:+r:=by
 have a:=oW h;unfold Tx;split
 ·exact(Dl _).trans a
 ·split
  ·exact(Ue 1 _).trans a
  ·exact a
theorem zAh(c:UInt8)(r:Str):(Jm (c::r)).2<:+r:=by
 rw[wV];split
 ·rename_i h;show past spB (c::r)<:+r;rw[past,Ma h];exact Rx spB r
 ·split
  ·exact Xy c r
  ·split
   ·exact Dl r
   ·split
    ·rename_i h;exact nW h
    ·split
     ·exact Ue 2 r
     ·split
      ·exact Ue 3 r
      ·split
       ·exact Dl r
       ·split
        ·rename_i h;exact TV h
        grind
def clsS:Str->Option Str
 |[]=>none
 |c::r=>if c==42&&atS r 0==47 then some (r.drop 1)else clsS r
theorem FC: ∀(l:Str) {r:Str},clsS l=some r->r<:+l/\r.length+2<=l.length
 |[],r,h=>by cases h
 |c::t,r,h=>by
  unfold clsS at h;split at h
  ·rename_i a;rw[Ca,Sb,Sb]at a;injection h with h;subst h;have:=zC3 (l:=t) (n:=0) (by rw[a.2];decide);exact⟨(Ue 1 t).trans (Vd c t),by grind⟩
  ·obtain⟨d,b⟩:=FC t h
   grind
def cmtS(l:Str):Str:=
 if([47,42]:Str).isPrefixOf l then
  (match h:clsS (l.drop 2)with
  |some q=>cmtS q
  |none=>[])
 else l
termination_by l.length
decreasing_by
 have:=(FC _ h).2
 grind
theorem zBe(l:Str):cmtS l=if([47,42]:Str).isPrefixOf l then(match clsS (l.drop 2)with|some q=>cmtS q|none=>[])else l:=by
 rw[cmtS]
 grind
theorem lI(l:Str):cmtS l<:+l:=by
 rw[zBe];split
 ·split
  ·rename_i q b;have a:=FC _ b;have c:=a.2;rw[Gd]at c;exact(lI q).trans (a.1.trans (Ue 2 l))
  grind
 grind
termination_by l.length
decreasing_by
 grind
def GI(l:Str):List zf:=
 match h:cmtS l with
 |[]=>[]
 |c::r=>(Jm (c::r)).1::GI (Jm (c::r)).2
termination_by l.length
decreasing_by
 have b:=(zAh c r).length_le;have a:=(lI l).length_le
 grind
structure zC1 (q x:Str):Prop where
 e:Fg (q++x)=((Fg q).1++x,(Fg q).2)
 p:numP (q++x)=numP q
 n:nmS ((Fg q).1++x)=nmS (Fg q).1
def run:Str->List zf->Str->Prop
 |q,[],R=>q=R
 |q,t::a,R=> ∃c r,cmtS q=c::r/\(Jm (c::r)).1=t/\run (Jm (c::r)).2 a R
end Go.Lv.VT
