/- One token: what the scanner's function computes. -/
import Derived.Test.YtkecjfeffabgiaaGreatDoorXd
import Derived.Test.YtkecjfeffabgiaaGreatDoorXa
set_option linter.unusedSimpArgs false
set_option linter.unusedVariables false
namespace Go.Lv.VT
set_option maxRecDepth 100000
theorem SK(p:UInt8->Bool): ∀l:Str,past p l=l.dropWhile p
 |[]=>rfl
 |c::r=>by
  rw[past,Ad];cases h:p c with
  |true=>exact SK p r
  |false=>rfl
theorem FD(p:UInt8->Bool)(l:Str):l.takeWhile p++past p l=l:=by rw[SK,List.takeWhile_append_dropWhile]
theorem BC(p:UInt8->Bool): ∀l:Str,(l.takeWhile p).all p=true
 |[]=>rfl
 |c::r=>by simp_all
def sgOf(l:Str):Str:=if Sm (atS l 0)then [atS l 0]else []
theorem GR(l:Str):sgOf l++unsign l=l:=by
 unfold sgOf unsign;cases h:Sm (atS l 0)with
 |false=>rfl
 |true=>
  rw[Na rfl,Na rfl];cases l with
  |nil=>exact absurd h (by decide)
  |cons c r=>rfl
theorem IR(l:Str):sgB (sgOf l)=true:=by
 unfold sgOf;cases h:Sm (atS l 0)with
 |false=>rfl
 |true=> rw[Na rfl];unfold Sm at h;rw[Yc,Sb,Sb]at h;rcases h with h|h<;>rw[h]<;>rfl
def dotP(q:Str):Option Str:=if atS q 0==46&&digB (atS q 1)then some ((q.drop 1).takeWhile digB)else none
def expP(q:Str):Option (UInt8×Str×Str):=
 if(atS q 0==101||atS q 0==69)&&digB (atS (unsign (q.drop 1)) 0)then some (atS q 0,sgOf (q.drop 1),(unsign (q.drop 1)).takeWhile digB)else none
def numP(l:Str):NumP:=⟨sgOf l,(unsign l).takeWhile digB,dotP (past digB (unsign l)),expP (ag (past digB (unsign l))).1⟩
theorem dU(q:Str):dotS (dotP q)++(ag q).1=q/\(ag q).2=(dotP q).isNone:=by
 unfold dotP ag;cases h:atS q 0==46&&digB (atS q 1)with
 |false=>exact⟨rfl,rfl⟩
 |true=>
  rw[Na rfl,Na rfl];cases q with
  |nil=>exact absurd h (by decide)
  |cons c r=> rw[Ca,Sb]at h;refine⟨?_,rfl⟩;show(46::List.takeWhile digB r)++past digB r=c::r;rw[Dc,FD,show c=46 from h.1]
theorem aT(q:Str):expT (expP q)++(match expS q with|some r=>r|none=>q)=q:=by
 unfold expP expS;cases a:atS q 0==101||atS q 0==69 with
 |false=>rfl
 |true=>
  cases b:digB (atS (unsign (q.drop 1)) 0)with
  |false=>rfl
  |true=>
   simp only[Bool.and_self,Pg];cases q with
   |nil=>exact absurd a (by decide)
   |cons c r=> show(c::(sgOf r++List.takeWhile digB (unsign r)))++past digB (unsign r)=c::r;rw[Dc,Sd,FD,GR]
theorem FU(l:Str):(numP l).txt++(Fg l).1=l:=by
 have c:=(dU (past digB (unsign l))).1;have b:=aT (ag (past digB (unsign l))).1;have a:(Fg l).1=(match expS (ag (past digB (unsign l))).1 with|some r=>r|none=>(ag (past digB (unsign l))).1):=by unfold Fg;simp only;cases expS (ag (past digB (unsign l))).1<;>rfl
 rw[a];show(sgOf l++(List.takeWhile digB (unsign l)++(dotS (dotP (past digB (unsign l)))++expT (expP (ag (past digB (unsign l))).1))))++_=l;rw[Sd,Sd,Sd,b,c,FD,GR]
theorem AB{p:UInt8->Bool}{q:Str}(h:p (atS q 0)=true)(a:p 0=false):(q.takeWhile p).isEmpty=false:=by
 cases q with
 |nil=>rw[show atS [] 0=0 from rfl,a]at h;cases h
 |cons c r=>rw[List.takeWhile_cons,Na (show p c=true from h)];rfl
theorem zCB{l:Str}(h:nbS l=true):(numP l).ok=true:=by
 unfold NumP.ok numP;simp only[IR,BC,aa,Ca];refine⟨?_,?_⟩
 ·unfold dotP;cases a:atS (past digB (unsign l)) 0==46&&digB (atS (past digB (unsign l)) 1)with
  |true=> rw[Na rfl];simp only[BC,Vb];rw[Ca]at a;rw[AB (p:=digB) (by rw[NJ];exact a.2) (by decide)];rfl
  |false=>
   rw[Ra (by decide)];simp only;cases b:digB (atS (unsign l) 0)with
   |true=>rw[AB b (by decide)];rfl
   |false=>
    exfalso;have f:past digB (unsign l)=unsign l:=by
     cases e:unsign l with
     |nil=>rfl
     |cons c r=>rw[e]at b;rw[past,Ra (by rw[show digB c=false from b];decide)]
    rw[f]at a;unfold nbS undot at h;cases d:atS (unsign l) 0==46 with
    |false=>grind
    |true=>
     rw[d,Na rfl,NJ]at h
     grind
 ·unfold expP;cases a:(atS (ag (past digB (unsign l))).1 0==101||atS (ag (past digB (unsign l))).1 0==69)&&digB (atS (unsign ((ag (past digB (unsign l))).1.drop 1)) 0)with
  |false=>rfl
  |true=> rw[Na rfl];rw[Ca]at a;simp only[a.1,IR,BC,Vb,aa];rw[AB a.2 (by decide)];rfl
theorem zCQ{n:NumP}(h:n.ok=true):n.txt≠[]:=by
 obtain⟨c,D,F,X⟩:=n;unfold NumP.ok at h;simp only[Ca]at h;intro e;unfold NumP.txt at e;simp only[List.append_eq_nil_iff]at e;obtain⟨g,b,a,d⟩:=e;subst b;cases F with
 |none=>grind
 |some f=>cases a
theorem DX{c:UInt8}{r:Str}(h:nbS (c::r)=true):(Fg (c::r)).1<:+r:=by
 have e:=FU (c::r);have b:=zCQ (zCB h);cases a:(numP (c::r)).txt with
 |nil=>grind
 |cons d t=>
  grind
def Wx(l:Str):zf×Str:=
 if nmS (Fg l).1 then(⟨12,[],(numP l).val,(qG (Fg l).1).1,(Fg l).2⟩,(qG (Fg l).1).2)
 else if atS (Fg l).1 0==37 then(⟨11,[],(numP l).val,[],false⟩,(Fg l).1.drop 1)
 else(⟨10,[],(numP l).val,[],(Fg l).2⟩,(Fg l).1)
def Mw(l:Str):zf×Str:=
 if atS (qG l).2 0==40 then
  (if(lowS (qG l).1==[117,114,108])&& !(atS (past spB ((qG l).2.drop 1)) 0==34||atS (past spB ((qG l).2.drop 1)) 0==39)
  then(zCT (urlS (past spB ((qG l).2.drop 1))).1,(urlS (past spB ((qG l).2.drop 1))).2)
  else(⟨2,(qG l).1,0,[],false⟩,(qG l).2.drop 1))
 else(⟨1,(qG l).1,0,[],false⟩,(qG l).2)
theorem lT{c:UInt8}{r:Str}(h:letB c=true\/escS (c::r)=true):(qG (c::r)).2<:+r:=by
 rw[jL];split
 ·exact Gl r
 ·rename_i a;rw[Na (h.resolve_left a)];exact(Gl _).trans (Jp r)
theorem zAa{c:UInt8}{r:Str}(h:nmS (c::r)=true):letB c=true\/escS (c::r)=true:=by
 unfold nmS at h;cases a:atS (c::r) 0==45 with
 |true=> left;rw[show c=45 from Sb.1 a];decide
 |false=>
  rw[a,Ra (by decide),Yc]at h;rcases h with h|h
  ·left;unfold letB;rw[show fstB c=true from h];rfl
  ·exact .inr h
theorem CV{c:UInt8}{r:Str}(h:nmS (c::r)=true):(Mw (c::r)).2<:+r:=by
 have b:=lT (zAa h);have a:(qG (c::r)).2.drop 1<:+r:=(We 1 _).trans b;unfold Mw;split
 ·split
  ·exact(UC _).trans ((Vx spB _).trans a)
  ·exact a
 ·exact b
def nxU(c:UInt8)(r:Str):zf×Str:=
  if nmS (c::r)then Mw (c::r)
  else if bv c==0 then(⟨9,[c],0,[],false⟩,r)
  else(Aj (bv c),r)
def nxT(c:UInt8)(r:Str):zf×Str:=
  if nbS (c::r)then Wx (c::r)
  else if [45,45,62].isPrefixOf (c::r)then(Aj 15,(c::r).drop 3)
  else if [60,33,45,45].isPrefixOf (c::r)then(Aj 14,(c::r).drop 4)
  else if c==64&&nmS r then(⟨3,(qG r).1,0,[],false⟩,(qG r).2)
  else nxU c r
def Vm:Str->zf×Str
 |[]=>(⟨0,[],0,[],false⟩,[])
 |c::r=>
  if spB c then(Aj 13,past spB (c::r))
  else if c==34||c==39 then(pR (rf c r).1,(rf c r).2)
  else if c==35&&(letB (atS r 0)||escS r)then(⟨4,(qG r).1,0,[],nmS r⟩,(qG r).2)
  else nxT c r
theorem JW(c:UInt8)(r:Str):Vm (c::r)=
  if spB c then(Aj 13,past spB (c::r))
  else if c==34||c==39 then(pR (rf c r).1,(rf c r).2)
  else if c==35&&(letB (atS r 0)||escS r)then(⟨4,(qG r).1,0,[],nmS r⟩,(qG r).2)
  else if nbS (c::r)then Wx (c::r)
  else if [45,45,62].isPrefixOf (c::r)then(Aj 15,(c::r).drop 3)
  else if [60,33,45,45].isPrefixOf (c::r)then(Aj 14,(c::r).drop 4)
  else if c==64&&nmS r then(⟨3,(qG r).1,0,[],false⟩,(qG r).2)
  else if nmS (c::r)then Mw (c::r)
  else if bv c==0 then(⟨9,[c],0,[],false⟩,r)
  else(Aj (bv c),r):=rfl
theorem CX{c:UInt8}{r:Str}(h:nbS (c::r)=true):(Wx (c::r)).2<:+r:=by
 have a:=DX h;unfold Wx;split
 ·exact(Gl _).trans a
 ·split
  ·exact(We 1 _).trans a
  ·exact a
theorem kT(c:UInt8)(r:Str):(Vm (c::r)).2<:+r:=by
 rw[JW];split
 ·rename_i h;show past spB (c::r)<:+r;rw[past,Na h];exact Vx spB r
 ·split
  ·exact Yy c r
  ·split
   ·exact Gl r
   ·split
    ·rename_i h;exact CX h
    ·split
     ·exact We 2 r
     ·split
      ·exact We 3 r
      ·split
       ·exact Gl r
       ·split
        ·rename_i h;exact CV h
        grind
def clsS:Str->Option Str
 |[]=>none
 |c::r=>if c==42&&atS r 0==47 then some (r.drop 1)else clsS r
theorem aC: ∀(l:Str) {r:Str},clsS l=some r->r<:+l/\r.length+2<=l.length
 |[],r,h=>by cases h
 |c::t,r,h=>by
  unfold clsS at h;split at h
  ·rename_i a;rw[Ca,Sb,Sb]at a;injection h with h;subst h;have:=zCW (l:=t) (n:=0) (by rw[a.2];decide);exact⟨(We 1 t).trans (Vd c t),by grind⟩
  ·obtain⟨d,b⟩:=aC t h
   grind
def cmtS(l:Str):Str:=
 if([47,42]:Str).isPrefixOf l then
  (match h:clsS (l.drop 2)with
  |some q=>cmtS q
  |none=>[])
 else l
termination_by l.length
decreasing_by
 have:=(aC _ h).2
 grind
theorem zA4(l:Str):cmtS l=if([47,42]:Str).isPrefixOf l then(match clsS (l.drop 2)with|some q=>cmtS q|none=>[])else l:=by
 rw[cmtS]
 grind
theorem fI(l:Str):cmtS l<:+l:=by
 rw[zA4];split
 ·split
  ·rename_i q b;have a:=aC _ b;have c:=a.2;rw[Jd]at c;exact(fI q).trans (a.1.trans (We 2 l))
  grind
 grind
termination_by l.length
decreasing_by
 grind
def nH(l:Str):List zf:=
 match h:cmtS l with
 |[]=>[]
 |c::r=>(Vm (c::r)).1::nH (Vm (c::r)).2
termination_by l.length
decreasing_by
 have b:=(kT c r).length_le;have a:=(fI l).length_le
 grind
structure zCV (q x:Str):Prop where
 e:Fg (q++x)=((Fg q).1++x,(Fg q).2)
 p:numP (q++x)=numP q
 n:nmS ((Fg q).1++x)=nmS (Fg q).1
def run:Str->List zf->Str->Prop
 |q,[],R=>q=R
 |q,t::a,R=> ∃c r,cmtS q=c::r/\(Vm (c::r)).1=t/\run (Vm (c::r)).2 a R
end Go.Lv.VT
