/- The writing of names. -/
import Derived.Test.YtcdeccnjlkkejaaGreatDoorNam
set_option linter.unusedSimpArgs false
set_option linter.unusedVariables false
namespace Go.Lv.VT
set_option maxRecDepth 100000
def escC(c:UInt8):Str:=bif decide (32<c.toNat)&&decide (c.toNat<127)&& !digB c&& !alB c then [92,c]else 92::(hexS c.toNat++[32])
def pcW(dash:Bool)(k:Nat)(c:UInt8):Str:=bif letB c&&(k==0|| !digB c)&& !dash then [c]else escC c
def encW(dash:Bool):Nat->Str->Str
 |_,[]=>[]
 |k,c::r=>pcW dash k c++encW dash (k - 1) r
def oI(l:Str):Nat:=if [45].isPrefixOf l then 2 else 1
def yj(l:Str):Str:=encW (l==[45]) (oI l) l
theorem MQ(m:UInt8):qO m []=(some [],[]):=by rw[qO]
theorem eQ(m c:UInt8)(r:Str):qO m (c::r)=if c==m then(some [],r)
  else if c==10 then(none,c::r)
  else if c==92 then
   (if r.isEmpty then(some [],[])
   else if atS r 0==10 then qO m (r.drop 1)
   else((qO m (Zb r).2).1.map ((Zb r).1++ ·),(qO m (Zb r).2).2))
  else((qO m r).1.map (c:: ·),(qO m r).2):=by rw[qO]
theorem fu(m:UInt8)(l:Str):(qO m l).2<:+l:=by
 match l with
 |[]=>rw[MQ];exact Ad _
 |c::r=>
  rw[eQ];have hr:=Wd c r;split
  ·exact hr
  ·split
   ·exact Ad _
   ·split
    ·split
     ·exact List.nil_suffix
     ·split
      ·exact(fu m (r.drop 1)).trans ((Re 1 r).trans hr)
      ·have:=ZG r;exact(fu m (Zb r).2).trans ((Mm r).trans hr)
    ·exact(fu m r).trans hr
termination_by l.length
decreasing_by
 all_goals first|(have:=ZG r;simp only[Sa];omega)|(simp only[Sa,Ed];omega)
def gB:Option Str->ze
 |some t=>⟨5,t,0,[],false⟩
 |none=>⟨6,[],0,[],false⟩
theorem mM:badS []=[]:=by rw[badS]
theorem pO(c:UInt8)(r:Str):badS (c::r)=if c==41 then r else if escS (c::r)then badS (Zb r).2 else badS r:=by rw[badS]
theorem Ls(l:Str):badS l<:+l:=by
 match l with
 |[]=>rw[mM];exact Ad _
 |c::r=>
  rw[pO];have hr:=Wd c r;split
  ·exact hr
  ·split
   ·have:=ZG r;exact(Ls (Zb r).2).trans ((Mm r).trans hr)
   ·exact(Ls r).trans hr
termination_by l.length
decreasing_by
 all_goals first|(have:=ZG r;simp only[Sa];omega)|(simp only[Sa];omega)
theorem EM:urlS []=(some [],[]):=by rw[urlS]
theorem aM(c:UInt8)(r:Str):urlS (c::r)=if c==41 then(some [],r)
  else if spB c then(match past spB r with
   |[]=>(some [],[])
   |d::r'=>if d==41 then(some [],r')else(none,badS (d::r')))
  else if c==34||c==39||c==40||unB c||c==92&& !escS (c::r)then(none,badS (c::r))
  else if c==92 then((urlS (Zb r).2).1.map ((Zb r).1++ ·),(urlS (Zb r).2).2)
  else((urlS r).1.map (c:: ·),(urlS r).2):=by rw[urlS];cases past spB r<;>rfl
theorem jw(l:Str):(urlS l).2<:+l:=by
 match l with
 |[]=>rw[EM];exact Ad _
 |c::r=>
  rw[aM];have hr:=Wd c r;split
  ·exact hr
  ·split
   ·have hp:=(Mt spB r).trans hr;cases hq:past spB r with
    |nil=>exact List.nil_suffix
    |cons d r'=>
     rw[hq]at hp;simp only;split
     ·exact(Wd d r').trans hp
     ·exact(Ls _).trans hp
   ·split
    ·exact Ls _
    ·split
     ·have:=ZG r;exact(jw (Zb r).2).trans ((Mm r).trans hr)
     ·exact(jw r).trans hr
termination_by l.length
decreasing_by
 all_goals first|(have:=ZG r;simp only[Sa];omega)|(simp only[Sa];omega)
def pJ:Option Str->ze
 |some t=>⟨7,t,0,[],false⟩
 |none=>⟨8,[],0,[],false⟩
def capF(cap:Nat):Nat->Str->Nat
 |n,[]=>n
 |n,c::r=>capF cap (min cap (decN n c)) r
structure NumP where
 sg:Str
 D:Str
 F:Option Str
 X:Option (UInt8×Str×Str)
def dotS:Option Str->Str
 |none=>[]
 |some f=>46::f
def expT:Option (UInt8×Str×Str)->Str
 |none=>[]
 |some (e,s,x)=>e::(s++x)
def NumP.txt(n:NumP):Str:=n.sg++(n.D++(dotS n.F++expT n.X))
def sgB(s:Str):Bool:=s==[]||s==[43]||s==[45]
def NumP.ok(n:NumP):Bool:=sgB n.sg&&n.D.all digB&&(match n.F with|none=> !n.D.isEmpty|some f=> !f.isEmpty&&f.all digB)&&
 (match n.X with|none=>true|some (e,s,x)=>(e==101||e==69)&&sgB s&& !x.isEmpty&&x.all digB)
def expV:Option (UInt8×Str×Str)->Int
 |none=>0
 |some (_,s,x)=>if s==[45]then -((capF 1048576 0 x:Nat):Int)else((capF 1048576 0 x:Nat):Int)
def thoV(A:Str)(p:Int):Nat:=YB p.toNat (capF Uv 0 (if p<0 then A.take ((A.length:Int)+p).toNat else A))
def NumP.val(n:NumP):Int:=
 let v:=thoV (n.D++n.F.getD []) (3+expV n.X - ((n.F.getD []).length:Int))
 if n.sg==[45]then -(v:Int)else(v:Int)
theorem Cu{l:Str}(h: ∀b∈l,b.toNat<128):Ij l=true:=by
 unfold Ij
 grind
theorem KE {S X R:Type} {step:S->Option (LO S X R)} {k:X->Option R} (Inv:S->Prop) (μ:S->Nat) (y:R)
  (h: ∀s,Inv s->(∃s',step s=some (.again s')/\Inv s'/\μ s'<μ s)\/(∃x,step s=some (.out x)/\k x=some y)\/step s=some (.ret y)) {s:S} (hs:Inv s):Qv step s k=some y:=by
 have key: ∀(m:Nat) (s:S),μ s<m->Inv s-> ∃r:LX X R,Gf step m s=some r/\r.go k=some y:=by
  intro m
  induction m with
  |zero=>intro s h;omega
  |succ m ih=>
   intro s hm hs;simp only[Gf];rcases h s hs with⟨s',h1,h2,h3⟩|⟨x,h1,h2⟩|h1
   ·grind
   ·simp_all
   simp_all
 obtain⟨r,h1,h2⟩:=key (μ s+1) s (by omega) hs;rw[ND (yx h1)];exact h2
theorem vD(p:UInt8->Bool): ∀l:Str,past p l=l.dropWhile p
 |[]=>rfl
 |c::r=>by
  rw[past,List.dropWhile_cons];cases h:p c with
  |true=>exact vD p r
  |false=>rfl
theorem Iy(p:UInt8->Bool)(l:Str):l.takeWhile p++past p l=l:=by rw[vD,List.takeWhile_append_dropWhile]
theorem ww(p:UInt8->Bool): ∀l:Str,(l.takeWhile p).all p=true
 |[]=>rfl
 |c::r=>by simp_all
def sgOf(l:Str):Str:=if dm (atS l 0)then [atS l 0]else []
theorem JB(l:Str):sgOf l++unsign l=l:=by
 unfold sgOf unsign;cases h:dm (atS l 0)with
 |false=>rfl
 |true=>
  rw[Ta rfl,Ta rfl];cases l with
  |nil=>exact absurd h (by decide)
  |cons c r=>rfl
theorem LB(l:Str):sgB (sgOf l)=true:=by
 unfold sgOf;cases h:dm (atS l 0)with
 |false=>rfl
 |true=> rw[Ta rfl];unfold dm at h;rw[We,De,De]at h;rcases h with h|h<;>rw[h]<;>rfl
def dotP(q:Str):Option Str:=if atS q 0==46&&digB (atS q 1)then some ((q.drop 1).takeWhile digB)else none
def expP(q:Str):Option (UInt8×Str×Str):=
 if(atS q 0==101||atS q 0==69)&&digB (atS (unsign (q.drop 1)) 0)then some (atS q 0,sgOf (q.drop 1),(unsign (q.drop 1)).takeWhile digB)else none
def numP(l:Str):NumP:=⟨sgOf l,(unsign l).takeWhile digB,dotP (past digB (unsign l)),expP (bg (past digB (unsign l))).1⟩
theorem xM(q:Str):dotS (dotP q)++(bg q).1=q/\(bg q).2=(dotP q).isNone:=by
 unfold dotP bg;cases h:atS q 0==46&&digB (atS q 1)with
 |false=>exact⟨rfl,rfl⟩
 |true=>
  rw[Ta rfl,Ta rfl];cases q with
  |nil=>exact absurd h (by decide)
  |cons c r=> rw[Ca,De]at h;refine⟨?_,rfl⟩;show(46::List.takeWhile digB r)++past digB r=c::r;rw[Oc,Iy,show c=46 from h.1]
theorem wK(q:Str):expT (expP q)++(match expS q with|some r=>r|none=>q)=q:=by
 unfold expP expS;cases h1:atS q 0==101||atS q 0==69 with
 |false=>rfl
 |true=>
  cases h2:digB (atS (unsign (q.drop 1)) 0)with
  |false=>rfl
  |true=>
   simp only[Bool.and_self,Be];cases q with
   |nil=>exact absurd h1 (by decide)
   |cons c r=> show(c::(sgOf r++List.takeWhile digB (unsign r)))++past digB (unsign r)=c::r;rw[Oc,Ic,Iy,JB]
theorem wN(l:Str):(numP l).txt++(Qf l).1=l:=by
 have h1:=(xM (past digB (unsign l))).1;have h2:=wK (bg (past digB (unsign l))).1;have h3:(Qf l).1=(match expS (bg (past digB (unsign l))).1 with|some r=>r|none=>(bg (past digB (unsign l))).1):=by unfold Qf;simp only;cases expS (bg (past digB (unsign l))).1<;>rfl
 rw[h3];show(sgOf l++(List.takeWhile digB (unsign l)++(dotS (dotP (past digB (unsign l)))++expT (expP (bg (past digB (unsign l))).1))))++_=l;rw[Ic,Ic,Ic,h2,h1,Iy,JB]
theorem vv{p:UInt8->Bool}{q:Str}(h:p (atS q 0)=true)(h0:p 0=false):(q.takeWhile p).isEmpty=false:=by
 cases q with
 |nil=>rw[show atS [] 0=0 from rfl,h0]at h;cases h
 |cons c r=>rw[List.takeWhile_cons,Ta (show p c=true from h)];rfl
theorem gJ{l:Str}(h:nbS l=true):(numP l).ok=true:=by
 unfold NumP.ok numP;simp only[LB,ww,Te,Ca];refine⟨?_,?_⟩
 ·unfold dotP;cases hd:atS (past digB (unsign l)) 0==46&&digB (atS (past digB (unsign l)) 1)with
  |true=> rw[Ta rfl];simp only[ww,Bool.and_true];rw[Ca]at hd;rw[vv (p:=digB) (by rw[oD];exact hd.2) (by decide)];rfl
  |false=>
   rw[Ka (by decide)];simp only;cases hq:digB (atS (unsign l) 0)with
   |true=>rw[vv hq (by decide)];rfl
   |false=>
    exfalso;have hp:past digB (unsign l)=unsign l:=by
     cases hu:unsign l with
     |nil=>rfl
     |cons c r=>rw[hu]at hq;rw[past,Ka (by rw[show digB c=false from hq];decide)]
    rw[hp]at hd;unfold nbS undot at h;cases h46:atS (unsign l) 0==46 with
    |false=>grind
    |true=>
     rw[h46,Ta rfl,oD]at h
     grind
 ·unfold expP;cases hd:(atS (bg (past digB (unsign l))).1 0==101||atS (bg (past digB (unsign l))).1 0==69)&&digB (atS (unsign ((bg (past digB (unsign l))).1.drop 1)) 0)with
  |false=>rfl
  |true=> rw[Ta rfl];rw[Ca]at hd;simp only[hd.1,LB,ww,Bool.and_true,Te];rw[vv hd.2 (by decide)];rfl
theorem MJ{n:NumP}(h:n.ok=true):n.txt≠[]:=by
 obtain⟨sg,D,F,X⟩:=n;unfold NumP.ok at h;simp only[Ca]at h;intro e;unfold NumP.txt at e;simp only[List.append_eq_nil_iff]at e;obtain⟨e1,e2,e3,e4⟩:=e;subst e2;cases F with
 |none=>grind
 |some f=>cases e3
theorem YQ{c:UInt8}{r:Str}(h:nbS (c::r)=true):(Qf (c::r)).1<:+r:=by
 have h1:=wN (c::r);have h2:=MJ (gJ h);cases ht:(numP (c::r)).txt with
 |nil=>grind
 |cons d t=>
  grind
def Pt(l:Str):ze×Str:=
 if nmS (Qf l).1 then(⟨12,[],(numP l).val,(ZA (Qf l).1).1,(Qf l).2⟩,(ZA (Qf l).1).2)
 else if atS (Qf l).1 0==37 then(⟨11,[],(numP l).val,[],false⟩,(Qf l).1.drop 1)
 else(⟨10,[],(numP l).val,[],(Qf l).2⟩,(Qf l).1)
def Lr(l:Str):ze×Str:=
 if atS (ZA l).2 0==40 then
  (if(lowS (ZA l).1==[117,114,108])&& !(atS (past spB ((ZA l).2.drop 1)) 0==34||atS (past spB ((ZA l).2.drop 1)) 0==39)
  then(pJ (urlS (past spB ((ZA l).2.drop 1))).1,(urlS (past spB ((ZA l).2.drop 1))).2)
  else(⟨2,(ZA l).1,0,[],false⟩,(ZA l).2.drop 1))
 else(⟨1,(ZA l).1,0,[],false⟩,(ZA l).2)
theorem xL{c:UInt8}{r:Str}(h:letB c=true\/escS (c::r)=true):(ZA (c::r)).2<:+r:=by
 rw[yF];split
 ·exact Wj r
 ·rename_i hl;rw[Ta (h.resolve_left hl)];exact(Wj _).trans (Mm r)
theorem vL{c:UInt8}{r:Str}(h:nmS (c::r)=true):letB c=true\/escS (c::r)=true:=by
 unfold nmS at h;cases h45:atS (c::r) 0==45 with
 |true=> left;rw[show c=45 from De.1 h45];decide
 |false=>
  rw[h45,Ka (by decide),We]at h;rcases h with h|h
  ·left;unfold letB;rw[show fstB c=true from h];rfl
  ·exact .inr h
theorem jN{c:UInt8}{r:Str}(h:nmS (c::r)=true):(Lr (c::r)).2<:+r:=by
 have hn:=xL (vL h);have hd:(ZA (c::r)).2.drop 1<:+r:=(Re 1 _).trans hn;unfold Lr;split
 ·split
  ·exact(jw _).trans ((Mt spB _).trans hd)
  ·exact hd
 ·exact hn
def nxU(c:UInt8)(r:Str):ze×Str:=
  if nmS (c::r)then Lr (c::r)
  else if Br c==0 then(⟨9,[c],0,[],false⟩,r)
  else(Ni (Br c),r)
def nxT(c:UInt8)(r:Str):ze×Str:=
  if nbS (c::r)then Pt (c::r)
  else if [45,45,62].isPrefixOf (c::r)then(Ni 15,(c::r).drop 3)
  else if [60,33,45,45].isPrefixOf (c::r)then(Ni 14,(c::r).drop 4)
  else if c==64&&nmS r then(⟨3,(ZA r).1,0,[],false⟩,(ZA r).2)
  else nxU c r
def uj:Str->ze×Str
 |[]=>(⟨0,[],0,[],false⟩,[])
 |c::r=>
  if spB c then(Ni 13,past spB (c::r))
  else if c==34||c==39 then(gB (qO c r).1,(qO c r).2)
  else if c==35&&(letB (atS r 0)||escS r)then(⟨4,(ZA r).1,0,[],nmS r⟩,(ZA r).2)
  else nxT c r
theorem VO(c:UInt8)(r:Str):uj (c::r)=
  if spB c then(Ni 13,past spB (c::r))
  else if c==34||c==39 then(gB (qO c r).1,(qO c r).2)
  else if c==35&&(letB (atS r 0)||escS r)then(⟨4,(ZA r).1,0,[],nmS r⟩,(ZA r).2)
  else if nbS (c::r)then Pt (c::r)
  else if [45,45,62].isPrefixOf (c::r)then(Ni 15,(c::r).drop 3)
  else if [60,33,45,45].isPrefixOf (c::r)then(Ni 14,(c::r).drop 4)
  else if c==64&&nmS r then(⟨3,(ZA r).1,0,[],false⟩,(ZA r).2)
  else if nmS (c::r)then Lr (c::r)
  else if Br c==0 then(⟨9,[c],0,[],false⟩,r)
  else(Ni (Br c),r):=rfl
theorem XQ{c:UInt8}{r:Str}(h:nbS (c::r)=true):(Pt (c::r)).2<:+r:=by
 have h1:=YQ h;unfold Pt;split
 ·exact(Wj _).trans h1
 ·split
  ·exact(Re 1 _).trans h1
  ·exact h1
theorem wL(c:UInt8)(r:Str):(uj (c::r)).2<:+r:=by
 rw[VO];split
 ·rename_i h;show past spB (c::r)<:+r;rw[past,Ta h];exact Mt spB r
 ·split
  ·exact fu c r
  ·split
   ·exact Wj r
   ·split
    ·rename_i h;exact XQ h
    ·split
     ·exact Re 2 r
     ·split
      ·exact Re 3 r
      ·split
       ·exact Wj r
       ·split
        ·rename_i h;exact jN h
        grind
def clsS:Str->Option Str
 |[]=>none
 |c::r=>if c==42&&atS r 0==47 then some (r.drop 1)else clsS r
theorem fw: ∀(l:Str) {r:Str},clsS l=some r->r<:+l/\r.length+2<=l.length
 |[],r,h=>by cases h
 |c::t,r,h=>by
  unfold clsS at h;split at h
  ·rename_i hc;rw[Ca,De,De]at hc;injection h with h;subst h;have:=nJ (l:=t) (n:=0) (by rw[hc.2];decide);exact⟨(Re 1 t).trans (Wd c t),by rw[Ed,Sa];omega⟩
  ·obtain⟨h1,h2⟩:=fw t h;exact⟨h1.trans (Wd c t),by rw[Sa];omega⟩
def cmtS(l:Str):Str:=
 if([47,42]:Str).isPrefixOf l then
  (match h:clsS (l.drop 2)with
  |some q=>cmtS q
  |none=>[])
 else l
termination_by l.length
decreasing_by
 have:=(fw _ h).2;rw[Ed]at this;omega
theorem sJ(l:Str):cmtS l=if([47,42]:Str).isPrefixOf l then(match clsS (l.drop 2)with|some q=>cmtS q|none=>[])else l:=by
 rw[cmtS];split
 ·split<;>rename_i h<;>rw[h]
 ·rfl
theorem DD(l:Str):cmtS l<:+l:=by
 rw[sJ];split
 ·split
  ·rename_i q hq;have h1:=fw _ hq;have h2:=h1.2;rw[Ed]at h2;exact(DD q).trans (h1.1.trans (Re 2 l))
  ·exact List.nil_suffix
 ·exact Ad _
termination_by l.length
decreasing_by
 all_goals first|omega|(simp only[Ed]at *; omega)
def jv(l:Str):List ze:=
 match h:cmtS l with
 |[]=>[]
 |c::r=>(uj (c::r)).1::jv (uj (c::r)).2
termination_by l.length
decreasing_by
 have h1:=(wL c r).length_le;have h2:=(DD l).length_le;rw[h,Sa]at h2;omega
end Go.Lv.VT
