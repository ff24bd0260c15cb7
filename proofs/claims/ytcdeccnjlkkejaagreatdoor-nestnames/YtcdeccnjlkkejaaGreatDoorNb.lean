/- The writing of names. -/
import Derived.Test.YtcdeccnjlkkejaaGreatDoorNam
set_option linter.unusedSimpArgs false
set_option linter.unusedVariables false
namespace Go.Lv.VT
set_option maxRecDepth 100000
def escC(c:UInt8):Str:=bif decide (32<c.toNat)&&decide (c.toNat<127)&& !digB c&& !alB c then [92,c]else 92::(hexS c.toNat++[32])
def pcW(dash:Bool)(k:Nat)(c:UInt8):Str:=bif letB c&&(k==0|| !digB c)&& !dash then [c]else escC c
def encW(dash:Bool):Nat->Str->Str
 |_,[]=>[]
 |k,c::r=>pcW dash k c++encW dash (k - 1) r
def WH(l:Str):Nat:=if [45].isPrefixOf l then 2 else 1
def yj(l:Str):Str:=encW (l==[45]) (WH l) l
theorem BO(m:UInt8):qL m []=(some [],[]):=by rw[qL]
theorem wO(m c:UInt8)(r:Str):qL m (c::r)=if c==m then(some [],r)
  else if c==10 then(none,c::r)
  else if c==92 then
   (if r.isEmpty then(some [],[])
   else if atS r 0==10 then qL m (r.drop 1)
   else((qL m (Zc r).2).1.map ((Zc r).1++ ·),(qL m (Zc r).2).2))
  else((qL m r).1.map (c:: ·),(qL m r).2):=by rw[qL]
theorem Xt(m:UInt8)(l:Str):(qL m l).2<:+l:=by
 match l with
 |[]=>rw[BO];grind
 |c::r=>
  rw[wO];have hr:=Wd c r;split
  ·exact hr
  ·split
   ·grind
   ·split
    ·split
     ·grind
     ·split
      ·exact(Xt m (r.drop 1)).trans ((Je 1 r).trans hr)
      ·have:=Qe r;exact(Xt m (Zc r).2).trans ((jl r).trans hr)
    ·exact(Xt m r).trans hr
termination_by l.length
decreasing_by
 all_goals grind
def jA:Option Str->zf
 |some t=>⟨5,t,0,[],false⟩
 |none=>⟨6,[],0,[],false⟩
theorem iJ:badS []=[]:=by rw[badS]
theorem wL(c:UInt8)(r:Str):badS (c::r)=if c==41 then r else if escS (c::r)then badS (Zc r).2 else badS r:=by rw[badS]
theorem Lr(l:Str):badS l<:+l:=by
 match l with
 |[]=>rw[iJ];grind
 |c::r=>
  rw[wL];have hr:=Wd c r;split
  ·exact hr
  ·split
   ·have:=Qe r;exact(Lr (Zc r).2).trans ((jl r).trans hr)
   ·exact(Lr r).trans hr
termination_by l.length
decreasing_by
 all_goals grind
theorem fI:urlS []=(some [],[]):=by rw[urlS]
theorem nJ(c:UInt8)(r:Str):urlS (c::r)=if c==41 then(some [],r)
  else if spB c then(match past spB r with
   |[]=>(some [],[])
   |d::r'=>if d==41 then(some [],r')else(none,badS (d::r')))
  else if c==34||c==39||c==40||unB c||c==92&& !escS (c::r)then(none,badS (c::r))
  else if c==92 then((urlS (Zc r).2).1.map ((Zc r).1++ ·),(urlS (Zc r).2).2)
  else((urlS r).1.map (c:: ·),(urlS r).2):=by rw[urlS];grind
theorem Rv(l:Str):(urlS l).2<:+l:=by
 match l with
 |[]=>rw[fI];grind
 |c::r=>
  rw[nJ];have hr:=Wd c r;split
  ·exact hr
  ·split
   ·have hp:=(jr spB r).trans hr;cases hq:past spB r with
    |nil=>grind
    |cons d r'=>
     rw[hq]at hp;simp only;split
     ·exact(Wd d r').trans hp
     ·exact(Lr _).trans hp
   ·split
    ·exact Lr _
    ·split
     ·have:=Qe r;exact(Rv (Zc r).2).trans ((jl r).trans hr)
     ·exact(Rv r).trans hr
termination_by l.length
decreasing_by
 all_goals grind
def YI:Option Str->zf
 |some t=>⟨7,t,0,[],false⟩
 |none=>⟨8,[],0,[],false⟩
def capF(cap:Nat):Nat->Str->Nat
 |n,[]=>n
 |n,c::r=>capF cap (min cap (decN n c)) r
structure NumP where
 sg:Str
 D:Str
 F:Option Str
 X:Option (UInt8×Str×Str)
def dotS:Option Str->Str
 |none=>[]
 |some f=>46::f
def expT:Option (UInt8×Str×Str)->Str
 |none=>[]
 |some (e,s,x)=>e::(s++x)
def NumP.txt(n:NumP):Str:=n.sg++(n.D++(dotS n.F++expT n.X))
def sgB(s:Str):Bool:=s==[]||s==[43]||s==[45]
def NumP.ok(n:NumP):Bool:=sgB n.sg&&n.D.all digB&&(match n.F with|none=> !n.D.isEmpty|some f=> !f.isEmpty&&f.all digB)&&
 (match n.X with|none=>true|some (e,s,x)=>(e==101||e==69)&&sgB s&& !x.isEmpty&&x.all digB)
def expV:Option (UInt8×Str×Str)->Int
 |none=>0
 |some (_,s,x)=>if s==[45]then -((capF 1048576 0 x:Nat):Int)else((capF 1048576 0 x:Nat):Int)
def thoV(A:Str)(p:Int):Nat:=dA p.toNat (capF gu 0 (if p<0 then A.take ((A.length:Int)+p).toNat else A))
def NumP.val(n:NumP):Int:=
 let v:=thoV (n.D++n.F.getD []) (3+expV n.X - ((n.F.getD []).length:Int))
 if n.sg==[45]then -(v:Int)else(v:Int)
theorem Ws{l:Str}(h: ∀b∈l,b.toNat<128):Dj l=true:=by
 unfold Dj
 grind
theorem mK {S X R:Type} {step:S->Option (LO S X R)} {k:X->Option R} (Inv:S->Prop) (μ:S->Nat) (y:R)
  (h: ∀s,Inv s->(∃s',step s=some (.again s')/\Inv s'/\μ s'<μ s)\/(∃x,step s=some (.out x)/\k x=some y)\/step s=some (.ret y)) {s:S} (hs:Inv s):qX step s k=some y:=by
 have key: ∀(m:Nat) (s:S),μ s<m->Inv s-> ∃r:LX X R,ae step m s=some r/\r.go k=some y:=by
  intro m
  induction m with
  |zero=>intro s h;omega
  |succ m ih=>
   intro s hm hs;simp only[ae];rcases h s hs with⟨s',h1,h2,h3⟩|⟨x,h1,h2⟩|h1
   ·grind
   ·simp_all
   simp_all
 obtain⟨r,h1,h2⟩:=key (μ s+1) s (by omega) hs;rw[Ko (Es h1)];exact h2
theorem jC(p:UInt8->Bool): ∀l:Str,past p l=l.dropWhile p
 |[]=>rfl
 |c::r=>by
  rw[past,List.dropWhile_cons];cases h:p c with
  |true=>exact jC p r
  |false=>rfl
theorem Kw(p:UInt8->Bool)(l:Str):l.takeWhile p++past p l=l:=by rw[jC,List.takeWhile_append_dropWhile]
theorem Mv(p:UInt8->Bool): ∀l:Str,(l.takeWhile p).all p=true
 |[]=>rfl
 |c::r=>by simp_all
def sgOf(l:Str):Str:=if Km (atS l 0)then [atS l 0]else []
theorem EA(l:Str):sgOf l++unsign l=l:=by
 unfold sgOf unsign;cases h:Km (atS l 0)with
 |false=>rfl
 |true=>
  rw[Va rfl,Va rfl];cases l with
  |nil=>exact absurd h (by decide)
  |cons c r=>rfl
theorem GA(l:Str):sgB (sgOf l)=true:=by
 unfold sgOf;cases h:Km (atS l 0)with
 |false=>rfl
 |true=> rw[Va rfl];unfold Km at h;rw[Re,Cf,Cf]at h;rcases h with h|h<;>rw[h]<;>rfl
def dotP(q:Str):Option Str:=if atS q 0==46&&digB (atS q 1)then some ((q.drop 1).takeWhile digB)else none
def expP(q:Str):Option (UInt8×Str×Str):=
 if(atS q 0==101||atS q 0==69)&&digB (atS (unsign (q.drop 1)) 0)then some (atS q 0,sgOf (q.drop 1),(unsign (q.drop 1)).takeWhile digB)else none
def numP(l:Str):NumP:=⟨sgOf l,(unsign l).takeWhile digB,dotP (past digB (unsign l)),expP (Vg (past digB (unsign l))).1⟩
theorem sM(q:Str):dotS (dotP q)++(Vg q).1=q/\(Vg q).2=(dotP q).isNone:=by
 unfold dotP Vg;cases h:atS q 0==46&&digB (atS q 1)with
 |false=>exact⟨rfl,rfl⟩
 |true=>
  rw[Va rfl,Va rfl];cases q with
  |nil=>exact absurd h (by decide)
  |cons c r=> rw[Ca,Cf]at h;refine⟨?_,rfl⟩;show(46::List.takeWhile digB r)++past digB r=c::r;rw[Xc,Kw,show c=46 from h.1]
theorem LK(q:Str):expT (expP q)++(match expS q with|some r=>r|none=>q)=q:=by
 unfold expP expS;cases h1:atS q 0==101||atS q 0==69 with
 |false=>rfl
 |true=>
  cases h2:digB (atS (unsign (q.drop 1)) 0)with
  |false=>rfl
  |true=>
   simp only[Bool.and_self,Ae];cases q with
   |nil=>exact absurd h1 (by decide)
   |cons c r=> show(c::(sgOf r++List.takeWhile digB (unsign r)))++past digB (unsign r)=c::r;rw[Xc,Lc,Kw,EA]
theorem YL(l:Str):(numP l).txt++(Qh l).1=l:=by
 have h1:=(sM (past digB (unsign l))).1;have h2:=LK (Vg (past digB (unsign l))).1;have h3:(Qh l).1=(match expS (Vg (past digB (unsign l))).1 with|some r=>r|none=>(Vg (past digB (unsign l))).1):=by unfold Qh;simp only;cases expS (Vg (past digB (unsign l))).1<;>rfl
 rw[h3];show(sgOf l++(List.takeWhile digB (unsign l)++(dotS (dotP (past digB (unsign l)))++expT (expP (Vg (past digB (unsign l))).1))))++_=l;rw[Lc,Lc,Lc,h2,h1,Kw,EA]
theorem yu{p:UInt8->Bool}{q:Str}(h:p (atS q 0)=true)(h0:p 0=false):(q.takeWhile p).isEmpty=false:=by
 cases q with
 |nil=>rw[show atS [] 0=0 from rfl,h0]at h;cases h
 |cons c r=>rw[List.takeWhile_cons,Va (show p c=true from h)];rfl
theorem RI{l:Str}(h:nbS l=true):(numP l).ok=true:=by
 unfold NumP.ok numP;simp only[GA,Mv,Me,Ca];refine⟨?_,?_⟩
 ·unfold dotP;cases hd:atS (past digB (unsign l)) 0==46&&digB (atS (past digB (unsign l)) 1)with
  |true=> rw[Va rfl];simp only[Mv,Bool.and_true];rw[Ca]at hd;rw[yu (p:=digB) (by rw[IC];exact hd.2) (by decide)];rfl
  |false=>
   rw[Oa (by decide)];simp only;cases hq:digB (atS (unsign l) 0)with
   |true=>rw[yu hq (by decide)];rfl
   |false=>
    exfalso;have hp:past digB (unsign l)=unsign l:=by
     cases hu:unsign l with
     |nil=>rfl
     |cons c r=>rw[hu]at hq;rw[past,Oa (by rw[show digB c=false from hq];decide)]
    rw[hp]at hd;unfold nbS undot at h;cases h46:atS (unsign l) 0==46 with
    |false=>grind
    |true=>
     rw[h46,Va rfl,IC]at h
     grind
 ·unfold expP;cases hd:(atS (Vg (past digB (unsign l))).1 0==101||atS (Vg (past digB (unsign l))).1 0==69)&&digB (atS (unsign ((Vg (past digB (unsign l))).1.drop 1)) 0)with
  |false=>rfl
  |true=> rw[Va rfl];rw[Ca]at hd;simp only[hd.1,GA,Mv,Bool.and_true,Me];rw[yu hd.2 (by decide)];rfl
theorem bI{n:NumP}(h:n.ok=true):n.txt≠[]:=by
 obtain⟨sg,D,F,X⟩:=n;unfold NumP.ok at h;simp only[Ca]at h;intro e;unfold NumP.txt at e;simp only[List.append_eq_nil_iff]at e;obtain⟨e1,e2,e3,e4⟩:=e;subst e2;cases F with
 |none=>grind
 |some f=>cases e3
theorem XO{c:UInt8}{r:Str}(h:nbS (c::r)=true):(Qh (c::r)).1<:+r:=by
 have h1:=YL (c::r);have h2:=bI (RI h);cases ht:(numP (c::r)).txt with
 |nil=>grind
 |cons d t=>
  grind
def mr(l:Str):zf×Str:=
 if nmS (Qh l).1 then(⟨12,[],(numP l).val,(Zx (Qh l).1).1,(Qh l).2⟩,(Zx (Qh l).1).2)
 else if atS (Qh l).1 0==37 then(⟨11,[],(numP l).val,[],false⟩,(Qh l).1.drop 1)
 else(⟨10,[],(numP l).val,[],(Qh l).2⟩,(Qh l).1)
def Xq(l:Str):zf×Str:=
 if atS (Zx l).2 0==40 then
  (if(lowS (Zx l).1==[117,114,108])&& !(atS (past spB ((Zx l).2.drop 1)) 0==34||atS (past spB ((Zx l).2.drop 1)) 0==39)
  then(YI (urlS (past spB ((Zx l).2.drop 1))).1,(urlS (past spB ((Zx l).2.drop 1))).2)
  else(⟨2,(Zx l).1,0,[],false⟩,(Zx l).2.drop 1))
 else(⟨1,(Zx l).1,0,[],false⟩,(Zx l).2)
theorem sJ{c:UInt8}{r:Str}(h:letB c=true\/escS (c::r)=true):(Zx (c::r)).2<:+r:=by
 rw[bE];split
 ·exact Uj r
 ·rename_i hl;rw[Va (h.resolve_left hl)];exact(Uj _).trans (jl r)
theorem dK{c:UInt8}{r:Str}(h:nmS (c::r)=true):letB c=true\/escS (c::r)=true:=by
 unfold nmS at h;cases h45:atS (c::r) 0==45 with
 |true=> left;rw[show c=45 from Cf.1 h45];decide
 |false=>
  rw[h45,Oa (by decide),Re]at h;rcases h with h|h
  ·left;unfold letB;rw[show fstB c=true from h];rfl
  ·exact .inr h
theorem xK{c:UInt8}{r:Str}(h:nmS (c::r)=true):(Xq (c::r)).2<:+r:=by
 have hn:=sJ (dK h);have hd:(Zx (c::r)).2.drop 1<:+r:=(Je 1 _).trans hn;unfold Xq;split
 ·split
  ·exact(Rv _).trans ((jr spB _).trans hd)
  ·exact hd
 ·exact hn
def nxU(c:UInt8)(r:Str):zf×Str:=
  if nmS (c::r)then Xq (c::r)
  else if Hq c==0 then(⟨9,[c],0,[],false⟩,r)
  else(Ei (Hq c),r)
def nxT(c:UInt8)(r:Str):zf×Str:=
  if nbS (c::r)then mr (c::r)
  else if [45,45,62].isPrefixOf (c::r)then(Ei 15,(c::r).drop 3)
  else if [60,33,45,45].isPrefixOf (c::r)then(Ei 14,(c::r).drop 4)
  else if c==64&&nmS r then(⟨3,(Zx r).1,0,[],false⟩,(Zx r).2)
  else nxU c r
def uj:Str->zf×Str
 |[]=>(⟨0,[],0,[],false⟩,[])
 |c::r=>
  if spB c then(Ei 13,past spB (c::r))
  else if c==34||c==39 then(jA (qL c r).1,(qL c r).2)
  else if c==35&&(letB (atS r 0)||escS r)then(⟨4,(Zx r).1,0,[],nmS r⟩,(Zx r).2)
  else nxT c r
theorem xN(c:UInt8)(r:Str):uj (c::r)=
  if spB c then(Ei 13,past spB (c::r))
  else if c==34||c==39 then(jA (qL c r).1,(qL c r).2)
  else if c==35&&(letB (atS r 0)||escS r)then(⟨4,(Zx r).1,0,[],nmS r⟩,(Zx r).2)
  else if nbS (c::r)then mr (c::r)
  else if [45,45,62].isPrefixOf (c::r)then(Ei 15,(c::r).drop 3)
  else if [60,33,45,45].isPrefixOf (c::r)then(Ei 14,(c::r).drop 4)
  else if c==64&&nmS r then(⟨3,(Zx r).1,0,[],false⟩,(Zx r).2)
  else if nmS (c::r)then Xq (c::r)
  else if Hq c==0 then(⟨9,[c],0,[],false⟩,r)
  else(Ei (Hq c),r):=rfl
theorem WO{c:UInt8}{r:Str}(h:nbS (c::r)=true):(mr (c::r)).2<:+r:=by
 have h1:=XO h;unfold mr;split
 ·exact(Uj _).trans h1
 ·split
  ·exact(Je 1 _).trans h1
  ·exact h1
theorem fK(c:UInt8)(r:Str):(uj (c::r)).2<:+r:=by
 rw[xN];split
 ·rename_i h;show past spB (c::r)<:+r;rw[past,Va h];exact jr spB r
 ·split
  ·exact Xt c r
  ·split
   ·exact Uj r
   ·split
    ·rename_i h;exact WO h
    ·split
     ·exact Je 2 r
     ·split
      ·exact Je 3 r
      ·split
       ·exact Uj r
       ·split
        ·rename_i h;exact xK h
        grind
def clsS:Str->Option Str
 |[]=>none
 |c::r=>if c==42&&atS r 0==47 then some (r.drop 1)else clsS r
theorem Yv: ∀(l:Str) {r:Str},clsS l=some r->r<:+l/\r.length+2<=l.length
 |[],r,h=>by cases h
 |c::t,r,h=>by
  unfold clsS at h;split at h
  ·rename_i hc;rw[Ca,Cf,Cf]at hc;injection h with h;subst h;have:=XI (l:=t) (n:=0) (by rw[hc.2];decide);exact⟨(Je 1 t).trans (Wd c t),by grind⟩
  ·obtain⟨h1,h2⟩:=Yv t h
   grind
def cmtS(l:Str):Str:=
 if([47,42]:Str).isPrefixOf l then
  (match h:clsS (l.drop 2)with
  |some q=>cmtS q
  |none=>[])
 else l
termination_by l.length
decreasing_by
 have:=(Yv _ h).2
 grind
theorem IJ(l:Str):cmtS l=if([47,42]:Str).isPrefixOf l then(match clsS (l.drop 2)with|some q=>cmtS q|none=>[])else l:=by
 rw[cmtS]
 grind
theorem YB(l:Str):cmtS l<:+l:=by
 rw[IJ];split
 ·split
  ·rename_i q hq;have h1:=Yv _ hq;have h2:=h1.2;rw[Ud]at h2;exact(YB q).trans (h1.1.trans (Je 2 l))
  grind
 grind
termination_by l.length
decreasing_by
 grind
def au(l:Str):List zf:=
 match h:cmtS l with
 |[]=>[]
 |c::r=>(uj (c::r)).1::au (uj (c::r)).2
termination_by l.length
decreasing_by
 have h1:=(fK c r).length_le;have h2:=(YB l).length_le
 grind
end Go.Lv.VT
