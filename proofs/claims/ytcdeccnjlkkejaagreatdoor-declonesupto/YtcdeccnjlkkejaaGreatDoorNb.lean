/- The writing of names. -/
import Derived.Test.YtcdeccnjlkkejaaGreatDoorNam
set_option linter.unusedSimpArgs false
set_option linter.unusedVariables false
namespace Go.Lv.VT
set_option maxRecDepth 100000
def escC(c:UInt8):Str:=bif decide (32<c.toNat)&&decide (c.toNat<127)&& !digB c&& !alB c then [92,c]else 92::(hexS c.toNat++[32])
def pcW(dash:Bool)(k:Nat)(c:UInt8):Str:=bif letB c&&(k==0|| !digB c)&& !dash then [c]else escC c
def encW(dash:Bool):Nat->Str->Str
 |_,[]=>[]
 |k,c::r=>pcW dash k c++encW dash (k - 1) r
def bN(l:Str):Nat:=if [45].isPrefixOf l then 2 else 1
def yl(l:Str):Str:=encW (l==[45]) (bN l) l
theorem xV(m:UInt8):Qr m []=(some [],[]):=by rw[Qr]
theorem IX(m c:UInt8)(r:Str):Qr m (c::r)=if c==m then(some [],r)
  else if c==10 then(none,c::r)
  else if c==92 then
   (if r.isEmpty then(some [],[])
   else if atS r 0==10 then Qr m (r.drop 1)
   else((Qr m (Zl r).2).1.map ((Zl r).1++ ·),(Qr m (Zl r).2).2))
  else((Qr m r).1.map (c:: ·),(Qr m r).2):=by rw[Qr]
theorem Lx(m:UInt8)(l:Str):(Qr m l).2<:+l:=by
 match l with
 |[]=>rw[xV];grind
 |c::r=>
  rw[IX];have a:=Ae c r;split
  ·exact a
  ·split
   ·grind
   ·split
    ·split
     ·grind
     ·split
      ·exact(Lx m (r.drop 1)).trans ((Xe 1 r).trans a)
      ·have:=QM r;exact(Lx m (Zl r).2).trans ((Jo r).trans a)
    ·exact(Lx m r).trans a
termination_by l.length
decreasing_by
 all_goals grind
def EF:Option Str->zg
 |some t=>⟨5,t,0,[],false⟩
 |none=>⟨6,[],0,[],false⟩
theorem jR:badS []=[]:=by rw[badS]
theorem rT(c:UInt8)(r:Str):badS (c::r)=if c==41 then r else if escS (c::r)then badS (Zl r).2 else badS r:=by rw[badS]
theorem Vv(l:Str):badS l<:+l:=by
 match l with
 |[]=>rw[jR];grind
 |c::r=>
  rw[rT];have a:=Ae c r;split
  ·exact a
  ·split
   ·have:=QM r;exact(Vv (Zl r).2).trans ((Jo r).trans a)
   ·exact(Vv r).trans a
termination_by l.length
decreasing_by
 all_goals grind
theorem dQ:urlS []=(some [],[]):=by rw[urlS]
theorem AR(c:UInt8)(r:Str):urlS (c::r)=if c==41 then(some [],r)
  else if spB c then(match past spB r with
   |[]=>(some [],[])
   |d::a=>if d==41 then(some [],a)else(none,badS (d::a)))
  else if c==34||c==39||c==40||unB c||c==92&& !escS (c::r)then(none,badS (c::r))
  else if c==92 then((urlS (Zl r).2).1.map ((Zl r).1++ ·),(urlS (Zl r).2).2)
  else((urlS r).1.map (c:: ·),(urlS r).2):=by rw[urlS];grind
theorem oz(l:Str):(urlS l).2<:+l:=by
 match l with
 |[]=>rw[dQ];grind
 |c::r=>
  rw[AR];have a:=Ae c r;split
  ·exact a
  ·split
   ·have b:=(Dw spB r).trans a;cases e:past spB r with
    |nil=>grind
    |cons d f=>
     rw[e]at b;simp only;split
     ·exact(Ae d f).trans b
     ·exact(Vv _).trans b
   ·split
    ·exact Vv _
    ·split
     ·have:=QM r;exact(oz (Zl r).2).trans ((Jo r).trans a)
     ·exact(oz r).trans a
termination_by l.length
decreasing_by
 all_goals grind
def jO:Option Str->zg
 |some t=>⟨7,t,0,[],false⟩
 |none=>⟨8,[],0,[],false⟩
def capF(cap:Nat):Nat->Str->Nat
 |n,[]=>n
 |n,c::r=>capF cap (min cap (decN n c)) r
structure NumP where
 sg:Str
 D:Str
 F:Option Str
 X:Option (UInt8×Str×Str)
def dotS:Option Str->Str
 |none=>[]
 |some f=>46::f
def expT:Option (UInt8×Str×Str)->Str
 |none=>[]
 |some (e,s,x)=>e::(s++x)
def NumP.txt(n:NumP):Str:=n.sg++(n.D++(dotS n.F++expT n.X))
def sgB(s:Str):Bool:=s==[]||s==[43]||s==[45]
def NumP.ok(n:NumP):Bool:=sgB n.sg&&n.D.all digB&&(match n.F with|none=> !n.D.isEmpty|some f=> !f.isEmpty&&f.all digB)&&
 (match n.X with|none=>true|some (e,s,x)=>(e==101||e==69)&&sgB s&& !x.isEmpty&&x.all digB)
def expV:Option (UInt8×Str×Str)->Int
 |none=>0
 |some (_,s,x)=>if s==[45]then -((capF 1048576 0 x:Nat):Int)else((capF 1048576 0 x:Nat):Int)
def thoV(A:Str)(p:Int):Nat:=yE p.toNat (capF Dz 0 (if p<0 then A.take ((A.length:Int)+p).toNat else A))
def NumP.val(n:NumP):Int:=
 let v:=thoV (n.D++n.F.getD []) (3+expV n.X - ((n.F.getD []).length:Int))
 if n.sg==[45]then -(v:Int)else(v:Int)
theorem Ww{l:Str}(h: ∀b∈l,b.toNat<128):nk l=true:=by
 unfold nk
 grind
theorem fI {S X R:Type} {step:S->Option (LO S X R)} {k:X->Option R} (Inv:S->Prop) (b:S->Nat) (y:R)
  (h: ∀s,Inv s->(∃s',step s=some (.again s')/\Inv s'/\b s'<b s)\/(∃x,step s=some (.out x)/\k x=some y)\/step s=some (.ret y)) {s:S} (d:Inv s):ZG step s k=some y:=by
 have c: ∀(m:Nat) (s:S),b s<m->Inv s-> ∃r:LX X R,qz step m s=some r/\r.go k=some y:=by
  intro m
  induction m with
  |zero=>intro s h;omega
  |succ m i=>
   intro s f d;simp only[qz];rcases h s d with⟨s',a,e,g⟩|⟨x,a,e⟩|a
   ·grind
   ·simp_all
   simp_all
 obtain⟨r,a,e⟩:=c (b s+1) s (by omega) d;rw[Xh (ji a)];exact e
theorem WH(p:UInt8->Bool): ∀l:Str,past p l=l.dropWhile p
 |[]=>rfl
 |c::r=>by
  rw[past,Me];cases h:p c with
  |true=>exact WH p r
  |false=>rfl
theorem iA(p:UInt8->Bool)(l:Str):l.takeWhile p++past p l=l:=by rw[WH,List.takeWhile_append_dropWhile]
theorem NA(p:UInt8->Bool): ∀l:Str,(l.takeWhile p).all p=true
 |[]=>rfl
 |c::r=>by simp_all
def sgOf(l:Str):Str:=if yo (atS l 0)then [atS l 0]else []
theorem fE(l:Str):sgOf l++unsign l=l:=by
 unfold sgOf unsign;cases h:yo (atS l 0)with
 |false=>rfl
 |true=>
  rw[ja rfl,ja rfl];cases l with
  |nil=>exact absurd h (by decide)
  |cons c r=>rfl
theorem iE(l:Str):sgB (sgOf l)=true:=by
 unfold sgOf;cases h:yo (atS l 0)with
 |false=>rfl
 |true=> rw[ja rfl];unfold yo at h;rw[ve,Sd,Sd]at h;rcases h with h|h<;>rw[h]<;>rfl
def dotP(q:Str):Option Str:=if atS q 0==46&&digB (atS q 1)then some ((q.drop 1).takeWhile digB)else none
def expP(q:Str):Option (UInt8×Str×Str):=
 if(atS q 0==101||atS q 0==69)&&digB (atS (unsign (q.drop 1)) 0)then some (atS q 0,sgOf (q.drop 1),(unsign (q.drop 1)).takeWhile digB)else none
def numP(l:Str):NumP:=⟨sgOf l,(unsign l).takeWhile digB,dotP (past digB (unsign l)),expP (Ih (past digB (unsign l))).1⟩
theorem AU(q:Str):dotS (dotP q)++(Ih q).1=q/\(Ih q).2=(dotP q).isNone:=by
 unfold dotP Ih;cases h:atS q 0==46&&digB (atS q 1)with
 |false=>exact⟨rfl,rfl⟩
 |true=>
  rw[ja rfl,ja rfl];cases q with
  |nil=>exact absurd h (by decide)
  |cons c r=> rw[Da,Sd]at h;refine⟨?_,rfl⟩;show(46::List.takeWhile digB r)++past digB r=c::r;rw[Jc,iA,show c=46 from h.1]
theorem FR(q:Str):expT (expP q)++(match expS q with|some r=>r|none=>q)=q:=by
 unfold expP expS;cases a:atS q 0==101||atS q 0==69 with
 |false=>rfl
 |true=>
  cases b:digB (atS (unsign (q.drop 1)) 0)with
  |false=>rfl
  |true=>
   simp only[Bool.and_self,Yd];cases q with
   |nil=>exact absurd a (by decide)
   |cons c r=> show(c::(sgOf r++List.takeWhile digB (unsign r)))++past digB (unsign r)=c::r;rw[Jc,Dc,iA,fE]
theorem KT(l:Str):(numP l).txt++(QO l).1=l:=by
 have c:=(AU (past digB (unsign l))).1;have b:=FR (Ih (past digB (unsign l))).1;have a:(QO l).1=(match expS (Ih (past digB (unsign l))).1 with|some r=>r|none=>(Ih (past digB (unsign l))).1):=by unfold QO;simp only;cases expS (Ih (past digB (unsign l))).1<;>rfl
 rw[a];show(sgOf l++(List.takeWhile digB (unsign l)++(dotS (dotP (past digB (unsign l)))++expT (expP (Ih (past digB (unsign l))).1))))++_=l;rw[Dc,Dc,Dc,b,c,iA,fE]
theorem Wz{p:UInt8->Bool}{q:Str}(h:p (atS q 0)=true)(a:p 0=false):(q.takeWhile p).isEmpty=false:=by
 cases q with
 |nil=>rw[show atS [] 0=0 from rfl,a]at h;cases h
 |cons c r=>rw[List.takeWhile_cons,ja (show p c=true from h)];rfl
theorem WO{l:Str}(h:nbS l=true):(numP l).ok=true:=by
 unfold NumP.ok numP;simp only[iE,NA,Ac,Da];refine⟨?_,?_⟩
 ·unfold dotP;cases a:atS (past digB (unsign l)) 0==46&&digB (atS (past digB (unsign l)) 1)with
  |true=> rw[ja rfl];simp only[NA,Vd];rw[Da]at a;rw[Wz (p:=digB) (by rw[mG];exact a.2) (by decide)];rfl
  |false=>
   rw[Ta (by decide)];simp only;cases b:digB (atS (unsign l) 0)with
   |true=>rw[Wz b (by decide)];rfl
   |false=>
    exfalso;have f:past digB (unsign l)=unsign l:=by
     cases e:unsign l with
     |nil=>rfl
     |cons c r=>rw[e]at b;rw[past,Ta (by rw[show digB c=false from b];decide)]
    rw[f]at a;unfold nbS undot at h;cases d:atS (unsign l) 0==46 with
    |false=>grind
    |true=>
     rw[d,ja rfl,mG]at h
     grind
 ·unfold expP;cases a:(atS (Ih (past digB (unsign l))).1 0==101||atS (Ih (past digB (unsign l))).1 0==69)&&digB (atS (unsign ((Ih (past digB (unsign l))).1.drop 1)) 0)with
  |false=>rfl
  |true=> rw[ja rfl];rw[Da]at a;simp only[a.1,iE,NA,Vd,Ac];rw[Wz a.2 (by decide)];rfl
theorem oO{n:NumP}(h:n.ok=true):n.txt≠[]:=by
 obtain⟨c,D,F,X⟩:=n;unfold NumP.ok at h;simp only[Da]at h;intro e;unfold NumP.txt at e;simp only[List.append_eq_nil_iff]at e;obtain⟨g,b,a,d⟩:=e;subst b;cases F with
 |none=>grind
 |some f=>cases a
theorem NW{c:UInt8}{r:Str}(h:nbS (c::r)=true):(QO (c::r)).1<:+r:=by
 have e:=KT (c::r);have b:=oO (WO h);cases a:(numP (c::r)).txt with
 |nil=>grind
 |cons d t=>
  grind
def Gw(l:Str):zg×Str:=
 if nmS (QO l).1 then(⟨12,[],(numP l).val,(ZQ (QO l).1).1,(QO l).2⟩,(ZQ (QO l).1).2)
 else if atS (QO l).1 0==37 then(⟨11,[],(numP l).val,[],false⟩,(QO l).1.drop 1)
 else(⟨10,[],(numP l).val,[],(QO l).2⟩,(QO l).1)
def gu(l:Str):zg×Str:=
 if atS (ZQ l).2 0==40 then
  (if(lowS (ZQ l).1==[117,114,108])&& !(atS (past spB ((ZQ l).2.drop 1)) 0==34||atS (past spB ((ZQ l).2.drop 1)) 0==39)
  then(jO (urlS (past spB ((ZQ l).2.drop 1))).1,(urlS (past spB ((ZQ l).2.drop 1))).2)
  else(⟨2,(ZQ l).1,0,[],false⟩,(ZQ l).2.drop 1))
 else(⟨1,(ZQ l).1,0,[],false⟩,(ZQ l).2)
theorem NQ{c:UInt8}{r:Str}(h:letB c=true\/escS (c::r)=true):(ZQ (c::r)).2<:+r:=by
 rw[sJ];split
 ·exact Ml r
 ·rename_i a;rw[ja (h.resolve_left a)];exact(Ml _).trans (Jo r)
theorem LQ{c:UInt8}{r:Str}(h:nmS (c::r)=true):letB c=true\/escS (c::r)=true:=by
 unfold nmS at h;cases a:atS (c::r) 0==45 with
 |true=> left;rw[show c=45 from Sd.1 a];decide
 |false=>
  rw[a,Ta (by decide),ve]at h;rcases h with h|h
  ·left;unfold letB;rw[show fstB c=true from h];rfl
  ·exact .inr h
theorem bS{c:UInt8}{r:Str}(h:nmS (c::r)=true):(gu (c::r)).2<:+r:=by
 have b:=NQ (LQ h);have a:(ZQ (c::r)).2.drop 1<:+r:=(Xe 1 _).trans b;unfold gu;split
 ·split
  ·exact(oz _).trans ((Dw spB _).trans a)
  ·exact a
 ·exact b
def nxU(c:UInt8)(r:Str):zg×Str:=
  if nmS (c::r)then gu (c::r)
  else if Wu c==0 then(⟨9,[c],0,[],false⟩,r)
  else(Mj (Wu c),r)
def nxT(c:UInt8)(r:Str):zg×Str:=
  if nbS (c::r)then Gw (c::r)
  else if [45,45,62].isPrefixOf (c::r)then(Mj 15,(c::r).drop 3)
  else if [60,33,45,45].isPrefixOf (c::r)then(Mj 14,(c::r).drop 4)
  else if c==64&&nmS r then(⟨3,(ZQ r).1,0,[],false⟩,(ZQ r).2)
  else nxU c r
def ul:Str->zg×Str
 |[]=>(⟨0,[],0,[],false⟩,[])
 |c::r=>
  if spB c then(Mj 13,past spB (c::r))
  else if c==34||c==39 then(EF (Qr c r).1,(Qr c r).2)
  else if c==35&&(letB (atS r 0)||escS r)then(⟨4,(ZQ r).1,0,[],nmS r⟩,(ZQ r).2)
  else nxT c r
theorem UV(c:UInt8)(r:Str):ul (c::r)=
  if spB c then(Mj 13,past spB (c::r))
  else if c==34||c==39 then(EF (Qr c r).1,(Qr c r).2)
  else if c==35&&(letB (atS r 0)||escS r)then(⟨4,(ZQ r).1,0,[],nmS r⟩,(ZQ r).2)
  else if nbS (c::r)then Gw (c::r)
  else if [45,45,62].isPrefixOf (c::r)then(Mj 15,(c::r).drop 3)
  else if [60,33,45,45].isPrefixOf (c::r)then(Mj 14,(c::r).drop 4)
  else if c==64&&nmS r then(⟨3,(ZQ r).1,0,[],false⟩,(ZQ r).2)
  else if nmS (c::r)then gu (c::r)
  else if Wu c==0 then(⟨9,[c],0,[],false⟩,r)
  else(Mj (Wu c),r):=rfl
theorem MW{c:UInt8}{r:Str}(h:nbS (c::r)=true):(Gw (c::r)).2<:+r:=by
 have a:=NW h;unfold Gw;split
 ·exact(Ml _).trans a
 ·split
  ·exact(Xe 1 _).trans a
  ·exact a
theorem MQ(c:UInt8)(r:Str):(ul (c::r)).2<:+r:=by
 rw[UV];split
 ·rename_i h;show past spB (c::r)<:+r;rw[past,ja h];exact Dw spB r
 ·split
  ·exact Lx c r
  ·split
   ·exact Ml r
   ·split
    ·rename_i h;exact MW h
    ·split
     ·exact Xe 2 r
     ·split
      ·exact Xe 3 r
      ·split
       ·exact Ml r
       ·split
        ·rename_i h;exact bS h
        grind
def clsS:Str->Option Str
 |[]=>none
 |c::r=>if c==42&&atS r 0==47 then some (r.drop 1)else clsS r
theorem wz: ∀(l:Str) {r:Str},clsS l=some r->r<:+l/\r.length+2<=l.length
 |[],r,h=>by cases h
 |c::t,r,h=>by
  unfold clsS at h;split at h
  ·rename_i a;rw[Da,Sd,Sd]at a;injection h with h;subst h;have:=VN (l:=t) (n:=0) (by rw[a.2];decide);exact⟨(Xe 1 t).trans (Ae c t),by grind⟩
  ·obtain⟨d,b⟩:=wz t h
   grind
def cmtS(l:Str):Str:=
 if([47,42]:Str).isPrefixOf l then
  (match h:clsS (l.drop 2)with
  |some q=>cmtS q
  |none=>[])
 else l
termination_by l.length
decreasing_by
 have:=(wz _ h).2
 grind
theorem AP(l:Str):cmtS l=if([47,42]:Str).isPrefixOf l then(match clsS (l.drop 2)with|some q=>cmtS q|none=>[])else l:=by
 rw[cmtS]
 grind
theorem PG(l:Str):cmtS l<:+l:=by
 rw[AP];split
 ·split
  ·rename_i q b;have a:=wz _ b;have c:=a.2;rw[Be]at c;exact(PG q).trans (a.1.trans (Xe 2 l))
  grind
 grind
termination_by l.length
decreasing_by
 grind
def Jz(l:Str):List zg:=
 match h:cmtS l with
 |[]=>[]
 |c::r=>(ul (c::r)).1::Jz (ul (c::r)).2
termination_by l.length
decreasing_by
 have b:=(MQ c r).length_le;have a:=(PG l).length_le
 grind
end Go.Lv.VT
