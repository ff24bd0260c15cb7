/- One token: what the scanner's function computes. -/
import Derived.Test.YtoiadnecjabbeaaGreatDoorXb
import Derived.Test.YtoiadnecjabbeaaGreatDoorXa
set_option linter.unusedSimpArgs false
set_option linter.unusedVariables false
namespace Go.Lv.VT
set_option maxRecDepth 100000
theorem rG {S X R:Type} {step:S->Option (LO S X R)} {k:X->Option R} (Inv:S->Prop) (b:S->Nat) (y:R)
  (h: ∀s,Inv s->(∃s',step s=some (.again s')/\Inv s'/\b s'<b s)\/(∃x,step s=some (.out x)/\k x=some y)\/step s=some (.ret y)) {s:S} (d:Inv s):Zp step s k=some y:=by
 have c: ∀(m:Nat) (s:S),b s<m->Inv s-> ∃r:LX X R,qd step m s=some r/\r.go k=some y:=by
  intro m
  induction m with
  |zero=>intro s h;omega
  |succ m i=>
   intro s f d;simp only[qd];rcases h s d with⟨s',a,e,g⟩|⟨x,a,e⟩|a
   ·grind
   ·simp_all
   simp_all
 obtain⟨r,a,e⟩:=c (b s+1) s (by omega) d;rw[qY (xh a)];exact e
theorem kN(p:UInt8->Bool): ∀l:Str,past p l=l.dropWhile p
 |[]=>rfl
 |c::r=>by
  rw[past,Nc];cases h:p c with
  |true=>exact kN p r
  |false=>rfl
theorem EG(p:UInt8->Bool)(l:Str):l.takeWhile p++past p l=l:=by rw[kN,List.takeWhile_append_dropWhile]
theorem eF(p:UInt8->Bool): ∀l:Str,(l.takeWhile p).all p=true
 |[]=>rfl
 |c::r=>by simp_all
def sgOf(l:Str):Str:=if Yh (atS l 0)then [atS l 0]else []
theorem NS(l:Str):sgOf l++unsign l=l:=by
 unfold sgOf unsign;cases h:Yh (atS l 0)with
 |false=>rfl
 |true=>
  rw[Ka rfl,Ka rfl];cases l with
  |nil=>exact absurd h (by decide)
  |cons c r=>rfl
theorem PS(l:Str):sgB (sgOf l)=true:=by
 unfold sgOf;cases h:Yh (atS l 0)with
 |false=>rfl
 |true=> rw[Ka rfl];unfold Yh at h;rw[Fe,Ob,Ob]at h;rcases h with h|h<;>rw[h]<;>rfl
def dotP(q:Str):Option Str:=if atS q 0==46&&digB (atS q 1)then some ((q.drop 1).takeWhile digB)else none
def expP(q:Str):Option (UInt8×Str×Str):=
 if(atS q 0==101||atS q 0==69)&&digB (atS (unsign (q.drop 1)) 0)then some (atS q 0,sgOf (q.drop 1),(unsign (q.drop 1)).takeWhile digB)else none
def numP(l:Str):NumP:=⟨sgOf l,(unsign l).takeWhile digB,dotP (past digB (unsign l)),expP (qp (past digB (unsign l))).1⟩
theorem LV(q:Str):dotS (dotP q)++(qp q).1=q/\(qp q).2=(dotP q).isNone:=by
 unfold dotP qp;cases h:atS q 0==46&&digB (atS q 1)with
 |false=>exact⟨rfl,rfl⟩
 |true=>
  rw[Ka rfl,Ka rfl];cases q with
  |nil=>exact absurd h (by decide)
  |cons c r=> rw[Fa,Ob]at h;refine⟨?_,rfl⟩;show(46::List.takeWhile digB r)++past digB r=c::r;rw[Db,EG,show c=46 from h.1]
theorem zCt(q:Str):expT (expP q)++(match expS q with|some r=>r|none=>q)=q:=by
 unfold expP expS;cases a:atS q 0==101||atS q 0==69 with
 |false=>rfl
 |true=>
  cases b:digB (atS (unsign (q.drop 1)) 0)with
  |false=>rfl
  |true=>
   simp only[Bool.and_self,Yd];cases q with
   |nil=>exact absurd a (by decide)
   |cons c r=> show(c::(sgOf r++List.takeWhile digB (unsign r)))++past digB (unsign r)=c::r;rw[Db,Ib,EG,NS]
theorem RN(l:Str):(numP l).txt++(ZG l).1=l:=by
 have c:=(LV (past digB (unsign l))).1;have b:=zCt (qp (past digB (unsign l))).1;have a:(ZG l).1=(match expS (qp (past digB (unsign l))).1 with|some r=>r|none=>(qp (past digB (unsign l))).1):=by unfold ZG;simp only;cases expS (qp (past digB (unsign l))).1<;>rfl
 rw[a];show(sgOf l++(List.takeWhile digB (unsign l)++(dotS (dotP (past digB (unsign l)))++expT (expP (qp (past digB (unsign l))).1))))++_=l;rw[Ib,Ib,Ib,b,c,EG,NS]
theorem LK{p:UInt8->Bool}{q:Str}(h:p (atS q 0)=true)(a:p 0=false):(q.takeWhile p).isEmpty=false:=by
 cases q with
 |nil=>rw[show atS [] 0=0 from rfl,a]at h;cases h
 |cons c r=>rw[List.takeWhile_cons,Ka (show p c=true from h)];rfl
theorem UT{l:Str}(h:nbS l=true):(numP l).ok=true:=by
 unfold NumP.ok numP;simp only[PS,eF,Kb,Fa];refine⟨?_,?_⟩
 ·unfold dotP;cases a:atS (past digB (unsign l)) 0==46&&digB (atS (past digB (unsign l)) 1)with
  |true=> rw[Ka rfl];simp only[eF,Gc];rw[Fa]at a;rw[LK (p:=digB) (by rw[si];exact a.2) (by decide)];rfl
  |false=>
   rw[Ia (by decide)];simp only;cases b:digB (atS (unsign l) 0)with
   |true=>rw[LK b (by decide)];rfl
   |false=>
    exfalso;have f:past digB (unsign l)=unsign l:=by
     cases e:unsign l with
     |nil=>rfl
     |cons c r=>rw[e]at b;rw[past,Ia (by rw[show digB c=false from b];decide)]
    rw[f]at a;unfold nbS undot at h;cases d:atS (unsign l) 0==46 with
    |false=>grind
    |true=>
     rw[d,Ka rfl,si]at h
     grind
 ·unfold expP;cases a:(atS (qp (past digB (unsign l))).1 0==101||atS (qp (past digB (unsign l))).1 0==69)&&digB (atS (unsign ((qp (past digB (unsign l))).1.drop 1)) 0)with
  |false=>rfl
  |true=> rw[Ka rfl];rw[Fa]at a;simp only[a.1,PS,eF,Gc,Kb];rw[LK a.2 (by decide)];rfl
theorem zHV{n:NumP}(h:n.ok=true):n.txt≠[]:=by
 obtain⟨c,D,F,X⟩:=n;unfold NumP.ok at h;simp only[Fa]at h;intro e;unfold NumP.txt at e;simp only[List.append_eq_nil_iff]at e;obtain⟨g,b,a,d⟩:=e;subst b;cases F with
 |none=>grind
 |some f=>cases a
theorem LP{c:UInt8}{r:Str}(h:nbS (c::r)=true):(ZG (c::r)).1<:+r:=by
 have e:=RN (c::r);have b:=zHV (UT h);cases a:(numP (c::r)).txt with
 |nil=>grind
 |cons d t=>
  grind
def qw(l:Str):zk×Str:=
 if nmS (ZG l).1 then(⟨12,[],(numP l).val,(Zg (ZG l).1).1,(ZG l).2⟩,(Zg (ZG l).1).2)
 else if atS (ZG l).1 0==37 then(⟨11,[],(numP l).val,[],false⟩,(ZG l).1.drop 1)
 else(⟨10,[],(numP l).val,[],(ZG l).2⟩,(ZG l).1)
theorem zEF{s l t e:Str}(a:l<:+s)(h:t++e=l):List.drop (beh s l) (List.take (beh s e) s)=t:=by
 obtain⟨p,rfl⟩:=a;subst h;have c:beh (p++(t++e)) (t++e)=p.length:=by unfold beh;simp only[La];omega
 have b:beh (p++(t++e)) e=(p++t).length:=by unfold beh;simp only[La];omega
 grind
theorem zC2{s l:Str}(hs:s.length<=40000)(hl:l<:+s)(h:nbS l=true):qW (sr s l)=some ((qw l).1,sr s (qw l).2):=by
 have hsb:s.length<=big:=by unfold big;omega
 have he:=OX hl;have hle:=hl.length_le;have hsp:=RN l;have hel:(ZG l).1.length<=l.length:=by have:=congrArg List.length hsp;rw[La]at this;omega
 have htl:(numP l).txt.length<=40000:=by have:=congrArg List.length hsp;rw[La]at this;omega
 unfold qW;rw[zCu hsb hl];simp only[ze,Aa];have h1:(beh s l:Int)<=(beh s (ZG l).1:Int):=by unfold beh;omega
 have h2:=ek s (ZG l).1;rw[ZO (by simp_all),Lb,Lb,zEF hl hsp,X6 (UT h) htl];simp only[Aa];rw[show Zr (0,sr s (ZG l).1)=some (nmS (ZG l).1)from CJ (k:=0) hsb he (by omega)];simp only[Aa];unfold qw;cases hn:nmS (ZG l).1 with
 |true=> rw[Da,jD hsb he,Ka rfl];rfl
 |false=>
  rw[Ca,jg hsb he,Ia (by decide)];simp only[Aa,zIf];cases h37:atS (ZG l).1 0==37 with
  |true=> rw[Da,zJ,Xy hsb he (by grind),Ka rfl]
  |false=>simp_all
theorem xE(l:Str):(Zg l).1.length<=4*l.length:=by
 match l with
 |[]=>rw[Mt];grind
 |c::r=>
  rw[QN];split
  ·have:=xE r
   grind
  ·split
   ·have b:=ZA r;have a:=fw r;have:=xE (zN r).2
    grind
   grind
termination_by l.length
decreasing_by
 all_goals grind
def Jg(l:Str):zk×Str:=
 if atS (Zg l).2 0==40 then
  (if(lowS (Zg l).1==[117,114,108])&& !(atS (past spB ((Zg l).2.drop 1)) 0==34||atS (past spB ((Zg l).2.drop 1)) 0==39)
  then(Uk (urlS (past spB ((Zg l).2.drop 1))).1,(urlS (past spB ((Zg l).2.drop 1))).2)
  else(⟨2,(Zg l).1,0,[],false⟩,(Zg l).2.drop 1))
 else(⟨1,(Zg l).1,0,[],false⟩,(Zg l).2)
theorem zE6{s q:Str}(m:s.length<=40000)(g:q<:+s):qR (sr s q)=some ((Jg q).1,sr s (Jg q).2):=by
 have a:s.length<=big:=by unfold big;omega
 have e:(Zg q).2<:+s:=(Nl q).trans g;have l:=xE q;have i:=g.length_le;have f:(Zg q).1.length<=big:=by unfold big;omega
 unfold qR;rw[jD a g];simp only[ze,Aa,jg a e];unfold bne Jg;rw[zIg];cases d:atS (Zg q).2 0==40 with
 |false=>rfl
 |true=>
  have c:atS (Zg q).2 0≠0:=by rw[Ob.1 d];decide
  rw[Eb,Ca,Ka rfl,Xy a e c,Xm f (by decide),dK];simp only[Aa];have b:=Il e 1;cases n:lowS (Zg q).1==[117,114,108]with
  |false=>rfl
  |true=>
   rw[Da,Fz a b,Kb];have k:=Vo spB b;simp only[Aa,jg a k];rw[iR,dR];cases j:atS (past spB ((Zg q).2.drop 1)) 0==34 with
   |true=>rfl
   |false=>
    cases h:atS (past spB ((Zg q).2.drop 1)) 0==39 with
    |true=>rfl
    |false=> rw[urlR a b];rfl
theorem zCV{c:UInt8}{r:Str}(h:letB c=true\/escS (c::r)=true):(Zg (c::r)).2<:+r:=by
 rw[QN];split
 ·exact Nl r
 ·rename_i a;rw[Ka (h.resolve_left a)];exact(Nl _).trans (qM r)
theorem zCZ{c:UInt8}{r:Str}(h:nmS (c::r)=true):letB c=true\/escS (c::r)=true:=by
 unfold nmS at h;cases a:atS (c::r) 0==45 with
 |true=> left;rw[show c=45 from Ob.1 a];decide
 |false=>
  rw[a,Ia (by decide),Fe]at h;rcases h with h|h
  ·left;unfold letB;rw[show fstB c=true from h];rfl
  ·exact .inr h
theorem VV{c:UInt8}{r:Str}(h:nmS (c::r)=true):(Jg (c::r)).2<:+r:=by
 have b:=zCV (zCZ h);have a:(Zg (c::r)).2.drop 1<:+r:=(De 1 _).trans b;unfold Jg;split
 ·split
  ·exact(Dr _).trans ((Jl spB _).trans a)
  ·exact a
 ·exact b
def nxU(c:UInt8)(r:Str):zk×Str:=
  if nmS (c::r)then Jg (c::r)
  else if Cg c==0 then(⟨9,[c],0,[],false⟩,r)
  else(Sg (Cg c),r)
def nxT(c:UInt8)(r:Str):zk×Str:=
  if nbS (c::r)then qw (c::r)
  else if [45,45,62].isPrefixOf (c::r)then(Sg 15,(c::r).drop 3)
  else if [60,33,45,45].isPrefixOf (c::r)then(Sg 14,(c::r).drop 4)
  else if c==64&&nmS r then(⟨3,(Zg r).1,0,[],false⟩,(Zg r).2)
  else nxU c r
def QH:Str->zk×Str
 |[]=>(⟨0,[],0,[],false⟩,[])
 |c::r=>
  if spB c then(Sg 13,past spB (c::r))
  else if c==34||c==39 then(Wj (Zz c r).1,(Zz c r).2)
  else if c==35&&(letB (atS r 0)||escS r)then(⟨4,(Zg r).1,0,[],nmS r⟩,(Zg r).2)
  else nxT c r
theorem rH(c:UInt8)(r:Str):QH (c::r)=
  if spB c then(Sg 13,past spB (c::r))
  else if c==34||c==39 then(Wj (Zz c r).1,(Zz c r).2)
  else if c==35&&(letB (atS r 0)||escS r)then(⟨4,(Zg r).1,0,[],nmS r⟩,(Zg r).2)
  else if nbS (c::r)then qw (c::r)
  else if [45,45,62].isPrefixOf (c::r)then(Sg 15,(c::r).drop 3)
  else if [60,33,45,45].isPrefixOf (c::r)then(Sg 14,(c::r).drop 4)
  else if c==64&&nmS r then(⟨3,(Zg r).1,0,[],false⟩,(Zg r).2)
  else if nmS (c::r)then Jg (c::r)
  else if Cg c==0 then(⟨9,[c],0,[],false⟩,r)
  else(Sg (Cg c),r):=rfl
theorem gX{c:UInt8}{r:Str}(h:nbS (c::r)=true):(qw (c::r)).2<:+r:=by
 have a:=LP h;unfold qw;split
 ·exact(Nl _).trans a
 ·split
  ·exact(De 1 _).trans a
  ·exact a
theorem Kl(c:UInt8)(r:Str):(QH (c::r)).2<:+r:=by
 rw[rH];split
 ·rename_i h;show past spB (c::r)<:+r;rw[past,Ka h];exact Jl spB r
 ·split
  ·exact Rt c r
  ·split
   ·exact Nl r
   ·split
    ·rename_i h;exact gX h
    ·split
     ·exact De 2 r
     ·split
      ·exact De 3 r
      ·split
       ·exact Nl r
       ·split
        ·rename_i h;exact VV h
        grind
theorem zCR(c:UInt8):decide (Lib.indexByte [58,59,44,91,93,40,41,123,125] c>=0)= !(Cg c==0)/\(Cg c≠0->wu8 (16+wu8 (Lib.indexByte [58,59,44,91,93,40,41,123,125] c))=Cg c):=by
 have: ∀n:Nat,n<256->decide (Lib.indexByte [58,59,44,91,93,40,41,123,125] (UInt8.ofNat n)>=0)= !(Cg (UInt8.ofNat n)==0)/\(Cg (UInt8.ofNat n)≠0->wu8 (16+wu8 (Lib.indexByte [58,59,44,91,93,40,41,123,125] (UInt8.ofNat n)))=Cg (UInt8.ofNat n)):=by decide+kernel
 have:=this c.toNat (Uc c);simp_all
theorem Mo{m q:Str}(h:m.isPrefixOf q=true):m.length<=q.length:=by
 grind
def Py(s:Str)(X:zk×Str):Option (zk×zb):=some (X.1,sr s X.2)
theorem xR{s q:Str}{c:UInt8}{r:Str}(y:s.length<=40000)(b:q<:+s)(D:q=c::r):qC (sr s q)=some ((QH q).1,sr s (QH q).2):=by
 subst D;have a:s.length<=big:=by unfold big;omega
 have A:=Pi b;have J:(c::r).drop 1=r:=rfl;rw[show QH (c::r)=if spB c then(Sg 13,past spB (c::r))else if c==34||c==39 then(Wj (Zz c r).1,(Zz c r).2)else if c==35&&(letB (atS r 0)||escS r)then(⟨4,(Zg r).1,0,[],nmS r⟩,(Zg r).2)else nxT c r from rfl];unfold qC;simp only[ze,jg a b,Aa];rw[ZO aS];simp only[Uv,Aa,iR,dR,zIe,zIh,ME b,ym,show atS (c::r) 0=c from rfl,UJ];cases Q:spB c with
 |true=> rw[Da,Fz a b,Ka rfl];rfl
 |false=>
  rw[Ca,Ia (by decide)];cases H:c==34||c==39 with
  |true=> rw[Da,zFX a b,Ka rfl];rfl
  |false=>
   rw[Ca,Ia (by decide)];have p:Zo (1,sr s (c::r))=some (escS r):=VA (k:=1) a b (by omega);have g:Zr (1,sr s (c::r))=some (nmS r):=CJ (k:=1) a b (by omega);have l:Zr (0,sr s (c::r))=some (nmS (c::r)):=CJ (k:=0) a b (by omega);have u:(⟨s,w64 ((beh s (c::r):Int)+1)⟩:zb)=sr s r:=by rw[Nh a b]
   rw[u];have o:((qF (sr s (c::r))).bind fun w=>
    bif w then
     (qW (sr s (c::r))).bind fun j=>
     some (j.1,j.2)
    else
     (some ([45,45,62].isPrefixOf (c::r))).bind fun v=>
     bif v then
      some ((⟨15,[],0,[],false⟩:zk),(⟨s,w64 ((beh s (c::r):Int)+3)⟩:zb))
     else
      (some ([60,33,45,45].isPrefixOf (c::r))).bind fun t=>
      bif t then
       some ((⟨14,[],0,[],false⟩:zk),(⟨s,w64 ((beh s (c::r):Int)+4)⟩:zb))
      else
       (zK (c==64) (Zr (1,sr s (c::r))) (default:Bool)).bind fun h=>
       bif bif c==64 then h else false then
        (ZN (sr s r)).bind fun f=>
        some ((⟨3,f.1,0,[],false⟩:zk),f.2)
       else
        (Zr (0,sr s (c::r))).bind fun i=>
        bif i then
         (qR (sr s (c::r))).bind fun d=>
         some (d.1,d.2)
        else
         (strings_IndexByte ([58,59,44,91,93,40,41,123,125],wu8 (pk (c::r) 0))).bind fun e=>
         bif decide (e>=0)then
          some ((⟨wu8 (16+wu8 e),[],0,[],false⟩:zk),sr s r)
         else
          need (decide (1<=((c::r).length:Int)))<|
          some ((⟨9,List.take 1 (c::r),0,[],false⟩:zk),sr s r))=
    Py s (nxT c r):=by
    unfold nxT;simp only[zFC a b,Aa];cases x:nbS (c::r)with
    |true=> rw[Da,zC2 y b x,Ka rfl];rfl
    |false=>
     rw[Ca,Ia (by decide)];cases O:[45,45,62].isPrefixOf (c::r)with
     |true=> rw[Da,Ka rfl,show(3:Int)=((3:Nat):Int)from rfl,rD (n:=3) a b (Mo O)];rfl
     |false=>
      rw[Ca,Ia (by decide)];cases L:[60,33,45,45].isPrefixOf (c::r)with
      |true=> rw[Da,Ka rfl,show(4:Int)=((4:Nat):Int)from rfl,rD (n:=4) a b (Mo L)];rfl
      |false=>
       rw[Ca,Ia (by decide),g,l];have m: ∀z:Bool,((some z).bind fun h=>bif h then
        (ZN (sr s r)).bind fun f=>
        some ((⟨3,f.1,0,[],false⟩:zk),f.2)
       else
        (some (nmS (c::r))).bind fun i=>
        bif i then
         (qR (sr s (c::r))).bind fun d=>
         some (d.1,d.2)
        else
         (strings_IndexByte ([58,59,44,91,93,40,41,123,125],wu8 (pk (c::r) 0))).bind fun e=>
         bif decide (e>=0)then
          some ((⟨wu8 (16+wu8 e),[],0,[],false⟩:zk),sr s r)
         else
          need (decide (1<=((c::r).length:Int)))<|
          some ((⟨9,List.take 1 (c::r),0,[],false⟩:zk),sr s r))=Py s (if z then(⟨3,(Zg r).1,0,[],false⟩,(Zg r).2)else nxU c r):=by
        intro z;unfold nxU;simp only[Aa];cases z with
        |true=> rw[Da,jD a A];rfl
        |false=>
         rw[Ca,Ia (by decide)];cases G:nmS (c::r)with
         |true=>rw[Da,zE6 y b];rfl
         |false=>
          rw[Ca,Ia (by decide),Oo,ut];have R:(wu8 (c.toNat:Int)).toNat.toUInt8=c:=by rw[Wv,rf (Uc c),Lb];exact Te
          rw[R];obtain⟨K,S⟩:=zCR c;simp only[Aa,K];cases M:Cg c==0 with
          |true=> rw[Eb,Ca,ZO (Ha (by grind))];rfl
          |false=> rw[Ua,Da,S (Ga.1 M)];rfl
       cases N:c==64 with
       |false=> simp_all
       |true=> have:=m (nmS r);simp_all
   cases C:c==35 with
   |false=> simp only[qK,Aa,Ca,Md,Ld];exact o
   |true=>
    simp only[Zl,Aa,Da,Gc,Kb,uu a b,TM];have E:atS (c::r) 1=atS r 0:=rfl;rw[E,p];have F:(bif letB (atS r 0)||escS r then(Zr (1,sr s (c::r))).bind fun P=>(ZN (sr s r)).bind fun B=>some ((⟨4,B.1,0,[],P⟩:zk),B.2)else Py s (nxT c r))=Py s (if(letB (atS r 0)||escS r)then(⟨4,(Zg r).1,0,[],nmS r⟩,(Zg r).2)else nxT c r):=by
     cases letB (atS r 0)||escS r with
     |false=>rfl
     |true=>rw[Da,g,jD a A];rfl
    show _=Py s (if(letB (atS r 0)||escS r)then(⟨4,(Zg r).1,0,[],nmS r⟩,(Zg r).2)else nxT c r);rw[<-F];cases T:letB (atS r 0)with
    |true=>rfl
    |false=> simp_all
def clsS:Str->Option Str
 |[]=>none
 |c::r=>if c==42&&atS r 0==47 then some (r.drop 1)else clsS r
theorem Mm: ∀(l:Str) {r:Str},clsS l=some r->r<:+l/\r.length+2<=l.length
 |[],r,h=>by cases h
 |c::t,r,h=>by
  unfold clsS at h;split at h
  ·rename_i a;rw[Fa,Ob,Ob]at a;injection h with h;subst h;have:=Lu (l:=t) (n:=0) (by rw[a.2];decide);exact⟨(De 1 t).trans (Gd c t),by grind⟩
  ·obtain⟨d,b⟩:=Mm t h
   grind
theorem pre2(b:UInt8)(l:Str):([42,47]:Str).isPrefixOf (b::l)=(b==42&&atS l 0==47):=by
 have c:((42:UInt8)==b)=(b==42):=by rw[Bool.eq_iff_iff,Ob,Ob];exact eq_comm
 rw[List.isPrefixOf,c];cases l with
 |nil=>rfl
 |cons d t=>
  have a:((47:UInt8)==d)=(d==47):=by rw[Bool.eq_iff_iff,Ob,Ob];exact eq_comm
  rw[List.isPrefixOf,a,List.isPrefixOf];rw[Gc];rfl
theorem dN: ∀l:Str,Lib.index l [42,47]=match clsS l with|none=> -1|some r=>((l.length - r.length - 2:Nat):Int)
 |[]=>rfl
 |b::l=>by
  rw[Lib.index,pre2,clsS];cases h:b==42&&atS l 0==47 with
  |true=>
   grind
  |false=>
   simp only[Rb,Sd];rw[dN l];cases a:clsS l with
   |none=>rfl
   |some r=>
    have:=(Mm l a).2
    grind
def cmtS(l:Str):Str:=
 if([47,42]:Str).isPrefixOf l then
  (match h:clsS (l.drop 2)with
  |some q=>cmtS q
  |none=>[])
 else l
termination_by l.length
decreasing_by
 have:=(Mm _ h).2
 grind
theorem Eo(l:Str):cmtS l=if([47,42]:Str).isPrefixOf l then(match clsS (l.drop 2)with|some q=>cmtS q|none=>[])else l:=by
 rw[cmtS]
 grind
theorem mi{l:Str}(h:([47,42]:Str).isPrefixOf l=false):cmtS l=l:=by rw[Eo,h];rfl
theorem Uh(l:Str):cmtS l<:+l:=by
 rw[Eo];split
 ·split
  ·rename_i q b;have a:=Mm _ b;have c:=a.2;rw[Vb]at c;exact(Uh q).trans (a.1.trans (De 2 l))
  grind
 grind
termination_by l.length
decreasing_by
 grind
theorem Pw(l:Str):cmtS (cmtS l)=cmtS l:=by
 rw[Eo l];split
 ·split
  ·rename_i q a;have b:=(Mm _ a).2;rw[Vb]at b;exact Pw q
  ·exact mi rfl
 ·rename_i h;exact mi (Bool.eq_false_iff.2 h)
termination_by l.length
decreasing_by
 grind
theorem zEA(l:Str):([47,42]:Str).isPrefixOf (cmtS l)=false:=by
 have h:=Pw l;cases b:([47,42]:Str).isPrefixOf (cmtS l)with
 |false=>rfl
 |true=>
  exfalso;rw[Eo (cmtS l),b,Ka rfl]at h;have c:=Mo b;rw[show([47,42]:Str).length=2 from rfl]at c;cases a:clsS ((cmtS l).drop 2)with
  |none=>grind
  |some q=>
   rw[a]at h;have d:=(Mm _ a).2;have e:=(Uh q).length_le
   grind
theorem MB{s q:Str}(hs:s.length<=40000)(hq:q<:+s):ZB (sr s q)=some (sr s (cmtS q)):=by
 have hsb:s.length<=big:=by unfold big;omega
 unfold ZB;refine rG (fun z=> ∃p,z=sr s p/\p<:+s/\cmtS p=cmtS q) (fun z=>s.length - z.at_.toNat) _ ?_ ⟨q,rfl,hq,rfl⟩;rintro _ ⟨p,rfl,hp,he⟩;rw[ZO aS];simp only[ze,ME hp,ym,Aa];rw[Eo p]at he;cases hpre:([47,42]:Str).isPrefixOf p with
 |false=>
  grind
 |true=>
  rw[hpre,Ka rfl]at he;have hl:=Mo hpre;rw[show([47,42]:Str).length=2 from rfl]at hl;have hle:=hp.length_le;have hb:=jK hp hl;have hb2:=ek s (p.drop 2);rw[Da];have hw:w64 ((beh s p:Int)+2)=((beh s (p.drop 2):Nat):Int):=by rw[<-hb,Ql (by omega) (by omega)];omega
  rw[hw,ZO (by grind),ME (Il hp 2)];have hlen:(p.drop 2).length<=40000:=by rw[Vb];omega
  have hi:ik (p.drop 2,[42,47])=some (Lib.index (p.drop 2) [42,47]):=by unfold ik;rw[ZO (by exact Ha (show(p.drop 2).length<4294967281 by omega))]
  rw[hi,dN];simp only[Aa];cases hc:clsS (p.drop 2)with
  |none=>
   rw[hc]at he;refine .inr (.inr ?_);rw[<-he];show _=some (LO.ret (⟨s,(beh s []:Int)⟩:zb));unfold beh
   grind
  |some r=>
   rw[hc]at he;obtain⟨h1,h2⟩:=Mm _ hc;have hrs:r<:+s:=h1.trans (Il hp 2);rw[Vb]at h2 hlen;simp only;rw[Ta (by omega),Ca];refine .inl ⟨sr s r,?_,⟨r,rfl,hrs,he⟩,?_⟩
   ·rw[Vb,Ql (n:=_+4) (by omega) (by omega)];have:(beh s p:Int)+(((p.length - 2 - r.length - 2:Nat):Int)+4)=((beh s r:Nat):Int):=by unfold beh;omega
    rw[this,Ql (by grind) (by grind)]
   ·show s.length - beh s r<s.length - beh s p;unfold beh;omega
def QS(l:Str):List zk:=
 match h:cmtS l with
 |[]=>[]
 |c::r=>(QH (c::r)).1::QS (QH (c::r)).2
termination_by l.length
decreasing_by
 have b:=(Kl c r).length_le;have a:=(Uh l).length_le
 grind
theorem Uo{l:Str}(h:cmtS l=[]):QS l=[]:=by
 rw[QS]
 grind
theorem Sm{l:Str}{c:UInt8}{r:Str}(h:cmtS l=c::r):QS l=(QH (c::r)).1::QS (QH (c::r)).2:=by
 rw[QS]
 grind
theorem EA(l:Str):QS (cmtS l)=QS l:=by
 cases h:cmtS l with
 |nil=>rw[Uo h];exact Uo (mi rfl)
 |cons c r=> rw[Sm h];exact Sm (by rw[<-h,Pw])
theorem NB: ∀l:Str,(Proofs.Cl.cleanS l).length<=3*l.length:=by
 have: ∀(n:Nat) (l:Str),l.length<=n->(Proofs.Cl.cleanS l).length<=3*l.length:=by
  intro n
  induction n with
  |zero=>
   intro l h;cases l with
   |nil=>rw[Proofs.Cl.cleanS];grind
   |cons c r=>grind
  |succ n ih=>
   intro l h;rw[Proofs.Cl.cleanS.eq_def]
   grind
 exact fun l=>this l.length l (Ra _)
def ZE(w:Str):List zk×Int:=if 4000<w.length then([],28)else if 1500<(QS (Proofs.Cl.cleanS w)).length then([],4)else(QS (Proofs.Cl.cleanS w),0)
theorem zEm{n:Nat}(h:n<=100000):Zw n 1 56=true:=by unfold Zw;grind
theorem tN(w:Str):um w=some (ZE w):=by
 unfold um ZE;by_cases b:4000<w.length
 ·have e:ni w=some ([],28):=by unfold ni;rw[Ka b]
  unfold nC
  grind
 ·have e:ni w=some (Proofs.Cl.cleanS w,0):=by unfold ni;rw[Ia b]
  rw[Ia b];have x:=NB w;generalize Proofs.Cl.cleanS w=s at e x;have o:s.length<=40000:=by omega
  unfold nC;rw[e];simp only[ze,Aa];rw[show((0:Int) != 0)=false from rfl,Ca,sr_0,MB o (Ce s)];simp only[Aa];have f: ∃z:Int×List zk,Zp (fun(d:Int×List zk×zb)=>
    bif decide (d.2.2.at_<(s.length:Int))then
     bif decide (w64 (d.1+1)>1500)then
      some (LO.ret (4,d.2.1))
     else
      (qC d.2.2).bind fun t=>
      (LD ((t.1,d.2.2.at_,t.2.at_),d.2.1)).bind fun y=>
      (ZB t.2).bind fun A=>
      some (LO.again (w64 (d.1+1),y,A))
    else
     some (LO.out (d.2.1,d.2.2)):Int×List zk×zb->Option (LO (Int×List zk×zb) (List zk×zb) (Int×List zk))) (0,[],sr s (cmtS s)) (fun C=>some (0,C.1))=some z/\
    z=(if 1500<(QS s).length then(4,(QS s).take 1500)else(0,QS s)):=by
   refine⟨_,rG (fun z=> ∃(a:List zk) (q:Str),z=((a.length:Int),a,sr s q)/\q<:+s/\cmtS q=q/\a.length<=1500/\a++QS q=QS s) (fun z=>s.length - z.2.2.at_.toNat) (if 1500<(QS s).length then(4,(QS s).take 1500)else(0,QS s)) ?_ ⟨[],cmtS s,rfl,Uh s,Pw s,by simp,by rw[Mc,EA]⟩,rfl⟩;rintro _ ⟨a,q,rfl,m,n,G,i⟩;simp only;have l:=m.length_le;cases q with
   |nil=>
    have B:((beh s []:Nat):Int)=(s.length:Int):=by unfold beh;rw[Xa];rfl
    have k:decide (((beh s []:Nat):Int)<(s.length:Int))=false:=Ta (by omega);simp only[k,Ca];rw[Uo (mi rfl),Ub]at i
    grind
   |cons c r=>
    rw[Ea]at l;have B:beh s (c::r)<s.length:=by unfold beh;rw[Ea];omega
    have k:decide (((beh s (c::r):Nat):Int)<(s.length:Int))=true:=Ha (by omega);have v:w64 ((a.length:Int)+1)=(a.length:Int)+1:=Ql (by omega) (by omega);simp only[k,Da,v];rw[Sm n]at i;have g:=congrArg List.length i;rw[La,Ea]at g;by_cases j:a.length=1500
    ·grind
    ·have p:decide ((a.length:Int)+1>1500)=false:=Ta (by omega);simp only[p,Ca,xR o m rfl,Aa];unfold LD;rw[ZO (zEm (by simp only;omega))];have h:(QH (c::r)).2<:+s:=(Kl c r).trans (Pi m);simp only[Aa,MB o h];refine .inl ⟨_,rfl,⟨a++[(QH (c::r)).1],cmtS (QH (c::r)).2,?_,(Uh _).trans h,Pw _,by grind,?_⟩,?_⟩
     ·grind
     ·rw[EA,Ib];exact i
     ·have E:=(Kl c r).length_le;have F:=(Uh (QH (c::r)).2).length_le;show s.length - beh s (cmtS (QH (c::r)).2)<s.length - beh s (c::r);unfold beh at*
      grind
  obtain⟨z,D,u⟩:=f
  grind
theorem rF{q:Str}{n:Nat}(x:Str)(h:n<q.length):atS (q++x) n=atS q n:=by
 unfold atS
 grind
theorem mo{p:UInt8->Bool}(x:Str): ∀{q:Str},past p q≠[]->past p (q++x)=past p q++x
 |[],h=>absurd rfl h
 |c::r,h=>by
  rw[Db,past,past];rw[past]at h;cases a:p c with
  |true=>rw[a,Ka rfl]at h;rw[Ka rfl,Ka rfl];exact mo x h
  |false=>rfl
theorem az{p:UInt8->Bool}(x:Str): ∀{q:Str},past p q≠[]->(q++x).takeWhile p=q.takeWhile p
 |[],h=>absurd rfl h
 |c::r,h=>by
  rw[Db,List.takeWhile_cons,List.takeWhile_cons];rw[past]at h;cases a:p c with
  |true=>rw[a,Ka rfl]at h;rw[Ka rfl,Ka rfl,az x h]
  |false=>rfl
theorem yM(x:Str): ∀{k n:Nat} {l:Str},(hexes k n l).2≠[]->hexes k n (l++x)=((hexes k n l).1,(hexes k n l).2++x)
 |0,n,l,_=>rfl
 |k+1,n,[],h=>absurd rfl h
 |k+1,n,c::r,h=>by
  rw[Db,hexes,hexes];rw[hexes]at h;split
  ·rename_i a;rw[Ka a]at h;exact yM x h
  ·rfl
theorem zDA{l:Str}(x:Str)(h:l≠[]):unsp (l++x)=unsp l++x:=by
 cases l with
 |nil=>grind
 |cons c r=> show(if spB c then r++x else c::(r++x))=(if spB c then r else c::r)++x;split<;>rfl
theorem AC{r:Str}(x:Str)(h:(zN r).2≠[]):zN (r++x)=((zN r).1,(zN r).2++x):=by
 cases r with
 |nil=>exact absurd rfl h
 |cons c r=>
  have e: ∀t:Str,zN (c::t)=if Vf c then(Ci (hexes 6 0 (c::t)).1,unsp (hexes 6 0 (c::t)).2)else([c],t):=fun t=>rfl;rw[Db,e,e];rw[e]at h;split
  ·rename_i b;rw[Ka b]at h;have a:(hexes 6 0 (c::r)).2≠[]:=by intro d;rw[d]at h;exact h rfl
   rw[show c::(r++x)=(c::r)++x from rfl,yM x a,zDA x a]
  ·rfl
theorem av{c:UInt8}{r:Str}(x:Str)(h:r≠[]\/c≠92):escS (c::(r++x))=escS (c::r):=by
 unfold escS;show(c==92&& !(atS (r++x) 0==10))=(c==92&& !(atS r 0==10));rcases h with h|h
 ·cases r with
  |nil=>grind
  |cons d t=>rfl
 grind
theorem Vs{q:Str}(x:Str)(h:(Zg q).2≠[]):Zg (q++x)=((Zg q).1,(Zg q).2++x):=by
 match q with
 |[]=>rw[Mt]at h;grind
 |c::r=>
  rw[Db,QN,QN];rw[QN]at h;cases f:letB c with
  |true=> rw[f,Ka rfl]at h;simp only[Yd];rw[Vs x h]
  |false=>
   rw[f,Ia (by decide)]at h;simp only[Rb,Sd];cases a:escS (c::r)with
   |true=>
    rw[a,Ka rfl]at h;have g:(zN r).2≠[]:=by intro e;simp only[e,Mt]at h;exact h rfl
    have b:r≠[]:=by rintro rfl;exact g rfl
    rw[av x (.inl b),a];simp only[Yd];rw[AC x g];have:=ZA r;simp only;rw[Vs x h]
   |false=>
    have b:r≠[]\/c≠92:=by
     cases r with
     |nil=> right;rintro rfl;exact absurd a (by decide)
     |cons d t=>left;simp
    rw[av x b,a];grind
termination_by q.length
decreasing_by
 all_goals grind
theorem aB{m:UInt8}{q:Str}(x:Str)(h:(Zz m q).2≠[]):Zz m (q++x)=((Zz m q).1,(Zz m q).2++x):=by
 match q with
 |[]=>rw[Lp]at h;grind
 |c::r=>
  rw[Db,Yt,Yt];rw[Yt]at h;cases g:c==m with
  |true=>grind
  |false=>
   rw[g,Ia (by decide)]at h;simp only[Rb,Sd];cases k:c==10 with
   |true=>grind
   |false=>
    rw[k,Ia (by decide)]at h;simp only[Rb,Sd];cases b:c==92 with
    |false=> rw[b,Ia (by decide)]at h;simp only[Rb,Sd];rw[aB x h]
    |true=>
     rw[b,Ka rfl]at h;simp only[Yd];cases f:r with
     |nil=>grind
     |cons d t=>
      rw[f]at h;have j:r.length=t.length+1:=by rw[f];rfl
      rw[Db,show(d::(t++x)).isEmpty=false from rfl,show(d::t).isEmpty=false from rfl];simp only[Rb,Sd];rw[show(d::t).isEmpty=false from rfl,Ia (by decide)]at h;rw[show atS (d::(t++x)) 0=atS (d::t) 0 from rfl];cases a:atS (d::t) 0==10 with
      |true=> rw[a,Ka rfl]at h;simp only[Yd];exact aB (q:=t) x h
      |false=>
       rw[a,Ia (by decide)]at h;simp only[Rb,Sd];have i:(zN (d::t)).2≠[]:=by intro e;simp only[e,Lp]at h;exact h rfl
       rw[show d::(t++x)=(d::t)++x from rfl,AC x i];have:=ZA (d::t);simp only;rw[aB x h]
termination_by q.length
decreasing_by
 all_goals grind
theorem oz{q:Str}(x:Str)(h:badS q≠[]):badS (q++x)=badS q++x:=by
 match q with
 |[]=>rw[Jw]at h;grind
 |c::r=>
  rw[Db,Ww,Ww];rw[Ww]at h;cases f:c==41 with
  |true=>grind
  |false=>
   rw[f,Ia (by decide)]at h;simp only[Rb,Sd];cases a:escS (c::r)with
   |true=>
    rw[a,Ka rfl]at h;have d:(zN r).2≠[]:=by intro e;rw[e,Jw]at h;exact h rfl
    have b:r≠[]:=by rintro rfl;exact d rfl
    rw[av x (.inl b),a];simp only[Yd];rw[AC x d];have:=ZA r;exact oz x h
   |false=>
    rw[a,Ia (by decide)]at h;have b:r≠[]\/c≠92:=by left;rintro rfl;rw[Jw]at h;exact h rfl
    rw[av x b,a];simp only[Rb,Sd];exact oz x h
termination_by q.length
decreasing_by
 all_goals grind
theorem UF{q:Str}(x:Str)(h:(urlS q).2≠[]):urlS (q++x)=((urlS q).1,(urlS q).2++x):=by
 match q with
 |[]=>rw[Po]at h;grind
 |c::r=>
  rw[Db,Ls,Ls];rw[Ls]at h;cases l:c==41 with
  |true=>grind
  |false=>
   rw[l,Ia (by decide)]at h;simp only[Rb,Sd];cases j:spB c with
   |true=>
    rw[j,Ka rfl]at h;simp only[Yd];cases f:past spB r with
    |nil=>grind
    |cons d t=>
     rw[mo x (by rw[f];simp),f];rw[f]at h;simp only[Db]at h ⊢;cases a:d==41 with
     |true=>grind
     |false=> rw[a,Ia (by decide)]at h;simp only[Rb,Sd];rw[show d::(t++x)=(d::t)++x from rfl,oz x h]
   |false=>
    rw[j,Ia (by decide)]at h;simp only[Rb,Sd];have b:(c=92->r≠[])->escS (c::(r++x))=escS (c::r):=by
     intro k;refine av x ?_;by_cases e:c=92
     ·exact .inl (k e)
     ·exact .inr e
    have m:c=92->r≠[]:=by
     rintro rfl rfl;have o:escS [92]=true:=by decide
     rw[o,show((92:UInt8)==92&& !true)=false from rfl,Gf]at h;cases i:((92:UInt8)==34||(92:UInt8)==39||(92:UInt8)==40||unB 92)with
     |true=>exact absurd i (by decide)
     |false=> rw[i,Ia (by decide),Ka (by decide)]at h;exact absurd (by show(urlS (zN []).2).2=[];rw[show(zN []).2=[]from rfl,Po]) h
    rw[b m];cases a:c==34||c==39||c==40||unB c||c==92&& !escS (c::r)with
    |true=> rw[a,Ka rfl]at h;simp only[Yd];rw[show c::(r++x)=(c::r)++x from rfl,oz x h]
    |false=>
     rw[a,Ia (by decide)]at h;simp only[Rb,Sd];cases g:c==92 with
     |true=>
      rw[g,Ka rfl]at h;simp only[Yd];have n:(zN r).2≠[]:=by intro e;simp only[e,Po]at h;exact h rfl
      rw[AC x n];have:=ZA r;simp only;rw[UF x h]
     |false=> rw[g,Ia (by decide)]at h;simp only[Rb,Sd];rw[UF x h]
termination_by q.length
decreasing_by
 all_goals grind
theorem WH{q:Str}(x:Str)(h:q≠[]):unsign (q++x)=unsign q++x/\sgOf (q++x)=sgOf q:=by
 cases q with
 |nil=>grind
 |cons c r=> unfold unsign sgOf;show(if Yh c then r++x else c::(r++x))=(if Yh c then r else c::r)++x/\_;refine⟨by split<;>rfl,rfl⟩
def Ng(q:Str):Str:=past digB (unsign q)
theorem zBL{q x:Str}(h:(qp q).1≠[])(f:q=[46]->digB (atS x 0)=false):qp (q++x)=((qp q).1++x,(qp q).2)/\dotP (q++x)=dotP q:=by
 unfold qp dotP;unfold qp at h;cases q with
 |nil=>exact absurd rfl h
 |cons c r=>
  have g:(atS ((c::r)++x) 0==46&&digB (atS ((c::r)++x) 1))=(atS (c::r) 0==46&&digB (atS (c::r) 1)):=by
   show(c==46&&digB (atS (r++x) 0))=(c==46&&digB (atS r 0));cases r with
   |nil=>
    cases a:c==46 with
    |false=>rfl
    |true=> rw[Ob]at a;subst a;show(true&&digB (atS x 0))=(true&&digB (atS [] 0));rw[f rfl];rfl
   |cons d t=>rfl
  rw[g];cases e:(atS (c::r) 0==46&&digB (atS (c::r) 1))with
  |false=>grind
  |true=>
   rw[e,Ka rfl]at h;simp only[Yd];rw[show((c::r)++x).drop 1=r++x from rfl,show(c::r).drop 1=r from rfl];have b:past digB r≠[]:=h;rw[mo x b,az x b]
   grind
theorem zEN{w x:Str}(hw:w≠[])(h: ∀r,expS w=some r->r≠[])(hn:expS w=none->expS (w++x)=none):
  expS (w++x)=(expS w).map (· ++x)/\expP (w++x)=expP w:=by
 have hP: ∀q:Str,expP q=if(expS q).isSome then some (atS q 0,sgOf (q.drop 1),(unsign (q.drop 1)).takeWhile digB)else none:=by
  intro q;unfold expP expS;cases atS q 0==101||atS q 0==69 with
  |false=>rfl
  |true=>
   grind
 cases he:expS w with
 |none=>
  grind
 |some r=>
  have hr:=h r he;cases w with
  |nil=>grind
  |cons c t=>
   have he':=he;unfold expS at he';cases h1:atS (c::t) 0==101||atS (c::t) 0==69 with
   |false=>grind
   |true=>
    rw[h1,Ka rfl]at he';cases h2:digB (atS (unsign ((c::t).drop 1)) 0)with
    |false=>grind
    |true=>
     rw[h2,Ka rfl]at he';have hrr:past digB (unsign t)=r:=by injection he'
     have ht:t≠[]:=by rintro rfl;exact absurd (show digB (atS (unsign []) 0)=true from h2) (by decide)
     obtain⟨u1,u2⟩:=WH x ht;have hun:unsign t≠[]:=by intro e;rw[show(c::t).drop 1=t from rfl,e]at h2;exact absurd h2 (by decide)
     have hexp:expS ((c::t)++x)=some (r++x):=by unfold expS;rw[show atS ((c::t)++x) 0=atS (c::t) 0 from rfl,h1,Ka rfl,show((c::t)++x).drop 1=t++x from rfl,u1];have:atS (unsign t++x) 0=atS (unsign t) 0:=rF x (Vg.2 hun);rw[this,show digB (atS (unsign t) 0)=true from h2,Ka rfl,mo x (by grind),hrr]
     refine⟨by rw[hexp];rfl,?_⟩;rw[hP,hP,hexp,he];simp only[Option.isSome_some,Yd];rw[show((c::t)++x).drop 1=t++x from rfl,show(c::t).drop 1=t from rfl,u1,u2,az x (by grind)];rfl
theorem OB(q:Str):ZG q=(match expS (qp (Ng q)).1 with|some r=>(r,false)|none=>qp (Ng q)):=rfl
theorem zFB{q x:Str}(h:(ZG q).1≠[])(j:Ng q=[46]->digB (atS x 0)=false)(l:expS (qp (Ng q)).1=none->expS ((qp (Ng q)).1++x)=none):
  ZG (q++x)=((ZG q).1++x,(ZG q).2)/\numP (q++x)=numP q:=by
 rw[OB]at h;have a: ∀r,expS (qp (Ng q)).1=some r->r≠[]:=by intro r p;rw[p]at h;exact h
 have b:(qp (Ng q)).1≠[]:=by intro e;rw[e,show expS []=none from rfl]at h;exact h e
 have c:Ng q≠[]:=by intro e;rw[e]at b;exact b rfl
 have n:q≠[]:=by rintro rfl;exact c rfl
 obtain⟨d,k⟩:=WH x n;have f:Ng (q++x)=Ng q++x:=by unfold Ng;rw[d];exact mo x c
 obtain⟨i,m⟩:=zBL b j;obtain⟨s,o⟩:=zEN b a l;have g: ∀z:Str,numP z=⟨sgOf z,(unsign z).takeWhile digB,dotP (Ng z),expP (qp (Ng z)).1⟩:=fun z=>rfl;constructor
 ·rw[OB,OB,f,i]
  grind
 ·rw[g,g,k,d,az x c,f,i,m,o]
def brS(c:UInt8)(r:Str):Nat:=
 if spB c then 0
 else if c==34||c==39 then 1
 else if c==35&&(letB (atS r 0)||escS r)then 2
 else if nbS (c::r)then 3
 else if [45,45,62].isPrefixOf (c::r)then 4
 else if [60,33,45,45].isPrefixOf (c::r)then 5
 else if c==64&&nmS r then 6
 else if nmS (c::r)then 7
 else if Cg c==0 then 8
 else 9
def nxB:Nat->UInt8->Str->zk×Str
 |0,c,r=>(Sg 13,past spB (c::r))
 |1,c,r=>(Wj (Zz c r).1,(Zz c r).2)
 |2,_,r=>(⟨4,(Zg r).1,0,[],nmS r⟩,(Zg r).2)
 |3,c,r=>qw (c::r)
 |4,c,r=>(Sg 15,(c::r).drop 3)
 |5,c,r=>(Sg 14,(c::r).drop 4)
 |6,_,r=>(⟨3,(Zg r).1,0,[],false⟩,(Zg r).2)
 |7,c,r=>Jg (c::r)
 |8,c,r=>(⟨9,[c],0,[],false⟩,r)
 |_+9,c,r=>(Sg (Cg c),r)
theorem YJ(c:UInt8)(r:Str):nxB 0 c r=(Sg 13,past spB (c::r)):=by rw[nxB]
theorem yD(c:UInt8)(r:Str):nxB 1 c r=(Wj (Zz c r).1,(Zz c r).2):=by rw[nxB]
theorem XJ(c:UInt8)(r:Str):nxB 2 c r=(⟨4,(Zg r).1,0,[],nmS r⟩,(Zg r).2):=by rw[nxB]
theorem Wy(c:UInt8)(r:Str):nxB 3 c r=qw (c::r):=by rw[nxB]
theorem uR(c:UInt8)(r:Str):nxB 4 c r=(Sg 15,(c::r).drop 3):=by rw[nxB]
theorem rR(c:UInt8)(r:Str):nxB 5 c r=(Sg 14,(c::r).drop 4):=by rw[nxB]
theorem xD(c:UInt8)(r:Str):nxB 6 c r=(⟨3,(Zg r).1,0,[],false⟩,(Zg r).2):=by rw[nxB]
theorem Vy(c:UInt8)(r:Str):nxB 7 c r=Jg (c::r):=by rw[nxB]
theorem pR(c:UInt8)(r:Str):nxB 8 c r=(⟨9,[c],0,[],false⟩,r):=by rw[nxB]
theorem wD(c:UInt8)(r:Str):nxB 9 c r=(Sg (Cg c),r):=rfl
theorem Co(c:UInt8)(r:Str):QH (c::r)=nxB (brS c r) c r:=by
 rw[rH];unfold brS;split
 ·rfl
 ·split
  ·rfl
  ·split
   ·rfl
   ·split
    ·rfl
    ·split
     ·rfl
     ·split
      ·rfl
      ·split
       ·rfl
       ·split
        ·rfl
        ·split<;>rfl
theorem br_4{c:UInt8}{r:Str}:brS c r=4->[45,45,62].isPrefixOf (c::r)=true:=by unfold brS;grind
theorem br_5{c:UInt8}{r:Str}:brS c r=5->[60,33,45,45].isPrefixOf (c::r)=true:=by unfold brS;grind
theorem br_9{c:UInt8}{r:Str}:brS c r=9-> ¬(Cg c==0)=true:=by unfold brS;grind
theorem WS(c:UInt8)(r:Str):brS c r<=9:=by unfold brS;grind
def brK(k:Int):Nat:=
 if k=13 then 0 else if k=5\/k=6 then 1 else if k=4 then 2 else if k=10\/k=11\/k=12 then 3 else if k=15 then 4 else if k=14 then 5 else if k=3 then 6
 else if k=1\/k=2\/k=7\/k=8 then 7 else if k=9 then 8 else 9
theorem zCS(c:UInt8):Cg c=0\/(16<=Cg c/\Cg c<=24):=by
 have: ∀n:Nat,n<256->Cg (UInt8.ofNat n)=0\/(16<=Cg (UInt8.ofNat n)/\Cg (UInt8.ofNat n)<=24):=by decide+kernel
 have:=this c.toNat (Uc c);simp_all
theorem zDi(o:Option Str):(Wj o).kind=5\/(Wj o).kind=6:=by cases o<;>simp[Wj]
theorem zDC(o:Option Str):(Uk o).kind=7\/(Uk o).kind=8:=by cases o<;>simp[Uk]
theorem XW(l:Str):(Jg l).1.kind=1\/(Jg l).1.kind=2\/(Jg l).1.kind=7\/(Jg l).1.kind=8:=by
 unfold Jg;split
 ·split
  ·exact .inr (.inr (zDC _))
  grind
 ·exact .inl rfl
theorem vY(l:Str):(qw l).1.kind=10\/(qw l).1.kind=11\/(qw l).1.kind=12:=by
 unfold qw
 grind
theorem yR{i:Nat}(h:i<=9):i=0\/i=1\/i=2\/i=3\/i=4\/i=5\/i=6\/i=7\/i=8\/i=9:=by omega
theorem zEt(c:UInt8)(r:Str):brK (QH (c::r)).1.kind=brS c r:=by
 rw[Co];rcases yR (WS c r)with h|h|h|h|h|h|h|h|h|h
 ·rw[h];rfl
 ·rw[h,yD];show brK (Wj (Zz c r).1).kind=1;rcases zDi (Zz c r).1 with h|h<;>rw[h]<;>rfl
 ·rw[h];rfl
 ·rw[h,Wy];rcases vY (c::r)with h|h|h<;>rw[h]<;>rfl
 ·rw[h];rfl
 ·rw[h];rfl
 ·rw[h];rfl
 ·rw[h,Vy];rcases XW (c::r)with h|h|h|h<;>rw[h]<;>rfl
 ·rw[h];rfl
 ·have b:=zCS c;have a:=br_9 h;rw[Ob]at a;rw[h,wD];show brK (Cg c)=9;unfold brK
  repeat rw[Ia (by omega)]
theorem WV{q x:Str}(h:(Jg q).2≠[]):Jg (q++x)=((Jg q).1,(Jg q).2++x):=by
 have g:(Zg q).2≠[]:=by intro e;unfold Jg at h;rw[e,Ia (by decide)]at h;exact h rfl
 have e:=Vs x g;unfold Jg;unfold Jg at h;rw[e];simp only;have i:atS ((Zg q).2++x) 0=atS (Zg q).2 0:=rF x (Vg.2 g);rw[i];cases b:atS (Zg q).2 0==40 with
 |false=>rfl
 |true=>
  rw[b,Ka rfl]at h;simp only[Yd];cases f:(Zg q).2 with
  |nil=>grind
  |cons c r=>
   rw[f]at h;rw[show((c::r)++x).drop 1=r++x from rfl];rw[show(c::r).drop 1=r from rfl]at h ⊢;cases j:lowS (Zg q).1==[117,114,108]with
   |false=>
    grind
   |true=>
    rw[j,Kb]at h;simp only[Kb];cases a:past spB r with
    |nil=>
     rw[a,Ka (by decide),Po]at h
     grind
    |cons d t=>
     rw[mo x (by rw[a];simp),a];rw[a]at h;rw[show atS ((d::t)++x) 0=atS (d::t) 0 from rfl];split
     ·rename_i k;rw[Ka k]at h;rw[UF x h]
     ·rfl
theorem iG{q x:Str}{n:Nat}(h:n<=q.length):(q++x).drop n=q.drop n++x:=Gg h
structure zyd (q x:Str):Prop where
 e:ZG (q++x)=((ZG q).1++x,(ZG q).2)
 p:numP (q++x)=numP q
 n:nmS ((ZG q).1++x)=nmS (ZG q).1
theorem jX{q x:Str}(a:zyd q x)(h:(qw q).2≠[]):qw (q++x)=((qw q).1,(qw q).2++x):=by
 have f:(ZG q).1≠[]:=by intro e;unfold qw at h;rw[e,Ia (by decide),Ia (by decide)]at h;exact h rfl
 have b:atS ((ZG q).1++x) 0=atS (ZG q).1 0:=rF x (Vg.2 f);unfold qw;unfold qw at h;rw[a.e,a.p];simp only[a.n,b];cases c:nmS (ZG q).1 with
 |true=> rw[c,Ka rfl]at h;simp only[Yd];rw[Vs x h]
 |false=>
  simp only[Rb,Sd];cases d:atS (ZG q).1 0==37 with
  |true=> simp_all
  |false=>grind
theorem zCX {c:UInt8} {r x:Str} (f:brS c (r++x)=brS c r) (h:(QH (c::r)).2≠[]) (e:brS c r=2->nmS (r++x)=nmS r)
  (b:brS c r=3->zyd (c::r) x):QH (c::(r++x))=((QH (c::r)).1,(QH (c::r)).2++x):=by
 rw[Co c (r++x),f];rw[Co]at h ⊢;rcases yR (WS c r)with a|a|a|a|a|a|a|a|a|a
 ·rw[a,YJ]at h;rw[a,YJ,YJ,show c::(r++x)=(c::r)++x from rfl,mo x h]
 ·rw[a,yD]at h;rw[a,yD,yD,aB x h]
 ·rw[a,XJ]at h;rw[a,XJ,XJ,Vs x h,e a]
 ·have g:=b a;rw[a,Wy]at h;rw[a,Wy,Wy,show c::(r++x)=(c::r)++x from rfl,jX g h]
 ·have d:=Mo (br_4 a);rw[a,uR,uR,show c::(r++x)=(c::r)++x from rfl,iG (show 3<=(c::r).length from d)]
 ·have d:=Mo (br_5 a);rw[a,rR,rR,show c::(r++x)=(c::r)++x from rfl,iG (show 4<=(c::r).length from d)]
 ·rw[a,xD]at h;rw[a,xD,xD,Vs x h]
 ·rw[a,Vy]at h;rw[a,Vy,Vy,show c::(r++x)=(c::r)++x from rfl,WV h]
 ·rw[a,pR,pR]
 ·rw[a,wD,wD]
theorem zBH{q:Str}(x:Str)(h:q≠[]):undot (q++x)=undot q++x:=by
 cases q with
 |nil=>grind
 |cons c r=> unfold undot;show(if c==46 then r++x else c::(r++x))=(if c==46 then r else c::r)++x;split<;>rfl
theorem nU{m:Str}: ∀{q:Str} (x:Str),m.length<=q.length->m.isPrefixOf (q++x)=m.isPrefixOf q:=by
 induction m with
 |nil=>grind
 |cons a m c=>
  intro q x h;cases q with
  |nil=>grind
  |cons b t=>
   grind
theorem zCs{w:Str}:expS w=none↔((atS w 0==101||atS w 0==69)&&digB (atS (unsign (w.drop 1)) 0))=false:=by
 unfold expS
 grind
theorem rV(q:Str):(qp q).1<:+q:=by
 unfold qp;split
 ·exact(Jl _ _).trans (De 1 q)
 grind
theorem zGI(q:Str):(ZG q).1<:+(qp (Ng q)).1:=by
 rw[OB];cases h:expS (qp (Ng q)).1 with
 |some r=>exact SK (Ce _) h
 |none=>grind
theorem iX(q:Str):(qw q).2<:+(ZG q).1:=by
 unfold qw;split
 ·exact Nl _
 ·split
  ·exact De 1 _
  grind
theorem MX{q:Str}(h:(qw q).2≠[]):(ZG q).1≠[]:=by intro e;have:=(iX q).length_le;simp_all
def run:Str->List zk->Str->Prop
 |q,[],R=>q=R
 |q,t::a,R=> ∃c r,cmtS q=c::r/\(QH (c::r)).1=t/\run (QH (c::r)).2 a R
theorem Jo: ∀{ts:List zk} {q R:Str},run q ts R->R<:+q
 |[],q,R,h=>by rw[run]at h;grind
 |t::ts,q,R,h=>by obtain⟨c,r,d,e,b⟩:=h;have a:=Uh q;rw[d]at a;exact(Jo b).trans ((Kl c r).trans ((Gd c r).trans a))
theorem KA: ∀{ts:List zk} {q R:Str},run q ts R->QS q=ts++QS R
 |[],q,R,h=>by rw[run]at h;subst h;rfl
 |t::ts,q,R,h=>by obtain⟨c,r,d,b,a⟩:=h;rw[Sm d,b,KA a];rfl
theorem uL: ∀{ts us:List zk} {q R S:Str},run q ts R->run R us S->run q (ts++us) S
 |[],us,q,R,S,h,a=>by rw[run]at h;subst h;exact a
 |t::ts,us,q,R,S,h,a=>by obtain⟨c,r,e,d,b⟩:=h;exact⟨c,r,e,d,uL b a⟩
theorem vK(x:Str): ∀{l r:Str},clsS l=some r->clsS (l++x)=some (r++x)
 |[],r,h=>by cases h
 |c::t,r,h=>by
  rw[clsS]at h;rw[Db,clsS];cases t with
  |nil=>
   cases a:c==42&&atS ([]:Str) 0==47 with
   |true=>rw[Fa]at a;exact absurd a.2 (by decide)
   |false=>rw[a,Ia (by decide)]at h;cases h
  |cons d u=>
   rw[show atS ((d::u)++x) 0=atS (d::u) 0 from rfl];split
   ·grind
   ·rename_i a;rw[Ia a]at h;exact vK x h
theorem uK{q x:Str}(h:cmtS q≠[])(a:([47,42]:Str).isPrefixOf (cmtS q++x)=false):cmtS (q++x)=cmtS q++x:=by
 rw[Eo q]at h a ⊢;split at h
 ·rename_i b;have c:=Mo b;rw[show([47,42]:Str).length=2 from rfl]at c;rw[Ka b]at a ⊢;cases d:clsS (q.drop 2)with
  |none=>grind
  |some p=>
   rw[d]at h a;simp only at h a ⊢;rw[Eo (q++x),nU x (by exact c),b,Ka rfl,iG c,vK x d];simp only;have e:p.length<q.length:=by have e:=(Mm _ d).2;rw[Vb]at e;omega
   exact uK h a
 ·rename_i b;rw[Ia b]at a ⊢;exact mi a
termination_by q.length
decreasing_by omega
theorem zDh{c d:UInt8}(t x:Str):([47,42]:Str).isPrefixOf ((c::d::t)++x)=([47,42]:Str).isPrefixOf (c::d::t):=nU x (by grind)
def encB(p:UInt8->Bool):Str->Str
 |[]=>[]
 |c::r=>(bif p c then escC c else [c])++encB p r
def quoB(c:UInt8):Bool:=c==10||c==12||c==13||c==34||c==92
def urB(c:UInt8):Bool:=decide (c.toNat<=32)||c==34||c==39||c==40||c==41||c==92||c==127
def zIa:Str->Bool
 |[]=>false
 |c::r=>(c==101||c==69)&&numS r&& !(List.isPrefixOf [45,45] r)
def zIr:Str->Str
 |[]=>[]
 |c::r=>bif zIa (c::r)then escC c++encW false 0 r else Cq (c::r)
def DJ(k:Int):Str:=
 bif k==13 then [32]else bif k==14 then [60,33,45,45]else bif k==15 then [45,45,62]else bif k==16 then [58]else bif k==17 then [59]else bif k==18 then [44]else
 bif k==19 then [91]else bif k==20 then [93]else bif k==21 then [40]else bif k==22 then [41]else bif k==23 then [123]else [125]
def txS(t:zk):Str:=
 bif t.kind==1 then Cq t.text
 else bif t.kind==2 then Cq t.text++[40]
 else bif t.kind==3 then 64::Cq t.text
 else bif t.kind==4 then 35::(bif t.flag then Cq t.text else encW false 0 t.text)
 else bif t.kind==5 then 34::(encB quoB t.text++[34])
 else bif t.kind==7 then [117,114,108,40]++(encB urB t.text++[41])
 else bif t.kind==9 then t.text
 else bif t.kind==10 then numT t.num (!t.flag)
 else bif t.kind==11 then numT t.num false++[37]
 else bif t.kind==12 then numT t.num (!t.flag)++zIr t.unit
 else DJ t.kind
end Go.Lv.VT
