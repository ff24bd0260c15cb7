/- One token: what the scanner's function computes. -/
import Derived.Test.YtbgmaekmfjhfoaaGreatDoorXe
import Derived.Test.YtbgmaekmfjhfoaaGreatDoorXa
import Derived.Test.YtbgmaekmfjhfoaaGreatDoorTy
set_option linter.unusedSimpArgs false
set_option linter.unusedVariables false
namespace Go.Lv.VT
set_option maxRecDepth 100000
theorem sF {S X R:Type} {step:S->Option (LO S X R)} {k:X->Option R} (Inv:S->Prop) (b:S->Nat) (y:R)
  (h: ∀s,Inv s->(∃s',step s=some (.again s')/\Inv s'/\b s'<b s)\/(∃x,step s=some (.out x)/\k x=some y)\/step s=some (.ret y)) {s:S} (d:Inv s):Zl step s k=some y:=by
 have c: ∀(m:Nat) (s:S),b s<m->Inv s-> ∃r:LX X R,qa step m s=some r/\r.go k=some y:=by
  intro m
  induction m with
  |zero=>intro s h;omega
  |succ m i=>
   intro s f d;simp only[qa];rcases h s d with⟨s',a,e,g⟩|⟨x,a,e⟩|a
   ·grind
   ·simp_all
   simp_all
 obtain⟨r,a,e⟩:=c (b s+1) s (by omega) d;rw[qU (oh a)];exact e
theorem yM(p:UInt8->Bool): ∀l:Str,past p l=l.dropWhile p
 |[]=>rfl
 |c::r=>by
  rw[past,Nc];cases h:p c with
  |true=>exact yM p r
  |false=>rfl
theorem yE(p:UInt8->Bool)(l:Str):l.takeWhile p++past p l=l:=by rw[yM,List.takeWhile_append_dropWhile]
theorem bE(p:UInt8->Bool): ∀l:Str,(l.takeWhile p).all p=true
 |[]=>rfl
 |c::r=>by simp_all
def sgOf(l:Str):Str:=if Vh (atS l 0)then [atS l 0]else []
theorem aR(l:Str):sgOf l++unsign l=l:=by
 unfold sgOf unsign;cases h:Vh (atS l 0)with
 |false=>rfl
 |true=>
  rw[Ka rfl,Ka rfl];cases l with
  |nil=>exact absurd h (by decide)
  |cons c r=>rfl
theorem bR(l:Str):sgB (sgOf l)=true:=by
 unfold sgOf;cases h:Vh (atS l 0)with
 |false=>rfl
 |true=> rw[Ka rfl];unfold Vh at h;rw[Yd,Ob,Ob]at h;rcases h with h|h<;>rw[h]<;>rfl
def dotP(q:Str):Option Str:=if atS q 0==46&&digB (atS q 1)then some ((q.drop 1).takeWhile digB)else none
def expP(q:Str):Option (UInt8×Str×Str):=
 if(atS q 0==101||atS q 0==69)&&digB (atS (unsign (q.drop 1)) 0)then some (atS q 0,sgOf (q.drop 1),(unsign (q.drop 1)).takeWhile digB)else none
def numP(l:Str):NumP:=⟨sgOf l,(unsign l).takeWhile digB,dotP (past digB (unsign l)),expP (qm (past digB (unsign l))).1⟩
theorem nU(q:Str):dotS (dotP q)++(qm q).1=q/\(qm q).2=(dotP q).isNone:=by
 unfold dotP qm;cases h:atS q 0==46&&digB (atS q 1)with
 |false=>exact⟨rfl,rfl⟩
 |true=>
  rw[Ka rfl,Ka rfl];cases q with
  |nil=>exact absurd h (by decide)
  |cons c r=> rw[Ea,Ob]at h;refine⟨?_,rfl⟩;show(46::List.takeWhile digB r)++past digB r=c::r;rw[Bb,yE,show c=46 from h.1]
theorem zBI(q:Str):expT (expP q)++(match expS q with|some r=>r|none=>q)=q:=by
 unfold expP expS;cases a:atS q 0==101||atS q 0==69 with
 |false=>rfl
 |true=>
  cases b:digB (atS (unsign (q.drop 1)) 0)with
  |false=>rfl
  |true=>
   simp only[Bool.and_self,Vd];cases q with
   |nil=>exact absurd a (by decide)
   |cons c r=> show(c::(sgOf r++List.takeWhile digB (unsign r)))++past digB (unsign r)=c::r;rw[Bb,ja,yE,aR]
theorem TM(l:Str):(numP l).txt++(ZB l).1=l:=by
 have c:=(nU (past digB (unsign l))).1;have b:=zBI (qm (past digB (unsign l))).1;have a:(ZB l).1=(match expS (qm (past digB (unsign l))).1 with|some r=>r|none=>(qm (past digB (unsign l))).1):=by unfold ZB;simp only;cases expS (qm (past digB (unsign l))).1<;>rfl
 rw[a];show(sgOf l++(List.takeWhile digB (unsign l)++(dotS (dotP (past digB (unsign l)))++expT (expP (qm (past digB (unsign l))).1))))++_=l;rw[ja,ja,ja,b,c,yE,aR]
theorem IJ{p:UInt8->Bool}{q:Str}(h:p (atS q 0)=true)(a:p 0=false):(q.takeWhile p).isEmpty=false:=by
 cases q with
 |nil=>rw[show atS [] 0=0 from rfl,a]at h;cases h
 |cons c r=>rw[Ef,Ka (show p c=true from h)];rfl
theorem yS{l:Str}(h:nbS l=true):(numP l).ok=true:=by
 unfold NumP.ok numP;simp only[bR,bE,Kb,Ea];refine⟨?_,?_⟩
 ·unfold dotP;cases a:atS (past digB (unsign l)) 0==46&&digB (atS (past digB (unsign l)) 1)with
  |true=> rw[Ka rfl];simp only[bE,Ic];rw[Ea]at a;rw[IJ (p:=digB) (by rw[di];exact a.2) (by decide)];rfl
  |false=>
   rw[Ha (by decide)];simp only;cases b:digB (atS (unsign l) 0)with
   |true=>rw[IJ b (by decide)];rfl
   |false=>
    exfalso;have f:past digB (unsign l)=unsign l:=by
     cases e:unsign l with
     |nil=>rfl
     |cons c r=>rw[e]at b;rw[past,Ha (by rw[show digB c=false from b];decide)]
    rw[f]at a;unfold nbS undot at h;cases d:atS (unsign l) 0==46 with
    |false=>grind
    |true=>
     rw[d,Ka rfl,di]at h
     grind
 ·unfold expP;cases a:(atS (qm (past digB (unsign l))).1 0==101||atS (qm (past digB (unsign l))).1 0==69)&&digB (atS (unsign ((qm (past digB (unsign l))).1.drop 1)) 0)with
  |false=>rfl
  |true=> rw[Ka rfl];rw[Ea]at a;simp only[a.1,bR,bE,Ic,Kb];rw[IJ a.2 (by decide)];rfl
theorem zG3{n:NumP}(h:n.ok=true):n.txt≠[]:=by
 obtain⟨c,D,F,X⟩:=n;unfold NumP.ok at h;simp only[Ea]at h;intro e;unfold NumP.txt at e;simp only[List.append_eq_nil_iff]at e;obtain⟨g,b,a,d⟩:=e;subst b;cases F with
 |none=>grind
 |some f=>cases a
theorem oO{c:UInt8}{r:Str}(h:nbS (c::r)=true):(ZB (c::r)).1<:+r:=by
 have e:=TM (c::r);have b:=zG3 (yS h);cases a:(numP (c::r)).txt with
 |nil=>grind
 |cons d t=>
  grind
def qo(l:Str):zk×Str:=
 if nmS (ZB l).1 then(⟨12,[],(numP l).val,(Zc (ZB l).1).1,(ZB l).2⟩,(Zc (ZB l).1).2)
 else if atS (ZB l).1 0==37 then(⟨11,[],(numP l).val,[],false⟩,(ZB l).1.drop 1)
 else(⟨10,[],(numP l).val,[],(ZB l).2⟩,(ZB l).1)
theorem zD0{s l t e:Str}(a:l<:+s)(h:t++e=l):List.drop (beh s l) (List.take (beh s e) s)=t:=by
 obtain⟨p,rfl⟩:=a;subst h;have c:beh (p++(t++e)) (t++e)=p.length:=by unfold beh;simp only[Ia];omega
 have b:beh (p++(t++e)) e=(p++t).length:=by unfold beh;simp only[Ia];omega
 grind
theorem zCi{s l:Str}(hs:s.length<=40000)(hl:l<:+s)(h:nbS l=true):qR (sr s l)=some ((qo l).1,sr s (qo l).2):=by
 have hsb:s.length<=big:=by unfold big;omega
 have he:=AX hl;have hle:=hl.length_le;have hsp:=TM l;have hel:(ZB l).1.length<=l.length:=by have:=congrArg List.length hsp;rw[Ia]at this;omega
 have htl:(numP l).txt.length<=40000:=by have:=congrArg List.length hsp;rw[Ia]at this;omega
 unfold qR;rw[zBJ hsb hl];simp only[ze,Aa];have h1:(beh s l:Int)<=(beh s (ZB l).1:Int):=by unfold beh;omega
 have h2:=Yk s (ZB l).1;rw[ZN (by simp_all),Ib,Ib,zD0 hl hsp,G5 (yS h) htl];simp only[Aa];rw[show Zq (0,sr s (ZB l).1)=some (nmS (ZB l).1)from kI (k:=0) hsb he (by omega)];simp only[Aa];unfold qo;cases hn:nmS (ZB l).1 with
 |true=> rw[Ca,XC hsb he,Ka rfl];rfl
 |false=>
  rw[Ba,ig hsb he,Ha (by decide)];simp only[Aa,zHm];cases h37:atS (ZB l).1 0==37 with
  |true=> rw[Ca,zG,Xt hsb he (by grind),Ka rfl]
  |false=>simp_all
theorem TE(l:Str):(Zc l).1.length<=4*l.length:=by
 match l with
 |[]=>rw[Ns];grind
 |c::r=>
  rw[Bn];split
  ·have:=TE r
   grind
  ·split
   ·have b:=Zx r;have a:=jv r;have:=TE (zK r).2
    grind
   grind
termination_by l.length
decreasing_by
 all_goals grind
def Jg(l:Str):zk×Str:=
 if atS (Zc l).2 0==40 then
  (if(lowS (Zc l).1==[117,114,108])&& !(atS (past spB ((Zc l).2.drop 1)) 0==34||atS (past spB ((Zc l).2.drop 1)) 0==39)
  then(Sk (urlS (past spB ((Zc l).2.drop 1))).1,(urlS (past spB ((Zc l).2.drop 1))).2)
  else(⟨2,(Zc l).1,0,[],false⟩,(Zc l).2.drop 1))
 else(⟨1,(Zc l).1,0,[],false⟩,(Zc l).2)
theorem zEi{s q:Str}(m:s.length<=40000)(g:q<:+s):qO (sr s q)=some ((Jg q).1,sr s (Jg q).2):=by
 have a:s.length<=big:=by unfold big;omega
 have e:(Zc q).2<:+s:=(Kl q).trans g;have l:=TE q;have i:=g.length_le;have f:(Zc q).1.length<=big:=by unfold big;omega
 unfold qO;rw[XC a g];simp only[ze,Aa,ig a e];unfold bne Jg;rw[zHn];cases d:atS (Zc q).2 0==40 with
 |false=>rfl
 |true=>
  have c:atS (Zc q).2 0≠0:=by rw[Ob.1 d];decide
  rw[Eb,Ba,Ka rfl,Xt a e c,dm f (by decide),bJ];simp only[Aa];have b:=Gl e 1;cases n:lowS (Zc q).1==[117,114,108]with
  |false=>rfl
  |true=>
   rw[Ca,Ex a b,Kb];have k:=Po spB b;simp only[Aa,ig a k];rw[nR,mR];cases j:atS (past spB ((Zc q).2.drop 1)) 0==34 with
   |true=>rfl
   |false=>
    cases h:atS (past spB ((Zc q).2.drop 1)) 0==39 with
    |true=>rfl
    |false=> rw[urlR a b];rfl
theorem zCb{c:UInt8}{r:Str}(h:letB c=true\/escS (c::r)=true):(Zc (c::r)).2<:+r:=by
 rw[Bn];split
 ·exact Kl r
 ·rename_i a;rw[Ka (h.resolve_left a)];exact(Kl _).trans (qK r)
theorem zCf{c:UInt8}{r:Str}(h:nmS (c::r)=true):letB c=true\/escS (c::r)=true:=by
 unfold nmS at h;cases a:atS (c::r) 0==45 with
 |true=> left;rw[show c=45 from Ob.1 a];decide
 |false=>
  rw[a,Ha (by decide),Yd]at h;rcases h with h|h
  ·left;unfold letB;rw[show fstB c=true from h];rfl
  ·exact .inr h
theorem TV{c:UInt8}{r:Str}(h:nmS (c::r)=true):(Jg (c::r)).2<:+r:=by
 have b:=zCb (zCf h);have a:(Zc (c::r)).2.drop 1<:+r:=(Ae 1 _).trans b;unfold Jg;split
 ·split
  ·exact(Xq _).trans ((Hl spB _).trans a)
  ·exact a
 ·exact b
def nxU(c:UInt8)(r:Str):zk×Str:=
  if nmS (c::r)then Jg (c::r)
  else if Ag c==0 then(⟨9,[c],0,[],false⟩,r)
  else(Og (Ag c),r)
def nxT(c:UInt8)(r:Str):zk×Str:=
  if nbS (c::r)then qo (c::r)
  else if [45,45,62].isPrefixOf (c::r)then(Og 15,(c::r).drop 3)
  else if [60,33,45,45].isPrefixOf (c::r)then(Og 14,(c::r).drop 4)
  else if c==64&&nmS r then(⟨3,(Zc r).1,0,[],false⟩,(Zc r).2)
  else nxU c r
def QO:Str->zk×Str
 |[]=>(⟨0,[],0,[],false⟩,[])
 |c::r=>
  if spB c then(Og 13,past spB (c::r))
  else if c==34||c==39 then(Rj (Zv c r).1,(Zv c r).2)
  else if c==35&&(letB (atS r 0)||escS r)then(⟨4,(Zc r).1,0,[],nmS r⟩,(Zc r).2)
  else nxT c r
theorem oG(c:UInt8)(r:Str):QO (c::r)=
  if spB c then(Og 13,past spB (c::r))
  else if c==34||c==39 then(Rj (Zv c r).1,(Zv c r).2)
  else if c==35&&(letB (atS r 0)||escS r)then(⟨4,(Zc r).1,0,[],nmS r⟩,(Zc r).2)
  else if nbS (c::r)then qo (c::r)
  else if [45,45,62].isPrefixOf (c::r)then(Og 15,(c::r).drop 3)
  else if [60,33,45,45].isPrefixOf (c::r)then(Og 14,(c::r).drop 4)
  else if c==64&&nmS r then(⟨3,(Zc r).1,0,[],false⟩,(Zc r).2)
  else if nmS (c::r)then Jg (c::r)
  else if Ag c==0 then(⟨9,[c],0,[],false⟩,r)
  else(Og (Ag c),r):=rfl
theorem bX{c:UInt8}{r:Str}(h:nbS (c::r)=true):(qo (c::r)).2<:+r:=by
 have a:=oO h;unfold qo;split
 ·exact(Kl _).trans a
 ·split
  ·exact(Ae 1 _).trans a
  ·exact a
theorem Il(c:UInt8)(r:Str):(QO (c::r)).2<:+r:=by
 rw[oG];split
 ·rename_i h;show past spB (c::r)<:+r;rw[past,Ka h];exact Hl spB r
 ·split
  ·exact Gs c r
  ·split
   ·exact Kl r
   ·split
    ·rename_i h;exact bX h
    ·split
     ·exact Ae 2 r
     ·split
      ·exact Ae 3 r
      ·split
       ·exact Kl r
       ·split
        ·rename_i h;exact TV h
        grind
theorem zB7(c:UInt8):decide (Lib.indexByte [58,59,44,91,93,40,41,123,125] c>=0)= !(Ag c==0)/\(Ag c≠0->wu8 (16+wu8 (Lib.indexByte [58,59,44,91,93,40,41,123,125] c))=Ag c):=by
 have: ∀n:Nat,n<256->decide (Lib.indexByte [58,59,44,91,93,40,41,123,125] (UInt8.ofNat n)>=0)= !(Ag (UInt8.ofNat n)==0)/\(Ag (UInt8.ofNat n)≠0->wu8 (16+wu8 (Lib.indexByte [58,59,44,91,93,40,41,123,125] (UInt8.ofNat n)))=Ag (UInt8.ofNat n)):=by decide+kernel
 have:=this c.toNat (Uc c);simp_all
theorem Jo{m q:Str}(h:m.isPrefixOf q=true):m.length<=q.length:=by
 grind
def Pt(s:Str)(X:zk×Str):Option (zk×zb):=some (X.1,sr s X.2)
theorem PR{s q:Str}{c:UInt8}{r:Str}(y:s.length<=40000)(b:q<:+s)(D:q=c::r):qB (sr s q)=some ((QO q).1,sr s (QO q).2):=by
 subst D;have a:s.length<=big:=by unfold big;omega
 have A:=Ki b;have J:(c::r).drop 1=r:=rfl;rw[show QO (c::r)=if spB c then(Og 13,past spB (c::r))else if c==34||c==39 then(Rj (Zv c r).1,(Zv c r).2)else if c==35&&(letB (atS r 0)||escS r)then(⟨4,(Zc r).1,0,[],nmS r⟩,(Zc r).2)else nxT c r from rfl];unfold qB;simp only[ze,ig a b,Aa];rw[ZN CS];simp only[lu,Aa,nR,mR,zHl,zHo,ED b,Q8,show atS (c::r) 0=c from rfl,YI];cases Q:spB c with
 |true=> rw[Ca,Ex a b,Ka rfl];rfl
 |false=>
  rw[Ba,Ha (by decide)];cases H:c==34||c==39 with
  |true=> rw[Ca,zFa a b,Ka rfl];rfl
  |false=>
   rw[Ba,Ha (by decide)];have p:Zo (1,sr s (c::r))=some (escS r):=Gz (k:=1) a b (by omega);have g:Zq (1,sr s (c::r))=some (nmS r):=kI (k:=1) a b (by omega);have l:Zq (0,sr s (c::r))=some (nmS (c::r)):=kI (k:=0) a b (by omega);have u:(⟨s,w64 ((beh s (c::r):Int)+1)⟩:zb)=sr s r:=by rw[Jh a b]
   rw[u];have o:((qE (sr s (c::r))).bind fun w=>
    bif w then
     (qR (sr s (c::r))).bind fun j=>
     some (j.1,j.2)
    else
     (some ([45,45,62].isPrefixOf (c::r))).bind fun v=>
     bif v then
      some ((⟨15,[],0,[],false⟩:zk),(⟨s,w64 ((beh s (c::r):Int)+3)⟩:zb))
     else
      (some ([60,33,45,45].isPrefixOf (c::r))).bind fun t=>
      bif t then
       some ((⟨14,[],0,[],false⟩:zk),(⟨s,w64 ((beh s (c::r):Int)+4)⟩:zb))
      else
       (zI (c==64) (Zq (1,sr s (c::r))) (default:Bool)).bind fun h=>
       bif bif c==64 then h else false then
        (ZL (sr s r)).bind fun f=>
        some ((⟨3,f.1,0,[],false⟩:zk),f.2)
       else
        (Zq (0,sr s (c::r))).bind fun i=>
        bif i then
         (qO (sr s (c::r))).bind fun d=>
         some (d.1,d.2)
        else
         (strings_IndexByte ([58,59,44,91,93,40,41,123,125],wu8 (pk (c::r) 0))).bind fun e=>
         bif decide (e>=0)then
          some ((⟨wu8 (16+wu8 e),[],0,[],false⟩:zk),sr s r)
         else
          need (decide (1<=((c::r).length:Int)))<|
          some ((⟨9,List.take 1 (c::r),0,[],false⟩:zk),sr s r))=
    Pt s (nxT c r):=by
    unfold nxT;simp only[zEO a b,Aa];cases x:nbS (c::r)with
    |true=> rw[Ca,zCi y b x,Ka rfl];rfl
    |false=>
     rw[Ba,Ha (by decide)];cases O:[45,45,62].isPrefixOf (c::r)with
     |true=> rw[Ca,Ka rfl,show(3:Int)=((3:Nat):Int)from rfl,WC (n:=3) a b (Jo O)];rfl
     |false=>
      rw[Ba,Ha (by decide)];cases L:[60,33,45,45].isPrefixOf (c::r)with
      |true=> rw[Ca,Ka rfl,show(4:Int)=((4:Nat):Int)from rfl,WC (n:=4) a b (Jo L)];rfl
      |false=>
       rw[Ba,Ha (by decide),g,l];have m: ∀z:Bool,((some z).bind fun h=>bif h then
        (ZL (sr s r)).bind fun f=>
        some ((⟨3,f.1,0,[],false⟩:zk),f.2)
       else
        (some (nmS (c::r))).bind fun i=>
        bif i then
         (qO (sr s (c::r))).bind fun d=>
         some (d.1,d.2)
        else
         (strings_IndexByte ([58,59,44,91,93,40,41,123,125],wu8 (pk (c::r) 0))).bind fun e=>
         bif decide (e>=0)then
          some ((⟨wu8 (16+wu8 e),[],0,[],false⟩:zk),sr s r)
         else
          need (decide (1<=((c::r).length:Int)))<|
          some ((⟨9,List.take 1 (c::r),0,[],false⟩:zk),sr s r))=Pt s (if z then(⟨3,(Zc r).1,0,[],false⟩,(Zc r).2)else nxU c r):=by
        intro z;unfold nxU;simp only[Aa];cases z with
        |true=> rw[Ca,XC a A];rfl
        |false=>
         rw[Ba,Ha (by decide)];cases G:nmS (c::r)with
         |true=>rw[Ca,zEi y b];rfl
         |false=>
          rw[Ba,Ha (by decide),Ko,Gt];have R:(wu8 (c.toNat:Int)).toNat.toUInt8=c:=by rw[gu,mf (Uc c),Ib];exact Re
          rw[R];obtain⟨K,S⟩:=zB7 c;simp only[Aa,K];cases M:Ag c==0 with
          |true=> rw[Eb,Ba,ZN (Fa (by grind))];rfl
          |false=> rw[Xa,Ca,S (Ga.1 M)];rfl
       cases N:c==64 with
       |false=> simp_all
       |true=> have:=m (nmS r);simp_all
   cases C:c==35 with
   |false=> simp only[qI,Aa,Ba,Jd,Gd];exact o
   |true=>
    simp only[Zk,Aa,Ca,Ic,Kb,Nu a b,nK];have E:atS (c::r) 1=atS r 0:=rfl;rw[E,p];have F:(bif letB (atS r 0)||escS r then(Zq (1,sr s (c::r))).bind fun P=>(ZL (sr s r)).bind fun B=>some ((⟨4,B.1,0,[],P⟩:zk),B.2)else Pt s (nxT c r))=Pt s (if(letB (atS r 0)||escS r)then(⟨4,(Zc r).1,0,[],nmS r⟩,(Zc r).2)else nxT c r):=by
     cases letB (atS r 0)||escS r with
     |false=>rfl
     |true=>rw[Ca,g,XC a A];rfl
    show _=Pt s (if(letB (atS r 0)||escS r)then(⟨4,(Zc r).1,0,[],nmS r⟩,(Zc r).2)else nxT c r);rw[<-F];cases T:letB (atS r 0)with
    |true=>rfl
    |false=> simp_all
def Lf:Nat->List zk->Int->Nat->Option (List za×List zk)
 |0,_,_,_=>none
 |_+1,[],_,_=>some ([],[])
 |n+1,t::r,c,left=>
  if c≠0/\t.kind=c then some ([],r)
  else if Zb t.kind=0 then(Lf n r c left).map fun v=>(⟨t,[]⟩::v.1,v.2)
  else match left with
   |0=>none
   |m+1=>(Lf n r (Zb t.kind) m).bind fun w=>(Lf n w.2 c (m+1)).map fun v=>(⟨t,w.1⟩::v.1,v.2)
theorem kv(n:Nat)(t:zk)(r:List zk)(c:Int)(left:Nat):Lf (n+1) (t::r) c left=if c≠0/\t.kind=c then some ([],r)
  else if Zb t.kind=0 then(Lf n r c left).map fun v=>(⟨t,[]⟩::v.1,v.2)
  else match left with
   |0=>none
   |m+1=>(Lf n r (Zb t.kind) m).bind fun w=>(Lf n w.2 c (m+1)).map fun v=>(⟨t,w.1⟩::v.1,v.2):=rfl
theorem Tv: ∀(n:Nat) (l:List zk) (c:Int) (left:Nat) (v:List za×List zk),Lf n l c left=some v->v.2.length<=l.length/\(l≠[]->v.2.length<l.length)
 |0,_,_,_,_,h=>by cases h
 |n+1,[],c,left,v,h=>by
  rw[Lf]at h;cases h;exact⟨Sa _,fun h=>absurd rfl h⟩
 |n+1,t::r,c,left,v,h=>by
  rw[kv]at h;have key:v.2.length<=r.length:=by
   split at h
   ·cases h;exact Sa _
   split at h
   ·cases hv:Lf n r c left with
    |none=>rw[hv]at h;cases h
    |some w=>rw[hv]at h;cases h;exact(Tv n r c left w hv).1
   ·cases left with
    |zero=>cases h
    |succ m=>
     simp only at h;cases hw:Lf n r (Zb t.kind) m with
     |none=>rw[hw]at h;cases h
     |some w=>
      rw[hw,Aa]at h;cases hv:Lf n w.2 c (m+1)with
      |none=>rw[hv]at h;cases h
      |some v'=> rw[hv]at h;cases h;have h1:=(Tv n r _ m w hw).1;have h2:=(Tv n w.2 c _ v' hv).1;exact ma h2 h1
  exact⟨by rw[Da];omega,fun _=>by rw[Da];omega⟩
def Dm(l:List zk)(s:PSt):Option (List za):=(qz l s).map fun s=>shutAll s.1 s.2
theorem vO(t:zk)(l:List zk)(s:PSt):Dm (t::l) s=(Qy s t).bind (Dm l):=by unfold Dm;rw[qz];cases Qy s t<;>rfl
theorem Az: ∀(n:Nat) (l:List zk) (cur:List za) (o:zk) (out:List za) (st:List (zk×List za)) (left:Nat),l.length<n->Zb o.kind≠0->left+(st.length+1)=16->
  Dm l (cur,(o,out)::st)=(Lf n l (Zb o.kind) left).bind fun v=>Dm v.2 (out++[⟨o,cur++v.1⟩],st)
 |0,_,_,_,_,_,_,h,_,_=>by omega
 |n+1,[],cur,o,out,st,left,_,_,_=>by rw[Lf,Aa];simp only[Dm,qz,ib,shutAll,Rb]
 |n+1,t::r,cur,o,out,st,left,hn,ho,hl=>by
  rw[Da]at hn;rw[kv,vO];unfold Qy;simp only[ak];by_cases h1:t.kind=Zb o.kind
  ·rw[Ka (by rw[h1,He]),Ka ⟨ho,h1⟩,Aa,Aa];simp only[Ik,Rb]
  ·rw[Ha (by rw[Ob];exact h1),Ha (show¬(Zb o.kind≠0/\t.kind=Zb o.kind)from fun h=>h1 h.2)];by_cases h2:Zb t.kind=0
   ·rw[Ha (show¬Zb t.kind≠0 from fun h=>h h2),Ka h2,Aa,Az n r _ o out st left (by omega) ho hl];cases Lf n r (Zb o.kind) left with
    |none=>rfl
    |some v=>simp only[Aa,ib,ja,Fe]
   ·rw[Ka h2,Ha h2];cases left with
    |zero=>rw[Ka (by rw[Da];omega)];rfl
    |succ m=>
     rw[Ha (by rw[Da];omega),Aa];simp only;rw[Az n r [] t cur ((o,out)::st) m (by omega) h2 (by rw[Da];omega)];cases hw:Lf n r (Zb t.kind) m with
     |none=>rfl
     |some w=>
      have hlen:=(Tv n r _ m w hw).1;simp only[Aa];rw[Az n w.2 _ o out st (m+1) (by omega) ho hl];cases Lf n w.2 (Zb o.kind) (m+1)with
      |none=>rfl
      |some v=>simp only[Aa,ib,Gc,ja,Fe]
theorem BG: ∀(n:Nat) (l:List zk) (cur:List za),l.length<n->Dm l (cur,[])=(Lf n l 0 16).map fun v=>cur++v.1
 |0,_,_,h=>by omega
 |n+1,[],cur,_=>by rw[Lf];simp only[Dm,qz,ib,shutAll,Rb]
 |n+1,t::r,cur,hn=>by
  rw[Da]at hn;rw[kv,vO];unfold Qy;simp only[ak];rw[Ha (by decide),Ha (show¬((0:Int)≠0/\t.kind=0)from fun h=>h.1 rfl)];by_cases h2:Zb t.kind=0
  ·rw[Ha (show¬Zb t.kind≠0 from fun h=>h h2),Ka h2,Aa,BG n r _ (by omega)];cases Lf n r 0 16 with
   |none=>rfl
   |some v=>simp only[ib,ja,Fe]
  ·rw[Ka h2,Ha h2,Ha (by decide),Aa];rw[Az n r [] t cur [] 15 (by omega) h2 rfl];cases hw:Lf n r (Zb t.kind) 15 with
   |none=>rfl
   |some w=>
    have hlen:=(Tv n r _ 15 w hw).1;simp only[Aa];rw[BG n w.2 _ (by omega)];cases Lf n w.2 0 16 with
    |none=>rfl
    |some v=>simp only[ib,Gc,ja,Fe]
theorem ky: ∀(a b:List za),tokL (a++b)=tokL a++tokL b
 |[],b=>by rw[tokL];rfl
 |v::a,b=>by rw[Bb,tokL,tokL,ky a b,ja]
theorem CF(v:za):tokL [v]=tokV v:=by rw[tokL,tokL,Rb]
def Di(s:PSt):Nat:=(tokL s.1).length+(s.2.map fun x=>1+(tokL x.2).length).sum
def LC(s:PSt):Prop:= ∀x∈s.2,Zb x.1.kind≠0
theorem pV{s s':PSt}{t:zk}(h:Qy s t=some s')(ho:LC s):LC s'/\Di s'=Di s+1:=by
 unfold Qy at h;obtain⟨cur,st⟩:=s;split at h
 ·rename_i h1;cases st with
  |nil=>cases h1
  |cons x st=> obtain⟨o,out⟩:=x;cases h;have h2:Zb o.kind≠0:=ho (o,out) (Jb ..);refine⟨fun x hx=>ho x (Cb _ hx),?_⟩;simp only[Di,Ik,ky,CF,Ia,Bc,Je,Hm,Da,Ha h2,Ia,Mc,Ya];omega
 split at h
 ·rename_i h1 h2;split at h
  ·cases h
  ·rename_i h3;cases h;refine⟨fun x hx=> ?_,?_⟩
   ·rcases Db.1 hx with rfl|hx
    ·exact h2
    ·exact ho x hx
   ·simp only[Di,Bc,Je,tokL,Ya];omega
 ·rename_i h1 h2;cases h;refine⟨ho,?_⟩;have h2:Zb t.kind=0:=Ee h2;simp only[Di,ky,CF,Ia,Hm,Da,Ka h2,Ya];omega
theorem BN: ∀(l:List zk) {s s':PSt},qz l s=some s'->LC s->LC s'/\Di s'=Di s+l.length
 |[],s,s',h,ho=>by cases h;exact⟨ho,rfl⟩
 |t::l,s,s',h,ho=>by
  rw[qz]at h;cases hs:Qy s t with
  |none=>rw[hs]at h;cases h
  |some s1=> rw[hs,Aa]at h;obtain⟨h1,h2⟩:=pV hs ho;obtain⟨h3,h4⟩:=BN l h h1;exact⟨h3,by rw[h4,h2,Da];omega⟩
theorem jO: ∀(st:List (zk×List za)) (cur:List za),(∀x∈st,Zb x.1.kind≠0)->(tokL (shutAll cur st)).length=Di (cur,st)+st.length
 |[],cur,_=>by simp[shutAll,Di]
 |(o,out)::st,cur,h=>by have h2:Zb o.kind≠0:=h (o,out) (Jb ..);rw[shutAll,jO st _ (fun x hx=>h x (Cb _ hx))];simp only[Di,ky,CF,Ia,Hm,Da,Ha h2,Ia,Mc,Bc,Je,Da,Ya];omega
def DI(l:List zk)(c:Int)(left:Nat):Option (List za×List zk):=Lf (l.length+1) l c left
def wtT:List zk->Nat
 |[]=>0
 |t::r=>1+t.text.length+t.unit.length+wtT r
theorem Oz: ∀(n:Nat) (l:List zk) (c:Int) (left:Nat) (v:List za×List zk),Lf n l c left=some v->szL v.1+wtT v.2<=wtT l
 |0,_,_,_,_,h=>by cases h
 |n+1,[],c,left,v,h=>by
  rw[Lf]at h;cases h;rw[szL];exact Sa _
 |n+1,t::r,c,left,v,h=>by
  rw[kv]at h;rw[wtT];split at h
  ·cases h;rw[szL];simp only;omega
  split at h
  ·cases hv:Lf n r c left with
   |none=>rw[hv]at h;cases h
   |some w=> rw[hv]at h;cases h;have:=Oz n r c left w hv;simp only[szL,szV];omega
  ·cases left with
   |zero=>cases h
   |succ m=>
    simp only at h;cases hw:Lf n r (Zb t.kind) m with
    |none=>rw[hw]at h;cases h
    |some w=>
     rw[hw,Aa]at h;cases hv:Lf n w.2 c (m+1)with
     |none=>rw[hv]at h;cases h
     |some v'=> rw[hv]at h;cases h;have h1:=Oz n w.2 c _ v' hv;have h2:=Oz n r _ m w hw;simp only[szL,szV];omega
theorem nJ(l:List zk):(qz l ([],[])).map (fun s=>shutAll s.1 s.2)=(DI l 0 16).map Prod.fst:=BG _ l [] (Ie _)
theorem zGB{l:List zk}{s:PSt}(h:qz l ([],[])=some s):szL (shutAll s.1 s.2)<=wtT l:=by
 have hp:=nJ l;rw[h,ib]at hp;cases hv:DI l 0 16 with
 |none=>rw[hv]at hp;cases hp
 |some v=> rw[hv,ib]at hp;injection hp with hp;have:=Oz _ _ _ _ v hv;rw[hp];omega
theorem zEZ(l:List zk):szL (parS l).1<=wtT l:=by
 unfold parS;split
 ·rw[szL];exact Va _
 ·split
  ·rw[szL];exact Va _
  ·rename_i s hs;split
   ·rw[szL];exact Va _
   ·exact zGB hs
def clsS:Str->Option Str
 |[]=>none
 |c::r=>if c==42&&atS r 0==47 then some (r.drop 1)else clsS r
theorem Om: ∀(l:Str) {r:Str},clsS l=some r->r<:+l/\r.length+2<=l.length
 |[],r,h=>by cases h
 |c::t,r,h=>by
  unfold clsS at h;split at h
  ·rename_i a;rw[Ea,Ob,Ob]at a;injection h with h;subst h;have:=Hu (l:=t) (n:=0) (by rw[a.2];decide);exact⟨(Ae 1 t).trans (Ed c t),by grind⟩
  ·obtain⟨d,b⟩:=Om t h
   grind
theorem pre2(b:UInt8)(l:Str):([42,47]:Str).isPrefixOf (b::l)=(b==42&&atS l 0==47):=by
 have c:((42:UInt8)==b)=(b==42):=by rw[Lg,Ob,Ob];exact eq_comm
 rw[List.isPrefixOf,c];cases l with
 |nil=>rfl
 |cons d t=>
  have a:((47:UInt8)==d)=(d==47):=by rw[Lg,Ob,Ob];exact eq_comm
  rw[List.isPrefixOf,a,List.isPrefixOf];rw[Ic];rfl
theorem XN: ∀l:Str,Lib.index l [42,47]=match clsS l with|none=> -1|some r=>((l.length - r.length - 2:Nat):Int)
 |[]=>rfl
 |b::l=>by
  rw[Lib.index,pre2,clsS];cases h:b==42&&atS l 0==47 with
  |true=>
   grind
  |false=>
   simp only[Sb,Od];rw[XN l];cases a:clsS l with
   |none=>rfl
   |some r=>
    have:=(Om l a).2
    grind
def cmtS(l:Str):Str:=
 if([47,42]:Str).isPrefixOf l then
  (match h:clsS (l.drop 2)with
  |some q=>cmtS q
  |none=>[])
 else l
termination_by l.length
decreasing_by
 have:=(Om _ h).2
 grind
theorem Bo(l:Str):cmtS l=if([47,42]:Str).isPrefixOf l then(match clsS (l.drop 2)with|some q=>cmtS q|none=>[])else l:=by
 rw[cmtS]
 grind
theorem jk{l:Str}(h:([47,42]:Str).isPrefixOf l=false):cmtS l=l:=by rw[Bo,h];rfl
theorem Oh(l:Str):cmtS l<:+l:=by
 rw[Bo];split
 ·split
  ·rename_i q b;have a:=Om _ b;have c:=a.2;rw[Vb]at c;exact(Oh q).trans (a.1.trans (Ae 2 l))
  grind
 grind
termination_by l.length
decreasing_by
 grind
theorem Rv(l:Str):cmtS (cmtS l)=cmtS l:=by
 rw[Bo l];split
 ·split
  ·rename_i q a;have b:=(Om _ a).2;rw[Vb]at b;exact Rv q
  ·exact jk rfl
 ·rename_i h;exact jk (Bool.eq_false_iff.2 h)
termination_by l.length
decreasing_by
 grind
theorem zDV(l:Str):([47,42]:Str).isPrefixOf (cmtS l)=false:=by
 have h:=Rv l;cases b:([47,42]:Str).isPrefixOf (cmtS l)with
 |false=>rfl
 |true=>
  exfalso;rw[Bo (cmtS l),b,Ka rfl]at h;have c:=Jo b;rw[show([47,42]:Str).length=2 from rfl]at c;cases a:clsS ((cmtS l).drop 2)with
  |none=>grind
  |some q=>
   rw[a]at h;have d:=(Om _ a).2;have e:=(Oh q).length_le
   grind
theorem uz{s q:Str}(hs:s.length<=40000)(hq:q<:+s):Zz (sr s q)=some (sr s (cmtS q)):=by
 have hsb:s.length<=big:=by unfold big;omega
 unfold Zz;refine sF (fun z=> ∃p,z=sr s p/\p<:+s/\cmtS p=cmtS q) (fun z=>s.length - z.at_.toNat) _ ?_ ⟨q,rfl,hq,rfl⟩;rintro _ ⟨p,rfl,hp,he⟩;rw[ZN CS];simp only[ze,ED hp,Q8,Aa];rw[Bo p]at he;cases hpre:([47,42]:Str).isPrefixOf p with
 |false=>
  grind
 |true=>
  rw[hpre,Ka rfl]at he;have hl:=Jo hpre;rw[show([47,42]:Str).length=2 from rfl]at hl;have hle:=hp.length_le;have hb:=YK hp hl;have hb2:=Yk s (p.drop 2);rw[Ca];have hw:w64 ((beh s p:Int)+2)=((beh s (p.drop 2):Nat):Int):=by rw[<-hb,Qi (by omega) (by omega)];omega
  rw[hw,ZN (by grind),ED (Gl hp 2)];have hlen:(p.drop 2).length<=40000:=by rw[Vb];omega
  have hi:ek (p.drop 2,[42,47])=some (Lib.index (p.drop 2) [42,47]):=by unfold ek;rw[ZN (by exact Fa (show(p.drop 2).length<4294967281 by omega))]
  rw[hi,XN];simp only[Aa];cases hc:clsS (p.drop 2)with
  |none=>
   rw[hc]at he;refine .inr (.inr ?_);rw[<-he];show _=some (LO.ret (⟨s,(beh s []:Int)⟩:zb));unfold beh
   grind
  |some r=>
   rw[hc]at he;obtain⟨h1,h2⟩:=Om _ hc;have hrs:r<:+s:=h1.trans (Gl hp 2);rw[Vb]at h2 hlen;simp only;rw[Ta (by omega),Ba];refine .inl ⟨sr s r,?_,⟨r,rfl,hrs,he⟩,?_⟩
   ·rw[Vb,Qi (n:=_+4) (by omega) (by omega)];have:(beh s p:Int)+(((p.length - 2 - r.length - 2:Nat):Int)+4)=((beh s r:Nat):Int):=by unfold beh;omega
    rw[this,Qi (by grind) (by grind)]
   ·show s.length - beh s r<s.length - beh s p;unfold beh;omega
def QP(l:Str):List zk:=
 match h:cmtS l with
 |[]=>[]
 |c::r=>(QO (c::r)).1::QP (QO (c::r)).2
termination_by l.length
decreasing_by
 have b:=(Il c r).length_le;have a:=(Oh l).length_le
 grind
theorem Br{l:Str}(h:cmtS l=[]):QP l=[]:=by
 rw[QP]
 grind
theorem Mr{l:Str}{c:UInt8}{r:Str}(h:cmtS l=c::r):QP l=(QO (c::r)).1::QP (QO (c::r)).2:=by
 rw[QP]
 grind
theorem jy(l:Str):QP (cmtS l)=QP l:=by
 cases h:cmtS l with
 |nil=>rw[Br h];exact Br (jk rfl)
 |cons c r=> rw[Mr h];exact Mr (by rw[<-h,Rv])
theorem vz: ∀l:Str,(Proofs.Cl.cleanS l).length<=3*l.length:=by
 have: ∀(n:Nat) (l:Str),l.length<=n->(Proofs.Cl.cleanS l).length<=3*l.length:=by
  intro n
  induction n with
  |zero=>
   intro l h;cases l with
   |nil=>rw[Proofs.Cl.cleanS];grind
   |cons c r=>grind
  |succ n ih=>
   intro l h;rw[Proofs.Cl.cleanS.eq_def]
   grind
 exact fun l=>this l.length l (Sa _)
def Zf(w:Str):List zk×Int:=if 4000<w.length then([],28)else if 1500<(QP (Proofs.Cl.cleanS w)).length then([],4)else(QP (Proofs.Cl.cleanS w),0)
theorem zDG{n:Nat}(h:n<=100000):Zp n 1 56=true:=by unfold Zp;grind
theorem GN(w:Str):Rp w=some (Zf w):=by
 unfold Rp Zf;by_cases b:4000<w.length
 ·have e:Yi w=some ([],28):=by unfold Yi;rw[Ka b]
  unfold jA
  grind
 ·have e:Yi w=some (Proofs.Cl.cleanS w,0):=by unfold Yi;rw[Ha b]
  rw[Ha b];have x:=vz w;generalize Proofs.Cl.cleanS w=s at e x;have o:s.length<=40000:=by omega
  unfold jA;rw[e];simp only[ze,Aa];rw[show((0:Int) != 0)=false from rfl,Ba,sr_0,uz o (jd s)];simp only[Aa];have f: ∃z:Int×List zk,Zl (fun(d:Int×List zk×zb)=>
    bif decide (d.2.2.at_<(s.length:Int))then
     bif decide (w64 (d.1+1)>1500)then
      some (LO.ret (4,d.2.1))
     else
      (qB d.2.2).bind fun t=>
      (dB ((t.1,d.2.2.at_,t.2.at_),d.2.1)).bind fun y=>
      (Zz t.2).bind fun A=>
      some (LO.again (w64 (d.1+1),y,A))
    else
     some (LO.out (d.2.1,d.2.2)):Int×List zk×zb->Option (LO (Int×List zk×zb) (List zk×zb) (Int×List zk))) (0,[],sr s (cmtS s)) (fun C=>some (0,C.1))=some z/\
    z=(if 1500<(QP s).length then(4,(QP s).take 1500)else(0,QP s)):=by
   refine⟨_,sF (fun z=> ∃(a:List zk) (q:Str),z=((a.length:Int),a,sr s q)/\q<:+s/\cmtS q=q/\a.length<=1500/\a++QP q=QP s) (fun z=>s.length - z.2.2.at_.toNat) (if 1500<(QP s).length then(4,(QP s).take 1500)else(0,QP s)) ?_ ⟨[],cmtS s,rfl,Oh s,Rv s,by simp,by rw[Gc,jy]⟩,rfl⟩;rintro _ ⟨a,q,rfl,m,n,G,i⟩;simp only;have l:=m.length_le;cases q with
   |nil=>
    have B:((beh s []:Nat):Int)=(s.length:Int):=by unfold beh;rw[Ya];rfl
    have k:decide (((beh s []:Nat):Int)<(s.length:Int))=false:=Ta (by omega);simp only[k,Ba];rw[Br (jk rfl),Rb]at i
    grind
   |cons c r=>
    rw[Da]at l;have B:beh s (c::r)<s.length:=by unfold beh;rw[Da];omega
    have k:decide (((beh s (c::r):Nat):Int)<(s.length:Int))=true:=Fa (by omega);have v:w64 ((a.length:Int)+1)=(a.length:Int)+1:=Qi (by omega) (by omega);simp only[k,Ca,v];rw[Mr n]at i;have g:=congrArg List.length i;rw[Ia,Da]at g;by_cases j:a.length=1500
    ·grind
    ·have p:decide ((a.length:Int)+1>1500)=false:=Ta (by omega);simp only[p,Ba,PR o m rfl,Aa];unfold dB;rw[ZN (zDG (by simp only;omega))];have h:(QO (c::r)).2<:+s:=(Il c r).trans (Ki m);simp only[Aa,uz o h];refine .inl ⟨_,rfl,⟨a++[(QO (c::r)).1],cmtS (QO (c::r)).2,?_,(Oh _).trans h,Rv _,by grind,?_⟩,?_⟩
     ·grind
     ·rw[jy,ja];exact i
     ·have E:=(Il c r).length_le;have F:=(Oh (QO (c::r)).2).length_le;show s.length - beh s (cmtS (QO (c::r)).2)<s.length - beh s (c::r);unfold beh at*
      grind
  obtain⟨z,D,u⟩:=f
  grind
theorem wF(r:Str):(zK r).1.length+3*(zK r).2.length<=3*r.length+3:=by
 have h4:=jv r;cases r with
 |nil=>exact Sa _
 |cons c t=>
  have h:(zK (c::t)).2.length<=t.length:=by
   show(if Uf c then(xh (hexes 6 0 (c::t)).1,unsp (hexes 6 0 (c::t)).2)else([c],t)).2.length<=t.length;cases hc:Uf c with
   |true=>
    have e:hexes 6 0 (c::t)=hexes 5 (16*0+hexN c) t:=by rw[hexes,hc,Ka rfl]
    rw[Ka rfl,e];exact((kK _).trans (av 5 _ t)).length_le
   |false=>exact Sa _
  rw[Da];omega
theorem xq(l:Str):(Zc l).1.length+3*(Zc l).2.length<=3*l.length:=by
 match l with
 |[]=>rw[Ns];exact Sa _
 |c::r=>
  rw[Bn];split
  ·have:=xq r;show(c::(Zc r).1).length+3*(Zc r).2.length<=_;rw[Da,Da];omega
  ·split
   ·have h1:=Zx r;have h2:=wF r;have:=xq (zK r).2;show((zK r).1++(Zc (zK r).2).1).length+3*(Zc (zK r).2).2.length<=_;rw[Ia,Da];omega
   ·show 0+3*(c::r).length<=_;omega
termination_by l.length
decreasing_by
 all_goals first|(have:=Zx r;simp only[Da];omega)|(simp only[Da];omega)
theorem oC{u:Str}{o:Option Str}{t:Str}{k:Nat}(h:o.map (u++ ·)=some t)(hk: ∀t',o=some t'->t'.length<=k):t.length<=u.length+k:=by
 cases o with
 |none=>cases h
 |some t'=> injection h with h;rw[<-h,Ia];have:=hk t' rfl;omega
theorem xy{m:UInt8}{q t:Str}(h:(Zv m q).1=some t):t.length+3*(Zv m q).2.length<=3*q.length:=by
 match q with
 |[]=>rw[Gp]at h ⊢;cases h;exact Sa _
 |c::r=>
  rw[Et]at h ⊢;rw[Da];split
  ·rename_i h1;rw[Ka h1]at h;cases h;show 0+3*r.length<=_;omega
  ·rename_i h1;rw[Ha h1]at h;split
   ·rename_i h2;rw[Ka h2]at h;cases h
   ·rename_i h2;rw[Ha h2]at h;split
    ·rename_i h3;rw[Ka h3]at h;split
     ·rename_i h4;rw[Ka h4]at h;cases h;show 0+3*0<=_;omega
     ·rename_i h4;rw[Ha h4]at h;split
      ·rename_i h5;rw[Ka h5]at h;have:=xy (q:=r.drop 1) h;rw[Vb]at this;omega
      ·rename_i h5;rw[Ha h5]at h;have h6:=Zx r;have h7:=wF r;have:=oC (k:=3*(zK r).2.length - 3*(Zv m (zK r).2).2.length) h (fun t' ht'=>by have:=xy ht';omega);have h8:=(Gs m (zK r).2).length_le;show t.length+3*(Zv m (zK r).2).2.length<=_;omega
    ·rename_i h3;rw[Ha h3]at h;have:=oC (u:=[c]) (k:=3*r.length - 3*(Zv m r).2.length) h (fun t' ht'=>by have:=xy ht';omega);have h8:=(Gs m r).length_le;rw[Mc]at this;show t.length+3*(Zv m r).2.length<=_;omega
termination_by q.length
decreasing_by
 all_goals first|(have:=Zx r;simp only[Da];omega)|(simp only[Da,Vb];omega)
theorem EI{q t:Str}(h:(urlS q).1=some t):t.length+3*(urlS q).2.length<=3*q.length:=by
 match q with
 |[]=>rw[Mo]at h ⊢;cases h;exact Sa _
 |c::r=>
  rw[Lr]at h ⊢;rw[Da];split
  ·rename_i h1;rw[Ka h1]at h;cases h;show 0+3*r.length<=_;omega
  ·rename_i h1;rw[Ha h1]at h;split
   ·rename_i h2;rw[Ka h2]at h;have hp:=(Hl spB r).length_le;split
    ·rename_i h3;rw[h3]at h;cases h;show 0+3*0<=_;omega
    ·rename_i d r' h3;rw[h3]at h hp;rw[Da]at hp;simp only at h;split
     ·rename_i h4;rw[Ka h4]at h;cases h;show 0+3*r'.length<=_;omega
     ·rename_i h4;rw[Ha h4]at h;cases h
   ·rename_i h2;rw[Ha h2]at h;split
    ·rename_i h3;rw[Ka h3]at h;cases h
    ·rename_i h3;rw[Ha h3]at h;split
     ·rename_i h5;rw[Ka h5]at h;have h6:=Zx r;have h7:=wF r;have:=oC (k:=3*(zK r).2.length - 3*(urlS (zK r).2).2.length) h (fun t' ht'=>by have:=EI ht';omega);have h8:=(Xq (zK r).2).length_le;show t.length+3*(urlS (zK r).2).2.length<=_;omega
     ·rename_i h5;rw[Ha h5]at h;have:=oC (u:=[c]) (k:=3*r.length - 3*(urlS r).2.length) h (fun t' ht'=>by have:=EI ht';omega);have h8:=(Xq r).length_le;rw[Mc]at this;show t.length+3*(urlS r).2.length<=_;omega
termination_by q.length
decreasing_by
 all_goals first|(have:=Zx r;simp only[Da];omega)|(simp only[Da];omega)
theorem zGo(c:UInt8)(r:Str):(QO (c::r)).1.text.length+(QO (c::r)).1.unit.length+3*(QO (c::r)).2.length<=3*(r.length+1):=by
 have hs:=(Il c r).length_le;rw[oG]at hs ⊢;split
 ·rename_i h1;rw[Ka h1]at hs;simp only[Og,Ya]at hs ⊢;omega
 rename_i h1;rw[Ha h1]at hs;split
 ·rename_i h2;rw[Ka h2]at hs;simp only at hs ⊢;cases ho:(Zv c r).1 with
  |none=>show 0+0+_<=_;omega
  |some t=>have:=xy ho;show t.length+0+_<=_;omega
 rename_i h2;rw[Ha h2]at hs;split
 ·have:=xq r;simp only[Ya];omega
 rename_i h3;rw[Ha h3]at hs;split
 ·rename_i h4;have h5:=(oO h4).length_le;rw[Ka h4]at hs;unfold qo at hs ⊢;split
  ·have:=xq (ZB (c::r)).1;simp only[Ya];omega
  ·rename_i h6;rw[Ha h6]at hs;split
   ·rename_i h7;rw[Ka h7]at hs;simp only[Ya]at hs ⊢;omega
   ·rename_i h7;rw[Ha h7]at hs;simp only[Ya]at hs ⊢;omega
 rename_i h4;rw[Ha h4]at hs;split
 ·rename_i h5;rw[Ka h5]at hs;simp only[Og,Ya]at hs ⊢;omega
 rename_i h5;rw[Ha h5]at hs;split
 ·rename_i h6;rw[Ka h6]at hs;simp only[Og,Ya]at hs ⊢;omega
 rename_i h6;rw[Ha h6]at hs;split
 ·have:=xq r;simp only[Ya];omega
 rename_i h7;rw[Ha h7]at hs;split
 ·have hn:=xq (c::r);rw[Da]at hn;unfold Jg;split
  ·split
   ·have h8:=(Hl spB ((Zc (c::r)).2.drop 1)).length_le;have h9:=(Xq (past spB ((Zc (c::r)).2.drop 1))).length_le;rw[Vb]at h8;simp only;cases ho:(urlS (past spB ((Zc (c::r)).2.drop 1))).1 with
    |none=>show 0+0+_<=_;omega
    |some t=>have:=EI ho;show t.length+0+_<=_;omega
   ·simp only[Ya,Vb];omega
  ·simp only[Ya];omega
 split
 ·simp only[Ya,Mc];omega
 ·simp only[Og,Ya];omega
theorem MJ(q:Str):wtT (QP q)<=5*q.length:=by
 cases hc:cmtS q with
 |nil=>rw[Br hc,wtT];exact Va _
 |cons c r=>
  have h2:=(Oh q).length_le;have h3:=(Il c r).length_le;rw[hc,Da]at h2;rw[Mr hc,wtT];have h4:(QO (c::r)).2.length<q.length:=by omega
  have:=MJ (QO (c::r)).2;have:=zGo c r;omega
termination_by q.length
decreasing_by all_goals omega
theorem jE{q:Str}{n:Nat}(x:Str)(h:n<q.length):atS (q++x) n=atS q n:=by
 unfold atS
 grind
theorem Yo{p:UInt8->Bool}(x:Str): ∀{q:Str},past p q≠[]->past p (q++x)=past p q++x
 |[],h=>absurd rfl h
 |c::r,h=>by
  rw[Bb,past,past];rw[past]at h;cases a:p c with
  |true=>rw[a,Ka rfl]at h;rw[Ka rfl,Ka rfl];exact Yo x h
  |false=>rfl
theorem yx{p:UInt8->Bool}(x:Str): ∀{q:Str},past p q≠[]->(q++x).takeWhile p=q.takeWhile p
 |[],h=>absurd rfl h
 |c::r,h=>by
  rw[Bb,Ef,Ef];rw[past]at h;cases a:p c with
  |true=>rw[a,Ka rfl]at h;rw[Ka rfl,Ka rfl,yx x h]
  |false=>rfl
theorem aN(x:Str): ∀{k n:Nat} {l:Str},(hexes k n l).2≠[]->hexes k n (l++x)=((hexes k n l).1,(hexes k n l).2++x)
 |0,n,l,_=>rfl
 |k+1,n,[],h=>absurd rfl h
 |k+1,n,c::r,h=>by
  rw[Bb,hexes,hexes];rw[hexes]at h;split
  ·rename_i a;rw[Ka a]at h;exact aN x h
  ·rfl
theorem zCR{l:Str}(x:Str)(h:l≠[]):unsp (l++x)=unsp l++x:=by
 cases l with
 |nil=>grind
 |cons c r=> show(if spB c then r++x else c::(r++x))=(if spB c then r else c::r)++x;split<;>rfl
theorem aA{r:Str}(x:Str)(h:(zK r).2≠[]):zK (r++x)=((zK r).1,(zK r).2++x):=by
 cases r with
 |nil=>exact absurd rfl h
 |cons c r=>
  have e: ∀t:Str,zK (c::t)=if Uf c then(xh (hexes 6 0 (c::t)).1,unsp (hexes 6 0 (c::t)).2)else([c],t):=fun t=>rfl;rw[Bb,e,e];rw[e]at h;split
  ·rename_i b;rw[Ka b]at h;have a:(hexes 6 0 (c::r)).2≠[]:=by intro d;rw[d]at h;exact h rfl
   rw[show c::(r++x)=(c::r)++x from rfl,aN x a,zCR x a]
  ·rfl
theorem Av{c:UInt8}{r:Str}(x:Str)(h:r≠[]\/c≠92):escS (c::(r++x))=escS (c::r):=by
 unfold escS;show(c==92&& !(atS (r++x) 0==10))=(c==92&& !(atS r 0==10));rcases h with h|h
 ·cases r with
  |nil=>grind
  |cons d t=>rfl
 grind
theorem Yr{q:Str}(x:Str)(h:(Zc q).2≠[]):Zc (q++x)=((Zc q).1,(Zc q).2++x):=by
 match q with
 |[]=>rw[Ns]at h;grind
 |c::r=>
  rw[Bb,Bn,Bn];rw[Bn]at h;cases f:letB c with
  |true=> rw[f,Ka rfl]at h;simp only[Vd];rw[Yr x h]
  |false=>
   rw[f,Ha (by decide)]at h;simp only[Sb,Od];cases a:escS (c::r)with
   |true=>
    rw[a,Ka rfl]at h;have g:(zK r).2≠[]:=by intro e;simp only[e,Ns]at h;exact h rfl
    have b:r≠[]:=by rintro rfl;exact g rfl
    rw[Av x (.inl b),a];simp only[Vd];rw[aA x g];have:=Zx r;simp only;rw[Yr x h]
   |false=>
    have b:r≠[]\/c≠92:=by
     cases r with
     |nil=> right;rintro rfl;exact absurd a (by decide)
     |cons d t=>left;simp
    rw[Av x b,a];grind
termination_by q.length
decreasing_by
 all_goals grind
theorem GA{m:UInt8}{q:Str}(x:Str)(h:(Zv m q).2≠[]):Zv m (q++x)=((Zv m q).1,(Zv m q).2++x):=by
 match q with
 |[]=>rw[Gp]at h;grind
 |c::r=>
  rw[Bb,Et,Et];rw[Et]at h;cases g:c==m with
  |true=>grind
  |false=>
   rw[g,Ha (by decide)]at h;simp only[Sb,Od];cases k:c==10 with
   |true=>grind
   |false=>
    rw[k,Ha (by decide)]at h;simp only[Sb,Od];cases b:c==92 with
    |false=> rw[b,Ha (by decide)]at h;simp only[Sb,Od];rw[GA x h]
    |true=>
     rw[b,Ka rfl]at h;simp only[Vd];cases f:r with
     |nil=>grind
     |cons d t=>
      rw[f]at h;have j:r.length=t.length+1:=by rw[f];rfl
      rw[Bb,show(d::(t++x)).isEmpty=false from rfl,show(d::t).isEmpty=false from rfl];simp only[Sb,Od];rw[show(d::t).isEmpty=false from rfl,Ha (by decide)]at h;rw[show atS (d::(t++x)) 0=atS (d::t) 0 from rfl];cases a:atS (d::t) 0==10 with
      |true=> rw[a,Ka rfl]at h;simp only[Vd];exact GA (q:=t) x h
      |false=>
       rw[a,Ha (by decide)]at h;simp only[Sb,Od];have i:(zK (d::t)).2≠[]:=by intro e;simp only[e,Gp]at h;exact h rfl
       rw[show d::(t++x)=(d::t)++x from rfl,aA x i];have:=Zx (d::t);simp only;rw[GA x h]
termination_by q.length
decreasing_by
 all_goals grind
theorem gy{q:Str}(x:Str)(h:badS q≠[]):badS (q++x)=badS q++x:=by
 match q with
 |[]=>rw[Kv]at h;grind
 |c::r=>
  rw[Bb,Xv,Xv];rw[Xv]at h;cases f:c==41 with
  |true=>grind
  |false=>
   rw[f,Ha (by decide)]at h;simp only[Sb,Od];cases a:escS (c::r)with
   |true=>
    rw[a,Ka rfl]at h;have d:(zK r).2≠[]:=by intro e;rw[e,Kv]at h;exact h rfl
    have b:r≠[]:=by rintro rfl;exact d rfl
    rw[Av x (.inl b),a];simp only[Vd];rw[aA x d];have:=Zx r;exact gy x h
   |false=>
    rw[a,Ha (by decide)]at h;have b:r≠[]\/c≠92:=by left;rintro rfl;rw[Kv]at h;exact h rfl
    rw[Av x b,a];simp only[Sb,Od];exact gy x h
termination_by q.length
decreasing_by
 all_goals grind
theorem iD{q:Str}(x:Str)(h:(urlS q).2≠[]):urlS (q++x)=((urlS q).1,(urlS q).2++x):=by
 match q with
 |[]=>rw[Mo]at h;grind
 |c::r=>
  rw[Bb,Lr,Lr];rw[Lr]at h;cases l:c==41 with
  |true=>grind
  |false=>
   rw[l,Ha (by decide)]at h;simp only[Sb,Od];cases j:spB c with
   |true=>
    rw[j,Ka rfl]at h;simp only[Vd];cases f:past spB r with
    |nil=>grind
    |cons d t=>
     rw[Yo x (by rw[f];simp),f];rw[f]at h;simp only[Bb]at h ⊢;cases a:d==41 with
     |true=>grind
     |false=> rw[a,Ha (by decide)]at h;simp only[Sb,Od];rw[show d::(t++x)=(d::t)++x from rfl,gy x h]
   |false=>
    rw[j,Ha (by decide)]at h;simp only[Sb,Od];have b:(c=92->r≠[])->escS (c::(r++x))=escS (c::r):=by
     intro k;refine Av x ?_;by_cases e:c=92
     ·exact .inl (k e)
     ·exact .inr e
    have m:c=92->r≠[]:=by
     rintro rfl rfl;have o:escS [92]=true:=by decide
     rw[o,show((92:UInt8)==92&& !true)=false from rfl,Ff]at h;cases i:((92:UInt8)==34||(92:UInt8)==39||(92:UInt8)==40||unB 92)with
     |true=>exact absurd i (by decide)
     |false=> rw[i,Ha (by decide),Ka (by decide)]at h;exact absurd (by show(urlS (zK []).2).2=[];rw[show(zK []).2=[]from rfl,Mo]) h
    rw[b m];cases a:c==34||c==39||c==40||unB c||c==92&& !escS (c::r)with
    |true=> rw[a,Ka rfl]at h;simp only[Vd];rw[show c::(r++x)=(c::r)++x from rfl,gy x h]
    |false=>
     rw[a,Ha (by decide)]at h;simp only[Sb,Od];cases g:c==92 with
     |true=>
      rw[g,Ka rfl]at h;simp only[Vd];have n:(zK r).2≠[]:=by intro e;simp only[e,Mo]at h;exact h rfl
      rw[aA x n];have:=Zx r;simp only;rw[iD x h]
     |false=> rw[g,Ha (by decide)]at h;simp only[Sb,Od];rw[iD x h]
termination_by q.length
decreasing_by
 all_goals grind
theorem VG{q:Str}(x:Str)(h:q≠[]):unsign (q++x)=unsign q++x/\sgOf (q++x)=sgOf q:=by
 cases q with
 |nil=>grind
 |cons c r=> unfold unsign sgOf;show(if Vh c then r++x else c::(r++x))=(if Vh c then r else c::r)++x/\_;refine⟨by split<;>rfl,rfl⟩
def Kg(q:Str):Str:=past digB (unsign q)
theorem zA2{q x:Str}(h:(qm q).1≠[])(f:q=[46]->digB (atS x 0)=false):qm (q++x)=((qm q).1++x,(qm q).2)/\dotP (q++x)=dotP q:=by
 unfold qm dotP;unfold qm at h;cases q with
 |nil=>exact absurd rfl h
 |cons c r=>
  have g:(atS ((c::r)++x) 0==46&&digB (atS ((c::r)++x) 1))=(atS (c::r) 0==46&&digB (atS (c::r) 1)):=by
   show(c==46&&digB (atS (r++x) 0))=(c==46&&digB (atS r 0));cases r with
   |nil=>
    cases a:c==46 with
    |false=>rfl
    |true=> rw[Ob]at a;subst a;show(true&&digB (atS x 0))=(true&&digB (atS [] 0));rw[f rfl];rfl
   |cons d t=>rfl
  rw[g];cases e:(atS (c::r) 0==46&&digB (atS (c::r) 1))with
  |false=>grind
  |true=>
   rw[e,Ka rfl]at h;simp only[Vd];rw[show((c::r)++x).drop 1=r++x from rfl,show(c::r).drop 1=r from rfl];have b:past digB r≠[]:=h;rw[Yo x b,yx x b]
   grind
theorem zD7{w x:Str}(hw:w≠[])(h: ∀r,expS w=some r->r≠[])(hn:expS w=none->expS (w++x)=none):
  expS (w++x)=(expS w).map (· ++x)/\expP (w++x)=expP w:=by
 have hP: ∀q:Str,expP q=if(expS q).isSome then some (atS q 0,sgOf (q.drop 1),(unsign (q.drop 1)).takeWhile digB)else none:=by
  intro q;unfold expP expS;cases atS q 0==101||atS q 0==69 with
  |false=>rfl
  |true=>
   grind
 cases he:expS w with
 |none=>
  grind
 |some r=>
  have hr:=h r he;cases w with
  |nil=>grind
  |cons c t=>
   have he':=he;unfold expS at he';cases h1:atS (c::t) 0==101||atS (c::t) 0==69 with
   |false=>grind
   |true=>
    rw[h1,Ka rfl]at he';cases h2:digB (atS (unsign ((c::t).drop 1)) 0)with
    |false=>grind
    |true=>
     rw[h2,Ka rfl]at he';have hrr:past digB (unsign t)=r:=by injection he'
     have ht:t≠[]:=by rintro rfl;exact absurd (show digB (atS (unsign []) 0)=true from h2) (by decide)
     obtain⟨u1,u2⟩:=VG x ht;have hun:unsign t≠[]:=by intro e;rw[show(c::t).drop 1=t from rfl,e]at h2;exact absurd h2 (by decide)
     have hexp:expS ((c::t)++x)=some (r++x):=by unfold expS;rw[show atS ((c::t)++x) 0=atS (c::t) 0 from rfl,h1,Ka rfl,show((c::t)++x).drop 1=t++x from rfl,u1];have:atS (unsign t++x) 0=atS (unsign t) 0:=jE x (Tg.2 hun);rw[this,show digB (atS (unsign t) 0)=true from h2,Ka rfl,Yo x (by grind),hrr]
     refine⟨by rw[hexp];rfl,?_⟩;rw[hP,hP,hexp,he];simp only[Option.isSome_some,Vd];rw[show((c::t)++x).drop 1=t++x from rfl,show(c::t).drop 1=t from rfl,u1,u2,yx x (by grind)];rfl
theorem wz(q:Str):ZB q=(match expS (qm (Kg q)).1 with|some r=>(r,false)|none=>qm (Kg q)):=rfl
theorem zEN{q x:Str}(h:(ZB q).1≠[])(j:Kg q=[46]->digB (atS x 0)=false)(l:expS (qm (Kg q)).1=none->expS ((qm (Kg q)).1++x)=none):
  ZB (q++x)=((ZB q).1++x,(ZB q).2)/\numP (q++x)=numP q:=by
 rw[wz]at h;have a: ∀r,expS (qm (Kg q)).1=some r->r≠[]:=by intro r p;rw[p]at h;exact h
 have b:(qm (Kg q)).1≠[]:=by intro e;rw[e,show expS []=none from rfl]at h;exact h e
 have c:Kg q≠[]:=by intro e;rw[e]at b;exact b rfl
 have n:q≠[]:=by rintro rfl;exact c rfl
 obtain⟨d,k⟩:=VG x n;have f:Kg (q++x)=Kg q++x:=by unfold Kg;rw[d];exact Yo x c
 obtain⟨i,m⟩:=zA2 b j;obtain⟨s,o⟩:=zD7 b a l;have g: ∀z:Str,numP z=⟨sgOf z,(unsign z).takeWhile digB,dotP (Kg z),expP (qm (Kg z)).1⟩:=fun z=>rfl;constructor
 ·rw[wz,wz,f,i]
  grind
 ·rw[g,g,k,d,yx x c,f,i,m,o]
def brS(c:UInt8)(r:Str):Nat:=
 if spB c then 0
 else if c==34||c==39 then 1
 else if c==35&&(letB (atS r 0)||escS r)then 2
 else if nbS (c::r)then 3
 else if [45,45,62].isPrefixOf (c::r)then 4
 else if [60,33,45,45].isPrefixOf (c::r)then 5
 else if c==64&&nmS r then 6
 else if nmS (c::r)then 7
 else if Ag c==0 then 8
 else 9
def nxB:Nat->UInt8->Str->zk×Str
 |0,c,r=>(Og 13,past spB (c::r))
 |1,c,r=>(Rj (Zv c r).1,(Zv c r).2)
 |2,_,r=>(⟨4,(Zc r).1,0,[],nmS r⟩,(Zc r).2)
 |3,c,r=>qo (c::r)
 |4,c,r=>(Og 15,(c::r).drop 3)
 |5,c,r=>(Og 14,(c::r).drop 4)
 |6,_,r=>(⟨3,(Zc r).1,0,[],false⟩,(Zc r).2)
 |7,c,r=>Jg (c::r)
 |8,c,r=>(⟨9,[c],0,[],false⟩,r)
 |_+9,c,r=>(Og (Ag c),r)
theorem gI(c:UInt8)(r:Str):nxB 0 c r=(Og 13,past spB (c::r)):=by rw[nxB]
theorem UC(c:UInt8)(r:Str):nxB 1 c r=(Rj (Zv c r).1,(Zv c r).2):=by rw[nxB]
theorem fI(c:UInt8)(r:Str):nxB 2 c r=(⟨4,(Zc r).1,0,[],nmS r⟩,(Zc r).2):=by rw[nxB]
theorem Wt(c:UInt8)(r:Str):nxB 3 c r=qo (c::r):=by rw[nxB]
theorem KR(c:UInt8)(r:Str):nxB 4 c r=(Og 15,(c::r).drop 3):=by rw[nxB]
theorem JR(c:UInt8)(r:Str):nxB 5 c r=(Og 14,(c::r).drop 4):=by rw[nxB]
theorem dI(c:UInt8)(r:Str):nxB 6 c r=(⟨3,(Zc r).1,0,[],false⟩,(Zc r).2):=by rw[nxB]
theorem SC(c:UInt8)(r:Str):nxB 7 c r=Jg (c::r):=by rw[nxB]
theorem IR(c:UInt8)(r:Str):nxB 8 c r=(⟨9,[c],0,[],false⟩,r):=by rw[nxB]
theorem OC(c:UInt8)(r:Str):nxB 9 c r=(Og (Ag c),r):=rfl
theorem nu(c:UInt8)(r:Str):QO (c::r)=nxB (brS c r) c r:=by
 rw[oG];unfold brS;split
 ·rfl
 ·split
  ·rfl
  ·split
   ·rfl
   ·split
    ·rfl
    ·split
     ·rfl
     ·split
      ·rfl
      ·split
       ·rfl
       ·split
        ·rfl
        ·split<;>rfl
theorem br_4{c:UInt8}{r:Str}:brS c r=4->[45,45,62].isPrefixOf (c::r)=true:=by unfold brS;grind
theorem br_5{c:UInt8}{r:Str}:brS c r=5->[60,33,45,45].isPrefixOf (c::r)=true:=by unfold brS;grind
theorem br_9{c:UInt8}{r:Str}:brS c r=9-> ¬(Ag c==0)=true:=by unfold brS;grind
theorem yR(c:UInt8)(r:Str):brS c r<=9:=by unfold brS;grind
def brK(k:Int):Nat:=
 if k=13 then 0 else if k=5\/k=6 then 1 else if k=4 then 2 else if k=10\/k=11\/k=12 then 3 else if k=15 then 4 else if k=14 then 5 else if k=3 then 6
 else if k=1\/k=2\/k=7\/k=8 then 7 else if k=9 then 8 else 9
theorem zB8(c:UInt8):Ag c=0\/(16<=Ag c/\Ag c<=24):=by
 have: ∀n:Nat,n<256->Ag (UInt8.ofNat n)=0\/(16<=Ag (UInt8.ofNat n)/\Ag (UInt8.ofNat n)<=24):=by decide+kernel
 have:=this c.toNat (Uc c);simp_all
theorem zCy(o:Option Str):(Rj o).kind=5\/(Rj o).kind=6:=by cases o<;>simp[Rj]
theorem zCT(o:Option Str):(Sk o).kind=7\/(Sk o).kind=8:=by cases o<;>simp[Sk]
theorem dW(l:Str):(Jg l).1.kind=1\/(Jg l).1.kind=2\/(Jg l).1.kind=7\/(Jg l).1.kind=8:=by
 unfold Jg;split
 ·split
  ·exact .inr (.inr (zCT _))
  grind
 ·exact .inl rfl
theorem CY(l:Str):(qo l).1.kind=10\/(qo l).1.kind=11\/(qo l).1.kind=12:=by
 unfold qo
 grind
theorem TR{i:Nat}(h:i<=9):i=0\/i=1\/i=2\/i=3\/i=4\/i=5\/i=6\/i=7\/i=8\/i=9:=by omega
theorem zDO(c:UInt8)(r:Str):brK (QO (c::r)).1.kind=brS c r:=by
 rw[nu];rcases TR (yR c r)with h|h|h|h|h|h|h|h|h|h
 ·rw[h];rfl
 ·rw[h,UC];show brK (Rj (Zv c r).1).kind=1;rcases zCy (Zv c r).1 with h|h<;>rw[h]<;>rfl
 ·rw[h];rfl
 ·rw[h,Wt];rcases CY (c::r)with h|h|h<;>rw[h]<;>rfl
 ·rw[h];rfl
 ·rw[h];rfl
 ·rw[h];rfl
 ·rw[h,SC];rcases dW (c::r)with h|h|h|h<;>rw[h]<;>rfl
 ·rw[h];rfl
 ·have b:=zB8 c;have a:=br_9 h;rw[Ob]at a;rw[h,OC];show brK (Ag c)=9;unfold brK
  repeat rw[Ha (by omega)]
theorem xU{q x:Str}(h:(Jg q).2≠[]):Jg (q++x)=((Jg q).1,(Jg q).2++x):=by
 have g:(Zc q).2≠[]:=by intro e;unfold Jg at h;rw[e,Ha (by decide)]at h;exact h rfl
 have e:=Yr x g;unfold Jg;unfold Jg at h;rw[e];simp only;have i:atS ((Zc q).2++x) 0=atS (Zc q).2 0:=jE x (Tg.2 g);rw[i];cases b:atS (Zc q).2 0==40 with
 |false=>rfl
 |true=>
  rw[b,Ka rfl]at h;simp only[Vd];cases f:(Zc q).2 with
  |nil=>grind
  |cons c r=>
   rw[f]at h;rw[show((c::r)++x).drop 1=r++x from rfl];rw[show(c::r).drop 1=r from rfl]at h ⊢;cases j:lowS (Zc q).1==[117,114,108]with
   |false=>
    grind
   |true=>
    rw[j,Kb]at h;simp only[Kb];cases a:past spB r with
    |nil=>
     rw[a,Ka (by decide),Mo]at h
     grind
    |cons d t=>
     rw[Yo x (by rw[a];simp),a];rw[a]at h;rw[show atS ((d::t)++x) 0=atS (d::t) 0 from rfl];split
     ·rename_i k;rw[Ka k]at h;rw[iD x h]
     ·rfl
theorem TF{q x:Str}{n:Nat}(h:n<=q.length):(q++x).drop n=q.drop n++x:=Eg h
structure zxy (q x:Str):Prop where
 e:ZB (q++x)=((ZB q).1++x,(ZB q).2)
 p:numP (q++x)=numP q
 n:nmS ((ZB q).1++x)=nmS (ZB q).1
theorem eX{q x:Str}(a:zxy q x)(h:(qo q).2≠[]):qo (q++x)=((qo q).1,(qo q).2++x):=by
 have f:(ZB q).1≠[]:=by intro e;unfold qo at h;rw[e,Ha (by decide),Ha (by decide)]at h;exact h rfl
 have b:atS ((ZB q).1++x) 0=atS (ZB q).1 0:=jE x (Tg.2 f);unfold qo;unfold qo at h;rw[a.e,a.p];simp only[a.n,b];cases c:nmS (ZB q).1 with
 |true=> rw[c,Ka rfl]at h;simp only[Vd];rw[Yr x h]
 |false=>
  simp only[Sb,Od];cases d:atS (ZB q).1 0==37 with
  |true=> simp_all
  |false=>grind
theorem zCd {c:UInt8} {r x:Str} (f:brS c (r++x)=brS c r) (h:(QO (c::r)).2≠[]) (e:brS c r=2->nmS (r++x)=nmS r)
  (b:brS c r=3->zxy (c::r) x):QO (c::(r++x))=((QO (c::r)).1,(QO (c::r)).2++x):=by
 rw[nu c (r++x),f];rw[nu]at h ⊢;rcases TR (yR c r)with a|a|a|a|a|a|a|a|a|a
 ·rw[a,gI]at h;rw[a,gI,gI,show c::(r++x)=(c::r)++x from rfl,Yo x h]
 ·rw[a,UC]at h;rw[a,UC,UC,GA x h]
 ·rw[a,fI]at h;rw[a,fI,fI,Yr x h,e a]
 ·have g:=b a;rw[a,Wt]at h;rw[a,Wt,Wt,show c::(r++x)=(c::r)++x from rfl,eX g h]
 ·have d:=Jo (br_4 a);rw[a,KR,KR,show c::(r++x)=(c::r)++x from rfl,TF (show 3<=(c::r).length from d)]
 ·have d:=Jo (br_5 a);rw[a,JR,JR,show c::(r++x)=(c::r)++x from rfl,TF (show 4<=(c::r).length from d)]
 ·rw[a,dI]at h;rw[a,dI,dI,Yr x h]
 ·rw[a,SC]at h;rw[a,SC,SC,show c::(r++x)=(c::r)++x from rfl,xU h]
 ·rw[a,IR,IR]
 ·rw[a,OC,OC]
theorem zAZ{q:Str}(x:Str)(h:q≠[]):undot (q++x)=undot q++x:=by
 cases q with
 |nil=>grind
 |cons c r=> unfold undot;show(if c==46 then r++x else c::(r++x))=(if c==46 then r else c::r)++x;split<;>rfl
theorem wJ{m:Str}: ∀{q:Str} (x:Str),m.length<=q.length->m.isPrefixOf (q++x)=m.isPrefixOf q:=by
 induction m with
 |nil=>grind
 |cons a m c=>
  intro q x h;cases q with
  |nil=>grind
  |cons b t=>
   grind
theorem zBH{w:Str}:expS w=none↔((atS w 0==101||atS w 0==69)&&digB (atS (unsign (w.drop 1)) 0))=false:=by
 unfold expS
 grind
theorem VV(q:Str):(qm q).1<:+q:=by
 unfold qm;split
 ·exact(Hl _ _).trans (Ae 1 q)
 grind
theorem zFY(q:Str):(ZB q).1<:+(qm (Kg q)).1:=by
 rw[wz];cases h:expS (qm (Kg q)).1 with
 |some r=>exact PK (jd _) h
 |none=>grind
theorem dX(q:Str):(qo q).2<:+(ZB q).1:=by
 unfold qo;split
 ·exact Kl _
 ·split
  ·exact Ae 1 _
  grind
theorem xW{q:Str}(h:(qo q).2≠[]):(ZB q).1≠[]:=by intro e;have:=(dX q).length_le;simp_all
end Go.Lv.VT
