/- One token: what the scanner's function computes. -/
import Derived.Test.YtpcfcdmidhbkmaaGreatDoorXb
import Derived.Test.YtpcfcdmidhbkmaaGreatDoorXa
set_option linter.unusedSimpArgs false
set_option linter.unusedVariables false
namespace Go.Lv.VT
set_option maxRecDepth 100000
theorem Az {S X R:Type} {step:S->Option (LO S X R)} {k:X->Option R} (Inv:S->Prop) (b:S->Nat) (y:R)
  (h: ∀s,Inv s->(∃s',step s=some (.again s')/\Inv s'/\b s'<b s)\/(∃x,step s=some (.out x)/\k x=some y)\/step s=some (.ret y)) {s:S} (d:Inv s):ZP step s k=some y:=by
 have c: ∀(m:Nat) (s:S),b s<m->Inv s-> ∃r:LX X R,QH step m s=some r/\r.go k=some y:=by
  intro m
  induction m with
  |zero=>intro s h;omega
  |succ m i=>
   intro s f d;simp only[QH];rcases h s d with⟨s',a,e,g⟩|⟨x,a,e⟩|a
   ·grind
   ·simp_all
   simp_all
 obtain⟨r,a,e⟩:=c (b s+1) s (by omega) d;rw[gm (jm a)];exact e
theorem yL(p:UInt8->Bool): ∀l:Str,past p l=l.dropWhile p
 |[]=>rfl
 |c::r=>by
  rw[past,List.dropWhile_cons];cases h:p c with
  |true=>exact yL p r
  |false=>rfl
theorem gp(p:UInt8->Bool)(l:Str):l.takeWhile p++past p l=l:=by rw[yL,List.takeWhile_append_dropWhile]
theorem wo(p:UInt8->Bool): ∀l:Str,(l.takeWhile p).all p=true
 |[]=>rfl
 |c::r=>by simp_all
def sgOf(l:Str):Str:=if Qo (atS l 0)then [atS l 0]else []
theorem dA(l:Str):sgOf l++unsign l=l:=by
 unfold sgOf unsign;cases h:Qo (atS l 0)with
 |false=>rfl
 |true=>
  rw[Ea rfl,Ea rfl];cases l with
  |nil=>exact absurd h (by decide)
  |cons c r=>rfl
theorem KP(l:Str):sgB (sgOf l)=true:=by
 unfold sgOf;cases h:Qo (atS l 0)with
 |false=>rfl
 |true=> rw[Ea rfl];unfold Qo at h;rw[Pb,Sa,Sa]at h;rcases h with h|h<;>rw[h]<;>rfl
def dotP(q:Str):Option Str:=if atS q 0==46&&digB (atS q 1)then some ((q.drop 1).takeWhile digB)else none
def expP(q:Str):Option (UInt8×Str×Str):=
 if(atS q 0==101||atS q 0==69)&&digB (atS (unsign (q.drop 1)) 0)then some (atS q 0,sgOf (q.drop 1),(unsign (q.drop 1)).takeWhile digB)else none
def numP(l:Str):NumP:=⟨sgOf l,(unsign l).takeWhile digB,dotP (past digB (unsign l)),expP (zx (past digB (unsign l))).1⟩
theorem kM(q:Str):dotS (dotP q)++(zx q).1=q/\(zx q).2=(dotP q).isNone:=by
 unfold dotP zx;cases h:atS q 0==46&&digB (atS q 1)with
 |false=>exact⟨rfl,rfl⟩
 |true=>
  rw[Ea rfl,Ea rfl];cases q with
  |nil=>exact absurd h (by decide)
  |cons c r=> rw[Ba,Sa]at h;refine⟨?_,rfl⟩;show(46::List.takeWhile digB r)++past digB r=c::r;rw[Ta,gp,show c=46 from h.1]
theorem JV(q:Str):expT (expP q)++(match expS q with|some r=>r|none=>q)=q:=by
 unfold expP expS;cases a:atS q 0==101||atS q 0==69 with
 |false=>rfl
 |true=>
  cases b:digB (atS (unsign (q.drop 1)) 0)with
  |false=>rfl
  |true=>
   simp only[Bool.and_self,Pd];cases q with
   |nil=>exact absurd a (by decide)
   |cons c r=> show(c::(sgOf r++List.takeWhile digB (unsign r)))++past digB (unsign r)=c::r;rw[Ta,Ia,gp,dA]
theorem ny(l:Str):(numP l).txt++(zo l).1=l:=by
 have c:=(kM (past digB (unsign l))).1;have b:=JV (zx (past digB (unsign l))).1;have a:(zo l).1=(match expS (zx (past digB (unsign l))).1 with|some r=>r|none=>(zx (past digB (unsign l))).1):=by unfold zo;simp only;cases expS (zx (past digB (unsign l))).1<;>rfl
 rw[a];show(sgOf l++(List.takeWhile digB (unsign l)++(dotS (dotP (past digB (unsign l)))++expT (expP (zx (past digB (unsign l))).1))))++_=l;rw[Ia,Ia,Ia,b,c,gp,dA]
theorem xB{p:UInt8->Bool}{q:Str}(h:p (atS q 0)=true)(a:p 0=false):(q.takeWhile p).isEmpty=false:=by
 cases q with
 |nil=>rw[show atS [] 0=0 from rfl,a]at h;cases h
 |cons c r=>rw[List.takeWhile_cons,Ea (show p c=true from h)];rfl
theorem Fw{l:Str}(h:nbS l=true):(numP l).ok=true:=by
 unfold NumP.ok numP;simp only[KP,wo,Nb,Ba];refine⟨?_,?_⟩
 ·unfold dotP;cases a:atS (past digB (unsign l)) 0==46&&digB (atS (past digB (unsign l)) 1)with
  |true=> rw[Ea rfl];simp only[wo,Vb];rw[Ba]at a;rw[xB (p:=digB) (by rw[qV];exact a.2) (by decide)];rfl
  |false=>
   rw[Fa (by decide)];simp only;cases b:digB (atS (unsign l) 0)with
   |true=>rw[xB b (by decide)];rfl
   |false=>
    exfalso;have f:past digB (unsign l)=unsign l:=by
     cases e:unsign l with
     |nil=>rfl
     |cons c r=>rw[e]at b;rw[past,Fa (by rw[show digB c=false from b];decide)]
    rw[f]at a;unfold nbS undot at h;cases d:atS (unsign l) 0==46 with
    |false=>grind
    |true=>
     rw[d,Ea rfl,qV]at h
     grind
 ·unfold expP;cases a:(atS (zx (past digB (unsign l))).1 0==101||atS (zx (past digB (unsign l))).1 0==69)&&digB (atS (unsign ((zx (past digB (unsign l))).1.drop 1)) 0)with
  |false=>rfl
  |true=> rw[Ea rfl];rw[Ba]at a;simp only[a.1,KP,wo,Vb,Nb];rw[xB a.2 (by decide)];rfl
theorem zAX{n:NumP}(h:n.ok=true):n.txt≠[]:=by
 obtain⟨c,D,F,X⟩:=n;unfold NumP.ok at h;simp only[Ba]at h;intro e;unfold NumP.txt at e;simp only[Jc]at e;obtain⟨g,b,a,d⟩:=e;subst b;cases F with
 |none=>grind
 |some f=>cases a
theorem bN{c:UInt8}{r:Str}(h:nbS (c::r)=true):(zo (c::r)).1<:+r:=by
 have e:=ny (c::r);have b:=zAX (Fw h);cases a:(numP (c::r)).txt with
 |nil=>grind
 |cons d t=>
  grind
def zk(l:Str):zb×Str:=
 if nmS (zo l).1 then(⟨12,[],(numP l).val,(zg (zo l).1).1,(zo l).2⟩,(zg (zo l).1).2)
 else if atS (zo l).1 0==37 then(⟨11,[],(numP l).val,[],false⟩,(zo l).1.drop 1)
 else(⟨10,[],(numP l).val,[],(zo l).2⟩,(zo l).1)
theorem wR{s l t e:Str}(a:l<:+s)(h:t++e=l):List.drop (beh s l) (List.take (beh s e) s)=t:=by
 obtain⟨p,rfl⟩:=a;subst h;have c:beh (p++(t++e)) (t++e)=p.length:=by unfold beh;simp only[Ga];omega
 have b:beh (p++(t++e)) e=(p++t).length:=by unfold beh;simp only[Ga];omega
 grind
theorem UT{s l:Str}(hs:s.length<=40000)(hl:l<:+s)(h:nbS l=true):Zj (sr s l)=some ((zk l).1,sr s (zk l).2):=by
 have hsb:s.length<=big:=by unfold big;omega
 have he:=wX hl;have hle:=hl.length_le;have hsp:=ny l;have hel:(zo l).1.length<=l.length:=by have:=congrArg List.length hsp;rw[Ga]at this;omega
 have htl:(numP l).txt.length<=40000:=by have:=congrArg List.length hsp;rw[Ga]at this;omega
 unfold Zj;rw[GV hsb hl];simp only[ze,Aa];have h1:(beh s l:Int)<=(beh s (zo l).1:Int):=by unfold beh;omega
 have h2:=Oj s (zo l).1;rw[zG (by simp_all),Yb,Yb,wR hl hsp,oG (Fw h) htl];simp only[Aa];rw[show zH (0,sr s (zo l).1)=some (nmS (zo l).1)from iA (k:=0) hsb he (by omega)];simp only[Aa];unfold zk;cases hn:nmS (zo l).1 with
 |true=> rw[Ha,Ev hsb he,Ea rfl];rfl
 |false=>
  rw[Ja,Og hsb he,Fa (by decide)];simp only[Aa,zBg];cases h37:atS (zo l).1 0==37 with
  |true=> rw[Ha,zh,Dr hsb he (by grind),Ea rfl]
  |false=>simp_all
theorem FD(l:Str):(zg l).1.length<=4*l.length:=by
 match l with
 |[]=>rw[Z9];grind
 |c::r=>
  rw[zI];split
  ·have:=FD r
   grind
  ·split
   ·have b:=zP r;have a:=Ez r;have:=FD (zm r).2
    grind
   grind
termination_by l.length
decreasing_by
 all_goals grind
def ZO(l:Str):zb×Str:=
 if atS (zg l).2 0==40 then
  (if(lowS (zg l).1==[117,114,108])&& !(atS (past spB ((zg l).2.drop 1)) 0==34||atS (past spB ((zg l).2.drop 1)) 0==39)
  then(Ni (urlS (past spB ((zg l).2.drop 1))).1,(urlS (past spB ((zg l).2.drop 1))).2)
  else(⟨2,(zg l).1,0,[],false⟩,(zg l).2.drop 1))
 else(⟨1,(zg l).1,0,[],false⟩,(zg l).2)
theorem tQ{s q:Str}(m:s.length<=40000)(g:q<:+s):Zi (sr s q)=some ((ZO q).1,sr s (ZO q).2):=by
 have a:s.length<=big:=by unfold big;omega
 have e:(zg q).2<:+s:=(QX q).trans g;have l:=FD q;have i:=g.length_le;have f:(zg q).1.length<=big:=by unfold big;omega
 unfold Zi;rw[Ev a g];simp only[ze,Aa,Og a e];unfold bne ZO;rw[zBh];cases d:atS (zg q).2 0==40 with
 |false=>rfl
 |true=>
  have c:atS (zg q).2 0≠0:=by rw[Sa.1 d];decide
  rw[Lb,Ja,Ea rfl,Dr a e c,rF f (by decide),Ot];simp only[Aa];have b:=Tj e 1;cases n:lowS (zg q).1==[117,114,108]with
  |false=>rfl
  |true=>
   rw[Ha,Vv a b,Nb];have k:=Rm spB b;simp only[Aa,Og a k];rw[VP,TP];cases j:atS (past spB ((zg q).2.drop 1)) 0==34 with
   |true=>rfl
   |false=>
    cases h:atS (past spB ((zg q).2.drop 1)) 0==39 with
    |true=>rfl
    |false=> rw[urlR a b];rfl
theorem jT{c:UInt8}{r:Str}(h:letB c=true\/escS (c::r)=true):(zg (c::r)).2<:+r:=by
 rw[zI];split
 ·exact QX r
 ·rename_i a;rw[Ea (h.resolve_left a)];exact(QX _).trans (ZF r)
theorem iK{c:UInt8}{r:Str}(h:nmS (c::r)=true):letB c=true\/escS (c::r)=true:=by
 unfold nmS at h;cases a:atS (c::r) 0==45 with
 |true=> left;rw[show c=45 from Sa.1 a];decide
 |false=>
  rw[a,Fa (by decide),Pb]at h;rcases h with h|h
  ·left;unfold letB;rw[show fstB c=true from h];rfl
  ·exact .inr h
theorem FW{c:UInt8}{r:Str}(h:nmS (c::r)=true):(ZO (c::r)).2<:+r:=by
 have b:=jT (iK h);have a:(zg (c::r)).2.drop 1<:+r:=(He 1 _).trans b;unfold ZO;split
 ·split
  ·exact(KD _).trans ((qB spB _).trans a)
  ·exact a
 ·exact b
def nxU(c:UInt8)(r:Str):zb×Str:=
  if nmS (c::r)then ZO (c::r)
  else if Nf c==0 then(⟨9,[c],0,[],false⟩,r)
  else(Fg (Nf c),r)
def nxT(c:UInt8)(r:Str):zb×Str:=
  if nbS (c::r)then zk (c::r)
  else if [45,45,62].isPrefixOf (c::r)then(Fg 15,(c::r).drop 3)
  else if [60,33,45,45].isPrefixOf (c::r)then(Fg 14,(c::r).drop 4)
  else if c==64&&nmS r then(⟨3,(zg r).1,0,[],false⟩,(zg r).2)
  else nxU c r
def zt:Str->zb×Str
 |[]=>(⟨0,[],0,[],false⟩,[])
 |c::r=>
  if spB c then(Fg 13,past spB (c::r))
  else if c==34||c==39 then(Ei (zK c r).1,(zK c r).2)
  else if c==35&&(letB (atS r 0)||escS r)then(⟨4,(zg r).1,0,[],nmS r⟩,(zg r).2)
  else nxT c r
theorem Qk(c:UInt8)(r:Str):zt (c::r)=
  if spB c then(Fg 13,past spB (c::r))
  else if c==34||c==39 then(Ei (zK c r).1,(zK c r).2)
  else if c==35&&(letB (atS r 0)||escS r)then(⟨4,(zg r).1,0,[],nmS r⟩,(zg r).2)
  else if nbS (c::r)then zk (c::r)
  else if [45,45,62].isPrefixOf (c::r)then(Fg 15,(c::r).drop 3)
  else if [60,33,45,45].isPrefixOf (c::r)then(Fg 14,(c::r).drop 4)
  else if c==64&&nmS r then(⟨3,(zg r).1,0,[],false⟩,(zg r).2)
  else if nmS (c::r)then ZO (c::r)
  else if Nf c==0 then(⟨9,[c],0,[],false⟩,r)
  else(Fg (Nf c),r):=rfl
theorem YY{c:UInt8}{r:Str}(h:nbS (c::r)=true):(zk (c::r)).2<:+r:=by
 have a:=bN h;unfold zk;split
 ·exact(QX _).trans a
 ·split
  ·exact(He 1 _).trans a
  ·exact a
theorem Qs(c:UInt8)(r:Str):(zt (c::r)).2<:+r:=by
 rw[Qk];split
 ·rename_i h;show past spB (c::r)<:+r;rw[past,Ea h];exact qB spB r
 ·split
  ·exact nz c r
  ·split
   ·exact QX r
   ·split
    ·rename_i h;exact YY h
    ·split
     ·exact He 2 r
     ·split
      ·exact He 3 r
      ·split
       ·exact QX r
       ·split
        ·rename_i h;exact FW h
        grind
theorem UV(c:UInt8):decide (Lib.indexByte [58,59,44,91,93,40,41,123,125] c>=0)= !(Nf c==0)/\(Nf c≠0->wu8 (16+wu8 (Lib.indexByte [58,59,44,91,93,40,41,123,125] c))=Nf c):=by
 have: ∀n:Nat,n<256->decide (Lib.indexByte [58,59,44,91,93,40,41,123,125] (UInt8.ofNat n)>=0)= !(Nf (UInt8.ofNat n)==0)/\(Nf (UInt8.ofNat n)≠0->wu8 (16+wu8 (Lib.indexByte [58,59,44,91,93,40,41,123,125] (UInt8.ofNat n)))=Nf (UInt8.ofNat n)):=by decide+kernel
 have:=this c.toNat (ma c);simp_all
theorem Wi{m q:Str}(h:m.isPrefixOf q=true):m.length<=q.length:=by
 grind
def Ir(s:Str)(X:zb×Str):Option (zb×za):=some (X.1,sr s X.2)
theorem zA9{s q:Str}{c:UInt8}{r:Str}(y:s.length<=40000)(b:q<:+s)(D:q=c::r):ZJ (sr s q)=some ((zt q).1,sr s (zt q).2):=by
 subst D;have a:s.length<=big:=by unfold big;omega
 have A:=uh b;have J:(c::r).drop 1=r:=rfl;rw[show zt (c::r)=if spB c then(Fg 13,past spB (c::r))else if c==34||c==39 then(Ei (zK c r).1,(zK c r).2)else if c==35&&(letB (atS r 0)||escS r)then(⟨4,(zg r).1,0,[],nmS r⟩,(zg r).2)else nxT c r from rfl];unfold ZJ;simp only[ze,Og a b,Aa];rw[zG MH];simp only[Gt,Aa,VP,TP,zBf,zBi,SC b,Vq,show atS (c::r) 0=c from rfl,AB];cases Q:spB c with
 |true=> rw[Ha,Vv a b,Ea rfl];rfl
 |false=>
  rw[Ja,Fa (by decide)];cases H:c==34||c==39 with
  |true=> rw[Ha,xP a b,Ea rfl];rfl
  |false=>
   rw[Ja,Fa (by decide)];have p:zC (1,sr s (c::r))=some (escS r):=ky (k:=1) a b (by omega);have g:zH (1,sr s (c::r))=some (nmS r):=iA (k:=1) a b (by omega);have l:zH (0,sr s (c::r))=some (nmS (c::r)):=iA (k:=0) a b (by omega);have u:(⟨s,w64 ((beh s (c::r):Int)+1)⟩:za)=sr s r:=by rw[ug a b]
   rw[u];have o:((Zo (sr s (c::r))).bind fun w=>
    bif w then
     (Zj (sr s (c::r))).bind fun j=>
     some (j.1,j.2)
    else
     (some ([45,45,62].isPrefixOf (c::r))).bind fun v=>
     bif v then
      some ((⟨15,[],0,[],false⟩:zb),(⟨s,w64 ((beh s (c::r):Int)+3)⟩:za))
     else
      (some ([60,33,45,45].isPrefixOf (c::r))).bind fun t=>
      bif t then
       some ((⟨14,[],0,[],false⟩:zb),(⟨s,w64 ((beh s (c::r):Int)+4)⟩:za))
      else
       (zu (c==64) (zH (1,sr s (c::r))) (default:Bool)).bind fun h=>
       bif bif c==64 then h else false then
        (zS (sr s r)).bind fun f=>
        some ((⟨3,f.1,0,[],false⟩:zb),f.2)
       else
        (zH (0,sr s (c::r))).bind fun i=>
        bif i then
         (Zi (sr s (c::r))).bind fun d=>
         some (d.1,d.2)
        else
         (strings_IndexByte ([58,59,44,91,93,40,41,123,125],wu8 (pk (c::r) 0))).bind fun e=>
         bif decide (e>=0)then
          some ((⟨wu8 (16+wu8 e),[],0,[],false⟩:zb),sr s r)
         else
          need (decide (1<=((c::r).length:Int)))<|
          some ((⟨9,List.take 1 (c::r),0,[],false⟩:zb),sr s r))=
    Ir s (nxT c r):=by
    unfold nxT;simp only[MR a b,Aa];cases x:nbS (c::r)with
    |true=> rw[Ha,UT y b x,Ea rfl];rfl
    |false=>
     rw[Ja,Fa (by decide)];cases O:[45,45,62].isPrefixOf (c::r)with
     |true=> rw[Ha,Ea rfl,show(3:Int)=((3:Nat):Int)from rfl,Cv (n:=3) a b (Wi O)];rfl
     |false=>
      rw[Ja,Fa (by decide)];cases L:[60,33,45,45].isPrefixOf (c::r)with
      |true=> rw[Ha,Ea rfl,show(4:Int)=((4:Nat):Int)from rfl,Cv (n:=4) a b (Wi L)];rfl
      |false=>
       rw[Ja,Fa (by decide),g,l];have m: ∀z:Bool,((some z).bind fun h=>bif h then
        (zS (sr s r)).bind fun f=>
        some ((⟨3,f.1,0,[],false⟩:zb),f.2)
       else
        (some (nmS (c::r))).bind fun i=>
        bif i then
         (Zi (sr s (c::r))).bind fun d=>
         some (d.1,d.2)
        else
         (strings_IndexByte ([58,59,44,91,93,40,41,123,125],wu8 (pk (c::r) 0))).bind fun e=>
         bif decide (e>=0)then
          some ((⟨wu8 (16+wu8 e),[],0,[],false⟩:zb),sr s r)
         else
          need (decide (1<=((c::r).length:Int)))<|
          some ((⟨9,List.take 1 (c::r),0,[],false⟩:zb),sr s r))=Ir s (if z then(⟨3,(zg r).1,0,[],false⟩,(zg r).2)else nxU c r):=by
        intro z;unfold nxU;simp only[Aa];cases z with
        |true=> rw[Ha,Ev a A];rfl
        |false=>
         rw[Ja,Fa (by decide)];cases G:nmS (c::r)with
         |true=>rw[Ha,tQ y b];rfl
         |false=>
          rw[Ja,Fa (by decide),Hm,RA];have R:(wu8 (c.toNat:Int)).toNat.toUInt8=c:=by rw[Dt,Ff (ma c),Yb];exact Jd
          rw[R];obtain⟨K,S⟩:=UV c;simp only[Aa,K];cases M:Nf c==0 with
          |true=> rw[Lb,Ja,zG (La (by grind))];rfl
          |false=> rw[Cb,Ha,S (Da.1 M)];rfl
       cases N:c==64 with
       |false=> simp_all
       |true=> have:=m (nmS r);simp_all
   cases C:c==35 with
   |false=> simp only[ZX,Aa,Ja,Df,Lc];exact o
   |true=>
    simp only[zU,Aa,Ha,Vb,Nb,Cs a b,nK];have E:atS (c::r) 1=atS r 0:=rfl;rw[E,p];have F:(bif letB (atS r 0)||escS r then(zH (1,sr s (c::r))).bind fun P=>(zS (sr s r)).bind fun B=>some ((⟨4,B.1,0,[],P⟩:zb),B.2)else Ir s (nxT c r))=Ir s (if(letB (atS r 0)||escS r)then(⟨4,(zg r).1,0,[],nmS r⟩,(zg r).2)else nxT c r):=by
     cases letB (atS r 0)||escS r with
     |false=>rfl
     |true=>rw[Ha,g,Ev a A];rfl
    show _=Ir s (if(letB (atS r 0)||escS r)then(⟨4,(zg r).1,0,[],nmS r⟩,(zg r).2)else nxT c r);rw[<-F];cases T:letB (atS r 0)with
    |true=>rfl
    |false=> simp_all
def clsS:Str->Option Str
 |[]=>none
 |c::r=>if c==42&&atS r 0==47 then some (r.drop 1)else clsS r
theorem Jh: ∀(l:Str) {r:Str},clsS l=some r->r<:+l/\r.length+2<=l.length
 |[],r,h=>by cases h
 |c::t,r,h=>by
  unfold clsS at h;split at h
  ·rename_i a;rw[Ba,Sa,Sa]at a;injection h with h;subst h;have:=Vn (l:=t) (n:=0) (by rw[a.2];decide);exact⟨(He 1 t).trans (Ed c t),by grind⟩
  ·obtain⟨d,b⟩:=Jh t h
   grind
theorem pre2(b:UInt8)(l:Str):([42,47]:Str).isPrefixOf (b::l)=(b==42&&atS l 0==47):=by
 have c:((42:UInt8)==b)=(b==42):=by rw[Bool.eq_iff_iff,Sa,Sa];exact eq_comm
 rw[List.isPrefixOf,c];cases l with
 |nil=>rfl
 |cons d t=>
  have a:((47:UInt8)==d)=(d==47):=by rw[Bool.eq_iff_iff,Sa,Sa];exact eq_comm
  rw[List.isPrefixOf,a,List.isPrefixOf];rw[Vb];rfl
theorem kL: ∀l:Str,Lib.index l [42,47]=match clsS l with|none=> -1|some r=>((l.length - r.length - 2:Nat):Int)
 |[]=>rfl
 |b::l=>by
  rw[Lib.index,pre2,clsS];cases h:b==42&&atS l 0==47 with
  |true=>
   grind
  |false=>
   simp only[Bc,Fe];rw[kL l];cases a:clsS l with
   |none=>rfl
   |some r=>
    have:=(Jh l a).2
    grind
def cmtS(l:Str):Str:=
 if([47,42]:Str).isPrefixOf l then
  (match h:clsS (l.drop 2)with
  |some q=>cmtS q
  |none=>[])
 else l
termination_by l.length
decreasing_by
 have:=(Jh _ h).2
 grind
theorem qE(l:Str):cmtS l=if([47,42]:Str).isPrefixOf l then(match clsS (l.drop 2)with|some q=>cmtS q|none=>[])else l:=by
 rw[cmtS]
 grind
theorem zM{l:Str}(h:([47,42]:Str).isPrefixOf l=false):cmtS l=l:=by rw[qE,h];rfl
theorem oh(l:Str):cmtS l<:+l:=by
 rw[qE];split
 ·split
  ·rename_i q b;have a:=Jh _ b;have c:=a.2;rw[ja]at c;exact(oh q).trans (a.1.trans (He 2 l))
  grind
 grind
termination_by l.length
decreasing_by
 grind
theorem ZR(l:Str):cmtS (cmtS l)=cmtS l:=by
 rw[qE l];split
 ·split
  ·rename_i q a;have b:=(Jh _ a).2;rw[ja]at b;exact ZR q
  ·exact zM rfl
 ·rename_i h;exact zM (Bool.eq_false_iff.2 h)
termination_by l.length
decreasing_by
 grind
theorem Al(l:Str):([47,42]:Str).isPrefixOf (cmtS l)=false:=by
 have h:=ZR l;cases b:([47,42]:Str).isPrefixOf (cmtS l)with
 |false=>rfl
 |true=>
  exfalso;rw[qE (cmtS l),b,Ea rfl]at h;have c:=Wi b;rw[show([47,42]:Str).length=2 from rfl]at c;cases a:clsS ((cmtS l).drop 2)with
  |none=>grind
  |some q=>
   rw[a]at h;have d:=(Jh _ a).2;have e:=(oh q).length_le
   grind
theorem pM{s q:Str}(hs:s.length<=40000)(hq:q<:+s):z8 (sr s q)=some (sr s (cmtS q)):=by
 have hsb:s.length<=big:=by unfold big;omega
 unfold z8;refine Az (fun z=> ∃p,z=sr s p/\p<:+s/\cmtS p=cmtS q) (fun z=>s.length - z.at_.toNat) _ ?_ ⟨q,rfl,hq,rfl⟩;rintro _ ⟨p,rfl,hp,he⟩;rw[zG MH];simp only[ze,SC hp,Vq,Aa];rw[qE p]at he;cases hpre:([47,42]:Str).isPrefixOf p with
 |false=>
  grind
 |true=>
  rw[hpre,Ea rfl]at he;have hl:=Wi hpre;rw[show([47,42]:Str).length=2 from rfl]at hl;have hle:=hp.length_le;have hb:=MJ hp hl;have hb2:=Oj s (p.drop 2);rw[Ha];have hw:w64 ((beh s p:Int)+2)=((beh s (p.drop 2):Nat):Int):=by rw[<-hb,zZ (by omega) (by omega)];omega
  rw[hw,zG (by grind),SC (Tj hp 2)];have hlen:(p.drop 2).length<=40000:=by rw[ja];omega
  have hi:Sk (p.drop 2,[42,47])=some (Lib.index (p.drop 2) [42,47]):=by unfold Sk;rw[zG (by exact La (show(p.drop 2).length<4294967281 by omega))]
  rw[hi,kL];simp only[Aa];cases hc:clsS (p.drop 2)with
  |none=>
   rw[hc]at he;refine .inr (.inr ?_);rw[<-he];show _=some (LO.ret (⟨s,(beh s []:Int)⟩:za));unfold beh
   grind
  |some r=>
   rw[hc]at he;obtain⟨h1,h2⟩:=Jh _ hc;have hrs:r<:+s:=h1.trans (Tj hp 2);rw[ja]at h2 hlen;simp only;rw[Ob (by omega),Ja];refine .inl ⟨sr s r,?_,⟨r,rfl,hrs,he⟩,?_⟩
   ·rw[ja,zZ (n:=_+4) (by omega) (by omega)];have:(beh s p:Int)+(((p.length - 2 - r.length - 2:Nat):Int)+4)=((beh s r:Nat):Int):=by unfold beh;omega
    rw[this,zZ (by grind) (by grind)]
   ·show s.length - beh s r<s.length - beh s p;unfold beh;omega
def zV(l:Str):List zb:=
 match h:cmtS l with
 |[]=>[]
 |c::r=>(zt (c::r)).1::zV (zt (c::r)).2
termination_by l.length
decreasing_by
 have b:=(Qs c r).length_le;have a:=(oh l).length_le
 grind
theorem ZE{l:Str}(h:cmtS l=[]):zV l=[]:=by
 rw[zV]
 grind
theorem Zb{l:Str}{c:UInt8}{r:Str}(h:cmtS l=c::r):zV l=(zt (c::r)).1::zV (zt (c::r)).2:=by
 rw[zV]
 grind
theorem ql(l:Str):zV (cmtS l)=zV l:=by
 cases h:cmtS l with
 |nil=>rw[ZE h];exact ZE (zM rfl)
 |cons c r=> rw[Zb h];exact Zb (by rw[<-h,ZR])
theorem IX: ∀l:Str,(Proofs.Cl.cleanS l).length<=3*l.length:=by
 have: ∀(n:Nat) (l:Str),l.length<=n->(Proofs.Cl.cleanS l).length<=3*l.length:=by
  intro n
  induction n with
  |zero=>
   intro l h;cases l with
   |nil=>rw[Proofs.Cl.cleanS];grind
   |cons c r=>grind
  |succ n ih=>
   intro l h;rw[Proofs.Cl.cleanS.eq_def]
   grind
 exact fun l=>this l.length l (Va _)
def Ii(w:Str):List zb×Int:=if 4000<w.length then([],28)else if 1500<(zV (Proofs.Cl.cleanS w)).length then([],4)else(zV (Proofs.Cl.cleanS w),0)
theorem VS{n:Nat}(h:n<=100000):zR n 1 56=true:=by unfold zR;grind
theorem gM(w:Str):qU w=some (Ii w):=by
 unfold qU Ii;by_cases b:4000<w.length
 ·have e:Rj w=some ([],28):=by unfold Rj;rw[Ea b]
  unfold Sq
  grind
 ·have e:Rj w=some (Proofs.Cl.cleanS w,0):=by unfold Rj;rw[Fa b]
  rw[Fa b];have x:=IX w;generalize Proofs.Cl.cleanS w=s at e x;have o:s.length<=40000:=by omega
  unfold Sq;rw[e];simp only[ze,Aa];rw[show((0:Int) != 0)=false from rfl,Ja,sr_0,pM o (Re s)];simp only[Aa];have f: ∃z:Int×List zb,ZP (fun(d:Int×List zb×za)=>
    bif decide (d.2.2.at_<(s.length:Int))then
     bif decide (w64 (d.1+1)>1500)then
      some (LO.ret (4,d.2.1))
     else
      (ZJ d.2.2).bind fun t=>
      (Qd ((t.1,d.2.2.at_,t.2.at_),d.2.1)).bind fun y=>
      (z8 t.2).bind fun A=>
      some (LO.again (w64 (d.1+1),y,A))
    else
     some (LO.out (d.2.1,d.2.2)):Int×List zb×za->Option (LO (Int×List zb×za) (List zb×za) (Int×List zb))) (0,[],sr s (cmtS s)) (fun C=>some (0,C.1))=some z/\
    z=(if 1500<(zV s).length then(4,(zV s).take 1500)else(0,zV s)):=by
   refine⟨_,Az (fun z=> ∃(a:List zb) (q:Str),z=((a.length:Int),a,sr s q)/\q<:+s/\cmtS q=q/\a.length<=1500/\a++zV q=zV s) (fun z=>s.length - z.2.2.at_.toNat) (if 1500<(zV s).length then(4,(zV s).take 1500)else(0,zV s)) ?_ ⟨[],cmtS s,rfl,oh s,ZR s,by simp,by rw[Ya,ql]⟩,rfl⟩;rintro _ ⟨a,q,rfl,m,n,G,i⟩;simp only;have l:=m.length_le;cases q with
   |nil=>
    have B:((beh s []:Nat):Int)=(s.length:Int):=by unfold beh;rw[Gc];rfl
    have k:decide (((beh s []:Nat):Int)<(s.length:Int))=false:=Ob (by omega);simp only[k,Ja];rw[ZE (zM rfl),Xa]at i
    grind
   |cons c r=>
    rw[Ka]at l;have B:beh s (c::r)<s.length:=by unfold beh;rw[Ka];omega
    have k:decide (((beh s (c::r):Nat):Int)<(s.length:Int))=true:=La (by omega);have v:w64 ((a.length:Int)+1)=(a.length:Int)+1:=zZ (by omega) (by omega);simp only[k,Ha,v];rw[Zb n]at i;have g:=congrArg List.length i;rw[Ga,Ka]at g;by_cases j:a.length=1500
    ·grind
    ·have p:decide ((a.length:Int)+1>1500)=false:=Ob (by omega);simp only[p,Ja,zA9 o m rfl,Aa];unfold Qd;rw[zG (VS (by simp only;omega))];have h:(zt (c::r)).2<:+s:=(Qs c r).trans (uh m);simp only[Aa,pM o h];refine .inl ⟨_,rfl,⟨a++[(zt (c::r)).1],cmtS (zt (c::r)).2,?_,(oh _).trans h,ZR _,by grind,?_⟩,?_⟩
     ·grind
     ·rw[ql,Ia];exact i
     ·have E:=(Qs c r).length_le;have F:=(oh (zt (c::r)).2).length_le;show s.length - beh s (cmtS (zt (c::r)).2)<s.length - beh s (c::r);unfold beh at*
      grind
  obtain⟨z,D,u⟩:=f
  grind
theorem qc{q:Str}{n:Nat}(x:Str)(h:n<q.length):atS (q++x) n=atS q n:=by
 unfold atS
 grind
theorem Ki{p:UInt8->Bool}(x:Str): ∀{q:Str},past p q≠[]->past p (q++x)=past p q++x
 |[],h=>absurd rfl h
 |c::r,h=>by
  rw[Ta,past,past];rw[past]at h;cases a:p c with
  |true=>rw[a,Ea rfl]at h;rw[Ea rfl,Ea rfl];exact Ki x h
  |false=>rfl
theorem Xw{p:UInt8->Bool}(x:Str): ∀{q:Str},past p q≠[]->(q++x).takeWhile p=q.takeWhile p
 |[],h=>absurd rfl h
 |c::r,h=>by
  rw[Ta,List.takeWhile_cons,List.takeWhile_cons];rw[past]at h;cases a:p c with
  |true=>rw[a,Ea rfl]at h;rw[Ea rfl,Ea rfl,Xw x h]
  |false=>rfl
theorem nL(x:Str): ∀{k n:Nat} {l:Str},(hexes k n l).2≠[]->hexes k n (l++x)=((hexes k n l).1,(hexes k n l).2++x)
 |0,n,l,_=>rfl
 |k+1,n,[],h=>absurd rfl h
 |k+1,n,c::r,h=>by
  rw[Ta,hexes,hexes];rw[hexes]at h;split
  ·rename_i a;rw[Ea a]at h;exact nL x h
  ·rfl
theorem CU{l:Str}(x:Str)(h:l≠[]):unsp (l++x)=unsp l++x:=by
 cases l with
 |nil=>grind
 |cons c r=> show(if spB c then r++x else c::(r++x))=(if spB c then r else c::r)++x;split<;>rfl
theorem yz{r:Str}(x:Str)(h:(zm r).2≠[]):zm (r++x)=((zm r).1,(zm r).2++x):=by
 cases r with
 |nil=>exact absurd rfl h
 |cons c r=>
  have e: ∀t:Str,zm (c::t)=if qy c then(Hg (hexes 6 0 (c::t)).1,unsp (hexes 6 0 (c::t)).2)else([c],t):=fun t=>rfl;rw[Ta,e,e];rw[e]at h;split
  ·rename_i b;rw[Ea b]at h;have a:(hexes 6 0 (c::r)).2≠[]:=by intro d;rw[d]at h;exact h rfl
   rw[show c::(r++x)=(c::r)++x from rfl,nL x a,CU x a]
  ·rfl
theorem Vt{c:UInt8}{r:Str}(x:Str)(h:r≠[]\/c≠92):escS (c::(r++x))=escS (c::r):=by
 unfold escS;show(c==92&& !(atS (r++x) 0==10))=(c==92&& !(atS r 0==10));rcases h with h|h
 ·cases r with
  |nil=>grind
  |cons d t=>rfl
 grind
theorem Mq{q:Str}(x:Str)(h:(zg q).2≠[]):zg (q++x)=((zg q).1,(zg q).2++x):=by
 match q with
 |[]=>rw[Z9]at h;grind
 |c::r=>
  rw[Ta,zI,zI];rw[zI]at h;cases f:letB c with
  |true=> rw[f,Ea rfl]at h;simp only[Pd];rw[Mq x h]
  |false=>
   rw[f,Fa (by decide)]at h;simp only[Bc,Fe];cases a:escS (c::r)with
   |true=>
    rw[a,Ea rfl]at h;have g:(zm r).2≠[]:=by intro e;simp only[e,Z9]at h;exact h rfl
    have b:r≠[]:=by rintro rfl;exact g rfl
    rw[Vt x (.inl b),a];simp only[Pd];rw[yz x g];have:=zP r;simp only;rw[Mq x h]
   |false=>
    have b:r≠[]\/c≠92:=by
     cases r with
     |nil=> right;rintro rfl;exact absurd a (by decide)
     |cons d t=>left;simp
    rw[Vt x b,a];grind
termination_by q.length
decreasing_by
 all_goals grind
theorem oz{m:UInt8}{q:Str}(x:Str)(h:(zK m q).2≠[]):zK m (q++x)=((zK m q).1,(zK m q).2++x):=by
 match q with
 |[]=>rw[QA]at h;grind
 |c::r=>
  rw[Ta,Z7,Z7];rw[Z7]at h;cases g:c==m with
  |true=>grind
  |false=>
   rw[g,Fa (by decide)]at h;simp only[Bc,Fe];cases k:c==10 with
   |true=>grind
   |false=>
    rw[k,Fa (by decide)]at h;simp only[Bc,Fe];cases b:c==92 with
    |false=> rw[b,Fa (by decide)]at h;simp only[Bc,Fe];rw[oz x h]
    |true=>
     rw[b,Ea rfl]at h;simp only[Pd];cases f:r with
     |nil=>grind
     |cons d t=>
      rw[f]at h;have j:r.length=t.length+1:=by rw[f];rfl
      rw[Ta,show(d::(t++x)).isEmpty=false from rfl,show(d::t).isEmpty=false from rfl];simp only[Bc,Fe];rw[show(d::t).isEmpty=false from rfl,Fa (by decide)]at h;rw[show atS (d::(t++x)) 0=atS (d::t) 0 from rfl];cases a:atS (d::t) 0==10 with
      |true=> rw[a,Ea rfl]at h;simp only[Pd];exact oz (q:=t) x h
      |false=>
       rw[a,Fa (by decide)]at h;simp only[Bc,Fe];have i:(zm (d::t)).2≠[]:=by intro e;simp only[e,QA]at h;exact h rfl
       rw[show d::(t++x)=(d::t)++x from rfl,yz x i];have:=zP (d::t);simp only;rw[oz x h]
termination_by q.length
decreasing_by
 all_goals grind
theorem yx{q:Str}(x:Str)(h:badS q≠[]):badS (q++x)=badS q++x:=by
 match q with
 |[]=>rw[Ku]at h;grind
 |c::r=>
  rw[Ta,fu,fu];rw[fu]at h;cases f:c==41 with
  |true=>grind
  |false=>
   rw[f,Fa (by decide)]at h;simp only[Bc,Fe];cases a:escS (c::r)with
   |true=>
    rw[a,Ea rfl]at h;have d:(zm r).2≠[]:=by intro e;rw[e,Ku]at h;exact h rfl
    have b:r≠[]:=by rintro rfl;exact d rfl
    rw[Vt x (.inl b),a];simp only[Pd];rw[yz x d];have:=zP r;exact yx x h
   |false=>
    rw[a,Fa (by decide)]at h;have b:r≠[]\/c≠92:=by left;rintro rfl;rw[Ku]at h;exact h rfl
    rw[Vt x b,a];simp only[Bc,Fe];exact yx x h
termination_by q.length
decreasing_by
 all_goals grind
theorem LD{q:Str}(x:Str)(h:(urlS q).2≠[]):urlS (q++x)=((urlS q).1,(urlS q).2++x):=by
 match q with
 |[]=>rw[Il]at h;grind
 |c::r=>
  rw[Ta,Q5,Q5];rw[Q5]at h;cases l:c==41 with
  |true=>grind
  |false=>
   rw[l,Fa (by decide)]at h;simp only[Bc,Fe];cases j:spB c with
   |true=>
    rw[j,Ea rfl]at h;simp only[Pd];cases f:past spB r with
    |nil=>grind
    |cons d t=>
     rw[Ki x (by rw[f];simp),f];rw[f]at h;simp only[Ta]at h ⊢;cases a:d==41 with
     |true=>grind
     |false=> rw[a,Fa (by decide)]at h;simp only[Bc,Fe];rw[show d::(t++x)=(d::t)++x from rfl,yx x h]
   |false=>
    rw[j,Fa (by decide)]at h;simp only[Bc,Fe];have b:(c=92->r≠[])->escS (c::(r++x))=escS (c::r):=by
     intro k;refine Vt x ?_;by_cases e:c=92
     ·exact .inl (k e)
     ·exact .inr e
    have m:c=92->r≠[]:=by
     rintro rfl rfl;have o:escS [92]=true:=by decide
     rw[o,show((92:UInt8)==92&& !true)=false from rfl,jf]at h;cases i:((92:UInt8)==34||(92:UInt8)==39||(92:UInt8)==40||unB 92)with
     |true=>exact absurd i (by decide)
     |false=> rw[i,Fa (by decide),Ea (by decide)]at h;exact absurd (by show(urlS (zm []).2).2=[];rw[show(zm []).2=[]from rfl,Il]) h
    rw[b m];cases a:c==34||c==39||c==40||unB c||c==92&& !escS (c::r)with
    |true=> rw[a,Ea rfl]at h;simp only[Pd];rw[show c::(r++x)=(c::r)++x from rfl,yx x h]
    |false=>
     rw[a,Fa (by decide)]at h;simp only[Bc,Fe];cases g:c==92 with
     |true=>
      rw[g,Ea rfl]at h;simp only[Pd];have n:(zm r).2≠[]:=by intro e;simp only[e,Il]at h;exact h rfl
      rw[yz x n];have:=zP r;simp only;rw[LD x h]
     |false=> rw[g,Fa (by decide)]at h;simp only[Bc,Fe];rw[LD x h]
termination_by q.length
decreasing_by
 all_goals grind
theorem ZQ{q:Str}(x:Str)(h:q≠[]):unsign (q++x)=unsign q++x/\sgOf (q++x)=sgOf q:=by
 cases q with
 |nil=>grind
 |cons c r=> unfold unsign sgOf;show(if Qo c then r++x else c::(r++x))=(if Qo c then r else c::r)++x/\_;refine⟨by split<;>rfl,rfl⟩
def ae(q:Str):Str:=past digB (unsign q)
theorem Uz{q x:Str}(h:(zx q).1≠[])(f:q=[46]->digB (atS x 0)=false):zx (q++x)=((zx q).1++x,(zx q).2)/\dotP (q++x)=dotP q:=by
 unfold zx dotP;unfold zx at h;cases q with
 |nil=>exact absurd rfl h
 |cons c r=>
  have g:(atS ((c::r)++x) 0==46&&digB (atS ((c::r)++x) 1))=(atS (c::r) 0==46&&digB (atS (c::r) 1)):=by
   show(c==46&&digB (atS (r++x) 0))=(c==46&&digB (atS r 0));cases r with
   |nil=>
    cases a:c==46 with
    |false=>rfl
    |true=> rw[Sa]at a;subst a;show(true&&digB (atS x 0))=(true&&digB (atS [] 0));rw[f rfl];rfl
   |cons d t=>rfl
  rw[g];cases e:(atS (c::r) 0==46&&digB (atS (c::r) 1))with
  |false=>grind
  |true=>
   rw[e,Ea rfl]at h;simp only[Pd];rw[show((c::r)++x).drop 1=r++x from rfl,show(c::r).drop 1=r from rfl];have b:past digB r≠[]:=h;rw[Ki x b,Xw x b]
   grind
theorem DR{w x:Str}(hw:w≠[])(h: ∀r,expS w=some r->r≠[])(hn:expS w=none->expS (w++x)=none):
  expS (w++x)=(expS w).map (· ++x)/\expP (w++x)=expP w:=by
 have hP: ∀q:Str,expP q=if(expS q).isSome then some (atS q 0,sgOf (q.drop 1),(unsign (q.drop 1)).takeWhile digB)else none:=by
  intro q;unfold expP expS;cases atS q 0==101||atS q 0==69 with
  |false=>rfl
  |true=>
   grind
 cases he:expS w with
 |none=>
  grind
 |some r=>
  have hr:=h r he;cases w with
  |nil=>grind
  |cons c t=>
   have he':=he;unfold expS at he';cases h1:atS (c::t) 0==101||atS (c::t) 0==69 with
   |false=>grind
   |true=>
    rw[h1,Ea rfl]at he';cases h2:digB (atS (unsign ((c::t).drop 1)) 0)with
    |false=>grind
    |true=>
     rw[h2,Ea rfl]at he';have hrr:past digB (unsign t)=r:=by injection he'
     have ht:t≠[]:=by rintro rfl;exact absurd (show digB (atS (unsign []) 0)=true from h2) (by decide)
     obtain⟨u1,u2⟩:=ZQ x ht;have hun:unsign t≠[]:=by intro e;rw[show(c::t).drop 1=t from rfl,e]at h2;exact absurd h2 (by decide)
     have hexp:expS ((c::t)++x)=some (r++x):=by unfold expS;rw[show atS ((c::t)++x) 0=atS (c::t) 0 from rfl,h1,Ea rfl,show((c::t)++x).drop 1=t++x from rfl,u1];have:atS (unsign t++x) 0=atS (unsign t) 0:=qc x (Ib.2 hun);rw[this,show digB (atS (unsign t) 0)=true from h2,Ea rfl,Ki x (by grind),hrr]
     refine⟨by rw[hexp];rfl,?_⟩;rw[hP,hP,hexp,he];simp only[Option.isSome_some,Pd];rw[show((c::t)++x).drop 1=t++x from rfl,show(c::t).drop 1=t from rfl,u1,u2,Xw x (by grind)];rfl
theorem ZU(q:Str):zo q=(match expS (zx (ae q)).1 with|some r=>(r,false)|none=>zx (ae q)):=rfl
theorem Dp{q x:Str}(h:(zo q).1≠[])(j:ae q=[46]->digB (atS x 0)=false)(l:expS (zx (ae q)).1=none->expS ((zx (ae q)).1++x)=none):
  zo (q++x)=((zo q).1++x,(zo q).2)/\numP (q++x)=numP q:=by
 rw[ZU]at h;have a: ∀r,expS (zx (ae q)).1=some r->r≠[]:=by intro r p;rw[p]at h;exact h
 have b:(zx (ae q)).1≠[]:=by intro e;rw[e,show expS []=none from rfl]at h;exact h e
 have c:ae q≠[]:=by intro e;rw[e]at b;exact b rfl
 have n:q≠[]:=by rintro rfl;exact c rfl
 obtain⟨d,k⟩:=ZQ x n;have f:ae (q++x)=ae q++x:=by unfold ae;rw[d];exact Ki x c
 obtain⟨i,m⟩:=Uz b j;obtain⟨s,o⟩:=DR b a l;have g: ∀z:Str,numP z=⟨sgOf z,(unsign z).takeWhile digB,dotP (ae z),expP (zx (ae z)).1⟩:=fun z=>rfl;constructor
 ·rw[ZU,ZU,f,i]
  grind
 ·rw[g,g,k,d,Xw x c,f,i,m,o]
def brS(c:UInt8)(r:Str):Nat:=
 if spB c then 0
 else if c==34||c==39 then 1
 else if c==35&&(letB (atS r 0)||escS r)then 2
 else if nbS (c::r)then 3
 else if [45,45,62].isPrefixOf (c::r)then 4
 else if [60,33,45,45].isPrefixOf (c::r)then 5
 else if c==64&&nmS r then 6
 else if nmS (c::r)then 7
 else if Nf c==0 then 8
 else 9
def nxB:Nat->UInt8->Str->zb×Str
 |0,c,r=>(Fg 13,past spB (c::r))
 |1,c,r=>(Ei (zK c r).1,(zK c r).2)
 |2,_,r=>(⟨4,(zg r).1,0,[],nmS r⟩,(zg r).2)
 |3,c,r=>zk (c::r)
 |4,c,r=>(Fg 15,(c::r).drop 3)
 |5,c,r=>(Fg 14,(c::r).drop 4)
 |6,_,r=>(⟨3,(zg r).1,0,[],false⟩,(zg r).2)
 |7,c,r=>ZO (c::r)
 |8,c,r=>(⟨9,[c],0,[],false⟩,r)
 |_+9,c,r=>(Fg (Nf c),r)
theorem EB(c:UInt8)(r:Str):nxB 0 c r=(Fg 13,past spB (c::r)):=by rw[nxB]
theorem Yn(c:UInt8)(r:Str):nxB 1 c r=(Ei (zK c r).1,(zK c r).2):=by rw[nxB]
theorem Jk(c:UInt8)(r:Str):nxB 2 c r=(⟨4,(zg r).1,0,[],nmS r⟩,(zg r).2):=by rw[nxB]
theorem Mg(c:UInt8)(r:Str):nxB 3 c r=zk (c::r):=by rw[nxB]
theorem xO(c:UInt8)(r:Str):nxB 4 c r=(Fg 15,(c::r).drop 3):=by rw[nxB]
theorem wO(c:UInt8)(r:Str):nxB 5 c r=(Fg 14,(c::r).drop 4):=by rw[nxB]
theorem Xn(c:UInt8)(r:Str):nxB 6 c r=(⟨3,(zg r).1,0,[],false⟩,(zg r).2):=by rw[nxB]
theorem Mh(c:UInt8)(r:Str):nxB 7 c r=ZO (c::r):=by rw[nxB]
theorem Av(c:UInt8)(r:Str):nxB 8 c r=(⟨9,[c],0,[],false⟩,r):=by rw[nxB]
theorem CB(c:UInt8)(r:Str):nxB 9 c r=(Fg (Nf c),r):=rfl
theorem Zh(c:UInt8)(r:Str):zt (c::r)=nxB (brS c r) c r:=by
 rw[Qk];unfold brS;split
 ·rfl
 ·split
  ·rfl
  ·split
   ·rfl
   ·split
    ·rfl
    ·split
     ·rfl
     ·split
      ·rfl
      ·split
       ·rfl
       ·split
        ·rfl
        ·split<;>rfl
theorem br_0{c:UInt8}{r:Str}:brS c r=0->spB c=true:=by unfold brS;grind
theorem br_1{c:UInt8}{r:Str}:brS c r=1->(c==34||c==39)=true:=by unfold brS;grind
theorem br_2{c:UInt8}{r:Str}:brS c r=2->(c==35&&(letB (atS r 0)||escS r))=true:=by unfold brS;grind
theorem br_3{c:UInt8}{r:Str}:brS c r=3->nbS (c::r)=true:=by unfold brS;grind
theorem br_4{c:UInt8}{r:Str}:brS c r=4->[45,45,62].isPrefixOf (c::r)=true:=by unfold brS;grind
theorem br_5{c:UInt8}{r:Str}:brS c r=5->[60,33,45,45].isPrefixOf (c::r)=true:=by unfold brS;grind
theorem br_6{c:UInt8}{r:Str}:brS c r=6->(c==64&&nmS r)=true:=by unfold brS;grind
theorem br_7{c:UInt8}{r:Str}:brS c r=7->nmS (c::r)=true:=by unfold brS;grind
theorem br_8{c:UInt8}{r:Str}:brS c r=8->(Nf c==0)=true:=by unfold brS;grind
theorem br_9{c:UInt8}{r:Str}:brS c r=9-> ¬(Nf c==0)=true:=by unfold brS;grind
theorem Mv(c:UInt8)(r:Str):brS c r<=9:=by unfold brS;grind
def brK(k:Int):Nat:=
 if k=13 then 0 else if k=5\/k=6 then 1 else if k=4 then 2 else if k=10\/k=11\/k=12 then 3 else if k=15 then 4 else if k=14 then 5 else if k=3 then 6
 else if k=1\/k=2\/k=7\/k=8 then 7 else if k=9 then 8 else 9
theorem TV(c:UInt8):Nf c=0\/(16<=Nf c/\Nf c<=24):=by
 have: ∀n:Nat,n<256->Nf (UInt8.ofNat n)=0\/(16<=Nf (UInt8.ofNat n)/\Nf (UInt8.ofNat n)<=24):=by decide+kernel
 have:=this c.toNat (ma c);simp_all
theorem xS(o:Option Str):(Ei o).kind=5\/(Ei o).kind=6:=by cases o<;>simp[Ei]
theorem Hy(o:Option Str):(Ni o).kind=7\/(Ni o).kind=8:=by cases o<;>simp[Ni]
theorem IY(l:Str):(ZO l).1.kind=1\/(ZO l).1.kind=2\/(ZO l).1.kind=7\/(ZO l).1.kind=8:=by
 unfold ZO;split
 ·split
  ·exact .inr (.inr (Hy _))
  grind
 ·exact .inl rfl
theorem iN(l:Str):(zk l).1.kind=10\/(zk l).1.kind=11\/(zk l).1.kind=12:=by
 unfold zk
 grind
theorem fA{i:Nat}(h:i<=9):i=0\/i=1\/i=2\/i=3\/i=4\/i=5\/i=6\/i=7\/i=8\/i=9:=by omega
theorem Qu(c:UInt8)(r:Str):brK (zt (c::r)).1.kind=brS c r:=by
 rw[Zh];rcases fA (Mv c r)with h|h|h|h|h|h|h|h|h|h
 ·rw[h];rfl
 ·rw[h,Yn];show brK (Ei (zK c r).1).kind=1;rcases xS (zK c r).1 with h|h<;>rw[h]<;>rfl
 ·rw[h];rfl
 ·rw[h,Mg];rcases iN (c::r)with h|h|h<;>rw[h]<;>rfl
 ·rw[h];rfl
 ·rw[h];rfl
 ·rw[h];rfl
 ·rw[h,Mh];rcases IY (c::r)with h|h|h|h<;>rw[h]<;>rfl
 ·rw[h];rfl
 ·have b:=TV c;have a:=br_9 h;rw[Sa]at a;rw[h,CB];show brK (Nf c)=9;unfold brK
  repeat rw[Fa (by omega)]
theorem IW{q x:Str}(h:(ZO q).2≠[]):ZO (q++x)=((ZO q).1,(ZO q).2++x):=by
 have g:(zg q).2≠[]:=by intro e;unfold ZO at h;rw[e,Fa (by decide)]at h;exact h rfl
 have e:=Mq x g;unfold ZO;unfold ZO at h;rw[e];simp only;have i:atS ((zg q).2++x) 0=atS (zg q).2 0:=qc x (Ib.2 g);rw[i];cases b:atS (zg q).2 0==40 with
 |false=>rfl
 |true=>
  rw[b,Ea rfl]at h;simp only[Pd];cases f:(zg q).2 with
  |nil=>grind
  |cons c r=>
   rw[f]at h;rw[show((c::r)++x).drop 1=r++x from rfl];rw[show(c::r).drop 1=r from rfl]at h ⊢;cases j:lowS (zg q).1==[117,114,108]with
   |false=>
    grind
   |true=>
    rw[j,Nb]at h;simp only[Nb];cases a:past spB r with
    |nil=>
     rw[a,Ea (by decide),Il]at h
     grind
    |cons d t=>
     rw[Ki x (by rw[a];simp),a];rw[a]at h;rw[show atS ((d::t)++x) 0=atS (d::t) 0 from rfl];split
     ·rename_i k;rw[Ea k]at h;rw[LD x h]
     ·rfl
theorem Xm{q x:Str}{n:Nat}(h:n<=q.length):(q++x).drop n=q.drop n++x:=List.drop_append_of_le_length h
structure zg3 (q x:Str):Prop where
 e:zo (q++x)=((zo q).1++x,(zo q).2)
 p:numP (q++x)=numP q
 n:nmS ((zo q).1++x)=nmS (zo q).1
theorem aY{q x:Str}(a:zg3 q x)(h:(zk q).2≠[]):zk (q++x)=((zk q).1,(zk q).2++x):=by
 have f:(zo q).1≠[]:=by intro e;unfold zk at h;rw[e,Fa (by decide),Fa (by decide)]at h;exact h rfl
 have b:atS ((zo q).1++x) 0=atS (zo q).1 0:=qc x (Ib.2 f);unfold zk;unfold zk at h;rw[a.e,a.p];simp only[a.n,b];cases c:nmS (zo q).1 with
 |true=> rw[c,Ea rfl]at h;simp only[Pd];rw[Mq x h]
 |false=>
  simp only[Bc,Fe];cases d:atS (zo q).1 0==37 with
  |true=> simp_all
  |false=>grind
theorem Bq {c:UInt8} {r x:Str} (f:brS c (r++x)=brS c r) (h:(zt (c::r)).2≠[]) (e:brS c r=2->nmS (r++x)=nmS r)
  (b:brS c r=3->zg3 (c::r) x):zt (c::(r++x))=((zt (c::r)).1,(zt (c::r)).2++x):=by
 rw[Zh c (r++x),f];rw[Zh]at h ⊢;rcases fA (Mv c r)with a|a|a|a|a|a|a|a|a|a
 ·rw[a,EB]at h;rw[a,EB,EB,show c::(r++x)=(c::r)++x from rfl,Ki x h]
 ·rw[a,Yn]at h;rw[a,Yn,Yn,oz x h]
 ·rw[a,Jk]at h;rw[a,Jk,Jk,Mq x h,e a]
 ·have g:=b a;rw[a,Mg]at h;rw[a,Mg,Mg,show c::(r++x)=(c::r)++x from rfl,aY g h]
 ·have d:=Wi (br_4 a);rw[a,xO,xO,show c::(r++x)=(c::r)++x from rfl,Xm (show 3<=(c::r).length from d)]
 ·have d:=Wi (br_5 a);rw[a,wO,wO,show c::(r++x)=(c::r)++x from rfl,Xm (show 4<=(c::r).length from d)]
 ·rw[a,Xn]at h;rw[a,Xn,Xn,Mq x h]
 ·rw[a,Mh]at h;rw[a,Mh,Mh,show c::(r++x)=(c::r)++x from rfl,IW h]
 ·rw[a,Av,Av]
 ·rw[a,CB,CB]
theorem Hz{q:Str}(x:Str)(h:q≠[]):undot (q++x)=undot q++x:=by
 cases q with
 |nil=>grind
 |cons c r=> unfold undot;show(if c==46 then r++x else c::(r++x))=(if c==46 then r else c::r)++x;split<;>rfl
theorem oV(q:Str):q.length<=(undot q).length+1:=by
 unfold undot
 grind
theorem IG(q:Str):q.length<=(unsign q).length+1:=by
 unfold unsign
 grind
theorem om{q:Str}(h:1<=q.length):q≠[]:=by grind
theorem zAk{q:Str}(x:Str)(h:3<=q.length):nbS (q++x)=nbS q:=by have b:=IG q;have a:=oV (unsign q);unfold nbS;rw[(ZQ x (om (by omega))).1,Hz x (om (by omega)),qc x (by omega)]
theorem Jw{q:Str}(x:Str)(h:3<=q.length):nmS (q++x)=nmS q:=by unfold nmS escS;rw[Xm (by omega),qc x (show 0<q.length by omega),qc x (show 1<q.length by omega),qc x (show 0<(q.drop 1).length by grind),qc x (show 1<(q.drop 1).length by grind)]
theorem jk{m:Str}: ∀{q:Str} (x:Str),m.length<=q.length->m.isPrefixOf (q++x)=m.isPrefixOf q:=by
 induction m with
 |nil=>grind
 |cons a m c=>
  intro q x h;cases q with
  |nil=>grind
  |cons b t=>
   grind
theorem SQ{c:UInt8}{r:Str}(x:Str)(h:4<=r.length):brS c (r++x)=brS c r:=by
 have e:c::(r++x)=(c::r)++x:=rfl;have hl:(c::r).length=r.length+1:=rfl;unfold brS;rw[e,zAk x (by omega),jk x (by grind),jk x (by grind),Jw x (q:=r) (by omega),Jw x (q:=c::r) (by omega),qc x (show 0<r.length by omega)];have:escS (r++x)=escS r:=by unfold escS;rw[qc x (show 0<r.length by omega),qc x (show 1<r.length by omega)]
 rw[this]
theorem Q6{w:Str}:expS w=none↔((atS w 0==101||atS w 0==69)&&digB (atS (unsign (w.drop 1)) 0))=false:=by
 unfold expS
 grind
theorem CR{w:Str}(x:Str)(h:3<=w.length)(a:expS w=none):expS (w++x)=none:=by rw[Q6]at a ⊢;have b:=IG (w.drop 1);rw[ja]at b;rw[Xm (by omega),(ZQ x (om (by grind))).1,qc x (show 0<w.length by omega),qc x (by omega)];exact a
theorem NY(q:Str):(zx q).1<:+q:=by
 unfold zx;split
 ·exact(qB _ _).trans (He 1 q)
 grind
theorem EQ(q:Str):(zo q).1<:+(zx (ae q)).1:=by
 rw[ZU];cases h:expS (zx (ae q)).1 with
 |some r=>exact fJ (Re _) h
 |none=>grind
theorem AA(q:Str):(zk q).2<:+(zo q).1:=by
 unfold zk;split
 ·exact QX _
 ·split
  ·exact He 1 _
  grind
theorem UR{q:Str}(x:Str)(h:4<=(zo q).1.length):zg3 q x:=by have d:=(EQ q).length_le;have c:=(NY (ae q)).length_le;obtain⟨a,b⟩:=Dp (q:=q) (x:=x) (om (by omega)) (fun e=>by grind) (CR x (by omega));exact⟨a,b,Jw x (by omega)⟩
theorem gT{c:UInt8}{r:Str}(x:Str)(h:4<=(zt (c::r)).2.length):zt (c::(r++x))=((zt (c::r)).1,(zt (c::r)).2++x):=by have b:=(Qs c r).length_le;refine Bq (SQ x (by omega)) (om (by omega)) (fun _=>Jw x (by omega)) (fun a=>UR x ?_);rw[Zh,a,Mg]at h;have:=(AA (c::r)).length_le;omega
theorem Aw(q y:Str):escS (q++47::y)=escS q:=by
 match q with
 |[]=>rfl
 |[c]=>rfl
 |c::d::t=>rfl
theorem Cr(q y:Str):nmS (q++47::y)=nmS q:=by
 match q with
 |[]=>rfl
 |[c]=> unfold nmS;show(if c==45 then fstB 47||47==45||escS (47::y)else fstB c||escS ([c]++47::y))=(if c==45 then fstB 0||0==45||escS []else fstB c||escS [c]);rw[Aw];rfl
 |c::d::t=> unfold nmS;show(if c==45 then fstB d||d==45||escS ((d::t)++47::y)else fstB c||escS ((c::d::t)++47::y))=(if c==45 then fstB d||d==45||escS (d::t)else fstB c||escS (c::d::t));rw[Aw,Aw]
theorem uH(q y:Str):digB (atS (q++47::y) 0)=digB (atS q 0):=by
 cases q with
 |nil=>rfl
 |cons c t=>rfl
theorem WL(q y:Str):unsign (q++47::y)=unsign q++47::y:=by
 cases q with
 |nil=>rfl
 |cons c t=>exact(ZQ (47::y) (by simp)).1
theorem DU(q y:Str):undot (q++47::y)=undot q++47::y:=by
 cases q with
 |nil=>rfl
 |cons c t=>exact Hz (47::y) (by simp)
theorem zA8(q y:Str):nbS (q++47::y)=nbS q:=by unfold nbS;rw[WL,DU,uH]
theorem dH{m:Str}(c: ∀b∈m,b≠47): ∀(q y:Str),m.isPrefixOf (q++47::y)=m.isPrefixOf q:=by
 induction m with
 |nil=>grind
 |cons a m d=>
  intro q y;cases q with
  |nil=>
   grind
  |cons b t=>grind
theorem zAb(q y:Str):letB (atS (q++47::y) 0)=letB (atS q 0):=by
 cases q with
 |nil=>rfl
 |cons c t=>rfl
theorem KH(c:UInt8)(r y:Str):brS c (r++47::y)=brS c r:=by have e:c::(r++47::y)=(c::r)++47::y:=rfl;unfold brS;rw[e,zA8,dH (by decide),dH (by decide),Cr,Cr,zAb,Aw]
theorem BQ{w:Str}(y:Str)(a:expS w=none):expS (w++47::y)=none:=by
 cases w with
 |nil=>rfl
 |cons c t=> rw[Q6]at a ⊢;show((c==101||c==69)&&digB (atS (unsign (t++47::y)) 0))=false;rw[WL,uH];exact a
theorem zAp{q:Str}(y:Str)(h:(zo q).1≠[]):zg3 q (47::y):=by obtain⟨a,b⟩:=Dp (q:=q) (x:=47::y) h (fun _=>rfl) (BQ y);exact⟨a,b,Cr _ y⟩
theorem pz{q:Str}(h:(zk q).2≠[]):(zo q).1≠[]:=by intro e;have:=(AA q).length_le;simp_all
theorem YR{c:UInt8}{r:Str}(y:Str)(h:(zt (c::r)).2≠[]):zt (c::(r++47::y))=((zt (c::r)).1,(zt (c::r)).2++47::y):=by refine Bq (KH c r y) h (fun _=>Cr r y) (fun a=>zAp y ?_);rw[Zh,a,Mg]at h;exact pz h
def Sr(c:UInt8)(r x:Str):Prop:=(∃e a,(e=101\/e=69)/\zx (ae (c::r))=([e,43],a))/\(zt (c::r)).2=[43]/\(zt (c::r)).1.kind=12/\digB (atS x 0)=true
theorem WT{c:UInt8}{r x:Str}(hb:brS c r=3)(h:(zt (c::r)).2≠[])(hx:x≠[])(ht:(zk ((c::r)++x)).1=(zk (c::r)).1):
  zg3 (c::r) x\/Sr c r x:=by
 have hnx:zt (c::r)=zk (c::r):=by rw[Zh,hb,Mg]
 rw[hnx]at h;have he:=pz h;have hflag: ∀q:Str,(zk q).1.kind=10->(zk q).1.flag=(zo q).2:=by
  intro q;unfold zk;split
  ·intro h;cases h
  ·grind
 have hnm: ∀q:Str,((zk q).1.kind=12↔nmS (zo q).1=true):=by
  intro q;unfold zk;split
  ·grind
  ·grind
 by_cases hd:ae (c::r)=[46]->digB (atS x 0)=false
 ·by_cases hn:expS (zx (ae (c::r))).1=none->expS ((zx (ae (c::r))).1++x)=none
  ·obtain⟨a,b⟩:=Dp he hd hn;refine .inl ⟨a,b,?_⟩
   grind
  ·right;obtain⟨hn1,hn2⟩:=Classical.not_imp.1 hn;have hend:zo (c::r)=zx (ae (c::r)):=by rw[ZU,hn1]
   rw[hend]at he;obtain⟨w,fl⟩: ∃w fl,zx (ae (c::r))=(w,fl):=⟨_,_,rfl⟩;obtain⟨fl,hw⟩:=fl;rw[hw]at he hn1 hn2 hend;simp only at he hn1 hn2;rw[Q6]at hn1;rw[Q6]at hn2;cases w with
   |nil=>grind
   |cons e t=>
    have h2:((e==101||e==69)&&digB (atS (unsign (t++x)) 0))=true:=by
     have:((atS ((e::t)++x) 0==101||atS ((e::t)++x) 0==69)&&digB (atS (unsign (((e::t)++x).drop 1)) 0))=true:=by
      cases hh:((atS ((e::t)++x) 0==101||atS ((e::t)++x) 0==69)&&digB (atS (unsign (((e::t)++x).drop 1)) 0))with
      |true=>rfl
      |false=>grind
     exact this
    have h1:((e==101||e==69)&&digB (atS (unsign t) 0))=false:=hn1;rw[Ba]at h2;rw[h2.1,Nb]at h1;have hee:e=101\/e=69:=by have:=h2.1;rw[Pb,Sa,Sa]at this;exact this
    have hfst:fstB e=true/\letB e=true/\(e==45)=false:=by rcases hee with rfl|rfl<;>decide
    have hnmw:nmS (e::t)=true:=by unfold nmS;rw[show atS (e::t) 0=e from rfl,hfst.2.2,Fa (by decide),hfst.1];rfl
    have hnum:zk (c::r)=(⟨12,[],(numP (c::r)).val,(zg (e::t)).1,fl⟩,(zg (e::t)).2):=by unfold zk;rw[hend,Ea hnmw]
    rw[hnum]at h;have h':(zg (e::t)).2≠[]:=h;have ht43:t=[43]/\digB (atS x 0)=true:=by
     match t with
     |[]=>rw[zI,Ea hfst.2.1,Z9]at h';grind
     |[d]=>
      have hux:unsign ([d]++x)=if Qo d then x else d::x:=rfl;have hu:unsign [d]=if Qo d then []else [d]:=rfl;rw[hux]at h2;rw[hu]at h1;cases hs:Qo d with
      |false=>
       rw[hs,Fa (by decide)]at h1 h2;have:=h2.2;rw[show atS (d::x) 0=atS [d] 0 from rfl,h1]at this;cases this
      |true=>
       rw[hs,Ea rfl]at h2;unfold Qo at hs;rw[Pb,Sa,Sa]at hs;rcases hs with rfl|rfl
       ·grind
       ·rw[zI,Ea hfst.2.1,zI,Ea (by decide),Z9]at h';grind
     |d::d2::t2=>
      exfalso;have hlen:1<=(unsign (d::d2::t2)).length:=by have:=IG (d::d2::t2);rw[Ka,Ka]at this;omega
      have:=h2.2;rw[(ZQ x (by simp)).1,qc x (by omega),h1]at this;cases this
    obtain⟨rfl,hdx⟩:=ht43;refine⟨⟨e,fl,hee,hw⟩,?_,?_,hdx⟩
    ·rw[hnx,hnum];show(zg [e,43]).2=[43];rw[zI,Ea hfst.2.1,zI,Fa (by decide),Fa (by decide)]
    ·rw[hnx,hnum]
 ·exfalso;obtain⟨hq2,hdx⟩:=Classical.not_imp.1 hd;have hend:zo (c::r)=([46],true):=by rw[ZU,hq2];rfl
  have hnum:zk (c::r)=(⟨10,[],(numP (c::r)).val,[],true⟩,[46]):=by unfold zk;rw[hend,Fa (by decide),Fa (by decide)]
  rw[hnum]at ht;have hf:=hflag ((c::r)++x) (by rw[ht]);rw[ht]at hf;have hun:unsign (c::r)≠[]:=by intro e;rw[ae,e]at hq2;cases hq2
  have e2:ae ((c::r)++x)=46::x:=by unfold ae;rw[(ZQ x (by simp)).1,Ki x (by unfold ae at hq2;rw[hq2];simp)];unfold ae at hq2;rw[hq2];rfl
  have hw:zx (46::x)=(past digB x,false):=by
   unfold zx;have:digB (atS x 0)=true:=by cases hh:digB (atS x 0)with|true=>rfl|false=>grind
   rw[show atS (46::x) 0=46 from rfl,show atS (46::x) 1=atS x 0 from rfl,this];rfl
  have hfl:(zo ((c::r)++x)).2=false:=by rw[ZU,e2,hw];simp only;cases expS (past digB x)<;>rfl
  rw[hfl]at hf;cases hf
theorem lF{c:UInt8}{r x:Str}(h:(zt (c::r)).2≠[])(hx:x≠[])(ht:(zt (c::(r++x))).1=(zt (c::r)).1):
  (zt (c::(r++x))).2=(zt (c::r)).2++x\/Sr c r x:=by
 have hb:brS c (r++x)=brS c r:=by rw[<-Qu,<-Qu,ht]
 have hh:brS c r=2->nmS (r++x)=nmS r:=by intro hi;have:=congrArg zb.flag ht;rw[Zh,Zh,hb,hi,Jk,Jk]at this;exact this
 by_cases hi:brS c r=3
 ·have hnx:zt (c::r)=zk (c::r):=by rw[Zh,hi,Mg]
  have hnx2:zt (c::(r++x))=zk ((c::r)++x):=by rw[Zh,hb,hi,Mg];rfl
  have ht':=ht;rw[hnx,hnx2]at ht';rcases WT hi h hx ht' with hs|hp
  ·left;rw[Bq hb h hh (fun _=>hs)]
  ·exact .inr hp
 ·left;rw[Bq hb h hh (fun e=>absurd e hi)]
def run:Str->List zb->Str->Prop
 |q,[],R=>q=R
 |q,t::a,R=> ∃c r,cmtS q=c::r/\(zt (c::r)).1=t/\run (zt (c::r)).2 a R
theorem Vi: ∀{ts:List zb} {q R:Str},run q ts R->R<:+q
 |[],q,R,h=>by rw[run]at h;grind
 |t::ts,q,R,h=>by obtain⟨c,r,d,e,b⟩:=h;have a:=oh q;rw[d]at a;exact(Vi b).trans ((Qs c r).trans ((Ed c r).trans a))
theorem Q9: ∀{ts:List zb} {q R:Str},run q ts R->zV q=ts++zV R
 |[],q,R,h=>by rw[run]at h;subst h;rfl
 |t::ts,q,R,h=>by obtain⟨c,r,d,b,a⟩:=h;rw[Zb d,b,Q9 a];rfl
theorem Vy: ∀{ts us:List zb} {q R S:Str},run q ts R->run R us S->run q (ts++us) S
 |[],us,q,R,S,h,a=>by rw[run]at h;subst h;exact a
 |t::ts,us,q,R,S,h,a=>by obtain⟨c,r,e,d,b⟩:=h;exact⟨c,r,e,d,Vy b a⟩
theorem Eu: ∀{ts us:List zb} {q:Str},zV q=ts++us-> ∃R,run q ts R/\zV R=us
 |[],us,q,h=>⟨q,rfl,h⟩
 |t::ts,us,q,h=>by
  cases a:cmtS q with
  |nil=>rw[ZE a]at h;cases h
  |cons c r=> rw[Zb a,Ta]at h;injection h with d f;obtain⟨R,e,b⟩:=Eu f;exact⟨R,⟨c,r,a,d,e⟩,b⟩
theorem rC: ∀{ts:List zb} {q R S:Str},run q ts R->run q ts S->R=S
 |[],q,R,S,h,b=>by rw[run]at h b;rw[<-h,b]
 |t::ts,q,R,S,h,b=>by obtain⟨c,r,f,m,g⟩:=h;obtain⟨l,k,a,e,d⟩:=b;rw[f]at a;injection a with i j;subst i j;exact rC g d
theorem tC{ts:List zb}{q R:Str}(d:ts≠[]):run (cmtS q) ts R↔run q ts R:=by
 cases ts with
 |nil=>grind
 |cons t ts=>
  constructor
  ·rintro⟨c,r,a,b⟩;rw[ZR]at a;exact⟨c,r,a,b⟩
  ·rintro⟨c,r,a,b⟩;exact⟨c,r,by rw[ZR];exact a,b⟩
theorem Ex(x:Str): ∀{l r:Str},clsS l=some r->clsS (l++x)=some (r++x)
 |[],r,h=>by cases h
 |c::t,r,h=>by
  rw[clsS]at h;rw[Ta,clsS];cases t with
  |nil=>
   cases a:c==42&&atS ([]:Str) 0==47 with
   |true=>rw[Ba]at a;exact absurd a.2 (by decide)
   |false=>rw[a,Fa (by decide)]at h;cases h
  |cons d u=>
   rw[show atS ((d::u)++x) 0=atS (d::u) 0 from rfl];split
   ·grind
   ·rename_i a;rw[Fa a]at h;exact Ex x h
theorem Sj{q x:Str}(h:cmtS q≠[])(a:([47,42]:Str).isPrefixOf (cmtS q++x)=false):cmtS (q++x)=cmtS q++x:=by
 rw[qE q]at h a ⊢;split at h
 ·rename_i b;have c:=Wi b;rw[show([47,42]:Str).length=2 from rfl]at c;rw[Ea b]at a ⊢;cases d:clsS (q.drop 2)with
  |none=>grind
  |some p=>
   rw[d]at h a;simp only at h a ⊢;rw[qE (q++x),jk x (by exact c),b,Ea rfl,Xm c,Ex x d];simp only;have e:p.length<q.length:=by have e:=(Jh _ d).2;rw[ja]at e;omega
   exact Sj h a
 ·rename_i b;rw[Fa b]at a ⊢;exact zM a
termination_by q.length
decreasing_by omega
theorem DT{c d:UInt8}(t x:Str):([47,42]:Str).isPrefixOf ((c::d::t)++x)=([47,42]:Str).isPrefixOf (c::d::t):=jk x (by grind)
theorem Jt{q x:Str}(h:2<=(cmtS q).length):cmtS (q++x)=cmtS q++x:=by refine Sj (om (by omega)) ?_;rw[jk x (by exact h)];exact Al q
theorem Yt{c:UInt8}{r:Str}(h:(zt (c::r)).2≠[]):2<=(c::r).length:=by
 have b:=(Qs c r).length_le;have a:=Ib.2 h
 grind
theorem oC: ∀{ts:List zb} {q R:Str} (x:Str),run q ts R->4<=R.length->run (q++x) ts (R++x)
 |[],q,R,x,h,_=>by rw[run]at h;subst h;rfl
 |t::ts,q,R,x,h,e=>by obtain⟨c,r,a,f,b⟩:=h;have i:=(Vi b).length_le;have d:=gT x (c:=c) (r:=r) (by omega);have g:=Yt (c:=c) (r:=r) (om (by omega));refine⟨c,r++x,by rw[Jt (by rw[a];exact g),a];rfl,by rw[d];exact f,?_⟩;rw[d];exact oC x b e
theorem iC{q:Str}(y:Str)(h:cmtS q≠[]):cmtS (q++47::42::y)=cmtS q++47::42::y:=by
 refine Sj h ?_;have b:=Al q;cases a:cmtS q with
 |nil=>exact absurd a h
 |cons c t=>
  cases t with
  |nil=>
   grind
  |cons d u=>grind
theorem wB: ∀{ts:List zb} {q R:Str} (y:Str),run q ts R->R≠[]->run (q++47::42::y) ts (R++47::42::y)
 |[],q,R,y,h,_=>by rw[run]at h;subst h;rfl
 |t::ts,q,R,y,h,hl=>by
  obtain⟨c,r,h1,h2,h3⟩:=h;have h4:(zt (c::r)).2≠[]:=by intro e;have:=(Vi h3).length_le;rw[e]at this;exact hl (Kc.1 (by simpa using this))
  have h5:=YR (42::y) h4;refine⟨c,r++47::42::y,by rw[iC y (by rw[h1];simp),h1];rfl,by rw[h5];exact h2,?_⟩;rw[h5];exact wB y h3 hl
def FH(q x:Str)(us:List zb):Prop:= ∃c r,cmtS q=c::r/\Sr c r x/\(zt (c::(r++x))).1=(zt (c::r)).1/\zV (zt (c::(r++x))).2=us
theorem SK: ∀{ts us:List zb} {q R:Str} {x:Str},run q ts R->R≠[]->x≠[]->zV (q++x)=ts++us->run (q++x) ts (R++x)\/(R=[43]/\ ∃p,p<:+q/\FH p x us)
 |[],us,q,R,x,h,_,_,_=>by rw[run]at h;subst h;exact .inl rfl
 |t::ts,us,q,R,x,h,hl,hx,ht=>by
  obtain⟨c,r,h1,h2,h3⟩:=h;have h4:(zt (c::r)).2≠[]:=by intro e;have:=(Vi h3).length_le;rw[e]at this;exact hl (Kc.1 (by simpa using this))
  have hc:cmtS (q++x)=c::(r++x):=by rw[Jt (by rw[h1];exact Yt h4),h1];rfl
  rw[Zb hc,Ta]at ht;injection ht with ht1 ht2;rcases lF h4 hx (by rw[ht1,h2])with h5|h5
  ·rw[h5]at ht2;rcases SK h3 hl hx ht2 with h6|⟨h6,p,hp,h7⟩
   ·exact .inl ⟨c,r++x,hc,ht1,by rw[h5];exact h6⟩
   ·refine .inr ⟨h6,p,hp.trans ((Qs c r).trans ((Ed c r).trans ?_)),h7⟩;rw[<-h1];exact oh q
  ·right;have h43:=h5.2.1;have hR:R=[43]/\ts=[]:=by
    cases ts with
    |nil=>rw[run,h43]at h3;grind
    |cons u us'=> exfalso;rw[h43]at h3;obtain⟨c',r',e1,e2,e3⟩:=h3;rw[show cmtS [43]=[43]from zM rfl]at e1;injection e1 with e4 e5;subst e4 e5;have:=(Vi e3).length_le;have h9:=(Qs (43:UInt8) []).length_le;simp_all
   obtain⟨hR,rfl⟩:=hR;refine⟨hR,q,Re _,c,r,h1,h5,by rw[ht1,h2],?_⟩;rw[ht2];rfl
end Go.Lv.VT
