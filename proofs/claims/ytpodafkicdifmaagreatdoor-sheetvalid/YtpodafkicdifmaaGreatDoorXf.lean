/- One token: what the scanner's function computes. -/
import Derived.Test.YtpodafkicdifmaaGreatDoorXe
import Derived.Test.YtpodafkicdifmaaGreatDoorXa
import Derived.Test.YtpodafkicdifmaaGreatDoorTy
set_option linter.unusedSimpArgs false
set_option linter.unusedVariables false
namespace Go.Lv.VT
set_option maxRecDepth 100000
theorem mI {S X R:Type} {step:S->Option (LO S X R)} {k:X->Option R} (Inv:S->Prop) (b:S->Nat) (y:R)
  (h: ∀s,Inv s->(∃s',step s=some (.again s')/\Inv s'/\b s'<b s)\/(∃x,step s=some (.out x)/\k x=some y)\/step s=some (.ret y)) {s:S} (d:Inv s):zU step s k=some y:=by
 have c: ∀(m:Nat) (s:S),b s<m->Inv s-> ∃r:LX X R,Z6 step m s=some r/\r.go k=some y:=by
  intro m
  induction m with
  |zero=>intro s h;omega
  |succ m i=>
   intro s f d;simp only[Z6];rcases h s d with⟨s',a,e,g⟩|⟨x,a,e⟩|a
   ·grind
   ·simp_all
   simp_all
 obtain⟨r,a,e⟩:=c (b s+1) s (by omega) d;rw[qD (oh a)];exact e
theorem wO(p:UInt8->Bool): ∀l:Str,past p l=l.dropWhile p
 |[]=>rfl
 |c::r=>by
  rw[past,Kc];cases h:p c with
  |true=>exact wO p r
  |false=>rfl
theorem vH(p:UInt8->Bool)(l:Str):l.takeWhile p++past p l=l:=by rw[wO,List.takeWhile_append_dropWhile]
theorem pO(p:UInt8->Bool): ∀l:Str,(l.takeWhile p).all p=true
 |[]=>rfl
 |c::r=>by simp_all
def sgOf(l:Str):Str:=if Wi (atS l 0)then [atS l 0]else []
theorem uU(l:Str):sgOf l++unsign l=l:=by
 unfold sgOf unsign;cases h:Wi (atS l 0)with
 |false=>rfl
 |true=>
  rw[Ka rfl,Ka rfl];cases l with
  |nil=>exact absurd h (by decide)
  |cons c r=>rfl
theorem vU(l:Str):sgB (sgOf l)=true:=by
 unfold sgOf;cases h:Wi (atS l 0)with
 |false=>rfl
 |true=> rw[Ka rfl];unfold Wi at h;rw[jc,Cb,Cb]at h;rcases h with h|h<;>rw[h]<;>rfl
def dotP(q:Str):Option Str:=if atS q 0==46&&digB (atS q 1)then some ((q.drop 1).takeWhile digB)else none
def expP(q:Str):Option (UInt8×Str×Str):=
 if(atS q 0==101||atS q 0==69)&&digB (atS (unsign (q.drop 1)) 0)then some (atS q 0,sgOf (q.drop 1),(unsign (q.drop 1)).takeWhile digB)else none
def numP(l:Str):NumP:=⟨sgOf l,(unsign l).takeWhile digB,dotP (past digB (unsign l)),expP (qC (past digB (unsign l))).1⟩
theorem zEF(q:Str):dotS (dotP q)++(qC q).1=q/\(qC q).2=(dotP q).isNone:=by
 unfold dotP qC;cases h:atS q 0==46&&digB (atS q 1)with
 |false=>exact⟨rfl,rfl⟩
 |true=>
  rw[Ka rfl,Ka rfl];cases q with
  |nil=>exact absurd h (by decide)
  |cons c r=> rw[Ea,Cb]at h;refine⟨?_,rfl⟩;show(46::List.takeWhile digB r)++past digB r=c::r;rw[Ab,vH,show c=46 from h.1]
theorem zH6(q:Str):expT (expP q)++(match expS q with|some r=>r|none=>q)=q:=by
 unfold expP expS;cases a:atS q 0==101||atS q 0==69 with
 |false=>rfl
 |true=>
  cases b:digB (atS (unsign (q.drop 1)) 0)with
  |false=>rfl
  |true=>
   simp only[Bool.and_self,Ee];cases q with
   |nil=>exact absurd a (by decide)
   |cons c r=> show(c::(sgOf r++List.takeWhile digB (unsign r)))++past digB (unsign r)=c::r;rw[Ab,Jb,vH,uU]
theorem xP(l:Str):(numP l).txt++(ZI l).1=l:=by
 have c:=(zEF (past digB (unsign l))).1;have b:=zH6 (qC (past digB (unsign l))).1;have a:(ZI l).1=(match expS (qC (past digB (unsign l))).1 with|some r=>r|none=>(qC (past digB (unsign l))).1):=by unfold ZI;simp only;cases expS (qC (past digB (unsign l))).1<;>rfl
 rw[a];show(sgOf l++(List.takeWhile digB (unsign l)++(dotS (dotP (past digB (unsign l)))++expT (expP (qC (past digB (unsign l))).1))))++_=l;rw[Jb,Jb,Jb,b,c,vH,uU]
theorem sM{p:UInt8->Bool}{q:Str}(h:p (atS q 0)=true)(a:p 0=false):(q.takeWhile p).isEmpty=false:=by
 cases q with
 |nil=>rw[show atS [] 0=0 from rfl,a]at h;cases h
 |cons c r=>rw[List.takeWhile_cons,Ka (show p c=true from h)];rfl
theorem mV{l:Str}(h:nbS l=true):(numP l).ok=true:=by
 unfold NumP.ok numP;simp only[vU,pO,Ya,Ea];refine⟨?_,?_⟩
 ·unfold dotP;cases a:atS (past digB (unsign l)) 0==46&&digB (atS (past digB (unsign l)) 1)with
  |true=> rw[Ka rfl];simp only[pO,Sb];rw[Ea]at a;rw[sM (p:=digB) (by rw[Kk];exact a.2) (by decide)];rfl
  |false=>
   rw[Ha (by decide)];simp only;cases b:digB (atS (unsign l) 0)with
   |true=>rw[sM b (by decide)];rfl
   |false=>
    exfalso;have f:past digB (unsign l)=unsign l:=by
     cases e:unsign l with
     |nil=>rfl
     |cons c r=>rw[e]at b;rw[past,Ha (by rw[show digB c=false from b];decide)]
    rw[f]at a;unfold nbS undot at h;cases d:atS (unsign l) 0==46 with
    |false=>grind
    |true=>
     rw[d,Ka rfl,Kk]at h
     grind
 ·unfold expP;cases a:(atS (qC (past digB (unsign l))).1 0==101||atS (qC (past digB (unsign l))).1 0==69)&&digB (atS (unsign ((qC (past digB (unsign l))).1.drop 1)) 0)with
  |false=>rfl
  |true=> rw[Ka rfl];rw[Ea]at a;simp only[a.1,vU,pO,Sb,Ya];rw[sM a.2 (by decide)];rfl
theorem zNe{n:NumP}(h:n.ok=true):n.txt≠[]:=by
 obtain⟨c,D,F,X⟩:=n;unfold NumP.ok at h;simp only[Ea]at h;intro e;unfold NumP.txt at e;simp only[List.append_eq_nil_iff]at e;obtain⟨g,b,a,d⟩:=e;subst b;cases F with
 |none=>grind
 |some f=>cases a
theorem wQ{c:UInt8}{r:Str}(h:nbS (c::r)=true):(ZI (c::r)).1<:+r:=by
 have e:=xP (c::r);have b:=zNe (mV h);cases a:(numP (c::r)).txt with
 |nil=>grind
 |cons d t=>
  grind
def qE(l:Str):zf×Str:=
 if nmS (ZI l).1 then(⟨12,[],(numP l).val,(Zn (ZI l).1).1,(ZI l).2⟩,(Zn (ZI l).1).2)
 else if atS (ZI l).1 0==37 then(⟨11,[],(numP l).val,[],false⟩,(ZI l).1.drop 1)
 else(⟨10,[],(numP l).val,[],(ZI l).2⟩,(ZI l).1)
theorem zKo{s l t e:Str}(a:l<:+s)(h:t++e=l):List.drop (beh s l) (List.take (beh s e) s)=t:=by
 obtain⟨p,rfl⟩:=a;subst h;have c:beh (p++(t++e)) (t++e)=p.length:=by unfold beh;simp only[Ma];omega
 have b:beh (p++(t++e)) e=(p++t).length:=by unfold beh;simp only[Ma];omega
 grind
theorem zIL{s l:Str}(hs:s.length<=40000)(hl:l<:+s)(h:nbS l=true):Qs (sr s l)=some ((qE l).1,sr s (qE l).2):=by
 have hsb:s.length<=big:=by unfold big;omega
 have he:=zDh hl;have hle:=hl.length_le;have hsp:=xP l;have hel:(ZI l).1.length<=l.length:=by have:=congrArg List.length hsp;rw[Ma]at this;omega
 have htl:(numP l).txt.length<=40000:=by have:=congrArg List.length hsp;rw[Ma]at this;omega
 unfold Qs;rw[zH9 hsb hl];simp only[za,Aa];have h1:(beh s l:Int)<=(beh s (ZI l).1:Int):=by unfold beh;omega
 have h2:=Tm s (ZI l).1;rw[ZT (by simp_all),Ib,Ib,zKo hl hsp,zsw (mV h) htl];simp only[Aa];rw[show ZA (0,sr s (ZI l).1)=some (nmS (ZI l).1)from NM (k:=0) hsb he (by omega)];simp only[Aa];unfold qE;cases hn:nmS (ZI l).1 with
 |true=> rw[Ca,uG hsb he,Ka rfl];rfl
 |false=>
  rw[Ba,Nh hsb he,Ha (by decide)];simp only[Aa,zNy];cases h37:atS (ZI l).1 0==37 with
  |true=> rw[Ca,zH,RA hsb he (by grind),Ka rfl]
  |false=>simp_all
theorem dO(l:Str):(Zn l).1.length<=4*l.length:=by
 match l with
 |[]=>rw[gu];grind
 |c::r=>
  rw[Am];split
  ·have:=dO r
   grind
  ·split
   ·have b:=ZC r;have a:=Ay r;have:=dO (zX r).2
    grind
   grind
termination_by l.length
decreasing_by
 all_goals grind
def vg(l:Str):zf×Str:=
 if atS (Zn l).2 0==40 then
  (if(lowS (Zn l).1==[117,114,108])&& !(atS (past spB ((Zn l).2.drop 1)) 0==34||atS (past spB ((Zn l).2.drop 1)) 0==39)
  then(Lm (urlS (past spB ((Zn l).2.drop 1))).1,(urlS (past spB ((Zn l).2.drop 1))).2)
  else(⟨2,(Zn l).1,0,[],false⟩,(Zn l).2.drop 1))
 else(⟨1,(Zn l).1,0,[],false⟩,(Zn l).2)
theorem zKE{s q:Str}(m:s.length<=40000)(g:q<:+s):Qh (sr s q)=some ((vg q).1,sr s (vg q).2):=by
 have a:s.length<=big:=by unfold big;omega
 have e:(Zn q).2<:+s:=(um q).trans g;have l:=dO q;have i:=g.length_le;have f:(Zn q).1.length<=big:=by unfold big;omega
 unfold Qh;rw[uG a g];simp only[za,Aa,Nh a e];unfold bne vg;rw[zNz];cases d:atS (Zn q).2 0==40 with
 |false=>rfl
 |true=>
  have c:atS (Zn q).2 0≠0:=by rw[Cb.1 d];decide
  rw[aa,Ba,Ka rfl,RA a e c,oo f (by decide),iO];simp only[Aa];have b:=Xm e 1;cases n:lowS (Zn q).1==[117,114,108]with
  |false=>rfl
  |true=>
   rw[Ca,VH a b,Ya];have k:=jq spB b;simp only[Aa,Nh a k];rw[fU,eU];cases j:atS (past spB ((Zn q).2.drop 1)) 0==34 with
   |true=>rfl
   |false=>
    cases h:atS (past spB ((Zn q).2.drop 1)) 0==39 with
    |true=>rfl
    |false=> rw[urlR a b];rfl
theorem zIE{c:UInt8}{r:Str}(h:letB c=true\/escS (c::r)=true):(Zn (c::r)).2<:+r:=by
 rw[Am];split
 ·exact um r
 ·rename_i a;rw[Ka (h.resolve_left a)];exact(um _).trans (Qa r)
theorem zII{c:UInt8}{r:Str}(h:nmS (c::r)=true):letB c=true\/escS (c::r)=true:=by
 unfold nmS at h;cases a:atS (c::r) 0==45 with
 |true=> left;rw[show c=45 from Cb.1 a];decide
 |false=>
  rw[a,Ha (by decide),jc]at h;rcases h with h|h
  ·left;unfold letB;rw[show fstB c=true from h];rfl
  ·exact .inr h
theorem zE7{c:UInt8}{r:Str}(h:nmS (c::r)=true):(vg (c::r)).2<:+r:=by
 have b:=zIE (zII h);have a:(Zn (c::r)).2.drop 1<:+r:=(Ke 1 _).trans b;unfold vg;split
 ·split
  ·exact(Yt _).trans ((lm spB _).trans a)
  ·exact a
 ·exact b
def nxU(c:UInt8)(r:Str):zf×Str:=
  if nmS (c::r)then vg (c::r)
  else if jg c==0 then(⟨9,[c],0,[],false⟩,r)
  else(Ah (jg c),r)
def nxT(c:UInt8)(r:Str):zf×Str:=
  if nbS (c::r)then qE (c::r)
  else if [45,45,62].isPrefixOf (c::r)then(Ah 15,(c::r).drop 3)
  else if [60,33,45,45].isPrefixOf (c::r)then(Ah 14,(c::r).drop 4)
  else if c==64&&nmS r then(⟨3,(Zn r).1,0,[],false⟩,(Zn r).2)
  else nxU c r
def Rf:Str->zf×Str
 |[]=>(⟨0,[],0,[],false⟩,[])
 |c::r=>
  if spB c then(Ah 13,past spB (c::r))
  else if c==34||c==39 then(Ml (ZB c r).1,(ZB c r).2)
  else if c==35&&(letB (atS r 0)||escS r)then(⟨4,(Zn r).1,0,[],nmS r⟩,(Zn r).2)
  else nxT c r
theorem mJ(c:UInt8)(r:Str):Rf (c::r)=
  if spB c then(Ah 13,past spB (c::r))
  else if c==34||c==39 then(Ml (ZB c r).1,(ZB c r).2)
  else if c==35&&(letB (atS r 0)||escS r)then(⟨4,(Zn r).1,0,[],nmS r⟩,(Zn r).2)
  else if nbS (c::r)then qE (c::r)
  else if [45,45,62].isPrefixOf (c::r)then(Ah 15,(c::r).drop 3)
  else if [60,33,45,45].isPrefixOf (c::r)then(Ah 14,(c::r).drop 4)
  else if c==64&&nmS r then(⟨3,(Zn r).1,0,[],false⟩,(Zn r).2)
  else if nmS (c::r)then vg (c::r)
  else if jg c==0 then(⟨9,[c],0,[],false⟩,r)
  else(Ah (jg c),r):=rfl
theorem zAM{c:UInt8}{r:Str}(h:nbS (c::r)=true):(qE (c::r)).2<:+r:=by
 have a:=wQ h;unfold qE;split
 ·exact(um _).trans a
 ·split
  ·exact(Ke 1 _).trans a
  ·exact a
theorem Ol(c:UInt8)(r:Str):(Rf (c::r)).2<:+r:=by
 rw[mJ];split
 ·rename_i h;show past spB (c::r)<:+r;rw[past,Ka h];exact lm spB r
 ·split
  ·exact eu c r
  ·split
   ·exact um r
   ·split
    ·rename_i h;exact zAM h
    ·split
     ·exact Ke 2 r
     ·split
      ·exact Ke 3 r
      ·split
       ·exact um r
       ·split
        ·rename_i h;exact zE7 h
        grind
theorem zIA(c:UInt8):decide (Lib.indexByte [58,59,44,91,93,40,41,123,125] c>=0)= !(jg c==0)/\(jg c≠0->wu8 (16+wu8 (Lib.indexByte [58,59,44,91,93,40,41,123,125] c))=jg c):=by
 have: ∀n:Nat,n<256->decide (Lib.indexByte [58,59,44,91,93,40,41,123,125] (UInt8.ofNat n)>=0)= !(jg (UInt8.ofNat n)==0)/\(jg (UInt8.ofNat n)≠0->wu8 (16+wu8 (Lib.indexByte [58,59,44,91,93,40,41,123,125] (UInt8.ofNat n)))=jg (UInt8.ofNat n)):=by decide+kernel
 have:=this c.toNat (Tc c);simp_all
theorem Mq{m q:Str}(h:m.isPrefixOf q=true):m.length<=q.length:=by
 grind
def SA(s:Str)(X:zf×Str):Option (zf×ze):=some (X.1,sr s X.2)
theorem TU{s q:Str}{c:UInt8}{r:Str}(y:s.length<=40000)(b:q<:+s)(D:q=c::r):qO (sr s q)=some ((Rf q).1,sr s (Rf q).2):=by
 subst D;have a:s.length<=big:=by unfold big;omega
 have A:=Sj b;have J:(c::r).drop 1=r:=rfl;rw[show Rf (c::r)=if spB c then(Ah 13,past spB (c::r))else if c==34||c==39 then(Ml (ZB c r).1,(ZB c r).2)else if c==35&&(letB (atS r 0)||escS r)then(⟨4,(Zn r).1,0,[],nmS r⟩,(Zn r).2)else nxT c r from rfl];unfold qO;simp only[za,Nh a b,Aa];rw[ZT BV];simp only[Xw,Aa,fU,eU,zNx,zNA,RN b,Tp,show atS (c::r) 0=c from rfl,FM];cases Q:spB c with
 |true=> rw[Ca,VH a b,Ka rfl];rfl
 |false=>
  rw[Ba,Ha (by decide)];cases H:c==34||c==39 with
  |true=> rw[Ca,zLo a b,Ka rfl];rfl
  |false=>
   rw[Ba,Ha (by decide)];have p:Zy (1,sr s (c::r))=some (escS r):=UC (k:=1) a b (by omega);have g:ZA (1,sr s (c::r))=some (nmS r):=NM (k:=1) a b (by omega);have l:ZA (0,sr s (c::r))=some (nmS (c::r)):=NM (k:=0) a b (by omega);have u:(⟨s,w64 ((beh s (c::r):Int)+1)⟩:ze)=sr s r:=by rw[Gi a b]
   rw[u];have o:((qR (sr s (c::r))).bind fun w=>
    bif w then
     (Qs (sr s (c::r))).bind fun j=>
     some (j.1,j.2)
    else
     (some ([45,45,62].isPrefixOf (c::r))).bind fun v=>
     bif v then
      some ((⟨15,[],0,[],false⟩:zf),(⟨s,w64 ((beh s (c::r):Int)+3)⟩:ze))
     else
      (some ([60,33,45,45].isPrefixOf (c::r))).bind fun t=>
      bif t then
       some ((⟨14,[],0,[],false⟩:zf),(⟨s,w64 ((beh s (c::r):Int)+4)⟩:ze))
      else
       (zD (c==64) (ZA (1,sr s (c::r))) (default:Bool)).bind fun h=>
       bif bif c==64 then h else false then
        (ZO (sr s r)).bind fun f=>
        some ((⟨3,f.1,0,[],false⟩:zf),f.2)
       else
        (ZA (0,sr s (c::r))).bind fun i=>
        bif i then
         (Qh (sr s (c::r))).bind fun d=>
         some (d.1,d.2)
        else
         (strings_IndexByte ([58,59,44,91,93,40,41,123,125],wu8 (pk (c::r) 0))).bind fun e=>
         bif decide (e>=0)then
          some ((⟨wu8 (16+wu8 e),[],0,[],false⟩:zf),sr s r)
         else
          need (decide (1<=((c::r).length:Int)))<|
          some ((⟨9,List.take 1 (c::r),0,[],false⟩:zf),sr s r))=
    SA s (nxT c r):=by
    unfold nxT;simp only[zK5 a b,Aa];cases x:nbS (c::r)with
    |true=> rw[Ca,zIL y b x,Ka rfl];rfl
    |false=>
     rw[Ba,Ha (by decide)];cases O:[45,45,62].isPrefixOf (c::r)with
     |true=> rw[Ca,Ka rfl,show(3:Int)=((3:Nat):Int)from rfl,OH (n:=3) a b (Mq O)];rfl
     |false=>
      rw[Ba,Ha (by decide)];cases L:[60,33,45,45].isPrefixOf (c::r)with
      |true=> rw[Ca,Ka rfl,show(4:Int)=((4:Nat):Int)from rfl,OH (n:=4) a b (Mq L)];rfl
      |false=>
       rw[Ba,Ha (by decide),g,l];have m: ∀z:Bool,((some z).bind fun h=>bif h then
        (ZO (sr s r)).bind fun f=>
        some ((⟨3,f.1,0,[],false⟩:zf),f.2)
       else
        (some (nmS (c::r))).bind fun i=>
        bif i then
         (Qh (sr s (c::r))).bind fun d=>
         some (d.1,d.2)
        else
         (strings_IndexByte ([58,59,44,91,93,40,41,123,125],wu8 (pk (c::r) 0))).bind fun e=>
         bif decide (e>=0)then
          some ((⟨wu8 (16+wu8 e),[],0,[],false⟩:zf),sr s r)
         else
          need (decide (1<=((c::r).length:Int)))<|
          some ((⟨9,List.take 1 (c::r),0,[],false⟩:zf),sr s r))=SA s (if z then(⟨3,(Zn r).1,0,[],false⟩,(Zn r).2)else nxU c r):=by
        intro z;unfold nxU;simp only[Aa];cases z with
        |true=> rw[Ca,uG a A];rfl
        |false=>
         rw[Ba,Ha (by decide)];cases G:nmS (c::r)with
         |true=>rw[Ca,zKE y b];rfl
         |false=>
          rw[Ba,Ha (by decide),Nq,Mv];have R:(wu8 (c.toNat:Int)).toNat.toUInt8=c:=by rw[jw,jf (Tc c),Ib];exact Xf
          rw[R];obtain⟨K,S⟩:=zIA c;simp only[Aa,K];cases M:jg c==0 with
          |true=> rw[aa,Ba,ZT (Ga (by grind))];rfl
          |false=> rw[Xa,Ca,S (Da.1 M)];rfl
       cases N:c==64 with
       |false=> simp_all
       |true=> have:=m (nmS r);simp_all
   cases C:c==35 with
   |false=> simp only[ZM,Aa,Ba,Jc,Dc];exact o
   |true=>
    simp only[Zd,Aa,Ca,Sb,Ya,Dw a b,EY];have E:atS (c::r) 1=atS r 0:=rfl;rw[E,p];have F:(bif letB (atS r 0)||escS r then(ZA (1,sr s (c::r))).bind fun P=>(ZO (sr s r)).bind fun B=>some ((⟨4,B.1,0,[],P⟩:zf),B.2)else SA s (nxT c r))=SA s (if(letB (atS r 0)||escS r)then(⟨4,(Zn r).1,0,[],nmS r⟩,(Zn r).2)else nxT c r):=by
     cases letB (atS r 0)||escS r with
     |false=>rfl
     |true=>rw[Ca,g,uG a A];rfl
    show _=SA s (if(letB (atS r 0)||escS r)then(⟨4,(Zn r).1,0,[],nmS r⟩,(Zn r).2)else nxT c r);rw[<-F];cases T:letB (atS r 0)with
    |true=>rfl
    |false=> simp_all
def mf:Nat->List zf->Int->Nat->Option (List zb×List zf)
 |0,_,_,_=>none
 |_+1,[],_,_=>some ([],[])
 |n+1,t::r,c,left=>
  if c≠0/\t.kind=c then some ([],r)
  else if Zf t.kind=0 then(mf n r c left).map fun v=>(⟨t,[]⟩::v.1,v.2)
  else match left with
   |0=>none
   |m+1=>(mf n r (Zf t.kind) m).bind fun w=>(mf n w.2 c (m+1)).map fun v=>(⟨t,w.1⟩::v.1,v.2)
theorem au(n:Nat)(t:zf)(r:List zf)(c:Int)(left:Nat):mf (n+1) (t::r) c left=if c≠0/\t.kind=c then some ([],r)
  else if Zf t.kind=0 then(mf n r c left).map fun v=>(⟨t,[]⟩::v.1,v.2)
  else match left with
   |0=>none
   |m+1=>(mf n r (Zf t.kind) m).bind fun w=>(mf n w.2 c (m+1)).map fun v=>(⟨t,w.1⟩::v.1,v.2):=rfl
theorem ax: ∀(n:Nat) (l:List zf) (c:Int) (left:Nat) (v:List zb×List zf),mf n l c left=some v->v.2.length<=l.length/\(l≠[]->v.2.length<l.length)
 |0,_,_,_,_,h=>by cases h
 |n+1,[],c,left,v,h=>by
  rw[mf]at h;cases h;exact⟨Ta _,fun h=>absurd rfl h⟩
 |n+1,t::r,c,left,v,h=>by
  rw[au]at h;have key:v.2.length<=r.length:=by
   split at h
   ·cases h;exact Ta _
   split at h
   ·cases hv:mf n r c left with
    |none=>rw[hv]at h;cases h
    |some w=>rw[hv]at h;cases h;exact(ax n r c left w hv).1
   ·cases left with
    |zero=>cases h
    |succ m=>
     simp only at h;cases hw:mf n r (Zf t.kind) m with
     |none=>rw[hw]at h;cases h
     |some w=>
      rw[hw,Aa]at h;cases hv:mf n w.2 c (m+1)with
      |none=>rw[hv]at h;cases h
      |some v'=> rw[hv]at h;cases h;have h1:=(ax n r _ m w hw).1;have h2:=(ax n w.2 c _ v' hv).1;exact Db h2 h1
  exact⟨by rw[Fa];omega,fun _=>by rw[Fa];omega⟩
def Eo(l:List zf)(s:PSt):Option (List zb):=(qi l s).map fun s=>shutAll s.1 s.2
theorem FR(t:zf)(l:List zf)(s:PSt):Eo (t::l) s=(qL s t).bind (Eo l):=by unfold Eo;rw[qi];cases qL s t<;>rfl
theorem IC: ∀(n:Nat) (l:List zf) (cur:List zb) (o:zf) (out:List zb) (st:List (zf×List zb)) (left:Nat),l.length<n->Zf o.kind≠0->left+(st.length+1)=16->
  Eo l (cur,(o,out)::st)=(mf n l (Zf o.kind) left).bind fun v=>Eo v.2 (out++[⟨o,cur++v.1⟩],st)
 |0,_,_,_,_,_,_,h,_,_=>by omega
 |n+1,[],cur,o,out,st,left,_,_,_=>by rw[mf,Aa];simp only[Eo,qi,Ac,shutAll,Xb]
 |n+1,t::r,cur,o,out,st,left,hn,ho,hl=>by
  rw[Fa]at hn;rw[au,FR];unfold qL;simp only[Jj];by_cases h1:t.kind=Zf o.kind
  ·rw[Ka (by rw[h1,Vd]),Ka ⟨ho,h1⟩,Aa,Aa];simp only[Un,Xb]
  ·rw[Ha (by rw[Cb];exact h1),Ha (show¬(Zf o.kind≠0/\t.kind=Zf o.kind)from fun h=>h1 h.2)];by_cases h2:Zf t.kind=0
   ·rw[Ha (show¬Zf t.kind≠0 from fun h=>h h2),Ka h2,Aa,IC n r _ o out st left (by omega) ho hl];cases mf n r (Zf o.kind) left with
    |none=>rfl
    |some v=>simp only[Aa,Ac,Jb,Uf]
   ·rw[Ka h2,Ha h2];cases left with
    |zero=>rw[Ka (by rw[Fa];omega)];rfl
    |succ m=>
     rw[Ha (by rw[Fa];omega),Aa];simp only;rw[IC n r [] t cur ((o,out)::st) m (by omega) h2 (by rw[Fa];omega)];cases hw:mf n r (Zf t.kind) m with
     |none=>rfl
     |some w=>
      have hlen:=(ax n r _ m w hw).1;simp only[Aa];rw[IC n w.2 _ o out st (m+1) (by omega) ho hl];cases mf n w.2 (Zf o.kind) (m+1)with
      |none=>rfl
      |some v=>simp only[Aa,Ac,Bc,Jb,Uf]
theorem uI: ∀(n:Nat) (l:List zf) (cur:List zb),l.length<n->Eo l (cur,[])=(mf n l 0 16).map fun v=>cur++v.1
 |0,_,_,h=>by omega
 |n+1,[],cur,_=>by rw[mf];simp only[Eo,qi,Ac,shutAll,Xb]
 |n+1,t::r,cur,hn=>by
  rw[Fa]at hn;rw[au,FR];unfold qL;simp only[Jj];rw[Ha (by decide),Ha (show¬((0:Int)≠0/\t.kind=0)from fun h=>h.1 rfl)];by_cases h2:Zf t.kind=0
  ·rw[Ha (show¬Zf t.kind≠0 from fun h=>h h2),Ka h2,Aa,uI n r _ (by omega)];cases mf n r 0 16 with
   |none=>rfl
   |some v=>simp only[Ac,Jb,Uf]
  ·rw[Ka h2,Ha h2,Ha (by decide),Aa];rw[IC n r [] t cur [] 15 (by omega) h2 rfl];cases hw:mf n r (Zf t.kind) 15 with
   |none=>rfl
   |some w=>
    have hlen:=(ax n r _ 15 w hw).1;simp only[Aa];rw[uI n w.2 _ (by omega)];cases mf n w.2 0 16 with
    |none=>rfl
    |some v=>simp only[Ac,Bc,Jb,Uf]
theorem yB: ∀(a b:List zb),tokL (a++b)=tokL a++tokL b
 |[],b=>by rw[tokL];rfl
 |v::a,b=>by rw[Ab,tokL,tokL,yB a b,Jb]
theorem yH(v:zb):tokL [v]=tokV v:=by rw[tokL,tokL,Xb]
def Ki(s:PSt):Nat:=(tokL s.1).length+(s.2.map fun x=>1+(tokL x.2).length).sum
def FH(s:PSt):Prop:= ∀x∈s.2,Zf x.1.kind≠0
theorem zDo{s s':PSt}{t:zf}(h:qL s t=some s')(ho:FH s):FH s'/\Ki s'=Ki s+1:=by
 unfold qL at h;obtain⟨cur,st⟩:=s;split at h
 ·rename_i h1;cases st with
  |nil=>cases h1
  |cons x st=> obtain⟨o,out⟩:=x;cases h;have h2:Zf o.kind≠0:=ho (o,out) (Pb ..);refine⟨fun x hx=>ho x (Lb _ hx),?_⟩;simp only[Ki,Un,yB,yH,Ma,Oc,Ue,Iq,Fa,Ha h2,Ma,Gd,Eb];omega
 split at h
 ·rename_i h1 h2;split at h
  ·cases h
  ·rename_i h3;cases h;refine⟨fun x hx=> ?_,?_⟩
   ·rcases Kb.1 hx with rfl|hx
    ·exact h2
    ·exact ho x hx
   ·simp only[Ki,Oc,Ue,tokL,Eb];omega
 ·rename_i h1 h2;cases h;refine⟨ho,?_⟩;have h2:Zf t.kind=0:=Re h2;simp only[Ki,yB,yH,Ma,Iq,Fa,Ka h2,Eb];omega
theorem vI: ∀(l:List zf) {s s':PSt},qi l s=some s'->FH s->FH s'/\Ki s'=Ki s+l.length
 |[],s,s',h,ho=>by cases h;exact⟨ho,rfl⟩
 |t::l,s,s',h,ho=>by
  rw[qi]at h;cases hs:qL s t with
  |none=>rw[hs]at h;cases h
  |some s1=> rw[hs,Aa]at h;obtain⟨h1,h2⟩:=zDo hs ho;obtain⟨h3,h4⟩:=vI l h h1;exact⟨h3,by rw[h4,h2,Fa];omega⟩
theorem uJ: ∀(st:List (zf×List zb)) (cur:List zb),(∀x∈st,Zf x.1.kind≠0)->(tokL (shutAll cur st)).length=Ki (cur,st)+st.length
 |[],cur,_=>by simp[shutAll,Ki]
 |(o,out)::st,cur,h=>by have h2:Zf o.kind≠0:=h (o,out) (Pb ..);rw[shutAll,uJ st _ (fun x hx=>h x (Lb _ hx))];simp only[Ki,yB,yH,Ma,Iq,Fa,Ha h2,Ma,Gd,Oc,Ue,Fa,Eb];omega
def vG(l:List zf)(c:Int)(left:Nat):Option (List zb×List zf):=mf (l.length+1) l c left
def wtT:List zf->Nat
 |[]=>0
 |t::r=>1+t.text.length+t.unit.length+wtT r
theorem jB: ∀(n:Nat) (l:List zf) (c:Int) (left:Nat) (v:List zb×List zf),mf n l c left=some v->szL v.1+wtT v.2<=wtT l
 |0,_,_,_,_,h=>by cases h
 |n+1,[],c,left,v,h=>by
  rw[mf]at h;cases h;rw[szL];exact Ta _
 |n+1,t::r,c,left,v,h=>by
  rw[au]at h;rw[wtT];split at h
  ·cases h;rw[szL];simp only;omega
  split at h
  ·cases hv:mf n r c left with
   |none=>rw[hv]at h;cases h
   |some w=> rw[hv]at h;cases h;have:=jB n r c left w hv;simp only[szL,szV];omega
  ·cases left with
   |zero=>cases h
   |succ m=>
    simp only at h;cases hw:mf n r (Zf t.kind) m with
    |none=>rw[hw]at h;cases h
    |some w=>
     rw[hw,Aa]at h;cases hv:mf n w.2 c (m+1)with
     |none=>rw[hv]at h;cases h
     |some v'=> rw[hv]at h;cases h;have h1:=jB n w.2 c _ v' hv;have h2:=jB n r _ m w hw;simp only[szL,szV];omega
theorem XO(l:List zf):(qi l ([],[])).map (fun s=>shutAll s.1 s.2)=(vG l 0 16).map Prod.fst:=uI _ l [] (jd _)
theorem zML{l:List zf}{s:PSt}(h:qi l ([],[])=some s):szL (shutAll s.1 s.2)<=wtT l:=by
 have hp:=XO l;rw[h,Ac]at hp;cases hv:vG l 0 16 with
 |none=>rw[hv]at hp;cases hp
 |some v=> rw[hv,Ac]at hp;injection hp with hp;have:=jB _ _ _ _ v hv;rw[hp];omega
theorem KX(l:List zf):szL (parS l).1<=wtT l:=by
 unfold parS;split
 ·rw[szL];exact Ra _
 ·split
  ·rw[szL];exact Ra _
  ·rename_i s hs;split
   ·rw[szL];exact Ra _
   ·exact zML hs
def clsS:Str->Option Str
 |[]=>none
 |c::r=>if c==42&&atS r 0==47 then some (r.drop 1)else clsS r
theorem Po: ∀(l:Str) {r:Str},clsS l=some r->r<:+l/\r.length+2<=l.length
 |[],r,h=>by cases h
 |c::t,r,h=>by
  unfold clsS at h;split at h
  ·rename_i a;rw[Ea,Cb,Cb]at a;injection h with h;subst h;have:=YA (l:=t) (n:=0) (by rw[a.2];decide);exact⟨(Ke 1 t).trans (Wd c t),by grind⟩
  ·obtain⟨d,b⟩:=Po t h
   grind
theorem pre2(b:UInt8)(l:Str):([42,47]:Str).isPrefixOf (b::l)=(b==42&&atS l 0==47):=by
 have c:((42:UInt8)==b)=(b==42):=by rw[Xe,Cb,Cb];exact eq_comm
 rw[List.isPrefixOf,c];cases l with
 |nil=>rfl
 |cons d t=>
  have a:((47:UInt8)==d)=(d==47):=by rw[Xe,Cb,Cb];exact eq_comm
  rw[List.isPrefixOf,a,List.isPrefixOf];rw[Sb];rfl
theorem kP: ∀l:Str,Lib.index l [42,47]=match clsS l with|none=> -1|some r=>((l.length - r.length - 2:Nat):Int)
 |[]=>rfl
 |b::l=>by
  rw[Lib.index,pre2,clsS];cases h:b==42&&atS l 0==47 with
  |true=>
   grind
  |false=>
   simp only[Vb,Yd];rw[kP l];cases a:clsS l with
   |none=>rfl
   |some r=>
    have:=(Po l a).2
    grind
def cmtS(l:Str):Str:=
 if([47,42]:Str).isPrefixOf l then
  (match h:clsS (l.drop 2)with
  |some q=>cmtS q
  |none=>[])
 else l
termination_by l.length
decreasing_by
 have:=(Po _ h).2
 grind
theorem Rq(l:Str):cmtS l=if([47,42]:Str).isPrefixOf l then(match clsS (l.drop 2)with|some q=>cmtS q|none=>[])else l:=by
 rw[cmtS]
 grind
theorem Ak{l:Str}(h:([47,42]:Str).isPrefixOf l=false):cmtS l=l:=by rw[Rq,h];rfl
theorem Ai(l:Str):cmtS l<:+l:=by
 rw[Rq];split
 ·split
  ·rename_i q b;have a:=Po _ b;have c:=a.2;rw[Yb]at c;exact(Ai q).trans (a.1.trans (Ke 2 l))
  grind
 grind
termination_by l.length
decreasing_by
 grind
theorem Vx(l:Str):cmtS (cmtS l)=cmtS l:=by
 rw[Rq l];split
 ·split
  ·rename_i q a;have b:=(Po _ a).2;rw[Yb]at b;exact Vx q
  ·exact Ak rfl
 ·rename_i h;exact Ak (Bool.eq_false_iff.2 h)
termination_by l.length
decreasing_by
 grind
theorem zKj(l:Str):([47,42]:Str).isPrefixOf (cmtS l)=false:=by
 have h:=Vx l;cases b:([47,42]:Str).isPrefixOf (cmtS l)with
 |false=>rfl
 |true=>
  exfalso;rw[Rq (cmtS l),b,Ka rfl]at h;have c:=Mq b;rw[show([47,42]:Str).length=2 from rfl]at c;cases a:clsS ((cmtS l).drop 2)with
  |none=>grind
  |some q=>
   rw[a]at h;have d:=(Po _ a).2;have e:=(Ai q).length_le
   grind
theorem PD{s q:Str}(hs:s.length<=40000)(hq:q<:+s):ZF (sr s q)=some (sr s (cmtS q)):=by
 have hsb:s.length<=big:=by unfold big;omega
 unfold ZF;refine mI (fun z=> ∃p,z=sr s p/\p<:+s/\cmtS p=cmtS q) (fun z=>s.length - z.at_.toNat) _ ?_ ⟨q,rfl,hq,rfl⟩;rintro _ ⟨p,rfl,hp,he⟩;rw[ZT BV];simp only[za,RN hp,Tp,Aa];rw[Rq p]at he;cases hpre:([47,42]:Str).isPrefixOf p with
 |false=>
  grind
 |true=>
  rw[hpre,Ka rfl]at he;have hl:=Mq hpre;rw[show([47,42]:Str).length=2 from rfl]at hl;have hle:=hp.length_le;have hb:=nX hp hl;have hb2:=Tm s (p.drop 2);rw[Ca];have hw:w64 ((beh s p:Int)+2)=((beh s (p.drop 2):Nat):Int):=by rw[<-hb,QQ (by omega) (by omega)];omega
  rw[hw,ZT (by grind),RN (Xm hp 2)];have hlen:(p.drop 2).length<=40000:=by rw[Yb];omega
  have hi:Km (p.drop 2,[42,47])=some (Lib.index (p.drop 2) [42,47]):=by unfold Km;rw[ZT (by exact Ga (show(p.drop 2).length<4294967281 by omega))]
  rw[hi,kP];simp only[Aa];cases hc:clsS (p.drop 2)with
  |none=>
   rw[hc]at he;refine .inr (.inr ?_);rw[<-he];show _=some (LO.ret (⟨s,(beh s []:Int)⟩:ze));unfold beh
   grind
  |some r=>
   rw[hc]at he;obtain⟨h1,h2⟩:=Po _ hc;have hrs:r<:+s:=h1.trans (Xm hp 2);rw[Yb]at h2 hlen;simp only;rw[Ua (by omega),Ba];refine .inl ⟨sr s r,?_,⟨r,rfl,hrs,he⟩,?_⟩
   ·rw[Yb,QQ (n:=_+4) (by omega) (by omega)];have:(beh s p:Int)+(((p.length - 2 - r.length - 2:Nat):Int)+4)=((beh s r:Nat):Int):=by unfold beh;omega
    rw[this,QQ (by grind) (by grind)]
   ·show s.length - beh s r<s.length - beh s p;unfold beh;omega
def QS(l:Str):List zf:=
 match h:cmtS l with
 |[]=>[]
 |c::r=>(Rf (c::r)).1::QS (Rf (c::r)).2
termination_by l.length
decreasing_by
 have b:=(Ol c r).length_le;have a:=(Ai l).length_le
 grind
theorem Yo{l:Str}(h:cmtS l=[]):QS l=[]:=by
 rw[QS]
 grind
theorem om{l:Str}{c:UInt8}{r:Str}(h:cmtS l=c::r):QS l=(Rf (c::r)).1::QS (Rf (c::r)).2:=by
 rw[QS]
 grind
theorem wB(l:Str):QS (cmtS l)=QS l:=by
 cases h:cmtS l with
 |nil=>rw[Yo h];exact Yo (Ak rfl)
 |cons c r=> rw[om h];exact om (by rw[<-h,Vx])
theorem Ey: ∀l:Str,(Proofs.Cl.cleanS l).length<=3*l.length:=by
 have: ∀(n:Nat) (l:Str),l.length<=n->(Proofs.Cl.cleanS l).length<=3*l.length:=by
  intro n
  induction n with
  |zero=>
   intro l h;cases l with
   |nil=>rw[Proofs.Cl.cleanS];grind
   |cons c r=>grind
  |succ n ih=>
   intro l h;rw[Proofs.Cl.cleanS.eq_def]
   grind
 exact fun l=>this l.length l (Ta _)
def Zt(w:Str):List zf×Int:=if 4000<w.length then([],28)else if 1500<(QS (Proofs.Cl.cleanS w)).length then([],4)else(QS (Proofs.Cl.cleanS w),0)
theorem zJ7{n:Nat}(h:n<=100000):ZE n 1 56=true:=by unfold ZE;grind
theorem xI(w:Str):Pp w=some (Zt w):=by
 unfold Pp Zt;by_cases b:4000<w.length
 ·have e:Ck w=some ([],28):=by unfold Ck;rw[Ka b]
  unfold vE
  grind
 ·have e:Ck w=some (Proofs.Cl.cleanS w,0):=by unfold Ck;rw[Ha b]
  rw[Ha b];have x:=Ey w;generalize Proofs.Cl.cleanS w=s at e x;have o:s.length<=40000:=by omega
  unfold vE;rw[e];simp only[za,Aa];rw[show((0:Int) != 0)=false from rfl,Ba,sr_0,PD o (Je s)];simp only[Aa];have f: ∃z:Int×List zf,zU (fun(d:Int×List zf×ze)=>
    bif decide (d.2.2.at_<(s.length:Int))then
     bif decide (w64 (d.1+1)>1500)then
      some (LO.ret (4,d.2.1))
     else
      (qO d.2.2).bind fun t=>
      (MG ((t.1,d.2.2.at_,t.2.at_),d.2.1)).bind fun y=>
      (ZF t.2).bind fun A=>
      some (LO.again (w64 (d.1+1),y,A))
    else
     some (LO.out (d.2.1,d.2.2)):Int×List zf×ze->Option (LO (Int×List zf×ze) (List zf×ze) (Int×List zf))) (0,[],sr s (cmtS s)) (fun C=>some (0,C.1))=some z/\
    z=(if 1500<(QS s).length then(4,(QS s).take 1500)else(0,QS s)):=by
   refine⟨_,mI (fun z=> ∃(a:List zf) (q:Str),z=((a.length:Int),a,sr s q)/\q<:+s/\cmtS q=q/\a.length<=1500/\a++QS q=QS s) (fun z=>s.length - z.2.2.at_.toNat) (if 1500<(QS s).length then(4,(QS s).take 1500)else(0,QS s)) ?_ ⟨[],cmtS s,rfl,Ai s,Vx s,by simp,by rw[Bc,wB]⟩,rfl⟩;rintro _ ⟨a,q,rfl,m,n,G,i⟩;simp only;have l:=m.length_le;cases q with
   |nil=>
    have B:((beh s []:Nat):Int)=(s.length:Int):=by unfold beh;rw[Eb];rfl
    have k:decide (((beh s []:Nat):Int)<(s.length:Int))=false:=Ua (by omega);simp only[k,Ba];rw[Yo (Ak rfl),Xb]at i
    grind
   |cons c r=>
    rw[Fa]at l;have B:beh s (c::r)<s.length:=by unfold beh;rw[Fa];omega
    have k:decide (((beh s (c::r):Nat):Int)<(s.length:Int))=true:=Ga (by omega);have v:w64 ((a.length:Int)+1)=(a.length:Int)+1:=QQ (by omega) (by omega);simp only[k,Ca,v];rw[om n]at i;have g:=congrArg List.length i;rw[Ma,Fa]at g;by_cases j:a.length=1500
    ·grind
    ·have p:decide ((a.length:Int)+1>1500)=false:=Ua (by omega);simp only[p,Ba,TU o m rfl,Aa];unfold MG;rw[ZT (zJ7 (by simp only;omega))];have h:(Rf (c::r)).2<:+s:=(Ol c r).trans (Sj m);simp only[Aa,PD o h];refine .inl ⟨_,rfl,⟨a++[(Rf (c::r)).1],cmtS (Rf (c::r)).2,?_,(Ai _).trans h,Vx _,by grind,?_⟩,?_⟩
     ·grind
     ·rw[wB,Jb];exact i
     ·have E:=(Ol c r).length_le;have F:=(Ai (Rf (c::r)).2).length_le;show s.length - beh s (cmtS (Rf (c::r)).2)<s.length - beh s (c::r);unfold beh at*
      grind
  obtain⟨z,D,u⟩:=f
  grind
theorem IJ(r:Str):(zX r).1.length+3*(zX r).2.length<=3*r.length+3:=by
 have h4:=Ay r;cases r with
 |nil=>exact Ta _
 |cons c t=>
  have h:(zX (c::t)).2.length<=t.length:=by
   show(if Lg c then(Fj (hexes 6 0 (c::t)).1,unsp (hexes 6 0 (c::t)).2)else([c],t)).2.length<=t.length;cases hc:Lg c with
   |true=>
    have e:hexes 6 0 (c::t)=hexes 5 (16*0+hexN c) t:=by rw[hexes,hc,Ka rfl]
    rw[Ka rfl,e];exact((CY _).trans (Hy 5 _ t)).length_le
   |false=>exact Ta _
  rw[Fa];omega
theorem Ht(l:Str):(Zn l).1.length+3*(Zn l).2.length<=3*l.length:=by
 match l with
 |[]=>rw[gu];exact Ta _
 |c::r=>
  rw[Am];split
  ·have:=Ht r;show(c::(Zn r).1).length+3*(Zn r).2.length<=_;rw[Fa,Fa];omega
  ·split
   ·have h1:=ZC r;have h2:=IJ r;have:=Ht (zX r).2;show((zX r).1++(Zn (zX r).2).1).length+3*(Zn (zX r).2).2.length<=_;rw[Ma,Fa];omega
   ·show 0+3*(c::r).length<=_;omega
termination_by l.length
decreasing_by
 all_goals first|(have:=ZC r;simp only[Fa];omega)|(simp only[Fa];omega)
theorem yG{u:Str}{o:Option Str}{t:Str}{k:Nat}(h:o.map (u++ ·)=some t)(hk: ∀t',o=some t'->t'.length<=k):t.length<=u.length+k:=by
 cases o with
 |none=>cases h
 |some t'=> injection h with h;rw[<-h,Ma];have:=hk t' rfl;omega
theorem EC{m:UInt8}{q t:Str}(h:(ZB m q).1=some t):t.length+3*(ZB m q).2.length<=3*q.length:=by
 match q with
 |[]=>rw[Lr]at h ⊢;cases h;exact Ta _
 |c::r=>
  rw[Kv]at h ⊢;rw[Fa];split
  ·rename_i h1;rw[Ka h1]at h;cases h;show 0+3*r.length<=_;omega
  ·rename_i h1;rw[Ha h1]at h;split
   ·rename_i h2;rw[Ka h2]at h;cases h
   ·rename_i h2;rw[Ha h2]at h;split
    ·rename_i h3;rw[Ka h3]at h;split
     ·rename_i h4;rw[Ka h4]at h;cases h;show 0+3*0<=_;omega
     ·rename_i h4;rw[Ha h4]at h;split
      ·rename_i h5;rw[Ka h5]at h;have:=EC (q:=r.drop 1) h;rw[Yb]at this;omega
      ·rename_i h5;rw[Ha h5]at h;have h6:=ZC r;have h7:=IJ r;have:=yG (k:=3*(zX r).2.length - 3*(ZB m (zX r).2).2.length) h (fun t' ht'=>by have:=EC ht';omega);have h8:=(eu m (zX r).2).length_le;show t.length+3*(ZB m (zX r).2).2.length<=_;omega
    ·rename_i h3;rw[Ha h3]at h;have:=yG (u:=[c]) (k:=3*r.length - 3*(ZB m r).2.length) h (fun t' ht'=>by have:=EC ht';omega);have h8:=(eu m r).length_le;rw[Gd]at this;show t.length+3*(ZB m r).2.length<=_;omega
termination_by q.length
decreasing_by
 all_goals first|(have:=ZC r;simp only[Fa];omega)|(simp only[Fa,Yb];omega)
theorem GM{q t:Str}(h:(urlS q).1=some t):t.length+3*(urlS q).2.length<=3*q.length:=by
 match q with
 |[]=>rw[gq]at h ⊢;cases h;exact Ta _
 |c::r=>
  rw[Tu]at h ⊢;rw[Fa];split
  ·rename_i h1;rw[Ka h1]at h;cases h;show 0+3*r.length<=_;omega
  ·rename_i h1;rw[Ha h1]at h;split
   ·rename_i h2;rw[Ka h2]at h;have hp:=(lm spB r).length_le;split
    ·rename_i h3;rw[h3]at h;cases h;show 0+3*0<=_;omega
    ·rename_i d r' h3;rw[h3]at h hp;rw[Fa]at hp;simp only at h;split
     ·rename_i h4;rw[Ka h4]at h;cases h;show 0+3*r'.length<=_;omega
     ·rename_i h4;rw[Ha h4]at h;cases h
   ·rename_i h2;rw[Ha h2]at h;split
    ·rename_i h3;rw[Ka h3]at h;cases h
    ·rename_i h3;rw[Ha h3]at h;split
     ·rename_i h5;rw[Ka h5]at h;have h6:=ZC r;have h7:=IJ r;have:=yG (k:=3*(zX r).2.length - 3*(urlS (zX r).2).2.length) h (fun t' ht'=>by have:=GM ht';omega);have h8:=(Yt (zX r).2).length_le;show t.length+3*(urlS (zX r).2).2.length<=_;omega
     ·rename_i h5;rw[Ha h5]at h;have:=yG (u:=[c]) (k:=3*r.length - 3*(urlS r).2.length) h (fun t' ht'=>by have:=GM ht';omega);have h8:=(Yt r).length_le;rw[Gd]at this;show t.length+3*(urlS r).2.length<=_;omega
termination_by q.length
decreasing_by
 all_goals first|(have:=ZC r;simp only[Fa];omega)|(simp only[Fa];omega)
theorem zMx(c:UInt8)(r:Str):(Rf (c::r)).1.text.length+(Rf (c::r)).1.unit.length+3*(Rf (c::r)).2.length<=3*(r.length+1):=by
 have hs:=(Ol c r).length_le;rw[mJ]at hs ⊢;split
 ·rename_i h1;rw[Ka h1]at hs;simp only[Ah,Eb]at hs ⊢;omega
 rename_i h1;rw[Ha h1]at hs;split
 ·rename_i h2;rw[Ka h2]at hs;simp only at hs ⊢;cases ho:(ZB c r).1 with
  |none=>show 0+0+_<=_;omega
  |some t=>have:=EC ho;show t.length+0+_<=_;omega
 rename_i h2;rw[Ha h2]at hs;split
 ·have:=Ht r;simp only[Eb];omega
 rename_i h3;rw[Ha h3]at hs;split
 ·rename_i h4;have h5:=(wQ h4).length_le;rw[Ka h4]at hs;unfold qE at hs ⊢;split
  ·have:=Ht (ZI (c::r)).1;simp only[Eb];omega
  ·rename_i h6;rw[Ha h6]at hs;split
   ·rename_i h7;rw[Ka h7]at hs;simp only[Eb]at hs ⊢;omega
   ·rename_i h7;rw[Ha h7]at hs;simp only[Eb]at hs ⊢;omega
 rename_i h4;rw[Ha h4]at hs;split
 ·rename_i h5;rw[Ka h5]at hs;simp only[Ah,Eb]at hs ⊢;omega
 rename_i h5;rw[Ha h5]at hs;split
 ·rename_i h6;rw[Ka h6]at hs;simp only[Ah,Eb]at hs ⊢;omega
 rename_i h6;rw[Ha h6]at hs;split
 ·have:=Ht r;simp only[Eb];omega
 rename_i h7;rw[Ha h7]at hs;split
 ·have hn:=Ht (c::r);rw[Fa]at hn;unfold vg;split
  ·split
   ·have h8:=(lm spB ((Zn (c::r)).2.drop 1)).length_le;have h9:=(Yt (past spB ((Zn (c::r)).2.drop 1))).length_le;rw[Yb]at h8;simp only;cases ho:(urlS (past spB ((Zn (c::r)).2.drop 1))).1 with
    |none=>show 0+0+_<=_;omega
    |some t=>have:=GM ho;show t.length+0+_<=_;omega
   ·simp only[Eb,Yb];omega
  ·simp only[Eb];omega
 split
 ·simp only[Eb,Gd];omega
 ·simp only[Ah,Eb];omega
theorem XH(q:Str):wtT (QS q)<=5*q.length:=by
 cases hc:cmtS q with
 |nil=>rw[Yo hc,wtT];exact Ra _
 |cons c r=>
  have h2:=(Ai q).length_le;have h3:=(Ol c r).length_le;rw[hc,Fa]at h2;rw[om hc,wtT];have h4:(Rf (c::r)).2.length<q.length:=by omega
  have:=XH (Rf (c::r)).2;have:=zMx c r;omega
termination_by q.length
decreasing_by all_goals omega
theorem mH{q:Str}{n:Nat}(x:Str)(h:n<q.length):atS (q++x) n=atS q n:=by
 unfold atS
 grind
theorem Wq{p:UInt8->Bool}(x:Str): ∀{q:Str},past p q≠[]->past p (q++x)=past p q++x
 |[],h=>absurd rfl h
 |c::r,h=>by
  rw[Ab,past,past];rw[past]at h;cases a:p c with
  |true=>rw[a,Ka rfl]at h;rw[Ka rfl,Ka rfl];exact Wq x h
  |false=>rfl
theorem nA{p:UInt8->Bool}(x:Str): ∀{q:Str},past p q≠[]->(q++x).takeWhile p=q.takeWhile p
 |[],h=>absurd rfl h
 |c::r,h=>by
  rw[Ab,List.takeWhile_cons,List.takeWhile_cons];rw[past]at h;cases a:p c with
  |true=>rw[a,Ka rfl]at h;rw[Ka rfl,Ka rfl,nA x h]
  |false=>rfl
theorem oP(x:Str): ∀{k n:Nat} {l:Str},(hexes k n l).2≠[]->hexes k n (l++x)=((hexes k n l).1,(hexes k n l).2++x)
 |0,n,l,_=>rfl
 |k+1,n,[],h=>absurd rfl h
 |k+1,n,c::r,h=>by
  rw[Ab,hexes,hexes];rw[hexes]at h;split
  ·rename_i a;rw[Ka a]at h;exact oP x h
  ·rfl
theorem zJi{l:Str}(x:Str)(h:l≠[]):unsp (l++x)=unsp l++x:=by
 cases l with
 |nil=>grind
 |cons c r=> show(if spB c then r++x else c::(r++x))=(if spB c then r else c::r)++x;split<;>rfl
theorem TE{r:Str}(x:Str)(h:(zX r).2≠[]):zX (r++x)=((zX r).1,(zX r).2++x):=by
 cases r with
 |nil=>exact absurd rfl h
 |cons c r=>
  have e: ∀t:Str,zX (c::t)=if Lg c then(Fj (hexes 6 0 (c::t)).1,unsp (hexes 6 0 (c::t)).2)else([c],t):=fun t=>rfl;rw[Ab,e,e];rw[e]at h;split
  ·rename_i b;rw[Ka b]at h;have a:(hexes 6 0 (c::r)).2≠[]:=by intro d;rw[d]at h;exact h rfl
   rw[show c::(r++x)=(c::r)++x from rfl,oP x a,zJi x a]
  ·rfl
theorem xw{c:UInt8}{r:Str}(x:Str)(h:r≠[]\/c≠92):escS (c::(r++x))=escS (c::r):=by
 unfold escS;show(c==92&& !(atS (r++x) 0==10))=(c==92&& !(atS r 0==10));rcases h with h|h
 ·cases r with
  |nil=>grind
  |cons d t=>rfl
 grind
theorem Ku{q:Str}(x:Str)(h:(Zn q).2≠[]):Zn (q++x)=((Zn q).1,(Zn q).2++x):=by
 match q with
 |[]=>rw[gu]at h;grind
 |c::r=>
  rw[Ab,Am,Am];rw[Am]at h;cases f:letB c with
  |true=> rw[f,Ka rfl]at h;simp only[Ee];rw[Ku x h]
  |false=>
   rw[f,Ha (by decide)]at h;simp only[Vb,Yd];cases a:escS (c::r)with
   |true=>
    rw[a,Ka rfl]at h;have g:(zX r).2≠[]:=by intro e;simp only[e,gu]at h;exact h rfl
    have b:r≠[]:=by rintro rfl;exact g rfl
    rw[xw x (.inl b),a];simp only[Ee];rw[TE x g];have:=ZC r;simp only;rw[Ku x h]
   |false=>
    have b:r≠[]\/c≠92:=by
     cases r with
     |nil=> right;rintro rfl;exact absurd a (by decide)
     |cons d t=>left;simp
    rw[xw x b,a];grind
termination_by q.length
decreasing_by
 all_goals grind
theorem aD{m:UInt8}{q:Str}(x:Str)(h:(ZB m q).2≠[]):ZB m (q++x)=((ZB m q).1,(ZB m q).2++x):=by
 match q with
 |[]=>rw[Lr]at h;grind
 |c::r=>
  rw[Ab,Kv,Kv];rw[Kv]at h;cases g:c==m with
  |true=>grind
  |false=>
   rw[g,Ha (by decide)]at h;simp only[Vb,Yd];cases k:c==10 with
   |true=>grind
   |false=>
    rw[k,Ha (by decide)]at h;simp only[Vb,Yd];cases b:c==92 with
    |false=> rw[b,Ha (by decide)]at h;simp only[Vb,Yd];rw[aD x h]
    |true=>
     rw[b,Ka rfl]at h;simp only[Ee];cases f:r with
     |nil=>grind
     |cons d t=>
      rw[f]at h;have j:r.length=t.length+1:=by rw[f];rfl
      rw[Ab,show(d::(t++x)).isEmpty=false from rfl,show(d::t).isEmpty=false from rfl];simp only[Vb,Yd];rw[show(d::t).isEmpty=false from rfl,Ha (by decide)]at h;rw[show atS (d::(t++x)) 0=atS (d::t) 0 from rfl];cases a:atS (d::t) 0==10 with
      |true=> rw[a,Ka rfl]at h;simp only[Ee];exact aD (q:=t) x h
      |false=>
       rw[a,Ha (by decide)]at h;simp only[Vb,Yd];have i:(zX (d::t)).2≠[]:=by intro e;simp only[e,Lr]at h;exact h rfl
       rw[show d::(t++x)=(d::t)++x from rfl,TE x i];have:=ZC (d::t);simp only;rw[aD x h]
termination_by q.length
decreasing_by
 all_goals grind
theorem eB{q:Str}(x:Str)(h:badS q≠[]):badS (q++x)=badS q++x:=by
 match q with
 |[]=>rw[Px]at h;grind
 |c::r=>
  rw[Ab,Fy,Fy];rw[Fy]at h;cases f:c==41 with
  |true=>grind
  |false=>
   rw[f,Ha (by decide)]at h;simp only[Vb,Yd];cases a:escS (c::r)with
   |true=>
    rw[a,Ka rfl]at h;have d:(zX r).2≠[]:=by intro e;rw[e,Px]at h;exact h rfl
    have b:r≠[]:=by rintro rfl;exact d rfl
    rw[xw x (.inl b),a];simp only[Ee];rw[TE x d];have:=ZC r;exact eB x h
   |false=>
    rw[a,Ha (by decide)]at h;have b:r≠[]\/c≠92:=by left;rintro rfl;rw[Px]at h;exact h rfl
    rw[xw x b,a];simp only[Vb,Yd];exact eB x h
termination_by q.length
decreasing_by
 all_goals grind
theorem iN{q:Str}(x:Str)(h:(urlS q).2≠[]):urlS (q++x)=((urlS q).1,(urlS q).2++x):=by
 match q with
 |[]=>rw[gq]at h;grind
 |c::r=>
  rw[Ab,Tu,Tu];rw[Tu]at h;cases l:c==41 with
  |true=>grind
  |false=>
   rw[l,Ha (by decide)]at h;simp only[Vb,Yd];cases j:spB c with
   |true=>
    rw[j,Ka rfl]at h;simp only[Ee];cases f:past spB r with
    |nil=>grind
    |cons d t=>
     rw[Wq x (by rw[f];simp),f];rw[f]at h;simp only[Ab]at h ⊢;cases a:d==41 with
     |true=>grind
     |false=> rw[a,Ha (by decide)]at h;simp only[Vb,Yd];rw[show d::(t++x)=(d::t)++x from rfl,eB x h]
   |false=>
    rw[j,Ha (by decide)]at h;simp only[Vb,Yd];have b:(c=92->r≠[])->escS (c::(r++x))=escS (c::r):=by
     intro k;refine xw x ?_;by_cases e:c=92
     ·exact .inl (k e)
     ·exact .inr e
    have m:c=92->r≠[]:=by
     rintro rfl rfl;have o:escS [92]=true:=by decide
     rw[o,show((92:UInt8)==92&& !true)=false from rfl,Sd]at h;cases i:((92:UInt8)==34||(92:UInt8)==39||(92:UInt8)==40||unB 92)with
     |true=>exact absurd i (by decide)
     |false=> rw[i,Ha (by decide),Ka (by decide)]at h;exact absurd (by show(urlS (zX []).2).2=[];rw[show(zX []).2=[]from rfl,gq]) h
    rw[b m];cases a:c==34||c==39||c==40||unB c||c==92&& !escS (c::r)with
    |true=> rw[a,Ka rfl]at h;simp only[Ee];rw[show c::(r++x)=(c::r)++x from rfl,eB x h]
    |false=>
     rw[a,Ha (by decide)]at h;simp only[Vb,Yd];cases g:c==92 with
     |true=>
      rw[g,Ka rfl]at h;simp only[Ee];have n:(zX r).2≠[]:=by intro e;simp only[e,gq]at h;exact h rfl
      rw[TE x n];have:=ZC r;simp only;rw[iN x h]
     |false=> rw[g,Ha (by decide)]at h;simp only[Vb,Yd];rw[iN x h]
termination_by q.length
decreasing_by
 all_goals grind
theorem pJ{q:Str}(x:Str)(h:q≠[]):unsign (q++x)=unsign q++x/\sgOf (q++x)=sgOf q:=by
 cases q with
 |nil=>grind
 |cons c r=> unfold unsign sgOf;show(if Wi c then r++x else c::(r++x))=(if Wi c then r else c::r)++x/\_;refine⟨by split<;>rfl,rfl⟩
def xg(q:Str):Str:=past digB (unsign q)
theorem zHk{q x:Str}(h:(qC q).1≠[])(f:q=[46]->digB (atS x 0)=false):qC (q++x)=((qC q).1++x,(qC q).2)/\dotP (q++x)=dotP q:=by
 unfold qC dotP;unfold qC at h;cases q with
 |nil=>exact absurd rfl h
 |cons c r=>
  have g:(atS ((c::r)++x) 0==46&&digB (atS ((c::r)++x) 1))=(atS (c::r) 0==46&&digB (atS (c::r) 1)):=by
   show(c==46&&digB (atS (r++x) 0))=(c==46&&digB (atS r 0));cases r with
   |nil=>
    cases a:c==46 with
    |false=>rfl
    |true=> rw[Cb]at a;subst a;show(true&&digB (atS x 0))=(true&&digB (atS [] 0));rw[f rfl];rfl
   |cons d t=>rfl
  rw[g];cases e:(atS (c::r) 0==46&&digB (atS (c::r) 1))with
  |false=>grind
  |true=>
   rw[e,Ka rfl]at h;simp only[Ee];rw[show((c::r)++x).drop 1=r++x from rfl,show(c::r).drop 1=r from rfl];have b:past digB r≠[]:=h;rw[Wq x b,nA x b]
   grind
theorem zKw{w x:Str}(hw:w≠[])(h: ∀r,expS w=some r->r≠[])(hn:expS w=none->expS (w++x)=none):
  expS (w++x)=(expS w).map (· ++x)/\expP (w++x)=expP w:=by
 have hP: ∀q:Str,expP q=if(expS q).isSome then some (atS q 0,sgOf (q.drop 1),(unsign (q.drop 1)).takeWhile digB)else none:=by
  intro q;unfold expP expS;cases atS q 0==101||atS q 0==69 with
  |false=>rfl
  |true=>
   grind
 cases he:expS w with
 |none=>
  grind
 |some r=>
  have hr:=h r he;cases w with
  |nil=>grind
  |cons c t=>
   have he':=he;unfold expS at he';cases h1:atS (c::t) 0==101||atS (c::t) 0==69 with
   |false=>grind
   |true=>
    rw[h1,Ka rfl]at he';cases h2:digB (atS (unsign ((c::t).drop 1)) 0)with
    |false=>grind
    |true=>
     rw[h2,Ka rfl]at he';have hrr:past digB (unsign t)=r:=by injection he'
     have ht:t≠[]:=by rintro rfl;exact absurd (show digB (atS (unsign []) 0)=true from h2) (by decide)
     obtain⟨u1,u2⟩:=pJ x ht;have hun:unsign t≠[]:=by intro e;rw[show(c::t).drop 1=t from rfl,e]at h2;exact absurd h2 (by decide)
     have hexp:expS ((c::t)++x)=some (r++x):=by unfold expS;rw[show atS ((c::t)++x) 0=atS (c::t) 0 from rfl,h1,Ka rfl,show((c::t)++x).drop 1=t++x from rfl,u1];have:atS (unsign t++x) 0=atS (unsign t) 0:=mH x (Ih.2 hun);rw[this,show digB (atS (unsign t) 0)=true from h2,Ka rfl,Wq x (by grind),hrr]
     refine⟨by rw[hexp];rfl,?_⟩;rw[hP,hP,hexp,he];simp only[Option.isSome_some,Ee];rw[show((c::t)++x).drop 1=t++x from rfl,show(c::t).drop 1=t from rfl,u1,u2,nA x (by grind)];rfl
theorem rC(q:Str):ZI q=(match expS (qC (xg q)).1 with|some r=>(r,false)|none=>qC (xg q)):=rfl
theorem zK4{q x:Str}(h:(ZI q).1≠[])(j:xg q=[46]->digB (atS x 0)=false)(l:expS (qC (xg q)).1=none->expS ((qC (xg q)).1++x)=none):
  ZI (q++x)=((ZI q).1++x,(ZI q).2)/\numP (q++x)=numP q:=by
 rw[rC]at h;have a: ∀r,expS (qC (xg q)).1=some r->r≠[]:=by intro r p;rw[p]at h;exact h
 have b:(qC (xg q)).1≠[]:=by intro e;rw[e,show expS []=none from rfl]at h;exact h e
 have c:xg q≠[]:=by intro e;rw[e]at b;exact b rfl
 have n:q≠[]:=by rintro rfl;exact c rfl
 obtain⟨d,k⟩:=pJ x n;have f:xg (q++x)=xg q++x:=by unfold xg;rw[d];exact Wq x c
 obtain⟨i,m⟩:=zHk b j;obtain⟨s,o⟩:=zKw b a l;have g: ∀z:Str,numP z=⟨sgOf z,(unsign z).takeWhile digB,dotP (xg z),expP (qC (xg z)).1⟩:=fun z=>rfl;constructor
 ·rw[rC,rC,f,i]
  grind
 ·rw[g,g,k,d,nA x c,f,i,m,o]
def brS(c:UInt8)(r:Str):Nat:=
 if spB c then 0
 else if c==34||c==39 then 1
 else if c==35&&(letB (atS r 0)||escS r)then 2
 else if nbS (c::r)then 3
 else if [45,45,62].isPrefixOf (c::r)then 4
 else if [60,33,45,45].isPrefixOf (c::r)then 5
 else if c==64&&nmS r then 6
 else if nmS (c::r)then 7
 else if jg c==0 then 8
 else 9
def nxB:Nat->UInt8->Str->zf×Str
 |0,c,r=>(Ah 13,past spB (c::r))
 |1,c,r=>(Ml (ZB c r).1,(ZB c r).2)
 |2,_,r=>(⟨4,(Zn r).1,0,[],nmS r⟩,(Zn r).2)
 |3,c,r=>qE (c::r)
 |4,c,r=>(Ah 15,(c::r).drop 3)
 |5,c,r=>(Ah 14,(c::r).drop 4)
 |6,_,r=>(⟨3,(Zn r).1,0,[],false⟩,(Zn r).2)
 |7,c,r=>vg (c::r)
 |8,c,r=>(⟨9,[c],0,[],false⟩,r)
 |_+9,c,r=>(Ah (jg c),r)
theorem bM(c:UInt8)(r:Str):nxB 0 c r=(Ah 13,past spB (c::r)):=by rw[nxB]
theorem MH(c:UInt8)(r:Str):nxB 1 c r=(Ml (ZB c r).1,(ZB c r).2):=by rw[nxB]
theorem aM(c:UInt8)(r:Str):nxB 2 c r=(⟨4,(Zn r).1,0,[],nmS r⟩,(Zn r).2):=by rw[nxB]
theorem OA(c:UInt8)(r:Str):nxB 3 c r=qE (c::r):=by rw[nxB]
theorem nU(c:UInt8)(r:Str):nxB 4 c r=(Ah 15,(c::r).drop 3):=by rw[nxB]
theorem mU(c:UInt8)(r:Str):nxB 5 c r=(Ah 14,(c::r).drop 4):=by rw[nxB]
theorem LH(c:UInt8)(r:Str):nxB 6 c r=(⟨3,(Zn r).1,0,[],false⟩,(Zn r).2):=by rw[nxB]
theorem KH(c:UInt8)(r:Str):nxB 7 c r=vg (c::r):=by rw[nxB]
theorem lU(c:UInt8)(r:Str):nxB 8 c r=(⟨9,[c],0,[],false⟩,r):=by rw[nxB]
theorem JH(c:UInt8)(r:Str):nxB 9 c r=(Ah (jg c),r):=rfl
theorem Xt(c:UInt8)(r:Str):Rf (c::r)=nxB (brS c r) c r:=by
 rw[mJ];unfold brS;split
 ·rfl
 ·split
  ·rfl
  ·split
   ·rfl
   ·split
    ·rfl
    ·split
     ·rfl
     ·split
      ·rfl
      ·split
       ·rfl
       ·split
        ·rfl
        ·split<;>rfl
theorem br_4{c:UInt8}{r:Str}:brS c r=4->[45,45,62].isPrefixOf (c::r)=true:=by unfold brS;grind
theorem br_5{c:UInt8}{r:Str}:brS c r=5->[60,33,45,45].isPrefixOf (c::r)=true:=by unfold brS;grind
theorem br_9{c:UInt8}{r:Str}:brS c r=9-> ¬(jg c==0)=true:=by unfold brS;grind
theorem AV(c:UInt8)(r:Str):brS c r<=9:=by unfold brS;grind
def brK(k:Int):Nat:=
 if k=13 then 0 else if k=5\/k=6 then 1 else if k=4 then 2 else if k=10\/k=11\/k=12 then 3 else if k=15 then 4 else if k=14 then 5 else if k=3 then 6
 else if k=1\/k=2\/k=7\/k=8 then 7 else if k=9 then 8 else 9
theorem zIB(c:UInt8):jg c=0\/(16<=jg c/\jg c<=24):=by
 have: ∀n:Nat,n<256->jg (UInt8.ofNat n)=0\/(16<=jg (UInt8.ofNat n)/\jg (UInt8.ofNat n)<=24):=by decide+kernel
 have:=this c.toNat (Tc c);simp_all
theorem zIY(o:Option Str):(Ml o).kind=5\/(Ml o).kind=6:=by cases o<;>simp[Ml]
theorem zJk(o:Option Str):(Lm o).kind=7\/(Lm o).kind=8:=by cases o<;>simp[Lm]
theorem zC2(l:Str):(vg l).1.kind=1\/(vg l).1.kind=2\/(vg l).1.kind=7\/(vg l).1.kind=8:=by
 unfold vg;split
 ·split
  ·exact .inr (.inr (zJk _))
  grind
 ·exact .inl rfl
theorem jZ(l:Str):(qE l).1.kind=10\/(qE l).1.kind=11\/(qE l).1.kind=12:=by
 unfold qE
 grind
theorem UU{i:Nat}(h:i<=9):i=0\/i=1\/i=2\/i=3\/i=4\/i=5\/i=6\/i=7\/i=8\/i=9:=by omega
theorem wX(c:UInt8)(r:Str):brK (Rf (c::r)).1.kind=brS c r:=by
 rw[Xt];rcases UU (AV c r)with h|h|h|h|h|h|h|h|h|h
 ·rw[h];rfl
 ·rw[h,MH];show brK (Ml (ZB c r).1).kind=1;rcases zIY (ZB c r).1 with h|h<;>rw[h]<;>rfl
 ·rw[h];rfl
 ·rw[h,OA];rcases jZ (c::r)with h|h|h<;>rw[h]<;>rfl
 ·rw[h];rfl
 ·rw[h];rfl
 ·rw[h];rfl
 ·rw[h,KH];rcases zC2 (c::r)with h|h|h|h<;>rw[h]<;>rfl
 ·rw[h];rfl
 ·have b:=zIB c;have a:=br_9 h;rw[Cb]at a;rw[h,JH];show brK (jg c)=9;unfold brK
  repeat rw[Ha (by omega)]
theorem zE6{q x:Str}(h:(vg q).2≠[]):vg (q++x)=((vg q).1,(vg q).2++x):=by
 have g:(Zn q).2≠[]:=by intro e;unfold vg at h;rw[e,Ha (by decide)]at h;exact h rfl
 have e:=Ku x g;unfold vg;unfold vg at h;rw[e];simp only;have i:atS ((Zn q).2++x) 0=atS (Zn q).2 0:=mH x (Ih.2 g);rw[i];cases b:atS (Zn q).2 0==40 with
 |false=>rfl
 |true=>
  rw[b,Ka rfl]at h;simp only[Ee];cases f:(Zn q).2 with
  |nil=>grind
  |cons c r=>
   rw[f]at h;rw[show((c::r)++x).drop 1=r++x from rfl];rw[show(c::r).drop 1=r from rfl]at h ⊢;cases j:lowS (Zn q).1==[117,114,108]with
   |false=>
    grind
   |true=>
    rw[j,Ya]at h;simp only[Ya];cases a:past spB r with
    |nil=>
     rw[a,Ka (by decide),gq]at h
     grind
    |cons d t=>
     rw[Wq x (by rw[a];simp),a];rw[a]at h;rw[show atS ((d::t)++x) 0=atS (d::t) 0 from rfl];split
     ·rename_i k;rw[Ka k]at h;rw[iN x h]
     ·rfl
theorem VI{q x:Str}{n:Nat}(h:n<=q.length):(q++x).drop n=q.drop n++x:=mg h
structure zDH (q x:Str):Prop where
 e:ZI (q++x)=((ZI q).1++x,(ZI q).2)
 p:numP (q++x)=numP q
 n:nmS ((ZI q).1++x)=nmS (ZI q).1
theorem zAK{q x:Str}(a:zDH q x)(h:(qE q).2≠[]):qE (q++x)=((qE q).1,(qE q).2++x):=by
 have f:(ZI q).1≠[]:=by intro e;unfold qE at h;rw[e,Ha (by decide),Ha (by decide)]at h;exact h rfl
 have b:atS ((ZI q).1++x) 0=atS (ZI q).1 0:=mH x (Ih.2 f);unfold qE;unfold qE at h;rw[a.e,a.p];simp only[a.n,b];cases c:nmS (ZI q).1 with
 |true=> rw[c,Ka rfl]at h;simp only[Ee];rw[Ku x h]
 |false=>
  simp only[Vb,Yd];cases d:atS (ZI q).1 0==37 with
  |true=> simp_all
  |false=>grind
theorem zIG {c:UInt8} {r x:Str} (f:brS c (r++x)=brS c r) (h:(Rf (c::r)).2≠[]) (e:brS c r=2->nmS (r++x)=nmS r)
  (b:brS c r=3->zDH (c::r) x):Rf (c::(r++x))=((Rf (c::r)).1,(Rf (c::r)).2++x):=by
 rw[Xt c (r++x),f];rw[Xt]at h ⊢;rcases UU (AV c r)with a|a|a|a|a|a|a|a|a|a
 ·rw[a,bM]at h;rw[a,bM,bM,show c::(r++x)=(c::r)++x from rfl,Wq x h]
 ·rw[a,MH]at h;rw[a,MH,MH,aD x h]
 ·rw[a,aM]at h;rw[a,aM,aM,Ku x h,e a]
 ·have g:=b a;rw[a,OA]at h;rw[a,OA,OA,show c::(r++x)=(c::r)++x from rfl,zAK g h]
 ·have d:=Mq (br_4 a);rw[a,nU,nU,show c::(r++x)=(c::r)++x from rfl,VI (show 3<=(c::r).length from d)]
 ·have d:=Mq (br_5 a);rw[a,mU,mU,show c::(r++x)=(c::r)++x from rfl,VI (show 4<=(c::r).length from d)]
 ·rw[a,LH]at h;rw[a,LH,LH,Ku x h]
 ·rw[a,KH]at h;rw[a,KH,KH,show c::(r++x)=(c::r)++x from rfl,zE6 h]
 ·rw[a,lU,lU]
 ·rw[a,JH,JH]
theorem zHi{q:Str}(x:Str)(h:q≠[]):undot (q++x)=undot q++x:=by
 cases q with
 |nil=>grind
 |cons c r=> unfold undot;show(if c==46 then r++x else c::(r++x))=(if c==46 then r else c::r)++x;split<;>rfl
theorem LW{m:Str}: ∀{q:Str} (x:Str),m.length<=q.length->m.isPrefixOf (q++x)=m.isPrefixOf q:=by
 induction m with
 |nil=>grind
 |cons a m c=>
  intro q x h;cases q with
  |nil=>grind
  |cons b t=>
   grind
theorem zH5{w:Str}:expS w=none↔((atS w 0==101||atS w 0==69)&&digB (atS (unsign (w.drop 1)) 0))=false:=by
 unfold expS
 grind
theorem zDG(q:Str):(qC q).1<:+q:=by
 unfold qC;split
 ·exact(lm _ _).trans (Ke 1 q)
 grind
theorem zL8(q:Str):(ZI q).1<:+(qC (xg q)).1:=by
 rw[rC];cases h:expS (qC (xg q)).1 with
 |some r=>exact iX (Je _) h
 |none=>grind
theorem zAL(q:Str):(qE q).2<:+(ZI q).1:=by
 unfold qE;split
 ·exact um _
 ·split
  ·exact Ke 1 _
  grind
theorem zDj{q:Str}(h:(qE q).2≠[]):(ZI q).1≠[]:=by intro e;have:=(zAL q).length_le;simp_all
end Go.Lv.VT
