import Derived.Test.YtiidaccdmolmkaaGreatDoorXl
set_option linter.all false
namespace Go.Lv.VT
set_option maxRecDepth 100000
def zMf{r:zP}(hb:zL zu [r]<=co):aJ r=some (bif Lh [r]then 0 else 8):=by unfold aJ;simp only[Zh,yl,IW hb,za,Aa]
def zMe{r:zP}(hb:zL zu [r]<=co):iJ r=some (bif Lh [r]then 0 else 8):=by unfold iJ;simp only[Zh,yl,yO (s:=⟨[r]⟩) hb,za,Aa]
def zEZ{x:lj}(h:zL zu x.j<=co):IB x=some (bif Lh x.j then 0 else 8):=by unfold IB;simp only[IW h,za,Aa]
structure SmL (l:List zP):Prop where
 z:zL zu l<=co
 o: ∀r∈l,qH (zu r)
 m: ∀r∈l,SmR r
def SmL.gr{l:List zP}(h:SmL l)(hs:Lh l=true):(∀r∈l,GR r/\iz r<=64)/\Qv l<=64:=by
 unfold Lh at hs;rw[Da,Da,aa]at hs;have hn: ∀{l:List zP} {r:zP},r∈l->iz r<=Qv l:=by
  intro l r hr
  induction l with
  |nil=>cases hr
  |cons a l b=>
   rw[Qv];rcases ib.1 hr with rfl|hr
   ·omega
   ·have:=b hr;omega
 refine⟨λr hr=>⟨⟨?_,h.o r hr,Ya.1 hs.2.1 r hr,h.m r hr⟩,?_⟩,hs.1⟩
 ·have:=Z7 (f:=zu) hr;have:=h.z;omega
 ·have:=hn hr;omega
def rulX(r:zP):aE×Int:=bif Lh [r]then lA (rW r)else([],8)
def txsX(l:List zP):List aE×Int:=bif Lh l then txsW (l.map rW)else([],8)
def aluW(l:List zP):aE:=fL (λ_=>[10]) (l.map rW)
def sheX(l:List zP):aE×Int:=bif Lh l then lA (aluW l)else([],8)
def zzJ{r:zP}(h:SmL [r]):nG r=some (rulX r):=by
 unfold nG rulX;simp only[Zh,yl,zMf h.z,za,Aa];cases hs:Lh [r]with
 |false=>rfl
 |true=> have a:=((h.gr hs).1 r (Ve r)).1;simp only[Ca,Hf,Ba,kZ a,Aa]
def LV{x:lj}(h:SmL x.j):rq x=some (txsX x.j):=by
 unfold txsX;cases hs:Lh x.j with
 |false=> unfold rq;rw[zEZ h.z,hs];rfl
 |true=> have a:=Z4 Bj x.j;have b:=h.z;exact zv8 (f:=rW) (by omega) (by rw[zEZ h.z,hs];rfl) λr hr=>kZ ((h.gr hs).1 r hr).1
def I7{l:List zP}(h:SmL l)(hs:Lh l=true):(aluW l).length<=200000000:=by
 have a:co=4194304:=rfl;obtain⟨h1,h2⟩:=h.gr hs;have:=R4 (sep:=λ_=>[10]) (f:=rW) (λ_=>by show 1<=3;omega) (l:=l) λr hr=>by have:=zF9 (h1 r hr).1;omega
 have:=h.z;unfold aluW;omega
def zv7{x:lj}(h:SmL x.j):RH x=some (sheX x.j):=by
 have b:co=4194304:=rfl;unfold RH;rw[LV h];unfold txsX sheX;simp only[za,Aa];cases hs:Lh x.j with
 |false=>rfl
 |true=>
  have d:=Z4 Bj x.j;have f:=h.z;have a:=I7 h hs;rw[Ca,Ca];unfold txsW;cases ha:(x.j.map rW).any Pk with
  |true=> obtain⟨t,ht,hl⟩:=Bg.1 ha;unfold Pk at hl;rw[aa]at hl;have:=zJr (c:=[10]) ht;unfold lA aluW;rw[Ga (by omega)];rfl
  |false=>
   have hn:(Nat.ble (x.j.map rW).length 1000000&&Nat.ble (Lib.join (x.j.map rW) [10]).length 1000000000)=true:=by
    rw[Da,Nat.ble_eq,Nat.ble_eq,Xa,U4];have h2:=(h.gr hs).2;have h3:x.j.length<=Qv x.j:=by rw[zB8];omega
    have:(fL (λ_=>[10]) (x.j.map rW)).length<=200000000:=a;omega
   rw[Ba];unfold Rk;simp only[Hf,Ba];rw[zn hn];simp only[Aa,U4];have e: ∀n:Nat,decide ((n:Int)>4000)=decide (4000<n):=λn=>by rw[ng];omega
   unfold lA aluW;rw[e];cases decide (4000<(fL (λ_=>[10]) (x.j.map rW)).length)<;>rfl
def T9{n:List aE}(h:Vh n=true):WA n=some (Vi n):=by
 have c:co=4194304:=rfl;have d:eI=1000000000:=rfl;obtain⟨_,h2,h3⟩:=lQ h;have hl:=NG h;unfold WA;refine(Mt (sep:=λ_=>[46]) (L:=n.map ZA) (acc:=[]) (by grind) (by show 0+(Vi n).length<=eI;omega) (λi a hi ha=> ?_) (λa=> ?_)).trans rfl
 ·have b:i<n.length:=by rwa [Xa]at hi
  rw[Md]at ha ⊢;rw[Ea]at ha;simp only[zN b,Ca,zF b,za,Aa];rw[oD (by omega),zf,LA (ll (h3 _ (Ia b))).1,Aa,zn (ZQ (by grind)),Ja]
 ·grind
def zIX{S:zP->Option aE}{l:List zP}(hS: ∀r∈l,S r=some (rW r))(hl:l.length<=co)(hb:(gR (l.map rW)).length<=eI):Ex S l=some (gR (l.map rW)):=by
 unfold Ex;rw[uK];unfold gR at hb ⊢;have em:(l.map rW).isEmpty=l.isEmpty:=by cases l<;>rfl
 rw[em]at hb ⊢;cases c:l.isEmpty with
 |true=>rfl
 |false=>
  rw[c,Ba,Ea,Ea]at hb;rw[Ba,Ba];refine(Mt (sep:=λ_=>[]) (L:=(l.map rW).map λt=>t++[32]) (acc:=[123,32]) (by grind) (by omega) (λi a hi ha=> ?_) (λa=> ?_)).trans ?_
  ·have b:i<l.length:=by rwa [Xa,Xa]at hi
   rw[Md,Md]at ha ⊢;have e0:(bif i==0 then []else([]:aE))=[]:=by cases i==0<;>rfl
   simp only[e0,Lb]at ha ⊢;simp only[zN b,Ca,zF b,za,Aa,Zh,yl,hS _ (Ia b)];rw[zn (ZQ (by grind)),zn (ZQ ha)]
  ·grind
  ·rw[zn (ZQ (by grind)),Ja]
def K6{R:Type}{y:aE}(h:y.length+1<=eI):(bif !(y==[])then ck (zI y.length ([32]:aE).length)<|some (.out (y++([32]:aE)))else some (.out y):Option (LX aE R))=some (.out (bif y.isEmpty then []else y++[32])):=by
 cases y with
 |nil=>rfl
 |cons a l=> show ck _ _=_;rw[zn (ZQ (show(a::l).length+([32]:aE).length<=eI from h))];rfl
def vL{r:zP}(h:GR r)(hn:iz r<=64):ZI r=some (rW r):=by
 refine ZB (λr=>zx (zu r)) (λr=>GR r/\iz r<=64) rW (λS r hr hS=> ?_) ⟨h,hn⟩;clear h hn;have x:co=4194304:=rfl;have y:eI=1000000000:=rfl;obtain⟨h,hn⟩:=hr;have Z:=Si r;have E:=h.z;have F:=Pw r.cond;have J:=Z4 Bj r.j;obtain⟨M,O⟩:=FD r.kf;have hm:=h.m.inv;have f:=h.head.2;have b:=zF9 h;have p: ∀q∈r.j,S q=some (rW q):=λq s=>hS q ⟨h.sub s,by
  have:iz q<=Qv r.j:=by
   have: ∀{l:List zP},q∈l->iz q<=Qv l:=by
    intro l hl
    induction l with
    |nil=>cases hl
    |cons a l ih=>
     rw[Qv]
     grind
   exact this s
  rw[xy]at hn;omega⟩ (wz s)
 have Q:bdR r<=200000000:=by unfold bdR;omega
 have U:rW r=_:=wD Pg (eV ez) r;have ln:layW.length=7/\medW.length=7/\eu.length=10:=by decide
 rw[U]at b ⊢;have u:(gR (r.j.map (fX Pg (eV ez)))).length<=eI->Ex S r.j=some (gR (r.j.map (fX Pg (eV ez)))):=λh=>zIX p (by omega) h;unfold fJ;rcases BL h.head.1 with hp|hp|hp|hp|hp
 ·have hs:=zRe (show zL zk r.ke<=co by omega) (LF hp.2.1 h.sel.1).2;have V:XA r.kh=some (Pg r.kh):=zNK (λd j=>⟨hm.2.1 d j,hp.2.2.2.1 d j⟩) (by omega);rw[hp.1,show((1:Int)==1)=true from rfl,Ca]at b ⊢;rw[Ca,hs,uK];simp only[za,Aa];cases j:r.kh.isEmpty with
  |true=> rw[j,Ca,Ea]at b;rw[Ca,Ca,zn (ZQ (by omega))]
  |false=>
   rw[j,Ba,Ea,Ea,Ea]at b;rw[Ba,Ba,zn (ZQ (by omega)),V,Aa,zn (ZQ (by grind)),zn (ZQ (by grind))]
   grind
 ·have c:=YM hp.2.1;have v:=jE hm.2.2.1 (by rw[hp.2.1];rfl);have hc:zV r.cond=some (eV ez r.cond):=IX (by omega) c hm.2.2.1.n;rw[hp.1,show((2:Int)==1)=false from rfl,Ba,show((2:Int)==2||(2:Int)==3)=true from rfl,Ca,show((2:Int)==3)=false from rfl,Ba]at b ⊢;rw[Ea,Ea]at b;simp only[show((2:Int)==1)=false from rfl,show((2:Int)==2)=true from rfl,show((2:Int)==3)=false from rfl,Ba,Ca,zf,Zh,hc,za,Aa];rw[K6 (by omega),zf,zn (ZQ (by grind)),u (by omega),Aa,zn (ZQ (by grind)),Ja];rfl
 ·have c:=nQ (XQ hp.2.1) hm.2.2.1.d;have v:=jE hm.2.2.1 (by grind);have hc:zV r.cond=some (eV ez r.cond):=IX (by omega) c hm.2.2.1.n;rw[hp.1,show((3:Int)==1)=false from rfl,Ba,show((3:Int)==2||(3:Int)==3)=true from rfl,Ca,show((3:Int)==3)=true from rfl,Ca]at b ⊢;rw[Ea,Ea]at b;simp only[show((3:Int)==1)=false from rfl,show((3:Int)==2)=false from rfl,show((3:Int)==3)=true from rfl,Ba,Ca,zf,Zh,hc,za,Aa];rw[K6 (by omega),zf,zn (ZQ (by show eu.length+_<=eI;omega)),u (by omega),Aa,zn (ZQ (by rw[Ea];show eu.length+_+_<=eI;omega)),Ja];rfl
 ·rw[hp.1,show((4:Int)==1)=false from rfl,Ba,show((4:Int)==2||(4:Int)==3)=false from rfl,Ba,show((4:Int)==4)=true from rfl,Ca]at b ⊢;rw[Ea,Ea]at b;simp only[show((4:Int)==1)=false from rfl,show((4:Int)==2)=false from rfl,show((4:Int)==3)=false from rfl,show((4:Int)==4)=true from rfl,Ba,Ca,zf,za];have A:=u (by omega);have W:=hp.2;cases k:r.kf with
  |nil=> rw[k]at b;show zK (X:=aE) (some (.out layW)) _=_;rw[zf,A,Aa,zn (ZQ (by omega))];rfl
  |cons n t=>
   obtain rfl:t=[]:=by simp_all
   have o:=f n (by grind);have Y:=NG o;have e1:fL (λ_=>[]) ([n].map λn=>Vi n++[32])=Vi n++[32]:=by rw[Xb,GM];simp
   rw[k,e1]at b;rw[e1];simp only[show decide ((([n]:List (List aE)).length:Int)>0)=true from rfl,show cl [n] 0=some n from rfl,Ca,Aa,T9 o];rw[zn (ZQ (by grind)),zn (ZQ (by grind)),zf,A,Aa,zn (ZQ (by grind)),Ja];rfl
 ·rw[hp.1,show((5:Int)==1)=false from rfl,Ba,show((5:Int)==2||(5:Int)==3)=false from rfl,Ba,show((5:Int)==4)=false from rfl,Ba]at b ⊢;rw[Ea,Ea]at b;simp only[show((5:Int)==1)=false from rfl,show((5:Int)==2)=false from rfl,show((5:Int)==3)=false from rfl,show((5:Int)==4)=false from rfl,Ba,zf,za];refine(Mt (sep:=io) (L:=r.kf.map Vi) (acc:=layW) (by grind) (by omega) (λi a hi ha=> ?_) (λa=> ?_)).trans ?_
  ·have e:i<r.kf.length:=by rwa [Xa]at hi
   rw[Md]at ha ⊢;rw[Ea]at ha;simp only[zN e,Ca,zF e,Aa];have e0:(bif i==0 then []else([44,32]:aE))=(bif i==0 then []else io i):=rfl;rw[oD (by rw[e0];omega),zf,T9 (f _ (Ia e)),Aa,zn (ZQ (by grind)),Ja];rfl
  ·grind
  ·rw[zn (ZQ (by grind)),Ja]
def OZ(n:Nat):decide ((n:Int)<=4000)= !decide (4000<n):=zQq n
def zzI{r:zP}(h:SmL [r]):oG r=some (rulX r):=by
 unfold oG rulX;simp only[Zh,yl,zMe h.z,za,Aa];cases hs:Lh [r]with
 |false=>rfl
 |true=>
  obtain⟨a,hn⟩:=(h.gr hs).1 r (Ve r);simp only[Ca,Hf,Ba,vL a hn,Aa,OZ];unfold lA
  grind
def zv6{x:lj}(h:SmL x.j):nA x=some (txsX x.j):=by
 have d:co=4194304:=rfl
 suffices Has (nA x) (λy=>y=txsX x.j) by obtain⟨y,e,rfl⟩:=this;exact e
 unfold nA txsX;refine Has.eqb (yO h.z) ?_;cases hs:Lh x.j with
 |false=>exact .some rfl
 |true=>
  have c:=Z4 Bj x.j;have k:=h.z;have hl:x.j.length<=co:=by omega
  rw[Ca,Ca,show((0:Int) != 0)=false from rfl,Ba];refine Has.loop (λs=> ∃i:Nat,s=((i:Int),(x.j.take i).map rW)/\i<=x.j.length/\((x.j.take i).map rW).any Pk=false) (λs=>x.j.length - s.1.toNat) (P:=λL=>L=x.j.map rW/\(x.j.map rW).any Pk=false) ⟨0,rfl,Yb _,rfl⟩ ?_ (λL f=> ?_)
  ·rintro _ ⟨i,rfl,hi,ha⟩;rcases Ec i x.j.length with b|b
   ·have hm:=Ia b;obtain⟨j,hn⟩:=(h.gr hs).1 _ hm;simp only[zN b,Ca,zF b,za,Aa,Zh,yl,vL j hn,dS];cases a:decide (4000<(rW x.j[i]).length)with
    |true=> refine⟨_,rfl,?_⟩;show(([]:List aE),(28:Int))=_;unfold txsW;rw[Bg.2 ⟨rW x.j[i],List.mem_map_of_mem hm,a⟩,Ca]
    |false=>
     rw[Ba];have c:((x.j.take i).map rW).length=i:=by rw[Xa,Oc];omega
     refine Has.need (by rw[c];unfold Zm;grind) (.some ⟨⟨i+1,?_,b,?_⟩,?_⟩)
     ·rw[zD b hl,Jb b,Tc];rfl
     ·rw[Jb b,Tc,List.any_append,ha];show(false||(Pk _||false))=false;unfold Pk;rw[a];rfl
     ·show x.j.length - (cj ((i:Int)+1)).toNat<x.j.length - ((i:Int)).toNat;rw[zD b hl];omega
   ·obtain rfl:i=x.j.length:=by omega
    simp only[Nh,Ba];rw[Xc]at ha;exact .some ⟨by grind,ha⟩
  ·obtain⟨rfl,ha⟩:=f;refine .some ?_;unfold txsW;rw[ha];rfl
def zv5{x:lj}(h:SmL x.j):SH x=some (sheX x.j):=by
 have c:co=4194304:=rfl;have d:eI=1000000000:=rfl;unfold SH sheX;rw[yO h.z];simp only[za,Aa];cases hs:Lh x.j with
 |false=>rfl
 |true=>
  have e:=Z4 Bj x.j;have k:=h.z;have f:=I7 h hs;have ha:JG x.j=some (aluW x.j):=by
   unfold JG;refine(Mt (sep:=λ_=>[10]) (L:=x.j.map rW) (acc:=[]) (by grind) (by show 0+(aluW x.j).length<=eI;omega) (λi a hi ha=> ?_) (λa=> ?_)).trans rfl
   ·have b:i<x.j.length:=by rwa [Xa]at hi
    obtain⟨j,hn⟩:=(h.gr hs).1 _ (Ia b);rw[Md]at ha ⊢;rw[Ea]at ha;simp only[zN b,Ca,zF b,za,Aa,Zh,yl,vL j hn];rw[oD (by omega),zf,zn (ZQ (by grind)),Ja]
   ·grind
  simp only[Ca,Hf,Ba,ha,Aa,OZ];unfold lA
  grind
def zNQ{L:List aE}(h:L.length<=co):gJ (L,L)=some true:=by
 unfold gJ;simp only[Hf,Ba];refine(YC L (λ_=>true) false (λi hi=> ?_) ?_).trans (by grind)
 ·simp only[zN hi,Ca,zF hi,za,Aa,Ff,Ab,Ba,zD hi h]
 grind
def zuF{r:zP}{x:lj}(hr:zL zu [r]<=co)(a:zL zu x.j<=co)(c:qH (zu r))(d: ∀q∈x.j,qH (zu q)):TK (r,x)=some true:=by
 obtain⟨e,e1,p1⟩:=F9 hr;obtain⟨f,e2,p2⟩:=F9 a;unfold TK;simp only[Zh,yl,e1,e2,zO,za,Aa];cases e with
 |true=>rfl
 |false=>
  cases f with
  |true=>rfl
  |false=>
   have h1:SmL [r]:=⟨hr,λq i=>(by grind),p1 rfl⟩;have h2:SmL x.j:=⟨a,d,p2 rfl⟩;have hl:(txsX x.j).1.length<=co:=by have b:=Z4 Bj x.j;unfold txsX txsW;cases Lh x.j<;>cases (x.j.map rW).any Pk<;>simp only[Ca,Ba,Xa,Cb]<;>omega
   simp only[Va,Ca,Ba,zzJ h1,zzI h1,LV h2,zv6 h2,zv7 h2,zv5 h2,Aa,Ff,zNQ hl,zQ]
end Go.Lv.VT
