import Derived.Test.YtiidaccdmolmkaaGreatDoorXh
set_option linter.all false
namespace Go.Lv.VT
set_option maxRecDepth 100000
def fi(s:aE):aE:=List.replicate (20 - s.length) 0++s
def kt(s:aE):Int:=((20 - s.length:Nat):Int)
def zES{s:aE}(h:s.length<=20):(fi s).length=20:=by
 unfold fi
 grind
def BZ{c:Nat}{s:aE}(hc:c<256)(hs:s.length<20):qL ((c:Int),kt s,fi s)=some (kt (UInt8.ofNat c::s),fi (UInt8.ofNat c::s)):=by
 have e1:cj (kt s - 1)=((20 - (s.length+1):Nat):Int):=by unfold kt;rw[cj,ZX (by omega) (by omega)];omega
 have hl:=zES (s:=s) (by omega);have hn:(decide ((0:Int)<=((20 - (s.length+1):Nat):Int))&&(decide (((20 - (s.length+1):Nat):Int)<20)&&decide (((20 - (s.length+1):Nat):Int)<((fi s).length:Int))))=true:=by rw[hl,Ga (by omega),Ga (by omega)];exact Ga (by omega)
 obtain⟨k,hk⟩: ∃k,20 - s.length=k+1:=⟨19 - s.length,by omega⟩;have a:20 - (s.length+1)=k:=by omega
 have ha:fi s=List.replicate k 0++0::s:=by unfold fi;rw[hk,List.replicate_succ'];simp
 have g:(List.replicate k (0:UInt8)++0::s)[k]? =some 0:=by rw[Ei (by simp)];simp
 have b:List.set (List.replicate k (0:UInt8)++0::s) k (UInt8.ofNat c)=List.replicate k 0++UInt8.ofNat c::s:=by rw[List.set_append_right _ _ (by simp)];simp
 rw[a]at hn;unfold qL;simp only[e1,a];rw[hn,Zd,Oa,ha,g];simp only[za,Aa,Z5 hc,b];unfold kt fi;rw[Ha,a]
def PQ: ∀d:Nat,d<10->cN (cj (48+(d:Int)))=((48+d:Nat):Int):=by decide+kernel
def vX{d:Nat}{s:aE}(a:d<10)(hs:s.length<20):qL (cN (cj (48+(d:Int))),kt s,fi s)=some (kt (ie d::s),fi (ie d::s)):=by rw[PQ d a];exact BZ (by omega) hs
def PY(s:aE)(h:s.length<=20):decide (kt s<20)= !s.isEmpty:=by
 unfold kt;cases s with
 |nil=>rfl
 |cons a r=>grind
def zNC{R:Type}{p:Nat}{acc:aE}(ha:acc.length<20):
  ((bif bif Int.tmod (p:Int) 10 != 0 then true else decide (kt acc<20)then
   za (qL (cN (cj (48+Int.tmod (p:Int) 10)),kt acc,fi acc)) λa=>some (LX.out ((p:Int),a.2,a.1))
  else some (LX.out ((p:Int),fi acc,kt acc))):Option (LX (Int×List UInt8×Int) R))=some (LX.out ((p:Int),fi (Mk acc (p%10)),kt (Mk acc (p%10)))):=by
 have e:Int.tmod (p:Int) 10=((p%10:Nat):Int):=rfl;rw[e,PY acc (by omega),vX (Vf _ (by omega)) ha];simp only[za,Aa];have e2:(((p%10:Nat):Int) != 0)= !(p%10==0):=by
  cases h:p%10==0 with
  |true=>grind
  |false=>grind
 rw[e2];unfold Mk
 grind
def ccB(r:Nat):Nat->aE
 |0=>[]
 |1=>Mk [] (r%10)
 |2=>Mk (Mk [] (r%10)) (r / 10%10)
 |_=>j7 (ly r)
def ppB(r:Nat):Nat->Nat
 |0=>r
 |1=>r / 10
 |2=>r / 10 / 10
 |_=>r / 10 / 10 / 10
def zCR(acc:aE)(d:Nat):(Mk acc d).length<=acc.length+1:=by
 unfold Mk
 grind
def A7{r:Nat}(h:r<1000):(j7 (ly r)).length<=4:=by
 have:=YR h;unfold j7
 grind
def zBr {R:Type}{step:Int×List UInt8×Int->Option (LO (Int×List UInt8×Int) (List UInt8×Int) R)}
  (a: ∀(m:Nat) (s:aE),s.length<20->m<10000000000->step ((m:Int),fi s,kt s)=if m<10 then some (.out (fi (ie m::s),kt (ie m::s)))else some (.again (((m / 10:Nat):Int),fi (ie (m%10)::s),kt (ie (m%10)::s)))):
  ∀(f m:Nat) (s:aE),m<10 ^ f->m<10000000000->0<f->s.length+f<=20-> ∃j,ZP step j ((m:Int),fi s,kt s)=some (.out (fi (lP f m s),kt (lP f m s)))
 |0,_,_,_,_,h,_=>absurd h (by omega)
 |f+1,m,s,h,hm,_,hl=>by
  have e:=a m s (by omega) hm;rw[lP];by_cases h1:m<10
  ·rw[La h1]at e ⊢;exact⟨1,by simp only[ZP,e]⟩
  ·rw[Ka h1]at e ⊢;have h2:m / 10<10 ^ f:=by rw[Ng]at h;omega
   have hf:0<f:=by
    rcases De f with rfl|hf
    ·simp at h;omega
    ·exact hf
   obtain⟨j,b⟩:=zBr a f (m / 10) (ie (m%10)::s) h2 (by omega) hf (by grind);exact⟨j+1,by simp only[ZP,e];exact b⟩
def kL: ∀(f m:Nat) (s:aE),(lP f m s).length<=s.length+f
 |0,_,s=>by rw[lP];omega
 |f+1,m,s=>by
  rw[lP];split
  ·grind
  ·have:=kL f (m / 10) (ie (m%10)::s)
   grind
def zBu{n:Int}(h0: -1000000000000<=n)(h:n<=1000000000000):dA [n]=some 0:=by
 have:=yV n;unfold Rx isN at this
 grind
def zvm{n:Nat}(h:n<=1000000000000):dH (n:Int)=some (cE n false,0):=by
 have hr:n%1000<1000:=Vf _ (by omega);have b:decide ((n:Int)<0)=false:=Ma (by omega);have o:cE n false=lP 10 (n / 1000) (j7 (ly (n%1000))):=by rw[d9 h];unfold cE;rw[Ka (by omega)];rfl
 have c:=kL 10 (n / 1000) (j7 (ly (n%1000)));have r:=A7 hr;have e1:Int.tmod (n:Int) 1000=((n%1000:Nat):Int):=rfl;have e2:cj (Int.tdiv (n:Int) 1000)=((n / 1000:Nat):Int):=by rw[show Int.tdiv (n:Int) 1000=((n / 1000:Nat):Int)from rfl,zY (by omega) (by omega)]
 unfold dH;rw[zBu (by omega) (by omega)];simp only[za,Aa,Hf,Ba,b,zf,e1,e2];refine(bF 3 (λi=>(((ppB (n%1000) i:Int),(i:Int)),fi (ccB (n%1000) i),kt (ccB (n%1000) i))) (fi (j7 (ly (n%1000))),kt (j7 (ly (n%1000)))) rfl (λi hi=> ?_) rfl).trans ?_
 ·have hp: ∀i,ppB (n%1000) i<1000:=λi=>by unfold ppB;split<;>omega
  have hc:(ccB (n%1000) i).length<20:=by have a1:=zCR [] (n%1000%10);have a2:=zCR (Mk [] (n%1000%10)) (n%1000 / 10%10);unfold ccB;split<;>simp only[Cb]at* <;>omega
  have hs:=zNC (R:=LX ((Int×Int)×List UInt8×Int) (LO ((Int×Int)×List UInt8×Int) (List UInt8×Int) (aE×Int))) (p:=ppB (n%1000) i) hc;simp only[za]at hs;have d1:decide ((i:Int)<3)=true:=Ga (by omega);have d:cj (Int.tdiv (ppB (n%1000) i:Int) 10)=((ppB (n%1000) i / 10:Nat):Int):=by rw[show Int.tdiv (ppB (n%1000) i:Int) 10=((ppB (n%1000) i / 10:Nat):Int)from rfl,zY (by omega) (by grind)]
  simp only[d1,Ca];rw[hs];simp only[zf,d]
  match i,hi with
  |0,_=>rfl
  |1,_=>rfl
  |2,_=> show zK (bif bif ((2:Int)==2)then decide (kt (ly (n%1000))<20)else false then _ else _) _=_;rw[PY _ (by have:=YR hr;omega)];show zK (bif !(ly (n%1000)).isEmpty then(qL (46,kt (ly (n%1000)),fi (ly (n%1000)))).bind _ else _) _=_;rw[show((46:Int),kt (ly (n%1000)),fi (ly (n%1000)))=(((46:Nat):Int),kt (ly (n%1000)),fi (ly (n%1000)))from rfl,BZ (by omega) (by have:=YR hr;omega)];show _=some (LO.again (((_,_)),fi (j7 (ly (n%1000))),kt (j7 (ly (n%1000)))));unfold j7;cases (ly (n%1000)).isEmpty<;>rfl
 ·obtain⟨j,t⟩:=zBr (R:=aE×Int) (step:=λ(e:Int×List UInt8×Int)=>
    (qL (cN (cj (48+Int.tmod e.1 10)),e.2.2,e.2.1)).bind λa=>
    bif decide (e.1<10)then
     some (LO.out (a.2,a.1))
    else
     some (LO.again (cj (Int.tdiv e.1 10),a.2,a.1))) (λm s hs hm=>by
   simp only[show Int.tmod (m:Int) 10=((m%10:Nat):Int)from rfl,vX (Vf m (show 0<10 by omega)) hs,Aa];by_cases h1:m<10
   ·grind
   ·rw[Ka h1,Ma (by omega),Ba,show Int.tdiv (m:Int) 10=((m / 10:Nat):Int)from rfl,zY (by omega) (by omega)]) 10 (n / 1000) (j7 (ly (n%1000))) (by omega) (by omega) (by omega) (by omega)
  rw[Go.Lv.Zt (qM t)];simp only[zf];rw[<-o]at c ⊢;have f:(cE (n:Int) false).length<=20:=by omega
  have l:=zES f;have u:(decide ((0:Int)<=kt (cE (n:Int) false))&&decide (kt (cE (n:Int) false)<=20)&&Nat.beq (fi (cE (n:Int) false)).length 20)=true:=by rw[l];unfold kt;rw[Ga (by omega),Ga (by omega)];rfl
  have t1:(kt (cE (n:Int) false)).toNat=20 - (cE (n:Int) false).length:=Oa _;rw[u,Zd,t1,zn (Ga (by rw[l];omega))];have k:List.drop (20 - (cE (n:Int) false).length) (fi (cE (n:Int) false))=cE n false:=by
   unfold fi;have:=List.drop_left (l₁:=List.replicate (20 - (cE (n:Int) false).length) (0:UInt8)) (l₂:=cE n false)
   rwa [List.length_replicate]at this
  grind
def zCy: ∀{n:Nat},n<=1000000000000->Qr (n:Int)=some (Lib.decDigits n):=by
 intro n hn;refine ZB (λx:Int=>x.toNat) (λx=>0<=x/\x<=1000000000000) (λx=>Lib.decDigits x.toNat) (λS x a hS=> ?_) ⟨by omega,by omega⟩;obtain⟨m,rfl⟩: ∃m:Nat,x=(m:Int):=⟨x.toNat,by omega⟩;unfold sI;have hb:qj (cN (cj (48+Int.tmod (m:Int) 10)))=some (ie (m%10)):=by rw[show Int.tmod (m:Int) 10=((m%10:Nat):Int)from rfl,PQ _ (Vf _ (by omega)),Z5 (by omega)];rfl
 rw[Oa,Lib.decDigits,hb];simp only[za,Aa];by_cases h:m<10
 ·rw[Ga (by omega),Ca,dif_pos h,xe h];rfl
 ·have e1:cj (Int.tdiv (m:Int) 10)=((m / 10:Nat):Int):=by rw[show Int.tdiv (m:Int) 10=((m / 10:Nat):Int)from rfl,zY (by omega) (by omega)]
  rw[Ma (by omega),Ba,dif_neg h,e1,hS _ ⟨by omega,by omega⟩ (by omega),Oa];simp only[Aa];rw[zn (Zc.2 (by have:=Kk (u:=m / 10) (by omega);grind))];rfl
def byF:Nat->Nat
 |0=>0
 |1=>0
 |k+2=>10 ^ k
def zPs(k:Nat):byF (k+2) / 10=byF (k+1):=by
 cases k with
 |zero=>rfl
 |succ k=>show 10 ^ (k+1) / 10=10 ^ k;grind
def V6 {R:Type}{step:aE×Int×Int->Option (LO (aE×Int×Int) aE R)}
  (i: ∀s b,step (s,0,b)=some (.out s)) (hp: ∀(s:aE) (p b:Nat),0<p->0<b->p<=1000->b<=100->s.length<=1000->step (s,(p:Int),(b:Int))=some (.again (s++Lib.decDigits (p / b),((p%b:Nat):Int),((b / 10:Nat):Int)))):
  ∀(f p:Nat) (s:aE),f<=3->p<10 ^ f->s.length+20*f<=1000-> ∃j,ZP step j (s,(p:Int),(byF (f+1):Int))=some (.out (s++fr3 (f+1) (byF (f+1)) p))
 |0,p,s,_,h,_=>by
  obtain rfl:p=0:=by simp at h;omega
  exact⟨1,by simp only[ZP];rw[show((0:Nat):Int)=0 from rfl,i];simp[fr3]⟩
 |f+1,p,s,hf,h,hl=>by
  rw[fr3];by_cases h0:p>0
  ·rw[La h0];have hb:0<byF (f+2):=Jg (by omega);have c:byF (f+2)<=100:=by show 10 ^ f<=100;exact yg (n:=10) (j:=2) (by omega) (by omega)
   have a:p<=1000:=by have:10 ^ (f+1)<=1000:=yg (n:=10) (j:=3) (by omega) (by omega);omega
   have e:=hp s p (byF (f+2)) h0 hb a c (by omega);have k:(Lib.decDigits (p / byF (f+2))).length<=20:=Kk (by have:=Nat.div_le_self p (byF (f+2));omega);obtain⟨j,l⟩:=V6 i hp f (p%byF (f+2)) (s++Lib.decDigits (p / byF (f+2))) (by omega) (Vf _ hb) (by grind);have d:=zPs f;rw[d]at e ⊢;exact⟨j+1,by simp only[ZP,e];grind⟩
  ·obtain rfl:p=0:=by omega
   rw[Ka h0,Ib];exact⟨1,by simp only[ZP];grind⟩
def YV{n:Nat}(h:n<=1000000000000):En (n:Int)=some (cE n false):=by
 refine ZB (λ_:Int=>0) (λx=>0<=x/\x<=1000000000000) (λx=>cE x false) (λS x y hS=> ?_) ⟨by omega,by omega⟩;obtain⟨n,rfl⟩: ∃m:Nat,x=(m:Int):=⟨x.toNat,by omega⟩;have hn:n<=1000000000000:=by omega
 have hr:n%1000<1000:=Vf _ (by omega);unfold PI;have c:decide ((n:Int)<0)=false:=Ma (by omega);have e2:cj (Int.tdiv (n:Int) 1000)=((n / 1000:Nat):Int):=by rw[show Int.tdiv (n:Int) 1000=((n / 1000:Nat):Int)from rfl,zY (by omega) (by omega)]
 have A:=Kk (u:=n / 1000) (by omega);have e:cE (n:Int) false=Lib.decDigits (n / 1000)++(bif n%1000==0 then []else 46::fr3 4 100 (n%1000)):=by rw[zP6 hr];unfold cE;rw[Ka (by omega)];rfl
 rw[e,c,Ba,e2,zCy (by omega)];simp only[za,Aa];have e3:(Int.tmod (n:Int) 1000==0)=(n%1000==0):=by rw[show Int.tmod (n:Int) 1000=((n%1000:Nat):Int)from rfl,Gg,Fb,Fb];omega
 rw[e3];cases n%1000==0 with
 |true=>grind
 |false=>
  simp only[Ba];rw[zn (Zc.2 (by grind))];obtain⟨j,f⟩:=V6 (R:=aE) (step:=λ(a:aE×Int×Int)=>
     bif decide (a.2.1>0)then
      ck (a.2.2 != 0)<|
      (Qr (cj (Int.tdiv a.2.1 a.2.2))).bind λd=>
      ck (zI a.1.length d.length)<|
      ck (a.2.2 != 0)<|
      some (LO.again (a.1++d,Int.tmod a.2.1 a.2.2,cj (Int.tdiv a.2.2 10)))
     else
      some (LO.out a.1)) (λs b=>rfl) (λs p b hp hb i k hs=>by
   have l:decide ((p:Int)>0)=true:=Ga (by omega);have o:((b:Int) != 0)=true:=by rw[og];omega
   have r:cj (Int.tdiv (p:Int) (b:Int))=((p / b:Nat):Int):=by have:=Nat.div_le_self p b;rw[show Int.tdiv (p:Int) (b:Int)=((p / b:Nat):Int)from rfl];generalize p / b=q at this ⊢;rw[zY (by omega) (by omega)]
   have t:cj (Int.tdiv (b:Int) 10)=((b / 10:Nat):Int):=by rw[show Int.tdiv (b:Int) 10=((b / 10:Nat):Int)from rfl,zY (by omega) (by omega)]
   have E:=Kk (u:=p / b) (by have:=Nat.div_le_self p b;omega);have v:zI s.length (Lib.decDigits (p / b)).length=true:=Zc.2 (by omega);simp only[l,o,r,t,Ca,Zd,zCy (show p / b<=1000000000000 by have:=Nat.div_le_self p b;omega),Aa,v];rfl) 3 (n%1000) (Lib.decDigits (n / 1000)++([46]:aE)) (by omega) hr (by grind)
  have e4:Int.tmod (n:Int) 1000=((n%1000:Nat):Int):=rfl;rw[e4];refine(Go.Lv.Zt (qM f)).trans ?_;rw[Ja];rfl
def jn(sep:aE)(l:List aE):aE:=List.intercalate sep l
def nt4:aE:=[110,111,116,32]
def cma2:aE:=[44,32]
def j9:aE:=[32,97,110,100,32]
def or4:aE:=[32,111,114,32]
def Vk:aE:=[40,109,105,110,45,119,105,100,116,104,58,32]
def Nk:aE:=[40,109,97,120,45,119,105,100,116,104,58,32]
def pxW:aE:=[112,120,41]
def unkW:aE:=[40,117,110,107,110,111,119,110,41]
def fN(s:aE):aE:=40::s++[41]
mutual
/-- The text of a media condition, or of a part of it. -/
def fp:zh->aE
 |⟨k,n,m,_,l⟩=>bif k==4 then ZA n else bif k==3 then nt4++(Un l).headD []else bif k==2 then jn cma2 (Un l)else bif k==1 then jn j9 (Un l)else
  (bif k==5 then Vk else Nk)++cE m false++pxW
def Un:List zh->List aE
 |[]=>[]
 |c::r=>fp c::Un r
end
mutual
/-- The text of a supports condition; wd: the text of a declaration. -/
def dy(wd:Zv->aE):zh->aE
 |⟨k,_,_,d,l⟩=>bif k==7 then fN (wd d)else bif k==8 then unkW else bif k==3 then nt4++(inTs wd l).headD []else bif k==2 then jn or4 (inTs wd l)else jn j9 (inTs wd l)
def inTs(wd:Zv->aE):List zh->List aE
 |[]=>[]
 |c::r=>(bif bf c then dy wd c else fN (dy wd c))::inTs wd r
end
def oC:List zh->Bool
 |[]=>false
 |y::_=>y.u==1&&Mg y
def me:List zh->Bool
 |[]=>false
 |y::_=>Wh y
mutual
/-- The reference's text of a condition. -/
def eV(wd:Zv->aE):zh->aE
 |⟨k,n,m,d,l⟩=>bif k==4 then ZA n else bif k==5 then Vk++cE m false++pxW else bif k==6 then Nk++cE m false++pxW else bif k==7 then fN (wd d)else bif k==8 then unkW else
  bif k==3 then nt4++(bif oC l then(wrCs wd l).headD []else(wiCs wd l).headD [])else
  bif l.isEmpty||(Mg ⟨k,n,m,d,l⟩||(k==2&&me l))then(bif k==2 then jn cma2 (wrCs wd l)else jn j9 (wrCs wd l))
  else(bif k==2 then jn or4 (wiCs wd l)else jn j9 (wiCs wd l))
def wrCs(wd:Zv->aE):List zh->List aE
 |[]=>[]
 |c::r=>eV wd c::wrCs wd r
def wiCs(wd:Zv->aE):List zh->List aE
 |[]=>[]
 |c::r=>(bif bf c then eV wd c else fN (eV wd c))::wiCs wd r
end
def OA: ∀l:List zh,Un l=l.map fp
 |[]=>by rw[Un];rfl
 |c::r=>by rw[Un,OA r];rfl
def Yv(wd:Zv->aE): ∀l:List zh,inTs wd l=l.map λc=>bif bf c then dy wd c else fN (dy wd c)
 |[]=>by rw[inTs];rfl
 |c::r=>by rw[inTs,Yv wd r];rfl
def Uz(wd:Zv->aE): ∀l:List zh,wrCs wd l=l.map (eV wd)
 |[]=>by rw[wrCs];rfl
 |c::r=>by rw[wrCs,Uz wd r];rfl
def DF(wd:Zv->aE): ∀l:List zh,wiCs wd l=l.map λc=>bif bf c then eV wd c else fN (eV wd c)
 |[]=>by rw[wiCs];rfl
 |c::r=>by rw[wiCs,DF wd r];rfl
def zRw{wd:Zv->aE}{f:Bool}{y:zh}(h:Ki f y=true):eV wd y=fp y:=by
 obtain⟨k,n,m,d,l⟩:=y;have hk:k=4\/k=5\/k=6:=by
  unfold Ki at h;simp only[Da,Pb,Fb]at h;rcases h.2.2 with h|h
  ·exact .inl h.2.1
  ·exact .inr h.1
 rw[eV,fp]
 grind
def R8{wd:Zv->aE}{y:zh}(h:Mg y=true):eV wd y=fp y:=by have a:=h;unfold Mg at h;simp only[Da,Fb]at h;obtain⟨k,n,m,d,l⟩:=y;obtain⟨hk,_,_,hl⟩:=h;simp only at hk hl;subst hk;rw[eV,fp,a,Uz,OA];have:l.map (eV wd)=l.map fp:=Me λz b=>let⟨_,e⟩:=xN hl b;zRw e;rw[this,Uc,Be];rfl
def zRv{wd:Zv->aE}{y:zh}(h:Wh y=true):eV wd y=fp y:=by
 have ha:=h;unfold Wh at h;cases h3:y.u==3 with
 |false=>rw[h3]at h;exact R8 h
 |true=>
  rw[h3,Ca,Da]at h;obtain⟨k,n,m,d,l⟩:=y;have hk:k=3:=eq_of_beq h3;subst hk;obtain⟨_,h⟩:=h;simp only at h
  match l,h with
  |[],h=>cases h
  |[z],h=>
   rw[Da]at h;have a:(z.u==1)=true:=by have:=h.1;unfold Mg at this;rw[Da]at this;exact this.1
   have b:oC [z]=true:=by show(z.u==1&&Mg z)=true;rw[a,h.1];rfl
   rw[eV,fp,b,wrCs,Un,R8 h.1];rfl
  |_::_::_,h=>cases h
def zOj{wd:Zv->aE}{c:zh}(h:ah c=true):eV wd c=fp c:=by
 unfold ah at h;simp only[Da,Pb,Fb,jd,Ya]at h;obtain⟨k,n,m,d,l⟩:=c;simp only at h;rcases h.2 with⟨rfl,rfl⟩|⟨rfl,hl,_,ha⟩
 ·rw[eV,fp,wrCs,Un];rfl
 ·rw[eV,fp,Uz,OA,Me (g:=fp) λz a=>zRv (ha z a)];cases l with
  |nil=>rfl
  |cons z r=>
   have:me (z::r)=true:=ha z (by simp)
   grind
def MS{c:zh}(h:d8 c=true):Mg c=false/\Wh c=false:=by
 have q: ∀{c:zh},d8 c=true->Mg c=false:=λ{c} h=>by
  cases a:Mg c with
  |false=>rfl
  |true=>
   exfalso;unfold Mg at a;simp only[Da,Fb]at a;rw[ol,a.1]at h;have h:((false||(true||false))&&(jg c&&(decide (2<=c.w.length)&&c.w.all d8)))=true:=h;simp only[Da,Ya,aa]at h;obtain⟨y,b⟩: ∃y,y∈c.w:=by
    cases hl:c.w with
    |nil=>grind
    |cons y r=>grind
   obtain⟨f,hf⟩:=xN a.2.2.2 b;have hs:=h.2.2.2 y b;have hk:y.u=4\/y.u=5\/y.u=6:=by
    unfold Ki at hf;simp only[Da,Pb,Fb]at hf;rcases hf.2.2 with hf|hf
    ·exact .inl hf.2.1
    ·exact .inr hf.1
   rw[ol]at hs;rcases hk with e|e|e<;>rw[e]at hs<;>cases hs
 refine⟨q h,?_⟩;unfold Wh;cases h3:c.u==3 with
 |false=>exact q h
 |true=>
  rw[Ca];have h0:=h;rw[ol,eq_of_beq h3]at h
  grind
def fQ{wd:Zv->aE}: ∀{c:zh},d8 c=true->eV wd c=dy wd c:=by
 have a: ∀(n:Nat) (c:zh),cC c<=n->d8 c=true->eV wd c=dy wd c:=by
  intro n
  induction n with
  |zero=>intro c hc;have:=Gm c;omega
  |succ n u=>
   intro c hc hs;have f:=ui c;have i:=MS hs;obtain⟨k,v,m,d,l⟩:=c;have hm: ∀y∈l,cC y<=n:=λy e=>by have:=Yh (l:=l) e;grind
   rw[ol]at hs;simp only at hs;rw[eV,dy];cases j:k==7 with
   |true=>grind
   |false=>
    cases o:k==8 with
    |true=>grind
    |false=>
     rw[j,o,Ba,Ba]at hs;simp only[Da,Ya]at hs;obtain⟨hk,_,hl,ha⟩:=hs;have p:wiCs wd l=inTs wd l:=by rw[DF,Yv];exact Me λy e=>by grind
     have b:l.isEmpty=false:=by cases l with|nil=>grind|cons=>rfl
     have s:me l=false:=by cases l with|nil=>rfl|cons y r=>exact(MS (ha y (by simp))).2
     have t:oC l=false:=by cases l with|nil=>rfl|cons y r=>show(y.u==1&&Mg y)=false;rw[(MS (ha y (by simp))).1,Nc]
     rw[t,s,b,i.1,p,Ba,Nc,Dc,Dc,Ba]
     grind
 intro c hs;exact a _ c (Db _) hs
def zxY{c:zh}(h:zx (zC c)<=co):gG c=some (bif ah c||Ri c then 0 else 8):=by unfold gG;simp only[Zh,NP h,XX h,za,Aa];cases ah c<;>rfl
def XQ{c:zh}(h:Ri c=true):d8 c=true:=by unfold Ri at h;exact(Da _ _▸h).1
structure Sf (d:UInt8) (y:aE):Prop where
 f:fa d=false
 l:cM d=false
 g:cm d=false
 s:Hg d=false
 a:(d==45)=false
 b:(d==46)=false
 c:(d==92)=false
 n:(d==10)=false
 e:(d==40)=false
 p:(d==37)=false
 m:d≠42
 o:[33,45,45].isPrefixOf (d::y)=false
 x:(d==101||d==69)=false
 k:d≠60/\d≠62
def size_le{l:List zo}{m:Nat}(h:cT l<=co)(hm:m<=1000): ∃r:Int,Al (l,(m:Int))=some r/\0<=r/\r<=cT l/\(r<=m->r=cT l):=by
 have: ∃r,Al (l,(m:Int))=some r/\(0<=r/\r<=(cT l:Int)/\(r<=(m:Int)->r=(cT l:Int))):=by
  refine Ko zs9 (λx=>cT x.1) (λx=>cT x.1<=co/\0<=x.2/\x.2<=1000) (λx r=>0<=r/\r<=(cT x.1:Int)/\(r<=x.2->r=(cT x.1:Int))) (λS x f hS=> ?_) (x:=(l,(m:Int))) ⟨h,by omega,by omega⟩;obtain⟨l,m⟩:=x;obtain⟨f,j,k⟩:=f;simp only at f j k;have s:=sj l;unfold co at f;unfold Hy;refine Jt (A:=Int) l.length (λi a=>(a,(i:Int))) (λi a=>0<=a/\a<=(cT (l.take i):Int)/\(a<=m->a=(cT (l.take i):Int))) _ (a0:=0) rfl ⟨by omega,by simp[cT],λ_=>by simp[cT]⟩ (λi a hi ha=> ?_) (λa ha=> ?_)
  ·obtain⟨c,d,b⟩:=ha;have u:=gz hi;have t:=EB l (i+1);have hv:=Ul l[i];have v:=Wm (Ia hi);cases hc:decide (a<=m)with
   |false=> simp only[zN hi,Ca,Ba,hc];have hc:=of_decide_eq_false hc;exact .inr (.inr ⟨_,rfl,_,rfl,c,by omega,λq=>absurd q hc⟩)
   |true=>
    have o:=jb hc;have e0:cj (m - a)=m - a:=by rw[cj,ZX (by omega) (by omega)]
    obtain⟨r,hr,y,p,e⟩:=hS (l[i].w,cj (m - a)) ⟨by show cT l[i].w<=4194304;omega,by show 0<=cj (m - a);omega,by show cj (m - a)<=1000;omega⟩ (by show cT l[i].w<cT l;omega);simp only[e0]at e p;have e1:cj (a+cj (cj (cj (1+(l[i].kd.kb.length:Int))+(l[i].kd.ki.length:Int))+r))=a+(1+l[i].kd.kb.length+l[i].kd.ki.length+r):=by rw[cj,cj,cj,cj,ZX (n:=1+(l[i].kd.kb.length:Int)) (by omega) (by omega),ZX (n:=1+(l[i].kd.kb.length:Int)+(l[i].kd.ki.length:Int)) (by omega) (by omega),ZX (n:=1+(l[i].kd.kb.length:Int)+(l[i].kd.ki.length:Int)+r) (by omega) (by omega),ZX (by omega) (by omega)]
    simp only[zN hi,Ca,hc,zF hi,za,Aa,hr,e1,zD hi (show l.length<=co by unfold co;omega)];exact .inl ⟨_,rfl,by omega,by omega,λq=>by have:=b o;have:=e (by omega);omega⟩
  ·obtain⟨c,d,b⟩:=ha;rw[Xc]at d b;simp only[Nh,Ba];exact .inl ⟨_,rfl,_,rfl,c,d,b⟩
 obtain⟨r,hr,h0,h1,h2⟩:=this;exact⟨r,hr,h0,h1,h2⟩
def uZ: ∀(a b:List zo) (c:Int),ls (a++b) c=(ls a c&&ls b c)
 |[],b,c=>by rw[Lb,ls,ja]
 |v::a,b,c=>by rw[Bb,ls,ls,uZ a b c,rf]
def zNh{l:aE}{k:Nat}(hl:l.length<=100000):Lu (l,(k:Int))=some (cJ (Lj k l) k l):=by
 unfold Lu;rw[Zt (vZ (dash:=Lj k l) (k:=k) (l:=l) (acc:=[]) hl (by simp) (λi a hi ha=> ?_) (λa=> ?_))]
 ·rfl
 ·have d1:decide ((i:Int)<(l.length:Int))=true:=Ga (by omega);have d2:cl l (i:Int)=some l[i]:=zF hi;have b:decide ((i:Int)>=(k:Int))=(k - i==0):=by
   by_cases h:k<=i
   ·rw[Ga (by omega),show k - i=0 by omega];rfl
   ·rw[Ma (by omega)];symm;rw[Fa];omega
  have d4:((k:Int)==0)=(k==0):=by
   by_cases h:k=0
   ·subst h;rfl
   ·rw[Fa.2 h,Fa];omega
  simp only[d1,Ca,d2,b,d4,za,Aa,U6,jS];have c:(bif k==0 then true else !(l==[45]))= !Lj k l:=by unfold Lj;cases k==0<;>cases l==[45]<;>rfl
  rw[c];unfold i9;cases cM l[i]with
  |false=>
   cases k - i==0<;>simp only[zA,Ab,Va,Nc,Bc,Nb,Ca,Ba,Aa,Xq l[i] (show a.length<=1000000000 by omega),zf]
  |true=> cases k - i==0<;>cases cm l[i]<;>cases Lj k l<;>simp only[zA,Ab,Va,Nc,Bc,Nb,Be,Dc,ja,Ac,Uc,Ca,Ba,Aa,Oz,zn (Bh (show a.length+1<=2000000000 by omega)),Xq l[i] (show a.length<=1000000000 by omega),zf]
 ·simp only;rw[Ma (by omega),Ba]
def K7{l:aE}(hl:l.length<=1000):om l=some (if l.isEmpty|| !ZL l then([],8)else(ZA l,0)):=by
 unfold om;simp only[za,QQ];cases l with
 |nil=>rfl
 |cons c r=>
  rw[show((c::r:aE)==[])=false from rfl];simp only[zA,Va,Ca,Ba,Aa,Ms];rw[show(c::r:aE).isEmpty=false from rfl,Ac];cases ZL (c::r)with
  |false=>rfl
  |true=>
   rw[Ab,Ba,Tq];simp only[Aa,zNh (show(c::r:aE).length<=100000 by omega)];have a:Lj (qC (c::r)) (c::r)=((c::r:aE)==[45]):=by unfold Lj qC;split<;>rfl
   rw[a];have:=Ej ((c::r:aE)==[45]) (qC (c::r)) (c::r);rw[Ma (by omega),Ba,Ma (by omega),Ba];rfl
def okT(x:List ze):Prop:= ∀t∈x,t.kb.length<=5000/\t.ki.length<=5000
structure OkD (d:Zv):Prop where
 v:cT d.i<=co
 n:d.q.length<=co
 t:okT (cQ d.i)
def zS2{x:List ze}(a:hH x=0)(h:okT x):Iq x:=by obtain⟨_,h1,h2⟩:=IM a;exact⟨λt ht=>⟨h1 t ht,h t ht⟩,h2⟩
def zTg{v:List zo}(hv:cT v<=co)(h:fx v=0)(a:hH (cQ v)=0)(ht:okT (cQ v)):vF v=some (if 4000<(wrS (cQ v)).length then([],28)else(wrS (cQ v),0)):=by unfold vF;simp only[za,wN hv,h,Aa];rw[show((0:Int) != 0)=false from rfl,Ba,J9 hv,Aa,zLQ ht,La a,Aa]
abbrev impT:aE:=[32,33,105,109,112,111,114,116,97,110,116]
def ez(d:Zv):aE:=ZA d.q++([58,32]:aE)++wrS (cQ d.i)++(bif d.lb then impT else [])
def Kh(d:Zv):aE×Int:=if Qm d=true then(if 4000<(ez d).length then([],28)else(ez d,0))else([],8)
structure zTo (d:Zv):Prop where
 q:ai d.q=true
 err:fx d.i=0
 glu:hH (cQ d.i)=0
 body:rC (List.isPrefixOf [45,45] d.q) d.i=true
def YL{d:Zv}(h:Qm d=true):zTo d:=by unfold Qm at h;simp only[Da,Fb]at h;exact⟨h.1,h.2.1,h.2.2.1,h.2.2.2.2⟩
def CR{x:aE}(h:ai x=true):x≠[]/\x.length<=64/\ZL x=true/\(bif List.isPrefixOf [45,45] x then !(x==[45,45])else dr x==x)=true:=by
 unfold ai at h
 grind
def NA(l:aE):(ZA l).length<=4*l.length:=Ej _ _ l
def CV{d:Zv}(h:OkD d):AA d=some (Kh d):=by
 have e:co=4194304:=rfl;unfold AA Kh;rw[rV h.v h.n];simp only[za,Aa];cases i:Qm d with
 |false=>grind
 |true=>
  obtain⟨h1,h2,h3,_⟩:=YL i;obtain⟨l,m,j,_⟩:=CR h1;have c:d.q.isEmpty=false:=by cases o:d.q with|nil=>grind|cons a b=>rfl
  have hl:=NA d.q;rw[Ca,La rfl,show((0:Int) != 0)=false from rfl,Ba,K7 (by omega),c,j];simp only[Ab,Ke,Cc,Xd,Aa,show((0:Int) != 0)=false from rfl,Ba,zTg h.v h2 h3 h.t];by_cases k:4000<(wrS (cQ d.i)).length
  ·have:4000<(ez d).length:=by unfold ez;rw[Ea,Ea];omega
   grind
  ·rw[Ka k];have c1:zI (ZA d.q).length ([58,32]:aE).length=true:=Zc.2 (by grind);have c2:zI (ZA d.q++([58,32]:aE)).length (wrS (cQ d.i)).length=true:=Zc.2 (by grind);have c3:zI (ZA d.q++([58,32]:aE)++wrS (cQ d.i)).length impT.length=true:=Zc.2 (by simp only[Ea,Ha,Cb];omega);simp only[show((0:Int) != 0)=false from rfl,Ba,c1,c2,c3,Zd];have f: ∀n:Nat,decide ((n:Int)>4000)=decide (4000<n):=λn=>by grind
   unfold ez;cases d.lb with
   |true=>
    simp only[Ca,zf,f]
    grind
   |false=>
    simp only[Ba,zf,f,Ib]
    grind
def Bl(l:List Zv):aE:=(l.map λd=>([59,32]:aE)++ez d).flatten
def Pg:List Zv->aE
 |[]=>[]
 |d::r=>ez d++Bl r
def wQ(l:List Zv):Lib.join (l.map ez) [59,32]=Pg l:=by
 cases l with
 |nil=>rfl
 |cons d r=> rw[Xb,Lib.join_cons,Pg];unfold Lib.joinTail Bl;rw[Ag];rfl
def lZ{M:Nat}: ∀l:List aE,(∀x∈l,x.length<=M)->(Lib.joinTail [59,32] l).length<=(M+2)*l.length
 |[],_=>Db _
 |x::r,h=>by
  have h1:=lZ r (λy a=>h y (Vb _ a));have h2:=h x (Ub ..);have e:Lib.joinTail [59,32] (x::r)=(([59,32]:aE)++x)++Lib.joinTail [59,32] r:=rfl;have e3:(M+2)*(x::r).length=(M+2)*r.length+(M+2):=Nat.mul_succ ..
  grind
def XT{M:Nat}(l:List aE)(h: ∀x∈l,x.length<=M):(Lib.join l [59,32]).length<=(M+2)*l.length:=by
 cases l with
 |nil=>exact Yb _
 |cons x r=> have h1:=lZ r (λy a=>h y (Vb _ a));have h2:=h x (Ub ..);have e3:(M+2)*(x::r).length=(M+2)*r.length+(M+2):=Nat.mul_succ ..;rw[Lib.join_cons,Ea,e3];omega
def u7{d:Zv}: ∀{l:List Zv},d∈l->(ez d).length<=(Bl l).length
 |x::r,h=>by
  have e:Bl (x::r)=(([59,32]:aE)++ez x)++Bl r:=rfl;rw[e,Ea,Ea];rcases ib.1 h with rfl|h
  ·omega
  ·have:=u7 h;omega
def zMX{d:Zv}{l:List Zv}(h:d∈l):(ez d).length<=(Pg l).length:=by
 cases l with
 |nil=>cases h
 |cons x r=>
  rw[Pg,Ea];rcases ib.1 h with rfl|h
  ·omega
  ·have:=u7 h;omega
def Om(d:Zv):Bool:=decide (4000<(ez d).length)
def iC(l:List Zv):aE×Int:=if 32<l.length then([],4)else if l.all Qm=true then(if 4000<(Pg l).length then([],28)else(Pg l,0))else([],8)
def fM{d:Zv}(h:Qm d=true):Kh d=if Om d=true then([],28)else(ez d,0):=by
 unfold Kh Om
 grind
def zPh{l:List Zv}(h: ∀d∈l,OkD d):Xt l=some (iC l):=by
 have m:co=4194304:=rfl;unfold Xt;by_cases f:32<l.length
 ·rw[Ga (by omega),Ca];unfold iC;rw[La f]
 ·rw[Ma (by omega),Ba];refine uk (λz=> ∃i:Nat,z=(((l.take i).any Om,(i:Int)),(l.take i).map (λd=>(Kh d).1))/\i<=l.length/\(l.take i).all Qm=true) (λz=>l.length - z.1.2.toNat) _ ?_ ⟨0,rfl,Yb _,rfl⟩;rintro _ ⟨i,rfl,hi,ha⟩;rcases Ec i l.length with b|b
  ·have c:=CV (h _ (Ia b));have n:cj ((i:Int)+1)=((i+1:Nat):Int):=zD b (by omega);have j:Zm ((l.take i).map (λd=>(Kh d).1)).length 1 16=true:=Aw (by grind);simp only[zN b,Ca,zF b,za,Aa,c];cases hs:Qm l[i]with
   |false=>
    refine .inr (.inr ?_);have e:Kh l[i]=([],8):=by unfold Kh;rw[hs,Ka (by decide)]
    have a:l.all Qm=false:=by rw[List.all_eq_false];exact⟨_,Ia b,by rw[hs];decide⟩
    rw[e];unfold iC
    grind
   |true=>
    refine .inl ⟨_,?_,⟨i+1,rfl,b,?_⟩,by grind⟩
    ·have e:=fM hs;have o:((Kh l[i]).2==8)=false:=by rw[e];cases Om l[i]<;>rfl
     have h0:((Kh l[i]).2 != 0)=Om l[i]:=by rw[e];cases Om l[i]<;>rfl
     rw[o,Ba,zn j,h0,n,Jb b,List.any_append,Tc]
     grind
    ·rw[Jb b,List.all_append,ha,Yc,hs];rfl
  ·have:i=l.length:=by omega
   subst this;rw[Xc]at ha ⊢;refine .inr (.inl ⟨(l.any Om,l.map (λd=>(Kh d).1)),?_,?_⟩)
   ·grind
   ·have a: ∀d∈l,Qm d=true:=Ya.1 ha;have p: ∀x∈l.map (λd=>(Kh d).1),x.length<=4000:=by
     intro x r;obtain⟨d,c,rfl⟩:=Rb.1 r;rw[fM (a d c)];unfold Om;by_cases q:4000<(ez d).length
     ·grind
     ·grind
    have k:=XT _ p;rw[Xa]at k;have hn:(Nat.ble (l.map (λd=>(Kh d).1)).length 1000000&&Nat.ble (Lib.join (l.map (λd=>(Kh d).1)) [59,32]).length 1000000000)=true:=by rw[Da,Nat.ble_eq,Nat.ble_eq,Xa];have:(4000+2)*l.length<=(4000+2)*32:=Cg _ (by omega);omega
    unfold Rk iC;simp only;rw[zn hn,Ka f,ha,La rfl];simp only[Aa];cases hb:l.any Om with
    |true=>
     obtain⟨d,c,hl⟩:=Bg.1 hb;have h1:=zMX c;unfold Om at hl
     grind
    |false=>
     have s:l.map (λd=>(Kh d).1)=l.map ez:=Me λd c=>by rw[fM (a d c),Ka (List.any_eq_false.1 hb d c)]
     rw[s,wQ,Ba]
     grind
end Go.Lv.VT
