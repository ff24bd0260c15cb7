import Derived.Test.YtiidaccdmolmkaaGreatDoorXi
set_option linter.all false
namespace Go.Lv.VT
set_option maxRecDepth 100000
structure zTM (v:List zo):Prop where
 r:Iq (cQ v)
 h:pu v
 e:OQ v
structure Shp (v:List zo):Prop where
 s:ls v 0=true
 d:QI v<=16
def zIA(a b:List zo):QI (a++b)=max (QI a) (QI b):=by
 induction a with
 |nil=>rw[Lb,QI];omega
 |cons v a c=>rw[Bb,QI,QI,c];omega
def Shp.app{a b:List zo}(ha:Shp a)(hb:Shp b):Shp (a++b):=⟨by rw[uZ,ha.s,hb.s];rfl,by rw[zIA];have:=ha.d;have:=hb.d;omega⟩
def zSF{v:List zo}(h:cT v<=5000):okT (cQ v):=λt ht=>by have:=Vz v t ht;omega
structure SzD (d:Zv):Prop where
 v:cT d.i<=co
 n:d.q.length<=co
def UZ{l:List Zv}(h: ∀d∈l,SzD d)(f:l.length<=co): ∃g,yA l=some g/\(g=false->l.length<=40/\ ∀d∈l,d.q.length+cT d.i<=300):=by
 have j:co=4194304:=rfl;unfold yA;by_cases o:40<l.length
 ·rw[Ga (by omega),Ca];exact⟨true,rfl,λe=>by cases e⟩
 ·rw[Ma (by omega),Ba];refine UU (λs=> ∃(i n:Nat),s=((n:Int),(i:Int))/\i<=l.length/\n<=300/\ ∀d∈l.take i,d.q.length+cT d.i<=300) (λs=>l.length - s.2.toNat) (λg=>g=false->l.length<=40/\ ∀d∈l,d.q.length+cT d.i<=300) ?_ ⟨0,0,rfl,by omega,by omega,(λd a=>by cases a)⟩;rintro _ ⟨i,n,rfl,hi,hn,b⟩;simp only[za];rcases Ec i l.length with c|c
  ·obtain⟨hv,p⟩:=h _ (Ia c);obtain⟨r,hr,r0,t,u⟩:=size_le (m:=300) hv (by omega);replace hr:Al (l[i].i,300)=some r:=hr;obtain⟨k,rfl⟩: ∃k:Nat,r=(k:Int):=⟨r.toNat,by omega⟩;have e2:cj ((n:Int)+cj ((l[i].q.length:Int)+(k:Int)))=((n+(l[i].q.length+k):Nat):Int):=by rw[zY (n:=(l[i].q.length:Int)+(k:Int)) (by omega) (by omega),zY (by omega) (by omega)];omega
   simp only[zN c,Ca,zF c,Aa,hr,e2];by_cases hb:n+(l[i].q.length+k)>300
   ·rw[Ga (show((n+(l[i].q.length+k):Nat):Int)>300 by omega)];simp only[Ab,ZF,Aa,Ca];exact .inr (.inr ⟨true,rfl,λe=>by cases e⟩)
   ·rw[Ma (show¬((n+(l[i].q.length+k):Nat):Int)>300 by omega)];simp only[Va,zQ,Aa,Ba,MF hv];cases a:decide ((QI l[i].i:Int)>40)with
    |true=>exact .inr (.inr ⟨true,rfl,λe=>by cases e⟩)
    |false=>
     refine .inl ⟨_,rfl,⟨i+1,n+(l[i].q.length+k),by rw[zY (by omega) (by omega)];rfl,by omega,by omega,?_⟩,by simp only;rw[zY (by omega) (by omega)];omega⟩;rw[Jb c];intro d a;rcases Vd.1 a with a|a
     ·exact b d a
     ·rw[jc]at a;subst a;omega
  ·have:i=l.length:=by omega
   subst this;simp only[Nh,Ba];rw[Xc]at b;exact .inr (.inl ⟨(),false,(by first|rfl|trivial),rfl,λ_=>⟨by omega,b⟩⟩)
def zHx{l:List Zv}(h: ∀d∈l,d.q.length+cT d.i<=300): ∀d∈l,OkD d:=λd b=>by have a:co=4194304:=rfl;have:=h d b;exact⟨by omega,by omega,zSF (by omega)⟩
def zv3{c:zh}(h:zx (zC c)<=co): ∃g,Bn c=some g/\(g=false-> ∀d∈Yg c,d.q.length+cT d.i<=300):=by
 refine Ko ztc (λc=>zx (zC c)) (λc=>zx (zC c)<=co) (λc g=>g=false-> ∀d∈Yg c,d.q.length+cT d.i<=300) (λS c hc hS=> ?_) h;have a:=Rv (Jc (WN c) hc);obtain⟨g,s,f⟩:=UZ (l:=[c.decl]) (λd j=>by rw[jc.1 j];exact⟨a.1,a.2⟩) (by show 1<=co;decide);have o:=QA c;unfold ax;rw[s];simp only[za,Aa];cases hb:(bif g then true else decide ((c.q.length:Int)>200))with
 |true=>exact⟨true,rfl,λe=>by cases e⟩
 |false=>
  have k:g=false:=by cases g with|false=>rfl|true=>cases hb
  have m:=(f k).2 c.decl (Ve _);simp only[Ba];refine Jt c.w.length (λi (_:Unit)=>(i:Int)) (λi _=> ∀y∈c.w.take i,∀d∈Yg y,d.q.length+cT d.i<=300) _ (a0:=()) rfl (λy b=>by cases b) (λi _ hi hI=> ?_) (λ_ hI=> ?_)
  ·have hm:=Ia hi;obtain⟨r,hr,n⟩:=hS c.w[i] (by have:=qU hm;omega) (qU hm);simp only[zN hi,Ca,zF hi,Aa,Zh,hr];cases r with
   |true=>exact .inr (.inl ⟨true,rfl,λe=>by cases e⟩)
   |false=>
    refine .inl ⟨(),?_,λy b=> ?_⟩
    ·simp only[Ba,zD hi (show c.w.length<=co by omega)]
    ·rw[Jb hi]at b;rcases Vd.1 b with b|b
     ·exact hI y b
     ·rw[jc.1 b];exact n rfl
  ·simp only[Nh,Ba];refine .inl ⟨(),(by first|rfl|trivial),false,rfl,λ_ d a=> ?_⟩;rw[Xc]at hI;rw[jv]at a;cases p:c.u==7 with
   |true=>rw[p,Ca]at a;rw[jc.1 a];exact m
   |false=> rw[p,Ba]at a;obtain⟨y,b,a⟩:=We.1 a;exact hI y b d a
structure SmC (c:zh):Prop where
 n:cC c<=100
 d: ∀d∈Yg c,d.q.length+cT d.i<=300
def ztY{c:zh}(h:zx (zC c)<=co): ∃g,UH c=some g/\(g=false->SmC c):=by
 obtain⟨r,hr,_,_,h2⟩:=NW h (m:=100) (by decide);obtain⟨g,b,a⟩:=zv3 h;have hr:Qy (c,100)=some (r:Int):=hr;unfold UH;simp only[Zh,hr,b,za,Aa];by_cases d:r>100
 ·rw[Ga (by omega)];exact⟨true,rfl,λe=>by cases e⟩
 ·rw[Ma (by omega)];exact⟨g,rfl,λe=>⟨by by_cases hs:cC c<=100;exact hs;have:=h2 (by omega);omega,a e⟩⟩
def zKF {R:Type}{step:aE×Int->Option (LO (aE×Int) aE R)}{l acc:aE}(hl:l.length<=100000)(h0:1<=l.length)
  (h1: ∀(i:Nat) (a:aE) (hi:i<l.length),a.length<=acc.length+4*l.length->step (a,(i:Int))=some (.again (a++(bif cM l[i]then [l[i]]else ew l[i]),((i+1:Nat):Int))))
  (h2: ∀a,step (a,(l.length:Int))=some (.out a)):Dg step (acc,1)=some (.out (acc++cJ false 0 (l.drop 1))):=by
 obtain⟨out,h,b⟩:=jL (λ_ c=>bif cM c then [c]else ew c) 1 hl h0 (λ_ c=>by have:=Ik c;grind) (λi a hi _ ha=>h1 i a hi ha) h2;rw[show((1:Nat):Int)=(1:Int)from rfl]at h;rw[h,b (λ_ r=>cJ false 0 r) (λ_=>by rw[cJ]) (λ_ c r=>by rw[cJ];unfold i9;simp)]
def at_n{s:aE}(n:Nat)(hs:s.length<=100000):Zz (s,(n:Int))=some (((cr s n).toNat:Nat):Int):=by
 have h:=aR (n:=n) hs (Ie s)
 rwa [show cG s s=0 by unfold cG;omega,Gd]at h
def zRg(c:UInt8):((((Vl c.toNat:Nat):Int)==101):Bool)=(c==101||c==69):=by
 have: ∀n:Nat,n<256->((((Vl n:Nat):Int)==101):Bool)=(UInt8.ofNat n==101||UInt8.ofNat n==69):=by decide+kernel
 have h:=this c.toNat (Kb c);simp_all
def RQ(b:UInt8):fy b.toNat=cm b:=by
 have: ∀n:Nat,n<256->fy n=cm (UInt8.ofNat n):=by decide+kernel
 have h:=this b.toNat (Kb b);simp_all
def Sm(c:UInt8)(r:aE):Xj (c::r)=((c==101||c==69)&&(cm (cr r 0)||(cr r 0==45&&cm (cr r 1)))):=by
 rw[tT,rf];congr 1
 match r with
 |[]=>rfl
 |[b]=>
  rw[lM,RQ,show cr [b] 0=b from rfl,show cr [b] 1=0 from rfl];by_cases hb:b=45
  ·subst hb;rfl
  ·rw[Fa.2 hb];show(cm b&& !([45,45]:aE).isPrefixOf [b])=(cm b||(false&&_))
   grind
 |b::d::t=>
  rw[lM,RQ,show cr (b::d::t) 0=b from rfl,show cr (b::d::t) 1=d from rfl,show List.headD (d::t) 0=d from rfl,RQ,show([45,45]:aE).isPrefixOf (b::d::t)=((45==b)&&((45==d)&&true))from rfl];by_cases hb:b=45
  ·subst hb;by_cases a:d=45
   ·subst a;rfl
   ·rw[Fa.2 (Ne.symm a),show(d::t==[])=false from rfl,show cm 45=false from rfl]
    grind
  grind
def zQ8{w:aE}(h0:w≠[])(hl:w.length<=5000):rG w=some (Ug w):=by
 cases w with
 |nil=>grind
 |cons c r=>
  have o:cl (c::r) 0=some c:=rfl;have hs:uo (c.toNat:Int)=some ((Vl c.toNat:Nat):Int):=zCC _ (Kb c);have a1:Zz (c::r,1)=some (((cr r 0).toNat:Nat):Int):=at_n (s:=c::r) 1 (by omega);have a2:Zz (c::r,2)=some (((cr r 1).toNat:Nat):Int):=at_n (s:=c::r) 2 (by omega);rw[jo,Sm];unfold rG;simp only[o,hs,za,Aa,zRg,a1,a2,bz false hl,lK];have hN:cJ (!false&&(c::r:aE)==[45]) (bif false then 0 else qC (c::r)) (c::r)=ZA (c::r):=rfl;rw[hN];cases t:c==101||c==69 with
  |false=>rfl
  |true=>
   have d: ∀step:aE×Int->Option (LO (aE×Int) aE aE),step=(λ(b:aE×Int)=>
    bif decide (b.2<((c::r:aE).length:Int))then
     zK (X:=aE×Int) (
       (cl (c::r) b.2).bind λj=>
       (Pp (j.toNat:Int)).bind λk=>
       bif k then
        ck (decide (0<=b.2)&&(decide (b.2<=cj (b.2+1))&&decide (cj (b.2+1)<=((c::r:aE).length:Int))))<|
        ck (zI b.1.length (List.drop b.2.toNat (List.take (cj (b.2+1)).toNat (c::r))).length)<|
        some (LX.out (b.1++List.drop b.2.toNat (List.take (cj (b.2+1)).toNat (c::r)),b.2))
       else
        (cl (c::r) b.2).bind λe=>
        ck (zI b.1.length (ew e).length)<|
        some (LX.out (b.1++ew e,b.2))) λf=>
     some (LO.again (f.1,cj (f.2+1)))
    else
     some (LO.out b.1))->Dg step (ew c,1)=some (.out (ew c++cJ false 0 r)):=by
    rintro _ rfl;refine zKF (l:=c::r) (by omega) (by simp) (λi a hi ha=> ?_) (λa=> ?_)
    ·have p:=Ik c;have d1:decide ((i:Int)<((c::r:aE).length:Int))=true:=Ga (by omega);have m:zI a.length ([(c::r)[i]]:aE).length=true:=Zc.2 (by grind);have n:zI a.length (ew (c::r)[i]).length=true:=Zc.2 (by have:=Ik (c::r)[i];omega);simp only[d1,Ca,zF hi,Aa,RF,lK];cases cM (c::r)[i]with
     |true=>simp only[Ca,tu (show i<=1000000 by omega),Oa,jT hi,PM hi,Zd,m,zf]
     |false=>simp only[Ba,n,Zd,zf,tu (show i<=1000000 by omega)]
    ·grind
   simp only[zQ,Aa,il,Nb,Ca,ja];cases h1:cm (cr r 0)with
   |true=> simp only[Ab,Nc,ZF,Aa,Ca,Uc];rw[Zt (d _ rfl)]
   |false=>
    simp only[Va,zQ,Aa,b_45,Nb,Ba,Ac];cases h2:cr r 0==45 with
    |true=>
     simp only[zQ,Aa,il,Ca,ja];cases h3:cm (cr r 1)with
     |true=> simp only[Ca];rw[Zt (d _ rfl)]
     |false=>rfl
    |false=>rfl
def zJR: ∀n:Nat,n<12->cl ([[32],[60,33,45,45],[45,45,62],[58],[59],[44],[91],[93],[40],[41],[123],[125]]:List aE) (cN ((13+n:Int) - 13))=some (Er (13+n:Int)):=by decide+kernel
def Bz{t:ze}(hf:Eg t=true)(h1:t.kb.length<=5000)(h2:t.ki.length<=5000):Ep t=some (eq t):=by
 have hN:ZV (t.kb,false)=some (ZA t.kb):=bz false h1;have x: ∀l:aE,l.length<=5000->(ZA l).length<=20000:=λl hl=>by have:=Ej (l==[45]) (qC l) l;unfold ZA;omega
 have e: ∀a b:Nat,a<=100000->b<=100000->zI a b=true:=λa b ha hb=>Zc.2 (by omega);have M: ∀p, -1000000000000<=t.kg/\t.kg<=1000000000000->(cE t.kg p).length<=25:=λp h=>(Kr h.1 h.2 p).1;unfold Ep eq;simp only[za];cases k1:t.u==1 with
 |true=>grind
 |false=>
 cases k2:t.u==2 with
 |true=> simp only[Ca,Ba,hN,Aa];rw[zn (e _ _ (by grind) (by grind))]
 |false=>
 cases k3:t.u==3 with
 |true=> simp only[Ca,Ba,hN,Aa];rw[zn (e _ _ (by grind) (by grind))];rfl
 |false=>
 cases k4:t.u==4 with
 |true=>
  simp only[Ca,Ba,bz _ h1,Aa];have O: ∀b k,(cJ b k t.kb).length<=20000:=λb k=>by have:=Ej b k t.kb;omega
  rw[zn (e _ _ (by grind) (by grind))];cases t.la<;>rfl
 |false=>
 cases s:t.u==5 with
 |true=> simp only[Ca,Ba,zCz _ h1,Aa];have:=Am dl t.kb;rw[zn (e _ _ (by grind) (by omega)),zn (e _ _ (by grind) (by grind)),Ja];rfl
 |false=>
 cases u:t.u==7 with
 |true=> simp only[Ca,Ba,zCz _ h1,Aa];have:=Am hY t.kb;rw[zn (e _ _ (by grind) (by omega)),zn (e _ _ (by grind) (by grind)),Ja]
 |false=>
 cases v:t.u==9 with
 |true=>rfl
 |false=>
 have f:(t.u==10||t.u==11||t.u==12)=true->rngS t=true/\(!(t.ki==[])==(t.u==12))=true:=by intro hk;unfold Eg at hf;simp only[k1,k2,k3,k4,s,u,v,hk,Ke,Ba,Ca,Da]at hf;exact⟨hf.1,hf.2.1⟩
 have d:rngS t=true-> -1000000000000<=t.kg/\t.kg<=1000000000000:=by intro hr;unfold rngS at hr;simp only[Da,aa]at hr;exact⟨hr.1,hr.2.1⟩
 cases i:t.u==10 with
 |true=> obtain⟨y,A⟩:=d (f (by rw[i];rfl)).1;simp only[Ca,Ba,nM y A,Aa]
 |false=>
 cases m:t.u==11 with
 |true=> have hr:=d (f (by grind)).1;simp only[Ca,Ba,nM hr.1 hr.2,Aa];rw[zn (e _ _ (by grind) (by grind))]
 |false=>
 cases j:t.u==12 with
 |true=>
  obtain⟨o,hu⟩:=f (by grind);have hr:=d o;have h0:t.ki≠[]:=by intro h;rw[h,j]at hu;exact absurd hu (by decide)
  simp only[Ca,Ba,nM hr.1 hr.2,zQ8 h0 h2,Aa];have E:(Ug t.ki).length<=20004:=by
   cases F:t.ki with
   |nil=>grind
   |cons c r=>
    rw[F]at h2;rw[jo];cases Xj (c::r)with
    |true=>
     rw[Ca,Ea];have:=Ik c;have:=Ej false 0 r
     grind
    |false=>grind
  rw[zn (e _ _ (by grind) (by omega))]
 |false=>
 obtain⟨J,L⟩:=jU hf k1 k2 k3 k4 s u v i m j;obtain⟨n,hn⟩: ∃n:Nat,t.u=13+(n:Int):=⟨(t.u - 13).toNat,by omega⟩;have Q:=zJR n (by omega)
 grind
def kw(k:Int):Nat:=if k=10\/k=11\/k=12 then 30 else 10
def UC(k:Int):10<=kw k/\kw k<=30:=by unfold kw;split<;>omega
def eX{t:ze}(hf:Eg t=true):(eq t).length+4<=4*(t.kb.length+t.ki.length)+kw t.u:=by
 have hn: ∀l:aE,(ZA l).length<=4*l.length:=λl=>Ej (l==[45]) (qC l) l;cases Es hf with
 |cId l h0 h=>rw[au];have:=hn l;show _<=4*(l.length+0)+10;omega
 |cFn l h0 h=>rw[Xp,Ea];have:=hn l;simp only[Td];show _<=4*(l.length+0)+10;omega
 |cAt l h0 h=>rw[bu,Ha];have:=hn l;show _<=4*(l.length+0)+10;omega
 |cHash l f h0 h d=>
  rw[Vs,Ha];have h3:=hn l;have h4:=Ej false 0 l;show _<=4*(l.length+0)+10;cases f with
  |true=>rw[show Ai true l=ZA l from rfl];omega
  |false=>rw[show Ai false l=cJ false 0 l from rfl];omega
 |cStr l h=>rw[Cq];have:=Am dl l;show _<=4*(l.length+0)+10;grind
 |cUrl l h=>rw[Lr];have:=Am hY l;show _<=4*(l.length+0)+10;grind
 |cDel c h=>rw[Ur];show _<=4*(1+0)+10;grind
 |cNum n f a b hf=>rw[Nr];have:=(Kr a b (!f)).1;show _<=4*(0+0)+30;omega
 |cPct n a b=>rw[Mr,Ea,Td];have:=(Kr a b false).1;show _<=4*(0+0)+30;omega
 |cDim n u f a b hf h0 h=>
  rw[Sr,Ea];have:=(Kr a b (!f)).1;have hu:(Ug u).length<=4*u.length:=by
   cases u with
   |nil=>grind
   |cons c r=>
    rw[jo];cases Xj (c::r)with
    |true=>
     rw[Ca,Ea];have:=Ik c;have:=Ej false 0 r
     grind
    |false=>exact hn _
  show _<=4*(0+u.length)+30;omega
 |cMark k a b=>rw[Us a b];have:=SN k;have:=(UC k).1;grind
def nP{t:ze}(hf:Eg t=true):(eq t).length<=4*(t.kb.length+t.ki.length)+30:=by have:=eX hf;have:=UC t.u;omega
def zNc{S X R:Type}{step:S->Option (LO S X R)}{a b:S}{x:X}(h1:step a=some (.again b))(h2:step b=some (.out x)):Dg step a=some (.out x):=by obtain⟨n,h⟩:=OH (r:= .out x) h1 ⟨1,by simp only[ZP,h2]⟩;exact qM h
def zHc{S X R:Type}{step:S->Option (LO S X R)}{a b c:S}{x:X}(h1:step a=some (.again b))(h2:step b=some (.again c))(h3:step c=some (.out x)):Dg step a=some (.out x):=by obtain⟨n,h⟩:=OH (r:= .out x) h1 (OH h2 ⟨1,by simp only[ZP,h3]⟩);exact qM h
def zNH{t:ze}{r:List ze}(h:Iq (t::r)):MH (t::r)=some (((hZ (t::r):Nat):Int),pcS ((t::r).take (hZ (t::r)))):=by
 have j:=h.1 t (Ub ..);have ho:=h.2 0 (by simp);rw[Gi,kM,Da]at ho;have v:cl (t::r) 0=some t:=rfl;unfold MH;have W:co=4194304:=rfl;simp only[v,za,Aa,rM (show t.kb.length<=co by omega) (show([117,114,108]:aE).length<=co by decide),show dr [117,114,108]=[117,114,108] by decide+kernel,Bz j.1 j.2.1 j.2.2];rw[Mw];cases p:(t.u==9&&t.kb==[92])with
 |true=>
  have:(bif t.u==9 then t.kb==[92]else false)=true:=by rw[Da]at p;rw[p.1,p.2];rfl
  rw[this,Ca,La rfl];rw[p,Ab,Ac]at ho;cases r with
  |nil=>exact absurd ho.1 (by decide)
  |cons s r=> rw[show(t::s::r).take 2=[t,s]from rfl,show pcS [t,s]=if t.u==9&&t.kb==[92]then [92,10]else gv [t,s]from rfl,p];rfl
 |false=>
  have:(bif t.u==9 then t.kb==[92]else false)=false:=by
   cases Z:t.u==9
   ·rfl
   ·grind
  rw[this,Ba,Ka (by decide)];have l: ∀m:List ze,pcS (t::m)=eq t++gv m:=λm=>by rw[show pcS (t::m)=if t.u==9&&t.kb==[92]then [92,10]else gv (t::m)from rfl,p,Ka (by decide)];rfl
  cases hu:xg t with
  |false=>
   have: ∀o:Bool,o=(bif t.u==2 then dr t.kb==[117,114,108]else false)->o=false:=by
    rintro _ rfl;unfold xg at hu;cases h2:t.u==2
    ·rfl
    ·rw[h2]at hu;exact hu
   have d:((zA (t.u==2) (some (dr t.kb==[117,114,108])) (default:Bool)).bind λn=>(some (bif t.u==2 then n else false):Option Bool))=some false:=by
    unfold xg at hu;cases h2:t.u==2
    ·rfl
    ·rw[h2]at hu;simp only[zQ,Aa,Ca];rw[show(dr t.kb==[117,114,108])=false from hu]
   have J: ∃n,zA (t.u==2) (some (dr t.kb==[117,114,108])) (default:Bool)=some n/\(bif t.u==2 then n else false)=false:=by
    cases hc:zA (t.u==2) (some (dr t.kb==[117,114,108])) (default:Bool)with
    |none=>rw[hc]at d;cases d
    |some n=>rw[hc]at d;exact⟨n,rfl,Option.some.inj d⟩
   obtain⟨n,e1,e2⟩:=J;rw[e1,Aa,e2,Ba,Ka (by decide),show(t::r).take 1=[t]from rfl,l,show gv []=[]from rfl,Ib];rfl
  |true=>
   have i:=hu;unfold xg at i;rw[Da]at i;rw[i.1,i.2];simp only[zQ,Aa,Ca,He];rw[hu,Ab,Ac]at ho;have f:=ho.2;have tl:=nP j.1;have k2:(t.u != 5)=true:=by have:=Fb.1 i.1;rw[this];rfl
   have L: ∀a b:Nat,a<=100000->b<=100000->zI a b=true:=λa b ha hb=>Zc.2 (by omega);cases r with
   |nil=>cases f
   |cons s r=>
    have e:=h.1 s (by simp);have sl:=nP e.1;have y:cj (1 - 1)=0:=by decide
    have A:cj (2 - 1)=1:=by decide
    have M:cj (3 - 1)=2:=by decide
    have E:cj (1+1)=2:=by decide
    have O:cj (2+1)=3:=by decide
    have v:cl (t::s::r) 0=some t:=rfl;have F:cl (t::s::r) 1=some s:=rfl;cases hs:s.u==13 with
    |false=>
     rw[Yw,hs,Ba]at f;have Q:(s.u != 5)=false:=by rw[Fb.1 f];rfl
     have hn:ni (s::r)=false:=hs;rw[hn,Ka (by decide),Zt (zNc (b:=(2,eq t++eq s)) (x:=(2,eq t++eq s)) ?_ ?_),show(t::s::r).take 2=[t,s]from rfl,l]
     ·show some ((2:Int),eq t++eq s)=some (2,eq t++(eq s++[]));rw[Ib]
     ·simp only[y,v,F,Aa,k2,Ca,Bz e.1 e.2.1 e.2.2,E];rw[zn (L _ _ (by omega) (by omega))]
     ·simp only[A,F,Aa,Q,Ba]
    |true=>
     have U:(s.u != 5)=true:=by rw[Fb.1 hs];rfl
     have hn:ni (s::r)=true:=hs;rw[Yw,hs,Ca]at f;cases r with
     |nil=>cases f
     |cons u r=>
      have V:(u.u==5)=true:=f;have Q:(u.u != 5)=false:=by rw[Fb.1 V];rfl
      have k:=h.1 u (by simp);have ul:=nP k.1;have Y:cl (t::s::u::r) 2=some u:=rfl;have F:cl (t::s::u::r) 1=some s:=rfl;have v:cl (t::s::u::r) 0=some t:=rfl;have hn:ni (s::u::r)=true:=hs;rw[hn,La rfl,Zt (zHc (b:=(2,eq t++eq s)) (c:=(3,eq t++eq s++eq u)) (x:=(3,eq t++eq s++eq u)) ?_ ?_ ?_),show(t::s::u::r).take 3=[t,s,u]from rfl,l]
      ·show some ((3:Int),eq t++eq s++eq u)=some (3,eq t++(eq s++(eq u++[])));rw[Ib,Ja]
      ·simp only[y,v,F,Aa,k2,Ca,Bz e.1 e.2.1 e.2.2,E];rw[zn (L _ _ (by omega) (by omega))]
      ·simp only[A,F,Y,Aa,U,Ca,Bz k.1 k.2.1 k.2.2,O];rw[zn (L _ _ (by rw[Ea];omega) (by omega))]
      ·simp only[M,Y,Aa,Q,Ba]
def jp:List ze->Nat
 |[]=>0
 |t::r=>4*(t.kb.length+t.ki.length)+kw t.u+jp r
def JD: ∀a b:List ze,jp (a++b)=jp a+jp b
 |[],b=>by rw[Lb,jp,Gd]
 |t::a,b=>by rw[Bb,jp,jp,JD a b];omega
def eQ: ∀{l:List ze},(∀t∈l,Eg t=true)->(gv l).length+4*l.length<=jp l
 |[],_=>Db _
 |t::r,h=>by have:=eX (h t (Ub ..));have:=eQ (l:=r) (λu hu=>h u (Vb _ hu));rw[gv,jp,Ea,Ha];omega
def zKL{x:List ze}(o:Iq x)(hw:jp x<=9000)(Z:x.length<=1500):YB x=some (wrS x):=by
 unfold YB;simp only[za];refine uk (λz=> ∃(i:Nat) (b:aE) (n:Nat),z=(b,(i:Int))/\i<=x.length/\b.length+jp (x.drop i)<=9000/\x.length - i<=n/\wrF n (x.take i) b (x.drop i)=wrS x) (λz=>x.length - z.2.toNat) _ ?_
  ⟨0,[],x.length,rfl,Yb _,by rw[Gi,Cb];omega,Db _,rfl⟩
 rintro _ ⟨i,b,n,rfl,hi,J,hn,l⟩;simp only;rcases Ec i x.length with h|h
 ·have f:=zCE o i;have a:x.drop i=x[i]::x.drop (i+1):=Eb h;obtain⟨t,ht⟩: ∃t,t=x[i]:=⟨_,rfl⟩;obtain⟨r,hr⟩: ∃r,r=x.drop (i+1):=⟨_,rfl⟩;rw[<-ht,<-hr]at a;rw[a]at f l J;have L:(t::r).length=x.length - i:=by rw[<-a,Ic]
  obtain⟨y,p⟩:=K3 f;have M:=jD (t:=t) (r:=r);have O:=O0 (t:=t) (r:=r);have j:=zNH f;obtain⟨k,hk⟩: ∃k,hZ (t::r)=k:=⟨_,rfl⟩;obtain⟨P,v⟩: ∃P,(t::r).take k=P:=⟨_,rfl⟩;obtain⟨s,hs⟩: ∃s,pcS P=s:=⟨_,rfl⟩;have d:=nL (t:=t) (r:=r);have e:=λm=>U8 (n:=m) (ts:=x.take i) (b:=b) (t:=t) (r:=r) (s:=s) (P:=P) (by rw[hk];exact v) hs;rw[hk]at M y O p d e j;rw[v]at p d j;rw[hs]at p d j;rw[L]at y;have e1:decide ((i:Int)<(x.length:Int))=true:=Ga (by omega);have e2:(decide ((0:Int)<=(i:Int))&&decide ((i:Int)<=(x.length:Int)))=true:=by rw[Ga (by omega),Ga (by omega)];rfl
  have e4:cj ((i:Int)+((k:Nat):Int))=((i+k:Nat):Int):=by rw[zY (by omega) (by omega)];omega
  have e5:(decide ((0:Int)<=((i+k:Nat):Int))&&decide (((i+k:Nat):Int)<=(x.length:Int)))=true:=by rw[Ga (by omega),Ga (by omega)];rfl
  have Q: ∀u∈P,Eg u=true:=λu hu=>(f.1 u (by rw[<-v]at hu;exact Bf hu)).1;have U:P.length=k:=by rw[<-v,Oc];omega
  have a6:jp (t::r)=jp P+jp ((t::r).drop k):=by rw[<-JD,<-v,List.take_append_drop]
  have a7:s.length+4<=jp P:=by
   have hc:=eQ Q;rw[d];cases hb:t.u==9&&t.kb==[92]with
   |true=> rw[Ca];obtain⟨q,hq⟩: ∃q,P=t::q:=⟨r.take (k - 1),by rw[<-v,show k=(k - 1)+1 by omega,Ld];rfl⟩;rw[hq,jp];have:=UC t.u;show 2+4<=_;omega
   |false=>rw[Ba];omega
  have A:List.take (i+k) x=x.take i++P:=by rw[List.take_add,a,v]
  obtain⟨sp,E⟩:=zTG (s:=b++s) (by rw[Ea];omega);have V:=gT (b++s);rw[Ea]at V;have a3:co=4194304:=rfl;have W:zI b.length s.length=true:=Zc.2 (by omega);have F:zI b.length ([47,42,42,47]:aE).length=true:=Zc.2 (by show((b.length+4:Nat):Int)<=_;omega);have Y:List.drop i x=t::r:=a;simp only[e1,e2,Ca,Zd,Oa,Y,j,Aa,W,E,e4,e5,A,same_eq (show(Qw (b++s)).length<=co by omega),F];obtain⟨c,hc⟩: ∃c,c=ig (Qw (b++s)) (x.take i++P):=⟨_,rfl⟩;rw[<-hc];have hj:((bif !c then some (LX.out (b++[47,42,42,47],(i:Int)))else some (LX.out (b,(i:Int)))):Option (LX (aE×Int) (LO (aE×Int) aE aE)))=some (LX.out (if c then b else b++cmtW,(i:Int))):=by cases c<;>rfl
  rw[hj,zf];have a8:(if c then b else b++cmtW).length<=b.length+4:=by
   split
   ·omega
   ·rw[Ea];show b.length+4<=_;omega
  simp only[e4];rw[zn (Zc.2 (by omega))];obtain⟨m,hm⟩: ∃m,n=m+1:=⟨n - 1,by omega⟩;subst hm;rw[e m,<-hc]at l;refine .inl ⟨_,rfl,⟨i+k,_,m,rfl,by omega,?_,by omega,?_⟩,?_⟩
  ·rw[<-ae,a,Ea];omega
  ·rw[A,<-l,<-ae,a]
  ·simp only[Oa];omega
 ·have:i=x.length:=by omega
  subst this;have e1:decide ((x.length:Int)<(x.length:Int))=false:=Ma (by omega);simp only[e1,Ba];refine .inr (.inl ⟨_,rfl,?_⟩);rw[Je (Db _)]at l;cases n with
  |zero=>rw[wrF]at l;rw[l]
  |succ n=>rw[wrF]at l;rw[l]
mutual
def zRy: ∀v:zo,jp (gE v)<=30*szV v
 |⟨t,l⟩=>by
  rw[gE,szV];have h1:=bL l;have h2:=UC t.u;split
  ·rw[jp,jp];omega
  ·rename_i h0;rw[jp,JD,jp,jp];have h3:kw t.u=10:=by unfold kw;rw[Ka];rintro(q|q|q)<;>exact h0 (by rw[q];rfl)
   have h4:kw (qm t.u)=10:=by
    unfold qm;split
    ·rfl
    split
    ·rfl
    split<;>rfl
   simp only[h3,h4,Cb];omega
def bL: ∀l:List zo,jp (cQ l)<=30*cT l
 |[]=>by rw[cQ,jp];exact Yb _
 |v::r=>by rw[cQ,cT,JD];have:=zRy v;have:=bL r;omega
end
def bY: ∀(n:Nat) (ts:List ze) (b:aE) (r:List ze),(∀t∈r,Eg t=true)->(wrF n ts b r).length<=b.length+jp r
 |0,_,b,r,_=>by rw[wrF];omega
 |n+1,_,b,[],_=>by rw[wrF,jp];omega
 |n+1,ts,b,t::r,h=>by
  rw[wrF];have a:=jD (t:=t) (r:=r);have c:=bY n (ts++(t::r).take (hZ (t::r))) ((if ig (Qw (b++pcS ((t::r).take (hZ (t::r))))) (ts++(t::r).take (hZ (t::r)))then b else b++cmtW)++pcS ((t::r).take (hZ (t::r)))) ((t::r).drop (hZ (t::r))) (λu hu=>h u (List.mem_of_mem_drop hu));have d:jp (t::r)=jp ((t::r).take (hZ (t::r)))+jp ((t::r).drop (hZ (t::r))):=by rw[<-JD,List.take_append_drop]
  have hc:=eQ (l:=(t::r).take (hZ (t::r))) (λu hu=>h u (Bf hu));have hp:(pcS ((t::r).take (hZ (t::r)))).length+4<=jp ((t::r).take (hZ (t::r))):=by
   rw[nL];obtain⟨k,hk⟩: ∃k,hZ (t::r)=k+1:=⟨hZ (t::r) - 1,by omega⟩;rw[hk,Ld]at hc ⊢;rw[Ha]at hc;have:=UC t.u;cases t.u==9&&t.kb==[92]with
   |true=>rw[Ca,jp];simp only[Ha,Cb];omega
   |false=>rw[Ba];omega
  have hb:(if ig (Qw (b++pcS ((t::r).take (hZ (t::r))))) (ts++(t::r).take (hZ (t::r)))then b else b++cmtW).length<=b.length+4:=by
   split
   ·omega
   ·rw[Ea];exact Db _
  rw[Ea]at c;omega
structure SmD (d:Zv):Prop where
 s:d.q.length+cT d.i<=300
def SmD.ok{d:Zv}(h:SmD d):OkD d:=zHx (l:=[d]) (λx a=>by rw[jc.1 a];exact h.s) d (Ve _)
def aY{d:Zv}(h:SmD d)(a:Qm d=true):(wrS (cQ d.i)).length<=9000:=by have h1:=bY (cQ d.i).length [] [] (cQ d.i) (IM (YL a).glu).2.1;have h2:=bL d.i;have:=h.s;rw[Cb]at h1;unfold wrS;omega
def KD{d:Zv}(h:SmD d)(a:Qm d=true):(ez d).length<=9300:=by have h1:=aY h a;have h2:=NA d.q;have h3:=(CR (YL a).q).2.1;unfold ez;rw[Ea,Ea,Ea];cases d.lb<;>simp only[Ca,Ba,Ha,Cb]<;>omega
def JO{d:Zv}(h:SmD d)(a:Qm d=true):XB d=some (ez d):=by
 have b:co=4194304:=rfl;have e:=h.s;obtain⟨h1,h2,h3,_⟩:=YL a;have hn:=(CR h1).2.1;have hl:=NA d.q;have j:=aY h a;have hN:ZV (d.q,false)=some (ZA d.q):=bz false (by omega);have f:=bL d.i;have c:=Bt d.i;have i:YB (cQ d.i)=some (wrS (cQ d.i)):=zKL (zS2 h3 h.ok.t) (by omega) (by omega);have c1:zI (ZA d.q).length ([58,32]:aE).length=true:=Zc.2 (by simp only[Ha,Cb];omega);have c2:zI (ZA d.q++([58,32]:aE)).length (wrS (cQ d.i)).length=true:=Zc.2 (by simp only[Ea,Ha,Cb];omega);have c3:zI (ZA d.q++([58,32]:aE)++wrS (cQ d.i)).length impT.length=true:=Zc.2 (by simp only[Ea,Ha,Cb];omega);unfold XB ez;simp only[hN,za,Aa,c1,lN h.ok.v,i,c2,c3,Zd];cases d.lb with
 |true=>rfl
 |false=>simp only[Ba,zf,Ib]
def zN4(a b:List Zv):Bl (a++b)=Bl a++Bl b:=by unfold Bl;rw[Tc,List.flatten_append]
def zJw(a:List Zv)(d:Zv):Pg (a++[d])=(if a=[]then []else Pg a++([59,32]:aE))++ez d:=by
 have e:Bl [d]=([59,32]:aE)++ez d:=by show(([59,32]:aE)++ez d)++[]=_;rw[Ib]
 cases a with
 |nil=> show ez d++Bl []=_;rw[La rfl];show ez d++[]=[]++ez d;rw[Ib,Lb]
 |cons x r=> rw[Ka (by simp),Bb,Pg,Pg,zN4,e];simp only[Ja]
def zMV{l:List Zv}(h: ∀d∈l,SmD d/\Qm d=true):(Pg l).length<=9302*l.length:=by
 have:=XT (M:=9300) (l.map ez) (λx b=>by
  obtain⟨d,a,rfl⟩:=Rb.1 b;exact KD (h d a).1 (h d a).2)
 rw[wQ,Xa]at this;exact this
def zNK{l:List Zv}(h: ∀d∈l,SmD d/\Qm d=true)(hl:l.length<=40):XA l=some (Pg l):=by
 have f:co=4194304:=rfl;unfold XA;refine uk (λz=> ∃i:Nat,z=(Pg (l.take i),(i:Int))/\i<=l.length) (λz=>l.length - z.2.toNat) _ ?_ ⟨0,rfl,Yb _⟩;rintro _ ⟨i,rfl,hi⟩;rcases Ec i l.length with a|a
 ·obtain⟨d1,d2⟩:=h _ (Ia a);have j:cj ((i:Int)+1)=((i+1:Nat):Int):=zD a (by omega);have k:=zMV (l:=l.take i) (λd m=>h d (Bf m));have b:(l.take i).length<=40:=by rw[Oc];omega
  have n:(Pg (l.take i)).length<=9302*40:=Jc k (Cg _ b);have o:=KD d1 d2;refine .inl ⟨_,?_,⟨i+1,rfl,a⟩,by simp only[Oa];omega⟩;rw[Jb a,zJw];have c1:zI (Pg (l.take i)).length ([59,32]:aE).length=true:=Zc.2 (by simp only[Ha,Cb];omega);have c2:zI (Pg (l.take i)++([59,32]:aE)).length (ez l[i]).length=true:=Zc.2 (by simp only[Ea,Ha,Cb];omega);have c3:zI ([]:aE).length (ez l[i]).length=true:=Zc.2 (by simp only[Cb];omega);by_cases h0:i=0
  ·subst h0;have e0:Pg (l.take 0)=[]:=rfl;simp only[zN a,Ca,show decide ((0:Int)>0)=false from rfl,Int.natCast_zero,Ba,zf,za];simp only[show cl l 0=some l[0]from zF a,Aa,JO d1 d2,e0,c3,Zd];rw[Ga (show(0:Int)<(l.length:Int) by omega)];rfl
  ·have c:l.take i≠[]:=by intro e;have:=congrArg List.length e;rw[Oc,Cb]at this;omega
   rw[Ka c];simp only[zN a,Ca,Ga (show(i:Int)>0 by omega),c1,Zd,zf,za,zF a,Aa,JO d1 d2,c2,j]
 ·have:i=l.length:=by omega
  subst this;rw[Xc];refine .inr (.inl ⟨Pg l,?_,rfl⟩);simp only[Nh,Ba]
def zQm(sep:aE)(a:List aE)(x:aE):jn sep (a++[x])=(if a=[]then []else jn sep a++sep)++x:=by
 cases a with
 |nil=>rw[La rfl];exact Lib.join_one x sep
 |cons y r=>
  rw[Ka (by simp)];show Lib.join (y::(r++[x])) sep=Lib.join (y::r) sep++sep++x;rw[Lib.join_cons,Lib.join_cons];unfold Lib.joinTail
  grind
def V4(sep x:aE)(r:List aE):jn sep (x::r)=x++Lib.joinTail sep r:=Lib.join_cons x r sep
def zCS{K:Nat}{f:zh->aE}{sep:aE}(hs:sep.length<=5): ∀{l:List zh},(∀y∈l,(f y).length+8<=K*cC y)->(Lib.joinTail sep (l.map f)).length+3*l.length<=K*(l.map cC).sum
 |[],_=>Yb _
 |y::r,h=>by have b:=zCS hs (l:=r) λz a=>h z (by simp[a]);have c:=h y (by simp);have e:Lib.joinTail sep ((y::r).map f)=(sep++f y)++Lib.joinTail sep (r.map f):=rfl;rw[e,Ea,Ea,Xb,xc,Nat.mul_add,Ha];omega
def CE{K:Nat}{f:zh->aE}{sep:aE}(hs:sep.length<=5){l:List zh}(h: ∀y∈l,(f y).length+8<=K*cC y):(jn sep (l.map f)).length<=K*(l.map cC).sum:=by
 cases l with
 |nil=>exact Yb _
 |cons y r=> have b:=zCS hs (l:=r) λz a=>h z (by simp[a]);have c:=h y (by simp);rw[Xb,V4,Ea,Xb,xc,Nat.mul_add];omega
mutual
def lx(a:Bool):zh->Bool
 |⟨k,n,m,d,l⟩=>bif k==4 then a&&(!n.isEmpty&&(ZL n&&decide (n.length<=64)))else bif k==5||k==6 then a&&(decide (0<=m)&&decide (m<=1000000000000))else
  bif k==7 then !a&&(Qm d&&decide (d.q.length+cT d.i<=300))else bif k==8 then !a else(bif k==3 then l.length==1 else k==1||k==2)&&okWs a l
def okWs(a:Bool):List zh->Bool
 |[]=>true
 |c::r=>lx a c&&okWs a r
end
def Y9(a:Bool): ∀l:List zh,okWs a l=l.all (lx a)
 |[]=>by rw[okWs];rfl
 |c::r=>by rw[okWs,Y9 a r];rfl
def Xn(a:Bool)(c:zh):lx a c=bif c.u==4 then a&&(!c.q.isEmpty&&(ZL c.q&&decide (c.q.length<=64)))else bif c.u==5||c.u==6 then a&&(decide (0<=c.kg)&&decide (c.kg<=1000000000000))else
  bif c.u==7 then !a&&(Qm c.decl&&decide (c.decl.q.length+cT c.decl.i<=300))else bif c.u==8 then !a else(bif c.u==3 then c.w.length==1 else c.u==1||c.u==2)&&c.w.all (lx a):=by
 obtain⟨⟩:=c;rw[lx,Y9]
def zQK{f:Bool}{y:zh}(h:Ki f y=true):lx true y=true:=by
 unfold Ki at h;simp only[Da,Pb]at h;rw[Xn];rcases h.2.2 with⟨_,h4,_,hm⟩|⟨hk,_,h0,hN⟩
 ·unfold medS keyS at hm
  grind
 ·unfold isN at hN
  grind
def W9{c:zh}(h:Mg c=true):lx true c=true:=by unfold Mg at h;simp only[Da,Fb]at h;rw[Xn,h.1];exact Ya.2 λy a=>let⟨_,e⟩:=xN h.2.2.2 a;zQK e
def zQI{c:zh}(h:Wh c=true):lx true c=true:=by
 unfold Wh at h;cases h3:c.u==3 with
 |false=>rw[h3]at h;exact W9 h
 |true=>
  rw[h3,Ca,Da]at h;have:=h.2;revert this;rw[Xn,eq_of_beq h3];cases hl:c.w with
  |nil=>intro h;cases h
  |cons y r=>
   cases r with
   |nil=> intro a;simp only[Da]at a;simp[W9 a.1]
   |cons z r=>grind
def YM{c:zh}(h:ah c=true):lx true c=true:=by
 unfold ah at h;simp only[Da,Pb,Fb,jd,Ya]at h;rw[Xn];rcases h.2 with⟨hk,hl⟩|⟨hk,_,_,hl⟩
 ·rw[hk,hl];rfl
 ·rw[hk];exact Ya.2 λy a=>zQI (hl y a)
def nQ: ∀{c:zh},d8 c=true->(∀d∈Yg c,d.q.length+cT d.i<=300)->lx false c=true:=by
 have f: ∀(n:Nat) (c:zh),cC c<=n->d8 c=true->(∀d∈Yg c,d.q.length+cT d.i<=300)->lx false c=true:=by
  intro n
  induction n with
  |zero=>intro c hc;have:=Gm c;omega
  |succ n j=>
   intro c hc hs a;rw[ol]at hs;rw[Xn];rw[jv]at a;have k:=ui c;cases l:c.u==7 with
   |true=>
    grind
   |false=>
    rw[l,Ba]at hs a;cases m:c.u==8 with
    |true=>grind
    |false=>
     rw[m,Ba]at hs;simp only[Da]at hs;obtain⟨hk,_,hl,b⟩:=hs;have h4:(c.u==4)=false/\(c.u==5||c.u==6)=false:=by simp only[Pb,Fb]at hk;rcases hk with e|e|e<;>rw[e]<;>exact⟨rfl,rfl⟩
     have ha:c.w.all (lx false)=true:=Ya.2 λy i=>j y (by have:=Yh i;omega) (Ya.1 b y i) λd h=>a d (We.2 ⟨y,i,h⟩);rw[h4.1,h4.2,ha,Ba,Ba,Ba,Ba,Nb]
     grind
 intro c hs a;exact f _ c (Db _) hs a
abbrev KW:Nat:=9400
def dz(s:aE):(fN s).length=s.length+2:=by unfold fN;grind
def Wz{n:Int}(h0:0<=n)(h:n<=1000000000000):(cE n false).length<=20:=by
 obtain⟨m,rfl⟩: ∃m:Nat,n=(m:Int):=⟨n.toNat,by omega⟩;have hm:m%1000<1000:=Vf _ (by omega);have:=kL 10 (m / 1000) (j7 (ly (m%1000)));have h2:=A7 hm;rw[d9 (by omega)]at this;unfold cE
 grind
def EE{c:zh}{s:aE}(h:s.length+10<=KW*cC c):(bif bf c then s else fN s).length+8<=KW*cC c:=by
 cases bf c with
 |true=>grind
 |false=>simp only[Ba,dz];omega
def gQ{o:Bool}{wd:Zv->aE}(r: ∀d,Qm d=true->d.q.length+cT d.i<=300->(wd d).length<=9300): ∀{c:zh},lx o c=true->(eV wd c).length+10<=KW*cC c:=by
 have f: ∀(n:Nat) (c:zh),cC c<=n->lx o c=true->(eV wd c).length+10<=KW*cC c:=by
  intro n
  induction n with
  |zero=>intro c hc;have:=Gm c;omega
  |succ n s=>
   intro c hc hs;have b:=ui c;have hp:=Gm c;rw[Xn]at hs;obtain⟨k,t,m,d,l⟩:=c;rw[eV];simp only at hs b;unfold KW;cases h4:k==4 with
   |true=>
    rw[h4,Ca]at hs;simp only[Da,aa]at hs;have:=NA t
    grind
   |false=>
   cases a:k==5 with
   |true=> rw[h4,a,Ba,Uc,Ca]at hs;simp only[Da,aa]at hs;have:=Wz hs.2.1 hs.2.2;simp only[Ba,Ca,Ea,Vk,pxW,Ha,Cb];omega
   |false=>
   cases i:k==6 with
   |true=> rw[h4,a,i,Ba,Be,Ca]at hs;simp only[Da,aa]at hs;have:=Wz hs.2.1 hs.2.2;simp only[Ba,Ca,Ea,Nk,pxW,Ha,Cb];omega
   |false=>
   cases p:k==7 with
   |true=> rw[h4,a,i,p,Ba,Ke,Ba,Ca]at hs;simp only[Da,aa]at hs;have:=r d hs.2.1 hs.2.2;simp only[Ba,Ca,dz];omega
   |false=>
   cases u:k==8 with
   |true=>simp only[Ba,Ca,unkW,Ha,Cb];omega
   |false=>
    rw[h4,a,i,p,u,Ba,Ke,Ba,Ba,Ba]at hs;simp only[Da,Ya]at hs;have hm: ∀y∈l,(eV wd y).length+10<=KW*cC y:=λy e=>s y (by have:=Yh e;omega) (hs.2 y e);have j: ∀sep:aE,sep.length<=5->(jn sep (l.map (eV wd))).length<=KW*(l.map cC).sum:=λsep a=>CE a λy e=>by grind
    have hi: ∀sep:aE,sep.length<=5->(jn sep (l.map λc=>bif bf c then eV wd c else fN (eV wd c))).length<=KW*(l.map cC).sum:=λsep a=>CE a λy e=>EE (hm y e);rw[Uz,DF];unfold KW at j hi hm;cases h3:k==3 with
    |true=>
     rw[h3,Ca]at hs;obtain⟨y,rfl⟩: ∃y,l=[y]:=Ef.1 (eq_of_beq hs.1);have h1:=hm y (by simp);have h2:=EE (c:=y) h1;unfold KW at h2;simp only[Xb,Ye,xc,List.sum_nil]at b;simp only[Ba,Ca,Xb,Ye,Fg];cases oC [y]with
     |true=>simp only[Ca,Ea,nt4,Ha,Cb];omega
     |false=>simp only[Ba,Ea,nt4,Ha,Cb];omega
    |false=>
     have v:=j cma2 (by decide);have x:=j j9 (by decide);have A:=hi or4 (by decide);have E:=hi j9 (by decide)
     grind
 intro c hs;exact f _ c (Db _) hs
def YZ: ∀d,Qm d=true->d.q.length+cT d.i<=300->(ez d).length<=9300:=λ_ h1 h2=>KD ⟨h2⟩ h1
def zSS{sep:aE}{g:zh->aE}{l:List zh}{i:Nat}(hi:i<l.length):jn sep ((l.take (i+1)).map g)=(if i=0 then []else jn sep ((l.take i).map g)++sep)++g l[i]:=by
 rw[Jb hi,Tc,Xb,Ye,zQm];congr 1;by_cases h:i=0
 ·grind
 ·rw[Ka h,Ka];intro e;simp_all
def VS{g:zh->aE}{sep:aE}(hs:sep.length<=5){l:List zh}(h: ∀y∈l,(g y).length+8<=KW*cC y)(hn:(l.map cC).sum<=100)(i:Nat):(jn sep ((l.take i).map g)).length<=940000:=by
 have h1:=CE (K:=KW) hs (l:=l.take i) λy a=>h y (Bf a);have h2:=xw cC l i
 grind
def xR{g:zh->aE}{l:List zh}(h: ∀y∈l,(g y).length+8<=KW*cC y)(hn:(l.map cC).sum<=100){y:zh}(a:y∈l):(g y).length<=940000:=by
 have h1:=h y a;have h2:=Yh a
 grind
def YE: ∀l:List zh,l.length<=(l.map cC).sum
 |[]=>Db _
 |c::r=>by have:=YE r;have:=Gm c;grind
def FV{S:zh->Option aE}{f:zh->aE}{l:List zh}{sep:aE}(hS: ∀y∈l,S y=some (f y))(hs:sep.length<=5)(h: ∀y∈l,(f y).length+8<=KW*cC y)(hn:(l.map cC).sum<=100):
  GA S (l,sep)=some (jn sep (l.map f)):=by
 have b:=YE l;unfold GA;refine(bF l.length (λi=>((i:Int),(l.take i).map f)) (l.map f) rfl (λi hi=> ?_) ?_).trans ?_
 ·have hm:=Ia hi;have ha:Zm ((l.take i).map f).length 1 16=true:=Aw (by grind);simp only[zN hi,Ca,zF hi,za,Aa,Zh,hS _ hm,ha,Zd,zD hi (show l.length<=co by unfold co;omega)];rw[Jb hi,Tc];rfl
 ·grind
 ·have a:=VS hs h hn l.length;rw[Xc]at a;have a:(Lib.join (l.map f) sep).length<=940000:=a;have hb:(Nat.ble (l.map f).length 1000000&&Nat.ble (Lib.join (l.map f) sep).length 1000000000)=true:=by rw[Xa,ag (by omega),ag (by omega)];rfl
  unfold Rk;simp only[hb,Zd,za,Aa];rfl
def P5: ∀{c:zh},lx true c=true->(fp c).length+10<=KW*cC c:=by
 have b: ∀(n:Nat) (c:zh),cC c<=n->lx true c=true->(fp c).length+10<=KW*cC c:=by
  intro n
  induction n with
  |zero=>intro c hc;have:=Gm c;omega
  |succ n o=>
   intro c hc hs;have a:=ui c;have hp:=Gm c;rw[Xn]at hs;obtain⟨k,p,m,d,l⟩:=c;rw[fp,OA];simp only at hs a;unfold KW;cases h4:k==4 with
   |true=>
    rw[h4,Ca]at hs;simp only[Da,aa]at hs;have:=NA p
    grind
   |false=>
    have hm:(k==5||k==6)=false-> ∀y∈l,(fp y).length+10<=KW*cC y:=λe y j=>o y (by have:=Yh j;omega) (by
     grind)
    have f:(k==5||k==6)=false-> ∀sep:aE,sep.length<=5->(jn sep (l.map fp)).length<=KW*(l.map cC).sum:=λe sep r=>CE r λy j=>by grind
    unfold KW at f hm;have no: ∀q:Int,(k==q)=true->q=1\/q=2\/q=3->(k==5||k==6)=false:=λq e h=>by
     grind
    cases h3:k==3 with
    |true=> have e:=no 3 h3 (.inr (.inr rfl));have k3:=eq_of_beq h3;subst k3;have hs:(l.length==1&&l.all (lx true))=true:=hs;rw[Da]at hs;obtain⟨y,rfl⟩: ∃y,l=[y]:=Ef.1 (eq_of_beq hs.1);have h1:=hm e y (by simp);simp only[Xb,Ye,xc,List.sum_nil]at a;simp only[Ba,Ca,Xb,Ye,Fg,Ea,nt4,Ha,Cb];omega
    |false=>
    cases h2:k==2 with
    |true=>have:=f (no 2 h2 (.inr (.inl rfl))) cma2 (by decide);grind
    |false=>
    cases h1:k==1 with
    |true=>have:=f (no 1 h1 (.inl rfl)) j9 (by decide);grind
    |false=>
     have i:(k==5||k==6)=true:=by
      cases e:(k==5||k==6)with
      |true=>rfl
      |false=>
       grind
     rw[h4,i,Ba,Ca]at hs;simp only[Da,aa]at hs;have:=Wz hs.2.1 hs.2.2;simp only[Ba];cases k==5<;>simp only[Ca,Ba,Ea,Vk,Nk,pxW,Ha,Cb]<;>omega
 intro c hs;exact b _ c (Db _) hs
def Eh{a b:Nat}(h:a+b<=10000000):zI a b=true:=Zc.2 (by omega)
def zx0{c:zh}(n:lx true c=true)(hn:cC c<=100):qB c=some (fp c):=by
 refine ZB cC (λc=>lx true c=true/\cC c<=100) fp (λS c hc hS=> ?_) ⟨n,hn⟩;obtain⟨hs,hn⟩:=hc;have o:=ui c;have b:=P5 hs;have r:=hs;rw[Xn]at hs;obtain⟨k,s,m,d,l⟩:=c;unfold nH;rw[fp,OA]at b ⊢;simp only at hs o ⊢;cases h4:k==4 with
 |true=> rw[h4,Ca]at hs;simp only[Da,aa,je]at hs;simp only[Ca,K7 (show s.length<=1000 by omega),hs.2.1,hs.2.2.1,Ab,Ke,za,Aa];rfl
 |false=>
  have i:(k==5||k==6)=false->l.all (lx true)=true:=λe=>by
   grind
  have no: ∀q:Int,(k==q)=true->q=1\/q=2\/q=3->(k==5||k==6)=false:=λq e h=>by
   grind
  have a:(k==5||k==6)=false-> ∀y∈l,S y=some (fp y):=λe y j=>hS y ⟨Ya.1 (i e) y j,by have:=Yh j;omega⟩ (by have:=Yh j;omega);have f:(k==5||k==6)=false-> ∀y∈l,(fp y).length+8<=KW*cC y:=λe y j=>by have:=P5 (Ya.1 (i e) y j);omega
  cases h3:k==3 with
  |true=> have e:=no 3 h3 (.inr (.inr rfl));have k3:=eq_of_beq h3;subst k3;have hs:(l.length==1&&l.all (lx true))=true:=hs;rw[Da]at hs;obtain⟨y,rfl⟩: ∃y,l=[y]:=Ef.1 (eq_of_beq hs.1);have a:=a e y (by simp);have hl:=xR (g:=fp) (f e) (by grind) (Ve y);have t:cl [y] 0=some y:=rfl;have c1:zI ([110,111,116,32]:aE).length (fp y).length=true:=Eh (by grind);simp only[Ba,Ca,t,za,Aa,Zh,a,c1,Zd];rfl
  |false=>
  cases h2:k==2 with
  |true=> have e:=no 2 h2 (.inr (.inl rfl));have:=FV (sep:=cma2) (a e) (by decide) (f e) (by omega);simp only[Ba,Ca,show([44,32]:aE)=cma2 from rfl,this,za,Aa]
  |false=>
  cases h1:k==1 with
  |true=> have e:=no 1 h1 (.inl rfl);have:=FV (sep:=j9) (a e) (by decide) (f e) (by omega);simp only[Ba,Ca,show([32,97,110,100,32]:aE)=j9 from rfl,this,za,Aa]
  |false=>
   have p:(k==5||k==6)=true:=by
    cases e:(k==5||k==6)with
    |true=>rfl
    |false=>
     grind
   rw[h4,p,Ba,Ca]at hs;simp only[Da,aa]at hs;have hl:=Wz hs.2.1 hs.2.2;obtain⟨q,rfl⟩: ∃q:Nat,m=(q:Int):=⟨m.toNat,by omega⟩;have c1:zI Vk.length (cE (q:Int) false).length=true:=Eh (by simp only[Vk,Ha,Cb];omega);have c2:zI (Vk++cE (q:Int) false).length pxW.length=true:=Eh (by simp only[Ea,Vk,pxW,Ha,Cb];omega);have c3:zI Nk.length (cE (q:Int) false).length=true:=Eh (by simp only[Nk,Ha,Cb];omega);have c4:zI (Nk++cE (q:Int) false).length pxW.length=true:=Eh (by simp only[Ea,Nk,pxW,Ha,Cb];omega);simp only[Ba,zvm (show q<=1000000000000 by omega),za,Aa];cases k==5
   ·exact(zn c3 _).trans (zn c4 _)
   ·exact(zn c1 _).trans (zn c2 _)
def wdP(d:Zv):aE:=(Kh d).1
def lgD(d:Zv):Bool:=(Kh d).2 != 0
def aZ: ∀d,Qm d=true->d.q.length+cT d.i<=300->(wdP d).length<=9300:=λd h1 _=>by
 unfold wdP Kh
 grind
def inP(c:zh):aE:=bif bf c then dy wdP c else fN (dy wdP c)
structure SupP (c:zh):Prop where
 s:d8 c=true
 n:cC c<=100
 d: ∀d∈Yg c,d.q.length+cT d.i<=300
def SupP.len{c:zh}(h:SupP c):(dy wdP c).length+10<=KW*cC c:=by
 have:=gQ (wd:=wdP) aZ (nQ h.s h.d)
 rwa [fQ h.s]at this
def SupP.lenI{c:zh}(h:SupP c):(inP c).length+8<=KW*cC c:=EE h.len
def nZ{S:zh×Bool->Option (aE×Bool)}{y:zh}{b a:Bool}(hS:S (y,b)=some (dy wdP y,a))(h:(dy wdP y).length<=940000):wB S (y,b)=some (inP y,a):=by have c1:zI ([40]:aE).length (dy wdP y).length=true:=Eh (by grind);have c2:zI (([40]:aE)++dy wdP y).length ([41]:aE).length=true:=Eh (by grind);unfold wB inP;simp only[Zh,hS,za,Aa,DV,c1,c2,Zd];cases bf y<;>rfl
def C9{S:zh×Bool->Option (aE×Bool)}{l:List zh}{sep:aE}{b:Bool}(hS: ∀y∈l,∀b,S (y,b)=some (dy wdP y,b||(Yg y).any lgD))(hs:sep.length<=5)(h: ∀y∈l,SupP y)(hn:(l.map cC).sum<=100):
  jA S ((l,sep),b)=some (jn sep (l.map inP),b||(l.flatMap Yg).any lgD):=by
 have c:=YE l;have d: ∀y∈l,(inP y).length+8<=KW*cC y:=λy e=>(h y e).lenI;unfold jA;refine(bF l.length (λi=>((i:Int),(b||((l.take i).flatMap Yg).any lgD),(l.take i).map inP)) ((b||(l.flatMap Yg).any lgD),l.map inP) (by grind) (λi hi=> ?_) ?_).trans ?_
 ·have hm:=Ia hi;have ha:Zm ((l.take i).map inP).length 1 16=true:=Aw (by grind);have hl:(dy wdP l[i]).length<=940000:=by have h1:=(h _ hm).len;have h2:=Yh hm;unfold KW at h1;omega
  simp only[zN hi,Ca,zF hi,za,Aa,Zh,nZ (hS _ hm _) hl,ha,Zd,zD hi (show l.length<=co by unfold co;omega)];rw[Jb hi,Tc,List.flatMap_append,List.any_append,Bool.or_assoc];simp
 ·grind
 ·have a:=VS hs d hn l.length;rw[Xc]at a;have a:(Lib.join (l.map inP) sep).length<=940000:=a;have hb:(Nat.ble (l.map inP).length 1000000&&Nat.ble (Lib.join (l.map inP) sep).length 1000000000)=true:=by rw[Xa,ag (by omega),ag (by omega)];rfl
  unfold Rk;simp only[hb,Zd,za,Aa];rfl
def zNY{d:Zv}(h:d.q.length+cT d.i<=300):OkD d:=(SmD.mk h).ok
def zqS{c:zh}{b:Bool}(h:SupP c):Zk (c,b)=some (dy wdP c,b||(Yg c).any lgD):=by
 refine ZB (λx:zh×Bool=>cC x.1) (λx=>SupP x.1) (λx=>(dy wdP x.1,x.2||(Yg x.1).any lgD)) (λS x o hS=> ?_) (x:=(c,b)) h;obtain⟨c,b⟩:=x;have o:SupP c:=o;obtain⟨hs,hn,e⟩:=o;have p:=ui c;unfold VJ;rw[jv]at e ⊢;rw[ol]at hs;obtain⟨k,F,m,d,l⟩:=c;rw[dy,Yv];simp only at hs e p hS ⊢;cases t:k==7 with
 |true=>
  rw[t,Ca]at hs e;simp only[Da]at hs;have i:=e d (Ve _);have hl:=aZ d hs.2.2.2 i;have c1:zI ([40]:aE).length (wdP d).length=true:=Eh (by grind);have c2:zI (([40]:aE)++wdP d).length ([41]:aE).length=true:=Eh (by grind);simp only[Ca,CV (zNY i),za,Aa];refine((zn c1 _).trans (zn c2 _)).trans ?_;show some ((([40]:aE)++wdP d++([41]:aE)),bif b then true else lgD d)=some (fN (wdP d),b||([d].any lgD));simp only[ug,List.any_nil,Dc];cases b<;>rfl
 |false=>
  rw[t,Ba]at hs e;cases u:k==8 with
  |true=> rw[u,Ca]at hs;simp only[Da,jd]at hs;rw[hs.1];simp only[Ca,Ba,List.flatMap_nil,List.any_nil,Dc];rfl
  |false=>
   rw[u,Ba]at hs;simp only[Da]at hs;obtain⟨hk,_,hl,j⟩:=hs;have n: ∀y∈l,SupP y:=λy f=>⟨Ya.1 j y f,by have:=Yh f;omega,λd r=>e d (We.2 ⟨y,f,r⟩)⟩;have a: ∀y∈l,∀b,S (y,b)=some (dy wdP y,b||(Yg y).any lgD):=λy f b=>hS (y,b) (n y f) (by have:=Yh f;simp only;omega);cases h3:k==3 with
   |true=>
    rw[h3]at hl;obtain⟨y,rfl⟩: ∃y,l=[y]:=Ef.1 (eq_of_beq hl);have hm:=Ve y;have s:(dy wdP y).length<=940000:=by have h1:=(n y hm).len;have h2:=Yh hm;unfold KW at h1;omega
    have v:=xR (g:=inP) (λz A=>(n z A).lenI) (by omega) hm;have c1:zI ([110,111,116,32]:aE).length (inP y).length=true:=Eh (by grind);have E:cl [y] 0=some y:=rfl;simp only[Ba,Ca,E,za,Aa,Zh,nZ (a y hm b) s,c1,Zd];simp only[Xb,Ye,Fg,List.flatMap_cons,List.flatMap_nil,Ib];rfl
   |false=>
    cases h2:k==2 with
    |true=> have:=C9 (b:=b) (sep:=or4) a (by decide) n (by omega);simp only[Ba,Ca,show([32,111,114,32]:aE)=or4 from rfl,this,za,Aa];rfl
    |false=> have:=C9 (b:=b) (sep:=j9) a (by decide) n (by omega);simp only[Ba,show([32,97,110,100,32]:aE)=j9 from rfl,this,za,Aa];rfl
def pW{c:zh}(h:zx (zC c)<=co):Yx c=some (Mg c):=by unfold Yx;simp only[Zh,bO h,za,Aa]
def zC0{S:zh->Option aE}{y:zh}{s:aE}(hS:S y=some s)(h:s.length<=940000):JB S y=some (bif bf y then s else fN s):=by
 have c1:zI ([40]:aE).length s.length=true:=Eh (by grind);have c2:zI (([40]:aE)++s).length ([41]:aE).length=true:=Eh (by grind);have a:(bif y.u==7 then true else y.u==8)=bf y:=by unfold bf;cases y.u==7<;>rfl
 unfold JB;simp only[Zh,hS,za,Aa,a,c1,c2,Zd];cases bf y<;>rfl
def EG{S:zh->Option aE}{f:zh->aE}{l:List zh}{sep:aE}{terms:Bool}(hS: ∀y∈l,S y=some (f y))(hs:sep.length<=5)(h: ∀y∈l,(f y).length+10<=KW*cC y)(hn:(l.map cC).sum<=100):
  dx S (l,sep,terms)=some (jn sep (l.map λy=>bif terms then(bif bf y then f y else fN (f y))else f y)):=by
 have c:=YE l;have d: ∀y∈l,(bif terms then(bif bf y then f y else fN (f y))else f y).length+8<=KW*cC y:=λy k=>by
  have:=h y k;cases terms with
  |true=>exact EE this
  |false=>grind
 unfold dx;refine(bF l.length (λi=>(jn sep ((l.take i).map λy=>bif terms then(bif bf y then f y else fN (f y))else f y),(i:Int))) (jn sep (l.map λy=>bif terms then(bif bf y then f y else fN (f y))else f y)) rfl (λi hi=> ?_) ?_).trans rfl
 ·have hm:=Ia hi;have h1:=VS hs d hn i;have h2:=xR d hn hm;have h3:(f l[i]).length<=940000:=by have a1:=h _ hm;have a2:=Yh hm;unfold KW at a1;omega
  have m:=zC0 (hS _ hm) h3;have a:decide ((i:Int)>0)= !decide (i=0):=by
   by_cases e:i=0
   ·subst e;rfl
   ·grind
  rw[zSS hi];generalize j:jn sep ((l.take i).map λy=>bif terms then(bif bf y then f y else fN (f y))else f y)=G at h1 ⊢;have c1:zI G.length sep.length=true:=Eh (by omega);have o: ∀R:Type,(zK (X:=aE) (bif decide ((i:Int)>0)then ck (zI G.length sep.length) (some (LX.out (G++sep)))else some (LX.out G)) λn=>some n)=some (if i=0 then []else G++sep):=λR=>by
   rw[a];by_cases e:i=0
   ·subst e;rw[<-j];rfl
   simp_all
  have c2: ∀x:aE,x.length<=940000->zI (if i=0 then []else G++sep).length x.length=true:=λx p=>Eh (by
   grind)
  simp only[zN hi,Ca,zF hi,za,Aa,Zh,m,hS _ hm];rw[a];by_cases e:i=0
  ·have b:G=[]:=by rw[<-j,e];rfl
   have d2:=c2;rw[Ga e,La e]at*;simp only[Ab,Ba,zf,b];cases terms with
   |true=>simp only[Ca]at h2 ⊢;simp only[c2 _ h2,Zd,zf,zD hi (show l.length<=co by unfold co;omega)]
   |false=>simp only[Ba]at h2 ⊢;simp only[c2 _ h2,Zd,zf,zD hi (show l.length<=co by unfold co;omega)]
  ·rw[Ka e]at*;rw[Ma e];simp only[Va,Ca,c1,Zd,zf];cases terms with
   |true=>simp only[Ca]at h2 ⊢;simp only[c2 _ h2,Zd,zf,zD hi (show l.length<=co by unfold co;omega)]
   |false=>simp only[Ba]at h2 ⊢;simp only[c2 _ h2,Zd,zf,zD hi (show l.length<=co by unfold co;omega)]
 grind
end Go.Lv.VT
