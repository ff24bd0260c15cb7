/- What is read of the texts of declarations: their tokens, their values, and they themselves. -/
import Derived.Test.YtkecjfeffabgiaaGreatDoorXh
import Derived.Test.YtkecjfeffabgiaaGreatDoorXi
import Derived.Test.YtkecjfeffabgiaaGreatDoorXa
import Derived.Test.YtkecjfeffabgiaaGreatDoorXg
import Derived.Test.YtkecjfeffabgiaaGreatDoorXf
import Derived.Test.YtkecjfeffabgiaaGreatDoorXc
set_option linter.unusedSimpArgs false
set_option linter.unusedVariables false
namespace Go.Lv.VT
set_option maxRecDepth 100000
structure zKG (v:List zh):Prop where
 r:Bo (tokL v)
 h:Bu v
 e:wN v
structure Shp (v:List zh):Prop where
 s:shL v 0=true
 d:Hg v<=16
theorem zBi(a b:List zh):Hg (a++b)=max (Hg a) (Hg b):=by
 induction a with
 |nil=>rw[Vb,Hg];omega
 |cons v a ih=>rw[Bb,Hg,Hg,ih];omega
theorem Shp.app{a b:List zh}(ha:Shp a)(hb:Shp b):Shp (a++b):=⟨by rw[M6,ha.s,hb.s];rfl,by rw[zBi];have:=ha.d;have:=hb.d;omega⟩
theorem zJB{v:List zh}(h:szL v<=5000):okT (tokL v):=fun t ht=>by have:=ry v t ht;omega
structure SzD (d:z8):Prop where
 v:szL d.value<=big
 n:d.name.length<=big
theorem zJj{l:List z8}(h: ∀d∈l,SzD d)(hlen:l.length<=big): ∃g,GA l=some g/\(g=false->l.length<=40/\ ∀d∈l,d.name.length+szL d.value<=300):=by
 have hbig:big=4194304:=rfl;unfold GA;by_cases h40:40<l.length
 ·rw[Ga (by omega),Ca];exact⟨true,rfl,fun e=>by cases e⟩
 ·rw[La (by omega),Ba];refine eT (fun s=> ∃(i n:Nat),s=((n:Int),(i:Int))/\i<=l.length/\n<=300/\ ∀d∈l.take i,d.name.length+szL d.value<=300) (fun s=>l.length - s.2.toNat) (fun g=>g=false->l.length<=40/\ ∀d∈l,d.name.length+szL d.value<=300) ?_ ⟨0,0,rfl,by omega,by omega,(fun d hd=>by cases hd)⟩;rintro _ ⟨i,n,rfl,hi,hn,hlt⟩;simp only[za];rcases ic i l.length with hh|hh
  ·obtain⟨hv,hnm⟩:=h _ (Kb hh);obtain⟨r,hr,r0,r1,r2⟩:=size_le (m:=300) hv (by omega);replace hr:Qz (l[i].value,300)=some r:=hr;obtain⟨k,rfl⟩: ∃k:Nat,r=(k:Int):=⟨r.toNat,by omega⟩;have e2:w64 ((n:Int)+w64 ((l[i].name.length:Int)+(k:Int)))=((n+(l[i].name.length+k):Nat):Int):=by rw[zM (n:=(l[i].name.length:Int)+(k:Int)) (by omega) (by omega),zM (by omega) (by omega)];omega
   simp only[Zr hh,Ca,Zb hh,Aa,hr,e2];by_cases hb:n+(l[i].name.length+k)>300
   ·rw[Ga (show((n+(l[i].name.length+k):Nat):Int)>300 by omega)];simp only[Ta,zU,Aa,Ca];exact .inr (.inr ⟨true,rfl,fun e=>by cases e⟩)
   ·rw[La (show¬((n+(l[i].name.length+k):Nat):Int)>300 by omega)];simp only[Ra,zu,Aa,Ba,KJ hv];cases hd:decide ((Hg l[i].value:Int)>40)with
    |true=>exact .inr (.inr ⟨true,rfl,fun e=>by cases e⟩)
    |false=>
     refine .inl ⟨_,rfl,⟨i+1,n+(l[i].name.length+k),by rw[zM (by omega) (by omega)];rfl,by omega,by omega,?_⟩,by simp only;rw[zM (by omega) (by omega)];omega⟩;rw[jb hh];intro d hd;rcases Yd.1 hd with hd|hd
     ·exact hlt d hd
     ·rw[xc]at hd;subst hd;omega
  ·have:i=l.length:=by omega
   subst this;simp only[ql,Ba];rw[Oc]at hlt;exact .inr (.inl ⟨(),false,(by first|rfl|trivial),rfl,fun _=>⟨by omega,hlt⟩⟩)
theorem zAj{l:List z8}(h: ∀d∈l,d.name.length+szL d.value<=300): ∀d∈l,OkD d:=fun d hd=>by have hbig:big=4194304:=rfl;have:=h d hd;exact⟨by omega,by omega,zJB (by omega)⟩
theorem zq5{c:zg}(h:zx (zn c)<=big): ∃g,ik c=some g/\(g=false-> ∀d∈Za c,d.name.length+szL d.value<=300):=by
 refine IE zpl (fun c=>zx (zn c)) (fun c=>zx (zn c)<=big) (fun c g=>g=false-> ∀d∈Za c,d.name.length+szL d.value<=300) (fun S c hc hS=> ?_) h;have hd:=Wu (Gc (VF c) hc);obtain⟨g,hg,hg2⟩:=zJj (l:=[c.decl]) (fun d hd'=>by rw[xc.1 hd'];exact⟨hd.1,hd.2⟩) (by show 1<=big;decide);have hlen:=QA c;unfold Fw;rw[hg];simp only[za,Aa];cases hb:(bif g then true else decide ((c.name.length:Int)>200))with
 |true=>exact⟨true,rfl,fun e=>by cases e⟩
 |false=>
  have hg0:g=false:=by cases g with|false=>rfl|true=>cases hb
  have hsm:=(hg2 hg0).2 c.decl (Ve _);simp only[Ba];refine jE c.list.length (fun i (_:Unit)=>(i:Int)) (fun i _=> ∀y∈c.list.take i,∀d∈Za y,d.name.length+szL d.value<=300) _ (a0:=()) rfl (fun y hy=>by cases hy) (fun i _ hi hI=> ?_) (fun _ hI=> ?_)
  ·have hm:=Kb hi;obtain⟨r,hr,hr2⟩:=hS c.list[i] (by have:=ZA hm;omega) (ZA hm);simp only[Zr hi,Ca,Zb hi,Aa,Zc,hr];cases r with
   |true=>exact .inr (.inl ⟨true,rfl,fun e=>by cases e⟩)
   |false=>
    refine .inl ⟨(),?_,fun y hy=> ?_⟩
    ·simp only[Ba,zX hi (show c.list.length<=big by omega)]
    ·rw[jb hi]at hy;rcases Yd.1 hy with hy|hy
     ·exact hI y hy
     ·rw[xc.1 hy];exact hr2 rfl
  ·simp only[ql,Ba];refine .inl ⟨(),(by first|rfl|trivial),false,rfl,fun _ d hd=> ?_⟩;rw[Oc]at hI;rw[QL]at hd;cases h7:c.kind==7 with
   |true=>rw[h7,Ca]at hd;rw[xc.1 hd];exact hsm
   |false=> rw[h7,Ba]at hd;obtain⟨y,hy,hd⟩:=Ae.1 hd;exact hI y hy d hd
structure SmC (c:zg):Prop where
 n:sizC c<=100
 d: ∀d∈Za c,d.name.length+szL d.value<=300
theorem zpS{c:zg}(h:zx (zn c)<=big): ∃g,yz c=some g/\(g=false->SmC c):=by
 obtain⟨r,hr,_,_,h2⟩:=SX h (m:=100) (by decide);obtain⟨g,hg,hg2⟩:=zq5 h;have hr:qD (c,100)=some (r:Int):=hr;unfold yz;simp only[Zc,hr,hg,za,Aa];by_cases hq:r>100
 ·rw[Ga (by omega)];exact⟨true,rfl,fun e=>by cases e⟩
 ·rw[La (by omega)];exact⟨g,rfl,fun e=>⟨by by_cases hs:sizC c<=100;exact hs;have:=h2 (by omega);omega,hg2 e⟩⟩
theorem zAM(l:List Bool):l.length<=zx [.sl (l.map fun z=>[.at (.bool z)])]:=by have:=UO (f:=fun z:Bool=>[PV.at (.bool z)]) (fun v=>by simp only[zx,bPV];omega) l;simp only[zx,bPV];unfold zL at this;omega
theorem zCT {R:Type} {step:Str×Int->Option (LO (Str×Int) Str R)} {l acc:Str} (hl:l.length<=100000) (h0:1<=l.length)
  (h1: ∀(i:Nat) (a:Str) (hi:i<l.length),a.length<=acc.length+4*l.length->step (a,(i:Int))=some (.again (a++(bif letB l[i]then [l[i]]else escC l[i]),((i+1:Nat):Int))))
  (h2: ∀a,step (a,(l.length:Int))=some (.out a)):Mg step (acc,1)=some (.out (acc++encW false 0 (l.drop 1))):=by
 obtain⟨out,h,hg⟩:=MJ (fun _ c=>bif letB c then [c]else escC c) 1 hl h0 (fun _ c=>by have:=Kj c;cases letB c with|false=>exact this|true=>show 1<=4;omega) (fun i a hi _ ha=>h1 i a hi ha) h2;rw[show((1:Nat):Int)=(1:Int)from rfl]at h;rw[h,hg (fun _ r=>encW false 0 r) (fun _=>by rw[encW]) (fun _ c r=>by rw[encW];unfold pcW;simp)]
theorem at_n{s:Str}(n:Nat)(hs:s.length<=100000):zB (s,(n:Int))=some (((atS s n).toNat:Nat):Int):=by
 have h:=OP (n:=n) hs (Me s)
 rwa [show beh s s=0 by unfold beh;omega,Od]at h
theorem zIr(c:UInt8):((((Pk c.toNat:Nat):Int)==101):Bool)=(c==101||c==69):=by
 have: ∀n:Nat,n<256->((((Pk n:Nat):Int)==101):Bool)=(UInt8.ofNat n==101||UInt8.ofNat n==69):=by decide+kernel
 have h:=this c.toNat (Ib c)
 rwa [Yc]at h
theorem aN(b:UInt8):digN b.toNat=digB b:=by
 have: ∀n:Nat,n<256->digN n=digB (UInt8.ofNat n):=by decide+kernel
 have h:=this b.toNat (Ib b)
 rwa [Yc]at h
theorem Lm(c:UInt8)(r:Str):Aj (c::r)=((c==101||c==69)&&(digB (atS r 0)||(atS r 0==45&&digB (atS r 1)))):=by
 rw[kT,Rf];congr 1
 match r with
 |[]=>rfl
 |[b]=>
  rw[LK,aN,show atS [b] 0=b from rfl,show atS [b] 1=0 from rfl];by_cases hb:b=45
  ·subst hb;rfl
  ·rw[Ia.2 hb];show(digB b&& !([45,45]:Str).isPrefixOf [b])=(digB b||(false&&_));rw[show([45,45]:Str).isPrefixOf [b]=((45==b)&&false)from rfl];cases digB b<;>simp
 |b::d::t=>
  rw[LK,aN,show atS (b::d::t) 0=b from rfl,show atS (b::d::t) 1=d from rfl,show List.headD (d::t) 0=d from rfl,aN,show([45,45]:Str).isPrefixOf (b::d::t)=((45==b)&&((45==d)&&true))from rfl];by_cases hb:b=45
  ·subst hb;by_cases hd:d=45
   ·subst hd;rfl
   ·rw[Ia.2 (Ne.symm hd),show(d::t==[])=false from rfl,show digB 45=false from rfl];cases digB d<;>rfl
  ·rw[Ia.2 hb,Ia.2 (Ne.symm hb)];cases digB b<;>rfl
theorem zIl{w:Str}(h0:w≠[])(hl:w.length<=5000):Vz w=some (Vg w):=by
 cases w with
 |nil=>exact absurd rfl h0
 |cons c r=>
  have g0:geti (c::r) 0=some c:=rfl;have hs:qd (c.toNat:Int)=some ((Pk c.toNat:Nat):Int):=TS _ (Ib c);have a1:zB (c::r,1)=some (((atS r 0).toNat:Nat):Int):=at_n (s:=c::r) 1 (by omega);have a2:zB (c::r,2)=some (((atS r 1).toNat:Nat):Int):=at_n (s:=c::r) 2 (by omega);rw[Dn,Lm];unfold Vz;simp only[g0,hs,za,Aa,zIr,a1,a2,ay false hl,TH];have hN:encW (!false&&(c::r:Str)==[45]) (bif false then 0 else qm (c::r)) (c::r)=ZU (c::r):=rfl;rw[hN];cases he:c==101||c==69 with
  |false=>rfl
  |true=>
   have hloop: ∀step:Str×Int->Option (LO (Str×Int) Str Str),step=(fun(s10:Str×Int)=>
    bif decide (s10.2<((c::r:Str).length:Int))then
     zP (X:=Str×Int) (
       (geti (c::r) s10.2).bind fun y11=>
       (ZP (y11.toNat:Int)).bind fun y12=>
       bif y12 then
        need (decide (0<=s10.2)&&(decide (s10.2<=w64 (s10.2+1))&&decide (w64 (s10.2+1)<=((c::r:Str).length:Int))))<|
        need (zO s10.1.length (List.drop s10.2.toNat (List.take (w64 (s10.2+1)).toNat (c::r))).length)<|
        some (LX.out (s10.1++List.drop s10.2.toNat (List.take (w64 (s10.2+1)).toNat (c::r)),s10.2))
       else
        (geti (c::r) s10.2).bind fun y13=>
        need (zO s10.1.length (escC y13).length)<|
        some (LX.out (s10.1++escC y13,s10.2))) fun j15=>
     some (LO.again (j15.1,w64 (j15.2+1)))
    else
     some (LO.out s10.1))->Mg step (escC c,1)=some (.out (escC c++encW false 0 r)):=by
    rintro _ rfl;refine zCT (l:=c::r) (by omega) (by simp) (fun i a hi ha=> ?_) (fun a=> ?_)
    ·have hec:=Kj c;have d1:decide ((i:Int)<((c::r:Str).length:Int))=true:=Ga (by omega);have hso:zO a.length ([(c::r)[i]]:Str).length=true:=zV.2 (by rw[Jb];omega);have hse:zO a.length (escC (c::r)[i]).length=true:=zV.2 (by have:=Kj (c::r)[i];omega);simp only[d1,Ca,Zb hi,Aa,WE,TH];cases letB (c::r)[i]with
     |true=>simp only[Ca,Nt (show i<=1000000 by omega),Oa,GJ hi,xJ hi,zF,hso,zk]
     |false=>simp only[Ba,hse,zF,zk,Nt (show i<=1000000 by omega)]
    ·have d1:decide (((c::r:Str).length:Int)<((c::r:Str).length:Int))=false:=La (by omega);simp only[d1,Ba]
   simp only[zu,Aa,Tk,Lb,Ca,aa];cases h1:digB (atS r 0)with
   |true=> simp only[Ta,Ec,zU,Aa,Ca,jc];rw[Zk (hloop _ rfl)]
   |false=>
    simp only[Ra,zu,Aa,b_45,Lb,Ba,Xb];cases h2:atS r 0==45 with
    |true=>
     simp only[zu,Aa,Tk,Ca,aa];cases h3:digB (atS r 1)with
     |true=> simp only[Ca];rw[Zk (hloop _ rfl)]
     |false=>rfl
    |false=>rfl
theorem zCh: ∀n:Nat,n<12->geti ([[32],[60,33,45,45],[45,45,62],[58],[59],[44],[91],[93],[40],[41],[123],[125]]:List Str) (wu8 ((13+n:Int) - 13))=some (Rn (13+n:Int)):=by decide+kernel
theorem FD{t:ze}(hf:Og t=true)(h1:t.text.length<=5000)(h2:t.unit.length<=5000):Kr t=some (txS t):=by
 have hN:ZQ (t.text,false)=some (ZU t.text):=ay false h1;have hnl: ∀l:Str,l.length<=5000->(ZU l).length<=20000:=fun l hl=>by have:=Lj (l==[45]) (qm l) l;unfold ZU;omega
 have so: ∀a b:Nat,a<=100000->b<=100000->zO a b=true:=fun a b ha hb=>zV.2 (by omega);have hT: ∀p, -1000000000000<=t.num/\t.num<=1000000000000->(numT t.num p).length<=25:=fun p h=>(Xn h.1 h.2 p).1;unfold Kr txS;simp only[za];cases k1:t.kind==1 with
 |true=>simp only[Ca,hN,Aa]
 |false=>
 cases k2:t.kind==2 with
 |true=> simp only[Ca,Ba,hN,Aa];rw[zo (so _ _ (by have:=hnl t.text h1;omega) (by show 1<=100000;omega))]
 |false=>
 cases k3:t.kind==3 with
 |true=> simp only[Ca,Ba,hN,Aa];rw[zo (so _ _ (by show 1<=100000;omega) (by have:=hnl t.text h1;omega))];rfl
 |false=>
 cases k4:t.kind==4 with
 |true=>
  simp only[Ca,Ba,ay _ h1,Aa];have he: ∀b k,(encW b k t.text).length<=20000:=fun b k=>by have:=Lj b k t.text;omega
  rw[zo (so _ _ (by show 1<=100000;omega) (by have:=he (!!t.flag&&t.text==[45]) (bif !t.flag then 0 else qm t.text);omega))];cases t.flag<;>rfl
 |false=>
 cases k5:t.kind==5 with
 |true=> simp only[Ca,Ba,YS _ h1,Aa];have:=om quoB t.text;rw[zo (so _ _ (by show 1<=100000;omega) (by omega)),zo (so _ _ (by rw[Ea];show 1+(encB quoB t.text).length<=100000;omega) (by show 1<=100000;omega)),Na];rfl
 |false=>
 cases k7:t.kind==7 with
 |true=> simp only[Ca,Ba,YS _ h1,Aa];have:=om urB t.text;rw[zo (so _ _ (by show 4<=100000;omega) (by omega)),zo (so _ _ (by rw[Ea];show 4+(encB urB t.text).length<=100000;omega) (by show 1<=100000;omega)),Na]
 |false=>
 cases k9:t.kind==9 with
 |true=>rfl
 |false=>
 have rng:(t.kind==10||t.kind==11||t.kind==12)=true->rngS t=true/\(!(t.unit==[])==(t.kind==12))=true:=by intro hk;unfold Og at hf;simp only[k1,k2,k3,k4,k5,k7,k9,hk,Ue,Ba,Ca,Da]at hf;exact⟨hf.1,hf.2.1⟩
 have nums:rngS t=true-> -1000000000000<=t.num/\t.num<=1000000000000:=by intro hr;unfold rngS at hr;simp only[Da,Eb]at hr;exact⟨hr.1,hr.2.1⟩
 cases k10:t.kind==10 with
 |true=> obtain⟨r1,r2⟩:=nums (rng (by rw[k10];rfl)).1;simp only[Ca,Ba,WK r1 r2,Aa]
 |false=>
 cases k11:t.kind==11 with
 |true=> have hr:=nums (rng (by rw[k11,Fe];rfl)).1;simp only[Ca,Ba,WK hr.1 hr.2,Aa];rw[zo (so _ _ (by have:=hT false hr;omega) (by show 1<=100000;omega))]
 |false=>
 cases k12:t.kind==12 with
 |true=>
  obtain⟨hr',hu⟩:=rng (by rw[k12,Fe]);have hr:=nums hr';have h0:t.unit≠[]:=by intro h;rw[h,k12]at hu;exact absurd hu (by decide)
  simp only[Ca,Ba,WK hr.1 hr.2,zIl h0 h2,Aa];have hul:(Vg t.unit).length<=20004:=by
   cases hw:t.unit with
   |nil=>exact Mc _
   |cons c r=>
    rw[hw]at h2;rw[Dn];cases Aj (c::r)with
    |true=> rw[Ca,Ea];have:=Kj c;have:=Lj false 0 r;rw[Fa]at h2;omega
    |false=>have:=hnl _ h2;rw[Ba];omega
  rw[zo (so _ _ (by have:=hT (!t.flag) hr;omega) (by omega))]
 |false=>
 obtain⟨hk1,hk2⟩:=RU hf k1 k2 k3 k4 k5 k7 k9 k10 k11 k12;obtain⟨n,hn⟩: ∃n:Nat,t.kind=13+(n:Int):=⟨(t.kind - 13).toNat,by omega⟩;have hg:=zCh n (by omega);rw[<-hn]at hg;simp only[Ba,hg,Aa]
def kw(k:Int):Nat:=if k=10\/k=11\/k=12 then 30 else 10
theorem AC(k:Int):10<=kw k/\kw k<=30:=by unfold kw;split<;>omega
theorem MZ{t:ze}(hf:Og t=true):(txS t).length+4<=4*(t.text.length+t.unit.length)+kw t.kind:=by
 have hn: ∀l:Str,(ZU l).length<=4*l.length:=fun l=>Lj (l==[45]) (qm l) l;cases Mq hf with
 |cId l h0 h=>rw[Vp];have:=hn l;show _<=4*(l.length+0)+10;omega
 |cFn l h0 h=>rw[Am,Ea];have:=hn l;simp only[Jb];show _<=4*(l.length+0)+10;omega
 |cAt l h0 h=>rw[Wp,Fa];have:=hn l;show _<=4*(l.length+0)+10;omega
 |cHash l f h0 h hbb=>
  rw[Oq,Fa];have h3:=hn l;have h4:=Lj false 0 l;show _<=4*(l.length+0)+10;cases f with
  |true=>rw[show Yh true l=ZU l from rfl];omega
  |false=>rw[show Yh false l=encW false 0 l from rfl];omega
 |cStr l h=>rw[dn];have:=om quoB l;show _<=4*(l.length+0)+10;simp only[Fa,Ea,Va];omega
 |cUrl l h=>rw[Bq];have:=om urB l;show _<=4*(l.length+0)+10;simp only[Fa,Ea,Va];omega
 |cDel c h=>rw[Gq];show _<=4*(1+0)+10;simp only[Fa,Va];omega
 |cNum n f g1 g2 hf=>rw[Dq];have:=(Xn g1 g2 (!f)).1;show _<=4*(0+0)+30;omega
 |cPct n g1 g2=>rw[Cq,Ea,Jb];have:=(Xn g1 g2 false).1;show _<=4*(0+0)+30;omega
 |cDim n u f g1 g2 hf h0 h=>
  rw[Fq,Ea];have:=(Xn g1 g2 (!f)).1;have hu:(Vg u).length<=4*u.length:=by
   cases u with
   |nil=>exact Mc _
   |cons c r=>
    rw[Dn];cases Aj (c::r)with
    |true=> rw[Ca,Ea];have:=Kj c;have:=Lj false 0 r;rw[Fa];omega
    |false=>exact hn _
  show _<=4*(0+u.length)+30;omega
 |cMark k g1 g2=>rw[Nq g1 g2];have:=MK k;have:=(AC k).1;show _<=4*(0+0)+kw k;omega
theorem RN{t:ze}(hf:Og t=true):(txS t).length<=4*(t.text.length+t.unit.length)+30:=by have:=MZ hf;have:=AC t.kind;omega
theorem zER{S X R:Type}{step:S->Option (LO S X R)}{a b:S}{x:X}(h1:step a=some (.again b))(h2:step b=some (.out x)):Mg step a=some (.out x):=by obtain⟨n,h⟩:=rF (r:= .out x) h1 ⟨1,by simp only[Z7,h2]⟩;exact QY h
theorem J9{S X R:Type}{step:S->Option (LO S X R)}{a b c:S}{x:X}(h1:step a=some (.again b))(h2:step b=some (.again c))(h3:step c=some (.out x)):Mg step a=some (.out x):=by obtain⟨n,h⟩:=rF (r:= .out x) h1 (rF h2 ⟨1,by simp only[Z7,h3]⟩);exact QY h
theorem zFn{t:ze}{r:List ze}(h:Bo (t::r)):JA (t::r)=some (((pcN (t::r):Nat):Int),pcS ((t::r).take (pcN (t::r)))):=by
 have hft:=h.1 t (Ac ..);have ho:=h.2 0 (by simp);rw[Tg,JK,Da]at ho;have g0:geti (t::r) 0=some t:=rfl;unfold JA;have hbig:big=4194304:=rfl;simp only[g0,za,Aa,UK (show t.text.length<=big by omega) (show([117,114,108]:Str).length<=big by decide),show lowS [117,114,108]=[117,114,108] by decide+kernel,FD hft.1 hft.2.1 hft.2.2];rw[yu];cases hd:(t.kind==9&&t.text==[92])with
 |true=>
  have:(bif t.kind==9 then t.text==[92]else false)=true:=by rw[Da]at hd;rw[hd.1,hd.2];rfl
  rw[this,Ca,Ka rfl];rw[hd,Ta,Xb]at ho;cases r with
  |nil=>exact absurd ho.1 (by decide)
  |cons s r=> rw[show(t::s::r).take 2=[t,s]from rfl,show pcS [t,s]=if t.kind==9&&t.text==[92]then [92,10]else catT [t,s]from rfl,hd];rfl
 |false=>
  have:(bif t.kind==9 then t.text==[92]else false)=false:=by
   cases h9:t.kind==9
   ·rfl
   ·rw[h9]at hd;exact hd
  rw[this,Ba,Ja (by decide)];have hpc: ∀m:List ze,pcS (t::m)=txS t++catT m:=fun m=>by rw[show pcS (t::m)=if t.kind==9&&t.text==[92]then [92,10]else catT (t::m)from rfl,hd,Ja (by decide)];rfl
  cases hu:ug t with
  |false=>
   have: ∀o:Bool,o=(bif t.kind==2 then lowS t.text==[117,114,108]else false)->o=false:=by
    rintro _ rfl;unfold ug at hu;cases h2:t.kind==2
    ·rfl
    ·rw[h2]at hu;exact hu
   have hcond:((zq (t.kind==2) (some (lowS t.text==[117,114,108])) (default:Bool)).bind fun y2=>(some (bif t.kind==2 then y2 else false):Option Bool))=some false:=by
    unfold ug at hu;cases h2:t.kind==2
    ·rfl
    ·rw[h2]at hu;simp only[zu,Aa,Ca];rw[show(lowS t.text==[117,114,108])=false from hu]
   have hc2: ∃y2,zq (t.kind==2) (some (lowS t.text==[117,114,108])) (default:Bool)=some y2/\(bif t.kind==2 then y2 else false)=false:=by
    cases hc:zq (t.kind==2) (some (lowS t.text==[117,114,108])) (default:Bool)with
    |none=>rw[hc]at hcond;cases hcond
    |some y2=>rw[hc]at hcond;exact⟨y2,rfl,Option.some.inj hcond⟩
   obtain⟨y2,e1,e2⟩:=hc2;rw[e1,Aa,e2,Ba,Ja (by decide),show(t::r).take 1=[t]from rfl,hpc,show catT []=[]from rfl,Db];rfl
  |true=>
   have hu':=hu;unfold ug at hu';rw[Da]at hu';rw[hu'.1,hu'.2];simp only[zu,Aa,Ca,Ee];rw[hu,Ta,Xb]at ho;have ho2:=ho.2;have tl:=RN hft.1;have k2:(t.kind != 5)=true:=by have:=ma.1 hu'.1;rw[this];rfl
   have so: ∀a b:Nat,a<=100000->b<=100000->zO a b=true:=fun a b ha hb=>zV.2 (by omega);cases r with
   |nil=>cases ho2
   |cons s r=>
    have hfs:=h.1 s (by simp);have sl:=RN hfs.1;have w11:w64 (1 - 1)=0:=by decide
    have w21:w64 (2 - 1)=1:=by decide
    have w31:w64 (3 - 1)=2:=by decide
    have w12:w64 (1+1)=2:=by decide
    have w23:w64 (2+1)=3:=by decide
    have g0:geti (t::s::r) 0=some t:=rfl;have g1:geti (t::s::r) 1=some s:=rfl;cases hs:s.kind==13 with
    |false=>
     rw[Mv,hs,Ba]at ho2;have k5:(s.kind != 5)=false:=by rw[ma.1 ho2];rfl
     have hn:Ii (s::r)=false:=hs;rw[hn,Ja (by decide),Zk (zER (b:=(2,txS t++txS s)) (x:=(2,txS t++txS s)) ?_ ?_),show(t::s::r).take 2=[t,s]from rfl,hpc]
     ·show some ((2:Int),txS t++txS s)=some (2,txS t++(txS s++[]));rw[Db]
     ·simp only[w11,g0,g1,Aa,k2,Ca,FD hfs.1 hfs.2.1 hfs.2.2,w12];rw[zo (so _ _ (by omega) (by omega))]
     ·simp only[w21,g1,Aa,k5,Ba]
    |true=>
     have k13:(s.kind != 5)=true:=by rw[ma.1 hs];rfl
     have hn:Ii (s::r)=true:=hs;rw[Mv,hs,Ca]at ho2;cases r with
     |nil=>cases ho2
     |cons u r=>
      have ho3:(u.kind==5)=true:=ho2;have k5:(u.kind != 5)=false:=by rw[ma.1 ho3];rfl
      have hfu:=h.1 u (by simp);have ul:=RN hfu.1;have g2:geti (t::s::u::r) 2=some u:=rfl;have g1:geti (t::s::u::r) 1=some s:=rfl;have g0:geti (t::s::u::r) 0=some t:=rfl;have hn:Ii (s::u::r)=true:=hs;rw[hn,Ka rfl,Zk (J9 (b:=(2,txS t++txS s)) (c:=(3,txS t++txS s++txS u)) (x:=(3,txS t++txS s++txS u)) ?_ ?_ ?_),show(t::s::u::r).take 3=[t,s,u]from rfl,hpc]
      ·show some ((3:Int),txS t++txS s++txS u)=some (3,txS t++(txS s++(txS u++[])));rw[Db,Na]
      ·simp only[w11,g0,g1,Aa,k2,Ca,FD hfs.1 hfs.2.1 hfs.2.2,w12];rw[zo (so _ _ (by omega) (by omega))]
      ·simp only[w21,g1,g2,Aa,k13,Ca,FD hfu.1 hfu.2.1 hfu.2.2,w23];rw[zo (so _ _ (by rw[Ea];omega) (by omega))]
      ·simp only[w31,g2,Aa,k5,Ba]
def wtS:List ze->Nat
 |[]=>0
 |t::r=>4*(t.text.length+t.unit.length)+kw t.kind+wtS r
theorem uw: ∀a b:List ze,wtS (a++b)=wtS a+wtS b
 |[],b=>by rw[Vb,wtS,Od]
 |t::a,b=>by rw[Bb,wtS,wtS,uw a b];omega
theorem VO: ∀{l:List ze},(∀t∈l,Og t=true)->(catT l).length+4*l.length<=wtS l
 |[],_=>ja _
 |t::r,h=>by have:=MZ (h t (Ac ..));have:=VO (l:=r) (fun u hu=>h u (Cc _ hu));rw[catT,wtS,Ea,Fa];omega
theorem zC0{x:List ze}(hrest:Bo x)(hw:wtS x<=9000)(hlen:x.length<=1500):Iw x=some (wrS x):=by
 unfold Iw;simp only[za];refine Vl (fun z=> ∃(i:Nat) (b:Str) (n:Nat),z=(b,(i:Int))/\i<=x.length/\b.length+wtS (x.drop i)<=9000/\x.length - i<=n/\wrF n (x.take i) b (x.drop i)=wrS x) (fun z=>x.length - z.2.toNat) _ ?_
  ⟨0,[],x.length,rfl,Mc _,by rw[Tg,Va];omega,ja _,rfl⟩
 rintro _ ⟨i,b,n,rfl,hi,hbl,hn,hW⟩;simp only;rcases ic i x.length with h|h
 ·have hro:=kR hrest i;have hdr:x.drop i=x[i]::x.drop (i+1):=Cb h;obtain⟨t,ht⟩: ∃t,t=x[i]:=⟨_,rfl⟩;obtain⟨r,hr⟩: ∃r,r=x.drop (i+1):=⟨_,rfl⟩;rw[<-ht,<-hr]at hdr;rw[hdr]at hro hW hbl;have hlr:(t::r).length=x.length - i:=by rw[<-hdr,Dc]
  obtain⟨hk1,hpc⟩:=Y7 hro;have hk0:=ND (t:=t) (r:=r);have hk3:=V7 (t:=t) (r:=r);have hp3:=zFn hro;obtain⟨k,hk⟩: ∃k,pcN (t::r)=k:=⟨_,rfl⟩;obtain⟨P,hP⟩: ∃P,(t::r).take k=P:=⟨_,rfl⟩;obtain⟨s,hs⟩: ∃s,pcS P=s:=⟨_,rfl⟩;have hst':=OJ (t:=t) (r:=r);have hstep:=fun m=>RP (n:=m) (ts:=x.take i) (b:=b) (t:=t) (r:=r) (s:=s) (P:=P) (by rw[hk];exact hP) hs;rw[hk]at hk0 hk1 hk3 hpc hst' hstep hp3;rw[hP]at hpc hst' hp3;rw[hs]at hpc hst' hp3;rw[hlr]at hk1;have e1:decide ((i:Int)<(x.length:Int))=true:=Ga (by omega);have e2:(decide ((0:Int)<=(i:Int))&&decide ((i:Int)<=(x.length:Int)))=true:=by rw[Ga (by omega),Ga (by omega)];rfl
  have e4:w64 ((i:Int)+((k:Nat):Int))=((i+k:Nat):Int):=by rw[zM (by omega) (by omega)];omega
  have e5:(decide ((0:Int)<=((i+k:Nat):Int))&&decide (((i+k:Nat):Int)<=(x.length:Int)))=true:=by rw[Ga (by omega),Ga (by omega)];rfl
  have hPf: ∀u∈P,Og u=true:=fun u hu=>(hro.1 u (by rw[<-hP]at hu;exact Lf hu)).1;have hPlen:P.length=k:=by rw[<-hP,Lc];omega
  have hwP:wtS (t::r)=wtS P+wtS ((t::r).drop k):=by rw[<-uw,<-hP,ig]
  have hsl:s.length+4<=wtS P:=by
   have hc:=VO hPf;rw[hst'];cases hb:t.kind==9&&t.text==[92]with
   |true=> rw[Ca];obtain⟨q,hq⟩: ∃q,P=t::q:=⟨r.take (k - 1),by rw[<-hP,show k=(k - 1)+1 by omega,Md];rfl⟩;rw[hq,wtS];have:=AC t.kind;show 2+4<=_;omega
   |false=>rw[Ba];omega
  have hxt:List.take (i+k) x=x.take i++P:=by rw[List.take_add,hdr,hP]
  obtain⟨sp,hcut⟩:=zKA (s:=b++s) (by rw[Ea];omega);have htl:=EJ (b++s);rw[Ea]at htl;have hbig:big=4194304:=rfl;have hso:zO b.length s.length=true:=zV.2 (by omega);have hso4:zO b.length ([47,42,42,47]:Str).length=true:=zV.2 (by show((b.length+4:Nat):Int)<=_;omega);have hdi:List.drop i x=t::r:=hdr;simp only[e1,e2,Ca,zF,Oa,hdi,hp3,Aa,hso,hcut,e4,e5,hxt,same_eq (show(Qc (b++s)).length<=big by omega),hso4];obtain⟨c,hc⟩: ∃c,c=jg (Qc (b++s)) (x.take i++P):=⟨_,rfl⟩;rw[<-hc];have hj:((bif !c then some (LX.out (b++[47,42,42,47],(i:Int)))else some (LX.out (b,(i:Int)))):Option (LX (Str×Int) (LO (Str×Int) Str Str)))=some (LX.out (if c then b else b++cmtW,(i:Int))):=by cases c<;>rfl
  rw[hj,zk];have hbc:(if c then b else b++cmtW).length<=b.length+4:=by
   split
   ·omega
   ·rw[Ea];show b.length+4<=_;omega
  simp only[e4];rw[zo (zV.2 (by omega))];obtain⟨m,hm⟩: ∃m,n=m+1:=⟨n - 1,by omega⟩;subst hm;rw[hstep m,<-hc]at hW;refine .inl ⟨_,rfl,⟨i+k,_,m,rfl,by omega,?_,by omega,?_⟩,?_⟩
  ·rw[<-Td,hdr,Ea];omega
  ·rw[hxt,<-hW,<-Td,hdr]
  ·simp only[Oa];omega
 ·have:i=x.length:=by omega
  subst this;have e1:decide ((x.length:Int)<(x.length:Int))=false:=La (by omega);simp only[e1,Ba];refine .inr (.inl ⟨_,rfl,?_⟩);rw[Xd (ja _)]at hW;cases n with
  |zero=>rw[wrF]at hW;rw[hW]
  |succ n=>rw[wrF]at hW;rw[hW]
mutual
theorem zIH: ∀v:zh,wtS (tokV v)<=30*szV v
 |⟨t,l⟩=>by
  rw[tokV,szV];have h1:=uC l;have h2:=AC t.kind;split
  ·rw[wtS,wtS];omega
  ·rename_i h0;rw[wtS,uw,wtS,wtS];have h3:kw t.kind=10:=by unfold kw;rw[Ja];rintro(q|q|q)<;>exact h0 (by rw[q];rfl)
   have h4:kw (Z6 t.kind)=10:=by
    unfold Z6;split
    ·rfl
    split
    ·rfl
    split<;>rfl
   simp only[h3,h4,Va];omega
theorem uC: ∀l:List zh,wtS (tokL l)<=30*szL l
 |[]=>by rw[tokL,wtS];exact Mc _
 |v::r=>by rw[tokL,szL,uw];have:=zIH v;have:=uC r;omega
end
theorem G5: ∀(n:Nat) (ts:List ze) (b:Str) (r:List ze),(∀t∈r,Og t=true)->(wrF n ts b r).length<=b.length+wtS r
 |0,_,b,r,_=>by rw[wrF];omega
 |n+1,_,b,[],_=>by rw[wrF,wtS];omega
 |n+1,ts,b,t::r,h=>by
  rw[wrF];have hk0:=ND (t:=t) (r:=r);have ih:=G5 n (ts++(t::r).take (pcN (t::r))) ((if jg (Qc (b++pcS ((t::r).take (pcN (t::r))))) (ts++(t::r).take (pcN (t::r)))then b else b++cmtW)++pcS ((t::r).take (pcN (t::r)))) ((t::r).drop (pcN (t::r))) (fun u hu=>h u (List.mem_of_mem_drop hu));have hw:wtS (t::r)=wtS ((t::r).take (pcN (t::r)))+wtS ((t::r).drop (pcN (t::r))):=by rw[<-uw,ig]
  have hc:=VO (l:=(t::r).take (pcN (t::r))) (fun u hu=>h u (Lf hu));have hp:(pcS ((t::r).take (pcN (t::r)))).length+4<=wtS ((t::r).take (pcN (t::r))):=by
   rw[OJ];obtain⟨k,hk⟩: ∃k,pcN (t::r)=k+1:=⟨pcN (t::r) - 1,by omega⟩;rw[hk,Md]at hc ⊢;rw[Fa]at hc;have:=AC t.kind;cases t.kind==9&&t.text==[92]with
   |true=>rw[Ca,wtS];simp only[Fa,Va];omega
   |false=>rw[Ba];omega
  have hb:(if jg (Qc (b++pcS ((t::r).take (pcN (t::r))))) (ts++(t::r).take (pcN (t::r)))then b else b++cmtW).length<=b.length+4:=by
   split
   ·omega
   ·rw[Ea];exact ja _
  rw[Ea]at ih;omega
structure SmD (d:z8):Prop where
 s:d.name.length+szL d.value<=300
theorem SmD.ok{d:z8}(h:SmD d):OkD d:=zAj (l:=[d]) (fun x hx=>by rw[xc.1 hx];exact h.s) d (Ve _)
theorem E5{d:z8}(h:SmD d)(hd:Ng d=true):(wrS (tokL d.value)).length<=9000:=by have h1:=G5 (tokL d.value).length [] [] (tokL d.value) (uJ (WC hd).glu).2.1;have h2:=uC d.value;have:=h.s;rw[Va]at h1;unfold wrS;omega
theorem zKg{d:z8}(h:SmD d)(hd:Ng d=true):(wrD d).length<=9300:=by have h1:=E5 h hd;have h2:=Ez d.name;have h3:=(aO (WC hd).name).2.1;unfold wrD;rw[Ea,Ea,Ea];cases d.important<;>simp only[Ca,Ba,Fa,Va]<;>omega
theorem zxG{d:z8}(h:SmD d)(hd:Ng d=true):uA d=some (wrD d):=by
 have hbig:big=4194304:=rfl;have hsm:=h.s;obtain⟨h1,h2,h3,_⟩:=WC hd;have hn:=(aO h1).2.1;have hl:=Ez d.name;have hw:=E5 h hd;have hN:ZQ (d.name,false)=some (ZU d.name):=ay false (by omega);have hwt:=uC d.value;have hlen:=Rq d.value;have hW:Iw (tokL d.value)=some (wrS (tokL d.value)):=zC0 (zJY h3 h.ok.t) (by omega) (by omega);have c1:zO (ZU d.name).length ([58,32]:Str).length=true:=zV.2 (by simp only[Fa,Va];omega);have c2:zO (ZU d.name++([58,32]:Str)).length (wrS (tokL d.value)).length=true:=zV.2 (by simp only[Ea,Fa,Va];omega);have c3:zO (ZU d.name++([58,32]:Str)++wrS (tokL d.value)).length impT.length=true:=zV.2 (by simp only[Ea,Fa,Va];omega);unfold uA wrD;simp only[hN,za,Aa,c1,wK h.ok.v,hW,c2,c3,zF];cases d.important with
 |true=>rfl
 |false=>simp only[Ba,zk,Db]
theorem zHD(sep:Str)(a:List Str)(x:Str):jn sep (a++[x])=(if a=[]then []else jn sep a++sep)++x:=by
 cases a with
 |nil=>rw[Ka rfl];exact Lib.join_one x sep
 |cons y r=> rw[Ja (by simp)];show Lib.join (y::(r++[x])) sep=Lib.join (y::r) sep++sep++x;rw[Lib.join_cons,Lib.join_cons];unfold Lib.joinTail;rw[Te,List.flatten_append];simp
theorem V8(sep x:Str)(r:List Str):jn sep (x::r)=x++Lib.joinTail sep r:=Lib.join_cons x r sep
theorem XR{K:Nat}{f:zg->Str}{sep:Str}(hs:sep.length<=5): ∀{l:List zg},(∀y∈l,(f y).length+8<=K*sizC y)->(Lib.joinTail sep (l.map f)).length+3*l.length<=K*(l.map sizC).sum
 |[],_=>Mc _
 |y::r,h=>by have ih:=XR hs (l:=r) fun z hz=>h z (by simp[hz]);have hy:=h y (by simp);have e:Lib.joinTail sep ((y::r).map f)=(sep++f y)++Lib.joinTail sep (r.map f):=rfl;rw[e,Ea,Ea,ib,Ke,Nat.mul_add,Fa];omega
theorem kD{K:Nat}{f:zg->Str}{sep:Str}(hs:sep.length<=5){l:List zg}(h: ∀y∈l,(f y).length+8<=K*sizC y):(jn sep (l.map f)).length<=K*(l.map sizC).sum:=by
 cases l with
 |nil=>exact Mc _
 |cons y r=> have ih:=XR hs (l:=r) fun z hz=>h z (by simp[hz]);have hy:=h y (by simp);rw[ib,V8,Ea,ib,Ke,Nat.mul_add];omega
mutual
def okW(md:Bool):zg->Bool
 |⟨k,n,m,d,l⟩=>bif k==4 then md&&(!n.isEmpty&&(Zz n&&decide (n.length<=64)))else bif k==5||k==6 then md&&(decide (0<=m)&&decide (m<=1000000000000))else
  bif k==7 then !md&&(Ng d&&decide (d.name.length+szL d.value<=300))else bif k==8 then !md else(bif k==3 then l.length==1 else k==1||k==2)&&okWs md l
def okWs(md:Bool):List zg->Bool
 |[]=>true
 |c::r=>okW md c&&okWs md r
end
theorem VQ(md:Bool): ∀l:List zg,okWs md l=l.all (okW md)
 |[]=>by rw[okWs];rfl
 |c::r=>by rw[okWs,VQ md r];rfl
theorem Gm(md:Bool)(c:zg):okW md c=bif c.kind==4 then md&&(!c.name.isEmpty&&(Zz c.name&&decide (c.name.length<=64)))else bif c.kind==5||c.kind==6 then md&&(decide (0<=c.num)&&decide (c.num<=1000000000000))else
  bif c.kind==7 then !md&&(Ng c.decl&&decide (c.decl.name.length+szL c.decl.value<=300))else bif c.kind==8 then !md else(bif c.kind==3 then c.list.length==1 else c.kind==1||c.kind==2)&&c.list.all (okW md):=by
 obtain⟨⟩:=c;rw[okW,VQ]
theorem zH2{f:Bool}{y:zg}(h:Dh f y=true):okW true y=true:=by
 unfold Dh at h;simp only[Da,Sb]at h;rw[Gm];rcases h.2.2 with⟨_,h4,_,hm⟩|⟨hk,_,h0,hN⟩
 ·unfold medS keyS at hm;simp only[Da,He,Xe]at hm;obtain⟨⟨hne,_⟩,hl,_,hn⟩:=hm;have he:y.name.isEmpty=false:=by
   cases hx:y.name with
   |nil=>rw[hx]at hne;cases hne
   |cons a b=>rfl
  rw[h4,hn,hl,he];rfl
 ·unfold isN at hN;rw[Da]at hN;have h4:(y.kind==4)=false:=by rcases hk with e|e<;>rw[eq_of_beq e]<;>rfl
  have h56:(y.kind==5||y.kind==6)=true:=by rw[Sb];exact hk
  rw[h4,h56,h0,hN.2];rfl
theorem wQ{c:zg}(h:qZ c=true):okW true c=true:=by unfold qZ at h;simp only[Da,ma]at h;rw[Gm,h.1];exact Ab.2 fun y hy=>let⟨_,e⟩:=bz h.2.2.2 hy;zH2 e
theorem zH0{c:zg}(h:mg c=true):okW true c=true:=by
 unfold mg at h;cases h3:c.kind==3 with
 |false=>rw[h3]at h;exact wQ h
 |true=>
  rw[h3,Ca,Da]at h;have:=h.2;revert this;rw[Gm,eq_of_beq h3];cases hl:c.list with
  |nil=>intro h;cases h
  |cons y r=>
   cases r with
   |nil=> intro hq;simp only[Da]at hq;simp[wQ hq.1]
   |cons z r=>intro hq;cases hq
theorem xQ{c:zg}(h:ZE c=true):okW true c=true:=by
 unfold ZE at h;simp only[Da,Sb,ma,Be,Ab]at h;rw[Gm];rcases h.2 with⟨hk,hl⟩|⟨hk,_,_,hl⟩
 ·rw[hk,hl];rfl
 ·rw[hk];exact Ab.2 fun y hy=>zH0 (hl y hy)
theorem X3: ∀{c:zg},supC c=true->(∀d∈Za c,d.name.length+szL d.value<=300)->okW false c=true:=by
 have key: ∀(n:Nat) (c:zg),sizC c<=n->supC c=true->(∀d∈Za c,d.name.length+szL d.value<=300)->okW false c=true:=by
  intro n
  induction n with
  |zero=>intro c hc;have:=ji c;omega
  |succ n ih=>
   intro c hc hs hd;rw[Kl]at hs;rw[Gm];rw[QL]at hd;have hsz:=dh c;cases h7:c.kind==7 with
   |true=> rw[h7,Ca]at hs hd;simp only[Da]at hs;have e:=eq_of_beq h7;rw[e,hs.2.2.2,Ga (hd c.decl (Ve _))];rfl
   |false=>
    rw[h7,Ba]at hs hd;cases h8:c.kind==8 with
    |true=>rw[eq_of_beq h8];rfl
    |false=>
     rw[h8,Ba]at hs;simp only[Da]at hs;obtain⟨hk,_,hl,hall⟩:=hs;have h4:(c.kind==4)=false/\(c.kind==5||c.kind==6)=false:=by simp only[Sb,ma]at hk;rcases hk with e|e|e<;>rw[e]<;>exact⟨rfl,rfl⟩
     have ha:c.list.all (okW false)=true:=Ab.2 fun y hy=>ih y (by have:=QO hy;omega) (Ab.1 hall y hy) fun d h=>hd d (Ae.2 ⟨y,hy,h⟩);rw[h4.1,h4.2,ha,Ba,Ba,Ba,Ba,Lb];cases h3:c.kind==3 with
     |true=>rw[h3]at hl;exact hl
     |false=>rw[h3,Xb]at hk;exact hk
 intro c hs hd;exact key _ c (ja _) hs hd
abbrev KW:Nat:=9400
theorem iy(s:Str):(parW s).length=s.length+2:=by unfold parW;rw[Ea,Fa,Jb]
theorem Ty{n:Int}(h0:0<=n)(h:n<=1000000000000):(numT n false).length<=20:=by obtain⟨m,rfl⟩: ∃m:Nat,n=(m:Int):=⟨n.toNat,by omega⟩;have hm:m%1000<1000:=Uf _ (by omega);have:=NJ 10 (m / 1000) (dotB (bk3 (m%1000)));have h2:=H8 hm;rw[WQ (by omega)]at this;unfold numT;rw[Ja (by omega),Vb];show(Ug m false).length<=20;omega
theorem lD{c:zg}{s:Str}(h:s.length+10<=KW*sizC c):(bif Fg c then s else parW s).length+8<=KW*sizC c:=by
 cases Fg c with
 |true=>simp only[Ca];omega
 |false=>simp only[Ba,iy];omega
theorem D5{md:Bool}{wd:z8->Str}(hw: ∀d,Ng d=true->d.name.length+szL d.value<=300->(wd d).length<=9300): ∀{c:zg},okW md c=true->(wrC wd c).length+10<=KW*sizC c:=by
 have key: ∀(n:Nat) (c:zg),sizC c<=n->okW md c=true->(wrC wd c).length+10<=KW*sizC c:=by
  intro n
  induction n with
  |zero=>intro c hc;have:=ji c;omega
  |succ n ih=>
   intro c hc hs;have hsz:=dh c;have hp:=ji c;rw[Gm]at hs;obtain⟨k,nm,m,d,l⟩:=c;rw[wrC];simp only at hs hsz;unfold KW;cases h4:k==4 with
   |true=> rw[h4,Ca]at hs;simp only[Da,Eb]at hs;have:=Ez nm;simp only[Ca];omega
   |false=>
   cases h5:k==5 with
   |true=> rw[h4,h5,Ba,jc,Ca]at hs;simp only[Da,Eb]at hs;have:=Ty hs.2.1 hs.2.2;simp only[Ba,Ca,Ea,Sj,pxW,Fa,Va];omega
   |false=>
   cases h6:k==6 with
   |true=> rw[h4,h5,h6,Ba,Fe,Ca]at hs;simp only[Da,Eb]at hs;have:=Ty hs.2.1 hs.2.2;simp only[Ba,Ca,Ea,Tj,pxW,Fa,Va];omega
   |false=>
   cases h7:k==7 with
   |true=> rw[h4,h5,h6,h7,Ba,Ue,Ba,Ca]at hs;simp only[Da,Eb]at hs;have:=hw d hs.2.1 hs.2.2;simp only[Ba,Ca,iy];omega
   |false=>
   cases h8:k==8 with
   |true=>simp only[Ba,Ca,unkW,Fa,Va];omega
   |false=>
    rw[h4,h5,h6,h7,h8,Ba,Ue,Ba,Ba,Ba]at hs;simp only[Da,Ab]at hs;have hm: ∀y∈l,(wrC wd y).length+10<=KW*sizC y:=fun y hy=>ih y (by have:=QO hy;omega) (hs.2 y hy);have hj: ∀sep:Str,sep.length<=5->(jn sep (l.map (wrC wd))).length<=KW*(l.map sizC).sum:=fun sep h5=>kD h5 fun y hy=>by have:=hm y hy;omega
    have hi: ∀sep:Str,sep.length<=5->(jn sep (l.map fun c=>bif Fg c then wrC wd c else parW (wrC wd c))).length<=KW*(l.map sizC).sum:=fun sep h5=>kD h5 fun y hy=>lD (hm y hy);rw[ky,CE];unfold KW at hj hi hm;cases h3:k==3 with
    |true=>
     rw[h3,Ca]at hs;obtain⟨y,rfl⟩: ∃y,l=[y]:=Ff.1 (eq_of_beq hs.1);have h1:=hm y (by simp);have h2:=lD (c:=y) h1;unfold KW at h2;simp only[ib,Re,Ke,List.sum_nil]at hsz;simp only[Ba,Ca,ib,Re,Yf];cases yB [y]with
     |true=>simp only[Ca,Ea,nt4,Fa,Va];omega
     |false=>simp only[Ba,Ea,nt4,Fa,Va];omega
    |false=> have q1:=hj cma2 (by decide);have q2:=hj and5 (by decide);have q3:=hi or4 (by decide);have q4:=hi and5 (by decide);simp only[Ba];cases (l.isEmpty||(qZ ⟨k,nm,m,d,l⟩||(k==2&&headA l)))<;>cases k==2<;>simp only[Ca,Ba]<;>omega
 intro c hs;exact key _ c (ja _) hs
theorem H5: ∀d,Ng d=true->d.name.length+szL d.value<=300->(wrD d).length<=9300:=fun _ h1 h2=>zKg ⟨h2⟩ h1
theorem zJN{sep:Str}{g:zg->Str}{l:List zg}{i:Nat}(hi:i<l.length):jn sep ((l.take (i+1)).map g)=(if i=0 then []else jn sep ((l.take i).map g)++sep)++g l[i]:=by
 rw[jb hi,Te,ib,Re,zHD];congr 1;by_cases h:i=0
 ·subst h;rw[mf];rfl
 ·rw[Ja h,Ja];intro e;have:=congrArg List.length e;rw[Fb,Lc,Va]at this;omega
theorem II{g:zg->Str}{sep:Str}(hs:sep.length<=5){l:List zg}(h: ∀y∈l,(g y).length+8<=KW*sizC y)(hn:(l.map sizC).sum<=100)(i:Nat):(jn sep ((l.take i).map g)).length<=940000:=by have h1:=kD (K:=KW) hs (l:=l.take i) fun y hy=>h y (Lf hy);have h2:=bv sizC l i;unfold KW at h1;omega
theorem yH{g:zg->Str}{l:List zg}(h: ∀y∈l,(g y).length+8<=KW*sizC y)(hn:(l.map sizC).sum<=100){y:zg}(hy:y∈l):(g y).length<=940000:=by have h1:=h y hy;have h2:=QO hy;unfold KW at h1;omega
theorem gD: ∀l:List zg,l.length<=(l.map sizC).sum
 |[]=>ja _
 |c::r=>by have:=gD r;have:=ji c;rw[ib,Ke,Fa];omega
theorem fV{S:zg->Option Str}{f:zg->Str}{l:List zg}{sep:Str}(hS: ∀y∈l,S y=some (f y))(hs:sep.length<=5)(h: ∀y∈l,(f y).length+8<=KW*sizC y)(hn:(l.map sizC).sum<=100):
  Kv S (l,sep)=some (jn sep (l.map f)):=by
 have hlen:=gD l;unfold Kv;refine(jm l.length (fun i=>((i:Int),(l.take i).map f)) (l.map f) rfl (fun i hi=> ?_) ?_).trans ?_
 ·have hm:=Kb hi;have ha:Zj ((l.take i).map f).length 1 16=true:=oq (by rw[Fb,Lc];omega);simp only[Zr hi,Ca,Zb hi,za,Aa,Zc,hS _ hm,ha,zF,zX hi (show l.length<=big by unfold big;omega)];rw[jb hi,Te];rfl
 ·simp only[ql,Ba,Oc]
 ·have hj:=II hs h hn l.length;rw[Oc]at hj;have hj:(Lib.join (l.map f) sep).length<=940000:=hj;have hb:(Nat.ble (l.map f).length 1000000&&Nat.ble (Lib.join (l.map f) sep).length 1000000000)=true:=by rw[Fb,bg (by omega),bg (by omega)];rfl
  unfold Bl;simp only[hb,zF,za,Aa];rfl
theorem K7: ∀{c:zg},okW true c=true->(medT c).length+10<=KW*sizC c:=by
 have key: ∀(n:Nat) (c:zg),sizC c<=n->okW true c=true->(medT c).length+10<=KW*sizC c:=by
  intro n
  induction n with
  |zero=>intro c hc;have:=ji c;omega
  |succ n ih=>
   intro c hc hs;have hsz:=dh c;have hp:=ji c;rw[Gm]at hs;obtain⟨k,nm,m,d,l⟩:=c;rw[medT,Fz];simp only at hs hsz;unfold KW;cases h4:k==4 with
   |true=> rw[h4,Ca]at hs;simp only[Da,Eb]at hs;have:=Ez nm;simp only[Ca];omega
   |false=>
    have hm:(k==5||k==6)=false-> ∀y∈l,(medT y).length+10<=KW*sizC y:=fun e y hy=>ih y (by have:=QO hy;omega) (by
     rw[h4,e,Ba,Ba]at hs;cases h7:k==7 with
     |true=>rw[h7]at hs;cases hs
     |false=>
     cases h8:k==8 with
     |true=>rw[h7,h8]at hs;cases hs
     |false=>
      rw[h7,h8,Ba,Ba,Da]at hs;exact Ab.1 hs.2 y hy)
    have hj:(k==5||k==6)=false-> ∀sep:Str,sep.length<=5->(jn sep (l.map medT)).length<=KW*(l.map sizC).sum:=fun e sep h5=>kD h5 fun y hy=>by have:=hm e y hy;omega
    unfold KW at hj hm;have no: ∀q:Int,(k==q)=true->q=1\/q=2\/q=3->(k==5||k==6)=false:=fun q e h=>by rw[eq_of_beq e];rcases h with rfl|rfl|rfl<;>rfl
    cases h3:k==3 with
    |true=> have e:=no 3 h3 (.inr (.inr rfl));have k3:=eq_of_beq h3;subst k3;have hs:(l.length==1&&l.all (okW true))=true:=hs;rw[Da]at hs;obtain⟨y,rfl⟩: ∃y,l=[y]:=Ff.1 (eq_of_beq hs.1);have h1:=hm e y (by simp);simp only[ib,Re,Ke,List.sum_nil]at hsz;simp only[Ba,Ca,ib,Re,Yf,Ea,nt4,Fa,Va];omega
    |false=>
    cases h2:k==2 with
    |true=>have:=hj (no 2 h2 (.inr (.inl rfl))) cma2 (by decide);simp only[Ba,Ca];omega
    |false=>
    cases h1:k==1 with
    |true=>have:=hj (no 1 h1 (.inl rfl)) and5 (by decide);simp only[Ba,Ca];omega
    |false=>
     have h56:(k==5||k==6)=true:=by
      cases e:(k==5||k==6)with
      |true=>rfl
      |false=> rw[h4,e,h3,h2,h1]at hs;cases h7:k==7<;>cases h8:k==8<;>rw[h7,h8]at hs<;>cases hs
     rw[h4,h56,Ba,Ca]at hs;simp only[Da,Eb]at hs;have:=Ty hs.2.1 hs.2.2;simp only[Ba];cases k==5<;>simp only[Ca,Ba,Ea,Sj,Tj,pxW,Fa,Va]<;>omega
 intro c hs;exact key _ c (ja _) hs
theorem yg{a b:Nat}(h:a+b<=10000000):zO a b=true:=zV.2 (by omega)
theorem zse{c:zg}(hok:okW true c=true)(hn:sizC c<=100):ZK c=some (medT c):=by
 refine ZX sizC (fun c=>okW true c=true/\sizC c<=100) medT (fun S c hc hS=> ?_) ⟨hok,hn⟩;obtain⟨hs,hn⟩:=hc;have hsz:=dh c;have hlen0:=K7 hs;have hs0:=hs;rw[Gm]at hs;obtain⟨k,nm,m,d,l⟩:=c;unfold uF;rw[medT,Fz]at hlen0 ⊢;simp only at hs hsz ⊢;cases h4:k==4 with
 |true=> rw[h4,Ca]at hs;simp only[Da,Eb,He]at hs;simp only[Ca,l8 (show nm.length<=1000 by omega),hs.2.1,hs.2.2.1,Ta,Ue,za,Aa];rfl
 |false=>
  have hch:(k==5||k==6)=false->l.all (okW true)=true:=fun e=>by
   rw[h4,e,Ba,Ba]at hs;cases h7:k==7 with
   |true=>rw[h7]at hs;cases hs
   |false=>
   cases h8:k==8 with
   |true=>rw[h7,h8]at hs;cases hs
   |false=> rw[h7,h8,Ba,Ba,Da]at hs;exact hs.2
  have no: ∀q:Int,(k==q)=true->q=1\/q=2\/q=3->(k==5||k==6)=false:=fun q e h=>by rw[eq_of_beq e];rcases h with rfl|rfl|rfl<;>rfl
  have hSy:(k==5||k==6)=false-> ∀y∈l,S y=some (medT y):=fun e y hy=>hS y ⟨Ab.1 (hch e) y hy,by have:=QO hy;omega⟩ (by have:=QO hy;omega);have hLy:(k==5||k==6)=false-> ∀y∈l,(medT y).length+8<=KW*sizC y:=fun e y hy=>by have:=K7 (Ab.1 (hch e) y hy);omega
  cases h3:k==3 with
  |true=> have e:=no 3 h3 (.inr (.inr rfl));have k3:=eq_of_beq h3;subst k3;have hs:(l.length==1&&l.all (okW true))=true:=hs;rw[Da]at hs;obtain⟨y,rfl⟩: ∃y,l=[y]:=Ff.1 (eq_of_beq hs.1);have hSy:=hSy e y (by simp);have hl:=yH (g:=medT) (hLy e) (by simp only[ib,Re,Ke,List.sum_nil]at hsz ⊢;omega) (Ve y);have hg:geti [y] 0=some y:=rfl;have c1:zO ([110,111,116,32]:Str).length (medT y).length=true:=yg (by simp only[Fa,Va];omega);simp only[Ba,Ca,hg,za,Aa,Zc,hSy,c1,zF];rfl
  |false=>
  cases h2:k==2 with
  |true=> have e:=no 2 h2 (.inr (.inl rfl));have:=fV (sep:=cma2) (hSy e) (by decide) (hLy e) (by omega);simp only[Ba,Ca,show([44,32]:Str)=cma2 from rfl,this,za,Aa]
  |false=>
  cases h1:k==1 with
  |true=> have e:=no 1 h1 (.inl rfl);have:=fV (sep:=and5) (hSy e) (by decide) (hLy e) (by omega);simp only[Ba,Ca,show([32,97,110,100,32]:Str)=and5 from rfl,this,za,Aa]
  |false=>
   have h56:(k==5||k==6)=true:=by
    cases e:(k==5||k==6)with
    |true=>rfl
    |false=> rw[h4,e,h3,h2,h1]at hs;cases h7:k==7<;>cases h8:k==8<;>rw[h7,h8]at hs<;>cases hs
   rw[h4,h56,Ba,Ca]at hs;simp only[Da,Eb]at hs;have hl:=Ty hs.2.1 hs.2.2;obtain⟨q,rfl⟩: ∃q:Nat,m=(q:Int):=⟨m.toNat,by omega⟩;have c1:zO Sj.length (numT (q:Int) false).length=true:=yg (by simp only[Sj,Fa,Va];omega);have c2:zO (Sj++numT (q:Int) false).length pxW.length=true:=yg (by simp only[Ea,Sj,pxW,Fa,Va];omega);have c3:zO Tj.length (numT (q:Int) false).length=true:=yg (by simp only[Tj,Fa,Va];omega);have c4:zO (Tj++numT (q:Int) false).length pxW.length=true:=yg (by simp only[Ea,Tj,pxW,Fa,Va];omega);simp only[Ba,zqw (show q<=1000000000000 by omega),za,Aa];cases k==5
   ·exact(zo c3 _).trans (zo c4 _)
   ·exact(zo c1 _).trans (zo c2 _)
end Go.Lv.VT
