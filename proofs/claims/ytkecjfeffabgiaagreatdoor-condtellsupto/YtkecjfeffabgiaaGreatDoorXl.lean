/- Conditions of @supports, told of: the program's reader. -/
import Derived.Test.YtkecjfeffabgiaaGreatDoorXk
set_option linter.unusedSimpArgs false
set_option linter.unusedVariables false
namespace Go.Lv.VT
theorem len0{α:Type}(l:List α):((l.length:Int)==0)=l.isEmpty:=by
 cases l with
 |nil=>rfl
 |cons a r=>exact Ia.2 (by simp only[Fa];omega)
theorem zDh{a:List zh}(h:szL a<=big):ol (a,a)=some true:=by
 refine ZX (fun x:List zh×List zh=>szL x.1) (fun x=>szL x.1<=big/\x.1=x.2) (fun x=>true) (fun S x hl hS=> ?_) (show szL (a,a).1<=big/\(a,a).1=(a,a).2 from⟨h,rfl⟩);obtain⟨l,l'⟩:=x;obtain⟨hl,he⟩:=hl;simp only at hl hS he;subst he;unfold IG;have hlen:=wh l;have hne:((l.length:Int) != (l.length:Int))=false:=by simp
 simp only[hne,Ba];refine(jJ l (fun i (_:Unit)=>(i:Int)) (fun v (_:Unit)=>some (.again ())) (fun _=>some (.out ())) (a:=()) rfl (fun i a hi=> ?_) (fun a=> ?_) (r:= .out ()) ?_)
 ·have hsz:=Vj (Kb hi);have hv2:=Dj l[i];have hs1:szL l[i].list<=big:=by omega
  have hs2:szL l[i].list<szL l:=by omega
  have hSq:S (l[i].list,l[i].list)=some true:=hS (l[i].list,l[i].list) ⟨hs1,rfl⟩ hs2;simp[hi,Zb hi,hSq,zX hi (by omega)]
 ·simp only[ql,Ba];rfl
 ·rw[vo (fun a v=>a) (fun v a=>rfl)]
theorem zAe{d:z8}(h:zL Zt d.value<=big):BA (d,d)=some true:=by unfold BA;have:=sw d.value;have e1:(d.name==d.name)=true:=Gf _;have e2:(d.important==d.important)=true:=Gf _;simp only[e1,e2,Ca,zu,zDh (show szL d.value<=big by omega),za,Aa]
set_option maxRecDepth 100000
theorem zEZ{n:Str}(h:n.length<=64):ZQ (n,false)=some (ZU n):=ay false (by omega)
theorem IY{md:Bool}{c:zg}(hz:zx (zn c)<=big)(hok:okW md c=true)(hn:sizC c<=100):zy c=some (wrC wrD c):=by
 refine ZX sizC (fun c=>zx (zn c)<=big/\okW md c=true/\sizC c<=100) (wrC wrD) (fun S c hc hS=> ?_) ⟨hz,hok,hn⟩;clear hz hok hn;obtain⟨hz,hs,hn⟩:=hc;have hsz:=dh c;have hme:=AY hz;have hzm: ∀y∈c.list,zx (zn y)<=big:=fun y hy=>by have:=ZA hy;omega
 rw[Gm]at hs;obtain⟨k,nm,m,d,l⟩:=c;unfold WG;rw[wrC,ky,CE];simp only at hs hsz hzm ⊢;cases h4:k==4 with
 |true=> rw[h4,Ca]at hs;simp only[Da,Eb]at hs;simp only[Ca,zEZ hs.2.2.2,za,Aa]
 |false=>
 have hnum:(k==5||k==6)=true-> ∃q:Nat,m=(q:Int)/\q<=1000000000000/\(numT m false).length<=20:=fun e=>by rw[h4,e,Ba,Ca]at hs;simp only[Da,Eb]at hs;exact⟨m.toNat,by omega,by omega,Ty hs.2.1 hs.2.2⟩
 cases h5:k==5 with
 |true=> obtain⟨q,rfl,hq,hl⟩:=hnum (by rw[h5];rfl);have c1:zO Sj.length (numT (q:Int) false).length=true:=yg (by simp only[Sj,Fa,Va];omega);have c2:zO (Sj++numT (q:Int) false).length pxW.length=true:=yg (by simp only[Ea,Sj,pxW,Fa,Va];omega);simp only[Ba,Ca,wV hq,za,Aa];exact(zo c1 _).trans (zo c2 _)
 |false=>
 cases h6:k==6 with
 |true=> obtain⟨q,rfl,hq,hl⟩:=hnum (by rw[h6,Fe]);have c3:zO Tj.length (numT (q:Int) false).length=true:=yg (by simp only[Tj,Fa,Va];omega);have c4:zO (Tj++numT (q:Int) false).length pxW.length=true:=yg (by simp only[Ea,Tj,pxW,Fa,Va];omega);simp only[Ba,Ca,wV hq,za,Aa];exact(zo c3 _).trans (zo c4 _)
 |false=>
 cases h7:k==7 with
 |true=> rw[h4,h5,h6,h7,Ba,Ue,Ba,Ca]at hs;simp only[Da,Eb]at hs;have hl:=H5 d hs.2.1 hs.2.2;have c1:zO ([40]:Str).length (wrD d).length=true:=yg (by simp only[Fa,Va];omega);have c2:zO (([40]:Str)++wrD d).length ([41]:Str).length=true:=yg (by simp only[Ea,Fa,Va];omega);simp only[Ba,Ca,zxG ⟨hs.2.2⟩ hs.2.1,za,Aa];exact(zo c1 _).trans (zo c2 _)
 |false=>
 cases h8:k==8 with
 |true=>rfl
 |false=>
  rw[h4,h5,h6,h7,h8,Ba,Ue,Ba,Ba,Ba]at hs;simp only[Da]at hs;obtain⟨hk,hall⟩:=hs;have hSy: ∀y∈l,S y=some (wrC wrD y):=fun y hy=>hS y ⟨hzm y hy,Ab.1 hall y hy,by have:=QO hy;omega⟩ (by have:=QO hy;omega);have hL: ∀y∈l,(wrC wrD y).length+10<=KW*sizC y:=fun y hy=>D5 H5 (Ab.1 hall y hy);cases h3:k==3 with
  |true=>
   rw[h3,Ca]at hk;obtain⟨y,rfl⟩: ∃y,l=[y]:=Ff.1 (eq_of_beq hk);have hm:=Ve y;have hg:geti [y] 0=some y:=rfl;have hl1:(wrC wrD y).length<=940000:=by have h1:=hL y hm;have h2:=QO hm;unfold KW at h1;omega
   have hw:=nR (hSy y hm) hl1;have hi:(bif Fg y then wrC wrD y else parW (wrC wrD y)).length<=940002:=by cases Fg y<;>simp only[Ca,Ba,iy]<;>omega
   have c1:zO ([110,111,116,32]:Str).length (wrC wrD y).length=true:=yg (by simp only[Fa,Va];omega);have c2:zO ([110,111,116,32]:Str).length (bif Fg y then wrC wrD y else parW (wrC wrD y)).length=true:=yg (by simp only[Fa,Va];omega);have hq:yB [y]=(y.kind==1&&qZ y):=rfl;simp only[Ba,Ca,hg,za,Aa,Zc,hSy y hm,hw,c1,c2,zF,hq,ib,Re,Yf];cases y.kind==1 with
   |false=>rfl
   |true=> simp only[zu,Aa,Zc,AY (hzm y hm),Ca,aa];cases qZ y<;>rfl
  |false=>
   have j1:=wE (sep:=cma2) (terms:=false) hSy (by decide) hL (by omega);have j2:=wE (sep:=or4) (terms:=true) hSy (by decide) hL (by omega);have j3:=wE (sep:=and5) (terms:=true) hSy (by decide) hL (by omega);have j4:=wE (sep:=and5) (terms:=false) hSy (by decide) hL (by omega);simp only[Ca,Ba]at j1 j2 j3 j4;have hem:((l.length:Int)==0)=l.isEmpty:=len0 l;simp only[Ba,hem];have hA: ∀(y:zg) (r:List zg),l=y::r->QK y=some (mg y):=fun y r e=>PX (hzm y (by rw[e];simp));have hco:zq (!l.isEmpty) (Xr ⟨k,nm,m,d,l⟩) (default:Bool)=some (!l.isEmpty&&qZ ⟨k,nm,m,d,l⟩):=by
    cases l.isEmpty with
    |true=>rfl
    |false=>simp only[Ra,zu,hme,aa]
   simp only[hco,za,Aa];have hE:(bif l.isEmpty then true else(!l.isEmpty&&qZ ⟨k,nm,m,d,l⟩))=(l.isEmpty||qZ ⟨k,nm,m,d,l⟩):=by cases l.isEmpty<;>rfl
   simp only[hE,<-Bool.or_assoc];generalize hQ:(l.isEmpty||qZ ⟨k,nm,m,d,l⟩)=Q;have hf:((zq (k==2&& !Q) (geti l 0) (default:zg)).bind fun y13=>(zq (k==2&& !Q) (QK (⟨y13.kind,y13.name,y13.num,y13.decl,y13.list⟩:zg)) (default:Bool)))=some ((k==2&& !Q)&&headA l):=by
    cases hb:(k==2&& !Q)with
    |false=>rfl
    |true=>
     cases l with
     |nil=>
      rw[Da]at hb;rw[<-hQ]at hb;cases hb.2
     |cons y r=> have hg:geti (y::r) 0=some y:=rfl;simp only[zu,hg,Aa,Zc,hA y r rfl,aa];rfl
   have hbind: ∀{α β:Type} (a:Option zg) (b:zg->Option Bool) (K:Bool->Option Str),(a.bind fun y13=>(b y13).bind K)=(a.bind b).bind K:=fun a b K=>by cases a<;>rfl
   rw[hbind (α:=Unit) (β:=Unit) _ (fun y13=>zq (k==2&& !Q) (QK (⟨y13.kind,y13.name,y13.num,y13.decl,y13.list⟩:zg)) (default:Bool)),hf,Aa];have hT:(bif Q then true else bif k==2 then((k==2&& !Q)&&headA l)else false)=(Q||(k==2&&headA l)):=by cases Q<;>cases k==2<;>rfl
   simp only[hT];simp only[show([44,32]:Str)=cma2 from rfl,show([32,111,114,32]:Str)=or4 from rfl,show([32,97,110,100,32]:Str)=and5 from rfl];cases hM:(Q||(k==2&&headA l))<;>cases h2:k==2<;>simp only[Ca,Ba,Ta,Ra,j1,j2,j3,j4,Aa]
def dH(c:zg):Str×Int:=bif !(ZE c||Zv c)then([],8)else bif decide (4000<(wrC wrD c).length)then([],28)else(wrC wrD c,0)
theorem zDy{wd wd':z8->Str}: ∀{c:zg},(∀d∈Za c,wd d=wd' d)->supT wd c=supT wd' c:=by
 have key: ∀(n:Nat) (c:zg),sizC c<=n->(∀d∈Za c,wd d=wd' d)->supT wd c=supT wd' c:=by
  intro n
  induction n with
  |zero=>intro c hc;have:=ji c;omega
  |succ n ih=>
   intro c hc h;have hsz:=dh c;rw[QL]at h;obtain⟨k,nm,m,d,l⟩:=c;rw[supT,supT,fu,fu];simp only at h hsz;cases h7:k==7 with
   |true=>rw[h7,Ca]at h;rw[h d (Ve _)];rfl
   |false=>
    rw[h7,Ba]at h;have hm:l.map (fun c=>bif Fg c then supT wd c else parW (supT wd c))=l.map (fun c=>bif Fg c then supT wd' c else parW (supT wd' c)):=
     Ye fun y hy=>by rw[ih y (by have:=QO hy;omega) fun d hd=>h d (Ae.2 ⟨y,hy,hd⟩)]
    rw[hm];rfl
 intro c h;exact key _ c (ja _) h
theorem X4{sep x:Str}: ∀{l:List Str},x∈l->x.length<=(jn sep l).length
 |[],h=>by cases h
 |y::r,h=>by
  rw[V8,Ea];rcases Rb.1 h with rfl|h
  ·omega
  ·have: ∀r:List Str,x∈r->x.length<=(Lib.joinTail sep r).length:=by
    intro r
    induction r with
    |nil=>intro h;cases h
    |cons z t ih=>
     intro h;have e:Lib.joinTail sep (z::t)=(sep++z)++Lib.joinTail sep t:=rfl;rw[e,Ea,Ea];rcases Rb.1 h with rfl|h
     ·omega
     ·have:=ih h;omega
   have:=this r h;omega
theorem zI2{wd:z8->Str}: ∀{c:zg},lfC c=true-> ∀d∈Za c,(wd d).length<=(supT wd c).length:=by
 have key: ∀(n:Nat) (c:zg),sizC c<=n->lfC c=true-> ∀d∈Za c,(wd d).length<=(supT wd c).length:=by
  intro n
  induction n with
  |zero=>intro c hc;have:=ji c;omega
  |succ n ih=>
   intro c hc hl d hd;have hsz:=dh c;rw[QL]at hd;rw[Hm]at hl;obtain⟨k,nm,m,d0,l⟩:=c;rw[supT,fu];simp only at hd hsz hl;cases h7:k==7 with
   |true=>rw[h7,Ca]at hd;rw[xc.1 hd];simp only[Ca,iy];omega
   |false=>
    rw[h7,Ba]at hd;obtain⟨y,hy,hd⟩:=Ae.1 hd;have hlf:(k==4||(k==5||(k==6||(k==7||k==8))))=false:=by
     cases e:(k==4||(k==5||(k==6||(k==7||k==8))))with
     |false=>rfl
     |true=>rw[e,Ca,Be]at hl;rw[hl]at hy;cases hy
    rw[hlf,Ba,Da]at hl;have h8:(k==8)=false:=by
     cases e:k==8 with
     |false=>rfl
     |true=>rw[e]at hlf;simp at hlf
    have h1:=ih y (by have:=QO hy;omega) (Ab.1 hl.2 y hy) d hd;have h2:(supT wd y).length<=(bif Fg y then supT wd y else parW (supT wd y)).length:=by cases Fg y<;>simp only[Ca,Ba,iy]<;>omega
    have hmem:(bif Fg y then supT wd y else parW (supT wd y))∈l.map (fun c=>bif Fg c then supT wd c else parW (supT wd c)):=Pb.2 ⟨y,hy,rfl⟩;have j1:=X4 (sep:=or4) hmem;have j2:=X4 (sep:=and5) hmem;cases h3:k==3 with
    |true=> rw[h3,Ca]at hl;obtain⟨z,rfl⟩: ∃z,l=[z]:=Ff.1 (eq_of_beq hl.1);obtain rfl:=xc.1 hy;simp only[h8,Ba,Ca,ib,Re,Yf,Ea];omega
    |false=>simp only[h8,Ba];cases k==2<;>simp only[Ca,Ba]<;>omega
 intro c hl;exact key _ c (ja _) hl
theorem P8(n:Nat):decide ((n:Int)>4000)=decide (4000<n):=by rw[Bg];omega
theorem zHH(n:Nat):decide ((n:Int)<=4000)= !decide (4000<n):=by
 by_cases h:4000<n
 ·rw[La (by omega),Ga h];rfl
 ·rw[Ga (by omega),La h];rfl
theorem zuT{c:zg}(hz:zx (zn c)<=big)(h:SmC c):Pz c=some (dH c):=by
 unfold Pz dH;simp only[Zc,OW hz,EN hz,za,Aa];cases hm:ZE c with
 |true=>
  have hw:medT c=wrC wrD c:=(zFT hm).symm;simp only[jc,Ca,bne_self_eq_false,Ba,Gf,zse (xQ hm) h.n,Aa,zk,Ta,P8,hw];cases decide (4000<(wrC wrD c).length)<;>rfl
 |false=>
  cases hs:Zv c with
  |false=>rfl
  |true=>
   have hsc:=KC hs;have hP:SupP c:=⟨hsc,h.n,h.d⟩;simp only[Xb,Ca,bne_self_eq_false,Ba,show((8:Int)==0)=false from rfl,znx hP,Aa,zk,Ta,P8];have hdP: ∀d∈Za c,Ng d=true:=MQ hsc;cases hl:(Za c).any lgD with
   |true=>
    obtain⟨d,hd,hdl⟩:=List.any_eq_true.1 hl;have hw:4000<(wrD d).length:=by
     by_cases q:4000<(wrD d).length
     ·exact q
     ·unfold lgD Nn at hdl;rw[Ka (hdP d hd),Ja q]at hdl;cases hdl
    have:=zI2 (wd:=wrD) (U4 hsc) d hd;rw[<-WO hsc]at this;rw[Ga (by omega:4000<(wrC wrD c).length)];rfl
   |false=>
    have e:supT wdP c=wrC wrD c:=by
     rw[WO hsc];refine zDy fun d hd=> ?_;have:=List.any_eq_false.1 hl d hd;unfold lgD Nn at this;unfold wdP Nn;rw[Ka (hdP d hd)]at this ⊢;by_cases q:4000<(wrD d).length
     ·rw[Ka q]at this;simp at this
     ·rw[Ja q]
    rw[e];simp only[Ue,Ba];cases decide (4000<(wrC wrD c).length)<;>rfl
theorem ztS{c:zg}(hz:zx (zn c)<=big)(h:SmC c):Uz c=some (dH c):=by
 unfold Uz dH;simp only[Zc,sM hz,MH hz,za,Aa];have hco:zq (!ZE c) (some (Zv c)) (default:Bool)=some (!ZE c&&Zv c):=by cases ZE c<;>rfl
 rw[hco,Aa];have hvv:(bif !ZE c then !(!ZE c&&Zv c)else false)= !(ZE c||Zv c):=by cases ZE c<;>cases Zv c<;>rfl
 rw[hvv];cases hv:ZE c||Zv c with
 |false=>rfl
 |true=>
  have hw:zy c=some (wrC wrD c):=by
   rw[Sb]at hv;rcases hv with hv|hv
   ·exact IY hz (xQ hv) h.n
   ·exact IY hz (X3 (KC hv) h.d) h.n
  simp only[Ta,Ba,hw,Aa,zHH];cases decide (4000<(wrC wrD c).length)<;>rfl
theorem zkm{c:zg}(h:zx (zn c)<=big):XB c=some (bif ZE c then 0 else 8):=by unfold XB;simp only[Zc,sM h,za,Aa];cases ZE c<;>rfl
theorem zhK{c:zg}(h:zx (zn c)<=big):QJ c=some (bif Zv c then 0 else 8):=by unfold QJ;simp only[Zc,MH h,za,Aa];cases Zv c<;>rfl
theorem IU{l:List z8}(hl:l.length<=big)(h: ∀d∈l,zL Zt d.value<=big):Jr (l,l)=some true:=by
 unfold Jr;simp only[bne_self_eq_false,Ba];refine(jm l.length (fun i=>(i:Int)) () rfl (fun i hi=> ?_) ?_).trans rfl
 ·simp only[Zr hi,Ca,Zb hi,za,Aa,zAe (h _ (Kb hi)),Ta,Ba,zX hi hl]
 ·simp only[ql,Ba]
theorem zAg{c:zg}(h:zx (zn c)<=big):Jr (Za c,Za c)=some true:=by
 have h1:=bJ c;have h2:=PD c;exact IU (by omega) fun d hd=>by have h3:=jS d hd;have h4:=Dr d;omega
theorem zuy{c:zg}{e:VEnv}{ys:List Bool}(h:zx (zn c)<=big)(hy:ys.length<=big):vG (c,e,ys)=some true:=by
 obtain⟨g,hg,hg2⟩:=zpS h;unfold vG;simp only[Zc,hg,za,Aa];cases hb:(bif g then true else decide ((ys.length:Int)>110))with
 |true=>rfl
 |false=>
  have hg0:g=false:=by cases g with|false=>rfl|true=>cases hb
  have hs:=hg2 hg0;simp only[Ba,zsa h,zq3 h,zsb h hy,zq4 h,zuT h hs,ztS h hs,EN h,zkm h,KN h,zhK h,Aa,Gf,zu,Ca];have hD:Jr ((bif Zv c then(Za c,(0:Int))else([],8)).1,(bif Zv c then(Za c,(0:Int))else([],8)).1)=some true:=by
   cases Zv c with
   |true=>exact zAg h
   |false=>exact IU (l:=[]) (by decide) (fun d hd=>by cases hd)
  rw[hD];rfl
end Go.Lv.VT
