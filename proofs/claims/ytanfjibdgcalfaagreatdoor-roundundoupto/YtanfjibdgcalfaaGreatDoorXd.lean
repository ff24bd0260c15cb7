/- The statement about the edits of sheets: the law. -/
import Derived.Test.YtanfjibdgcalfaaGreatDoorXc
import Derived.Test.YtanfjibdgcalfaaGreatDoorTx
set_option linter.unusedSimpArgs false
set_option linter.unusedVariables false
namespace Go.Lv.VT
theorem kD{α:Type}(f:α->List PV): ∀(a b:List α),zL f (a++b)=zL f a+zL f b
 |[],b=>by rw[Wl,Ad,Xb]
 |v::a,b=>by rw[Gd,Qx,Qx,kD f a b];omega
theorem Hy: ∀(a b:List zC),qo (a++b)=qo a+qo b
 |[],b=>by rw[Ad,qo,Xb]
 |v::a,b=>by rw[Gd,qo,qo,Hy a b];omega
theorem jD{α:Type}(f:α->Nat): ∀(a b:List α),mx f (a++b)=max (mx f a) (mx f b)
 |[],b=>by rw[Ad,mx,Nat.zero_max]
 |v::a,b=>by rw[Gd,mx,mx,jD f a b];omega
def putS(l:List zC)(i:Nat)(r:zC):List zC:=l.take i++[r]++l.drop i
theorem kS(l:List zC)(i:Nat)(r:zC):zL zD (putS l i r)=zL zD l+zI (zD r):=by have:=kD zD (l.take i) (l.drop i);rw[yc]at this;rw[putS,kD,kD,Qx,Wl];omega
theorem zLk(l:List zC)(i:Nat)(r:zC):qo (putS l i r)=qo l+numR r:=by
 have:=Hy (l.take i) (l.drop i);rw[yc]at this;rw[putS,Hy,Hy];have e:qo [r]=numR r:=by rw[qo,qo,Lc]
 omega
theorem UT{l:List zC}{i:Nat}{r:zC}(h1:Rf l=true)(h2:Rf [r]=true):Rf (putS l i r)=decide (qo l+numR r<=64):=by
 unfold Rf at h1 h2 ⊢;rw[zLk];simp only[Fa,Cb]at h1 h2;obtain⟨_,a1,a2⟩:=h1;obtain⟨_,b1,b2⟩:=h2;have e1:(putS l i r).all qj=true:=by have:=a1;rw[<-yc i l,List.all_append,Fa]at this;rw[putS,List.all_append,List.all_append,this.1,this.2,b1];rfl
 have e2:mx Ve (putS l i r)<=16:=by have:=jD Ve (l.take i) (l.drop i);rw[yc]at this;rw[putS,jD,jD];omega
 rw[e1,Ha e2];cases decide (qo l+numR r<=64)<;>rfl
theorem zLm{α:Type}(l:List α)(i:Nat)(hi:i<=l.length)(z r:α):(l.take i++(List.replicate (l.length+1) z).drop (l.take i).length).set i r=l.take i++r::List.replicate (l.length - i) z:=by
 have hl:(l.take i).length=i:=by simp;omega
 rw[hl,List.drop_replicate,show l.length+1 - i=(l.length - i)+1 by omega,Pe,List.set_append_right _ _ (by omega),hl,Nat.sub_self,List.set_cons_zero]
theorem zLl{α:Type}(l:List α)(i:Nat)(hi:i<=l.length)(z r:α):(l.take i++r::List.replicate (l.length - i) z).take (i+1)++l.drop i++(l.take i++r::List.replicate (l.length - i) z).drop (i+1+(l.drop i).length)=l.take i++[r]++l.drop i:=by
 have hl:(l.take i).length=i:=by simp;omega
 have e1:(l.take i++r::List.replicate (l.length - i) z).take (i+1)=l.take i++[r]:=by rw[List.take_append,Cf (by omega),hl,show i+1 - i=1 by omega];rfl
 have e2:(l.take i++r::List.replicate (l.length - i) z).drop (i+1+(l.drop i).length)=[]:=Cc.2 (by simp;omega);rw[e1,e2,Td]
theorem zNb{α:Type}(l:List α)(i:Nat)(hi:i<=l.length)(z r:α):(l.take i++r::List.replicate (l.length - i) z).length=l.length+1:=by simp;omega
theorem Sy{l:List zC}(h:zL zD l<=big):Gl ⟨l⟩=some (bif Rf l then 0 else 8):=by unfold Gl;simp only[cO h,za,Ba]
theorem zGN{r:zC}(hb:zL zD [r]<=big):xB r=some (bif Rf [r]then 0 else 8):=by unfold xB;simp only[ZB,yh,cO hb,za,Ba]
theorem zGO{r:zC}(hb:zL zD [r]<=big):DC r=some (bif Rf [r]then 0 else 8):=by unfold DC;simp only[ZB,yh,UH (s:=⟨[r]⟩) hb,za,Ba]
def ND(l:List zC)(r:zC)(a:Int):ZN×Int:=
 bif Rf l&&Rf [r]then
  bif decide (0<=a)&&decide (a<=(l.length:Int))then
   bif decide (qo l+numR r<=64)then(⟨putS l a.toNat r⟩,0)else(⟨[]⟩,18)
  else(⟨[]⟩,2)
 else(⟨[]⟩,8)
def OD(l:List zC)(a:Int):ZN×Int:=
 bif Rf l then
  bif decide (0<=a)&&decide (a<(l.length:Int))then(⟨l.take a.toNat++l.drop (a.toNat+1)⟩,0)
  else(⟨[]⟩,2)
 else(⟨[]⟩,8)
theorem nS{a n:Int}(h: ¬(0<=a/\a<=n)):(bif decide (a<0)then true else decide (a>n))=true:=by
 by_cases h0:a<0
 ·rw[Ha h0];rfl
 ·rw[Oa h0,Ca];exact Ha (by omega)
theorem OU{i n:Nat}(h:i<=n):(bif decide ((i:Int)<0)then true else decide ((i:Int)>(n:Int)))=false:=by rw[Oa (by omega),Ca];exact Oa (by omega)
theorem zM6{a n:Int}(h: ¬(0<=a/\a<n)):(bif decide (a<0)then true else decide (a>=n))=true:=by
 by_cases h0:a<0
 ·rw[Ha h0];rfl
 ·rw[Oa h0,Ca];exact Ha (by omega)
theorem zLc{i n:Nat}(h:i<n):(bif decide ((i:Int)<0)then true else decide ((i:Int)>=(n:Int)))=false:=by rw[Oa (by omega),Ca];exact Oa (by omega)
theorem bV(b:Bool):((bif b then(0:Int)else 8) != 0)= !b:=by cases b<;>rfl
theorem O7{l:List zC}{r:zC}{a:Int}(h:zL zD l+zI (zD r)<=big):az (⟨l⟩,r,a)=some (ND l r a):=by
 have hb:zL zD [r]<=big:=by rw[Qx,Wl];omega
 have hlen:=ZL vg l;unfold az;simp only[ZB,yh,Sy (show zL zD l<=big by omega),zGN hb,za,Ba,bV,zM];unfold ND;cases h1:Rf l with
 |false=>rfl
 |true=>
  cases h2:Rf [r]with
  |false=>rfl
  |true=>
   simp only[Va,Ra,Da,Ca,Jd];by_cases hr:0<=a/\a<=(l.length:Int)
   ·obtain⟨i,rfl⟩:=De hr.1;have hi:i<=l.length:=by omega
    have e0:w64 ((l.length:Int)+1)=((l.length+1:Nat):Int):=by rw[w64,Z6 (by omega) (by unfold big at h;omega)];omega
    have e1:w64 ((i:Int)+1)=((i+1:Nat):Int):=by rw[w64,Z6 (by omega) (by unfold big at h;omega)];omega
    have hput:=kS l i r;have hck:Gl ⟨l.take i++[r]++l.drop i⟩=some (bif decide (qo l+numR r<=64)then 0 else 8):=by rw[<-UT (i:=i) h1 h2];exact Sy (l:=putS l i r) (by omega)
    have htw:Bi (l.take i++[r]++l.drop i)=some (l.take i++[r]++l.drop i):=yN (l:=putS l i r) (by omega);have hl:(l.take i).length=i:=by simp;omega
    have c1:decide ((l.take i).length<=(List.replicate (l.length+1) (⟨0,[],[],(⟨0,[],0,(⟨[],[],false⟩:Za),[]⟩:zm),[],[]⟩:zC)).length)=true:=Ha (by simp;omega);have c2:decide (((l.length+1:Nat):Int)<=((l.length+1:Nat):Int))=true:=Ha (Int.le_refl _);have c2b:decide (((l.length+1:Nat):Int)*208<=140737488355328)=true:=Ha (by unfold big at h;omega);have c2c:decide (((l.length+1:Nat):Int)<=9223372036854775807)=true:=Ha (by unfold big at h;omega);have c3:decide ((i:Int)<=(l.length:Int))=true:=Ha (by omega);have c4:decide ((i:Int)<=(i:Int))=true:=Ha (by omega);have c5:decide ((i:Int)=(i:Int))=true:=Ha rfl;have hz:(l.take i++(List.replicate (l.length+1) (⟨0,[],[],(⟨0,[],0,(⟨[],[],false⟩:Za),[]⟩:zm),[],[]⟩:zC)).drop (l.take i).length).length=l.length+1:=by simp;omega
    have c6:decide ((i:Int)<((l.length+1:Nat):Int))=true:=Ha (by omega);have c7:decide (((i+1:Nat):Int)<=((l.length+1:Nat):Int))=true:=Ha (by omega);have c8:decide ((l.drop i).length<=l.length+1 - (i+1))=true:=Ha (by simp);have c9:decide (i+1+(l.length+1 - (i+1))<=l.length+1)=true:=Ha (by omega);have hat: ∀q:List zC,q.length=l.length+1-> ∃y,q[i]? =some y:=fun q hq=>⟨q[i],Ma (by omega)⟩;obtain⟨y,hy⟩:=hat _ hz;simp only[OU hi,Ca,e0,e1,Lb,c1,c2,c2b,c2c,c3,c4,decide_true,nn,Jd,ZU,hz,c6,hy,Ba,zLm l i hi,zNb l i hi,c7,c8,c9,zLl l i hi,hck,htw,Da,putS];cases decide (qo l+numR r<=64)<;>rfl
   ·have hb2:(decide (0<=a)&&decide (a<=(l.length:Int)))=false:=by
     cases h3:(decide (0<=a)&&decide (a<=(l.length:Int)))with
     |false=>rfl
     |true=>rw[Fa,Cb,Cb]at h3;exact absurd h3 hr
    rw[nS hr,hb2];rfl
theorem zOf(l:List zC)(i:Nat):zL zD (l.take i++l.drop (i+1))<=zL zD l:=by refine dJ ?_;have h2:(l.take i++l.drop (i+1)).Sublist (l.take i++l.drop i):=(List.append_sublist_append_left _).2 (List.drop_sublist_drop_left l (Nat.le_succ i));rw[yc]at h2;exact h2
theorem P7{l:List zC}{a:Int}(h:zL zD l<=big):bz (⟨l⟩,a)=some (OD l a):=by
 have hlen:=ZL vg l;unfold bz;simp only[Sy h,za,Ba,bV];unfold OD;cases h1:Rf l with
 |false=>rfl
 |true=>
  simp only[Va,Da,Ca];by_cases hr:0<=a/\a<(l.length:Int)
  ·obtain⟨i,rfl⟩:=De hr.1;have hi:i<l.length:=by omega
   have e1:w64 ((i:Int)+1)=((i+1:Nat):Int):=by rw[w64,Z6 (by omega) (by unfold big at h;omega)];omega
   have htw:=yN (l:=l.take i++l.drop (i+1)) (Kb (zOf l i) h);have c3:decide ((i:Int)<=(l.length:Int))=true:=Ha (by omega);have c4:decide ((i:Int)<=(i:Int))=true:=Ha (by omega);have c5:decide ((i:Int)=(i:Int))=true:=Ha rfl;have c6:decide ((i:Int)<(l.length:Int))=true:=Ha (by omega);have c7:decide (((i+1:Nat):Int)<=(l.length:Int))=true:=Ha (by omega);have a1:Zb (l.take i).length (l.drop (i+1)).length 208=true:=Nj (by simp;unfold big at h;omega);simp only[zLc hi,Ca,e1,Lb,c3,c4,decide_true,c6,c7,nn,Jd,ZU,a1,htw,Ba,Da]
  ·have hb2:(decide (0<=a)&&decide (a<(l.length:Int)))=false:=by
    cases h3:(decide (0<=a)&&decide (a<(l.length:Int)))with
    |false=>rfl
    |true=>rw[Fa,Cb,Cb]at h3;exact absurd h3 hr
   rw[zM6 hr,hb2];rfl
theorem BL{l:List zC}{i:Nat}{r:zC}(hi:i<=l.length):(putS l i r).length=l.length+1:=by unfold putS;simp only[Bb,jc,Od,Pb,ae];omega
theorem Lx(l:List zC)(i:Nat)(hi:i<=l.length):(l.take i).length=i:=by rw[jc];omega
theorem zNa{l:List zC}{i:Nat}{r:zC}(hi:i<=l.length):geti (putS l i r) (i:Int)=some r:=by
 have h:i<(putS l i r).length:=by rw[BL hi];omega
 have e:(putS l i r)[i]? =some r:=by unfold putS;rw[Df,List.getElem?_append_right (by rw[Lx l i hi];exact Sa _),Lx l i hi,Nat.sub_self];rfl
 rw[zS h,<-Ma h];exact e
theorem tV{l:List zC}{i:Nat}{r:zC}(hi:i<=l.length):(putS l i r).take i=l.take i:=by unfold putS;rw[Df];exact List.take_left' (Lx l i hi)
theorem uV{l:List zC}{i:Nat}{r:zC}(hi:i<=l.length):(putS l i r).drop (i+1)=l.drop i:=by unfold putS;exact List.drop_left' (by rw[Bb,Lx l i hi];rfl)
theorem zB6{l:List zC}{r:zC}{a:Int}(h:zL zD l+zI (zD r)<=big)(hA:Vq 1000 ()=some true):LC (⟨l⟩,r,a)=some true:=by
 have hb:zL zD [r]<=big:=by rw[Qx,Wl];omega
 have hl:zL zD l<=big:=by omega
 have hz1:zL zD [r]=zI (zD r):=by rw[Qx,Wl];omega
 have hlen:=ZL vg l;obtain⟨g1,hg1⟩:=fO hl;obtain⟨g2,hg2⟩:=fO hb;have k1:=UH (s:=⟨l⟩) hl;have k2:=zGO hb;have k3:=O7 (a:=a) h;have k4:=BC hl;have k5:=BC hb;unfold LC;simp only[ZB,yh,hg1,hg2,k1,k2,k3,k4,k5,hA,za,Ba,zM];cases g1 with
 |true=>rfl
 |false=>
  cases g2 with
  |true=>rfl
  |false=>
   cases h1:Rf l with
   |false=>rfl
   |true=>
    cases h2:Rf [r]with
    |false=>rfl
    |true=>
     by_cases hr:0<=a/\a<=(l.length:Int)
     ·obtain⟨i,rfl⟩:=De hr.1;have hi:i<=l.length:=by omega
      have hput:=kS l i r;have e1:w64 ((i:Int)+1)=((i+1:Nat):Int):=by rw[w64,Z6 (by omega) (by unfold big at h;omega)];omega
      have e0:w64 ((l.length:Int)+1)=((l.length+1:Nat):Int):=by rw[w64,Z6 (by omega) (by unfold big at h;omega)];omega
      have hn1:=Ox l;have hn2:=Ox [r];have hnr:qo [r]=numR r:=by rw[qo,qo];rfl
      have e2:w64 ((qo l:Int)+(qo [r]:Int))=((qo l+numR r:Nat):Int):=by rw[hnr,ol (by rw[<-hnr];omega)]
      have r0:(bif decide ((i:Int)<0)then true else decide ((i:Int)>(l.length:Int)))=false:=OU hi;have r1:ND l r (i:Int)=bif decide (qo l+numR r<=64)then(⟨putS l i r⟩,0)else(⟨[]⟩,18):=by unfold ND;rw[h1,h2,Ha hr.1,Ha hr.2];rfl
      by_cases hm:qo l+numR r<=64
      ·have c1:Rf (putS l i r)=true:=by rw[UT h1 h2];exact Ha hm
       have c2:decide (((qo l+numR r:Nat):Int)>64)=false:=Oa (by omega);have q1:=UH (s:=⟨putS l i r⟩) (show zL zD (putS l i r)<=big by omega);have q2:=Sy (l:=putS l i r) (by omega);have q3:=P7 (l:=putS l i r) (a:=(i:Int)) (by omega);have q4:OD (putS l i r) (i:Int)=(⟨l⟩,0):=by unfold OD;rw[c1,Ha (show(0:Int)<=(i:Int) by omega),Ha (show(i:Int)<((putS l i r).length:Int) by rw[BL hi];omega)];show((⟨(putS l i r).take ((i:Int)).toNat++(putS l i r).drop (((i:Int)).toNat+1)⟩:ZN),(0:Int))=_;rw[Lb,tV hi,uV hi,yc]
       have t1:=pJ (l:=l.take i) (Kb (dJ (List.take_sublist _ _)) hl);have t2:=pJ (l:=l.drop i) (Kb (dJ (List.drop_sublist _ _)) hl);have t3:=pJ hl;have t4:=LW (r:=r) (by omega);have b1:decide ((0:Int)<=(i:Int))=true:=Ha (by omega);have b2:decide ((i:Int)<=((l.length+1:Nat):Int))=true:=Ha (by omega);have b3:decide ((i:Int)<=(l.length:Int))=true:=Ha (by omega);have b4:decide ((0:Int)<=((i+1:Nat):Int))=true:=Ha (by omega);have b5:decide (((i+1:Nat):Int)<=((l.length+1:Nat):Int))=true:=Ha (by omega);have b6:(((l.length+1:Nat):Int) != ((l.length+1:Nat):Int))=false:=by simp
       rw[Ha hm]at r1;simp only[r0,r1,e0,e1,e2,c2,q1,q2,c1,q3,q4,BL hi,zNa hi,tV hi,uV hi,Lb,t1,t2,t3,t4,b1,b2,b3,b4,b5,b6,hA,ZB,yh,Da,Ca,Jd,He,Va,Ra,ZU,Zt,zM,za,Ba,bne_self_eq_false,ic]
      ·have c2:decide (((qo l+numR r:Nat):Int)>64)=true:=Ha (by omega);rw[Oa hm]at r1;simp only[r0,r1,e2,c2,Da,Ca,hA,Zt,zM,za,Ba,Va,Ra,bne_self_eq_false];rfl
     ·have r0:=nS hr;simp only[Da,Ca,Va,Ra,bne_self_eq_false,r0,Zt,zM,Ba]
set_option maxRecDepth 100000
theorem zNq:Vq 1000 ()=some true:=by decide+kernel
end Go.Lv.VT
