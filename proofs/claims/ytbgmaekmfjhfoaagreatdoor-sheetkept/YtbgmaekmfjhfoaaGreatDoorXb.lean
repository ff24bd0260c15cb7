/- Conditions of @supports: the program's check, and the reference's. -/
import Derived.Test.YtbgmaekmfjhfoaaGreatDoorXa
set_option linter.unusedSimpArgs false
set_option linter.unusedVariables false
namespace Go.Lv.VT
theorem fD{n:Nat}(h:n<=big):w64 ((n:Int)+1)=((n+1:Nat):Int):=by rw[w64,Qb (by omega) (by unfold big at h;omega)];omega
theorem wE{α:Type}(f:α->Nat): ∀{l:List α} {i:Nat} (h:i<l.length),((l.take (i+1)).map f).sum=((l.take i).map f).sum+f l[i]
 |[],_,h=>by cases h
 |v::l,0,_=>by simp
 |v::l,i+1,h=>by simp only[Ce,Bc,Je,List.getElem_cons_succ];rw[wE f (l:=l) (i:=i) (by simpa using h)];omega
theorem iO{α:Type}(f:α->Nat): ∀(l:List α) (i:Nat),((l.take i).map f).sum<=(l.map f).sum
 |[],_=>by simp
 |v::l,0=>by simp
 |v::l,i+1=>by simp only[Ce,Bc,Je];have:=iO f l i;omega
theorem WJ{α:Type}(f:α->Nat): ∀{l:List α} {i:Nat} (h:i<l.length),mx f (l.take (i+1))=max (mx f (l.take i)) (f l[i])
 |[],_,h=>by cases h
 |v::l,0,_=>by simp[mx]
 |v::l,i+1,h=>by simp only[Ce,mx,List.getElem_cons_succ];rw[WJ f (l:=l) (i:=i) (by simpa using h)];omega
theorem TL{α:Type}(p:α->Bool): ∀{l:List α} {i:Nat} (h:i<l.length),(l.take (i+1)).all p=((l.take i).all p&&p l[i])
 |[],_,h=>by cases h
 |v::l,0,_=>by simp
 |v::l,i+1,h=>by simp only[Ce,Ke,List.getElem_cons_succ];rw[TL p (l:=l) (i:=i) (by simpa using h),ug]
theorem zDD{α:Type}{p:α->Bool}{l:List α}{i:Nat}(h:i<l.length)(hp:p l[i]=false):l.all p=false:=by rw[List.all_eq_false];exact⟨l[i],Nb h,by rw[hp];simp⟩
mutual
def sizC:zt->Nat
 |⟨_,_,_,_,l⟩=>1+ni l
def ni:List zt->Nat
 |[]=>0
 |c::r=>sizC c+ni r
end
theorem sM(l:List zt):ni l=(l.map sizC).sum:=by
 induction l with
 |nil=>rw[ni];rfl
 |cons c l ih=>rw[ni,ih];rfl
theorem tT(c:zt):sizC c=1+(c.list.map sizC).sum:=by obtain⟨k,n,m,d,l⟩:=c;rw[sizC,sM]
theorem zCG: ∀l:List zt,ni l<=zL zw l:=by
 have key: ∀(n:Nat) (l:List zt),zL zw l<n->ni l<=zL zw l:=by
  intro n
  induction n with
  |zero=>intro l h;omega
  |succ n ih=>
   intro l
   induction l with
   |nil=>intro _;rw[ni];exact Va _
   |cons v l ihl=> intro h;rw[ZI]at h ⊢;rw[ni,tT,<-sM];have hz:=El v;have hd:=az v.decl;have h1:=ih v.list (by omega);have h2:=ihl (by omega);omega
 exact fun l=>key _ l (Ie _)
theorem zFj(c:zt):sizC c<=zy (zw c):=by have:=zCG [c];rw[ni,ni,ZI,Lh]at this;omega
def Rn(c:zt):Bool:=c.kind==7||c.kind==8
mutual
def bg:zt->Nat
 |⟨k,_,_,d,l⟩=>bif k==7 then 1+jf d.value else bif k==8 then 1 else Xu l
def Xu:List zt->Nat
 |[]=>0
 |c::r=>max ((bif Rn c then 0 else 1)+bg c) (Xu r)
end
def Dk(c:zt):Nat:=(bif Rn c then 0 else 1)+bg c
theorem oU(l:List zt):Xu l=mx Dk l:=by
 induction l with
 |nil=>rw[Xu];rfl
 |cons c l ih=>rw[Xu,ih];rfl
theorem BM(c:zt):bg c=bif c.kind==7 then 1+jf c.decl.value else bif c.kind==8 then 1 else mx Dk c.list:=by obtain⟨k,n,m,d,l⟩:=c;rw[bg,oU]
theorem zBB: ∀c:zt,bg c<=zy (zw c):=by
 have key: ∀(n:Nat) (c:zt),zy (zw c)<n->bg c<=zy (zw c):=by
  intro n
  induction n with
  |zero=>intro c h;omega
  |succ n ih=>
   intro c h;have hz:=El c;have hd:=Q3 c.decl;rw[BM];cases c.kind==7 with
   |true=> have h1:=Ov c.decl.value;have h2:=Dj c.decl.value;simp only[Ca];omega
   |false=>
    cases c.kind==8 with
    |true=>simp only[Ca,Ba];omega
    |false=>
     simp only[Ba];have: ∀l:List zt,(∀y∈l,y∈c.list)->mx Dk l<=1+zL zw l:=by
      intro l
      induction l with
      |nil=>intro _;exact Va _
      |cons y l ihl=>
       intro hl;have h1:=ihl fun z hz=>hl z (Cb _ hz);have h2:=iF (hl y Jb);have h3:=ih y (by omega);have h4:Dk y<=1+bg y:=by unfold Dk;cases Rn y<;>simp only[Ca,Ba]<;>omega
       rw[mx,ZI];omega
     have:=this c.list fun _ h=>h;omega
 exact fun c=>key _ c (Ie _)
mutual
def supC:zt->Bool
 |⟨k,n,m,d,l⟩=>bif k==7 then l.isEmpty&&(n==[]&&(m==0&&Bh d))else bif k==8 then l.isEmpty&&Cj ⟨k,n,m,d,l⟩else
  (k==3||(k==1||k==2))&&(Cj ⟨k,n,m,d,l⟩&&((bif k==3 then l.length==1 else decide (2<=l.length))&&xw l))
def xw:List zt->Bool
 |[]=>true
 |c::r=>supC c&&xw r
end
theorem zAN(l:List zt):xw l=l.all supC:=by
 induction l with
 |nil=>rw[xw];rfl
 |cons c l ih=>rw[xw,ih];rfl
theorem zFl(c:zt):supC c=bif c.kind==7 then c.list.isEmpty&&(c.name==[]&&(c.num==0&&Bh c.decl))else bif c.kind==8 then c.list.isEmpty&&Cj c else
  (c.kind==3||(c.kind==1||c.kind==2))&&(Cj c&&((bif c.kind==3 then c.list.length==1 else decide (2<=c.list.length))&&c.list.all supC)):=by
 obtain⟨k,n,m,d,l⟩:=c;rw[supC,zAN]
theorem zGc{α:Type}(l:List α):decide ((l.length:Int)<2)= !decide (2<=l.length):=by
 by_cases h:2<=l.length
 ·rw[Fa h,Ta (by omega)];rfl
 ·rw[Ta h,Fa (by omega)];rfl
theorem zB0{α:Type}(l:List α):((l.length:Int)==1)=(l.length==1):=by rw[Lg,Ob,Ob];omega
theorem rY(c:zt):rz c=some (Rn c):=by unfold rz Rn;cases c.kind==7<;>rfl
theorem iZ{c:zt}{m:Nat}(h:zy (zw c)<=big)(hm:m<=1500):
  ∃y:(Int×Bool)×Int,bi (c,(m:Int))=some y/\y.1.2=(supC c&&decide (m+sizC c<=1500))/\(y.1.2=true->y.1.1=(bg c:Int)/\y.2=((m+sizC c:Nat):Int)):=by
 have key: ∃y:(Int×Bool)×Int,bi (c,(m:Int))=some y/\ ∀m':Nat,(m:Int)=(m':Int)->y.1.2=(supC c&&decide (m'+sizC c<=1500))/\(y.1.2=true->y.1.1=(bg c:Int)/\y.2=((m'+sizC c:Nat):Int)):=by
  refine wy K5 (fun x:zt×Int=>zy (zw x.1)) (fun x=>zy (zw x.1)<=big/\ ∃m:Nat,x.2=(m:Int)/\m<=1500)
   (fun x (y:(Int×Bool)×Int)=> ∀m':Nat,x.2=(m':Int)->y.1.2=(supC x.1&&decide (m'+sizC x.1<=1500))/\(y.1.2=true->y.1.1=(bg x.1:Int)/\y.2=((m'+sizC x.1:Nat):Int))) (fun S x hx hS=> ?_) (x:=(c,(m:Int))) ⟨h,m,rfl,hm⟩
  obtain⟨c,n⟩:=x;obtain⟨hc,m,hn,hm⟩:=hx;have hn:n=(m:Int):=hn;have hc:zy (zw c)<=big:=hc;subst hn;have hlen:=bO c;have hd:=cO c;have hsz:=zFj c;have he:=tT c;have hv:=Dj c.decl.value;have hzd:=Q3 c.decl;have fin: ∀(d:Int) (b:Bool) (n:Int),b=(supC c&&decide (m+sizC c<=1500))->(b=true->d=(bg c:Int)/\n=((m+sizC c:Nat):Int))->
    ∀m':Nat,(m:Int)=(m':Int)->b=(supC c&&decide (m'+sizC c<=1500))/\(b=true->d=(bg c:Int)/\n=((m'+sizC c:Nat):Int)):=by
   intro d b n h1 h2 m' hm';obtain rfl:m=m':=by omega
   exact⟨h1,h2⟩
  have hw:w64 ((m:Int)+1)=((m+1:Nat):Int):=fD (by unfold big;omega);unfold Bt;simp only[hw,Qd];by_cases hm1:m+1>1500
  ·have e1:decide (((m+1:Nat):Int)>1500)=true:=Fa (by omega);simp only[e1,Ca];have e2:decide (m+sizC c<=1500)=false:=Ta (by omega);exact⟨_,rfl,fin _ _ _ (by rw[e2,Jd]) (fun h=>by cases h)⟩
  have e1:decide (((m+1:Nat):Int)>1500)=false:=Ta (by omega);simp only[e1,Ba];have hs:=zFl c;have hdp:=BM c;cases h7:c.kind==7 with
  |true=>
   rw[h7]at hs hdp;simp only[Ca]at hs hdp ⊢;rw[BX (show szL c.decl.value<=big by omega),P5 (show zy (ZH c.decl)<=big by omega)];simp only[ze,Aa,wm,ZF];refine⟨_,rfl,fin _ _ _ ?_ ?_⟩
   ·rw[hs];have hde:Bh c.decl=(Bh c.decl&&(errS c.decl.value==0)):=by unfold Bh;cases Yt c.decl.name<;>cases errS c.decl.value==0<;>simp
    cases hle:c.list.isEmpty with
    |false=>rfl
    |true=>
     have hl:c.list=[]:=List.isEmpty_iff.1 hle;rw[hl]at he;have e2:decide (m+sizC c<=1500)=true:=Fa (by rw[he];simp;omega);rw[e2];by_cases her:errS c.decl.value=0
     ·rw[Ka her];cases c.name==[]<;>cases c.num==0<;>cases Bh c.decl<;>rfl
     ·rw[Ha her];have her':=Ga.2 her;rw[her',Jd]at hde;rw[hde];simp only[her'];cases c.name==[]<;>cases c.num==0<;>rfl
   ·intro hf;have her:errS c.decl.value=0:=by
     by_cases her:errS c.decl.value=0
     ·exact her
     ·rw[Ha her]at hf;have her':=Ga.2 her;simp only[her']at hf;revert hf;cases c.list.isEmpty<;>cases c.name==[]<;>cases c.num==0<;>intro h<;>cases h
    have hl:c.list=[]:=by
     cases hle:c.list.isEmpty with
     |true=>exact List.isEmpty_iff.1 hle
     |false=>rw[hle]at hf;cases hf
    have h1:=Ov c.decl.value;rw[Ka her,hdp];rw[hl]at he;simp only[fD (show jf c.decl.value<=big by omega)];refine⟨by rw[Nat.add_comm],?_⟩;rw[he];rfl
  |false=>
   rw[h7]at hs hdp;simp only[Ba]at hs hdp ⊢;cases h8:c.kind==8 with
   |true=>
    rw[h8]at hs hdp;simp only[Ca]at hs hdp ⊢;simp only[ze,Aa,wm,ZF,LP];refine⟨_,rfl,fin _ _ _ ?_ ?_⟩
    ·rw[hs];cases hle:c.list.isEmpty with
     |false=>rfl
     |true=> have hl:c.list=[]:=List.isEmpty_iff.1 hle;rw[hl]at he;have e2:decide (m+sizC c<=1500)=true:=Fa (by rw[he];simp;omega);rw[e2];cases Cj c<;>rfl
    ·intro hf;have hl:c.list=[]:=by
      cases hle:c.list.isEmpty with
      |true=>exact List.isEmpty_iff.1 hle
      |false=>rw[hle]at hf;cases hf
     rw[hl]at he;rw[hdp,he];exact⟨rfl,rfl⟩
   |false=>
    rw[h8]at hs hdp;simp only[Ba]at hs hdp ⊢;have hj: ∀{R:Type} (k:Bool->Option R),Zt (X:=Bool) (bif c.kind==3 then some (LX.out (c.kind==3))else bif c.kind==1 then some (LX.out (c.kind==1))else some (LX.out (c.kind==2))) k=k (c.kind==3||(c.kind==1||c.kind==2)):=by intro R k;cases c.kind==3<;>cases c.kind==1<;>rfl
    rw[hj];cases hk:(c.kind==3||(c.kind==1||c.kind==2))with
    |false=>
     rw[hk]at hs;exact⟨_,rfl,fin _ _ _ (by rw[hs];rfl) (fun h=>by cases h)⟩
    |true=>
     rw[hk]at hs;simp only[Ca,Kb]at hs ⊢;have hg:(bif bif !Cj c then true else bif c.kind==3 then(c.list.length:Int) != 1 else false then true else bif c.kind != 3 then decide ((c.list.length:Int)<2)else false)= !(Cj c&&(bif c.kind==3 then c.list.length==1 else decide (2<=c.list.length))):=by rw[zGc,bne,bne,zB0];cases Cj c<;>cases c.kind==3<;>cases c.list.length==1<;>rfl
     simp only[LP,ze,Aa,hg];cases hb:(Cj c&&(bif c.kind==3 then c.list.length==1 else decide (2<=c.list.length)))with
     |false=>
      rw[<-ug,hb]at hs;exact⟨_,rfl,fin _ _ _ (by rw[hs];rfl) (fun h=>by cases h)⟩
     |true=>
      rw[<-ug,hb,Kb]at hs;simp only[Eb,Ba];refine zB4 (A:=Nat×Nat) c.list.length (fun i a=>(((a.1:Int),(i:Int)),(a.2:Int))) (fun i a=>a.2=m+1+((c.list.take i).map sizC).sum/\a.2<=1500/\a.1=mx Dk (c.list.take i)/\(c.list.take i).all supC=true) _ (a0:=(0,m+1)) rfl ⟨by simp,by show m+1<=1500;omega,by simp[mx],by simp⟩ (fun i a hi hI=> ?_) (fun a hI=> .inl ?_)
      ·obtain⟨i1,i2,i3,i4⟩:=hI;have ht:=iO sizC c.list (i+1);rw[wE sizC hi]at ht;have hmm:=iF (Nb hi);obtain⟨y,hy1,hy2⟩:=hS (c.list[i],(a.2:Int)) ⟨by show zy (zw c.list[i])<=big;omega,a.2,rfl,i2⟩ hmm;obtain⟨hy3,hy4⟩:=hy2 a.2 rfl;have hy3:y.1.2=(supC c.list[i]&&decide (a.2+sizC c.list[i]<=1500)):=hy3;simp only[ZY hi,Ca,Zu hi,Aa,Qd,hy1];cases hf:y.1.2 with
       |false=>
        refine .inr (.inl ⟨_,rfl,fin _ _ _ ?_ (fun h=>by cases h)⟩);rw[hf]at hy3;cases hsi:supC c.list[i]with
        |false=>rw[hs,zDD hi hsi];rfl
        |true=> rw[hsi,Kb]at hy3;have:=of_decide_eq_false hy3.symm;have e2:decide (m+sizC c<=1500)=false:=Ta (by omega);rw[e2,Jd]
       |true=>
        obtain⟨hy5,hy6⟩:=hy4 hf;rw[hf]at hy3;have hy3:=hy3.symm;rw[Ea]at hy3;have hle:=Ub hy3.2;have hdl:=zBB c.list[i];have hy5:y.1.1=(bg c.list[i]:Int):=hy5;have hy6:y.2=((a.2+sizC c.list[i]:Nat):Int):=hy6;refine .inl ⟨(max a.1 (Dk c.list[i]),a.2+sizC c.list[i]),?_,?_,hle,?_,?_⟩
        ·have hst:Dk c.list[i]=(bif Rn c.list[i]then 0 else 1)+bg c.list[i]:=rfl;have hw2:=fD (n:=bg c.list[i]) (by omega);simp only[Eb,Ba,rY,Aa,hy5,hy6,hw2,Zw hi (show c.list.length<=big by omega)];cases hlf:Rn c.list[i]with
         |true=> rw[hlf]at hst;rw[Ca,Ad]at hst;simp only[Eb,Ba,zG,hst,NT]
         |false=> rw[hlf]at hst;rw[Ba,Nat.add_comm]at hst;simp only[Xa,Ca,zG,hst,NT]
        ·rw[wE sizC hi,i1];show _+_+_+_=_;omega
        ·rw[WJ Dk hi,i3]
        ·rw[TL supC hi,i4,hy3.1];rfl
      ·rw[Cf]at hI;obtain⟨i1,i2,i3,i4⟩:=hI;refine⟨((a.1:Int),(a.2:Int)),?_,_,rfl,fin _ _ _ ?_ (fun _=>⟨?_,?_⟩)⟩
       ·simp only[ZM,Ba]
       ·have e2:decide (m+sizC c<=1500)=true:=Fa (by omega);rw[hs,i4,e2];rfl
       ·rw[hdp,i3]
       ·show(a.2:Int)=_;rw[i1,he];congr 1;omega
 obtain⟨y,h1,h2⟩:=key;exact⟨y,h1,h2 m rfl⟩
def Bv(c:zt):Bool:=supC c&&(decide (sizC c<=1500)&&decide (bg c<=16))
theorem zgY{c:zt}(h:zy (zw c)<=big):QC c=some (bif Bv c then 0 else 8):=by
 obtain⟨y,h1,h2,h3⟩:=iZ (m:=0) h (by omega);unfold QC Bv;replace h1:bi (c,0)=some y:=h1;simp only[Qd,h1,ze,Aa];rw[Ad]at h2;cases hf:y.1.2 with
 |false=> rw[hf]at h2;rw[<-ug,<-h2];rfl
 |true=> have e:decide ((bg c:Int)>16)= !decide (bg c<=16):=ik _ 16;rw[(h3 hf).1,e];rw[hf]at h2;rw[<-ug,<-h2];cases decide (bg c<=16)<;>rfl
--< pulled
--p MH
theorem MH(l:Str)(m:Int):Dt (l,m)=some (decide ((l.length:Int)>m)|| !Q6 l):=by
 unfold Dt;simp only[Gt,ZF,ze,Aa];cases decide ((l.length:Int)>m)with
 |true=>rfl
 |false=>exact congrArg some (su l)
--p PH
theorem PH(l:Str):Lt l=some (Ak l):=by unfold Lt Ak;simp only[MH,ZF,ze,Aa];have:decide ((l.length:Int)>64)= !decide (l.length<=64):=ik _ 64;rw[this];cases l==[]<;>cases decide (l.length<=64)<;>cases Q6 l<;>rfl
--p ref08_bytes_eq
--p ref08_Named_eq
--p OH
theorem OH{l:Str}(h:l.length<=big):Jt l=some (Mq l):=by unfold Jt Mq;simp only[PH,Ym h,ZF,ze,Aa];cases Ak l<;>rfl
--p ref08_Small_eq
--p CP
theorem CP(l:Str):Uw l=some (!Ak l):=by unfold Uw Ak;simp only[Gt,ZF,ze,Aa];have:decide ((l.length:Int)>64)= !decide (l.length<=64):=ik _ 64;rw[this];cases l==[]<;>cases decide (l.length<=64)<;>first|rfl|exact congrArg some (su l)
--p idx_string_2
--p contains_string_2
--p sheet_named_eq
--p ref11_pathed_eq
--p oo
theorem oo(x:zu):zy (zA x)=3+zL Zd x.parts+x.combs.length:=by rw[oH];simp only[zy,bPV,YT,zL];omega
--p Lp
theorem Lp(x:zU):zy (Zd x)=2+x.tag.length+zL Za x.simples:=by rw[lH];simp only[zy,bPV,zL];omega
--p Sm
theorem Sm(x:zH):zy (Za x)=9+x.name.length+x.value.length+zL zA x.list:=by rw[jH];simp only[zy,bPV,zL];omega
--p dD
theorem dD(x:List Str):zy [.sl (x.map fun y=>[.str y])]=1+zL (fun y=>[.str y]) x:=by simp only[zy,bPV,zL];omega
--p Mm
theorem Mm(x:zJ):zy (zD x)=5+zL zA x.selectors+zL ZH x.decls+zy (zw x.cond)+zL (fun l=>[.sl (l.map fun y=>[.str y])]) x.names+zL zD x.rules:=by rw[UH,El,Q3];simp only[zy,bPV,zL];omega
--p Dw
theorem Dw(x:zu):1<=zy (zA x):=by have:=oo x;omega
--p Iw
theorem Iw(x:zU):1<=zy (Zd x):=by have:=Lp x;omega
--p gz
theorem gz(x:zH):1<=zy (Za x):=by have:=Sm x;omega
--p Xj
theorem Xj(x:zJ):1<=zy (zD x):=by have:=Mm x;omega
--p noneC
--p sheet_empty_eq
--p ref11_none_eq
--p sheet_told_rel
--> pulled
theorem tO(c:zu):(⟨c.lead,c.parts,c.combs⟩:zu)=c:=by cases c;rfl
theorem nY(c:zU):(⟨c.tag,c.simples⟩:zU)=c:=by cases c;rfl
theorem jm(c:zH):(⟨c.kind,c.name,c.op,c.value,c.fold,c.anb,c.of_,c.list⟩:zH)=c:=by cases c;rfl
def eD(n:Int):Bool:=decide (-1000000000<=n)&&decide (n<=1000000000)
def anbS(a:VAnb):Bool:=eD a.a&&eD a.b
def anb0(a:VAnb):Bool:=a.a==0&&a.b==0
def BD(x:zH):Bool:=x.op==0&&(x.value==[]&&(!x.fold&&(anb0 x.anb&& !x.of_)))
def Yp(x:zH):Bool:=
 bif x.kind==1||x.kind==2 then Ak x.name&&BD x
 else bif x.kind==3 then Mq x.name&&(decide (x.op<=6)&&((Q6 x.value&&decide (x.value.length<=400))&&((!(x.op==0)||x.value==[]&& !x.fold)&&(anb0 x.anb&& !x.of_))))
 else bif x.kind==9||x.kind==10 then anbS x.anb&&(x.name==[]&&(x.op==0&&(x.value==[]&& !x.fold)))
 else(decide (4<=x.kind)&&decide (x.kind<=14))&&(x.name==[]&&BD x)
def hasS(x:zH):Bool:=bif x.kind==9||x.kind==10 then x.of_ else decide (11<=x.kind)&&decide (x.kind<=14)
def Vu(x:zH):Bool:=x.kind==11||x.kind==12
def Au(b:UInt8):Bool:=decide (1<=b.toNat)&&decide (b.toNat<=4)
def tagS(t:Str):Bool:=t==[]||(t==[42]||Mq t)
def iC(c:zU):Bool:=tagS c.tag&&((!(c.tag==[])|| !c.simples.isEmpty)&&decide (c.simples.length<=64))
def WI(c:zu)(b:Bool):Bool:=(b==(c.lead != 0))&&(decide (c.lead<=4)&&(decide (c.combs.length+1=c.parts.length)&&(decide (c.parts.length<=64)&&c.combs.all Au)))
mutual
def Vi:zu->Nat->Bool->Bool->Bool
 |⟨lead,parts,combs⟩,d,h,b=>WI ⟨lead,parts,combs⟩ b&&Ou parts d h
def Ou:List zU->Nat->Bool->Bool
 |[],_,_=>true
 |c::r,d,h=>Wm c d h&&Ou r d h
def Wm:zU->Nat->Bool->Bool
 |⟨tag,simples⟩,d,h=>iC ⟨tag,simples⟩&&Dv simples d h
def Dv:List zH->Nat->Bool->Bool
 |[],_,_=>true
 |x::r,d,h=>Sj x d h&&Dv r d h
def Sj:zH->Nat->Bool->Bool
 |⟨kind,name,op,value,fold,anb,of_,list⟩,d,h=>Yp ⟨kind,name,op,value,fold,anb,of_,list⟩&&
   (bif hasS ⟨kind,name,op,value,fold,anb,of_,list⟩then
    !(d==3||h&&kind==14)&&((Vu ⟨kind,name,op,value,fold,anb,of_,list⟩|| !list.isEmpty)&&Nt list (d+1) (h||kind==14) (kind==14))
   else list.isEmpty)
def Nt:List zu->Nat->Bool->Bool->Bool
 |[],_,_,_=>true
 |c::r,d,h,b=>Vi c d h b&&Nt r d h b
end
theorem zA1(c:zu)(d:Nat)(h b:Bool):Vi c d h b=(WI c b&&c.parts.all fun c=>Wm c d h):=by
 obtain⟨lead,parts,combs⟩:=c;rw[Vi];have: ∀l,Ou l d h=l.all fun c=>Wm c d h:=by
  intro l
  induction l with
  |nil=>rw[Ou];rfl
  |cons c l ih=>rw[Ou,ih];rfl
 rw[this]
theorem MP(c:zU)(d:Nat)(h:Bool):Wm c d h=(iC c&&c.simples.all fun x=>Sj x d h):=by
 obtain⟨tag,simples⟩:=c;rw[Wm];have: ∀l,Dv l d h=l.all fun c=>Sj c d h:=by
  intro l
  induction l with
  |nil=>rw[Dv];rfl
  |cons c l ih=>rw[Dv,ih];rfl
 rw[this]
theorem TU(l:List zu)(d:Nat)(h b:Bool):Nt l d h b=l.all fun c=>Vi c d h b:=by
 induction l with
 |nil=>rw[Nt];rfl
 |cons c l ih=>rw[Nt,ih];rfl
theorem bV(x:zH)(d:Nat)(h:Bool):Sj x d h=(Yp x&&
   (bif hasS x then !(d==3||h&&x.kind==14)&&((Vu x|| !x.list.isEmpty)&&x.list.all fun c=>Vi c (d+1) (h||x.kind==14) (x.kind==14))else x.list.isEmpty)):=by
 obtain⟨kind,name,op,value,fold,anb,of_,list⟩:=x;rw[Sj,TU]
theorem NP(a:VAnb):mr a=some (bif anbS a then 0 else 8):=by unfold mr RA anbS eD;simp only[ZF,ze,Aa];cases decide (-1000000000<=a.a)<;>cases decide (a.a<=1000000000)<;>cases decide (-1000000000<=a.b)<;>cases decide (a.b<=1000000000)<;>rfl
theorem uO{d:Nat}(hd:d<=3)(h:Bool)(k:Int):qZ (⟨(d:Int),h⟩,k)=some (bif d==3||h&&k==14 then(⟨0,false⟩,false)else(⟨((d+1:Nat):Int),h||k==14⟩,true)):=by
 unfold qZ;have e1:((d:Int)==3)=(d==3):=by
  by_cases hh:d=3
  ·subst hh;rfl
  ·rw[Ga.2 hh,Ga.2 (by omega)]
 simp only[e1];have e2:d≠3->w64 ((d:Int)+1)=((d+1:Nat):Int):=fun hh=>Zw (n:=4) (by omega) (by decide);cases hb:(d==3)with
 |true=>rfl
 |false=> rw[e2 (by simpa using hb)];cases h<;>cases (k==14)<;>rfl
theorem zB1(x:zH):TB x=some (hasS x,bif x.kind==9||x.kind==10 then false else !(x.kind==13||x.kind==14)):=by
 unfold TB hasS;by_cases h9:x.kind=9
 ·simp[h9]
 by_cases h10:x.kind=10
 ·simp[h10]
 by_cases h11:x.kind=11
 ·simp[h11]
 by_cases h12:x.kind=12
 ·simp[h12]
 by_cases h13:x.kind=13
 ·simp[h13]
 by_cases h14:x.kind=14
 ·simp[h14]
 have e:(decide (11<=x.kind)&&decide (x.kind<=14))=false:=by
  rw[Bool.and_eq_false_iff];by_cases hh:11<=x.kind
  ·exact .inr (Ta (by omega))
  ·exact .inl (Ta hh)
 have b9:=Ga.2 h9;have b10:=Ga.2 h10;have b11:=Ga.2 h11;have b12:=Ga.2 h12;have b13:=Ga.2 h13;have b14:=Ga.2 h14;simp only[b9,b10,b11,b12,b13,b14,e,Ba,zG,Bool.or_self,Xa]
theorem KV{x:zH}(h1:x.name.length<=big)(k:Option Bool)(hk:k=some true):
  ((bif bif bif !(x.kind==3)then bif bif x.op != 0 then true else !(x.value==[])then true else x.fold else false then true else bif !(bif x.kind==9 then true else x.kind==10)then bif x.of_ then true else !(x.anb.a==0&&(x.anb.b==0&&true))else false then
  some false
 else
  Zt (X:=Bool) (
    bif x.kind==1 then
     some (LX.out (x.kind==1))
    else
     some (LX.out (x.kind==2))) fun j5=>
  bif j5 then
   ze (Lt x.name) fun y6=>
   some y6
  else
   bif x.kind==3 then
    ze (Jt x.name) fun y7=>
    ze (zI (bif y7 then decide (x.op<=6)else false) (Dt (x.value,400)) (default:Bool)) fun y8=>
    some (bif bif bif y7 then decide (x.op<=6)else false then !y8 else false then bif x.op != 0 then true else bif x.value==[]then !x.fold else false else false)
   else
    ze (zI (!(!(bif x.kind==9 then true else x.kind==10))&&(bif bif x.name==[]then decide (x.kind>=4)else false then decide (x.kind<=14)else false)) (mr x.anb) (default:Int)) fun y9=>
    some (bif bif bif x.name==[]then decide (x.kind>=4)else false then decide (x.kind<=14)else false then bif !(bif x.kind==9 then true else x.kind==10)then true else y9==0 else false)):Option Bool)=some (Yp x):=by
 have e400:decide ((x.value.length:Int)>400)= !decide (x.value.length<=400):=ik _ 400;simp only[PH,OH h1,MH,NP,ZF,ze,Aa,e400,bne,ge_iff_le];unfold Yp BD anb0;generalize Ak x.name=a1;generalize Mq x.name=a2;generalize Q6 x.value=a3;generalize decide (x.value.length<=400)=a4;generalize decide (x.op<=6)=a5;generalize (x.op==0)=a6;generalize (x.value==[])=a7;generalize (x.name==[])=a8;generalize (x.anb.a==0)=a9;generalize (x.anb.b==0)=a10;generalize anbS x.anb=a11;generalize x.fold=a12;generalize x.of_=a13;have fin: ∀kd:Int,kd=1\/kd=2\/kd=3\/kd=9\/kd=10->x.kind=kd->True:=fun _ _ _=>trivial;clear e400 hk fin h1;by_cases k1:x.kind=1
 ·simp only[k1];revert a1 a2 a3 a4 a5 a6 a7 a8 a9 a10 a11 a12 a13;clear k1 k x;decide+kernel
 by_cases k2:x.kind=2
 ·simp only[k2];revert a1 a2 a3 a4 a5 a6 a7 a8 a9 a10 a11 a12 a13;clear k1 k2 k x;decide+kernel
 by_cases k3:x.kind=3
 ·simp only[k3];revert a1 a2 a3 a4 a5 a6 a7 a8 a9 a10 a11 a12 a13;clear k1 k2 k3 k x;decide+kernel
 by_cases k9:x.kind=9
 ·simp only[k9];revert a1 a2 a3 a4 a5 a6 a7 a8 a9 a10 a11 a12 a13;clear k1 k2 k3 k9 k x;decide+kernel
 by_cases k10:x.kind=10
 ·simp only[k10];revert a1 a2 a3 a4 a5 a6 a7 a8 a9 a10 a11 a12 a13;clear k1 k2 k3 k9 k10 k x;decide+kernel
 simp only[Ga.2 k1,Ga.2 k2,Ga.2 k3,Ga.2 k9,Ga.2 k10];generalize decide (4<=x.kind)=a14;generalize decide (x.kind<=14)=a15;clear k1 k2 k3 k9 k10 k x;revert a1 a2 a3 a4 a5 a6 a7 a8 a9 a10 a11 a12 a13 a14 a15;decide+kernel
def fP(z:zu×zg×Bool):Bool:=Vi z.1 z.2.1.deep.toNat z.2.1.has z.2.2
def okPl(z:zu×zg×Bool):Prop:=zy (zA z.1)<=big/\ ∃d:Nat,d<=3/\z.2.1.deep=(d:Int)
section
variable {S:zu×zg×Bool->Option Bool} {N:Nat} (hS: ∀z,okPl z->zy (zA z.1)<N->S z=some (fP z)) (hN:N<=big)
include hS hN
theorem hSel{c:zu}{d:Nat}{h b:Bool}(hc:zy (zA c)<N)(hd:d<=3):S (c,⟨(d:Int),h⟩,b)=some (Vi c d h b):=
 hS (c,⟨(d:Int),h⟩,b) ⟨by show zy (zA c)<=big;omega,d,hd,rfl⟩ hc
theorem KX{x:zH}(hx:zy (Za x)<=N){d:Nat}(hd:d<=3)(h:Bool):
  qf S (x.list,⟨(d:Int),h⟩,x)=some (!x.list.all fun c=>Vi c d h (x.kind==14)):=by
 have hz:=Sm x;have hlen:=Qw Dw x.list;unfold qf Qz;refine Ir (Uj x.list (fun c=> !Vi c d h (x.kind==14)) (by omega) (fun i hi=> ?_) ?_) ((Vo _ _).trans (bK _ _))
 ·have hm:=Vg (f:=zA) (Nb hi);simp only[ZY hi,Ca,Zu hi,ze,Aa,nH,tO];rw[hSel hS hN (by omega) hd];rfl
 ·simp only[ZM,Ba]
theorem mX{x:zH}(hx:zy (Za x)<=N){d:Nat}(hd:d<=3)(h:Bool):ow S (x,⟨(d:Int),h⟩)=some (Sj x d h):=by
 have hz:=Sm x;rw[bV];unfold ow;simp only[jm,zB1,ze,Aa,uO hd,wm,wu];have hflat:=KV (x:=x) (by omega) (some true) rfl;simp only[ze]at hflat;have go: ∀(j:Option (LX Unit Bool)) (b:Bool),j=some (bif b then .out ()else .ret false)->(Zt j fun _=>some (Yp x))=some (Yp x&&b):=by
  intro j b hj;subst hj;cases b with
  |true=>simp only[Ca,zG,Ic]
  |false=>simp only[Ba,zj0,Jd]
 rw[hflat];refine go _ _ ?_;cases hh:hasS x with
 |false=>cases x.list.isEmpty<;>rfl
 |true=>
  simp only[Ca];have he:(bif x.kind==9||x.kind==10 then false else !(x.kind==13||x.kind==14))=Vu x:=by
   unfold Vu;unfold hasS at hh;by_cases h9:x.kind=9
   ·simp only[h9];rfl
   by_cases h10:x.kind=10
   ·simp only[h10];rfl
   simp only[Ga.2 h9,Ga.2 h10,Bool.or_self,Ba,Ea,Ua]at hh ⊢;have:x.kind=11\/x.kind=12\/x.kind=13\/x.kind=14:=by omega
   rcases this with h|h|h|h<;>(rw[h];rfl)
  cases hp:(d==3||h&&x.kind==14)with
  |true=>rfl
  |false=>
   have hd3:d≠3:=by intro hc;rw[hc]at hp;cases hp
   simp only[Ba,KX hS hN hx (show d+1<=3 by omega),ZF,Aa,he];cases Vu x<;>cases x.list.isEmpty<;>cases x.list.all (fun c=>Vi c (d+1) (h||x.kind==14) (x.kind==14))<;>rfl
theorem wP{c:zU}(hx:zy (Zd c)<=N){d:Nat}(hd:d<=3)(h:Bool):QA S (c,⟨(d:Int),h⟩)=some (Wm c d h):=by
 have hz:=Lp c;have hlen:=Qw gz c.simples;have e64:decide ((c.simples.length:Int)>64)= !decide (c.simples.length<=64):=ik _ 64;rw[MP];unfold QA iC tagS;have hl: ∀b:Bool,Zl (fun(s2:Int)=>
    bif decide (s2<(c.simples.length:Int))then
     ze (geti c.simples s2) fun y3=>
     ze (ow S ((⟨y3.kind,y3.name,y3.op,y3.value,y3.fold,y3.anb,y3.of_,y3.list⟩:zH),⟨(d:Int),h⟩)) fun y4=>
     bif !y4 then
      some (LO.ret false)
     else
      some (LO.again (w64 (s2+1)))
    else
     some (LO.out ())) 0 (fun _=>some b)=some (b&&c.simples.all fun x=>Sj x d h):=by
  intro b;refine(IA c.simples (fun x=>bif Sj x d h then none else some false) () (fun i hi=> ?_) ?_).trans ?_
  ·have hm:=Vg (f:=Za) (Nb hi);simp only[ZY hi,Ca,Zu hi,ze,Aa,jm,mX hS hN (show zy (Za c.simples[i])<=N by omega) hd h,Zw hi (show c.simples.length<=big by omega)];cases Sj c.simples[i] d h<;>rfl
  ·simp only[ZM,Ba]
  ·rw[Nv];cases c.simples.all fun x=>Sj x d h
   ·cases b<;>rfl
   ·cases b<;>rfl
 simp only[OH (show c.tag.length<=big by omega),ZF,ze,Aa,e64,wu]at hl ⊢;rw[hl];cases c.tag==[]<;>cases c.tag==[42]<;>cases Mq c.tag<;>cases decide (c.simples.length<=64)<;>cases c.simples.isEmpty<;>rfl
end
theorem lV{c:zu}{d:Nat}{h b:Bool}(hc:zy (zA c)<=big)(hd:d<=3):zx (c,⟨(d:Int),h⟩,b)=some (Vi c d h b):=by
 refine ai (fun z=>zy (zA z.1)) okPl fP (fun S z hz hS=> ?_) (x:=(c,⟨(d:Int),h⟩,b)) ⟨hc,d,hd,rfl⟩;obtain⟨c,⟨dp,h⟩,b⟩:=z;obtain⟨hc,d,hd,he⟩:=hz;have he:dp=(d:Int):=he;subst he;have hc:zy (zA c)<=big:=hc;have hzc:=oo c;have hlen:=Qw Iw c.parts;show _=some (Vi c ((d:Int).toNat) h b);rw[Ib,zA1];unfold jB WI;have e1:decide (c.lead>4)= !decide (c.lead<=4):=by
  by_cases hh:c.lead<=4
  ·rw[Fa hh,Ta (by omega)];rfl
  ·rw[Ta hh,Fa (by omega)];rfl
 have e2:(w64 ((c.combs.length:Int)+1) != (c.parts.length:Int))= !decide (c.combs.length+1=c.parts.length):=by
  rw[Zw (n:=big) (i:=c.combs.length) (by omega) (Sa _)];by_cases hh:c.combs.length+1=c.parts.length
  ·rw[Fa hh,hh];simp
  ·rw[Ta hh];simp;omega
 have e3:decide ((c.parts.length:Int)>64)= !decide (c.parts.length<=64):=ik _ 64;have hcon:qp S (c.parts,⟨(d:Int),h⟩)=some (!c.parts.all fun x=>Wm x d h):=by
  unfold qp QK;refine Ir (Uj c.parts (fun x=> !Wm x d h) (by omega) (fun i hi=> ?_) ?_) ((Vo _ _).trans (bK _ _))
  ·have hm:=Vg (f:=Zd) (Nb hi);simp only[ZY hi,Ca,Zu hi,ze,Aa,kH,nY];rw[wP (N:=zy (zA c)) hS (by omega) (by omega) hd];rfl
  ·simp only[ZM,Ba]
 have hl: ∀p:Bool,Zl (fun(s1:Int)=>
    bif decide (s1<(c.combs.length:Int))then
     ze (geti c.combs s1) fun y2=>
     bif bif decide ((y2.toNat:Int)<1)then true else decide ((y2.toNat:Int)>4)then
      some (LO.ret false)
     else
      some (LO.again (w64 (s1+1)))
    else
     some (LO.out ())) 0 (fun _=>some p)=some (c.combs.all Au&&p):=by
  intro p;refine(IA c.combs (fun b=>bif Au b then none else some false) () (fun i hi=> ?_) ?_).trans ?_
  ·simp only[ZY hi,Ca,Zu hi,ze,Aa,Zw hi (show c.combs.length<=big by omega)];have g1:decide ((c.combs[i].toNat:Int)<1)= !decide (1<=c.combs[i].toNat):=by
    by_cases hh:1<=c.combs[i].toNat
    ·rw[Fa hh,Ta (by omega)];rfl
    ·rw[Ta hh,Fa (by omega)];rfl
   have g2:decide ((c.combs[i].toNat:Int)>4)= !decide (c.combs[i].toNat<=4):=ik _ 4;rw[g1,g2];unfold Au;cases decide (1<=c.combs[i].toNat)<;>cases decide (c.combs[i].toNat<=4)<;>rfl
  ·simp only[ZM,Ba]
  ·rw[Nv];cases c.combs.all Au<;>rfl
 simp only[hcon,ze,Aa,e1,e2,e3,Bool.not_not]at hl ⊢;rw[hl];cases (b==(c.lead != 0))<;>cases decide (c.lead<=4)<;>cases decide (c.combs.length+1=c.parts.length)<;>cases decide (c.parts.length<=64)<;>rfl
set_option maxRecDepth 100000
def uf(v:List za)(n:Nat):zk:=match v[n]? with
 |some a=>a.token
 |none=>⟨0,[],0,[],false⟩
theorem kF{v:List za}{n:Nat}(h:n<v.length):uf v n=v[n].token:=by unfold uf;rw[Ra h]
theorem Cr{v:List za}{n:Nat}(h:(uf v n).kind≠0):n<v.length:=by
 unfold uf at h;cases hn:v[n]? with
 |none=>rw[hn]at h;exact absurd rfl h
 |some a=>exact(Ma.1 hn).1
theorem Ol{v:List za}{n:Nat}{k:Int}(h:((uf v n).kind==k)=true)(hk:k≠0):n<v.length:=
 Cr (by rw[Ob]at h;rw[h];exact hk)
def zT(v:List za)(n:Nat):Nat:=zL zf (v.take n)
theorem jh{α:Type}(f:α->List PV): ∀(a b:List α),zL f (a++b)=zL f a+zL f b
 |[],b=>by rw[Lh,Gc,Ad]
 |v::a,b=>by rw[Bb,ZI,ZI,jh f a b];omega
theorem zFC{v:List za}{n:Nat}(h:n<v.length):zT v (n+1)=zT v n+zy (zf v[n]):=by unfold zT;rw[Lc h,jh,ZI,Lh,Kc]
theorem Gy{v:List za}{n m:Nat}(h:n<=m):zT v n<=zT v m:=Gg (List.take_sublist_take_left h)
theorem Mi(v:List za)(n:Nat):zT v n<=zL zf v:=Gg (List.take_sublist ..)
theorem Fj{v:List za}{n:Nat}(h:n<v.length):zT v n+6+(uf v n).text.length+zL zf v[n].list<=zT v (n+1):=by have:=Q5 v[n];rw[zFC h,kF h];omega
theorem yn(v:List za)(n:Nat):(uf v n).text.length<=zL zf v:=by
 by_cases h:n<v.length
 ·have:=Fj h;have:=Mi v (n+1);omega
 ·unfold uf;rw[af (by omega)];exact Va _
theorem zLen(v:List za):v.length<=zL zf v:=Qw (fun x=>by have:=Q5 x;omega) v
theorem Vp{n:Nat}(h:n<=2*big):w64 (n:Int)=(n:Int):=by rw[w64,Qb (by omega) (by unfold big at h;omega)]
theorem wh{n:Nat}(h:n<2*big):w64 ((n:Int)+1)=((n+1:Nat):Int):=Vp (n:=n+1) h
theorem zHz{n:Nat}(h:n+1<2*big):w64 ((n:Int)+2)=((n+2:Nat):Int):=Vp (n:=n+2) h
theorem lJ{v:List za}{k:Int}{m:Nat}{n:Int}(e:w64 (n+k)=(m:Int)):zZ (k,⟨v,n⟩)=some (uf v m):=by
 unfold zZ uf;simp only[e];by_cases h:m<v.length
 ·rw[ZY h,Ca,Zu h,Ra h];rfl
 ·rw[Ta (by omega),Ba,af (by omega)]
theorem pkA0(v:List za){n:Nat}(h:n<=2*big):zZ (0,⟨v,(n:Int)⟩)=some (uf v n):=lJ (by rw[Int.add_zero];exact Vp h)
theorem pkA1(v:List za){n:Nat}(h:n<2*big):zZ (1,⟨v,(n:Int)⟩)=some (uf v (n+1)):=lJ (wh h)
section
variable {v:List za} (hv:v.length<=big)
include hv
theorem FO{n:Nat}(hn:n<=v.length+2):Has (Zj ⟨v,(n:Int)⟩) fun y=> ∃m:Nat,y.2=⟨v,(m:Int)⟩/\n<=m/\(m=n\/m<=v.length):=by have hb:big=4194304:=rfl;unfold Zj;refine Has.loop (fun s=> ∃m:Nat,s=⟨v,(m:Int)⟩/\n<=m/\(m=n\/m<=v.length)) (fun s=>v.length+3 - s.at_.toNat) (P:=fun s=> ∃m:Nat,s=⟨v,(m:Int)⟩/\n<=m/\(m=n\/m<=v.length)) ⟨n,rfl,Sa _, .inl rfl⟩ (fun s ⟨m,e,h1,h2⟩=> ?_) fun x hx=>Has.some hx;subst e;refine Has.bind (Has.of (pkA0 v (by omega)) rfl) fun y hy=> ?_;subst hy;refine Has.bif (fun h=> ?_) fun h=>Has.some ⟨m,rfl,h1,h2⟩;have hl:=Ol h (by decide);refine Has.some ⟨⟨m+1,by rw[wh (by omega)],by omega, .inr hl⟩,?_⟩;show v.length+3 - (w64 ((m:Int)+1)).toNat<v.length+3 - ((m:Int)).toNat;rw[wh (by omega)];omega
theorem PL(s:Str){n:Nat}(hn:n<=v.length+2):Has (ZZ (s,⟨v,(n:Int)⟩)) fun y=>(y.1=false/\y.2=⟨v,(n:Int)⟩)\/(y.1=true/\y.2=⟨v,((n+1:Nat):Int)⟩/\n<v.length):=by have hb:big=4194304:=rfl;unfold ZZ;refine Has.bind (Has.of (pkA0 v (by omega)) rfl) fun y hy=> ?_;subst hy;refine Has.bif (fun h=>Has.some (.inl ⟨rfl,rfl⟩)) fun h=>Has.some (.inr ⟨rfl,by rw[wh (by omega)],?_⟩);refine Cr fun e=> ?_;simp only[e]at h;cases h
theorem zBq{n:Nat}(hn:n<=v.length+2):Has (qM ⟨v,(n:Int)⟩) fun y=>0<=y.1/\y.1<=255/\ ∃m:Nat,y.2=⟨v,(m:Int)⟩/\n<=m/\(m=n\/m<=v.length):=by
 unfold qM;refine Has.loop (fun s=> ∃i:Nat,i<=3/\s=((i:Int),⟨v,(n:Int)⟩)) (fun s=>3 - s.1.toNat) (P:=fun s=>s=⟨v,(n:Int)⟩) ⟨0,by decide,rfl⟩ (fun s ⟨i,hi,e⟩=> ?_) fun x hx=>Has.some ⟨Int.le_refl 0,by show(0:Int)<=255;decide,n,hx,Sa _, .inl rfl⟩;subst e;refine Has.bif (fun h=> ?_) fun h=>Has.some rfl;have hi3:i<3:=by have:=Ub h;omega
 have e1:w64 ((i:Int)+1)=((i+1:Nat):Int):=wh (by unfold big;omega);refine Has.need (by rw[e1,Ea,Ea,Ua,Ua,Ua];omega) ?_;refine Has.bind (PL hv _ hn) fun y hy=> ?_;obtain⟨b,r⟩:=y;rcases hy with⟨rfl,h2⟩|⟨rfl,h2,h3⟩<;>(have h2:r=_:=h2;subst h2)
 ·refine Has.bif (fun h=>nomatch h) fun _=>Has.some ⟨⟨i+1,hi3,by rw[e1]⟩,?_⟩;show 3 - (w64 ((i:Int)+1)).toNat<3 - (i:Int).toNat;rw[e1];omega
 ·refine Has.bif (fun _=> ?_) fun h=>nomatch h;refine Has.bind (FO hv (n:=n+1) (by omega)) fun z ⟨m,h4,h5,h6⟩=>Has.some ?_;have hw: ∀k:Int,0<=wu8 k/\wu8 k<=255:=fun k=>by show 0<=IntKind.u8.wrap k/\IntKind.u8.wrap k<=255;rw[IntKind.wrap_u8];omega
  exact⟨(hw _).1,(hw _).2,m,h4,by omega, .inr (by omega)⟩
end
section
variable {v:List za} {n:Nat} {β:Type} {Q:β->Prop} (hv:v.length<=big) (hn:n<=v.length+2)
include hv hn
theorem bSp{f:Bool×zq->Option β}(g: ∀(b:Bool) (m:Nat),n<=m->(m=n\/m<=v.length)->Has (f (b,⟨v,(m:Int)⟩)) Q):Has (ze (Zj ⟨v,(n:Int)⟩) f) Q:=
 Has.bind (FO hv hn) fun⟨b,r⟩ ⟨m,e,h1,h2⟩=>by have e:r=_:=e;subst e;exact g b m h1 h2
theorem bPk0{f:zk->Option β}(g:Has (f (uf v n)) Q):Has (ze (zZ (0,⟨v,(n:Int)⟩)) f) Q:=
 Has.bind (Has.of (pkA0 v (by unfold big at *; omega)) rfl) fun y hy=>by subst hy;exact g
theorem bPk1{f:zk->Option β}(g:Has (f (uf v (n+1))) Q):Has (ze (zZ (1,⟨v,(n:Int)⟩)) f) Q:=
 Has.bind (Has.of (pkA1 v (by unfold big at *; omega)) rfl) fun y hy=>by subst hy;exact g
theorem bBy{s:Str}{f:Bool×zq->Option β}(g0:Has (f (false,⟨v,(n:Int)⟩)) Q)(g1:n<v.length->Has (f (true,⟨v,((n+1:Nat):Int)⟩)) Q):Has (ze (ZZ (s,⟨v,(n:Int)⟩)) f) Q:=
 Has.bind (PL hv s hn) fun⟨b,r⟩ h=>by
  rcases h with⟨e1,e2⟩|⟨e1,e2,h3⟩<;>(have e1:b=_:=e1;have e2:r=_:=e2;subst e1;subst e2)
  ·exact g0
  ·exact g1 h3
theorem bCo{f:Int×zq->Option β}(g: ∀(c:Int) (m:Nat),0<=c->c<=255->n<=m->(m=n\/m<=v.length)->Has (f (c,⟨v,(m:Int)⟩)) Q):Has (ze (qM ⟨v,(n:Int)⟩) f) Q:=
 Has.bind (zBq hv hn) fun⟨c,r⟩ ⟨h1,h2,m,e,h3,h4⟩=>by have e:r=_:=e;subst e;exact g c m h1 h2 h3 h4
theorem at1:w64 ((n:Int)+1)=((n+1:Nat):Int):=wh (by unfold big at *; omega)
theorem at2:w64 ((n:Int)+2)=((n+2:Nat):Int):=zHz (by unfold big at *; omega)
end
theorem bLow{l:Str}{β:Type}{Q:β->Prop}{f:Str->Option β}(h:l.length<=big)(g:Has (f (lowS l)) Q):Has (ze (ZJ l) f) Q:=by rw[Ym h];exact g
theorem Un(s:Str):(lowS s).length=s.length:=by unfold lowS;simp
theorem Uy(v:List za)(n:Int):qN ⟨v,n⟩=some (n==(v.length:Int)):=rfl
theorem XQ(l:List Str)(x:Str)(h:l.length<=big):slices_Index_string (l,x)=some (idxS (fun v=>x==v) l):=by
 unfold slices_Index_string;refine Uj l (fun v=>x==v) h (fun i hi=> ?_) ?_
 ·simp only[ZY hi,Ca,Zu hi,ze,Aa]
 ·simp only[ZM,Ba]
theorem zS(x:zH):zy (Za x)=9+x.name.length+x.value.length+zL zA x.list:=Sm x
theorem zBa{v:List za}(hz:zL zf v<=big):Has (uA v) fun y=>zy (Za y.1)<=9+2*zL zf v:=by
 have hv:v.length<=big:=ma (zLen v) hz;have tl: ∀n,(uf v n).text.length<=big:=fun n=>ma (yn v n) hz;have fin: ∀(k:Int) (n m:Nat) (o:Int) (f:Bool),zy (Za ⟨k,lowS (uf v n).text,o,(uf v m).text,f,⟨0,0⟩,false,[]⟩)<=9+2*zL zf v:=fun k n m o f=>by rw[zS];have:=yn v n;have:=yn v m;have:=Un (uf v n).text;simp only[Lh];omega
 have fin0: ∀(k:Int) (n:Nat) (o:Int) (f:Bool),zy (Za ⟨k,lowS (uf v n).text,o,[],f,⟨0,0⟩,false,[]⟩)<=9+2*zL zf v:=fun k n o f=>by rw[zS];have:=yn v n;have:=Un (uf v n).text;simp only[Lh,Ya];omega
 unfold uA;refine bSp (n:=0) hv (by omega) fun _ a _ ha=> ?_;refine bPk0 hv (by omega) ?_;refine bLow (tl a) ?_;refine bPk0 hv (by omega) ?_;refine Has.bif (fun _=>Has.some (fin0 ..)) fun hk=> ?_;have hla:a<v.length:=Cr fun e=>by(try dsimp only at hk);rw[e]at hk;cases hk
 dsimp only;rw[at1 hv (n:=a) (by omega)];refine bSp hv (by omega) fun _ b _ hb=> ?_;refine Has.eqb (Uy ..) ?_;refine Has.bif (fun _=>Has.some (fin0 ..)) fun _=> ?_;refine Has.join (P:=fun j=> ∃m:Nat,m<=v.length+1/\j.2.1=⟨v,(m:Int)⟩/\ ∃o:Int,j.2.2=(3,lowS (uf v a).text,o,[],false,0,0,false)) ?_ fun j hj=> ?_
 ·refine bBy hv (by omega) ?_ fun hlt=> ?_
  ·refine Has.bif (fun h=>nomatch h) fun _=> ?_;refine bPk0 hv (by omega) ?_;refine Has.bind (P:=fun _=>True) ?_ fun i _=> ?_
   ·exact Has.need (Fa (by show(5:Nat)<_;decide)) (Has.some trivial)
   ·refine Has.bif (fun _=>Has.some (fin0 ..)) fun hk=> ?_;have hlb:b<v.length:=Cr fun e=>by(try dsimp only at hk);rw[e]at hk;cases hk
    dsimp only;rw[at1 hv (n:=b) (by omega)];refine bBy hv (by omega) ?_ fun hlt=> ?_
    ·exact Has.bif (fun _=>Has.some (fin0 ..)) fun h=>nomatch h
    ·exact Has.bif (fun h=>nomatch h) fun _=>Has.some ⟨b+2,by omega,rfl,_,rfl⟩
  ·refine Has.bif (fun _=>Has.some ⟨b+1,by omega,rfl,_,rfl⟩) fun h=>nomatch h
 ·obtain⟨j1,j2,j3⟩:=j;obtain⟨m,hm,e1,o,e2⟩:=hj;have e1:j2=_:=e1;have e2:j3=_:=e2;subst e1 e2;dsimp only;refine bSp hv (by omega) fun _ c _ hc=> ?_;refine bPk0 hv (by omega) ?_;refine Has.bif (fun _=>Has.some (fin0 ..)) fun hk=> ?_;have hlc:c<v.length:=Cr fun e=>by(try dsimp only at hk);rw[e]at hk;cases hk
  dsimp only;rw[at1 hv (n:=c) (by omega)];refine bSp hv (by omega) fun _ d _ hd=> ?_;refine bPk0 hv (by omega) ?_;refine Has.bif (fun hk=> ?_) fun _=> ?_
  ·have hld:d<v.length:=Ol hk (by decide);dsimp only;rw[at1 hv (n:=d) (by omega)];refine bSp hv (by omega) fun _ e _ he=> ?_;refine Has.eqb (dm (tl d) (by decide)) ?_;refine Has.eqb (Uy ..) ?_;refine Has.bind (P:=fun _=>True) (Has.cond (fun _=>Has.of (dm (tl d) (by decide)) trivial) fun _=>trivial) fun _ _=> ?_;exact Has.some (fin ..)
  ·exact Has.eqb (Uy ..)<|Has.some (fin ..)
theorem zCX{s:Str}(h:s.length<=big):Has (rA s) fun y=>zy (Za y.1)=9:=by
 have fin: ∀(k:Int) (a:VAnb),zy (Za ⟨k,[],0,[],false,a,false,[]⟩)=9:=fun k a=>by rw[zS];rfl
 unfold rA;refine bLow h ?_;refine Has.bif (fun _=>Has.some (fin ..)) fun _=>Has.bif (fun _=>Has.some (fin ..)) fun _=> ?_;refine Has.eqb (show Ww ()=some _ from rfl) ?_;refine bLow h ?_;refine Has.bind (P:=fun _=>True) ?_ fun _ _=>Has.some (fin ..);exact Has.of (XQ _ _ (by decide)) trivial
def okT(l:List zk):Prop:= ∀t∈l,t.text.length<=big/\t.unit.length<=big
theorem rE{l:List zk}(h:okT l)(n:Nat):okT (l.drop n):=fun t ht=>h t (Dg ht)
theorem LF{l:List zk}{β:Type}{Q:β->Prop}{f:zk->Option β}(h:l≠[])(g: ∀t∈l,Has (f t) Q):Has (ze (geti l 0) f) Q:=by
 cases l with
 |nil=>exact absurd rfl h
 |cons a r=>exact Has.eqb (show geti (a::r) 0=some a from rfl) (g a (Jb ..))
theorem jq{α:Type}{l:List α}(h:l≠[]):decide (1<=(l.length:Int))=true:=by have:=Tg.2 h;exact Fa (by omega)
theorem dz{l:List zk}(h:okT l):Has (qH ⟨l⟩) fun y=>okT y.l:=by
 unfold qH;refine Has.loop (fun s=>okT s.l) (fun s=>s.l.length) (P:=fun s=>okT s.l) h (fun⟨l⟩ hs=> ?_) fun x hx=>Has.some hx;cases l with
 |nil=>exact Has.of (y:=LO.out (⟨[]⟩:zN)) rfl hs
 |cons a r=> refine Has.eqb (y:=a) (by rw[wu];rfl) ?_;refine Has.bif (fun _=> ?_) fun _=>Has.some hs;refine Has.need (jq (by simp)) (Has.some ⟨rE hs 1,?_⟩);show(List.drop 1 (a::r)).length<(a::r).length;simp
theorem JF{l:List zk}(h:okT l)(k:Int):Has (QT (k,⟨l⟩)) fun y=>okT y.2.l/\y.1.1.text.length<=big/\y.1.1.unit.length<=big:=by
 unfold QT;cases l with
 |nil=>exact Has.of (y:=((⟨0,[],0,[],false⟩,false),(⟨[]⟩:zN))) rfl ⟨h,by decide,by decide⟩
 |cons a r=> refine Has.eqb (y:=a) (by rw[wm];rfl) ?_;refine Has.bif (fun _=>Has.some ⟨h,Va _,Va _⟩) fun _=> ?_;refine LF (by simp) fun t ht=> ?_;exact Has.need (jq (by simp)) (Has.some ⟨rE h 1,h t ht⟩)
theorem wN{l:List zk}(h:okT l):Has (fw ⟨l⟩) fun y=>okT y.2.l:=by unfold fw;exact Has.bind (JF h 10) fun y hy=>Has.some hy.1
theorem tK{l:List zk}(h:okT l):Has (dw ⟨l⟩) fun y=>okT y.2.l:=by
 unfold dw;cases l with
 |nil=>exact Has.of (y:=(0,(⟨[]⟩:zN))) rfl h
 |cons a r=> refine Has.eqb (y:=a) (by rw[wm];rfl) ?_;refine Has.bif (fun _=>Has.some h) fun _=> ?_;refine LF (by simp) fun t ht=> ?_;refine Has.bind (P:=fun _=>True) (Has.need (Fa (by show(3:Nat)<_;decide)) (Has.some trivial)) fun _ _=> ?_;refine LF (by simp) fun u hu=> ?_;refine Has.bind (P:=fun _=>True) (Has.cond (fun _=>Has.of (show geti (a::r) 0=some a from rfl) trivial) fun _=>trivial) fun _ _=> ?_;exact Has.bif (fun _=>Has.need (jq (by simp)) (Has.some (rE h 1))) fun _=>Has.some h
theorem J3(s p:Str):stringslite_HasPrefix (s,p)=some (p.isPrefixOf s):=by
 have h:=Q8 s p;unfold strings_HasPrefix at h;dsimp only at h;cases hx:stringslite_HasPrefix (s,p)with
 |none=>rw[hx]at h;cases h
 |some y=>rw[hx]at h;exact h
theorem Iz(s p:Str):Has (strings_CutPrefix (s,p)) fun y=>y.1.length<=s.length/\(y.2=true->s=p++y.1):=by
 unfold strings_CutPrefix stringslite_CutPrefix;refine Has.bind (P:=fun y=>y.1.length<=s.length/\(y.2=true->s=p++y.1)) ?_ fun y hy=>Has.some hy;refine Has.eqb (J3 s p) ?_;refine Has.bif (fun _=>Has.some ⟨Sa _,fun h=>nomatch h⟩) fun h=> ?_;have hp:p<+:s:=by rw[Bool.not_eq_false']at h;exact List.isPrefixOf_iff_prefix.1 h
 have hl:=hp.length_le;refine Has.need (by rw[Ea,Ua,Ua];dsimp only;omega) (Has.some ⟨by dsimp only;rw[Vb];omega,fun _=> ?_⟩);obtain⟨t,rfl⟩:=hp;dsimp only;rw[List.drop_left]
theorem DD{p:UInt8->Bool}: ∀{l:Str},l.dropWhile p=[]-> ∀b∈l,p b=true
 |[],_,b,hb=>by cases hb
 |a::r,h,b,hb=>by
  rw[Nc]at h;cases ha:p a with
  |false=>rw[ha]at h;cases h
  |true=>
   rw[ha,Ka rfl]at h;rcases Db.1 hb with rfl|hb
   ·exact ha
   ·exact DD h b hb
theorem dw_head{p:UInt8->Bool}: ∀{l:Str} {a:UInt8} {r:Str},l.dropWhile p=a::r->p a=false
 |[],_,_,h=>by cases h
 |c::l,a,r,h=>by
  rw[Nc]at h;cases hc:p c with
  |true=>rw[hc,Ka rfl]at h;exact dw_head h
  |false=> rw[hc,Ha (by decide)]at h;injection h with h1 _;rw[<-h1];exact hc
theorem zCP{p:UInt8->Bool}{l:Str}(h:((l.reverse.dropWhile p).reverse).dropWhile p=[]): ∀b∈l,p b=true:=by
 have h1:=DD h;cases hD:l.reverse.dropWhile p with
 |nil=>exact fun b hb=>DD hD b (List.mem_reverse.2 hb)
 |cons a r=> have h2:=h1 a (by rw[hD];simp);rw[dw_head hD]at h2;cases h2
theorem gN: ∀(l:Str) (M acc:Nat),(∀b∈l,48<=b.toNat/\b.toNat<=57)->MR (Lib.parseUintM M acc l)=false
 |[],M,acc,_=>by unfold Lib.parseUintM;rfl
 |c::r,M,acc,h=>by
  unfold Lib.parseUintM;rw[Ka (h c (Jb ..))];split
  ·rfl
  ·split
   ·rfl
   ·exact gN r M _ fun b hb=>h b (Cb _ hb)
theorem bU{d:Str}(hl:d.length<=big)(h0:d≠[])(h: ∀b∈d,48<=b.toNat/\b.toNat<=57):Has (tu (d,10,64)) fun _=>True:=by
 unfold tu;refine Has.need (by simp only[decide_true,Kb];exact Fa (by unfold big at hl;omega)) ?_;have hs:MR (Lib.parseIntB 64 d)=false:=by
  cases d with
  |nil=>exact absurd rfl h0
  |cons c r=>
   have hc:=h c (Jb ..);have:=gN (c::r) (2 ^ 64 - 1) 0 h;have e:Lib.parseUintB 64 (if c.toNat=43\/c.toNat=45 then r else c::r)=Lib.parseUintM (2 ^ 64 - 1) 0 (c::r):=by rw[Ha (by omega)];unfold Lib.parseUintB;rw[Ha (by simp)]
   unfold Lib.parseIntB;dsimp only;rw[e];split
   ·rename_i e;rw[e]at this;cases this
   ·rfl
   ·split
    ·rfl
    ·split
     ·rfl
     ·rfl
 dsimp only;cases hp:Lib.parseIntB 64 d with
 |ok v=>exact Has.some trivial
 |range=>exact Has.some trivial
 |_=>rw[hp]at hs;cases hs
theorem uN{s:Str}(hs:s.length<=big){l:List zk}(h:okT l):Has (QS (s,⟨l⟩)) fun y=>okT y.2.l:=by
 unfold QS;refine Has.join (P:=fun j=>okT j.2.l) ?_ fun j hj=> ?_
 ·refine Has.bif (fun _=>Has.some h) fun h45=>Has.bif (fun _=> ?_) fun _=> ?_
  ·refine Has.bind (Iz s [45]) fun⟨d,is⟩ hd=> ?_;refine Has.bind (P:=fun z=>z=[]->is=true-> ∀b∈d,48<=b.toNat/\b.toNat<=57) (Has.cond (fun hc=> ?_) fun hc _ hi=> ?_) fun z hz=> ?_
   ·have hdl:=hd.1;refine Has.need (by
     rw[Ea,Ea];exact⟨⟨Fa (by dsimp only at *; unfold big at hs;omega),(show short [48,49,50,51,52,53,54,55,56,57]=true by decide)⟩,(show jg [48,49,50,51,52,53,54,55,56,57]=true by decide)⟩) (Has.some fun hn _ b hb=> ?_)
    have:=zCP (p:=([48,49,50,51,52,53,54,55,56,57]:Str).contains) hn b hb;simp only[List.contains_eq_mem,Ua,Db,Pe,or_false]at this;rcases this with rfl|rfl|rfl|rfl|rfl|rfl|rfl|rfl|rfl|rfl<;>decide
   ·subst hi;cases hc
   ·refine Has.bif (fun _=>Has.some h) fun hf=> ?_;have hi:is=true:=by cases is<;>first|rfl|cases hf
    have hzn:z=[]:=by subst hi;replace hf:(!(z==[]))=false:=hf;rw[Bool.not_eq_false']at hf;exact Ob.1 hf
    have hdl:=hd.1;have hd2:=hd.2 hi;dsimp only at hdl hd2;refine Has.bind (bU (d:=d) (by omega) (fun e=> ?_) (hz hzn hi)) fun y _=> ?_
    ·rw[hd2,e]at h45;cases h45
    ·exact Has.join (P:=fun _=>True) (Has.bif (fun _=>Has.some trivial) fun _=>Has.some trivial) fun _ _=>Has.some h
  ·refine Has.bind (dz h) fun⟨l'⟩ hl'=> ?_;exact Has.bif (fun _=>Has.some hl') fun _=>Has.bind (tK hl') fun y hy=>Has.some hy
 ·obtain⟨j1,⟨j2⟩⟩:=j;refine Has.bind (dz hj) fun⟨l'⟩ hl'=> ?_;exact Has.bind (wN hl') fun y hy=>Has.bif (fun _=>Has.some hy) fun _=>Has.some hy
theorem zAc{l:List zk}(h:okT l):Has (AC ⟨l⟩) fun y=>okT y.2.l:=by
 unfold AC;refine Has.bind (wN h) fun⟨⟨n,is⟩,⟨l1⟩⟩ h1=> ?_;refine Has.bif (fun _=>Has.some h1) fun _=> ?_;refine Has.bind (JF h1 12) fun⟨⟨t,is2⟩,⟨l2⟩⟩ ⟨h2,ht⟩=> ?_;refine Has.bif (fun _=> ?_) fun _=> ?_
 ·refine bLow ht.2 ?_;refine Has.bind (Iz _ _) fun⟨d,i3⟩ hd=> ?_;refine Has.bif (fun _=>Has.some h2) fun _=> ?_;exact Has.bind (uN (by have:=hd.1;rw[Un]at this;dsimp only at *; omega) h2) fun y hy=>Has.some hy
 ·refine Has.bind (tK h2) fun⟨sg,⟨l3⟩⟩ h3=> ?_;refine Has.bind (JF h3 1) fun⟨⟨t4,is4⟩,⟨l4⟩⟩ ⟨h4,ht4⟩=> ?_;refine Has.bif (fun _=>Has.some h4) fun _=> ?_;refine bLow ht4.1 ?_;have hll:=Un t4.text;refine Has.join (P:=fun j=>okT j.2.1.l/\j.1.1.length<=big) ?_ fun⟨⟨j1,j2⟩,⟨j3⟩,j4⟩ ⟨hj,hjl⟩=> ?_
  ·refine Has.bif (fun _=> ?_) fun _=>Has.some ⟨h4,by dsimp only at *; omega⟩;refine Has.bif (fun _=>Has.some h4) fun _=>Has.bif (fun _=>Has.some h4) fun _=> ?_;refine Has.bind (Iz _ _) fun⟨d,i5⟩ hd=> ?_;exact Has.bif (fun _=>Has.some ⟨h4,by have:=hd.1;dsimp only at *; omega⟩) fun _=>Has.some ⟨h4,by dsimp only at *; omega⟩
  ·refine Has.bind (Iz _ _) fun⟨d,i5⟩ hd=> ?_;refine Has.bif (fun _=>Has.some hj) fun _=> ?_;exact Has.bind (uN (by have:=hd.1;dsimp only at *; omega) hj) fun y hy=>Has.some hy
theorem zDE{l:List zk}(h:okT l):Has (Ox l) fun _=>True:=by unfold Ox;refine Has.bind (dz h) fun⟨l1⟩ h1=> ?_;refine Has.bind (zAc h1) fun⟨⟨a,f⟩,⟨l2⟩⟩ h2=> ?_;refine Has.bind (dz h2) fun⟨l3⟩ h3=> ?_;refine Has.bind (P:=fun _=>True) (Has.cond (fun _=>Has.of (NP _) trivial) fun _=>trivial) fun _ _=> ?_;exact Has.bif (fun _=>Has.some trivial) fun _=>Has.some trivial
mutual
theorem zFq: ∀(v:za) (t:zk),t∈tokV v->t.text.length<=zy (zf v)/\t.unit.length<=zy (zf v)
 |⟨a,l⟩,t,h=>by
  have hz:=Q5 ⟨a,l⟩;dsimp only at hz;rw[tokV]at h;rcases Db.1 h with rfl|h
  ·omega
  ·split at h
   ·cases h
   ·rcases Jc.1 h with h|h
    ·have:=lD l t h;omega
    ·obtain rfl:=Oc.1 h;exact⟨Va _,Va _⟩
theorem lD: ∀(l:List za) (t:zk),t∈tokL l->t.text.length<=zL zf l/\t.unit.length<=zL zf l
 |[],t,h=>by rw[tokL]at h;cases h
 |v::l,t,h=>by
  rw[tokL]at h;rw[ZI];rcases Jc.1 h with h|h
  ·have:=zFq v t h;omega
  ·have:=lD l t h;omega
end
theorem zFp{l:List za}(h:zL zf l<=big):okT (tokL l):=fun t ht=>by have:=lD l t ht;omega
def Ui(p:zg):Prop:= ∃(d:Nat) (h:Bool),d<=3/\p=⟨(d:Int),h⟩
theorem xM{p:zg}(hp:Ui p)(k:Int):Has (qZ (p,k)) fun y=>Ui y.1:=by
 obtain⟨d,h,hd,rfl⟩:=hp;refine Has.of (uO hd h k) ?_;cases hc:(d==3||h&&k==14)with
 |true=>exact⟨0,false,by decide,rfl⟩
 |false=> refine⟨d+1,_,?_,rfl⟩;rw[Ue]at hc;have:=Ga.1 hc.1;omega
theorem rR(v:List za)(n:Nat):zL zf (v.drop n)<=zL zf v:=Gg (List.drop_sublist ..)
theorem zHB(v:List za)(n:Nat):zL zf (v.take n)<=zL zf v:=Gg (List.take_sublist ..)
theorem TS(v:List za)(h:zL zf v<=big):szL v<=big:=ma (Dj v) h
theorem bW{v:List za}(hz:zL zf v<=big):Has (qW v) fun i=> -1<=i/\i<v.length:=by
 have hv:v.length<=big:=ma (zLen v) hz;unfold qW;refine Has.of (Uj v (fun y=>y.token.kind==1&&(lowS y.token.text==lowS [111,102])) hv (fun i hi=> ?_) ?_) (rD _ _)
 ·have ht:v[i].token.text.length<=big:=by have:=yn v i;rw[kF hi]at this;omega
  simp only[ZY hi,Ca,Zu hi,ze,Aa,XH,dm ht (show([111,102]:Str).length<=big by decide),ZF];cases v[i].token.kind==1<;>rfl
 ·simp only[ZM,Ba]
section
variable {S:List za×zg×Bool×Bool->Option (List zu×Bool)} {N:Nat}
variable (hS: ∀(l:List za) (p:zg) (a b:Bool),Ui p->zL zf l<N->Has (S (l,p,a,b)) fun y=>zL zA y.1<=3*zL zf l) (hN:N<=big)
include hS hN
theorem zEI{v:List za}(hz:zL zf v<N){p:zg}(hp:Ui p)(k:Int):Has (Ep S (⟨k,[],0,[],false,⟨0,0⟩,false,[]⟩,v,p)) fun y=>zy (Za y.1)<=9+3*zL zf v:=by
 have fin: ∀(a:VAnb) (o:Bool) (l:List zu),zL zA l<=3*zL zf v->zy (Za ⟨k,[],0,[],false,a,o,l⟩)<=9+3*zL zf v:=fun a o l hl=>by rw[zS];simp only[Ya];omega
 unfold Ep;refine Has.bind (bW (v:=v) (by omega)) fun i hi=> ?_;refine Has.join (P:=fun j=>(∃m:Nat,j.1=v.take m)/\ ∃(o:Bool) (l:List zu),j.2.1=⟨k,[],0,[],false,⟨0,0⟩,o,l⟩/\zL zA l<=3*zL zf v) ?_ fun j hj=> ?_
 ·refine Has.bif (fun h=> ?_) fun _=>Has.some ⟨⟨v.length,(Cf ..).symm⟩,false,[],rfl,Va _⟩;have h0:0<=i:=Ub h;obtain⟨n,rfl⟩: ∃n:Nat,i=(n:Int):=⟨i.toNat,by omega⟩;have hl:=zLen v;have e1:w64 ((n:Int)+1)=((n+1:Nat):Int):=wh (by unfold big at *; omega);refine Has.bind (xM hp _) fun q hq=> ?_;refine Has.need (by dsimp only;rw[e1,Ea,Ua,Ua];omega) ?_;refine Has.bind (hS _ _ _ _ hq (Nat.lt_of_le_of_lt (rR ..) hz)) fun y hy=> ?_;refine Has.bif (fun _=>Has.some (fin _ _ _ (Va _))) fun _=> ?_;refine Has.need (by rw[Ea,Ua,Ua];dsimp only;omega) ?_;refine Has.some ⟨⟨n,rfl⟩,true,y.1,rfl,?_⟩;have:=rR v (w64 ((n:Int)+1)).toNat;have hy:zL zA y.1<=3*zL zf (List.drop (w64 ((n:Int)+1)).toNat v):=hy;omega
 ·obtain⟨j1,j2,j3⟩:=j;obtain⟨⟨m,e1⟩,o,l,e2,hl⟩:=hj;have e1:j1=_:=e1;have e2:j2=_:=e2;subst e1 e2;dsimp only;have h1:=zHB v m;refine Has.eqb (gP (TS _ (by omega))) ?_;refine Has.bif (fun _=>Has.some (fin _ _ _ hl)) fun he=> ?_;refine Has.bind (zDE ?_) fun z _=>Has.some (fin _ _ _ hl);by_cases h0:errS (v.take m)=0
  ·rw[Ka h0];exact zFp (by omega)
  ·rw[Ha h0];exact fun t ht=>nomatch ht
theorem zBO{s:Str}(hs:s.length<=big){v:List za}(hz:zL zf v<N){p:zg}(hp:Ui p):Has (qY S (s,v,p)) fun y=>zy (Za y.1)<=9+3*zL zf v:=by
 have fin: ∀(k:Int) (l:List zu),zL zA l<=3*zL zf v->zy (Za ⟨k,[],0,[],false,⟨0,0⟩,false,l⟩)<=9+3*zL zf v:=fun k l hl=>by rw[zS];simp only[Ya];omega
 unfold qY;refine Has.eqb (show Ww ()=some _ from rfl) ?_;refine bLow hs ?_;refine Has.bind (P:=fun _=>True) (Has.of (XQ _ _ (by decide)) trivial) fun i _=> ?_;refine Has.bif (fun _=>Has.some (fin _ _ (Va _))) fun _=> ?_;refine Has.bif (fun _=> ?_) fun _=> ?_
 ·refine Has.bind (zEI hS hN hz hp _) fun y hy=>Has.some ?_;dsimp only;rw[jm];exact hy
 ·refine Has.bind (xM hp _) fun q hq=> ?_;refine Has.bif (fun _=>Has.some (fin _ _ (Va _))) fun _=> ?_;exact Has.bind (hS _ _ _ _ hq hz) fun y hy=>Has.some (fin _ _ hy)
theorem lX{v:List za}(hz:zL zf v<=N){p:zg}(hp:Ui p){n:Nat}(hn:n<=v.length):
  Has (ZR S (p,⟨v,(n:Int)⟩)) fun y=> ∃m:Nat,y.2=⟨v,(m:Int)⟩/\n<=m/\m<=v.length+2/\(y.1.2=true->m<=v.length/\zL Za y.1.1+6*y.1.1.length+3*zT v n<=3*zT v m):=by
 have hv:v.length<=big:=by have:=zLen v;omega
 have tl: ∀n,(uf v n).text.length<=big:=fun n=>by have:=yn v n;omega
 unfold ZR;refine Has.loop (fun s=> ∃m:Nat,s.1=⟨v,(m:Int)⟩/\n<=m/\m<=v.length/\zL Za s.2+6*s.2.length+3*zT v n<=3*zT v m) (fun s=>v.length - s.1.at_.toNat) (P:=fun _=>False)
  ⟨n,rfl,Sa _,hn,by show 0+6*0+_<=_;omega⟩ (fun s ⟨m,e,h1,h2,h3⟩=> ?_) fun x hx=>hx.elim
 obtain⟨s1,l⟩:=s;have e:s1=_:=e;subst e;dsimp only at h3 ⊢;refine bPk1 hv (by omega) ?_;refine Has.join (P:=fun j=> ∃m':Nat,j.2.1=⟨v,(m':Int)⟩/\m<m'/\m'<=v.length+2/\j.2.2.1=l/\(j.1=true->m'<=v.length/\zy (Za j.2.2.2)+6+3*zT v m<=3*zT v m')) ?_ fun j hj=> ?_
 ·refine bPk0 hv (by omega) ?_;have zs: ∀(k:Int) (s:Str),zy (Za ⟨k,s,0,[],false,⟨0,0⟩,false,[]⟩)=9+s.length:=fun k s=>by rw[zS];simp only[Lh,Ya];omega
  refine Has.bif (fun hk=> ?_) fun _=>Has.bif (fun hk=> ?_) fun _=>Has.bif (fun hk=> ?_) fun _=>Has.bif (fun hk=> ?_) fun _=> ?_
  ·have hl:=Ol hk (by decide);have:=Fj hl;refine Has.some ⟨m+1,by dsimp only;rw[at1 hv (n:=m) (by omega)],by omega,by omega,rfl,fun _=>⟨hl,?_⟩⟩;dsimp only;rw[zs];omega
  ·have hl:m<v.length:=Cr fun e=>by rw[e]at hk;cases hk
   refine Has.some ⟨m+2,by dsimp only;rw[at2 hv (n:=m) (by omega)],by omega,by omega,rfl,fun hf=> ?_⟩;have hl2:=Ol hf (by decide);have:=Fj hl;have:=Fj hl2;have e2:zT v (m+1+1)=zT v (m+2):=rfl;refine⟨hl2,?_⟩;dsimp only;rw[zs];omega
  ·have hl:=Ol hk (by decide);have h4:=Fj hl;have h5:=Mi v (m+1);refine Has.bind (P:=fun y=>y=v[m].list) ?_ fun y hy=> ?_
   ·unfold Qt;dsimp only;rw[Int.add_zero,Vp (by unfold big at *; omega),Zu hl];exact Has.some rfl
   ·subst hy;refine Has.bind (zBa (by omega)) fun y hy=> ?_;refine Has.some ⟨m+1,by dsimp only;rw[at1 hv (n:=m) (by omega)],by omega,by omega,rfl,fun _=>⟨hl,?_⟩⟩;dsimp only;rw[jm];omega
  ·have hl:=Ol hk (by decide);have h4:=Fj hl;refine Has.join (P:=fun j=>j.2.1=⟨v,(m:Int)⟩/\(j.1=true->m+1<v.length/\zy (Za j.2.2)+6+3*zT v m<=3*zT v (m+2))) ?_ fun j hj=> ?_
   ·refine Has.bif (fun hk2=> ?_) fun _=>Has.bif (fun hk2=> ?_) fun _=>Has.some ⟨rfl,fun h=>nomatch h⟩
    ·have hl2:=Ol hk2 (by decide);have h5:=Fj hl2;refine Has.bind (zCX (tl _)) fun y hy=>Has.some ⟨rfl,fun _=>⟨hl2,?_⟩⟩;dsimp only;rw[jm];show _+6+3*zT v m<=3*zT v (m+1+1);omega
    ·have hl2:=Ol hk2 (by decide);have h5:=Fj hl2;have h6:=Mi v (m+1+1);refine Has.bind (P:=fun y=>y=v[m+1].list) ?_ fun y hy=> ?_
     ·unfold Qt;dsimp only;rw[at1 hv (n:=m) (by omega),Zu hl2];exact Has.some rfl
     ·subst hy;refine Has.bind (zBO hS hN (tl _) (by omega) hp) fun y hy=>Has.some ⟨rfl,fun _=>⟨hl2,?_⟩⟩;dsimp only;rw[jm];show _+6+3*zT v m<=3*zT v (m+1+1);omega
   ·obtain⟨j1,j2,j3⟩:=j;obtain⟨e,h5⟩:=hj;have e:j2=_:=e;subst e;refine Has.some ⟨m+2,by dsimp only;rw[at2 hv (n:=m) (by omega)],by omega,by omega,rfl,fun hf=> ?_⟩;have h6:=h5 hf;refine⟨by omega,?_⟩;dsimp only at h6 ⊢;rw[jm];exact h6.2
  ·exact Has.some ⟨m,rfl,h1,by omega,fun _=>⟨h2,h3⟩⟩
 ·obtain⟨j1,j2,j3,j4⟩:=j;obtain⟨m',e,h4,h5,e2,h6⟩:=hj;have e:j2=_:=e;have e2:j3=_:=e2;subst e e2;refine Has.bif (fun _=>Has.some ⟨m',rfl,by omega,h5,fun h=>nomatch h⟩) fun hf=> ?_;have hf:j1=true:=by cases j1<;>first|rfl|cases hf
  obtain⟨h7,h8⟩:=h6 hf;have h9:=Mi v m';dsimp only at h3 h8;refine Has.need (ZU (by dsimp only;unfold big at *; omega)) ?_;refine Has.some ⟨⟨m',rfl,by omega,h7,?_⟩,?_⟩
  ·dsimp only;rw[jm,jh,ZI,Lh,Ia,Da,Ya];omega
  ·show v.length - (m':Int).toNat<v.length - (m:Int).toNat;omega
end
theorem Sv {α R:Type} {step:Int×Int->Option (LO (Int×Int) Int R)} {k:Int->Option R} (l:List α) (f:α->Nat) (a0 M:Nat) (hb:a0+(l.map f).sum<=M)
  (hg: ∀(i a:Nat) (h:i<l.length),a+f l[i]<=M->step ((a:Int),(i:Int))=some (.again (((a+f l[i]:Nat):Int),((i+1:Nat):Int))))
  (hf: ∀a:Nat,step ((a:Int),(l.length:Int))=some (.out (a:Int))):Zl step ((a0:Int),0) k=k ((a0+(l.map f).sum:Nat):Int):=by
 have key: ∀(m:List α) (i a:Nat),l.drop i=m->i<=l.length->a+(m.map f).sum<=M-> ∃n,qa step n ((a:Int),(i:Int))=some (.out ((a+(m.map f).sum:Nat):Int)):=by
  intro m
  induction m with
  |nil=>
   intro i a hd hi _;have:i=l.length:=by have:=Xc.1 hd;omega
   subst this;exact⟨1,by simp only[qa,hf];simp⟩
  |cons v m ih=>
   intro i a hd hi hM;have hlt:i<l.length:=by
    rcases Ud i l.length with h|h
    ·exact h
    ·rw[List.drop_eq_nil_of_le h]at hd;cases hd
   have hv:l[i]=v:=by have:=Fb hlt;rw[hd]at this;injection this with h1 _;exact h1.symm
   rw[Bc,Je]at hM ⊢;have hs:=hg i a hlt (by rw[hv];omega);rw[hv]at hs;obtain⟨n,hn⟩:=ih (i+1) (a+f v) (by rw[Fb hlt]at hd;injection hd) (by omega) (by omega);refine⟨n+1,?_⟩;simp only[qa,hs];rw[hn,We]
 obtain⟨n,hn⟩:=key l 0 a0 rfl (by omega) hb;replace hn:qa step n ((a0:Int),0)=_:=hn;rw[qU (oh hn)];rfl
mutual
/-- How many complex ones there are, in all. -/
def numL:List zu->Nat
 |[]=>0
 |⟨_,parts,_⟩::r=>1+numQ parts+numL r
def numQ:List zU->Nat
 |[]=>0
 |⟨_,simples⟩::r=>numI simples+numQ r
def numI:List zH->Nat
 |[]=>0
 |⟨_,_,_,_,_,_,_,list⟩::r=>numL list+numI r
end
theorem zEK(l:List zH):numI l=(l.map fun x=>numL x.list).sum:=by
 induction l with
 |nil=>rw[numI];rfl
 |cons x l ih=>obtain⟨⟩:=x;rw[numI,ih];rfl
theorem zEM(l:List zU):numQ l=(l.map fun x=>numI x.simples).sum:=by
 induction l with
 |nil=>rw[numQ];rfl
 |cons x l ih=>obtain⟨⟩:=x;rw[numQ,ih];rfl
theorem zEL(l:List zu):numL l=l.length+(l.map fun x=>numQ x.parts).sum:=by
 induction l with
 |nil=>rw[numL];rfl
 |cons x l ih=>obtain⟨⟩:=x;rw[numL,ih,Bc,Je,Da];dsimp only;omega
mutual
theorem SE: ∀l:List zu,numL l<=zL zA l
 |[]=>by rw[numL];exact Va _
 |⟨a,parts,b⟩::r=>by rw[numL,ZI,oo];have:=pJ parts;have:=SE r;show 1+numQ parts+numL r<=3+zL Zd parts+b.length+_;omega
theorem pJ: ∀l:List zU,numQ l<=zL Zd l
 |[]=>by rw[numQ];exact Va _
 |⟨a,simples⟩::r=>by rw[numQ,ZI,Lp];have:=rJ simples;have:=pJ r;show numI simples+numQ r<=2+a.length+zL Za simples+_;omega
theorem rJ: ∀l:List zH,numI l<=zL Za l
 |[]=>by rw[numI];exact Va _
 |⟨a,b,c,d,e,f,g,list⟩::r=>by rw[numI,ZI,Sm];have:=SE list;have:=rJ r;show numL list+numI r<=9+b.length+d.length+zL zA list+_;omega
end
theorem L8{l:List zu}(h:zL zA l<=big):qP l=some (numL l:Int):=by
 refine ai (fun l=>zL zA l) (fun l=>zL zA l<=big) (fun l=>(numL l:Int)) (fun S l hl hS=> ?_) h;unfold uB;have hn:=SE l;have hlen:=Qw Dw l;rw[zEL]at hn ⊢;refine(Sv l (fun x=>numQ x.parts) l.length big (by omega) (fun i a hi ha=> ?_) (fun a=> ?_)).trans rfl
 ·have hm:=Vg (f:=zA) (Nb hi);have hz:=oo l[i];have hlen2:=Qw Iw l[i].parts;simp only[ZY hi,Ca,Zu hi,ze,Aa,Zw hi (show l.length<=big by omega)];rw[zEM]at ha ⊢;refine(Sv l[i].parts (fun x=>numI x.simples) a big ha (fun j b hj hb=> ?_) (fun a=> ?_)).trans rfl
  ·have hm2:=Vg (f:=Zd) (Nb hj);have hz2:=Lp l[i].parts[j];have hlen3:=Qw gz l[i].parts[j].simples;simp only[ZY hj,Ca,Zu hj,Aa,Zw hj (show l[i].parts.length<=big by omega)];rw[zEK]at hb ⊢;refine(Sv l[i].parts[j].simples (fun x=>numL x.list) b big hb (fun m c hm3 hc=> ?_) (fun a=> ?_)).trans rfl
   ·have hm4:=Vg (f:=Za) (Nb hm3);have hz3:=Sm l[i].parts[j].simples[m];simp only[ZY hm3,Ca,Zu hm3,Aa,Zw hm3 (show l[i].parts[j].simples.length<=big by omega)];rw[hS _ (by show zL zA l[i].parts[j].simples[m].list<=big;omega) (by show zL zA l[i].parts[j].simples[m].list<zL zA l;omega)];simp only[Aa,gD hc]
   ·simp only[ZM,Ba]
  ·simp only[ZM,Ba]
 ·simp only[ZM,Ba]
theorem zBs{c:zU}(hx:zy (Zd c)<=big){p:zg}(hp:Ui p):Has (QA zx (c,p)) fun b=>b=true->c.tag≠[]\/c.simples≠[]:=by
 obtain⟨d,h,hd,rfl⟩:=hp;refine Has.of (wP (S:=zx) (N:=big) (fun z ⟨h1,d',h2,h3⟩ _=> ?_) (Sa _) hx hd h) fun hc=> ?_
 ·obtain⟨c',⟨dp,h'⟩,b⟩:=z;have h3:dp=(d':Int):=h3;subst h3;exact lV h1 h2
 ·rw[MP]at hc;unfold iC at hc;simp only[Ea,Yd,Bool.not_eq_true']at hc;rcases hc.1.2.1 with h1|h1
  ·exact .inl fun e=>by rw[e]at h1;cases h1
  ·exact .inr fun e=>by rw[e]at h1;cases h1
section
variable {S:List za×zg×Bool×Bool->Option (List zu×Bool)} {N:Nat}
variable (hS: ∀(l:List za) (p:zg) (a b:Bool),Ui p->zL zf l<N->Has (S (l,p,a,b)) fun y=>zL zA y.1<=3*zL zf l) (hN:4*N+8<=big)
include hS hN
theorem OX{v:List za}(hz:zL zf v<=N){p:zg}(hp:Ui p)(r:Bool):
  Has (qL S (v,p,r)) fun y=>y.2=true->zy (zA y.1)<=3*zL zf v:=by
 have hv:v.length<=big:=by have:=zLen v;omega
 have tl: ∀n,(uf v n).text.length<=big:=fun n=>by have:=yn v n;omega
 unfold qL;refine bSp (n:=0) hv (by omega) fun _ a _ ha=> ?_;refine Has.join (P:=fun j=> ∃m:Nat,m<=v.length/\j.2.1=⟨v,(m:Int)⟩) ?_ fun j hj=> ?_
 ·refine Has.bif (fun _=> ?_) fun _=>Has.some ⟨a,by omega,rfl⟩;refine bCo hv (by omega) fun c m _ _ _ hm=> ?_;exact Has.bif (fun _=>Has.some ⟨m,by omega,rfl⟩) fun _=>Has.some ⟨m,by omega,rfl⟩
 refine Has.join (P:=fun j:Int×zq×Int=> ∃m:Nat,m<=v.length/\j.2.1=(⟨v,(m:Int)⟩:zq)) (Has.some hj) fun j hj=> ?_;obtain⟨j1,j2,j3⟩:=j;obtain⟨a0,ha0,e⟩:=hj;have e:j2=_:=e;subst e;refine Has.loop (fun s=> ∃m:Nat,m<=v.length/\s.2.1=⟨v,(m:Int)⟩/\zL Zd s.2.2.2.1+s.2.2.2.2.length<=3*zT v m) (fun s=>v.length - s.2.1.at_.toNat)
  (P:=fun s=>zL Zd s.2.2.2.1+s.2.2.2.2.length+3<=3*zL zf v) ⟨a0,ha0,rfl,Va _⟩ (fun s ⟨m,h1,e,h2⟩=> ?_) fun x hx=> ?_
 ·obtain⟨s1,s2,s3,ps,cs⟩:=s;have e:s2=_:=e;subst e;dsimp only at h2;refine Has.join (P:=fun j=> ∃m':Nat,j.2.1=⟨v,(m':Int)⟩/\j.2.2.2.1=ps/\j.2.2.2.2.1=cs/\m<=m'/\m'<=v.length/\((m'=m/\j.2.2.2.2.2=[])\/j.2.2.2.2.2.length+16+3*zT v m<=3*zT v m')) ?_ fun j hj=> ?_
  ·refine bPk0 hv (by omega) ?_;refine Has.bif (fun hk=> ?_) fun _=> ?_
   ·have hl:=Ol hk (by decide);have h3:=Fj hl;have h4:=Un (uf v m).text;refine bLow (tl m) (Has.some ?_);dsimp only;rw[at1 hv (n:=m) (by omega)];have key:(lowS (uf v m).text).length+16+3*zT v m<=3*zT v (m+1):=by omega
    exact⟨m+1,rfl,rfl,rfl,by omega,hl, .inr key⟩
   ·refine bBy hv (by omega) ?_ fun hl=> ?_
    ·exact Has.bif (fun h=>nomatch h) fun _=>Has.some ⟨m,rfl,rfl,rfl,Sa _,h1, .inl ⟨rfl,rfl⟩⟩
    ·have h3:=Fj hl;exact Has.bif (fun _=>Has.some ⟨m+1,rfl,rfl,rfl,by omega,hl, .inr (by show 1+16+3*zT v m<=3*zT v (m+1);omega)⟩) fun h=>nomatch h
  obtain⟨j1,j2,j3,j4,j5,t⟩:=j;obtain⟨m1,e1,e2,e3,h3,h4,h5⟩:=hj;have e1:j2=_:=e1;have e2:j4=ps:=e2;have e3:j5=cs:=e3;subst e1 e2 e3;dsimp only at h2 h5 ⊢;refine Has.bind (lX hS (by omega) hz hp h4) fun⟨⟨l,ok⟩,r2⟩ ⟨m2,e,h6,h7,h8⟩=> ?_;have e:r2=_:=e;subst e;dsimp only at h8 ⊢;have hc0:=Lp ⟨t,l⟩;dsimp only at hc0;refine Has.bind (P:=fun b=>ok=true->b=true->t≠[]\/l≠[]) (Has.cond (fun ho=> ?_) fun _ ho=> ?_) fun b hb=> ?_
  ·have ho:ok=true:=by cases ok<;>first|rfl|cases ho
   obtain⟨h9,h10⟩:=h8 ho;have h11:=Mi v m2;refine(zBs (c:=⟨t,l⟩) ?_ hp).wk fun b hb _=>hb;rw[hc0];rcases h5 with⟨e,e'⟩|h5
   ·rw[e',Ya];omega
   ·omega
  ·subst ho;cases ‹(!(!true))=false›
  refine Has.bif (fun _=>Has.some fun h=>nomatch h) fun hf=> ?_;have ho:ok=true:=by cases ok<;>first|rfl|cases hf
  subst ho;have hb2:b=true:=by cases b<;>first|rfl|cases hf
  obtain⟨h9,h10⟩:=h8 rfl;have hne:=hb rfl hb2;have h11:=Mi v m2;have h12:=Mi v m;have hps:=Qw Iw j4
  -- the compound's size
  have hc1:zy (Zd ⟨t,l⟩)+4+3*zT v m<=3*zT v m2:=by
   rw[hc0];rcases h5 with⟨e,e'⟩|h5
   ·subst e;rw[e',Ya];have:1<=l.length:=by
     rcases hne with h|h
     ·exact absurd e' h
     ·exact Tg.2 h
    omega
   ·omega
  have hm:m<m2:=by
   rcases Ud m m2 with h|h
   ·exact h
   ·have:=Gy (v:=v) h;omega
  have hz2:zL Zd (j4++[⟨t,l⟩])=zL Zd j4+zy (Zd ⟨t,l⟩):=by rw[jh,ZI,Lh,Kc]
  refine Has.need (ZU (by unfold big at *; omega)) ?_;refine bSp hv (by omega) fun sp m3 h13 h14=> ?_;have hm3:=Gy (v:=v) h13;have hm3':=Mi v m3;refine Has.eqb (Uy ..) ?_;refine Has.bif (fun _=>Has.some ?_) fun _=> ?_
  ·show zL Zd (j4++[⟨t,l⟩])+j5.length+3<=3*zL zf v;omega
  refine bCo hv (by omega) fun c m4 hc2 hc3 h15 h16=> ?_;have hm4:=Gy (v:=v) h15;have hm4':=Mi v m4;refine Has.join (P:=fun j=>0<=j.1/\j.1<=255/\j.2.2.2.1=j4++[⟨t,l⟩]/\j.2.2.2.2=j5) ?_ fun j hj=> ?_
  ·exact Has.bif (fun _=>Has.some fun h=>nomatch h) fun _=>Has.bif (fun _=>Has.some ⟨(by decide:(0:Int)<=1),(by decide:(1:Int)<=255),rfl,rfl⟩) fun _=>Has.some ⟨hc2,hc3,rfl,rfl⟩
  obtain⟨k1,k2,k3,k4,k5⟩:=j;obtain⟨g1,g2,g3,g4⟩:=hj;dsimp only at g1 g2 g3 g4;have g4:k5=j5:=g4;subst g3 g4;refine Has.bind (P:=fun _=>True) ?_ fun by_ _=> ?_
  ·unfold Df;dsimp only;rw[Fa g1,Fa g2];exact Has.some trivial
  refine Has.need (ZU (by dsimp only;unfold big at *; omega)) ?_;refine Has.some ⟨⟨m4,by omega,rfl,?_⟩,?_⟩
  ·show zL Zd (j4++[⟨t,l⟩])+(k5++[by_]).length<=3*zT v m4;rw[Ia,Da,Ya];omega
  ·show v.length - (m4:Int).toNat<v.length - (m:Int).toNat;omega
 ·refine Has.some fun _=> ?_;rw[oo];dsimp only at hx ⊢;omega
theorem mV{v:List za}(hz:zL zf v<=N){p:zg}(hp:Ui p)(a b:Bool):
  Has (Qs S (v,p,a,b)) fun y=>zL zA y.1<=3*zL zf v:=by
 have hl:=zLen v;have hb:big=4194304:=rfl;have e1:w64 ((v.length:Int)+1)=((v.length+1:Nat):Int):=wh (by omega);have sub: ∀{f i:Nat},f<=i->zT v f+zL zf (List.drop f (List.take i v))=zT v i:=fun {f i} h=>by unfold zT;rw[<-jh,show List.take f v=List.take f (List.take i v) by rw[List.take_take,Nat.min_eq_left h],Xf]
 unfold Qs;refine Has.loop (fun s=> ∃f i:Nat,f<=i/\i<=v.length+1/\s.1=((f:Int),(i:Int))/\zL zA s.2<=3*zT v f) (fun s=>v.length+1 - s.1.2.toNat) (P:=fun s=>zL zA s<=3*zL zf v)
  ⟨0,0,by omega,by omega,rfl,Va _⟩ (fun s ⟨f,i,h1,h2,e,h3⟩=> ?_) fun x hx=>Has.some hx
 obtain⟨s1,out⟩:=s;have e:s1=_:=e;subst e;dsimp only at h3 ⊢;have hzf:=Mi v f;refine Has.bif (fun hi=> ?_) fun _=>Has.some (by show zL zA out<=_;omega);have hi:i<=v.length:=by rw[e1]at hi;have:=Ub hi;omega
 refine Has.join (P:=fun j=> ∃f':Nat,f'<=i+1/\j.1=((f':Int),(i:Int))/\zL zA j.2<=3*zT v f') ?_ fun j hj=> ?_
 ·refine Has.bind (P:=fun _=>True) (Has.cond (fun h=> ?_) fun _=>trivial) fun y _=> ?_
  ·have:i<v.length:=by have:=Ub h;omega
   rw[Zu this];exact Has.some trivial
  refine Has.bif (fun _=>Has.some ⟨f,by omega,rfl,h3⟩) fun _=> ?_;have hlen:=Qw Dw out;refine Has.join (P:=fun l=>zL zA l<=3*zT v i) ?_ fun l hl2=> ?_
  ·refine Has.need (by simp only[Ea,Ua];omega) ?_;rw[Ib,Ib];have h4:=sub h1;have h5:=Mi v i;refine Has.bind (OX hS hN (v:=List.drop f (List.take i v)) (by omega) hp a) fun y hy=> ?_;refine Has.bif (fun hk=> ?_) fun _=>Has.bif (fun _=>Has.some (Va _)) fun _=>Has.some (by show zL zA out<=_;omega);refine Has.need (ZU (by omega)) (Has.some ?_);have h6:=hy hk;show zL zA (out++[_])<=_;rw[tO,jh,ZI,Lh];omega
  ·refine Has.some ⟨i+1,Sa _,by dsimp only;rw[wh (by omega)],?_⟩;have h6:=Gy (v:=v) (Nat.le_succ i);show zL zA l<=_;exact ma hl2 (Nat.mul_le_mul_left 3 h6)
 ·obtain⟨j1,j2⟩:=j;obtain⟨f',h4,e,h5⟩:=hj;have e:j1=_:=e;subst e;have e2:w64 ((i:Int)+1)=((i+1:Nat):Int):=wh (by omega);refine Has.some ⟨⟨f',i+1,by omega,by omega,by dsimp only;rw[e2],h5⟩,?_⟩;show v.length+1 - (w64 ((i:Int)+1)).toNat<v.length+1 - (i:Int).toNat;rw[e2];omega
end
theorem YU{v:List za}(hz:4*zL zf v+8<=big){p:zg}(hp:Ui p)(a b:Bool):Has (zB (v,p,a,b)) fun y=>zL zA y.1<=3*zL zf v:=
 wy zj5 (fun z=>zL zf z.1) (fun z=>4*zL zf z.1+8<=big/\Ui z.2.1) (fun z y=>zL zA y.1<=3*zL zf z.1)
  (fun S ⟨v,p,a,b⟩ ⟨h1,h2⟩ hS=>mV (N:=zL zf v) (fun l p a b hp hl=>hS (l,p,a,b) ⟨by dsimp only at *; omega,hp⟩ hl) h1 (Sa _) h2 a b) ⟨hz,hp⟩
theorem zAr{v:List za}(hz:4*zL zf v+8<=big):Has (EA v) fun y=>zL zA y.1<=3*zL zf v:=by unfold EA;refine Has.eqb (wo (TS _ (by omega))) ?_;refine Has.bif (fun _=>Has.some (Va _)) fun _=> ?_;refine Has.bind (YU hz ⟨0,false,by decide,rfl⟩ _ _) fun y hy=> ?_;refine Has.bif (fun _=>Has.some (Va _)) fun _=> ?_;refine Has.eqb (L8 (by omega)) ?_;exact Has.bif (fun _=>Has.some (Va _)) fun _=>Has.some hy
end Go.Lv.VT
