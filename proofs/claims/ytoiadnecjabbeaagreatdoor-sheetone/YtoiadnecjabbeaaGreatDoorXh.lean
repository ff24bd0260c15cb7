/- Queries: the program's reader. -/
import Derived.Test.YtoiadnecjabbeaaGreatDoorXg
import Derived.Test.YtoiadnecjabbeaaGreatDoorXf
import Derived.Test.YtoiadnecjabbeaaGreatDoorTy
import Derived.Test.YtoiadnecjabbeaaGreatDoorXc
import Derived.Test.YtoiadnecjabbeaaGreatDoorXe
set_option linter.unusedSimpArgs false
set_option linter.unusedVariables false
namespace Go.Lv.VT
theorem RV{X R:Type}{m:Option (LX X R)}{k:X->Option R}(G:R->Prop)(P:X->Prop)(h:(∃o,m=some (.out o)/\P o)\/(∃r,m=some (.ret r)/\G r))(hk: ∀o,P o-> ∃r,k o=some r/\G r): ∃r,Zv m k=some r/\G r:=by
 rcases h with⟨o,rfl,ho⟩|⟨r,rfl,hr⟩
 ·exact hk o ho
 ·exact⟨r,rfl,hr⟩
theorem zFk:lowS notW=notW:=by decide
def finQ(not:Bool)(l:List zt):zt:=bif not then notC (allC l)else allC l
theorem zBV(not only:Bool)(l:List za):ll not only l=match oq only l with
  |none=>none
  |some x=>(Ui l.tail).map fun r=>finQ not (x::r):=by
 unfold ll;cases oq only l with
 |none=>rfl
 |some x=>cases Ui l.tail with
  |none=>rfl
  |some r=>cases not<;>rfl
def fE(l:List za):List za:=match l with
 |[]=>[]
 |a::r=>bif a.token.kind==21 then r else a::r
theorem RP{l:List za}(hz:zL zg l<=big): ∃c b,qL ⟨l⟩=some ((c,b),⟨fE l⟩)/\MayR (c,b) (Eu l):=by have h:=xW hz;cases l<;>exact h
theorem zDj{l:List za}(hz:zL zg l<=big): ∃r,QZ ⟨l⟩=some r/\MayR r.1 (og l):=by
 unfold QZ;have hz0:zL zg (sp l)<=big:=Ab (Ig (Q6 _)) hz;have hword: ∃(s:Str) (m:List za),qi ([[110,111,116],[111,110,108,121]],⟨sp l⟩)=some (s,⟨m⟩)/\zL zg m<=big/\og l=ll (s==notW) (!(s==[])) (sp m):=by
  rw[Ox [notW,Sy] (sp l) (fun a ha=>(Kn hz0 ha).1) (by intro s hs;simp at hs;rcases hs with rfl|rfl<;>exact⟨by decide,by decide⟩) (by decide)];simp only[Ti,og];have ht:zL zg (sp l).tail<=big:=Ab (Ig (Xh _)) hz0;cases headW notW (sp l)with
  |true=>exact⟨notW,(sp l).tail,rfl,ht,rfl⟩
  |false=>
   cases headW Sy (sp l)with
   |true=>exact⟨Sy,(sp l).tail,rfl,ht,rfl⟩
   |false=>exact⟨[],sp l,rfl,hz0,by rw[Bl];rfl⟩
 obtain⟨s,m,hw,hzm,hq⟩:=hword;simp only[Q4,ze,Aa,hw];rw[hq,zBV];have hz1:zL zg (sp m)<=big:=Ab (Ig (Q6 _)) hzm;generalize sp m=l1 at*;have happ:Zw 0 1 104=true:=qg (by decide);refine RV (fun r:(zt×Bool)×zh=>MayR r.1 _) (fun o:zh×(Int×Str×Int×Str×Bool)×(Int×Str×Int×Str×Bool)×List zt=>o.2.1=(0,[],0,[],false)/\o.2.2.1=(1,[],0,[],false)/\ ∃c,oq (!(s==[])) l1=some c/\o.2.2.2=[c]/\o.1.v=l1.tail) ?_ ?_
 ·simp only[Ko,Aa];cases l1 with
  |nil=> right;refine⟨_,rfl,?_⟩;exact ZM _
  |cons a r=>
   obtain⟨hat,_,_⟩:=Kn hz1 (Fb (a:=a) (l:=r));have hf:=RP hz1;simp only[ai,oq,Eu,fE]at hf ⊢;cases h1:a.token.kind==1 with
   |true=>
    simp only[Da,Km,Aa,Wm hat,J8 (show(lowS a.token.text).length<=big by unfold lowS;rw[ma];exact hat),ZO happ];cases medS (lowS a.token.text)with
    |true=>exact .inl ⟨(⟨r⟩,(0,[],0,[],false),(1,[],0,[],false),[medC (lowS a.token.text)]),rfl,rfl,rfl,_,rfl,rfl,rfl⟩
    |false=> right;simp only[Ua,Da,Ca];exact⟨_,rfl,ZM _⟩
   |false=>
    obtain⟨c,b,g1,g2,g3⟩:=hf;simp only[Ca,g1,Aa,Qz,ZO happ];cases hs:s==[]with
    |false=>
     right;simp only[Ua,Da];cases b<;>exact⟨_,rfl,ZM _⟩
    |true=>
     cases hfs:Ei a with
     |none=> rw[hfs]at g2;obtain rfl:b=false:=g2;exact .inr ⟨_,rfl,ZM _⟩
     |some x=>
      rw[hfs]at g2;obtain rfl:b=true:=g2;obtain rfl:c=x:=g3 x hfs;have h21:(a.token.kind==21)=true:=by
       unfold Ei at hfs;cases hk:a.token.kind==21 with
       |true=>rfl
       |false=>rw[hk]at hfs;cases hfs
      simp only[h21,Da];exact .inl ⟨_,rfl,rfl,rfl,_,rfl,rfl,rfl⟩
 ·rintro⟨⟨v⟩,_,_,acc⟩ ⟨rfl,rfl,c,hc,rfl,hv⟩;have hv:v=l1.tail:=hv;subst hv;have hzt:zL zg l1.tail<=big:=Ab (Ig (Xh _)) hz1;have hlt:=Ag aG l1;have hrs:Ui l1.tail=Ui (sp l1.tail):=by rw[mr,mr (sp l1.tail),Bl]
  simp only[hc,Q4,Aa,hrs];refine XN (fun s:zh×(Int×Str×Int×Str×Bool)×(Int×Str×Int×Str×Bool)×List zt=>s.1.v.length) (fun s=>s.2.1=(0,[],0,[],false)/\s.2.2.1=(1,[],0,[],false)/\sp s.1.v=s.1.v/\zL zg s.1.v<=big/\s.2.2.2.length+s.1.v.length<=big)
   (fun t (r:(zt×Bool)×zh)=>MayR r.1 ((Ui t.1.v).map fun q=>finQ (s==notW) (t.2.2.2++q))) ?_ ?_
  ·rintro⟨⟨v⟩,_,_,acc⟩ ⟨rfl,rfl,hv1,hv2,hv3⟩;simp only at hv1 hv2 hv3;cases v with
   |nil=>
    right;right;refine⟨(⟨[]⟩,(0,[],0,[],false),(1,[],0,[],false),acc),rfl,?_⟩;have hr:Ui []=some []:=by rw[mr,JS]
    simp only[hr,Cc,Ub];cases hn:s==[110,111,116]with
    |true=>exact⟨_,rfl,Nj _⟩
    |false=>exact⟨_,rfl,Nj _⟩
   |cons a r=>
    have hpos:decide (((a::r).length:Int)>0)=true:=Ha (by simp only[Ea];omega);simp only[hpos,Da];rw[Ox [andW] (a::r) (fun x hx=>(Kn hv2 hx).1) (by intro s hs;simp at hs;subst hs;exact⟨by decide,by decide⟩) (by decide)];rw[mr,hv1];simp only[Ti,headW];cases isW andW a with
    |false=> right;left;exact⟨_,rfl,ZM _⟩
    |true=>
     have e0:(andW==([]:Str))=false:=rfl;rw[ZK]at hv2;have hz2:zL zg (sp r)<=big:=Ab (Ig (Q6 _)) (by omega);obtain⟨c,b,g1,g2,g3⟩:=RP hz2;have hlr:=mg r;simp only[Ea]at hv3;simp only[Da,Aa,e0,Ca,je,Q4,g1];cases hsr:sp r with
     |nil=> rw[hsr]at g2;obtain rfl:b=false:=g2;right;left;exact⟨_,rfl,ZM _⟩
     |cons d r'=>
      rw[hsr]at g2 g3 hlr hz2;rw[ZK]at hz2;simp only[Eu,fE]at g2 g3 ⊢;cases hfs:Ei d with
      |none=> rw[hfs]at g2;obtain rfl:b=false:=g2;right;left;exact⟨_,rfl,ZM _⟩
      |some x=>
       rw[hfs]at g2;obtain rfl:b=true:=g2;obtain rfl:c=x:=g3 x hfs;have h21:(d.token.kind==21)=true:=by
        unfold Ei at hfs;cases hk:d.token.kind==21 with
        |true=>rfl
        |false=>rw[hk]at hfs;cases hfs
       have hap:Zw acc.length 1 104=true:=qg (by unfold big at hv3;omega);have hlr':=mg r';rw[Ea]at hlr;left;refine⟨(⟨sp r'⟩,(0,[],0,[],false),(1,[],0,[],false),acc++[c]),?_,⟨rfl,rfl,Bl _,Ab (Ig (Q6 _)) (by omega),?_⟩,?_,?_⟩
       ·simp only[Eb,Ca,hap,ZF,h21,Da,Qz]
       ·simp only[La,Ea,Xa];omega
       ·simp only[Ea];omega
       ·intro q hq;have hsp:Ui (sp r')=Ui r':=by rw[mr,mr r',Bl]
        simp only[hsp]at hq;simp only;cases hr:Ui r' with
        |none=>rw[hr]at hq;exact hq
        |some z=> rw[hr]at hq;simp only[Cc,Ib,Je]at hq ⊢;exact hq
  ·refine⟨rfl,rfl,Bl _,Ab (Ig (Q6 _)) hzt,?_⟩;have:=mg l1.tail;have h1b:1<=big:=by unfold big;omega
   simp only[Ea,Xa,List.length_tail]at*;omega
def Ez:zt:=notC (allC [medC [97,108,108]])
def orN(o:Option zt):zt:=match o with
 |some c=>c
 |none=>Ez
theorem NN(k:Int): ∀(l:List za) (a:List (List za)×List za) (pre:List za),(∀p∈a.1,p.Sublist pre)->a.2.Sublist pre->
  (∀p∈(l.foldl (Xf k) a).1,p.Sublist (pre++l))/\(l.foldl (Xf k) a).2.Sublist (pre++l)
 |[],a,pre,h1,h2=>by rw[Ub];exact⟨h1,h2⟩
 |v::l,a,pre,h1,h2=>by
  have e:pre++v::l=(pre++[v])++l:=by simp
  rw[Ae,e];refine NN k l _ _ ?_ ?_
  ·intro p hp;unfold Xf at hp;split at hp
   ·rw[Ic]at hp;rcases hp with hp|hp
    ·exact(h1 p hp).trans (jd _ _)
    ·rw[Oc]at hp;subst hp;exact h2.trans (jd _ _)
   ·exact(h1 p hp).trans (jd _ _)
  ·unfold Xf;split
   ·exact List.nil_sublist _
   ·exact List.Sublist.append h2 (Ee _)
theorem UW{k:Int}{l p:List za}(h:p∈Tf k l):p.Sublist l:=by
 obtain⟨h1,h2⟩:=NN k l ([],[]) [] (by intro p hp;cases hp) (Ee _);rw[Mc]at h1 h2;unfold Tf at h;rw[Ic]at h;rcases h with h|h
 ·exact h1 p h
 ·rw[Oc]at h;subst h;exact h2
theorem sV(k:Int)(l:List za):(Tf k l).length<=l.length+1:=by obtain⟨_,h,_⟩:=Fw k l ([],[]);unfold Tf Pf;simp only[La,Ea,Xa]at*;omega
theorem wS: ∀l:List za,2*l.length<=zL zg l
 |[]=>by simp
 |v::l=>by have:=wS l;have:=Q8 v;rw[ZK,Ea];omega
theorem OT: ∀{l:List za},sp l=[]-> ∀v∈l,isSp v=true
 |[],_,v,h=>by cases h
 |a::l,hs,v,h=>by
  rw[Cv]at hs;cases ha:isSp a with
  |false=>rw[ha,Ia (by simp)]at hs;cases hs
  |true=>
   rw[ha,Ka rfl]at hs;rcases ja.1 h with rfl|h
   ·exact ha
   ·exact OT hs v h
theorem bL: ∀(l:List za) (b:List za),(∀v∈l,isSp v=true)->(l.foldl (Xf 18) ([],b)).1=[]
 |[],b,_=>rfl
 |v::l,b,h=>by
  have hv:=h v Fb;unfold isSp at hv;have e:(v.token.kind==18)=false:=by rw[Ob]at hv;rw[hv];rfl
  rw[Ae,Xf,e,Ia (by simp)];exact bL l _ fun w hw=>h w (Bb _ hw)
theorem zCf{l:List za}(h:sp l=[]):(Tf 18 l).length=1:=by unfold Tf Pf;rw[bL l [] (OT h)];rfl
def yu(x:List za):zt:=⟨2,[],0,noDC,(Tf 18 x).map fun p=>orN (og p)⟩
def nilC:zt:=⟨0,[],0,noDC,[]⟩
def Xj(x:List za):zt×Int:=
 if errS x=0 then(if sp x=[]then(allC [],0)else if 64<(Tf 18 x).length then(nilC,4)else(yu x,0))else(nilC,errS x)
theorem zBN{x:List za}(hz:zL zg x<=big):xw x=some (Xj x):=by
 unfold xw Xj;have hsz:=Ij x;simp only[sH (show szL x<=big by omega),ze,Aa];by_cases he:errS x=0
 ·have hn: ¬((18:Int)<1\/(24:Int)<18):=by decide
  have e0:((0:Int) != 0)=false:=rfl;simp only[Ka he,Ia hn,e0,Ca,Q4,Aa];have hP:=sV 18 x;have hx2:=wS x;have hb2:2<=big:=by unfold big;omega
  have hmem: ∀p∈Tf 18 x,zL zg p<=big:=fun p hp=>Ab (Ig (UW hp)) hz;have hone:sp x=[]->(Tf 18 x).length=1:=zCf;generalize hPe:Tf 18 x=P at*;have key:(bif decide ((P.length:Int)>64)then some ((⟨0,[],0,(⟨[],[],false⟩:Zh),[]⟩:zt),(4:Int))else
    Zp (fun(s4:Int×(Int×Str×Int×Str×Bool)×List zt)=>
     bif decide (s4.1<(P.length:Int))then
      (geti P s4.1).bind fun y5=>
      (QZ (⟨y5⟩:zh)).bind fun y6=>
      Zv (X:=(Int×Str×Int×Str×Bool)×List zt×zt) (
        bif !y6.1.2 then
         some (LX.out ((s4.2.1.1,s4.2.1.2.1,s4.2.1.2.2.1,s4.2.1.2.2.2.1,s4.2.1.2.2.2.2),s4.2.2,(⟨3,[],0,(⟨[],[],false⟩:Zh),[(⟨1,[],0,(⟨[],[],false⟩:Zh),[(⟨4,[97,108,108],0,(⟨[],[],false⟩:Zh),[]⟩:zt)]⟩:zt)]⟩:zt)))
        else
         some (LX.out ((s4.2.1.1,s4.2.1.2.1,s4.2.1.2.2.1,s4.2.1.2.2.2.1,s4.2.1.2.2.2.2),s4.2.2,(⟨y6.1.1.kind,y6.1.1.name,y6.1.1.num,y6.1.1.decl,y6.1.1.list⟩:zt)))) fun j7=>
      need (Zw j7.2.1.length 1 104)<|
      some (LO.again (w64 (s4.1+1),(j7.1.1,j7.1.2.1,j7.1.2.2.1,j7.1.2.2.2.1,j7.1.2.2.2.2),j7.2.1++[(⟨j7.2.2.kind,j7.2.2.name,j7.2.2.num,j7.2.2.decl,j7.2.2.list⟩:zt)]))
     else
      some (LO.out ((s4.2.1.1,s4.2.1.2.1,s4.2.1.2.2.1,s4.2.1.2.2.2.1,s4.2.1.2.2.2.2),s4.2.2)):Int×(Int×Str×Int×Str×Bool)×List zt->Option (LO (Int×(Int×Str×Int×Str×Bool)×List zt) ((Int×Str×Int×Str×Bool)×List zt) (zt×Int))) (0,(2,[],0,[],false),[]) fun o8=>
    some ((⟨o8.1.1,o8.1.2.1,o8.1.2.2.1,(⟨o8.1.2.2.2.1,[],o8.1.2.2.2.2⟩:Zh),o8.2⟩:zt),(0:Int)))=some (if 64<P.length then(nilC,4)else(⟨2,[],0,noDC,P.map fun p=>orN (og p)⟩,0)):=by
   by_cases h64:64<P.length
   ·have e:decide ((P.length:Int)>64)=true:=Ha (by omega);rw[e,Ka h64];rfl
   ·have e:decide ((P.length:Int)>64)=false:=Ta (by omega);rw[e,Ia h64,Ca];refine(gK P (fun(_:Unit) _=>()) (fun _ i=>((i:Int),(2,[],0,[],false),(P.take i).map fun p=>orN (og p))) (fun _=>((2,[],0,[],false),P.map fun p=>orN (og p))) (a0:=()) rfl ?_ ?_).trans rfl
    ·intro i _ h;have hap:Zw ((P.take i).map fun p=>orN (og p)).length 1 104=true:=by refine qg ?_;rw[ma,Tc];omega
     obtain⟨⟨⟨c,b⟩,rd⟩,g1,g2,g3⟩:=zDj (hmem _ (Pb h));have hc:(bif b then c else Ez)=orN (og P[i]):=by
      cases hq:og P[i]with
      |none=> rw[hq]at g2;obtain rfl:b=false:=g2;rfl
      |some z=> rw[hq]at g2;obtain rfl:b=true:=g2;exact g3 z hq
     have ht:(P.take (i+1)).map (fun p=>orN (og p))=(P.take i).map (fun p=>orN (og p))++[bif b then c else Ez]:=by rw[Kc h,Re,hc];rfl
     simp only[qa h,Da,Zy h,Aa,g1,ht];cases b with
     |false=>simp only[Ua,Da,zJ,hap,ZF,ZI h (show P.length<=big by omega)];rfl
     |true=>simp only[Eb,Ca,Da,zJ,hap,ZF,ZI h (show P.length<=big by omega),Qz]
    ·intro _;simp only[ZU,Ca,Df]
  have hl0:(((sp x).length:Int)==0)=decide (sp x=[]):=by
   cases sp x with
   |nil=>rfl
   |cons a r=> have:(((a::r).length:Int)==0)=false:=Ga.2 (by simp only[Ea];omega);rw[this];rfl
  have h1:((P.length:Int)==1)=decide (P.length=1):=by
   by_cases h:P.length=1
   ·rw[Ha h,h];rfl
   ·rw[Ta h];exact Ga.2 (by omega)
  simp only[hl0,h1];have haske:yu x=⟨2,[],0,noDC,P.map fun p=>orN (og p)⟩:=by unfold yu;rw[hPe]
  rw[haske];by_cases hs:sp x=[]
  ·have e1:=Ha (hone hs);have e2:=Ha hs;simp only[e1,e2,Da,zj1,Ka hs];rfl
  ·have e2:=Ta hs;simp only[e2,Ca,Ia hs];cases decide (P.length=1)with
   |true=>exact key
   |false=>exact key
 ·have e0:(errS x != 0)=true:=We.2 he;simp only[Ia he,e0,Da];rfl
def uD(o:Option Zh):Zh×Bool:=match o with
 |some d=>(d,true)
 |none=>(⟨[],[],false⟩,false)
def oneO(x:List za):Option Zh:=bif (oneS x).2 then some (oneS x).1 else none
theorem zFI{x:List za}(h:(oneS x).2=false):oneS x=noD:=by
 unfold oneS at h ⊢;split
 ·rfl
 ·rename_i n r e;simp only[e]at h;cases hk:n.token.kind==1 with
  |false=>rfl
  |true=>
   simp only[hk,Da]at h ⊢;split
   ·rfl
   ·rename_i c q e2;simp only[e2]at h;cases hc:c.token.kind==16 with
    |false=>rfl
    |true=>
     simp only[hc,Da]at h ⊢;cases hd:Eh ⟨nmD n.token.text,(Hg (q.dropWhile isSp)).1,(Hg (q.dropWhile isSp)).2⟩with
     |false=>rfl
     |true=>rw[hd]at h;cases h
theorem zDa(x:List za):uD (oneO x)=oneS x:=by
 unfold oneO;cases h:(oneS x).2 with
 |true=>show((oneS x).1,true)=_;rw[<-h]
 |false=>rw[zFI h];rfl
theorem TY{x:List za}(hz:zL zg x<=big)(he:errS x=0):WA x=some ((uD (oneO x)).1,(uD (oneO x)).2,0):=by have hsz:=Ij x;unfold WA;have:((0:Int) != 0)=false:=rfl;rw[zDa];simp only[Dp (show szL x<=big by omega),he,this,bP (show szL x<=big by omega),ze,Aa,Ca]
theorem zDo{v:za}{c:Int}(h:shV v c=true):shV v 0=true:=by
 rw[JK]at h ⊢;have e:((0:Int) != 0)=false:=rfl;rw[e];cases h1:(Zf v.token.kind==0&&decide (0<v.list.length))with
 |true=>rw[h1]at h;cases h
 |false=>
  rw[h1]at h;cases h2:(Zf v.token.kind != 0&& !(shL v.list (Zf v.token.kind)))with
  |true=>rw[h2]at h;simp at h
  |false=>rfl
theorem kL{c:Int}: ∀{l:List za},shL l c=true->shL l 0=true
 |[],_=>by rw[shL]
 |v::r,h=>by rw[shL,Fa]at h ⊢;exact⟨zDo h.1,kL h.2⟩
theorem sU{c:Int}{v:za}: ∀{l:List za},shL l c=true->v∈l->shV v c=true
 |[],_,h=>by cases h
 |w::r,h,hv=>by
  rw[shL,Fa]at h;rcases ja.1 hv with rfl|hv
  ·exact h.1
  ·exact sU h.2 hv
theorem mO{v:za}: ∀{l:List za},v∈l->Tk v<=mf l
 |[],h=>by cases h
 |w::r,h=>by
  rw[mf];rcases ja.1 h with rfl|h
  ·omega
  ·have:=mO h;omega
theorem nM{v:za}: ∀{l:List za},v∈l->(tokV v).length<=(tokL l).length
 |[],h=>by cases h
 |w::r,h=>by
  rw[tokL,La];rcases ja.1 h with rfl|h
  ·omega
  ·have:=nM h;omega
theorem JV{l:List za}:errS l=0↔mf l<=16/\(tokL l).length<=1500/\shL l 0=true:=by
 unfold errS;by_cases h1:16<mf l
 ·rw[Ka h1];constructor
  ·intro h;cases h
  ·rintro⟨h,_⟩;omega
 rw[Ia h1];by_cases h2:1500<(tokL l).length
 ·rw[Ka h2];constructor
  ·intro h;cases h
  ·rintro⟨_,h,_⟩;omega
 rw[Ia h2];cases shL l 0 with
 |true=>simp;omega
 |false=>simp
theorem TK{l:List za}(h:errS l=0){a:za}(ha:a∈l)(hk:(a.token.kind==21)=true):errS a.list=0:=by
 rw[Ob]at hk;rw[JV]at h ⊢;obtain⟨h1,h2,h3⟩:=h;have c:Zf a.token.kind=22:=by rw[hk];rfl
 have d:=mO ha;have t:=nM ha;have s:=sU h3 ha;rw[XL,c,Ia (by decide)]at d;rw[Hm,c,Ia (by decide)]at t;simp only[Ea,La,Xa]at t;rw[JK,c]at s;refine⟨by omega,by omega,kL (c:=22) ?_⟩;cases hs:shL a.list 22 with
 |true=>rfl
 |false=>rw[hs]at s;simp at s
def kS(d:Zh):zt:=⟨7,[],0,d,[]⟩
def iq:zt:=⟨8,[],0,noDC,[]⟩
def Og(f:List za->Option zt)(a:za):Option zt:=
 bif a.token.kind==2 then some iq else bif a.token.kind==21 then(match oneO a.list with
  |some d=>some (kS d)
  |none=>match f a.list with
   |some c=>some c
   |none=>some iq)else none
def Ej(f:List za->Option zt)(l:List za):Option zt:=match l with
 |[]=>none
 |a::_=>Og f a
def Dj(f:List za->Option zt)(op:Str):Nat->Bool->List za->Option (List zt)
 |0,_,_=>none
 |n+1,flag,l=>match l with
  |[]=>some []
  |a::r=>bif flag&&(isW op a&&decide ((sp r).length<r.length))then(match sp r with
   |[]=>none
   |b::r'=>match Og f b with
    |none=>none
    |some x=>(Dj f op n (decide ((sp r').length<r'.length)) (sp r')).map (x:: ·))else none
def Yg(f:List za->Option zt)(op:Str)(flag:Bool)(l:List za):Option (List zt):=Dj f op (l.length+1) flag l
theorem dP(f:List za->Option zt)(op:Str): ∀{n m:Nat} {flag:Bool} {l:List za},l.length<n->l.length<m->Dj f op n flag l=Dj f op m flag l
 |0,_,_,_,h,_=>by omega
 |_,0,_,_,_,h=>by omega
 |n+1,m+1,flag,l,h1,h2=>by
  cases l with
  |nil=>rfl
  |cons a r=>
   unfold Dj;simp only;cases flag&&(isW op a&&decide ((sp r).length<r.length))with
   |false=>rfl
   |true=>
    simp only[Da];cases hs:sp r with
    |nil=>rfl
    |cons b r'=>
     have hl:=mg r;have hl2:=mg r';rw[hs,Ea]at hl;rw[Ea]at h1 h2;simp only;cases Og f b with
     |none=>rfl
     |some x=>rw[dP f op (n:=n) (m:=m) (by omega) (by omega)]
theorem YO(f:List za->Option zt)(op:Str)(n:Nat)(flag:Bool)(a:za)(r:List za):Dj f op (n+1) flag (a::r)=
  bif flag&&(isW op a&&decide ((sp r).length<r.length))then(match sp r with
   |[]=>none
   |b::r'=>match Og f b with
    |none=>none
    |some x=>(Dj f op n (decide ((sp r').length<r'.length)) (sp r')).map (x:: ·))else none:=rfl
theorem VN(f:List za->Option zt)(op:Str)(flag:Bool):Yg f op flag []=some []:=rfl
theorem bH(f:List za->Option zt)(op:Str)(flag:Bool)(a:za)(r:List za):Yg f op flag (a::r)=
  bif flag&&(isW op a&&decide ((sp r).length<r.length))then(match sp r with
   |[]=>none
   |b::r'=>match Og f b with
    |none=>none
    |some x=>(Yg f op (decide ((sp r').length<r'.length)) (sp r')).map (x:: ·))else none:=by
 unfold Yg;rw[YO];cases flag&&(isW op a&&decide ((sp r).length<r.length))with
 |false=>rfl
 |true=>
  simp only[Da];cases hs:sp r with
  |nil=>rfl
  |cons b r'=>
   have hl:=mg r;have hl2:=mg r';rw[hs,Ea]at hl;simp only;cases Og f b with
   |none=>rfl
   |some x=>rw[dP f op (n:=(a::r).length) (m:=(sp r').length+1) (by rw[Ea];omega) (by omega)]
def orC(l:List zt):zt:=⟨2,[],0,noDC,l⟩
def Mh(f:List za->Option zt)(l:List za):Option zt:=match sp l with
 |[]=>none
 |a::r=>bif isW notW a then(bif decide ((sp r).length<r.length)&&(sp (sp r).tail).isEmpty then(Ej f (sp r)).map notC else none)else
  match Og f a with
  |none=>none
  |some x=>match sp r with
   |[]=>some x
   |w::t=>bif isW orW w then(Yg f orW (decide ((sp r).length<r.length)) (w::t)).map fun q=>orC (x::q)
    else(Yg f andW (decide ((sp r).length<r.length)) (w::t)).map fun q=>allC (x::q)
theorem tH{f g:List za->Option zt}{a:za}(h:f a.list=g a.list):Og f a=Og g a:=by unfold Og;rw[h]
theorem BP{f g:List za->Option zt}(op:Str): ∀{n:Nat} {flag:Bool} {l:List za},(∀a∈l,f a.list=g a.list)->Dj f op n flag l=Dj g op n flag l
 |0,_,_,_=>rfl
 |n+1,flag,[],_=>rfl
 |n+1,flag,a::r,h=>by
  have hr: ∀b∈sp r,f b.list=g b.list:=fun b hb=>h b (Bb _ ((Q6 r).subset hb));unfold Dj;simp only;cases flag&&(isW op a&&decide ((sp r).length<r.length))with
  |false=>rfl
  |true=>
   simp only[Da];cases hs:sp r with
   |nil=>rfl
   |cons b r'=> rw[hs]at hr;have hr': ∀b∈sp r',f b.list=g b.list:=fun b hb=>hr b (Bb _ ((Q6 r').subset hb));simp only;rw[tH (hr b Fb),BP op hr']
theorem xO{f g:List za->Option zt}{l:List za}(h: ∀a∈l,f a.list=g a.list):Mh f l=Mh g l:=by
 have h0: ∀a∈sp l,f a.list=g a.list:=fun a ha=>h a ((Q6 l).subset ha);unfold Mh;cases hs:sp l with
 |nil=>rfl
 |cons a r=>
  rw[hs]at h0;have hr: ∀b∈sp r,f b.list=g b.list:=fun b hb=>h0 b (Bb _ ((Q6 r).subset hb));have hh:Ej f (sp r)=Ej g (sp r):=by
   cases hs2:sp r with
   |nil=>rfl
   |cons b t=>exact tH (hr b (by rw[hs2];exact Fb))
  simp only;rw[hh,tH (h0 a Fb)];cases hs2:sp r with
  |nil=>rfl
  |cons w t=> rw[hs2]at hr;simp only[Yg,BP _ hr]
def Vl:Nat->List za->Option zt
 |0,_=>none
 |n+1,l=>Mh (Vl n) l
def Pn(l:List za):Option zt:=Vl (zL zg l+1) l
theorem uI{l:List za}{a:za}(ha:a∈l):zL zg a.list<zL zg l:=by have h1:=Ah (f:=zg) ha;have h2:=Q8 a;omega
theorem mP: ∀{n m:Nat} {l:List za},zL zg l<n->zL zg l<m->Vl n l=Vl m l
 |0,_,_,h,_=>by omega
 |_,0,_,_,h=>by omega
 |n+1,m+1,l,h1,h2=>by show Mh (Vl n) l=Mh (Vl m) l;refine xO fun a ha=> ?_;have:=uI ha;exact mP (by omega) (by omega)
theorem OM(l:List za):Pn l=Mh Pn l:=by show Mh (Vl (zL zg l)) l=_;refine xO fun a ha=> ?_;have:=uI ha;exact mP (by omega) (by omega)
def OkV{Y:Type}(T:List za->Option Y)(g:Y->zt×Bool)(f:List za->Option zt)(a:za):Prop:=
 a.token.text.length<=big/\zL zg a.list<=big/\((a.token.kind==21)=true->errS a.list=0/\ ∃y,T a.list=some y/\MayR (g y) (f a.list))
theorem cz{S:zh->Option ((zt×Bool)×zh)}{f:List za->Option zt}{m:List za}(hm: ∀a∈m,OkV (fun l=>S ⟨l⟩) (fun y=>y.1) f a):
  ∃c b v,qh S ⟨m⟩=some ((c,b),⟨v⟩)/\MayR (c,b) (Ej f m)/\(b=true->v=m.tail):=by
 unfold qh;simp only[Ko,ze,Aa];cases m with
 |nil=>exact⟨_,_,_,rfl,ZM _,fun h=>by cases h⟩
 |cons a r=>
  obtain⟨h1,h2,h3⟩:=hm a Fb;simp only[ai,Ej,Og];cases h2k:a.token.kind==2 with
  |true=> simp only[Da,Km,Aa];exact⟨_,_,_,rfl,Nj _,fun _=>rfl⟩
  |false=>
   cases hk:a.token.kind==21 with
   |false=>exact⟨_,_,_,rfl,ZM _,fun h=>by cases h⟩
   |true=>
    obtain⟨he,⟨⟨c,b⟩,rd⟩,g1,g2,g3⟩:=h3 hk;have g1:S ⟨a.list⟩=some ((c,b),rd):=g1;simp only[Ca,Da,Km,Aa,TY h2 he];cases ho:oneO a.list with
    |some d=>exact⟨_,_,_,rfl,Nj _,fun _=>rfl⟩
    |none=>
     have e0:((0:Int)==0)=true:=rfl;simp only[uD,e0,Da,Ca,g1,Aa];cases hf:f a.list with
     |none=> rw[hf]at g2;obtain rfl:b=false:=g2;exact⟨_,_,_,rfl,Nj _,fun _=>rfl⟩
     |some z=> rw[hf]at g2;obtain rfl:b=true:=g2;obtain rfl:c=z:=g3 z hf;simp only[Da,Qz];exact⟨c,_,_,rfl,Nj _,fun _=>rfl⟩
theorem jM{a:za}(h:isW andW a=true):isW orW a=false:=by unfold isW at*;rw[Fa,Ob (a:=lowS a.token.text)]at h;rw[h.2,Bool.and_eq_false_iff];exact .inr rfl
def opW(op:Int)(l:List za):Int:=if op=0 then(bif headW orW l then 2 else 1)else op
def Vp(op:Int):Str:=if op=2 then orW else andW
def resT(f:List za->Option zt)(op:Int)(flag:Bool)(l:List za)(acc:List zt):Option zt:=
 (Yg f (Vp (opW op l)) flag l).map fun q=>⟨opW op l,[],0,noDC,acc++q⟩
theorem zDg{α:Type}(a:α)(r:List α):decide (((a::r).length:Int)>0)=true:=Ha (by simp only[Ea];omega)
theorem len0{α:Type}(l:List α):((l.length:Int)==0)=l.isEmpty:=by
 cases l with
 |nil=>rfl
 |cons a r=>exact Ga.2 (by simp only[Ea];omega)
theorem zAR{S:zh->Option ((zt×Bool)×zh)}{f:List za->Option zt}{l:List za}(hl:l.length<=big)(hm: ∀a∈l,OkV (fun l=>S ⟨l⟩) (fun y=>y.1) f a):
  ∃y,qz S ⟨l⟩=some y/\MayR y.1 (Mh f l):=by
 unfold qz Mh;have hm0: ∀a∈sp l,OkV (fun l=>S ⟨l⟩) (fun y=>y.1) f a:=fun a ha=>hm a ((Q6 l).subset ha);have hl0:(sp l).length<=big:=Ab (mg l) hl;simp only[Q4,ze,Aa];generalize sp l=m at*;rw[Ox [notW] m (fun a ha=>(hm0 a ha).1) (by intro s hs;simp at hs;subst hs;exact⟨by decide,zFk⟩) (by decide)];have e0:(notW==([]:Str))=false:=rfl;have e1:(([]:Str)==([]:Str))=true:=rfl;have happ:Zw 0 1 104=true:=qg (by decide);cases m with
 |nil=> obtain⟨c,b,v,g1,g2,g3⟩:=cz hm0;obtain rfl:b=false:=g2.1;simp only[Ti,headW,Ca,Aa,e1,Eb,g1,Ua,Da];exact⟨_,rfl,ZM _⟩
 |cons a r=>
  have hmr: ∀a∈sp r,OkV (fun l=>S ⟨l⟩) (fun y=>y.1) f a:=fun a ha=>hm0 a (Bb _ ((Q6 r).subset ha));have hlr:(sp r).length<=big:=by have:=mg r;rw[Ea]at hl0;omega
  simp only[Ti,headW];cases hn:isW notW a with
  |true=>
   obtain⟨c,b,v,g1,g2,g3⟩:=cz hmr;simp only[Da,Aa,e0,Ua,je,Q4,g1,Qz,len0];refine⟨_,rfl,?_⟩;cases hh:Ej f (sp r)with
   |none=>
    rw[hh]at g2;obtain rfl:b=false:=g2.1;cases decide ((sp r).length<r.length)&&(sp (sp r).tail).isEmpty<;>exact ZM _
   |some x=>
    rw[hh]at g2;obtain rfl:b=true:=g2.1;obtain rfl:c=x:=g2.2 x rfl;obtain rfl:=g3 rfl;cases decide ((sp r).length<r.length)with
    |false=>exact ZM _
    |true=>
     cases (sp (sp r).tail).isEmpty with
     |false=>exact ZM _
     |true=>exact Nj _
  |false=>
   obtain⟨c,b,v,g1,g2,g3⟩:=cz hm0;simp only[Ej]at g2;simp only[Ca,Aa,e1,Eb,g1];cases hh:Og f a with
   |none=> rw[hh]at g2;obtain rfl:b=false:=g2.1;exact⟨_,rfl,ZM _⟩
   |some x=>
    rw[hh]at g2;obtain rfl:b=true:=g2.1;obtain rfl:c=x:=g2.2 x rfl;obtain rfl:r=v:=(g3 rfl).symm;simp only[Eb,Ca,Q4,je,Aa,Qz,len0];cases hsr:sp r with
    |nil=> simp only;exact⟨((c,true),_),rfl,Nj _⟩
    |cons w t=>
     rw[hsr]at hmr hlr;have hsp:sp (w::t)=w::t:=by rw[<-hsr,Bl]
     have hres:(bif isW orW w then(Yg f orW (decide ((w::t).length<r.length)) (w::t)).map (fun q=>orC (c::q))
       else(Yg f andW (decide ((w::t).length<r.length)) (w::t)).map fun q=>allC (c::q))=resT f 0 (decide ((w::t).length<r.length)) (w::t) [c]:=by
      unfold resT opW headW;rw[Ka rfl];simp only;cases isW orW w<;>rfl
     simp only[List.isEmpty_cons,Ca,hres];generalize decide ((w::t).length<r.length)=flag;refine XN (fun s:Bool×zh×(Int×Str×Int×Str×Bool)×(Int×Str×Int×Str×Bool)×List zt=>s.2.1.v.length)
      (fun s=> ∃op:Int,(op=0\/op=1\/op=2)/\s.2.2.1=(0,[],0,[],false)/\s.2.2.2.1=(op,[],0,[],false)/\sp s.2.1.v=s.2.1.v/\(op=0->s.2.1.v≠[])/\(∀a∈s.2.1.v,OkV (fun l=>S ⟨l⟩) (fun y=>y.1) f a)/\s.2.2.2.2.length+s.2.1.v.length<=big+1)
      (fun s (r:(zt×Bool)×zh)=>MayR r.1 (resT f s.2.2.2.1.1 s.1 s.2.1.v s.2.2.2.2)) ?_ ?_
     ·rintro⟨flag,⟨v⟩,_,_,acc⟩ ⟨op,hop,rfl,rfl,hv,hne,hok,hacc⟩;simp only at hv hne hok hacc;cases v with
      |nil=> have hop0:op≠0:=fun h=>hne h rfl;right;right;refine⟨(⟨[]⟩,(0,[],0,[],false),(op,[],0,[],false),acc),rfl,?_⟩;refine⟨_,rfl,?_⟩;unfold resT opW;rw[Ia hop0,VN,Cc,Ub];exact Nj _
      |cons a r=>
       simp only[zDg,Da];rw[Ox [andW,orW] (a::r) (fun a ha=>(hok a ha).1) (by intro s hs;simp at hs;rcases hs with rfl|rfl<;>exact⟨by decide,by decide⟩) (by decide)];have hokr: ∀a∈sp r,OkV (fun l=>S ⟨l⟩) (fun y=>y.1) f a:=fun a ha=>hok a (Bb _ ((Q6 r).subset ha));obtain⟨c',b,v',k1,k2,k3⟩:=cz hokr;have hlen:=mg r;rw[Ea]at hacc
       -- behind a word
       have tail: ∀(t:Int) (s:Str),(t=1/\s=andW\/t=2/\s=orW)->isW s a=true->(op=0\/op=t)->(bif s==[97,110,100]then(1:Int)else bif s==[111,114]then 2 else 0)=t->
         (∃s':Bool×zh×(Int×Str×Int×Str×Bool)×(Int×Str×Int×Str×Bool)×List zt,
          (bif bif !decide ((sp r).length<r.length)then true else !b then
           some (LO.ret (((⟨t,[],0,(⟨[],[],false⟩:Zh),acc⟩:zt),false),(⟨v'⟩:zh)))
          else
           some (LO.again (decide ((sp v').length<v'.length),(⟨sp v'⟩:zh),((0:Int),([]:Str),(0:Int),([]:Str),false),(t,([]:Str),(0:Int),([]:Str),false),acc++[c'])):
            Option (LO (Bool×zh×(Int×Str×Int×Str×Bool)×(Int×Str×Int×Str×Bool)×List zt) (zh×(Int×Str×Int×Str×Bool)×(Int×Str×Int×Str×Bool)×List zt) ((zt×Bool)×zh)))=some (LO.again s')/\
          (∃op:Int,(op=0\/op=1\/op=2)/\s'.2.2.1=(0,[],0,[],false)/\s'.2.2.2.1=(op,[],0,[],false)/\sp s'.2.1.v=s'.2.1.v/\(op=0->s'.2.1.v≠[])/\(∀a∈s'.2.1.v,OkV (fun l=>S ⟨l⟩) (fun y=>y.1) f a)/\s'.2.2.2.2.length+s'.2.1.v.length<=big+1)/\
          s'.2.1.v.length<(a::r).length/\ ∀q:(zt×Bool)×zh,MayR q.1 (resT f s'.2.2.2.1.1 s'.1 s'.2.1.v s'.2.2.2.2)->MayR q.1 (resT f op true (a::r) acc))\/
         (∃q:(zt×Bool)×zh,(bif bif !decide ((sp r).length<r.length)then true else !b then
           some (LO.ret (((⟨t,[],0,(⟨[],[],false⟩:Zh),acc⟩:zt),false),(⟨v'⟩:zh)))
          else
           some (LO.again (decide ((sp v').length<v'.length),(⟨sp v'⟩:zh),((0:Int),([]:Str),(0:Int),([]:Str),false),(t,([]:Str),(0:Int),([]:Str),false),acc++[c'])):
            Option (LO (Bool×zh×(Int×Str×Int×Str×Bool)×(Int×Str×Int×Str×Bool)×List zt) (zh×(Int×Str×Int×Str×Bool)×(Int×Str×Int×Str×Bool)×List zt) ((zt×Bool)×zh)))=some (LO.ret q)/\MayR q.1 (resT f op true (a::r) acc)):=by
        intro t s hts hs hopt _;have hopw:opW op (a::r)=t:=by
         unfold opW headW;rcases hopt with rfl|rfl
         ·rw[Ka rfl];simp only;rcases hts with⟨rfl,rfl⟩|⟨rfl,rfl⟩
          ·rw[jM hs];rfl
          ·rw[hs];rfl
         ·have:op≠0:=by rcases hts with⟨rfl,_⟩|⟨rfl,_⟩<;>decide
          rw[Ia this]
        have hwo:Vp t=s:=by unfold Vp;rcases hts with⟨rfl,rfl⟩|⟨rfl,rfl⟩<;>rfl
        have hR:resT f op true (a::r) acc=(Yg f s true (a::r)).map fun q=>⟨t,[],0,noDC,acc++q⟩:=by unfold resT;rw[hopw,hwo]
        rw[hR,bH,hs];simp only[Kb];cases decide ((sp r).length<r.length)with
        |false=> right;exact⟨_,rfl,ZM _⟩
        |true=>
         simp only[Da,Eb,Ca];cases hsr:sp r with
         |nil=> rw[hsr]at k2;obtain rfl:b=false:=k2.1;right;exact⟨_,rfl,ZM _⟩
         |cons d r'=>
          rw[hsr]at k2 k3 hlen hokr;simp only[Ej]at k2 ⊢;cases hfd:Og f d with
          |none=> rw[hfd]at k2;obtain rfl:b=false:=k2.1;right;exact⟨_,rfl,ZM _⟩
          |some z=>
           rw[hfd]at k2;obtain rfl:b=true:=k2.1;obtain rfl:c'=z:=k2.2 z rfl;obtain rfl:v'=r':=k3 rfl;have hl2:=mg v';rw[Ea]at hlen;have ht0:t≠0:=by rcases hts with⟨rfl,_⟩|⟨rfl,_⟩<;>decide
           left;refine⟨(decide ((sp v').length<v'.length),⟨sp v'⟩,(0,[],0,[],false),(t,[],0,[],false),acc++[c']),rfl,⟨t,by rcases hts with⟨rfl,_⟩|⟨rfl,_⟩<;>simp,rfl,rfl,Bl _,fun h=>absurd h ht0,?_,?_⟩,?_,?_⟩
           ·intro x hx;exact hokr x (Bb _ ((Q6 v').subset hx))
           ·simp only[La,Ea,Xa];omega
           ·simp only[Ea];omega
           ·intro q hq;unfold resT opW at hq;simp only at hq;rw[Ia ht0,hwo]at hq;cases hmo:Yg f s (decide ((sp v').length<v'.length)) (sp v')with
            |none=>rw[hmo]at hq;exact hq
            |some qq=> rw[hmo]at hq;simp only[Cc,Ib,Je]at hq ⊢;exact hq
       have fail: ∀s:Str,s=Vp (opW op (a::r))->(flag=false\/isW s a=false)->resT f op flag (a::r) acc=none:=by
        intro s hs hfl;unfold resT;rw[<-hs,bH];rcases hfl with rfl|h
        ·rfl
        ·rw[h];cases flag<;>rfl
       have hap:Zw acc.length 1 104=true:=qg (by unfold big at hacc;omega);have q1:(andW==([97,110,100]:Str))=true:=rfl;have q2:(orW==([97,110,100]:Str))=false:=rfl;have q3:(orW==([111,114]:Str))=true:=rfl;have q4:(([]:Str)==([97,110,100]:Str))=false:=rfl;have q5:(([]:Str)==([111,114]:Str))=false:=rfl;have i0:((0:Int)==0)=true:=rfl;have i1:((1:Int)==0)=false:=rfl;have i2:((2:Int)==0)=false:=rfl;simp only[Ti,headW];cases ha:isW andW a with
       |true=>
        simp only[Da,Aa,q1,i1,Ca,je,Q4,k1,hap,ZF,Qz];cases flag with
        |false=> right;left;exact⟨_,rfl,by rw[fail _ rfl (.inl rfl)];exact ZM _⟩
        |true=>
         rcases hop with rfl|rfl|rfl
         ·rcases tail 1 andW (.inl ⟨rfl,rfl⟩) ha (.inl rfl) rfl with h|h
          ·exact .inl h
          ·exact .inr (.inl h)
         ·rcases tail 1 andW (.inl ⟨rfl,rfl⟩) ha (.inr rfl) rfl with h|h
          ·exact .inl h
          ·exact .inr (.inl h)
         ·right;left;exact⟨_,rfl,by rw[fail orW rfl (.inr (jM ha))];exact ZM _⟩
       |false=>
        cases ho:isW orW a with
        |true=>
         simp only[Da,Aa,q2,q3,i2,Ca,je,Q4,k1,hap,ZF,Qz];cases flag with
         |false=> right;left;exact⟨_,rfl,by rw[fail _ rfl (.inl rfl)];exact ZM _⟩
         |true=>
          rcases hop with rfl|rfl|rfl
          ·rcases tail 2 orW (.inr ⟨rfl,rfl⟩) ho (.inl rfl) rfl with h|h
           ·exact .inl h
           ·exact .inr (.inl h)
          ·right;left;exact⟨_,rfl,by rw[fail andW rfl (.inr ha)];exact ZM _⟩
          ·rcases tail 2 orW (.inr ⟨rfl,rfl⟩) ho (.inr rfl) rfl with h|h
           ·exact .inl h
           ·exact .inr (.inl h)
        |false=>
         simp only[Ca,Aa,q4,q5,i0,Da];right;left;refine⟨_,rfl,?_⟩;have hw:isW (Vp (opW op (a::r))) a=false:=by
          unfold Vp;split
          ·exact ho
          ·exact ha
         rw[fail _ rfl (.inr hw)];exact ZM _
     ·exact⟨0, .inl rfl,rfl,rfl,hsp,fun _=>List.cons_ne_nil _ _,hmr,by simp only[Ea,Xa]at *; omega⟩
def xI(f:List za->Option zt)(l:List za):Option zt:=match l with
 |[]=>none
 |a::r=>bif isW notW a then(bif decide ((sp r).length<r.length)&&(sp (sp r).tail).isEmpty then(Ej f (sp r)).map notC else none)else
  match Og f a with
  |none=>none
  |some x=>match sp r with
   |[]=>some x
   |w::t=>bif isW orW w then(Yg f orW (decide ((sp r).length<r.length)) (w::t)).map fun q=>orC (x::q)
    else(Yg f andW (decide ((sp r).length<r.length)) (w::t)).map fun q=>allC (x::q)
theorem zDu(f:List za->Option zt)(l:List za):Mh f l=xI f (sp l):=by unfold Mh xI;cases sp l<;>rfl
theorem zFY{l:List za}(hz:zL zg l<=big)(he:errS l=0): ∃y,Ze ⟨l⟩=some y/\MayR y.1 (Pn l):=by refine LA zg7 (fun x=>zL zg x.v) (fun x=>zL zg x.v<=big/\errS x.v=0) (fun x y=>MayR y.1 (Pn x.v)) (fun S x hx hS=> ?_) (x:=(⟨l⟩:zh)) ⟨hz,he⟩;obtain⟨l⟩:=x;obtain⟨hz,he⟩:=hx;simp only at hz he hS ⊢;rw[OM];have hl:=Ag aG l;refine zAR (by omega) fun a ha=> ?_;obtain⟨h1,h2,h3,h4⟩:=Kn hz ha;refine⟨h1,h3,fun hk=>⟨TK he ha hk,hS ⟨a.list⟩ ⟨h3,TK he ha hk⟩ h4⟩⟩
theorem KM(v:List za):(Hg v).1.Sublist v:=by
 unfold Hg;split
 ·exact Ee _
 ·rename_i t z he;have hv:=JB he;cases !t.isEmpty&&(z.token.kind==1&&lowS z.token.text==impW)with
  |false=>exact Ee _
  |true=>
   rw[Da];split
   ·exact Ee _
   ·rename_i u b hb;have hw:=JB hb;cases Aq b with
    |false=>exact Ee _
    |true=> rw[Da,hv];refine(yj u).trans (List.Sublist.trans ?_ ((yj t).trans (jd t [z])));rw[hw];exact jd u [b]
theorem zC7{x:List za}{d:Zh}(h:oneO x=some d):zA (ZC d)<=zL zg x:=by
 have hx:zL zg (trimS x)<=zL zg x:=Ig ((yj _).trans (Q6 _));unfold oneO at h;cases h2:(oneS x).2 with
 |false=>rw[h2]at h;cases h
 |true=>
  rw[h2,Da]at h;injection h with h;subst h;unfold oneS at h2 ⊢;generalize trimS x=m at*;cases m with
  |nil=>cases h2
  |cons a r=>
   simp only at h2 ⊢;cases h1:a.token.kind==1 with
   |false=>rw[h1]at h2;cases h2
   |true=>
    rw[h1]at h2;simp only[Da]at h2 ⊢;have hsr:zL zg (r.dropWhile isSp)<=zL zg r:=Ig (jb _);cases hs:r.dropWhile isSp with
    |nil=>rw[hs]at h2;cases h2
    |cons c r2=>
     rw[hs]at h2 hsr;simp only at h2 ⊢;cases h3:c.token.kind==16 with
     |false=>rw[h3]at h2;cases h2
     |true=>
      rw[h3]at h2;simp only[Da]at h2 ⊢;cases h4:Eh ⟨nmD a.token.text,(Hg (r2.dropWhile isSp)).1,(Hg (r2.dropWhile isSp)).2⟩with
      |false=>rw[h4]at h2;cases h2
      |true=> rw[Da,Q7];have hv:zL zg (Hg (r2.dropWhile isSp)).1<=zL zg r2:=Ig ((KM _).trans (jb _));have hva:=Q8 a;rw[ZK]at hx hsr;simp only[WT];omega
theorem eD:zA (ZC noDC)=3:=by rw[Q7];rfl
theorem zCnd(k:Int)(n:Str)(u:Int)(d:Zh)(l:List zt):zA (zu ⟨k,n,u,d,l⟩)=4+n.length+zA (ZC d)+zL zu l:=by rw[Hl];simp only;omega
theorem zNil:zL zu []=0:=rfl
theorem lG{f:List za->Option zt}{a:za}{c:zt}(hf: ∀c,f a.list=some c->zA (zu c)<=2*zL zg a.list)(h:Og f a=some c):zA (zu c)<=2*zA (zg a):=by
 have hva:=Q8 a;have ho:zA (zu iq)=7:=by unfold iq;rw[zCnd,eD,zNil];rfl
 unfold Og at h;cases h2:a.token.kind==2 with
 |true=>rw[h2]at h;injection h with h;subst h;omega
 |false=>
  rw[h2]at h;cases h3:a.token.kind==21 with
  |false=>rw[h3]at h;cases h
  |true=>
   rw[h3]at h;simp only[Da,Ca]at h;cases hd:oneO a.list with
   |some d=> rw[hd]at h;injection h with h;subst h;have:=zC7 hd;unfold kS;rw[zCnd,zNil];simp only[Xa];omega
   |none=>
    rw[hd]at h;simp only at h;cases hfl:f a.list with
    |none=>rw[hfl]at h;injection h with h;subst h;omega
    |some z=> rw[hfl]at h;injection h with h;subst h;have:=hf z hfl;omega
theorem UN{f:List za->Option zt}{op:Str}: ∀(n:Nat) {flag:Bool} {l:List za} {q:List zt},l.length<n->(∀a∈l,∀c,f a.list=some c->zA (zu c)<=2*zL zg a.list)->
  Yg f op flag l=some q->zL zu q<=2*zL zg l.tail
 |0,_,_,_,h,_,_=>by omega
 |n+1,flag,[],q,_,_,h=>by rw[VN]at h;injection h with h;subst h;exact Ya _
 |n+1,flag,a::r,q,hn,hf,h=>by
  rw[bH]at h;have hl:=mg r;have hz:=Ig (f:=zg) (Q6 r);rw[Ea]at hn;have hfr: ∀a∈sp r,∀c,f a.list=some c->zA (zu c)<=2*zL zg a.list:=fun b hb=>hf b (Bb _ ((Q6 r).subset hb));cases hg:flag&&(isW op a&&decide ((sp r).length<r.length))with
  |false=>rw[hg]at h;cases h
  |true=>
   rw[hg]at h;simp only[Da]at h;cases hs:sp r with
   |nil=>rw[hs]at h;cases h
   |cons b r'=>
    rw[hs]at h hl hz hfr;simp only at h;cases ht:Og f b with
    |none=>rw[ht]at h;cases h
    |some x=>
     rw[ht]at h;simp only at h;cases hm:Yg f op (decide ((sp r').length<r'.length)) (sp r')with
     |none=>rw[hm]at h;cases h
     |some z=> rw[hm]at h;injection h with h;subst h;have hl':=mg r';rw[Ea]at hl;have h1:=lG (hfr b Fb) ht;have h2:=UN n (l:=sp r') (by omega) (fun c hc=>hfr c (Bb _ ((Q6 r').subset hc))) hm;have h3:=Ig (f:=zg) ((Xh (sp r')).trans (Q6 r'));rw[ZK]at hz;rw[ZK,je];omega
theorem aX{f:List za->Option zt}{l:List za}{c:zt}(hf: ∀a∈l,∀c,f a.list=some c->zA (zu c)<=2*zL zg a.list)(h:Mh f l=some c):zA (zu c)<=2*zL zg l:=by
 rw[zDu]at h;have hz:=Ig (f:=zg) (Q6 l);have hf0: ∀a∈sp l,∀c,f a.list=some c->zA (zu c)<=2*zL zg a.list:=fun b hb=>hf b ((Q6 l).subset hb);generalize sp l=m at*;cases m with
 |nil=>cases h
 |cons a r=>
  unfold xI at h;simp only at h;have hva:=Q8 a;rw[ZK]at hz;have hr:=Ig (f:=zg) (Q6 r);have hfr: ∀a∈sp r,∀c,f a.list=some c->zA (zu c)<=2*zL zg a.list:=fun b hb=>hf0 b (Bb _ ((Q6 r).subset hb));cases hn:isW notW a with
  |true=>
   rw[hn]at h;simp only[Da]at h;cases hg:decide ((sp r).length<r.length)&&(sp (sp r).tail).isEmpty with
   |false=>rw[hg]at h;cases h
   |true=>
    rw[hg]at h;simp only[Da]at h;cases hs:sp r with
    |nil=>rw[hs]at h;cases h
    |cons b t=>
     rw[hs]at h hr hfr;simp only[Ej]at h;cases ht:Og f b with
     |none=>rw[ht]at h;cases h
     |some x=> rw[ht]at h;injection h with h;subst h;have:=lG (hfr b Fb) ht;unfold notC;rw[zCnd,eD,ZK,zNil];rw[ZK]at hr;simp only[Xa];omega
  |false=>
   rw[hn]at h;simp only[Ca]at h;cases ht:Og f a with
   |none=>rw[ht]at h;cases h
   |some x=>
    rw[ht]at h;simp only at h;have h1:=lG (hf0 a Fb) ht;cases hs:sp r with
    |nil=>rw[hs]at h;injection h with h;subst h;omega
    |cons w t=>
     rw[hs]at h hr hfr;simp only at h;have hvw:=Q8 w;rw[ZK]at hr;have more: ∀op q,Yg f op (decide ((w::t).length<r.length)) (w::t)=some q->zL zu q<=2*zL zg t:=fun op q hq=>UN _ (Ke _) hfr hq;cases ho:isW orW w with
     |true=>
      rw[ho]at h;simp only[Da]at h;cases hm:Yg f orW (decide ((w::t).length<r.length)) (w::t)with
      |none=>rw[hm]at h;cases h
      |some q=> rw[hm]at h;injection h with h;subst h;have:=more _ _ hm;unfold orC;rw[zCnd,eD,ZK];simp only[Xa];omega
     |false=>
      rw[ho]at h;simp only[Ca]at h;cases hm:Yg f andW (decide ((w::t).length<r.length)) (w::t)with
      |none=>rw[hm]at h;cases h
      |some q=> rw[hm]at h;injection h with h;subst h;have:=more _ _ hm;unfold allC;rw[zCnd,eD,ZK];simp only[Xa];omega
theorem mM: ∀(n:Nat) {l:List za} {c:zt},zL zg l<n->Pn l=some c->zA (zu c)<=2*zL zg l
 |0,_,_,h,_=>by omega
 |n+1,l,c,hn,h=>by rw[OM]at h;refine aX (fun a ha c hc=> ?_) h;have:=uI ha;exact mM n (by omega) hc
def supS(x:List za):zt×Int:=
 if errS x=0 then(match Pn x with
  |some c=>bif Cw c then(c,0)else(nilC,12)
  |none=>(nilC,12))else(nilC,errS x)
theorem PY{x:List za}(hz:2*zL zg x<=big):Yx x=some (supS x):=by
 unfold Yx supS;have hsz:=Ij x;simp only[Dp (show szL x<=big by omega),ze,Aa];by_cases he:errS x=0
 ·have e0:((0:Int) != 0)=false:=rfl;obtain⟨⟨⟨c,b⟩,rd⟩,g1,g2,g3⟩:=zFY (show zL zg x<=big by omega) he;simp only[he,e0,Ca,Yd,g1,Aa,Qz];cases ht:Pn x with
  |none=> rw[ht]at g2;obtain rfl:b=false:=g2;rfl
  |some z=> rw[ht]at g2;obtain rfl:b=true:=g2;obtain rfl:c=z:=g3 z ht;have:=mM _ (Ke _) ht;simp only[Eb,Ua,Zl,zgY (show zA (zu c)<=big by omega),Aa,Ca];cases Cw c<;>rfl
 ·have e0:(errS x != 0)=true:=We.2 he;simp only[Ia he,e0,Da];rfl
set_option maxRecDepth 100000
def Uf:Nat->List zk->Int->Nat->Option (List za×List zk)
 |0,_,_,_=>none
 |_+1,[],_,_=>some ([],[])
 |n+1,t::r,c,left=>
  if c≠0/\t.kind=c then some ([],r)
  else if Zf t.kind=0 then(Uf n r c left).map fun v=>(⟨t,[]⟩::v.1,v.2)
  else match left with
   |0=>none
   |m+1=>(Uf n r (Zf t.kind) m).bind fun w=>(Uf n w.2 c (m+1)).map fun v=>(⟨t,w.1⟩::v.1,v.2)
theorem UB(n:Nat)(t:zk)(r:List zk)(c:Int)(left:Nat):Uf (n+1) (t::r) c left=if c≠0/\t.kind=c then some ([],r)
  else if Zf t.kind=0 then(Uf n r c left).map fun v=>(⟨t,[]⟩::v.1,v.2)
  else match left with
   |0=>none
   |m+1=>(Uf n r (Zf t.kind) m).bind fun w=>(Uf n w.2 c (m+1)).map fun v=>(⟨t,w.1⟩::v.1,v.2):=rfl
theorem Rw: ∀(n:Nat) (l:List zk) (c:Int) (left:Nat) (v:List za×List zk),Uf n l c left=some v->v.2.length<=l.length/\(l≠[]->v.2.length<l.length)
 |0,_,_,_,_,h=>by cases h
 |n+1,[],c,left,v,h=>by
  rw[Uf]at h;cases h;exact⟨Ra _,fun h=>absurd rfl h⟩
 |n+1,t::r,c,left,v,h=>by
  rw[UB]at h;have key:v.2.length<=r.length:=by
   split at h
   ·cases h;exact Ra _
   split at h
   ·cases hv:Uf n r c left with
    |none=>rw[hv]at h;cases h
    |some w=>rw[hv]at h;cases h;exact(Rw n r c left w hv).1
   ·cases left with
    |zero=>cases h
    |succ m=>
     simp only at h;cases hw:Uf n r (Zf t.kind) m with
     |none=>rw[hw]at h;cases h
     |some w=>
      rw[hw,Aa]at h;cases hv:Uf n w.2 c (m+1)with
      |none=>rw[hv]at h;cases h
      |some v'=> rw[hv]at h;cases h;have h1:=(Rw n r _ m w hw).1;have h2:=(Rw n w.2 c _ v' hv).1;exact Ab h2 h1
  exact⟨by rw[Ea];omega,fun _=>by rw[Ea];omega⟩
def Dm(l:List zk)(s:PSt):Option (List za):=(qy l s).map fun s=>shutAll s.1 s.2
theorem JP(t:zk)(l:List zk)(s:PSt):Dm (t::l) s=(QB s t).bind (Dm l):=by unfold Dm;rw[qy];cases QB s t<;>rfl
theorem OA: ∀(n:Nat) (l:List zk) (cur:List za) (o:zk) (out:List za) (st:List (zk×List za)) (left:Nat),l.length<n->Zf o.kind≠0->left+(st.length+1)=16->
  Dm l (cur,(o,out)::st)=(Uf n l (Zf o.kind) left).bind fun v=>Dm v.2 (out++[⟨o,cur++v.1⟩],st)
 |0,_,_,_,_,_,_,h,_,_=>by omega
 |n+1,[],cur,o,out,st,left,_,_,_=>by rw[Uf,Aa];simp only[Dm,qy,Cc,shutAll,Ub]
 |n+1,t::r,cur,o,out,st,left,hn,ho,hl=>by
  rw[Ea]at hn;rw[UB,JP];unfold QB;simp only[Al];by_cases h1:t.kind=Zf o.kind
  ·rw[Ka (by rw[h1,Be]),Ka ⟨ho,h1⟩,Aa,Aa];simp only[Nk,Ub]
  ·rw[Ia (by rw[Ob];exact h1),Ia (show¬(Zf o.kind≠0/\t.kind=Zf o.kind)from fun h=>h1 h.2)];by_cases h2:Zf t.kind=0
   ·rw[Ia (show¬Zf t.kind≠0 from fun h=>h h2),Ka h2,Aa,OA n r _ o out st left (by omega) ho hl];cases Uf n r (Zf o.kind) left with
    |none=>rfl
    |some v=>simp only[Aa,Cc,Ib,Je]
   ·rw[Ka h2,Ia h2];cases left with
    |zero=>rw[Ka (by rw[Ea];omega)];rfl
    |succ m=>
     rw[Ia (by rw[Ea];omega),Aa];simp only;rw[OA n r [] t cur ((o,out)::st) m (by omega) h2 (by rw[Ea];omega)];cases hw:Uf n r (Zf t.kind) m with
     |none=>rfl
     |some w=>
      have hlen:=(Rw n r _ m w hw).1;simp only[Aa];rw[OA n w.2 _ o out st (m+1) (by omega) ho hl];cases Uf n w.2 (Zf o.kind) (m+1)with
      |none=>rfl
      |some v=>simp only[Aa,Cc,Mc,Ib,Je]
theorem BH: ∀(n:Nat) (l:List zk) (cur:List za),l.length<n->Dm l (cur,[])=(Uf n l 0 16).map fun v=>cur++v.1
 |0,_,_,h=>by omega
 |n+1,[],cur,_=>by rw[Uf];simp only[Dm,qy,Cc,shutAll,Ub]
 |n+1,t::r,cur,hn=>by
  rw[Ea]at hn;rw[UB,JP];unfold QB;simp only[Al];rw[Ia (by decide),Ia (show¬((0:Int)≠0/\t.kind=0)from fun h=>h.1 rfl)];by_cases h2:Zf t.kind=0
  ·rw[Ia (show¬Zf t.kind≠0 from fun h=>h h2),Ka h2,Aa,BH n r _ (by omega)];cases Uf n r 0 16 with
   |none=>rfl
   |some v=>simp only[Cc,Ib,Je]
  ·rw[Ka h2,Ia h2,Ia (by decide),Aa];rw[OA n r [] t cur [] 15 (by omega) h2 rfl];cases hw:Uf n r (Zf t.kind) 15 with
   |none=>rfl
   |some w=>
    have hlen:=(Rw n r _ 15 w hw).1;simp only[Aa];rw[BH n w.2 _ (by omega)];cases Uf n w.2 0 16 with
    |none=>rfl
    |some v=>simp only[Cc,Mc,Ib,Je]
theorem GA: ∀(a b:List za),tokL (a++b)=tokL a++tokL b
 |[],b=>by rw[tokL];rfl
 |v::a,b=>by rw[Db,tokL,tokL,GA a b,Ib]
theorem vF(v:za):tokL [v]=tokV v:=by rw[tokL,tokL,Ub]
def Ji(s:PSt):Nat:=(tokL s.1).length+(s.2.map fun x=>1+(tokL x.2).length).sum
def iD(s:PSt):Prop:= ∀x∈s.2,Zf x.1.kind≠0
theorem FX{s s':PSt}{t:zk}(h:QB s t=some s')(ho:iD s):iD s'/\Ji s'=Ji s+1:=by
 unfold QB at h;obtain⟨cur,st⟩:=s;split at h
 ·rename_i h1;cases st with
  |nil=>cases h1
  |cons x st=> obtain⟨o,out⟩:=x;cases h;have h2:Zf o.kind≠0:=ho (o,out) (Fb ..);refine⟨fun x hx=>ho x (Bb _ hx),?_⟩;simp only[Ji,Nk,GA,vF,La,Ac,Me,Hm,Ea,Ia h2,La,Lc,Xa];omega
 split at h
 ·rename_i h1 h2;split at h
  ·cases h
  ·rename_i h3;cases h;refine⟨fun x hx=> ?_,?_⟩
   ·rcases ja.1 hx with rfl|hx
    ·exact h2
    ·exact ho x hx
   ·simp only[Ji,Ac,Me,tokL,Xa];omega
 ·rename_i h1 h2;cases h;refine⟨ho,?_⟩;have h2:Zf t.kind=0:=Ie h2;simp only[Ji,GA,vF,La,Hm,Ea,Ka h2,Xa];omega
theorem lN: ∀(l:List zk) {s s':PSt},qy l s=some s'->iD s->iD s'/\Ji s'=Ji s+l.length
 |[],s,s',h,ho=>by cases h;exact⟨ho,rfl⟩
 |t::l,s,s',h,ho=>by
  rw[qy]at h;cases hs:QB s t with
  |none=>rw[hs]at h;cases h
  |some s1=> rw[hs,Aa]at h;obtain⟨h1,h2⟩:=FX hs ho;obtain⟨h3,h4⟩:=lN l h h1;exact⟨h3,by rw[h4,h2,Ea];omega⟩
theorem AP: ∀(st:List (zk×List za)) (cur:List za),(∀x∈st,Zf x.1.kind≠0)->(tokL (shutAll cur st)).length=Ji (cur,st)+st.length
 |[],cur,_=>by simp[shutAll,Ji]
 |(o,out)::st,cur,h=>by have h2:Zf o.kind≠0:=h (o,out) (Fb ..);rw[shutAll,AP st _ (fun x hx=>h x (Bb _ hx))];simp only[Ji,GA,vF,La,Hm,Ea,Ia h2,La,Lc,Ac,Me,Ea,Xa];omega
def CS(l:List zk)(c:Int)(left:Nat):Option (List za×List zk):=Uf (l.length+1) l c left
def wtT:List zk->Nat
 |[]=>0
 |t::r=>1+t.text.length+t.unit.length+wtT r
theorem dA: ∀(n:Nat) (l:List zk) (c:Int) (left:Nat) (v:List za×List zk),Uf n l c left=some v->szL v.1+wtT v.2<=wtT l
 |0,_,_,_,_,h=>by cases h
 |n+1,[],c,left,v,h=>by
  rw[Uf]at h;cases h;rw[szL];exact Ra _
 |n+1,t::r,c,left,v,h=>by
  rw[UB]at h;rw[wtT];split at h
  ·cases h;rw[szL];simp only;omega
  split at h
  ·cases hv:Uf n r c left with
   |none=>rw[hv]at h;cases h
   |some w=> rw[hv]at h;cases h;have:=dA n r c left w hv;simp only[szL,szV];omega
  ·cases left with
   |zero=>cases h
   |succ m=>
    simp only at h;cases hw:Uf n r (Zf t.kind) m with
    |none=>rw[hw]at h;cases h
    |some w=>
     rw[hw,Aa]at h;cases hv:Uf n w.2 c (m+1)with
     |none=>rw[hv]at h;cases h
     |some v'=> rw[hv]at h;cases h;have h1:=dA n w.2 c _ v' hv;have h2:=dA n r _ m w hw;simp only[szL,szV];omega
theorem zFN(l:List zk):(qy l ([],[])).map (fun s=>shutAll s.1 s.2)=(CS l 0 16).map Prod.fst:=BH _ l [] (Ke _)
theorem zHr{l:List zk}{s:PSt}(h:qy l ([],[])=some s):szL (shutAll s.1 s.2)<=wtT l:=by
 have hp:=zFN l;rw[h,Cc]at hp;cases hv:CS l 0 16 with
 |none=>rw[hv]at hp;cases hp
 |some v=> rw[hv,Cc]at hp;injection hp with hp;have:=dA _ _ _ _ v hv;rw[hp];omega
theorem rU(l:List zk):szL (parS l).1<=wtT l:=by
 unfold parS;split
 ·rw[szL];exact Ya _
 ·split
  ·rw[szL];exact Ya _
  ·rename_i s hs;split
   ·rw[szL];exact Ya _
   ·exact zHr hs
theorem wG(r:Str):(zN r).1.length+3*(zN r).2.length<=3*r.length+3:=by
 have h4:=fw r;cases r with
 |nil=>exact Ra _
 |cons c t=>
  have h:(zN (c::t)).2.length<=t.length:=by
   show(if Vf c then(Ci (hexes 6 0 (c::t)).1,unsp (hexes 6 0 (c::t)).2)else([c],t)).2.length<=t.length;cases hc:Vf c with
   |true=>
    have e:hexes 6 0 (c::t)=hexes 5 (16*0+hexN c) t:=by rw[hexes,hc,Ka rfl]
    rw[Ka rfl,e];exact((NM _).trans (Yw 5 _ t)).length_le
   |false=>exact Ra _
  rw[Ea];omega
theorem Yr(l:Str):(Zg l).1.length+3*(Zg l).2.length<=3*l.length:=by
 match l with
 |[]=>rw[Mt];exact Ra _
 |c::r=>
  rw[QN];split
  ·have:=Yr r;show(c::(Zg r).1).length+3*(Zg r).2.length<=_;rw[Ea,Ea];omega
  ·split
   ·have h1:=ZA r;have h2:=wG r;have:=Yr (zN r).2;show((zN r).1++(Zg (zN r).2).1).length+3*(Zg (zN r).2).2.length<=_;rw[La,Ea];omega
   ·show 0+3*(c::r).length<=_;omega
termination_by l.length
decreasing_by
 all_goals first|(have:=ZA r;simp only[Ea];omega)|(simp only[Ea];omega)
theorem sD{u:Str}{o:Option Str}{t:Str}{k:Nat}(h:o.map (u++ ·)=some t)(hk: ∀t',o=some t'->t'.length<=k):t.length<=u.length+k:=by
 cases o with
 |none=>cases h
 |some t'=> injection h with h;rw[<-h,La];have:=hk t' rfl;omega
theorem NA{m:UInt8}{q t:Str}(h:(Zz m q).1=some t):t.length+3*(Zz m q).2.length<=3*q.length:=by
 match q with
 |[]=>rw[Lp]at h ⊢;cases h;exact Ra _
 |c::r=>
  rw[Yt]at h ⊢;rw[Ea];split
  ·rename_i h1;rw[Ka h1]at h;cases h;show 0+3*r.length<=_;omega
  ·rename_i h1;rw[Ia h1]at h;split
   ·rename_i h2;rw[Ka h2]at h;cases h
   ·rename_i h2;rw[Ia h2]at h;split
    ·rename_i h3;rw[Ka h3]at h;split
     ·rename_i h4;rw[Ka h4]at h;cases h;show 0+3*0<=_;omega
     ·rename_i h4;rw[Ia h4]at h;split
      ·rename_i h5;rw[Ka h5]at h;have:=NA (q:=r.drop 1) h;rw[Vb]at this;omega
      ·rename_i h5;rw[Ia h5]at h;have h6:=ZA r;have h7:=wG r;have:=sD (k:=3*(zN r).2.length - 3*(Zz m (zN r).2).2.length) h (fun t' ht'=>by have:=NA ht';omega);have h8:=(Rt m (zN r).2).length_le;show t.length+3*(Zz m (zN r).2).2.length<=_;omega
    ·rename_i h3;rw[Ia h3]at h;have:=sD (u:=[c]) (k:=3*r.length - 3*(Zz m r).2.length) h (fun t' ht'=>by have:=NA ht';omega);have h8:=(Rt m r).length_le;rw[Lc]at this;show t.length+3*(Zz m r).2.length<=_;omega
termination_by q.length
decreasing_by
 all_goals first|(have:=ZA r;simp only[Ea];omega)|(simp only[Ea,Vb];omega)
theorem vI{q t:Str}(h:(urlS q).1=some t):t.length+3*(urlS q).2.length<=3*q.length:=by
 match q with
 |[]=>rw[Po]at h ⊢;cases h;exact Ra _
 |c::r=>
  rw[Ls]at h ⊢;rw[Ea];split
  ·rename_i h1;rw[Ka h1]at h;cases h;show 0+3*r.length<=_;omega
  ·rename_i h1;rw[Ia h1]at h;split
   ·rename_i h2;rw[Ka h2]at h;have hp:=(Jl spB r).length_le;split
    ·rename_i h3;rw[h3]at h;cases h;show 0+3*0<=_;omega
    ·rename_i d r' h3;rw[h3]at h hp;rw[Ea]at hp;simp only at h;split
     ·rename_i h4;rw[Ka h4]at h;cases h;show 0+3*r'.length<=_;omega
     ·rename_i h4;rw[Ia h4]at h;cases h
   ·rename_i h2;rw[Ia h2]at h;split
    ·rename_i h3;rw[Ka h3]at h;cases h
    ·rename_i h3;rw[Ia h3]at h;split
     ·rename_i h5;rw[Ka h5]at h;have h6:=ZA r;have h7:=wG r;have:=sD (k:=3*(zN r).2.length - 3*(urlS (zN r).2).2.length) h (fun t' ht'=>by have:=vI ht';omega);have h8:=(Dr (zN r).2).length_le;show t.length+3*(urlS (zN r).2).2.length<=_;omega
     ·rename_i h5;rw[Ia h5]at h;have:=sD (u:=[c]) (k:=3*r.length - 3*(urlS r).2.length) h (fun t' ht'=>by have:=vI ht';omega);have h8:=(Dr r).length_le;rw[Lc]at this;show t.length+3*(urlS r).2.length<=_;omega
termination_by q.length
decreasing_by
 all_goals first|(have:=ZA r;simp only[Ea];omega)|(simp only[Ea];omega)
theorem zHf(c:UInt8)(r:Str):(QH (c::r)).1.text.length+(QH (c::r)).1.unit.length+3*(QH (c::r)).2.length<=3*(r.length+1):=by
 have hs:=(Kl c r).length_le;rw[rH]at hs ⊢;split
 ·rename_i h1;rw[Ka h1]at hs;simp only[Sg,Xa]at hs ⊢;omega
 rename_i h1;rw[Ia h1]at hs;split
 ·rename_i h2;rw[Ka h2]at hs;simp only at hs ⊢;cases ho:(Zz c r).1 with
  |none=>show 0+0+_<=_;omega
  |some t=>have:=NA ho;show t.length+0+_<=_;omega
 rename_i h2;rw[Ia h2]at hs;split
 ·have:=Yr r;simp only[Xa];omega
 rename_i h3;rw[Ia h3]at hs;split
 ·rename_i h4;have h5:=(LP h4).length_le;rw[Ka h4]at hs;unfold qw at hs ⊢;split
  ·have:=Yr (ZG (c::r)).1;simp only[Xa];omega
  ·rename_i h6;rw[Ia h6]at hs;split
   ·rename_i h7;rw[Ka h7]at hs;simp only[Xa]at hs ⊢;omega
   ·rename_i h7;rw[Ia h7]at hs;simp only[Xa]at hs ⊢;omega
 rename_i h4;rw[Ia h4]at hs;split
 ·rename_i h5;rw[Ka h5]at hs;simp only[Sg,Xa]at hs ⊢;omega
 rename_i h5;rw[Ia h5]at hs;split
 ·rename_i h6;rw[Ka h6]at hs;simp only[Sg,Xa]at hs ⊢;omega
 rename_i h6;rw[Ia h6]at hs;split
 ·have:=Yr r;simp only[Xa];omega
 rename_i h7;rw[Ia h7]at hs;split
 ·have hn:=Yr (c::r);rw[Ea]at hn;unfold Jg;split
  ·split
   ·have h8:=(Jl spB ((Zg (c::r)).2.drop 1)).length_le;have h9:=(Dr (past spB ((Zg (c::r)).2.drop 1))).length_le;rw[Vb]at h8;simp only;cases ho:(urlS (past spB ((Zg (c::r)).2.drop 1))).1 with
    |none=>show 0+0+_<=_;omega
    |some t=>have:=vI ho;show t.length+0+_<=_;omega
   ·simp only[Xa,Vb];omega
  ·simp only[Xa];omega
 split
 ·simp only[Xa,Lc];omega
 ·simp only[Sg,Xa];omega
theorem xJ(q:Str):wtT (QS q)<=5*q.length:=by
 cases hc:cmtS q with
 |nil=>rw[Uo hc,wtT];exact Ya _
 |cons c r=>
  have h2:=(Uh q).length_le;have h3:=(Kl c r).length_le;rw[hc,Ea]at h2;rw[Sm hc,wtT];have h4:(QH (c::r)).2.length<q.length:=by omega
  have:=xJ (QH (c::r)).2;have:=zHf c r;omega
termination_by q.length
decreasing_by all_goals omega
def Tj(a:List Zh)(p:List za):List Zh:=bif (oneS p).2&&decide (a.length<32)then a++[(oneS p).1]else a
def Mi(ps:List (List za)):List Zh:=ps.foldl Tj []
theorem zDq{a:List Zh}{p:List za}(h:a.length<=32):(Tj a p).length<=32:=by
 unfold Tj;cases hb:(oneS p).2&&decide (a.length<32)with
 |false=>exact h
 |true=> rw[Fa,Va]at hb;rw[Da,La,Lc];omega
theorem DV{ps:List (List za)}{i:Nat}(h:i<ps.length):Mi (ps.take (i+1))=Tj (Mi (ps.take i)) ps[i]:=by unfold Mi;rw[Kc h,List.foldl_append];rfl
theorem NW(ps:List (List za)):(Mi ps).length<=32:=by
 unfold Mi;have key: ∀(ps:List (List za)) (a:List Zh),a.length<=32->(ps.foldl Tj a).length<=32:=by
  intro ps
  induction ps with
  |nil=>intro a h;exact h
  |cons p ps ih=>intro a h;exact ih _ (zDq h)
 exact key ps [] (Ya _)
theorem zAD{x:List za}(h:szL x<big):(Tf 17 x).length<=big/\ ∀p∈Tf 17 x,szL p<=big:=by have h1:=zCg 17 x;have h2:=MU (Tf 17 x);exact⟨by omega,fun p hp=>by have:=LU hp;omega⟩
theorem ap48{n:Nat}(h:n<=32):Zw n 1 48=true:=qg (by omega)
theorem zH3{x:List za}(h:szL x<big):AA x=some (if errS x=0 then(Mi (Tf 17 x),0)else([],errS x)):=by
 unfold AA;rw[sH (k:=17) (by omega)];simp only[ze,Aa];by_cases he:errS x=0
 ·rw[Ka he,Ia (by omega),Ka he];obtain⟨hl,hp⟩:=zAD h;simp only[show((0:Int) != 0)=false from rfl,Ca];generalize Tf 17 x=ps at*;refine rG (fun z=> ∃i:Nat,z=((i:Int),Mi (ps.take i))/\i<=ps.length) (fun z=>ps.length - z.1.toNat) _ ?_ ⟨0,rfl,Ya _⟩;rintro _ ⟨i,rfl,hi⟩;rcases Wd i ps.length with hh|hh
  ·refine .inl ⟨_,?_,⟨i+1,rfl,hh⟩,by simp only[Lb];omega⟩;have hq:=NW (ps.take i);rw[DV hh];simp only[qa hh,Da,Zy hh,Aa,bP (hp _ (Pb hh))];obtain⟨a,ha⟩: ∃a,Mi (ps.take i)=a:=⟨_,rfl⟩;rw[ha]at hq ⊢;unfold Tj;have hd:decide ((a.length:Int)<32)=decide (a.length<32):=by
    by_cases q:a.length<32
    ·rw[Ha q,Ha (by omega)]
    ·rw[Ta q,Ta (by omega)]
   rw[hd,ZO (ap48 hq)];have hw:w64 ((i:Int)+1)=((i+1:Nat):Int):=ZI hh hl;cases (oneS ps[i]).2<;>cases decide (a.length<32)<;>simp only[Da,Ca,zJ,hw,Kb,Ld]
  ·have:i=ps.length:=by omega
   subst this;refine .inr (.inl ⟨Mi ps,?_,rfl⟩);simp only[ZU,Ca,Df]
 ·rw[Ia he,Ia he];simp only[We.2 he,Da]
end Go.Lv.VT
