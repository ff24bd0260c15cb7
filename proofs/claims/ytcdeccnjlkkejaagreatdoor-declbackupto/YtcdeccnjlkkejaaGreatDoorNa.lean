/- How large values are. -/
import Derived.Test.YtcdeccnjlkkejaaGreatDoorIp
import Derived.Test.YtcdeccnjlkkejaaGreatDoorLaw
import Derived.Test.YtcdeccnjlkkejaaGreatDoorLf
import Derived.Test.YtcdeccnjlkkejaaGreatDoorMo
import Derived.Test.YtcdeccnjlkkejaaGreatDoorTx
import Derived.KernelRfl
set_option linter.unusedSimpArgs false
set_option linter.unusedVariables false
namespace Go.Lv.VT
def zL{α:Type}(f:α->List PV)(l:List α):Nat:=Dn (l.map f)
theorem KF{α:Type}(f:α->List PV)(v:α)(l:List α):zL f (v::l)=Qf (f v)+zL f l:=rfl
theorem yV{α:Type}{f:α->List PV}{v:α}: ∀{l:List α},v∈l->Qf (f v)<=zL f l
 |[],h=>by cases h
 |x::l,h=>by
  rw[KF];rcases Cb.1 h with rfl|h
  ·omega
  ·have:=yV (f:=f) h;omega
theorem CW{α:Type}{f:α->List PV}(a: ∀v,1<=Qf (f v)): ∀(l:List α),l.length<=zL f l
 |[]=>Xa _
 |v::l=>by rw[KF,Ja];have:=CW a l;grind
theorem kX(x:zf):Qf (Zr x)=6+x.token.text.length+x.token.unit.length+zL Zr x.list:=by rw[X9];simp only[Qf,bPV,zL];omega
mutual
/-- How large values are. -/
def szV:zf->Nat
 |⟨t,l⟩=>1+t.text.length+t.unit.length+szL l
def szL:List zf->Nat
 |[]=>0
 |v::r=>szV v+szL r
end
theorem yg(v:zf):szV v=1+v.token.text.length+v.token.unit.length+szL v.list:=by obtain⟨t,l⟩:=v;rw[szV]
theorem Ni{v:zf}: ∀{l:List zf},v∈l->szV v<=szL l
 |[],h=>by cases h
 |x::l,h=>by
  rw[szL];rcases Cb.1 h with rfl|h
  ·omega
  ·have:=Ni h;omega
theorem QS: ∀(l:List zf),l.length<=szL l
 |[]=>Xa _
 |v::r=>by rw[szL,yg,Ja];have:=QS r;omega
theorem Kr(n:Nat):decide ((n:Int)>0)=decide (0<n):=by
 grind
theorem dH(k:Int):Qv k=some (zA k):=by
 unfold Qv zA;by_cases b:k=19
 ·subst b;rfl
 by_cases d:k=21
 ·subst d;rfl
 by_cases c:k=2
 ·subst c;rfl
 by_cases a:k=23
 ·subst a;rfl
 have g:(k==19)=false:=Fa.2 b;have h:(k==21)=false:=Fa.2 d;have e:(k==2)=false:=Fa.2 c;have f:(k==23)=false:=Fa.2 a;simp only[g,h,e,f,Ba,zh,b,d,c,a,Pd,or_self]
theorem xI(k:Int):qF k=some (zA k):=by
 unfold qF zA;by_cases b:k=19
 ·subst b;rfl
 by_cases d:k=21
 ·subst d;rfl
 by_cases c:k=2
 ·subst c;rfl
 by_cases a:k=23
 ·subst a;rfl
 have g:(k==19)=false:=Fa.2 b;have h:(k==21)=false:=Fa.2 d;have e:(k==2)=false:=Fa.2 c;have f:(k==23)=false:=Fa.2 a;simp only[g,h,e,f,Ba,zh,b,d,c,a,Pd,or_self]
mutual
/-- The depth of values. -/
def xg:zf->Nat
 |⟨t,l⟩=>if zA t.kind=0 then 0 else 1+QM l
def QM:List zf->Nat
 |[]=>0
 |v::r=>max (xg v) (QM r)
end
theorem oM(v:zf):xg v=if zA v.token.kind=0 then 0 else 1+QM v.list:=by obtain⟨t,l⟩:=v;rw[xg]
mutual
theorem zAd: ∀v:zf,xg v<=szV v
 |⟨t,l⟩=>by rw[xg,szV];have:=UA l;split<;>omega
theorem UA: ∀l:List zf,QM l<=szL l
 |[]=>Xa _
 |v::r=>by rw[QM,szL];have:=zAd v;have:=UA r;omega
end
theorem uP(f:zf->Nat): ∀(l:List zf) (a:Nat),l.foldl (fun a v=>max a (f v)) a=max a (l.foldr (fun v a=>max (f v) a) 0)
 |[],a=>by simp
 |v::l,a=>by rw[yc,uP f l,List.foldr_cons];omega
theorem pM: ∀(l:List zf),QM l=l.foldr (fun v a=>max (xg v) a) 0
 |[]=>by rw[QM];rfl
 |v::l=>by rw[QM,pM l];rfl
theorem VM{l:List zf}(h:szL l<=big):Ql l=some (QM l:Int):=by
 refine ik (fun l=>szL l) (fun l=>szL l<=big) (fun l=>(QM l:Int)) (fun S l n j=> ?_) h;unfold cB;have e:=QS l;refine(NA l (fun i (a:Nat)=>((a:Int),(i:Int))) (fun v a=>some (.again (max a (xg v)))) (fun a=>some (.out (a:Int))) (a:=0) rfl (fun i a b=> ?_) (fun a=> ?_) (r:= .out (QM l:Int)) ?_)
 ·have f:=Ni (Ac b);have k:=yg l[i];have c:=oM l[i];have g:=UA l[i].list;simp only[Z5 b,Ca,zb,Zq b,Aa,dH];by_cases d:zA l[i].token.kind=0
  ·rw[Ha d]at c;simp[d,c,Zi b (by omega)]
  ·rw[Ga d]at c;rw[j l[i].list (by omega) (by omega)];have m:w64 (1+(QM l[i].list:Int))=((1+QM l[i].list:Nat):Int):=by rw[w64,Z4 (by omega) (by grind)];omega
   simp only[Ue.2 d,Ca,Aa,zh,Zi b (by omega),m,c,jc]
   grind
 ·grind
 ·rw[nk (fun a v=>max a (xg v)) (fun v a=>rfl),uP,<-pM];simp
theorem Xv{l:List zf}: ∀{i:Nat} (h:i<l.length),szL (l.take (i+1))=szL (l.take i)+szV l[i]:=by
 induction l with
 |nil=>grind
 |cons v r a=>
  intro i h;cases i with
  |zero=>simp[szL]
  |succ i=>
   simp only[Ye,szL,List.getElem_cons_succ]
   grind
theorem ww(l:List zf)(i:Nat):szL (l.take i)<=szL l:=by
 induction l generalizing i with
 |nil=>simp
 |cons v r a=>
  cases i with
  |zero=>simp[szL]
  |succ i=>simp only[Ye,szL];grind
mutual
/-- The tokens of values. -/
def tokV:zf->List ze
 |⟨t,l⟩=>t::if zA t.kind=0 then []else tokL l++[⟨zA t.kind,[],0,[],false⟩]
def tokL:List zf->List ze
 |[]=>[]
 |v::r=>tokV v++tokL r
end
theorem Nj(v:zf):tokV v=v.token::if zA v.token.kind=0 then []else tokL v.list++[⟨zA v.token.kind,[],0,[],false⟩]:=by obtain⟨t,l⟩:=v;rw[tokV]
mutual
theorem Cv: ∀v:zf,(tokV v).length<=2*szV v
 |⟨t,l⟩=>by
  rw[tokV,szV];have:=uq l
  grind
theorem uq: ∀l:List zf,(tokL l).length<=2*szL l
 |[]=>Xa _
 |v::r=>by rw[tokL,szL,Ka];have:=Cv v;have:=uq r;omega
end
theorem xA: ∀(l:List zf) (a:List ze),l.foldl (fun a v=>a++tokV v) a=a++tokL l
 |[],a=>by simp[tokL]
 |v::l,a=>by rw[yc,xA l,tokL,La]
theorem yP{l:List zf}(h:szL l<=big):qd l=some (tokL l):=by
 refine ik (fun l=>szL l) (fun l=>szL l<=big) (fun l=>tokL l) (fun S l j o=> ?_) h;unfold DC;have f:=QS l;refine(Uo l (fun i (a:List ze)=>((i:Int),a)) (fun v a=>some (.again (a++tokV v))) (fun a=>some (.out a)) (fun i a=>a.length<=2*szL (l.take i)) (a:=[]) rfl (by simp) (fun i a c u=> ?_) (fun a _=> ?_) (r:= .out (tokL l)) ?_)
 ·have g:=Ni (Ac c);have t:=yg l[i];have d:=Nj l[i];have k:=uq l[i].list;have w:=Xv c;have q:=ww l (i+1);have s:=Cv l[i];unfold big at j;have b: ∀n m:Nat,n+m<=100000000->zH n m 56=true:=fun n m h=>Si (by omega);refine⟨?_,fun x y=> ?_⟩
  ·simp only[Z5 c,Ca,zb,Zq c,Aa,dH];by_cases e:zA l[i].token.kind=0
   ·rw[Ha e]at d;simp[e,d,Zi c (by unfold big;omega),b a.length 1 (by omega)]
   ·rw[Ga e]at d;rw[o l[i].list (by unfold big;omega) (by omega)];have p:(zA l[i].token.kind != 0)=true:=Ue.2 e;simp[p,d,Zi c (by unfold big;omega),b a.length 1 (by omega),b (a.length+1) (tokL l[i].list).length (by omega),b (a.length+((tokL l[i].list).length+1)) 1 (by omega)]
  ·grind
 ·grind
 ·rw[nk (fun a v=>a++tokV v) (fun v a=>rfl),xA];simp
mutual
/-- Whether lists are those of blocks, and have not their closers. -/
def shV:zf->Int->Bool
 |⟨t,l⟩,c=> !((zA t.kind==0&&decide (0<l.length))||(c != 0&&t.kind==c)||(zA t.kind != 0&& !(shL l (zA t.kind))))
def shL:List zf->Int->Bool
 |[],_=>true
 |v::r,c=>shV v c&&shL r c
end
theorem LW(v:zf)(c:Int):shV v c= !((zA v.token.kind==0&&decide (0<v.list.length))||(c != 0&&v.token.kind==c)||(zA v.token.kind != 0&& !(shL v.list (zA v.token.kind)))):=by obtain⟨t,l⟩:=v;rw[shV]
theorem bZ{l:List zf}{c:Int}(h:szL l<=big):qU (l,c)=some (shL l c):=by
 refine ik (fun x:List zf×Int=>szL x.1) (fun x=>szL x.1<=big) (fun x=>shL x.1 x.2) (fun S x A q=> ?_) h;obtain⟨l,c⟩:=x;simp only at A q ⊢;unfold BC;have m:=QS l;have f: ∀l:List zf,ug (fun v (_:Unit)=>if shV v c=true then some (.again ())else some (.ret false)) (fun _=>some (.out ())) l ()=some (if shL l c=true then .out ()else .ret false):=by
  intro l
  induction l with
  |nil=>simp[ug,shL]
  |cons v r y=>
   by_cases n:shV v c=true
   ·simpa [ug,shL,n] using y
   ·simp[ug,shL,n]
 refine(NA l (fun i (_:Unit)=>(i:Int)) (fun v (_:Unit)=>if shV v c=true then some (.again ())else some (.ret false)) (fun _=>some (.out ())) (a:=()) rfl (fun i a d=> ?_) (fun a=> ?_) (f l)).trans ?_
 ·have C:=Ni (Ac d);have w:=yg l[i];have z:=LW l[i] c;simp only[Z5 d,Ca,zb,Zq d,Aa,dH];have g:szL l[i].list<=big:=by omega
  have j:szL l[i].list<szL l:=by omega
  have e: ∀b,S (l[i].list,b)=some (shL l[i].list b):=fun b=>q (l[i].list,b) g j;rw[z];have o:decide ((l[i].list.length:Int)>0)=decide (0<l[i].list.length):=Kr _;have B:=Zi d (by omega);simp only[bne,o];rcases Yc (zA l[i].token.kind==0)with k|k<;>rcases Yc (decide (0<l[i].list.length))with u|u<;>rcases Yc (c==0)with s|s<;>rcases Yc (l[i].token.kind==c)with p|p<;>rcases Yc (shL l[i].list (zA l[i].token.kind))with t|t<;>
   simp only[e,o,k,u,s,p,t,B,Ca,Ba,ja,Ua,Pb,Rc,ma,Nb,Hf,Fe,Yd,Uc,zx,Zb,Aa,Ce,Pd,jc,Rb]
 ·grind
 ·cases h:shL l c<;>simp
def Sn(l:List zf)(c:Int):zy:=⟨QM l,(tokL l).length, !(shL l c)⟩
theorem jO(c:Int): ∀(l:List zf) (a:Nat×Nat×Bool),l.foldl (fun a v=>(max a.1 (xg v),a.2.1+(tokV v).length,a.2.2|| !(shV v c))) a=(max a.1 (QM l),a.2.1+(tokL l).length,a.2.2|| !(shL l c))
 |[],a=>by simp[QM,tokL,shL]
 |v::l,a=>by
  rw[yc,jO c l,QM,tokL,shL,Ka];simp only[Prod.mk.injEq]
  grind
theorem NF(a b:Bool):(bif a then true else b)=(a||b):=by cases a<;>rfl
theorem AY(a b:Bool):(bif a then b else false)=(a&&b):=by cases a<;>rfl
theorem V7{l:List zf}{c:Int}(h:szL l<=big):qJ (l,c)=some (Sn l c):=by
 refine ik (fun x:List zf×Int=>szL x.1) (fun x=>szL x.1<=big) (fun x=>Sn x.1 x.2) (fun S x C E=> ?_) h;obtain⟨l,c⟩:=x;simp only at C E ⊢;unfold Vs;have B:=QS l;refine(Uo l (fun i (a:Nat×Nat×Bool)=>((i:Int),(⟨(a.1:Int),(a.2.1:Int),a.2.2⟩:zy))) (fun v a=>some (.again (max a.1 (xg v),a.2.1+(tokV v).length,a.2.2|| !(shV v c)))) (fun a=>some (.out (⟨(a.1:Int),(a.2.1:Int),a.2.2⟩:zy))) (fun i a=>a.2.1<=2*szL (l.take i)) (a:=(0,0,false)) rfl (by simp) (fun i a j J=> ?_) (fun a _=> ?_) (r:= .out (Sn l c)) ?_)
 ·have N:=Ni (Ac j);have H:=yg l[i];have m:=oM l[i];have O:=UA l[i].list;have o:=Nj l[i];have P:=uq l[i].list;have e:=LW l[i] c;have K:=Xv j;have G:=ww l (i+1);have Q:=Cv l[i];have w:szL l[i].list<=big:=by omega
  have y:szL l[i].list<szL l:=by omega
  have p:S (l[i].list,zA l[i].token.kind)=some (Sn l[i].list (zA l[i].token.kind)):=E (l[i].list,zA l[i].token.kind) w y;obtain⟨d,n,b⟩:=a;simp only at J;have D:=Zi j (by omega);unfold big at C;have u:w64 ((n:Int)+1)=((n+1:Nat):Int):=by rw[w64,Z4 (by omega) (by omega)];omega
  refine⟨?_,fun R T=> ?_⟩
  ·have L:decide ((l[i].list.length:Int)>0)=decide (0<l[i].list.length):=Kr _;simp only[Z5 j,Ca,zb,Zq j,Aa,xI,jc,u,bne,L,NF,AY];by_cases k:zA l[i].token.kind=0
   ·rw[Ha k]at m o;simp only[k,mf,ma,ja,Nb,Fe,bne]at e ⊢;rw[e,m,o];rcases Yc (decide (0<l[i].list.length))with F|F<;>rcases Yc (c==0)with g|g<;>rcases Yc (l[i].token.kind==c)with f|f<;>
     simp[F,g,f,D,Ca,Ba]
   ·rw[Ga k]at m o;have s:(zA l[i].token.kind==0)=false:=Fa.2 k;have z:w64 ((QM l[i].list:Int)+1)=((1+QM l[i].list:Nat):Int):=by rw[w64,Z4 (by omega) (by omega)];omega
    have t:w64 (((n+1:Nat):Int)+((tokL l[i].list).length:Int))=((n+1+(tokL l[i].list).length:Nat):Int):=by rw[w64,Z4 (by omega) (by omega)];omega
    have A:w64 (((n+1+(tokL l[i].list).length:Nat):Int)+1)=((n+(1+((tokL l[i].list).length+1)):Nat):Int):=by rw[w64,Z4 (by omega) (by omega)];omega
    have q:(tokV l[i]).length=1+((tokL l[i].list).length+1):=by rw[o];simp;omega
    have M:(if((1+QM l[i].list:Nat):Int)>(d:Int)then((1+QM l[i].list:Nat):Int)else(d:Int))=((max d (1+QM l[i].list):Nat):Int):=by split<;>omega
    rw[e,m,q];simp only[s,p,Nb,Ua,ma,Fe,Uc,Ba,bne,Aa,Sn];rcases Yc (c==0)with g|g<;>rcases Yc (l[i].token.kind==c)with f|f<;>
     simp only[g,f,D,z,t,A,M,Ca,Ba,zh,ja,Ua,ma,Pb,Rc,Nb,Hf,Fe,Yd,Uc,Bool.not_not]
  grind
 ·grind
 ·rw[nk (fun a v=>(max a.1 (xg v),a.2.1+(tokV v).length,a.2.2|| !(shV v c))) (fun v a=>rfl),jO];simp[Sn]
theorem Mi{a b:List zf}(h:a.Sublist b):szL a<=szL b:=by
 induction h with
 |slnil=>grind
 |cons v _ c=>rw[szL];omega
 |cons_cons v _ c=>rw[szL,szL];omega
theorem QC(l:List zf):l=[]\/ ∃t v,l=t++[v]:=by
 rcases List.eq_nil_or_concat l with h|⟨t,v,h⟩
 ·exact .inl h
 grind
def isSp(v:zf):Bool:=v.token.kind==13
def trimB(l:List zf):List zf:=(l.reverse.dropWhile isSp).reverse
theorem JX:trimB []=[]:=rfl
theorem Tj(t:List zf)(v:zf):trimB (t++[v])=if isSp v then trimB t else t++[v]:=by
 unfold trimB;rw[List.reverse_append];simp only[List.reverse_cons,List.reverse_nil,Ob,Ra,Nc]
 grind
theorem ek(l:List zf):(trimB l).Sublist l:=by
 unfold trimB
 grind
def trimS(l:List zf):List zf:=trimB (l.dropWhile isSp)
theorem zBC(l:List zf):szL (trimS l)<=szL l:=Mi ((ek _).trans (Ld _))
theorem gz(p:zf->Bool): ∀(l:List zf),l.drop (l.length - (l.dropWhile p).length)=l.dropWhile p
 |[]=>rfl
 |v::r=>by
  rw[Nc];split
  ·have h:=List.Sublist.length_le (Ld p (l:=r));rw[Ja,Nat.succ_sub h,List.drop_succ_cons];exact gz p r
  ·simp
theorem U5{l:List zf}(h:szL l<=big):ax l=some (trimS l):=by
 unfold ax;refine(Qt (r:= .out (l.dropWhile isSp)) (ZR (fun s=>s.dropWhile isSp=l.dropWhile isSp) (fun s=>s.length) _ (fun s c=> ?_) rfl)).trans ?_
 ·cases s with
  |nil=>simp_all
  |cons v t=>
   have e:decide (((v::t).length:Int)>0)=true:=by rw[Kr];simp
   have f:geti (v::t) 0=some v:=rfl;have n:decide ((1:Int)<=((v::t).length:Int))=true:=by simp;omega
   rw[Nc]at c;cases b:isSp v with
   |true=> rw[b]at c;unfold isSp at b;simp_all
   |false=> rw[b]at c;unfold isSp at b;refine .inr (.inl ⟨v::t,?_,by rw[<-c];rfl⟩);simp only[e,f,zx,zb,Aa,b,Ca,Ba]
 ·rw[zkE];have i:szL (l.dropWhile isSp)<=big:=Xb (Mi (Ld _)) h;unfold trimS;generalize l.dropWhile isSp=d at i;refine(Qt (r:= .out (trimB d)) (ZR (fun s=>trimB s=trimB d/\szL s<=big) (fun s=>s.length) _ (fun s c=> ?_) ⟨rfl,i⟩)).trans ?_
  ·rcases QC s with rfl|⟨t,v,rfl⟩
   ·exact .inr (.inl ⟨[],by simp,by rw[<-c.1];rfl⟩)
   ·have g:=QS (t++[v]);have k:(t++[v]).length=t.length+1:=by simp
    have m:=c.2;unfold big at m;have e:decide (((t++[v]).length:Int)>0)=true:=by rw[Kr];simp
    have j:w64 (((t++[v]).length:Int) - 1)=(t.length:Int):=by rw[w64,Z4 (by omega) (by omega)];omega
    have f:geti (t++[v]) (t.length:Int)=some v:=by rw[Zq (by omega)];simp
    have n:(decide ((0:Int)<=(t.length:Int))&&decide ((t.length:Int)<=((t++[v]).length:Int)))=true:=by simp;omega
    have a:=c.1;rw[Tj]at a;cases b:isSp v with
    |true=> rw[Ha b]at a;unfold isSp at b;refine .inl ⟨t,?_,⟨a,Xb (Mi (Pf t [v])) c.2⟩,by simp⟩;simp_all
    |false=> rw[Ga (by rw[b];simp)]at a;unfold isSp at b;refine .inr (.inl ⟨t++[v],?_,by rw[<-a]⟩);simp only[e,j,f,zx,zb,Aa,b,Ca,Ba]
  ·rw[zkE]
def errS(l:List zf):Int:=if 16<QM l then 20 else if 1500<(tokL l).length then 4 else if shL l 0 then 0 else 8
theorem SY{l:List zf}(h:szL l<=big):Ex l=some (errS l):=by
 unfold Ex errS;simp only[zb,VM h,yP h,bZ h,Aa]
 grind
theorem RB{l:List zf}(h:szL l<=big):qW l=some (errS l):=by
 unfold qW errS;simp only[zb,V7 h,Aa,Sn]
 grind
theorem zFU: ∀l:List zf,szL l<=zL Zr l:=by
 have a: ∀(n:Nat) (l:List zf),zL Zr l<n->szL l<=zL Zr l:=by
  intro n
  induction n with
  |zero=>intro l h;omega
  |succ n d=>
   intro l
   induction l with
   |nil=>intro _;rw[szL];grind
   |cons v l b=>
    intro h;rw[KF]at h ⊢;rw[szL,yg];have c:=kX v
    grind
 grind
theorem zAo{l:List zf}{a:List ze}(h:szL l<=big)(e:a.length+2*szL l<=4*big):ZL (l,a)=some (a++tokL l):=by
 refine ik (fun z=>szL z.1) (fun z=>szL z.1<=big/\z.2.length+2*szL z.1<=4*big) (fun z=>z.2++tokL z.1) (fun S z q s=> ?_) (x:=(l,a)) ⟨h,e⟩;obtain⟨l,a⟩:=z;obtain⟨h,e⟩:=q;have h:szL l<=big:=h;have e:a.length+2*szL l<=4*big:=e;have j:=QS l;unfold Vt;refine(Uo l (fun i (b:List ze)=>((i:Int),b)) (fun v b=>some (.again (b++tokV v))) (fun b=>some (.out b)) (fun i b=>b.length<=a.length+2*szL (l.take i)) (a:=a) rfl (by simp) (fun i b d A=> ?_) (fun b _=> ?_) (r:= .out (a++tokL l)) ?_).trans rfl
 ·have o:=Ni (Ac d);have y:=yg l[i];have f:=Nj l[i];have p:=uq l[i].list;have B:=Xv d;have u:=ww l (i+1);have w:=Cv l[i];unfold big at h e;have c: ∀n m:Nat,n+m<=100000000->zH n m 56=true:=fun n m h=>Si (by omega);refine⟨?_,fun C k=> ?_⟩
  ·simp only[Z5 d,Ca,zb,Zq d,Aa,xI];by_cases g:zA l[i].token.kind=0
   ·rw[Ha g]at f;simp[g,f,Zi d (by unfold big;omega),c b.length 1 (by omega)]
   ·rw[Ga g]at f;rw[s (l[i].list,b++[l[i].token]) ⟨by grind,by grind⟩ (by grind)];have t:(zA l[i].token.kind != 0)=true:=Ue.2 g;simp[t,f,Zi d (by unfold big;omega),c b.length 1 (by omega),c (b.length+((tokL l[i].list).length+1)) 1 (by omega)]
  ·grind
 ·grind
 ·rw[nk (fun a v=>a++tokV v) (fun v a=>rfl),xA]
theorem iM{l:List zf}(h:szL l<=big):QB l=some (tokL l):=by
 have g:=QS l;unfold QB;refine(Uo l (fun i (b:List ze)=>((i:Int),b)) (fun v b=>some (.again (b++tokV v))) (fun b=>some (.out b)) (fun i b=>b.length<=2*szL (l.take i)) (a:=[]) rfl (by simp) (fun i b d u=> ?_) (fun b _=> ?_) (r:= .out (tokL l)) ?_).trans rfl
 ·have k:=Ni (Ac d);have t:=yg l[i];have e:=Nj l[i];have o:=uq l[i].list;have w:=Xv d;have q:=ww l (i+1);have s:=Cv l[i];unfold big at h;have c: ∀n m:Nat,n+m<=100000000->zH n m 56=true:=fun n m h=>Si (by omega);refine⟨?_,fun x j=> ?_⟩
  ·simp only[Z5 d,Ca,zb,Zq d,Aa,xI];by_cases f:zA l[i].token.kind=0
   ·rw[Ha f]at e;simp[f,e,Zi d (by unfold big;omega),c b.length 1 (by omega)]
   ·rw[Ga f]at e;rw[zAo (a:=b++[l[i].token]) (show szL l[i].list<=big by unfold big;omega) (by grind)];have p:(zA l[i].token.kind != 0)=true:=Ue.2 f;simp[p,e,Zi d (by unfold big;omega),c b.length 1 (by omega),c (b.length+((tokL l[i].list).length+1)) 1 (by omega)]
  ·grind
 ·grind
 ·rw[nk (fun a v=>a++tokV v) (fun v a=>rfl),xA];simp
theorem X7{l:List zf}(h:szL l<=big):Xo l=some (if errS l=0 then(tokL l,0)else([],errS l)):=by
 unfold Xo;simp only[RB h,zb,Aa];by_cases he:errS l=0
 ·have:(errS l != 0)=false:=by rw[he];rfl
  rw[this,Ba,iM h,Ha he];rfl
 grind
def szP:List (List zf)->Nat
 |[]=>0
 |l::r=>1+szL l+szP r
theorem LK{v:List zf}: ∀{l:List (List zf)},v∈l->szL v<=szP l
 |[],h=>by cases h
 |x::l,h=>by
  rw[szP];rcases Cb.1 h with rfl|h
  ·omega
  ·have:=LK h;omega
theorem NK: ∀(l:List (List zf)),l.length<=szP l
 |[]=>Xa _
 |v::r=>by rw[szP,Ja];have:=NK r;omega
theorem nZ{R:Type}(x:Option R):both x x=x:=by unfold both;rw[Ha rfl]
theorem DY{l:List zf}(h:szL l<=big):Qw l=some l:=by
 unfold Qw;have b:=QS l;unfold big at h;have a:zH 0 l.length 80=true:=Si (by omega);cases l with
 |nil=>simp only[a,nZ,zX,List.isEmpty_nil,Ca]
 |cons v r=>simp_all
theorem mE{l:List zf}(h:szL l<=big):QO l=some l:=by
 refine ik (fun l=>szL l) (fun l=>szL l<=big) (fun l=>l) (fun S l hl hS=> ?_) h;unfold aB;have hlen:=QS l;simp only[zb,DY hl,Aa];refine(Uo l (fun i (a:List zf)=>((i:Int),a)) (fun v a=>some (.again a)) (fun a=>some (.out a)) (fun i a=>a=l) (a:=l) rfl rfl (fun i a hi hI=> ?_) (fun a hI=> ?_) (r:= .out l) ?_)
 ·subst hI;have hsz:=Ni (Ac hi);have hv2:=yg a[i];refine⟨?_,fun a' ha=>by cases ha;rfl⟩;have h1:S a[i].list=some a[i].list:=hS a[i].list (by omega) (by omega);have h2:decide ((0:Int)<=(i:Int))=true:=Ia (by omega);have h3:a[i]? =some a[i]:=Ta hi;have h4:a.set i ⟨a[i].token,a[i].list⟩=a:=by
   have:(⟨a[i].token,a[i].list⟩:zf)=a[i]:=by cases a[i];rfl
   rw[this,List.set_getElem_self]
  simp only[Z5 hi,h2,Bool.and_self,Ca,zX,Db,h3,Aa,h1,h4,Zi hi (by omega),jc]
 ·grind
 ·rw[nk (fun a v=>a) (fun v a=>rfl)];congr 2;clear hl hS hlen h;generalize l=b at*;have: ∀(m b:List zf),m.foldl (fun a _=>a) b=b:=by
   intro m
   induction m with
   |nil=>intro b;rfl
   |cons v m ih=>grind
  exact this _ _
theorem uC{l:List zf}{i:Nat}(h:i<l.length):Ws ((i:Int),l)=some (isSp l[i]):=by unfold Ws;simp only[zb,Zq h,Aa];rfl
theorem HZ{l:List zf}(h:szL l<=big):Rw l=some (if errS l=0 then(trimS l,0)else([],errS l)):=by
 unfold Rw;have hlen:=QS l;simp only[zb,RB h,Aa];by_cases h1:errS l=0
 ·rw[Ha h1];have hne:(errS l != 0)=false:=by simp[h1]
  simp only[hne,Ba];have hdl:=List.Sublist.length_le (Ld isSp (l:=l));have hdd:=gz isSp l;refine(Qt (r:= .out ((l.length - (l.dropWhile isSp).length:Nat):Int)) (ZR (fun s=> ∃k:Nat,s=(k:Int)/\k<=l.length/\(l.drop k).dropWhile isSp=l.dropWhile isSp) (fun s=>l.length - s.toNat) _ (fun s hs=> ?_) ⟨0,rfl,Ub _,rfl⟩)).trans ?_
  ·obtain⟨k,rfl,hk,he⟩:=hs;by_cases hlt:k<l.length
   ·rw[Bb hlt,Nc]at he;have hw:=Zi hlt (by grind);cases hv:isSp l[k]with
    |true=> rw[Ha hv]at he;refine .inl ⟨((k+1:Nat):Int),?_,⟨k+1,rfl,hlt,he⟩,by omega⟩;simp only[Z5 hlt,zx,uC hlt,Aa,hv,Ca,hw]
    |false=>
     rw[Ga (by rw[hv];simp)]at he;refine .inr (.inl ⟨(k:Int),?_,?_⟩)
     ·simp only[Z5 hlt,zx,uC hlt,Aa,hv,Ca,Ba]
     grind
   ·have hkk:k=l.length:=by omega
    simp_all
  ·rw[zkE];generalize hf:l.length - (l.dropWhile isSp).length=f at hdd;have hfl:f<=l.length:=by omega
   generalize l.dropWhile isSp=d at hdd;subst hdd;refine(Qt (r:= .out ((f+(trimB (l.drop f)).length:Nat):Int)) (ZR (fun s=> ∃m:Nat,s=(m:Int)/\f<=m/\m<=l.length/\trimB ((l.take m).drop f)=trimB (l.drop f)) (fun s=>s.toNat) _ (fun s hs=> ?_) ⟨l.length,rfl,hfl,Xa _,by grind⟩)).trans ?_
   ·obtain⟨m,rfl,hm1,hm2,he⟩:=hs;by_cases hlt:f<m
    ·have hm:m - 1<l.length:=by omega
     have hsn:(l.take m).drop f=(l.take (m - 1)).drop f++[l[m - 1]]:=by
      have:l.take m=l.take (m - 1)++[l[m - 1]]:=by
       have:=Bc hm
       rwa [show m - 1+1=m by omega]at this
      rw[this,Dg (by rw[ic];omega)]
     rw[hsn,Tj]at he;have h2:decide ((f:Int)<(m:Int))=true:=Ia (by omega);have hw:w64 ((m:Int) - 1)=((m - 1:Nat):Int):=by rw[w64,Z4 (by omega) (by unfold big at h;omega)];omega
     cases hv:isSp l[m - 1]with
     |true=> rw[Ha hv]at he;refine .inl ⟨((m - 1:Nat):Int),?_,⟨m - 1,rfl,by omega,by omega,he⟩,by omega⟩;simp only[h2,zx,hw,uC hm,Aa,hv,Ca]
     |false=>
      rw[Ga (by rw[hv];simp)]at he;refine .inr (.inl ⟨(m:Int),?_,?_⟩)
      ·simp only[h2,zx,hw,uC hm,Aa,hv,Ca,Ba]
      ·rw[<-he];congr 1;simp;omega
    ·have hmm:m=f:=by omega
     subst hmm;have h2:decide ((m:Int)<(m:Int))=false:=Ya (by omega);refine .inr (.inl ⟨(m:Int),?_,?_⟩)
     ·simp only[h2,Zb,Aa,Ba]
     ·rw[Pe (by rw[ic];omega),JX]at he;rw[<-he];simp
   ·rw[zkE];have htl:=List.Sublist.length_le (ek (l.drop f));rw[Yb]at htl;have hcut:List.drop f (List.take (f+(trimB (l.drop f)).length) l)=trimB (l.drop f):=by
     rw[List.drop_take];have: ∀d:List zf,d.take (trimB d).length=trimB d:=by intro d;unfold trimB;rw[List.length_reverse];have h3:=gz isSp d.reverse;have h4:=List.Sublist.length_le (Ld isSp (l:=d.reverse));rw[List.length_reverse]at h3 h4;rw[<-h3,List.drop_reverse,List.reverse_reverse];congr 1;simp
     have e:=this (l.drop f);rw[show f+(trimB (l.drop f)).length - f=(trimB (l.drop f)).length by omega];exact e
    have hneed:(decide ((0:Int)<=(f:Int))&&(decide ((f:Int)<=((f+(trimB (l.drop f)).length:Nat):Int))&&(decide (((f+(trimB (l.drop f)).length:Nat):Int)<=((f+(trimB (l.drop f)).length:Nat):Int))&&decide (((f+(trimB (l.drop f)).length:Nat):Int)<=(l.length:Int))))&&decide True)=true:=by simp only[Ea,Ib];refine⟨?_,trivial⟩;omega
    have hts:trimS l=trimB (l.drop f):=by unfold trimS;rw[<-gz isSp l,hf]
    simp only[hneed,zX,Db,hcut,mE (Xb (Mi ((ek _).trans (List.drop_sublist _ _))) h),Aa,hts]
 grind
def Uf(k:Int)(a:List (List zf)×List zf)(v:zf):List (List zf)×List zf:=
 if v.token.kind==k then(a.1++[a.2],[])else(a.1,a.2++[v])
def Yf(k:Int)(l:List zf):List (List zf)×List zf:=l.foldl (Uf k) ([],[])
def Kg(k:Int)(l:List zf):List (List zf):=(Yf k l).1++[(Yf k l).2]
theorem V3{k:Int}{l:List zf}{i:Nat}(h:i<l.length):Yf k (l.take (i+1))=Uf k (Yf k (l.take i)) l[i]:=by unfold Yf;rw[Bc h,List.foldl_append];rfl
theorem RQ(a b:List (List zf)):szP (a++b)=szP a+szP b:=by
 induction a with
 |nil=>simp[szP]
 |cons x a c=>simp only[Ra,szP,c];omega
theorem PH(a b:List zf):szL (a++b)=szL a+szL b:=by
 induction a with
 |nil=>simp[szL]
 |cons x a c=>simp only[Ra,szL,c];omega
theorem IA(k:Int): ∀(l:List zf) (a:List (List zf)×List zf),szP (l.foldl (Uf k) a).1+szL (l.foldl (Uf k) a).2<=szP a.1+szL a.2+szL l/\(l.foldl (Uf k) a).1.length<=a.1.length+l.length/\(l.foldl (Uf k) a).2.length<=a.2.length+l.length
 |[],a=>by simp[szL]
 |v::l,a=>by
  rw[yc];obtain⟨e,c,b⟩:=IA k l (Uf k a v);have d:=yg v;have:szP (Uf k a v).1+szL (Uf k a v).2<=szP a.1+szL a.2+szV v/\(Uf k a v).1.length<=a.1.length+1/\(Uf k a v).2.length<=a.2.length+1:=by
   unfold Uf;split
   ·simp only[RQ,szP,szL,Ka,Ja,Sb];omega
   ·simp only[PH,szL,Ka,Ja,Sb];omega
  rw[szL,Ja];omega
theorem wX(k:Int)(l:List zf):szP (Kg k l)<=szL l+1:=by obtain⟨c,_,_⟩:=IA k l ([],[]);unfold Kg Yf;rw[RQ,szP,szP];have b:szP ([]:List (List zf))=0:=rfl;have a:szL ([]:List zf)=0:=rfl;simp only[b,a]at c;omega
theorem O0{l:List zf}{k:Int}(h:szL l<=big):fw (l,k)=some (if errS l=0 then(if k<1\/24<k then([],2)else(Kg k l,0))else([],errS l)):=by
 unfold fw;have hlen:=QS l;simp only[zb,RB h,Aa];by_cases h1:errS l=0
 ·have hne:(errS l != 0)=false:=by simp[h1]
  rw[Ha h1];simp only[hne,Ba,NF];by_cases h2:k<1\/24<k
  ·have:(decide (k<1)||decide (k>24))=true:=by simpa using h2
   rw[Ha h2,this];rfl
  ·have:(decide (k<1)||decide (k>24))=false:=by rw[Oc];exact⟨Ya (by omega),Ya (by omega)⟩
   rw[Ga h2,this];simp only[Ba];refine(Qt (r:= .out (((l.length - (Yf k l).2.length:Nat):Int),(Yf k l).1)) (ZR (fun s=> ∃i from_:Nat,s=(((from_:Int),(i:Int)),(Yf k (l.take i)).1)/\from_<=i/\i<=l.length/\(Yf k (l.take i)).2=(l.take i).drop from_) (fun s=>l.length - s.1.2.toNat) _ (fun s hs=> ?_) ⟨0,0,by simp[Yf],Xa _,Ub _,by simp[Yf]⟩)).trans ?_
   ·obtain⟨i,fr,rfl,hfi,hil,he⟩:=hs;by_cases hi:i<l.length
    ·refine .inl ?_;have hw:=Zi hi (by unfold big at h ⊢;omega);have hpt:=V3 (k:=k) hi;have htk:l.take (i+1)=l.take i++[l[i]]:=Bc hi;unfold Uf at hpt;simp only[Z5 hi,Ca,Zq hi,Aa];cases hv:(l[i].token.kind==k)with
     |true=>
      rw[Ha hv]at hpt;have hn:(decide ((0:Int)<=(fr:Int))&&(decide ((fr:Int)<=(i:Int))&&(decide ((i:Int)<=(i:Int))&&decide ((i:Int)<=(l.length:Int))))&&decide True)=true:=by simp only[Ea,Ib];refine⟨?_,trivial⟩;omega
      have hsz:szL (List.drop fr (List.take i l))<=big:=Xb (Mi ((List.drop_sublist _ _).trans (List.take_sublist _ _))) h;have hpl:=(IA k (l.take i) ([],[])).2.1;have hap:zH (Yf k (l.take i)).1.length 1 24=true:=Si (by
       unfold Yf;have:=List.length_take_le i l;unfold big at h;simp only[Sb]at hpl;omega)
      refine⟨((((i+1:Nat):Int),((i+1:Nat):Int)),(Yf k (l.take (i+1))).1),?_,⟨i+1,i+1,rfl,Xa _,hi,?_⟩,?_⟩
      ·simp only[Ca,hn,zX,Db,mE hsz,Aa,hap,hw,zh,hpt,he]
      ·rw[hpt];simp
      ·simp only[Db];omega
     |false=>
      rw[Ga (by rw[hv];simp)]at hpt;refine⟨(((fr:Int),((i+1:Nat):Int)),(Yf k (l.take (i+1))).1),?_,⟨i+1,fr,rfl,by omega,hi,?_⟩,?_⟩
      ·simp only[Ba,zh,hw,hpt]
      ·rw[hpt,htk,he,Dg (by rw[ic];omega)]
      ·simp only[Db];omega
    ·have hil:i=l.length:=by omega
     subst hil;rw[ae]at he ⊢;refine .inr (.inl ⟨((fr:Int),(Yf k l).1),by simp only[Ph,Ba],?_⟩);rw[he,Yb];congr 2;omega
   ·rw[zkE]
    -- the last part is behind
    have key: ∀(m:List zf) (a:List (List zf)×List zf) (p:List zf),a.2<:+p->(m.foldl (Uf k) a).2<:+p++m:=by
     intro m
     induction m with
     |nil=>intro a p h;simpa using h
     |cons v m ih=>
      intro a p h;rw[yc];have:(Uf k a v).2<:+p++[v]:=by
       unfold Uf;split
       ·exact List.nil_suffix
       ·obtain⟨q,hq⟩:=h;exact⟨q,by rw[<-hq,La]⟩
      have:=ih _ _ this
      rwa [La]at this
    have hsuf:=key l ([],[]) [] (Te _);rw[Ob]at hsuf;have hdr:List.drop (l.length - (Yf k l).2.length) l=(Yf k l).2:=by unfold Yf;exact(List.suffix_iff_eq_drop.1 hsuf).symm
    have hsz:szL (Yf k l).2<=big:=by have:=Mi hsuf.sublist;unfold Yf;omega
    have hle:(Yf k l).2.length<=l.length:=by unfold Yf;exact hsuf.length_le
    have hn:(decide ((0:Int)<=((l.length - (Yf k l).2.length:Nat):Int))&&decide (((l.length - (Yf k l).2.length:Nat):Int)<=(l.length:Int)))=true:=by simp only[Ea,Ib];omega
    have hpl:=(IA k l ([],[])).2.1;have hap:zH (Yf k l).1.length 1 24=true:=Si (by
     unfold Yf;unfold big at h;simp only[Sb]at hpl;omega)
    simp only[hn,zX,Db,hdr,mE hsz,Aa,hap];rfl
 ·have h2:(errS l != 0)=true:=Ue.2 h1;rw[Ga h1];simp only[h2,Ca]
end Go.Lv.VT

namespace Go.Lv
theorem Le.lp{S X R:Type}{step step':S->Option (LO S X R)}{s:S}{k k':X->Option R}(h: ∀s,Le (step s) (step' s))(hk: ∀x,Le (k x) (k' x)):Le (Ze step s k) (Ze step' s k'):=by
 intro y hy;unfold Ze at hy;cases hl:Mg step s with
 |none=>rw[hl]at hy;cases hy
 |some r=>
  rw[hl]at hy;obtain⟨n,hn⟩:=GQ hl;rw[Qt (ni (vF h n s r hn))];cases r with
  |out x=>exact hk x y hy
  |ret r=>exact hy
def nV{X Y:Type}(B:(X->Option Y)->X->Option Y):Prop:= ∀S S':X->Option Y,(∀x,Le (S x) (S' x))-> ∀x,Le (B S x) (B S' x)
theorem zBj {X Y:Type} {B:(X->Option Y)->X->Option Y} (hm:nV B) (μ:X->Nat) (ok:X->Prop) (R:X->Y->Prop)
  (hB: ∀(S:X->Option Y) (x:X),ok x->(∀z,ok z->μ z<μ x-> ∃y,S z=some y/\R z y)-> ∃y,B S x=some y/\R x y) {x:X} (hx:ok x): ∃y,recE B x=some y/\R x y:=by
 have step: ∀n x,Le (Tg B n x) (Tg B (n+1) x):=by
  intro n
  induction n with
  |zero=>intro x;exact Le.none
  |succ n ih=>intro x;exact hm _ _ ih x
 have up: ∀d n x,Le (Tg B n x) (Tg B (n+d) x):=by
  intro d
  induction d with
  |zero=>intro n x;exact Le.rfl
  |succ d ih=>intro n x y hy;exact step _ x y (ih n x y hy)
 have key: ∀(m:Nat) (x:X),μ x<m->ok x-> ∃y,Tg B m x=some y/\R x y:=by
  intro m
  induction m with
  |zero=>intro x h;omega
  |succ m ih=> intro x hm hok;exact hB _ x hok fun z hz hlt=>ih z (by omega) hz
 obtain⟨y,h1,h2⟩:=key (μ x+1) x (by omega) hx;refine⟨y,wE (N:=μ x+1) fun n hn=> ?_,h2⟩;obtain⟨d,rfl⟩:=Nat.le.dest hn;exact up d _ x y h1
theorem zAJ {A S X R:Type} {step:S->Option (LO S X R)} {k:X->Option R} (n:Nat) (st:Nat->A->S) (Inv:Nat->A->Prop) (Q:R->Prop) {s0:S} {a0:A} (h0:s0=st 0 a0) (hI:Inv 0 a0)
  (hg: ∀(i:Nat) (a:A),i<n->Inv i a->(∃a',step (st i a)=some (.again (st (i+1) a'))/\Inv (i+1) a')\/(∃r,step (st i a)=some (.ret r)/\Q r)\/(∃x,step (st i a)=some (.out x)/\ ∃r,k x=some r/\Q r))
  (hf: ∀a,Inv n a->(∃x,step (st n a)=some (.out x)/\ ∃r,k x=some r/\Q r)\/(∃r,step (st n a)=some (.ret r)/\Q r)): ∃r,Ze step s0 k=some r/\Q r:=by
 have key: ∀(m i:Nat) (a:A),i+m=n->Inv i a-> ∃j x,qI step j (st i a)=some x/\ ∃r,LX.go x k=some r/\Q r:=by
  intro m
  induction m with
  |zero=>
   intro i a hi ha;obtain rfl:i=n:=by omega
   rcases hf a ha with⟨x,h1,r,h2,h3⟩|⟨r,h1,h2⟩
   ·exact⟨1, .out x,by simp only[qI,h1],r,h2,h3⟩
   ·exact⟨1, .ret r,by simp only[qI,h1],r,rfl,h2⟩
  |succ m ih=>
   intro i a hi ha;rcases hg i a (by omega) ha with⟨a',h1,h2⟩|⟨r,h1,h2⟩|⟨x,h1,r,h2,h3⟩
   ·obtain⟨j,x,g1,g2⟩:=ih (i+1) a' (by omega) h2;exact⟨j+1,x,by simp only[qI,h1];exact g1,g2⟩
   ·exact⟨1, .ret r,by simp only[qI,h1],r,rfl,h2⟩
   ·exact⟨1, .out x,by simp only[qI,h1],r,h2,h3⟩
 obtain⟨j,x,h1,r,h2,h3⟩:=key n 0 a0 (by omega) hI;refine⟨r,?_,h3⟩;rw[h0,Qt (ni h1),h2]
namespace VT
def mx{α:Type}(f:α->Nat):List α->Nat
 |[]=>0
 |v::l=>max (f v) (mx f l)
end VT
end Go.Lv

namespace Go.Lv.VT
set_option maxRecDepth 100000
theorem zmy:nV Ht:=by intro qX ref04_Size' h_ref04_Size x;unfold Ht;exact(.lp (fun _=>(.bif (.bind .rfl fun _=>(.bind .rfl fun _=>(.bind .rfl fun _=>(.bind (h_ref04_Size _) fun _=> .rfl)))) .rfl)) fun _=> .rfl)
theorem zBk{a:List zf}(h:szL a<=big):Uj (a,a)=some true:=by
 refine ik (fun x:List zf×List zf=>szL x.1) (fun x=>szL x.1<=big/\x.1=x.2) (fun x=>true) (fun S x d k=> ?_) (show szL (a,a).1<=big/\(a,a).1=(a,a).2 from⟨h,rfl⟩);obtain⟨l,p⟩:=x;obtain⟨d,m⟩:=d;simp only at d k m;subst m;unfold bB;have j:=QS l;have c:((l.length:Int) != (l.length:Int))=false:=by simp
 simp only[c,Ba];refine(NA l (fun i (_:Unit)=>(i:Int)) (fun v (_:Unit)=>some (.again ())) (fun _=>some (.out ())) (a:=()) rfl (fun i a b=> ?_) (fun a=> ?_) (r:= .out ()) ?_)
 ·have n:=Ni (Ac b);have o:=yg l[i];have e:szL l[i].list<=big:=by omega
  have g:szL l[i].list<szL l:=by omega
  have f:S (l[i].list,l[i].list)=some true:=k (l[i].list,l[i].list) ⟨e,rfl⟩ g;simp[b,Zq b,f,Zi b (by omega)]
 ·grind
 ·rw[nk (fun a v=>a) (fun v a=>rfl)]
inductive Cuts (k:Int):List zf->List (List zf)->Prop
 |one (p:List zf) (h: ∀x∈p,(x.token.kind==k)=false):Cuts k p [p]
 |more (p:List zf) (s:zf) (v:List zf) (ps:List (List zf)) (h: ∀x∈p,(x.token.kind==k)=false) (hs:(s.token.kind==k)=true) (hc:Cuts k v ps):Cuts k (p++s::v) (p::ps)
theorem MF(k:Int): ∀(l:List zf) (d:List (List zf)) (c:List zf),(∀x∈c,(x.token.kind==k)=false)-> ∃qs,(l.foldl (Uf k) (d,c)).1++[(l.foldl (Uf k) (d,c)).2]=d++qs/\Cuts k (c++l) qs
 |[],d,c,h=>⟨[c],rfl,by rw[Va];exact .one c h⟩
 |v::l,d,c,h=>by
  rw[yc];cases hv:v.token.kind==k with
  |true=>
   obtain⟨qs,h1,h2⟩:=MF k l (d++[c]) [] (fun x hx=>by cases hx);refine⟨c::qs,?_, .more c v l qs h hv h2⟩;rw[show Uf k (d,c) v=(d++[c],[]) by unfold Uf;rw[Ha hv],h1,La];rfl
  |false=>
   obtain⟨qs,h1,h2⟩:=MF k l d (c++[v]) (fun x hx=>by
    rcases Kc.1 hx with hx|hx
    ·exact h x hx
    ·rw[lc.1 hx];exact hv)
   refine⟨qs,?_,by rw[La]at h2;exact h2⟩;rw[show Uf k (d,c) v=(d,c++[v]) by unfold Uf;rw[Ga (by rw[hv];decide)],h1]
theorem zCZ(k:Int)(l:List zf):Cuts k l (Kg k l):=by obtain⟨qs,h1,h2⟩:=MF k l [] [] (fun x hx=>by cases hx);have:Kg k l=qs:=h1;rw[this];exact h2
theorem pQ(d:List zf): ∃r,d=trimB d++r/\(∀x∈r,isSp x=true)/\(trimB d=[]\/ ∃t v,trimB d=t++[v]/\isSp v=false):=by
 induction hn:d.length generalizing d with
 |zero=>
  obtain rfl:=je.1 hn;exact⟨[],rfl,fun x hx=>(by cases hx), .inl rfl⟩
 |succ n ih=>
  rcases QC d with rfl|⟨t,v,rfl⟩
  ·cases hn
  ·rw[Tj];cases hv:isSp v with
   |true=>
    rw[Ha rfl];obtain⟨r,h1,h2,h3⟩:=ih t (by rw[Ka]at hn;simpa using hn);refine⟨r++[v],by rw[<-La,<-h1],fun x hx=> ?_,h3⟩;rcases Kc.1 hx with hx|hx
    ·exact h2 x hx
    ·rw[lc.1 hx];exact hv
   |false=> rw[Ga (by decide)];exact⟨[],(Va _).symm,fun x hx=>(by cases hx), .inr ⟨t,v,rfl,hv⟩⟩
theorem SH: ∀(v:List zf),∃a,v=a++v.dropWhile isSp/\(∀x∈a,isSp x=true)/\ ∀x b,v.dropWhile isSp=x::b->isSp x=false
 |[]=>⟨[],rfl,fun x hx=>(by cases hx),fun x b h=>(by cases h)⟩
 |y::v=>by
  obtain⟨a,h1,h2,h3⟩:=SH v;cases hy:isSp y with
  |true=>
   rw[List.dropWhile_cons_of_pos hy];refine⟨y::a,by rw[Ra,<-h1],fun x hx=> ?_,h3⟩;rcases Cb.1 hx with rfl|hx
   ·exact hy
   ·exact h2 x hx
  |false=> rw[List.dropWhile_cons_of_neg (by rw[hy];decide)];exact⟨[],rfl,fun x hx=>(by cases hx),fun x b h=>(by cases h;exact hy)⟩
theorem RZ(v:List zf):(trimS v).Sublist v:=(ek _).trans (Ld _)
end Go.Lv.VT
