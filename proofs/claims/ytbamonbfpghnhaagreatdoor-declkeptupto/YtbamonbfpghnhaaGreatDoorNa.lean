/- How large values are. -/
import Derived.Test.YtbamonbfpghnhaaGreatDoorIp
import Derived.Test.YtbamonbfpghnhaaGreatDoorLaw
import Derived.Test.YtbamonbfpghnhaaGreatDoorLf
import Derived.Test.YtbamonbfpghnhaaGreatDoorMo
import Derived.Test.YtbamonbfpghnhaaGreatDoorTx
import Derived.KernelRfl
set_option linter.unusedSimpArgs false
set_option linter.unusedVariables false
namespace Go.Lv.VT
def zL{α:Type}(f:α->List PV)(l:List α):Nat:=Mm (l.map f)
theorem DD{α:Type}(f:α->List PV)(v:α)(l:List α):zL f (v::l)=qK (f v)+zL f l:=rfl
theorem kH{α:Type}{f:α->List PV}{v:α}: ∀{l:List α},v∈l->qK (f v)<=zL f l
 |[],h=>by cases h
 |x::l,h=>by
  rw[DD];rcases Ab.1 h with rfl|h
  ·omega
  ·have:=kH (f:=f) h;omega
theorem lH{α:Type}{f:α->List PV}(a: ∀v,1<=qK (f v)): ∀(l:List α),l.length<=zL f l
 |[]=>Xa _
 |v::l=>by rw[DD,Ka];have:=lH a l;grind
theorem VW(x:zb):qK (Zl x)=6+x.token.text.length+x.token.unit.length+zL Zl x.list:=by rw[V8];simp only[qK,bPV,zL];omega
mutual
/-- How large values are. -/
def szV:zb->Nat
 |⟨t,l⟩=>1+t.text.length+t.unit.length+szL l
def szL:List zb->Nat
 |[]=>0
 |v::r=>szV v+szL r
end
theorem oh(v:zb):szV v=1+v.token.text.length+v.token.unit.length+szL v.list:=by obtain⟨t,l⟩:=v;rw[szV]
theorem Tj{v:zb}: ∀{l:List zb},v∈l->szV v<=szL l
 |[],h=>by cases h
 |x::l,h=>by
  rw[szL];rcases Ab.1 h with rfl|h
  ·omega
  ·have:=Tj h;omega
theorem Mh: ∀(l:List zb),l.length<=szL l
 |[]=>Xa _
 |v::r=>by rw[szL,oh,Ka];have:=Mh r;omega
theorem lC(n:Nat):decide ((n:Int)>0)=decide (0<n):=by
 grind
theorem dZ(k:Int):av k=some (zx k):=by
 unfold av zx;by_cases b:k=19
 ·subst b;rfl
 by_cases d:k=21
 ·subst d;rfl
 by_cases c:k=2
 ·subst c;rfl
 by_cases a:k=23
 ·subst a;rfl
 have g:(k==19)=false:=Ha.2 b;have h:(k==21)=false:=Ha.2 d;have e:(k==2)=false:=Ha.2 c;have f:(k==23)=false:=Ha.2 a;simp only[g,h,e,f,Ca,zh,b,d,c,a,Od,or_self]
theorem pG(k:Int):qw k=some (zx k):=by
 unfold qw zx;by_cases b:k=19
 ·subst b;rfl
 by_cases d:k=21
 ·subst d;rfl
 by_cases c:k=2
 ·subst c;rfl
 by_cases a:k=23
 ·subst a;rfl
 have g:(k==19)=false:=Ha.2 b;have h:(k==21)=false:=Ha.2 d;have e:(k==2)=false:=Ha.2 c;have f:(k==23)=false:=Ha.2 a;simp only[g,h,e,f,Ca,zh,b,d,c,a,Od,or_self]
mutual
/-- The depth of values. -/
def Bh:zb->Nat
 |⟨t,l⟩=>if zx t.kind=0 then 0 else 1+Qm l
def Qm:List zb->Nat
 |[]=>0
 |v::r=>max (Bh v) (Qm r)
end
theorem VM(v:zb):Bh v=if zx v.token.kind=0 then 0 else 1+Qm v.list:=by obtain⟨t,l⟩:=v;rw[Bh]
mutual
theorem mW: ∀v:zb,Bh v<=szV v
 |⟨t,l⟩=>by rw[Bh,szV];have:=Fz l;split<;>omega
theorem Fz: ∀l:List zb,Qm l<=szL l
 |[]=>Xa _
 |v::r=>by rw[Qm,szL];have:=mW v;have:=Fz r;omega
end
theorem FO(f:zb->Nat): ∀(l:List zb) (a:Nat),l.foldl (fun a v=>max a (f v)) a=max a (l.foldr (fun v a=>max (f v) a) 0)
 |[],a=>by simp
 |v::l,a=>by rw[Xc,FO f l,List.foldr_cons];omega
theorem WM: ∀(l:List zb),Qm l=l.foldr (fun v a=>max (Bh v) a) 0
 |[]=>by rw[Qm];rfl
 |v::l=>by rw[Qm,WM l];rfl
theorem LW{l:List zb}(h:szL l<=big):QQ l=some (Qm l:Int):=by
 refine tq (fun l=>szL l) (fun l=>szL l<=big) (fun l=>(Qm l:Int)) (fun S l n j=> ?_) h;unfold fA;have e:=Mh l;refine(dE l (fun i (a:Nat)=>((a:Int),(i:Int))) (fun v a=>some (.again (max a (Bh v)))) (fun a=>some (.out (a:Int))) (a:=0) rfl (fun i a b=> ?_) (fun a=> ?_) (r:= .out (Qm l:Int)) ?_)
 ·have f:=Tj (Jc b);have k:=oh l[i];have c:=VM l[i];have g:=Fz l[i].list;simp only[Qx b,Ea,zg,Z8 b,Aa,dZ];by_cases d:zx l[i].token.kind=0
  ·rw[Ga d]at c;simp[d,c,qB b (by omega)]
  ·rw[Fa d]at c;rw[j l[i].list (by omega) (by omega)];have m:w64 (1+(Qm l[i].list:Int))=((1+Qm l[i].list:Nat):Int):=by rw[w64,Z0 (by omega) (by grind)];omega
   simp only[Me.2 d,Ea,Aa,zh,qB b (by omega),m,c,ic]
   grind
 ·grind
 ·rw[ul (fun a v=>max a (Bh v)) (fun v a=>rfl),FO,<-WM];simp
theorem Tz{l:List zb}: ∀{i:Nat} (h:i<l.length),szL (l.take (i+1))=szL (l.take i)+szV l[i]:=by
 induction l with
 |nil=>grind
 |cons v r a=>
  intro i h;cases i with
  |zero=>simp[szL]
  |succ i=>
   simp only[Ye,szL,List.getElem_cons_succ]
   grind
theorem OA(l:List zb)(i:Nat):szL (l.take i)<=szL l:=by
 induction l generalizing i with
 |nil=>simp
 |cons v r a=>
  cases i with
  |zero=>simp[szL]
  |succ i=>simp only[Ye,szL];grind
mutual
/-- The tokens of values. -/
def tokV:zb->List ze
 |⟨t,l⟩=>t::if zx t.kind=0 then []else tokL l++[⟨zx t.kind,[],0,[],false⟩]
def tokL:List zb->List ze
 |[]=>[]
 |v::r=>tokV v++tokL r
end
theorem Rj(v:zb):tokV v=v.token::if zx v.token.kind=0 then []else tokL v.list++[⟨zx v.token.kind,[],0,[],false⟩]:=by obtain⟨t,l⟩:=v;rw[tokV]
mutual
theorem Vx: ∀v:zb,(tokV v).length<=2*szV v
 |⟨t,l⟩=>by
  rw[tokV,szV];have:=Du l
  grind
theorem Du: ∀l:List zb,(tokL l).length<=2*szL l
 |[]=>Xa _
 |v::r=>by rw[tokL,szL,Ja];have:=Vx v;have:=Du r;omega
end
theorem xE: ∀(l:List zb) (a:List ze),l.foldl (fun a v=>a++tokV v) a=a++tokL l
 |[],a=>by simp[tokL]
 |v::l,a=>by rw[Xc,xE l,tokL,La]
mutual
/-- Whether lists are those of blocks, and have not their closers. -/
def shV:zb->Int->Bool
 |⟨t,l⟩,c=> !((zx t.kind==0&&decide (0<l.length))||(c != 0&&t.kind==c)||(zx t.kind != 0&& !(shL l (zx t.kind))))
def shL:List zb->Int->Bool
 |[],_=>true
 |v::r,c=>shV v c&&shL r c
end
theorem zCr(v:zb)(c:Int):shV v c= !((zx v.token.kind==0&&decide (0<v.list.length))||(c != 0&&v.token.kind==c)||(zx v.token.kind != 0&& !(shL v.list (zx v.token.kind)))):=by obtain⟨t,l⟩:=v;rw[shV]
def jm(l:List zb)(c:Int):zw:=⟨Qm l,(tokL l).length, !(shL l c)⟩
theorem rM(c:Int): ∀(l:List zb) (a:Nat×Nat×Bool),l.foldl (fun a v=>(max a.1 (Bh v),a.2.1+(tokV v).length,a.2.2|| !(shV v c))) a=(max a.1 (Qm l),a.2.1+(tokL l).length,a.2.2|| !(shL l c))
 |[],a=>by simp[Qm,tokL,shL]
 |v::l,a=>by
  rw[Xc,rM c l,Qm,tokL,shL,Ja];simp only[Prod.mk.injEq]
  grind
theorem fD(a b:Bool):(bif a then true else b)=(a||b):=by cases a<;>rfl
theorem xW(a b:Bool):(bif a then b else false)=(a&&b):=by cases a<;>rfl
theorem L6{l:List zb}{c:Int}(h:szL l<=big):qy (l,c)=some (jm l c):=by
 refine tq (fun x:List zb×Int=>szL x.1) (fun x=>szL x.1<=big) (fun x=>jm x.1 x.2) (fun S x C E=> ?_) h;obtain⟨l,c⟩:=x;simp only at C E ⊢;unfold Kr;have B:=Mh l;refine(Xq l (fun i (a:Nat×Nat×Bool)=>((i:Int),(⟨(a.1:Int),(a.2.1:Int),a.2.2⟩:zw))) (fun v a=>some (.again (max a.1 (Bh v),a.2.1+(tokV v).length,a.2.2|| !(shV v c)))) (fun a=>some (.out (⟨(a.1:Int),(a.2.1:Int),a.2.2⟩:zw))) (fun i a=>a.2.1<=2*szL (l.take i)) (a:=(0,0,false)) rfl (by simp) (fun i a j J=> ?_) (fun a _=> ?_) (r:= .out (jm l c)) ?_)
 ·have N:=Tj (Jc j);have H:=oh l[i];have m:=VM l[i];have O:=Fz l[i].list;have o:=Rj l[i];have P:=Du l[i].list;have e:=zCr l[i] c;have K:=Tz j;have G:=OA l (i+1);have Q:=Vx l[i];have w:szL l[i].list<=big:=by omega
  have y:szL l[i].list<szL l:=by omega
  have p:S (l[i].list,zx l[i].token.kind)=some (jm l[i].list (zx l[i].token.kind)):=E (l[i].list,zx l[i].token.kind) w y;obtain⟨d,n,b⟩:=a;simp only at J;have D:=qB j (by omega);unfold big at C;have u:w64 ((n:Int)+1)=((n+1:Nat):Int):=by rw[w64,Z0 (by omega) (by omega)];omega
  refine⟨?_,fun R T=> ?_⟩
  ·have L:decide ((l[i].list.length:Int)>0)=decide (0<l[i].list.length):=lC _;simp only[Qx j,Ea,zg,Z8 j,Aa,pG,ic,u,bne,L,fD,xW];by_cases k:zx l[i].token.kind=0
   ·rw[Ga k]at m o;simp only[k,beq_self_eq_true,Cb,Lb,Rb,Ke,bne]at e ⊢;rw[e,m,o];rcases Xe (decide (0<l[i].list.length))with F|F<;>rcases Xe (c==0)with g|g<;>rcases Xe (l[i].token.kind==c)with f|f<;>
     simp[F,g,f,D,Ea,Ca]
   ·rw[Fa k]at m o;have s:(zx l[i].token.kind==0)=false:=Ha.2 k;have z:w64 ((Qm l[i].list:Int)+1)=((1+Qm l[i].list:Nat):Int):=by rw[w64,Z0 (by omega) (by omega)];omega
    have t:w64 (((n+1:Nat):Int)+((tokL l[i].list).length:Int))=((n+1+(tokL l[i].list).length:Nat):Int):=by rw[w64,Z0 (by omega) (by omega)];omega
    have A:w64 (((n+1+(tokL l[i].list).length:Nat):Int)+1)=((n+(1+((tokL l[i].list).length+1)):Nat):Int):=by rw[w64,Z0 (by omega) (by omega)];omega
    have q:(tokV l[i]).length=1+((tokL l[i].list).length+1):=by rw[o];simp;omega
    have M:(if((1+Qm l[i].list:Nat):Int)>(d:Int)then((1+Qm l[i].list:Nat):Int)else(d:Int))=((max d (1+Qm l[i].list):Nat):Int):=by split<;>omega
    rw[e,m,q];simp only[s,p,Rb,ja,Cb,Ke,Ld,Ca,bne,Aa,jm];rcases Xe (c==0)with g|g<;>rcases Xe (l[i].token.kind==c)with f|f<;>
     simp only[g,f,D,z,t,A,M,Ea,Ca,zh,Lb,ja,Cb,Vb,Uc,Rb,Vg,Ke,Je,Ld,Bool.not_not]
  grind
 ·grind
 ·rw[ul (fun a v=>(max a.1 (Bh v),a.2.1+(tokV v).length,a.2.2|| !(shV v c))) (fun v a=>rfl),rM];simp[jm]
theorem Sj{a b:List zb}(h:a.Sublist b):szL a<=szL b:=by
 induction h with
 |slnil=>grind
 |cons v _ c=>rw[szL];omega
 |cons_cons v _ c=>rw[szL,szL];omega
theorem Q7(l:List zb):l=[]\/ ∃t v,l=t++[v]:=by
 rcases List.eq_nil_or_concat l with h|⟨t,v,h⟩
 ·exact .inl h
 grind
def isSp(v:zb):Bool:=v.token.kind==13
def trimB(l:List zb):List zb:=(l.reverse.dropWhile isSp).reverse
theorem gW:trimB []=[]:=rfl
theorem Oo(t:List zb)(v:zb):trimB (t++[v])=if isSp v then trimB t else t++[v]:=by
 unfold trimB;rw[List.reverse_append];simp only[List.reverse_cons,List.reverse_nil,Nb,Ra,Xd]
 grind
theorem bn(l:List zb):(trimB l).Sublist l:=by
 unfold trimB
 grind
def trimS(l:List zb):List zb:=trimB (l.dropWhile isSp)
theorem pU(l:List zb):szL (trimS l)<=szL l:=Sj ((bn _).trans (Af _))
theorem Fy(p:zb->Bool): ∀(l:List zb),l.drop (l.length - (l.dropWhile p).length)=l.dropWhile p
 |[]=>rfl
 |v::r=>by
  rw[Xd];split
  ·have h:=List.Sublist.length_le (Af p (l:=r));rw[Ka,Nat.succ_sub h,List.drop_succ_cons];exact Fy p r
  ·simp
def errS(l:List zb):Int:=if 16<Qm l then 20 else if 1500<(tokL l).length then 4 else if shL l 0 then 0 else 8
theorem AA{l:List zb}(h:szL l<=big):qI l=some (errS l):=by
 unfold qI errS;simp only[zg,L6 h,Aa,jm]
 grind
theorem zCx: ∀l:List zb,szL l<=zL Zl l:=by
 have a: ∀(n:Nat) (l:List zb),zL Zl l<n->szL l<=zL Zl l:=by
  intro n
  induction n with
  |zero=>intro l h;omega
  |succ n d=>
   intro l
   induction l with
   |nil=>intro _;rw[szL];grind
   |cons v l b=>
    intro h;rw[DD]at h ⊢;rw[szL,oh];have c:=VW v
    grind
 grind
theorem RX{l:List zb}{a:List ze}(h:szL l<=big)(e:a.length+2*szL l<=4*big):ZG (l,a)=some (a++tokL l):=by
 refine tq (fun z=>szL z.1) (fun z=>szL z.1<=big/\z.2.length+2*szL z.1<=4*big) (fun z=>z.2++tokL z.1) (fun S z q s=> ?_) (x:=(l,a)) ⟨h,e⟩;obtain⟨l,a⟩:=z;obtain⟨h,e⟩:=q;have h:szL l<=big:=h;have e:a.length+2*szL l<=4*big:=e;have j:=Mh l;unfold Sr;refine(Xq l (fun i (b:List ze)=>((i:Int),b)) (fun v b=>some (.again (b++tokV v))) (fun b=>some (.out b)) (fun i b=>b.length<=a.length+2*szL (l.take i)) (a:=a) rfl (by simp) (fun i b d A=> ?_) (fun b _=> ?_) (r:= .out (a++tokL l)) ?_).trans rfl
 ·have o:=Tj (Jc d);have y:=oh l[i];have f:=Rj l[i];have p:=Du l[i].list;have B:=Tz d;have u:=OA l (i+1);have w:=Vx l[i];unfold big at h e;have c: ∀n m:Nat,n+m<=100000000->zF n m 56=true:=fun n m h=>Ai (by omega);refine⟨?_,fun C k=> ?_⟩
  ·simp only[Qx d,Ea,zg,Z8 d,Aa,pG];by_cases g:zx l[i].token.kind=0
   ·rw[Ga g]at f;simp[g,f,qB d (by unfold big;omega),c b.length 1 (by omega)]
   ·rw[Fa g]at f;rw[s (l[i].list,b++[l[i].token]) ⟨by grind,by grind⟩ (by grind)];have t:(zx l[i].token.kind != 0)=true:=Me.2 g;simp[t,f,qB d (by unfold big;omega),c b.length 1 (by omega),c (b.length+((tokL l[i].list).length+1)) 1 (by omega)]
  ·grind
 ·grind
 ·rw[ul (fun a v=>a++tokV v) (fun v a=>rfl),xE]
theorem BL{l:List zb}(h:szL l<=big):Qh l=some (tokL l):=by
 have g:=Mh l;unfold Qh;refine(Xq l (fun i (b:List ze)=>((i:Int),b)) (fun v b=>some (.again (b++tokV v))) (fun b=>some (.out b)) (fun i b=>b.length<=2*szL (l.take i)) (a:=[]) rfl (by simp) (fun i b d u=> ?_) (fun b _=> ?_) (r:= .out (tokL l)) ?_).trans rfl
 ·have k:=Tj (Jc d);have t:=oh l[i];have e:=Rj l[i];have o:=Du l[i].list;have w:=Tz d;have q:=OA l (i+1);have s:=Vx l[i];unfold big at h;have c: ∀n m:Nat,n+m<=100000000->zF n m 56=true:=fun n m h=>Ai (by omega);refine⟨?_,fun x j=> ?_⟩
  ·simp only[Qx d,Ea,zg,Z8 d,Aa,pG];by_cases f:zx l[i].token.kind=0
   ·rw[Ga f]at e;simp[f,e,qB d (by unfold big;omega),c b.length 1 (by omega)]
   ·rw[Fa f]at e;rw[RX (a:=b++[l[i].token]) (show szL l[i].list<=big by unfold big;omega) (by grind)];have p:(zx l[i].token.kind != 0)=true:=Me.2 f;simp[p,e,qB d (by unfold big;omega),c b.length 1 (by omega),c (b.length+((tokL l[i].list).length+1)) 1 (by omega)]
  ·grind
 ·grind
 ·rw[ul (fun a v=>a++tokV v) (fun v a=>rfl),xE];simp
theorem M6{l:List zb}(h:szL l<=big):Ao l=some (if errS l=0 then(tokL l,0)else([],errS l)):=by
 unfold Ao;simp only[AA h,zg,Aa];by_cases he:errS l=0
 ·have:(errS l != 0)=false:=by rw[he];rfl
  rw[this,Ca,BL h,Ga he];rfl
 grind
def szP:List (List zb)->Nat
 |[]=>0
 |l::r=>1+szL l+szP r
theorem XJ{v:List zb}: ∀{l:List (List zb)},v∈l->szL v<=szP l
 |[],h=>by cases h
 |x::l,h=>by
  rw[szP];rcases Ab.1 h with rfl|h
  ·omega
  ·have:=XJ h;omega
theorem YJ: ∀(l:List (List zb)),l.length<=szP l
 |[]=>Xa _
 |v::r=>by rw[szP,Ka];have:=YJ r;omega
theorem jY{R:Type}(x:Option R):both x x=x:=by unfold both;rw[Ga rfl]
theorem BX{l:List zb}(h:szL l<=big):Qe l=some l:=by
 unfold Qe;have b:=Mh l;unfold big at h;have a:zF 0 l.length 80=true:=Ai (by omega);cases l with
 |nil=>simp only[a,jY,zU,List.isEmpty_nil,Ea]
 |cons v r=>simp_all
theorem JD{l:List zb}(h:szL l<=big):Qo l=some l:=by
 refine tq (fun l=>szL l) (fun l=>szL l<=big) (fun l=>l) (fun S l hl hS=> ?_) h;unfold RA;have hlen:=Mh l;simp only[zg,BX hl,Aa];refine(Xq l (fun i (a:List zb)=>((i:Int),a)) (fun v a=>some (.again a)) (fun a=>some (.out a)) (fun i a=>a=l) (a:=l) rfl rfl (fun i a hi hI=> ?_) (fun a hI=> ?_) (r:= .out l) ?_)
 ·subst hI;have hsz:=Tj (Jc hi);have hv2:=oh a[i];refine⟨?_,fun a' ha=>by cases ha;rfl⟩;have h1:S a[i].list=some a[i].list:=hS a[i].list (by omega) (by omega);have h2:decide ((0:Int)<=(i:Int))=true:=Ia (by omega);have h3:a[i]? =some a[i]:=Sa hi;have h4:a.set i ⟨a[i].token,a[i].list⟩=a:=by
   have:(⟨a[i].token,a[i].list⟩:zb)=a[i]:=by cases a[i];rfl
   rw[this,List.set_getElem_self]
  simp only[Qx hi,h2,Bool.and_self,Ea,zU,Bb,h3,Aa,h1,h4,qB hi (by omega),ic]
 ·grind
 ·rw[ul (fun a v=>a) (fun v a=>rfl)];congr 2;clear hl hS hlen h;generalize l=b at*;have: ∀(m b:List zb),m.foldl (fun a _=>a) b=b:=by
   intro m
   induction m with
   |nil=>intro b;rfl
   |cons v m ih=>grind
  exact this _ _
theorem Fw{l:List zb}{i:Nat}(h:i<l.length):Lr ((i:Int),l)=some (isSp l[i]):=by unfold Lr;simp only[zg,Z8 h,Aa];rfl
theorem RY{l:List zb}(h:szL l<=big):Mv l=some (if errS l=0 then(trimS l,0)else([],errS l)):=by
 unfold Mv;have hlen:=Mh l;simp only[zg,AA h,Aa];by_cases h1:errS l=0
 ·rw[Ga h1];have hne:(errS l != 0)=false:=by simp[h1]
  simp only[hne,Ca];have hdl:=List.Sublist.length_le (Af isSp (l:=l));have hdd:=Fy isSp l;refine(QW (r:= .out ((l.length - (l.dropWhile isSp).length:Nat):Int)) (ZV (fun s=> ∃k:Nat,s=(k:Int)/\k<=l.length/\(l.drop k).dropWhile isSp=l.dropWhile isSp) (fun s=>l.length - s.toNat) _ (fun s hs=> ?_) ⟨0,rfl,ib _,rfl⟩)).trans ?_
  ·obtain⟨k,rfl,hk,he⟩:=hs;by_cases hlt:k<l.length
   ·rw[Db hlt,Xd]at he;have hw:=qB hlt (by grind);cases hv:isSp l[k]with
    |true=> rw[Ga hv]at he;refine .inl ⟨((k+1:Nat):Int),?_,⟨k+1,rfl,hlt,he⟩,by omega⟩;simp only[Qx hlt,zQ,Fw hlt,Aa,hv,Ea,hw]
    |false=>
     rw[Fa (by rw[hv];simp)]at he;refine .inr (.inl ⟨(k:Int),?_,?_⟩)
     ·simp only[Qx hlt,zQ,Fw hlt,Aa,hv,Ea,Ca]
     grind
   ·have hkk:k=l.length:=by omega
    simp_all
  ·rw[zlq];generalize hf:l.length - (l.dropWhile isSp).length=f at hdd;have hfl:f<=l.length:=by omega
   generalize l.dropWhile isSp=d at hdd;subst hdd;refine(QW (r:= .out ((f+(trimB (l.drop f)).length:Nat):Int)) (ZV (fun s=> ∃m:Nat,s=(m:Int)/\f<=m/\m<=l.length/\trimB ((l.take m).drop f)=trimB (l.drop f)) (fun s=>s.toNat) _ (fun s hs=> ?_) ⟨l.length,rfl,hfl,Xa _,by grind⟩)).trans ?_
   ·obtain⟨m,rfl,hm1,hm2,he⟩:=hs;by_cases hlt:f<m
    ·have hm:m - 1<l.length:=by omega
     have hsn:(l.take m).drop f=(l.take (m - 1)).drop f++[l[m - 1]]:=by
      have:l.take m=l.take (m - 1)++[l[m - 1]]:=by
       have:=Dc hm
       rwa [show m - 1+1=m by omega]at this
      rw[this,Bg (by rw[Nc];omega)]
     rw[hsn,Oo]at he;have h2:decide ((f:Int)<(m:Int))=true:=Ia (by omega);have hw:w64 ((m:Int) - 1)=((m - 1:Nat):Int):=by rw[w64,Z0 (by omega) (by unfold big at h;omega)];omega
     cases hv:isSp l[m - 1]with
     |true=> rw[Ga hv]at he;refine .inl ⟨((m - 1:Nat):Int),?_,⟨m - 1,rfl,by omega,by omega,he⟩,by omega⟩;simp only[h2,zQ,hw,Fw hm,Aa,hv,Ea]
     |false=>
      rw[Fa (by rw[hv];simp)]at he;refine .inr (.inl ⟨(m:Int),?_,?_⟩)
      ·simp only[h2,zQ,hw,Fw hm,Aa,hv,Ea,Ca]
      ·rw[<-he];congr 1;simp;omega
    ·have hmm:m=f:=by omega
     subst hmm;have h2:decide ((m:Int)<(m:Int))=false:=Ya (by omega);refine .inr (.inl ⟨(m:Int),?_,?_⟩)
     ·simp only[h2,Zt,Aa,Ca]
     ·rw[xe (by rw[Nc];omega),gW]at he;rw[<-he];simp
   ·rw[zlq];have htl:=List.Sublist.length_le (bn (l.drop f));rw[Ub]at htl;have hcut:List.drop f (List.take (f+(trimB (l.drop f)).length) l)=trimB (l.drop f):=by
     rw[List.drop_take];have: ∀d:List zb,d.take (trimB d).length=trimB d:=by intro d;unfold trimB;rw[List.length_reverse];have h3:=Fy isSp d.reverse;have h4:=List.Sublist.length_le (Af isSp (l:=d.reverse));rw[List.length_reverse]at h3 h4;rw[<-h3,List.drop_reverse,List.reverse_reverse];congr 1;simp
     have e:=this (l.drop f);rw[show f+(trimB (l.drop f)).length - f=(trimB (l.drop f)).length by omega];exact e
    have hneed:(decide ((0:Int)<=(f:Int))&&(decide ((f:Int)<=((f+(trimB (l.drop f)).length:Nat):Int))&&(decide (((f+(trimB (l.drop f)).length:Nat):Int)<=((f+(trimB (l.drop f)).length:Nat):Int))&&decide (((f+(trimB (l.drop f)).length:Nat):Int)<=(l.length:Int))))&&decide True)=true:=by simp only[Da,Eb];refine⟨?_,trivial⟩;omega
    have hts:trimS l=trimB (l.drop f):=by unfold trimS;rw[<-Fy isSp l,hf]
    simp only[hneed,zU,Bb,hcut,JD (Yb (Sj ((bn _).trans (List.drop_sublist _ _))) h),Aa,hts]
 grind
def Tf(k:Int)(a:List (List zb)×List zb)(v:zb):List (List zb)×List zb:=
 if v.token.kind==k then(a.1++[a.2],[])else(a.1,a.2++[v])
def Uf(k:Int)(l:List zb):List (List zb)×List zb:=l.foldl (Tf k) ([],[])
def Dg(k:Int)(l:List zb):List (List zb):=(Uf k l).1++[(Uf k l).2]
theorem aZ{k:Int}{l:List zb}{i:Nat}(h:i<l.length):Uf k (l.take (i+1))=Tf k (Uf k (l.take i)) l[i]:=by unfold Uf;rw[Dc h,af];rfl
theorem iO(a b:List (List zb)):szP (a++b)=szP a+szP b:=by
 induction a with
 |nil=>simp[szP]
 |cons x a c=>simp only[Ra,szP,c];omega
theorem EG(a b:List zb):szL (a++b)=szL a+szL b:=by
 induction a with
 |nil=>simp[szL]
 |cons x a c=>simp only[Ra,szL,c];omega
theorem wy(k:Int): ∀(l:List zb) (a:List (List zb)×List zb),szP (l.foldl (Tf k) a).1+szL (l.foldl (Tf k) a).2<=szP a.1+szL a.2+szL l/\(l.foldl (Tf k) a).1.length<=a.1.length+l.length/\(l.foldl (Tf k) a).2.length<=a.2.length+l.length
 |[],a=>by simp[szL]
 |v::l,a=>by
  rw[Xc];obtain⟨e,c,b⟩:=wy k l (Tf k a v);have d:=oh v;have:szP (Tf k a v).1+szL (Tf k a v).2<=szP a.1+szL a.2+szV v/\(Tf k a v).1.length<=a.1.length+1/\(Tf k a v).2.length<=a.2.length+1:=by
   unfold Tf;split
   ·simp only[iO,szP,szL,Ja,Ka,Ob];omega
   ·simp only[EG,szL,Ja,Ka,Ob];omega
  rw[szL,Ka];omega
theorem uW(k:Int)(l:List zb):szP (Dg k l)<=szL l+1:=by obtain⟨c,_,_⟩:=wy k l ([],[]);unfold Dg Uf;rw[iO,szP,szP];have b:szP ([]:List (List zb))=0:=rfl;have a:szL ([]:List zb)=0:=rfl;simp only[b,a]at c;omega
theorem oZ{l:List zb}{k:Int}(h:szL l<=big):Tv (l,k)=some (if errS l=0 then(if k<1\/24<k then([],2)else(Dg k l,0))else([],errS l)):=by
 unfold Tv;have hlen:=Mh l;simp only[zg,AA h,Aa];by_cases h1:errS l=0
 ·have hne:(errS l != 0)=false:=by simp[h1]
  rw[Ga h1];simp only[hne,Ca,fD];by_cases h2:k<1\/24<k
  ·have:(decide (k<1)||decide (k>24))=true:=by simpa using h2
   rw[Ga h2,this];rfl
  ·have:(decide (k<1)||decide (k>24))=false:=by rw[Mc];exact⟨Ya (by omega),Ya (by omega)⟩
   rw[Fa h2,this];simp only[Ca];refine(QW (r:= .out (((l.length - (Uf k l).2.length:Nat):Int),(Uf k l).1)) (ZV (fun s=> ∃i from_:Nat,s=(((from_:Int),(i:Int)),(Uf k (l.take i)).1)/\from_<=i/\i<=l.length/\(Uf k (l.take i)).2=(l.take i).drop from_) (fun s=>l.length - s.1.2.toNat) _ (fun s hs=> ?_) ⟨0,0,by simp[Uf],Xa _,ib _,by simp[Uf]⟩)).trans ?_
   ·obtain⟨i,fr,rfl,hfi,hil,he⟩:=hs;by_cases hi:i<l.length
    ·refine .inl ?_;have hw:=qB hi (by unfold big at h ⊢;omega);have hpt:=aZ (k:=k) hi;have htk:l.take (i+1)=l.take i++[l[i]]:=Dc hi;unfold Tf at hpt;simp only[Qx hi,Ea,Z8 hi,Aa];cases hv:(l[i].token.kind==k)with
     |true=>
      rw[Ga hv]at hpt;have hn:(decide ((0:Int)<=(fr:Int))&&(decide ((fr:Int)<=(i:Int))&&(decide ((i:Int)<=(i:Int))&&decide ((i:Int)<=(l.length:Int))))&&decide True)=true:=by simp only[Da,Eb];refine⟨?_,trivial⟩;omega
      have hsz:szL (List.drop fr (List.take i l))<=big:=Yb (Sj ((List.drop_sublist _ _).trans (List.take_sublist _ _))) h;have hpl:=(wy k (l.take i) ([],[])).2.1;have hap:zF (Uf k (l.take i)).1.length 1 24=true:=Ai (by
       unfold Uf;have:=List.length_take_le i l;unfold big at h;simp only[Ob]at hpl;omega)
      refine⟨((((i+1:Nat):Int),((i+1:Nat):Int)),(Uf k (l.take (i+1))).1),?_,⟨i+1,i+1,rfl,Xa _,hi,?_⟩,?_⟩
      ·simp only[Ea,hn,zU,Bb,JD hsz,Aa,hap,hw,zh,hpt,he]
      ·rw[hpt];simp
      ·simp only[Bb];omega
     |false=>
      rw[Fa (by rw[hv];simp)]at hpt;refine⟨(((fr:Int),((i+1:Nat):Int)),(Uf k (l.take (i+1))).1),?_,⟨i+1,fr,rfl,by omega,hi,?_⟩,?_⟩
      ·simp only[Ca,zh,hw,hpt]
      ·rw[hpt,htk,he,Bg (by rw[Nc];omega)]
      ·simp only[Bb];omega
    ·have hil:i=l.length:=by omega
     subst hil;rw[Ff]at he ⊢;refine .inr (.inl ⟨((fr:Int),(Uf k l).1),by simp only[Wj,Ca],?_⟩);rw[he,Ub];congr 2;omega
   ·rw[zlq]
    -- the last part is behind
    have key: ∀(m:List zb) (a:List (List zb)×List zb) (p:List zb),a.2<:+p->(m.foldl (Tf k) a).2<:+p++m:=by
     intro m
     induction m with
     |nil=>intro a p h;simpa using h
     |cons v m ih=>
      intro a p h;rw[Xc];have:(Tf k a v).2<:+p++[v]:=by
       unfold Tf;split
       ·exact List.nil_suffix
       ·obtain⟨q,hq⟩:=h;exact⟨q,by rw[<-hq,La]⟩
      have:=ih _ _ this
      rwa [La]at this
    have hsuf:=key l ([],[]) [] (Re _);rw[Nb]at hsuf;have hdr:List.drop (l.length - (Uf k l).2.length) l=(Uf k l).2:=by unfold Uf;exact(List.suffix_iff_eq_drop.1 hsuf).symm
    have hsz:szL (Uf k l).2<=big:=by have:=Sj hsuf.sublist;unfold Uf;omega
    have hle:(Uf k l).2.length<=l.length:=by unfold Uf;exact hsuf.length_le
    have hn:(decide ((0:Int)<=((l.length - (Uf k l).2.length:Nat):Int))&&decide (((l.length - (Uf k l).2.length:Nat):Int)<=(l.length:Int)))=true:=by simp only[Da,Eb];omega
    have hpl:=(wy k l ([],[])).2.1;have hap:zF (Uf k l).1.length 1 24=true:=Ai (by
     unfold Uf;unfold big at h;simp only[Ob]at hpl;omega)
    simp only[hn,zU,Bb,hdr,JD hsz,Aa,hap];rfl
 ·have h2:(errS l != 0)=true:=Me.2 h1;rw[Fa h1];simp only[h2,Ea]
end Go.Lv.VT

namespace Go.Lv
theorem Le.lp{S X R:Type}{step step':S->Option (LO S X R)}{s:S}{k k':X->Option R}(h: ∀s,Le (step s) (step' s))(hk: ∀x,Le (k x) (k' x)):Le (ZE step s k) (ZE step' s k'):=by
 intro y hy;unfold ZE at hy;cases hl:Lg step s with
 |none=>rw[hl]at hy;cases hy
 |some r=>
  rw[hl]at hy;obtain⟨n,hn⟩:=MO hl;rw[QW (Aj (IE h n s r hn))];cases r with
  |out x=>exact hk x y hy
  |ret r=>exact hy
def PT{X Y:Type}(B:(X->Option Y)->X->Option Y):Prop:= ∀S S':X->Option Y,(∀x,Le (S x) (S' x))-> ∀x,Le (B S x) (B S' x)
theorem MW {X Y:Type} {B:(X->Option Y)->X->Option Y} (hm:PT B) (μ:X->Nat) (ok:X->Prop) (R:X->Y->Prop)
  (hB: ∀(S:X->Option Y) (x:X),ok x->(∀z,ok z->μ z<μ x-> ∃y,S z=some y/\R z y)-> ∃y,B S x=some y/\R x y) {x:X} (hx:ok x): ∃y,recE B x=some y/\R x y:=by
 have step: ∀n x,Le (bg B n x) (bg B (n+1) x):=by
  intro n
  induction n with
  |zero=>intro x;exact Le.none
  |succ n ih=>intro x;exact hm _ _ ih x
 have up: ∀d n x,Le (bg B n x) (bg B (n+d) x):=by
  intro d
  induction d with
  |zero=>intro n x;exact Le.rfl
  |succ d ih=>intro n x y hy;exact step _ x y (ih n x y hy)
 have key: ∀(m:Nat) (x:X),μ x<m->ok x-> ∃y,bg B m x=some y/\R x y:=by
  intro m
  induction m with
  |zero=>intro x h;omega
  |succ m ih=> intro x hm hok;exact hB _ x hok fun z hz hlt=>ih z (by omega) hz
 obtain⟨y,h1,h2⟩:=key (μ x+1) x (by omega) hx;refine⟨y,iC (N:=μ x+1) fun n hn=> ?_,h2⟩;obtain⟨d,rfl⟩:=Nat.le.dest hn;exact up d _ x y h1
theorem KV {A S X R:Type} {step:S->Option (LO S X R)} {k:X->Option R} (n:Nat) (st:Nat->A->S) (Inv:Nat->A->Prop) (Q:R->Prop) {s0:S} {a0:A} (h0:s0=st 0 a0) (hI:Inv 0 a0)
  (hg: ∀(i:Nat) (a:A),i<n->Inv i a->(∃a',step (st i a)=some (.again (st (i+1) a'))/\Inv (i+1) a')\/(∃r,step (st i a)=some (.ret r)/\Q r)\/(∃x,step (st i a)=some (.out x)/\ ∃r,k x=some r/\Q r))
  (hf: ∀a,Inv n a->(∃x,step (st n a)=some (.out x)/\ ∃r,k x=some r/\Q r)\/(∃r,step (st n a)=some (.ret r)/\Q r)): ∃r,ZE step s0 k=some r/\Q r:=by
 have key: ∀(m i:Nat) (a:A),i+m=n->Inv i a-> ∃j x,qL step j (st i a)=some x/\ ∃r,LX.go x k=some r/\Q r:=by
  intro m
  induction m with
  |zero=>
   intro i a hi ha;obtain rfl:i=n:=by omega
   rcases hf a ha with⟨x,h1,r,h2,h3⟩|⟨r,h1,h2⟩
   ·exact⟨1, .out x,by simp only[qL,h1],r,h2,h3⟩
   ·exact⟨1, .ret r,by simp only[qL,h1],r,rfl,h2⟩
  |succ m ih=>
   intro i a hi ha;rcases hg i a (by omega) ha with⟨a',h1,h2⟩|⟨r,h1,h2⟩|⟨x,h1,r,h2,h3⟩
   ·obtain⟨j,x,g1,g2⟩:=ih (i+1) a' (by omega) h2;exact⟨j+1,x,by simp only[qL,h1];exact g1,g2⟩
   ·exact⟨1, .ret r,by simp only[qL,h1],r,rfl,h2⟩
   ·exact⟨1, .out x,by simp only[qL,h1],r,h2,h3⟩
 obtain⟨j,x,h1,r,h2,h3⟩:=key n 0 a0 (by omega) hI;refine⟨r,?_,h3⟩;rw[h0,QW (Aj h1),h2]
namespace VT
def mx{α:Type}(f:α->Nat):List α->Nat
 |[]=>0
 |v::l=>max (f v) (mx f l)
end VT
end Go.Lv

namespace Go.Lv.VT
set_option maxRecDepth 100000
theorem M9:PT kr:=by intro qJ ref04_Size' h_ref04_Size x;unfold kr;exact(.lp (fun _=>(.bif (.bind .rfl fun _=>(.bind .rfl fun _=>(.bind .rfl fun _=>(.bind (h_ref04_Size _) fun _=> .rfl)))) .rfl)) fun _=> .rfl)
theorem KW{a:List zb}(h:szL a<=big):QR (a,a)=some true:=by
 refine tq (fun x:List zb×List zb=>szL x.1) (fun x=>szL x.1<=big/\x.1=x.2) (fun x=>true) (fun S x d k=> ?_) (show szL (a,a).1<=big/\(a,a).1=(a,a).2 from⟨h,rfl⟩);obtain⟨l,p⟩:=x;obtain⟨d,m⟩:=d;simp only at d k m;subst m;unfold dA;have j:=Mh l;have c:((l.length:Int) != (l.length:Int))=false:=by simp
 simp only[c,Ca];refine(dE l (fun i (_:Unit)=>(i:Int)) (fun v (_:Unit)=>some (.again ())) (fun _=>some (.out ())) (a:=()) rfl (fun i a b=> ?_) (fun a=> ?_) (r:= .out ()) ?_)
 ·have n:=Tj (Jc b);have o:=oh l[i];have e:szL l[i].list<=big:=by omega
  have g:szL l[i].list<szL l:=by omega
  have f:S (l[i].list,l[i].list)=some true:=k (l[i].list,l[i].list) ⟨e,rfl⟩ g;simp[b,Z8 b,f,qB b (by omega)]
 ·grind
 ·rw[ul (fun a v=>a) (fun v a=>rfl)]
inductive Cuts (k:Int):List zb->List (List zb)->Prop
 |one (p:List zb) (h: ∀x∈p,(x.token.kind==k)=false):Cuts k p [p]
 |more (p:List zb) (s:zb) (v:List zb) (ps:List (List zb)) (h: ∀x∈p,(x.token.kind==k)=false) (hs:(s.token.kind==k)=true) (hc:Cuts k v ps):Cuts k (p++s::v) (p::ps)
theorem vO(d:List zb): ∃r,d=trimB d++r/\(∀x∈r,isSp x=true)/\(trimB d=[]\/ ∃t v,trimB d=t++[v]/\isSp v=false):=by
 induction hn:d.length generalizing d with
 |zero=>
  obtain rfl:=ae.1 hn;exact⟨[],rfl,fun x hx=>(by cases hx), .inl rfl⟩
 |succ n ih=>
  rcases Q7 d with rfl|⟨t,v,rfl⟩
  ·cases hn
  ·rw[Oo];cases hv:isSp v with
   |true=>
    rw[Ga rfl];obtain⟨r,h1,h2,h3⟩:=ih t (by rw[Ja]at hn;simpa using hn);refine⟨r++[v],by rw[<-La,<-h1],fun x hx=> ?_,h3⟩;rcases Tc.1 hx with hx|hx
    ·exact h2 x hx
    ·rw[Td.1 hx];exact hv
   |false=> rw[Fa (by decide)];exact⟨[],(Ua _).symm,fun x hx=>(by cases hx), .inr ⟨t,v,rfl,hv⟩⟩
theorem pF: ∀(v:List zb),∃a,v=a++v.dropWhile isSp/\(∀x∈a,isSp x=true)/\ ∀x b,v.dropWhile isSp=x::b->isSp x=false
 |[]=>⟨[],rfl,fun x hx=>(by cases hx),fun x b h=>(by cases h)⟩
 |y::v=>by
  obtain⟨a,h1,h2,h3⟩:=pF v;cases hy:isSp y with
  |true=>
   rw[List.dropWhile_cons_of_pos hy];refine⟨y::a,by rw[Ra,<-h1],fun x hx=> ?_,h3⟩;rcases Ab.1 hx with rfl|hx
   ·exact hy
   ·exact h2 x hx
  |false=> rw[List.dropWhile_cons_of_neg (by rw[hy];decide)];exact⟨[],rfl,fun x hx=>(by cases hx),fun x b h=>(by cases h;exact hy)⟩
end Go.Lv.VT
