/- How large values are. -/
import Derived.Test.YtcdeccnjlkkejaaGreatDoorIp
import Derived.Test.YtcdeccnjlkkejaaGreatDoorLaw
import Derived.Test.YtcdeccnjlkkejaaGreatDoorLf
import Derived.Test.YtcdeccnjlkkejaaGreatDoorMo
import Derived.Test.YtcdeccnjlkkejaaGreatDoorLe
import Derived.Test.YtcdeccnjlkkejaaGreatDoorTx
import Derived.KernelRfl
set_option linter.unusedSimpArgs false
set_option linter.unusedVariables false
namespace Go.Lv.VT
def zL{α:Type}(f:α->List PV)(l:List α):Nat:=Mk (l.map f)
theorem sN{α:Type}(f:α->List PV)(v:α)(l:List α):zL f (v::l)=QH (f v)+zL f l:=rfl
theorem pR(x:zb):QH (zo x)=6+x.token.text.length+x.token.unit.length+zL zo x.list:=by rw[eY];simp only[QH,bPV,zL];omega
mutual
/-- How large values are. -/
def szV:zb->Nat
 |⟨t,l⟩=>1+t.text.length+t.unit.length+szL l
def szL:List zb->Nat
 |[]=>0
 |v::r=>szV v+szL r
end
theorem ig(v:zb):szV v=1+v.token.text.length+v.token.unit.length+szL v.list:=by obtain⟨t,l⟩:=v;rw[szV]
theorem yh{v:zb}: ∀{l:List zb},v∈l->szV v<=szL l
 |[],h=>by cases h
 |x::l,h=>by
  rw[szL];rcases Va.1 h with rfl|h
  ·omega
  ·have:=yh h;omega
theorem QF: ∀(l:List zb),l.length<=szL l
 |[]=>Ra _
 |v::r=>by rw[szL,ig,Ub];have:=QF r;omega
theorem Dv(n:Nat):decide ((n:Int)>0)=decide (0<n):=by
 grind
theorem BC(k:Int):qL k=some (zF k):=by
 unfold qL zF;by_cases b:k=19
 ·subst b;rfl
 by_cases d:k=21
 ·subst d;rfl
 by_cases c:k=2
 ·subst c;rfl
 by_cases a:k=23
 ·subst a;rfl
 have g:(k==19)=false:=Ua.2 b;have h:(k==21)=false:=Ua.2 d;have e:(k==2)=false:=Ua.2 c;have f:(k==23)=false:=Ua.2 a;simp only[g,h,e,f,Sa,zQ,b,d,c,a,if_false,or_self]
theorem Iu(k:Int):Zr k=some (zF k):=by
 unfold Zr zF;by_cases b:k=19
 ·subst b;rfl
 by_cases d:k=21
 ·subst d;rfl
 by_cases c:k=2
 ·subst c;rfl
 by_cases a:k=23
 ·subst a;rfl
 have g:(k==19)=false:=Ua.2 b;have h:(k==21)=false:=Ua.2 d;have e:(k==2)=false:=Ua.2 c;have f:(k==23)=false:=Ua.2 a;simp only[g,h,e,f,Sa,zQ,b,d,c,a,if_false,or_self]
mutual
/-- The depth of values. -/
def ah:zb->Nat
 |⟨t,l⟩=>if zF t.kind=0 then 0 else 1+Qx l
def Qx:List zb->Nat
 |[]=>0
 |v::r=>max (ah v) (Qx r)
end
theorem eG(v:zb):ah v=if zF v.token.kind=0 then 0 else 1+Qx v.list:=by obtain⟨t,l⟩:=v;rw[ah]
mutual
theorem NR: ∀v:zb,ah v<=szV v
 |⟨t,l⟩=>by rw[ah,szV];have:=Rw l;split<;>omega
theorem Rw: ∀l:List zb,Qx l<=szL l
 |[]=>Ra _
 |v::r=>by rw[Qx,szL];have:=NR v;have:=Rw r;omega
end
theorem XI(f:zb->Nat): ∀(l:List zb) (a:Nat),l.foldl (fun a v=>max a (f v)) a=max a (l.foldr (fun v a=>max (f v) a) 0)
 |[],a=>by simp
 |v::l,a=>by rw[Ie,XI f l,List.foldr_cons];omega
theorem fG: ∀(l:List zb),Qx l=l.foldr (fun v a=>max (ah v) a) 0
 |[]=>by rw[Qx];rfl
 |v::l=>by rw[Qx,fG l];rfl
theorem wG{l:List zb}(h:szL l<=big):qE l=some (Qx l:Int):=by
 refine aj (fun l=>szL l) (fun l=>szL l<=big) (fun l=>(Qx l:Int)) (fun S l n j=> ?_) h;unfold Hy;have e:=QF l;refine(Iw l (fun i (a:Nat)=>((a:Int),(i:Int))) (fun v a=>some (.again (max a (ah v)))) (fun a=>some (.out (a:Int))) (a:=0) rfl (fun i a b=> ?_) (fun a=> ?_) (r:= .out (Qx l:Int)) ?_)
 ·have f:=yh (Nc b);have k:=ig l[i];have c:=eG l[i];have g:=Rw l[i].list;simp only[Qc b,Oa,ze,qZ b,Ca,BC];by_cases d:zF l[i].token.kind=0
  ·rw[ja d]at c;simp[d,c,ZF b (by omega)]
  ·rw[Ta d]at c;rw[j l[i].list (by omega) (by omega)];have m:w64 (1+(Qx l[i].list:Int))=((1+Qx l[i].list:Nat):Int):=by rw[w64,Z8 (by omega) (by grind)];omega
   simp only[Re.2 d,Oa,Ca,zQ,ZF b (by omega),m,c,Ob]
   grind
 ·grind
 ·rw[Q4 (fun a v=>max a (ah v)) (fun v a=>rfl),XI,<-fG];simp
theorem Kr{l:List zb}: ∀{i:Nat} (h:i<l.length),szL (l.take (i+1))=szL (l.take i)+szV l[i]:=by
 induction l with
 |nil=>grind
 |cons v r a=>
  intro i h;cases i with
  |zero=>simp[szL]
  |succ i=>
   simp only[jf,szL,List.getElem_cons_succ]
   grind
theorem Xt(l:List zb)(i:Nat):szL (l.take i)<=szL l:=by
 induction l generalizing i with
 |nil=>simp
 |cons v r a=>
  cases i with
  |zero=>simp[szL]
  |succ i=>simp only[jf,szL];grind
mutual
/-- The tokens of values. -/
def tokV:zb->List zg
 |⟨t,l⟩=>t::if zF t.kind=0 then []else tokL l++[⟨zF t.kind,[],0,[],false⟩]
def tokL:List zb->List zg
 |[]=>[]
 |v::r=>tokV v++tokL r
end
theorem Ov(v:zb):tokV v=v.token::if zF v.token.kind=0 then []else tokL v.list++[⟨zF v.token.kind,[],0,[],false⟩]:=by obtain⟨t,l⟩:=v;rw[tokV]
mutual
theorem fq: ∀v:zb,(tokV v).length<=2*szV v
 |⟨t,l⟩=>by
  rw[tokV,szV];have:=El l
  grind
theorem El: ∀l:List zb,(tokL l).length<=2*szL l
 |[]=>Ra _
 |v::r=>by rw[tokL,szL,La];have:=fq v;have:=El r;omega
end
theorem ow: ∀(l:List zb) (a:List zg),l.foldl (fun a v=>a++tokV v) a=a++tokL l
 |[],a=>by simp[tokL]
 |v::l,a=>by rw[Ie,ow l,tokL,Dc]
theorem FV{l:List zb}(h:szL l<=big):qc l=some (tokL l):=by
 refine aj (fun l=>szL l) (fun l=>szL l<=big) (fun l=>tokL l) (fun S l j o=> ?_) h;unfold Ty;have f:=QF l;refine(Un l (fun i (a:List zg)=>((i:Int),a)) (fun v a=>some (.again (a++tokV v))) (fun a=>some (.out a)) (fun i a=>a.length<=2*szL (l.take i)) (a:=[]) rfl (by simp) (fun i a c u=> ?_) (fun a _=> ?_) (r:= .out (tokL l)) ?_)
 ·have g:=yh (Nc c);have t:=ig l[i];have d:=Ov l[i];have k:=El l[i].list;have w:=Kr c;have q:=Xt l (i+1);have s:=fq l[i];unfold big at j;have b: ∀n m:Nat,n+m<=100000000->zB n m 56=true:=fun n m h=>di (by omega);refine⟨?_,fun x y=> ?_⟩
  ·simp only[Qc c,Oa,ze,qZ c,Ca,BC];by_cases e:zF l[i].token.kind=0
   ·rw[ja e]at d;simp[e,d,ZF c (by unfold big;omega),b a.length 1 (by omega)]
   ·rw[Ta e]at d;rw[o l[i].list (by unfold big;omega) (by omega)];have p:(zF l[i].token.kind != 0)=true:=Re.2 e;simp[p,d,ZF c (by unfold big;omega),b a.length 1 (by omega),b (a.length+1) (tokL l[i].list).length (by omega),b (a.length+((tokL l[i].list).length+1)) 1 (by omega)]
  ·grind
 ·grind
 ·rw[Q4 (fun a v=>a++tokV v) (fun v a=>rfl),ow];simp
mutual
/-- Whether lists are those of blocks, and have not their closers. -/
def shV:zb->Int->Bool
 |⟨t,l⟩,c=> !((zF t.kind==0&&decide (0<l.length))||(c != 0&&t.kind==c)||(zF t.kind != 0&& !(shL l (zF t.kind))))
def shL:List zb->Int->Bool
 |[],_=>true
 |v::r,c=>shV v c&&shL r c
end
theorem BF(v:zb)(c:Int):shV v c= !((zF v.token.kind==0&&decide (0<v.list.length))||(c != 0&&v.token.kind==c)||(zF v.token.kind != 0&& !(shL v.list (zF v.token.kind)))):=by obtain⟨t,l⟩:=v;rw[shV]
theorem GV{l:List zb}{c:Int}(h:szL l<=big):qd (l,c)=some (shL l c):=by
 refine aj (fun x:List zb×Int=>szL x.1) (fun x=>szL x.1<=big) (fun x=>shL x.1 x.2) (fun S x A q=> ?_) h;obtain⟨l,c⟩:=x;simp only at A q ⊢;unfold Sy;have m:=QF l;have f: ∀l:List zb,Dh (fun v (_:Unit)=>if shV v c=true then some (.again ())else some (.ret false)) (fun _=>some (.out ())) l ()=some (if shL l c=true then .out ()else .ret false):=by
  intro l
  induction l with
  |nil=>simp[Dh,shL]
  |cons v r y=>
   by_cases n:shV v c=true
   ·simpa [Dh,shL,n] using y
   ·simp[Dh,shL,n]
 refine(Iw l (fun i (_:Unit)=>(i:Int)) (fun v (_:Unit)=>if shV v c=true then some (.again ())else some (.ret false)) (fun _=>some (.out ())) (a:=()) rfl (fun i a d=> ?_) (fun a=> ?_) (f l)).trans ?_
 ·have C:=yh (Nc d);have w:=ig l[i];have z:=BF l[i] c;simp only[Qc d,Oa,ze,qZ d,Ca,BC];have g:szL l[i].list<=big:=by omega
  have j:szL l[i].list<szL l:=by omega
  have e: ∀b,S (l[i].list,b)=some (shL l[i].list b):=fun b=>q (l[i].list,b) g j;rw[z];have o:decide ((l[i].list.length:Int)>0)=decide (0<l[i].list.length):=Dv _;have B:=ZF d (by omega);simp only[bne,o];rcases Sc (zF l[i].token.kind==0)with k|k<;>rcases Sc (decide (0<l[i].list.length))with u|u<;>rcases Sc (c==0)with s|s<;>rcases Sc (l[i].token.kind==c)with p|p<;>rcases Sc (shL l[i].list (zF l[i].token.kind))with t|t<;>
   simp only[e,o,k,u,s,p,t,B,Oa,Sa,Mc,ib,Vd,Ff,Ac,jc,Bool.or_true,Bool.or_false,Bool.true_or,Bool.false_or,zJ,ZI,Ca,Yd,if_false,Ob,Bool.false_eq_true]
 ·grind
 ·cases h:shL l c<;>simp
def Yk(l:List zb)(c:Int):zn:=⟨Qx l,(tokL l).length, !(shL l c)⟩
theorem gI(c:Int): ∀(l:List zb) (a:Nat×Nat×Bool),l.foldl (fun a v=>(max a.1 (ah v),a.2.1+(tokV v).length,a.2.2|| !(shV v c))) a=(max a.1 (Qx l),a.2.1+(tokL l).length,a.2.2|| !(shL l c))
 |[],a=>by simp[Qx,tokL,shL]
 |v::l,a=>by
  rw[Ie,gI c l,Qx,tokL,shL,La];simp only[Prod.mk.injEq]
  grind
theorem OG(a b:Bool):(bif a then true else b)=(a||b):=by cases a<;>rfl
theorem YR(a b:Bool):(bif a then b else false)=(a&&b):=by cases a<;>rfl
theorem BX{l:List zb}{c:Int}(h:szL l<=big):Z5 (l,c)=some (Yk l c):=by
 refine aj (fun x:List zb×Int=>szL x.1) (fun x=>szL x.1<=big) (fun x=>Yk x.1 x.2) (fun S x C E=> ?_) h;obtain⟨l,c⟩:=x;simp only at C E ⊢;unfold Eo;have B:=QF l;refine(Un l (fun i (a:Nat×Nat×Bool)=>((i:Int),(⟨(a.1:Int),(a.2.1:Int),a.2.2⟩:zn))) (fun v a=>some (.again (max a.1 (ah v),a.2.1+(tokV v).length,a.2.2|| !(shV v c)))) (fun a=>some (.out (⟨(a.1:Int),(a.2.1:Int),a.2.2⟩:zn))) (fun i a=>a.2.1<=2*szL (l.take i)) (a:=(0,0,false)) rfl (by simp) (fun i a j J=> ?_) (fun a _=> ?_) (r:= .out (Yk l c)) ?_)
 ·have N:=yh (Nc j);have H:=ig l[i];have m:=eG l[i];have O:=Rw l[i].list;have o:=Ov l[i];have P:=El l[i].list;have e:=BF l[i] c;have K:=Kr j;have G:=Xt l (i+1);have Q:=fq l[i];have w:szL l[i].list<=big:=by omega
  have y:szL l[i].list<szL l:=by omega
  have p:S (l[i].list,zF l[i].token.kind)=some (Yk l[i].list (zF l[i].token.kind)):=E (l[i].list,zF l[i].token.kind) w y;obtain⟨d,n,b⟩:=a;simp only at J;have D:=ZF j (by omega);unfold big at C;have u:w64 ((n:Int)+1)=((n+1:Nat):Int):=by rw[w64,Z8 (by omega) (by omega)];omega
  refine⟨?_,fun R T=> ?_⟩
  ·have L:decide ((l[i].list.length:Int)>0)=decide (0<l[i].list.length):=Dv _;simp only[Qc j,Oa,ze,qZ j,Ca,Iu,Ob,u,bne,L,OG,YR];by_cases k:zF l[i].token.kind=0
   ·rw[ja k]at m o;simp only[k,beq_self_eq_true,Ac,Mc,jc,Bool.or_false,bne]at e ⊢;rw[e,m,o];rcases Sc (decide (0<l[i].list.length))with F|F<;>rcases Sc (c==0)with g|g<;>rcases Sc (l[i].token.kind==c)with f|f<;>
     simp[F,g,f,D,Oa,Sa]
   ·rw[Ta k]at m o;have s:(zF l[i].token.kind==0)=false:=Ua.2 k;have z:w64 ((Qx l[i].list:Int)+1)=((1+Qx l[i].list:Nat):Int):=by rw[w64,Z8 (by omega) (by omega)];omega
    have t:w64 (((n+1:Nat):Int)+((tokL l[i].list).length:Int))=((n+1+(tokL l[i].list).length:Nat):Int):=by rw[w64,Z8 (by omega) (by omega)];omega
    have A:w64 (((n+1+(tokL l[i].list).length:Nat):Int)+1)=((n+(1+((tokL l[i].list).length+1)):Nat):Int):=by rw[w64,Z8 (by omega) (by omega)];omega
    have q:(tokV l[i]).length=1+((tokL l[i].list).length+1):=by rw[o];simp;omega
    have M:(if((1+Qx l[i].list:Nat):Int)>(d:Int)then((1+Qx l[i].list:Nat):Int)else(d:Int))=((max d (1+Qx l[i].list):Nat):Int):=by split<;>omega
    rw[e,m,q];simp only[s,p,jc,ib,Ac,Bool.or_false,Bool.false_or,Sa,bne,Ca,Yk];rcases Sc (c==0)with g|g<;>rcases Sc (l[i].token.kind==c)with f|f<;>
     simp only[g,f,D,z,t,A,M,Oa,Sa,zQ,Mc,ib,Ac,Vd,Ff,jc,Bool.or_true,Bool.or_false,Bool.true_or,Bool.false_or,Bool.not_not]
  grind
 ·grind
 ·rw[Q4 (fun a v=>(max a.1 (ah v),a.2.1+(tokV v).length,a.2.2|| !(shV v c))) (fun v a=>rfl),gI];simp[Yk]
theorem xh{a b:List zb}(h:a.Sublist b):szL a<=szL b:=by
 induction h with
 |slnil=>grind
 |cons v _ c=>rw[szL];omega
 |cons_cons v _ c=>rw[szL,szL];omega
theorem Co(l:List zb):l=[]\/ ∃t v,l=t++[v]:=by
 rcases List.eq_nil_or_concat l with h|⟨t,v,h⟩
 ·exact .inl h
 grind
def isSp(v:zb):Bool:=v.token.kind==13
def trimB(l:List zb):List zb:=(l.reverse.dropWhile isSp).reverse
theorem DR:trimB []=[]:=rfl
theorem Mt(t:List zb)(v:zb):trimB (t++[v])=if isSp v then trimB t else t++[v]:=by
 unfold trimB;rw[List.reverse_append];simp only[List.reverse_cons,List.reverse_nil,Xd,Jc,Me]
 grind
theorem dn(l:List zb):(trimB l).Sublist l:=by
 unfold trimB
 grind
def trimS(l:List zb):List zb:=trimB (l.dropWhile isSp)
theorem fQ(l:List zb):szL (trimS l)<=szL l:=xh ((dn _).trans (Pe _))
theorem jv(p:zb->Bool): ∀(l:List zb),l.drop (l.length - (l.dropWhile p).length)=l.dropWhile p
 |[]=>rfl
 |v::r=>by
  rw[Me];split
  ·have h:=List.Sublist.length_le (Pe p (l:=r));rw[Ub,Nat.succ_sub h,List.drop_succ_cons];exact jv p r
  ·simp
def errS(l:List zb):Int:=if 16<Qx l then 20 else if 1500<(tokL l).length then 4 else if shL l 0 then 0 else 8
theorem lS{l:List zb}(h:szL l<=big):ut l=some (errS l):=by
 unfold ut errS;simp only[ze,wG h,FV h,GV h,Ca]
 grind
theorem Ox{l:List zb}(h:szL l<=big):ZM l=some (errS l):=by
 unfold ZM errS;simp only[ze,BX h,Ca,Yk]
 grind
theorem tO: ∀l:List zb,szL l<=zL zo l:=by
 have a: ∀(n:Nat) (l:List zb),zL zo l<n->szL l<=zL zo l:=by
  intro n
  induction n with
  |zero=>intro l h;omega
  |succ n d=>
   intro l
   induction l with
   |nil=>intro _;rw[szL];grind
   |cons v l b=>
    intro h;rw[sN]at h ⊢;rw[szL,ig];have c:=pR v
    grind
 grind
theorem yR{l:List zb}{a:List zg}(h:szL l<=big)(e:a.length+2*szL l<=4*big):Zj (l,a)=some (a++tokL l):=by
 refine aj (fun z=>szL z.1) (fun z=>szL z.1<=big/\z.2.length+2*szL z.1<=4*big) (fun z=>z.2++tokL z.1) (fun S z q s=> ?_) (x:=(l,a)) ⟨h,e⟩;obtain⟨l,a⟩:=z;obtain⟨h,e⟩:=q;have h:szL l<=big:=h;have e:a.length+2*szL l<=4*big:=e;have j:=QF l;unfold Q3;refine(Un l (fun i (b:List zg)=>((i:Int),b)) (fun v b=>some (.again (b++tokV v))) (fun b=>some (.out b)) (fun i b=>b.length<=a.length+2*szL (l.take i)) (a:=a) rfl (by simp) (fun i b d A=> ?_) (fun b _=> ?_) (r:= .out (a++tokL l)) ?_).trans rfl
 ·have o:=yh (Nc d);have y:=ig l[i];have f:=Ov l[i];have p:=El l[i].list;have B:=Kr d;have u:=Xt l (i+1);have w:=fq l[i];unfold big at h e;have c: ∀n m:Nat,n+m<=100000000->zB n m 56=true:=fun n m h=>di (by omega);refine⟨?_,fun C k=> ?_⟩
  ·simp only[Qc d,Oa,ze,qZ d,Ca,Iu];by_cases g:zF l[i].token.kind=0
   ·rw[ja g]at f;simp[g,f,ZF d (by unfold big;omega),c b.length 1 (by omega)]
   ·rw[Ta g]at f;rw[s (l[i].list,b++[l[i].token]) ⟨by grind,by grind⟩ (by grind)];have t:(zF l[i].token.kind != 0)=true:=Re.2 g;simp[t,f,ZF d (by unfold big;omega),c b.length 1 (by omega),c (b.length+((tokL l[i].list).length+1)) 1 (by omega)]
  ·grind
 ·grind
 ·rw[Q4 (fun a v=>a++tokV v) (fun v a=>rfl),ow]
theorem ER{l:List zb}(h:szL l<=big):qR l=some (tokL l):=by
 have g:=QF l;unfold qR;refine(Un l (fun i (b:List zg)=>((i:Int),b)) (fun v b=>some (.again (b++tokV v))) (fun b=>some (.out b)) (fun i b=>b.length<=2*szL (l.take i)) (a:=[]) rfl (by simp) (fun i b d u=> ?_) (fun b _=> ?_) (r:= .out (tokL l)) ?_).trans rfl
 ·have k:=yh (Nc d);have t:=ig l[i];have e:=Ov l[i];have o:=El l[i].list;have w:=Kr d;have q:=Xt l (i+1);have s:=fq l[i];unfold big at h;have c: ∀n m:Nat,n+m<=100000000->zB n m 56=true:=fun n m h=>di (by omega);refine⟨?_,fun x j=> ?_⟩
  ·simp only[Qc d,Oa,ze,qZ d,Ca,Iu];by_cases f:zF l[i].token.kind=0
   ·rw[ja f]at e;simp[f,e,ZF d (by unfold big;omega),c b.length 1 (by omega)]
   ·rw[Ta f]at e;rw[yR (a:=b++[l[i].token]) (show szL l[i].list<=big by unfold big;omega) (by grind)];have p:(zF l[i].token.kind != 0)=true:=Re.2 f;simp[p,e,ZF d (by unfold big;omega),c b.length 1 (by omega),c (b.length+((tokL l[i].list).length+1)) 1 (by omega)]
  ·grind
 ·grind
 ·rw[Q4 (fun a v=>a++tokV v) (fun v a=>rfl),ow];simp
theorem kX{l:List zb}(h:szL l<=big):Ll l=some (if errS l=0 then(tokL l,0)else([],errS l)):=by
 unfold Ll;simp only[Ox h,ze,Ca];by_cases he:errS l=0
 ·have:(errS l != 0)=false:=by rw[he];rfl
  rw[this,Sa,ER h,ja he];rfl
 grind
def szP:List (List zb)->Nat
 |[]=>0
 |l::r=>1+szL l+szP r
theorem oF{v:List zb}: ∀{l:List (List zb)},v∈l->szL v<=szP l
 |[],h=>by cases h
 |x::l,h=>by
  rw[szP];rcases Va.1 h with rfl|h
  ·omega
  ·have:=oF h;omega
theorem pF: ∀(l:List (List zb)),l.length<=szP l
 |[]=>Ra _
 |v::r=>by rw[szP,Ub];have:=pF r;omega
theorem lT{R:Type}(x:Option R):both x x=x:=by unfold both;rw[ja rfl]
theorem aR{l:List zb}(h:szL l<=big):qM l=some l:=by
 unfold qM;have b:=QF l;unfold big at h;have a:zB 0 l.length 80=true:=di (by omega);cases l with
 |nil=>simp only[a,lT,Z4,List.isEmpty_nil,Oa]
 |cons v r=>simp_all
theorem IA{l:List zb}(h:szL l<=big):Qe l=some l:=by
 refine aj (fun l=>szL l) (fun l=>szL l<=big) (fun l=>l) (fun S l hl hS=> ?_) h;unfold Dy;have hlen:=QF l;simp only[ze,aR hl,Ca];refine(Un l (fun i (a:List zb)=>((i:Int),a)) (fun v a=>some (.again a)) (fun a=>some (.out a)) (fun i a=>a=l) (a:=l) rfl rfl (fun i a hi hI=> ?_) (fun a hI=> ?_) (r:= .out l) ?_)
 ·subst hI;have hsz:=yh (Nc hi);have hv2:=ig a[i];refine⟨?_,fun a' ha=>by cases ha;rfl⟩;have h1:S a[i].list=some a[i].list:=hS a[i].list (by omega) (by omega);have h2:decide ((0:Int)<=(i:Int))=true:=Rc (by omega);have h3:a[i]? =some a[i]:=Fa hi;have h4:a.set i ⟨a[i].token,a[i].list⟩=a:=by
   have:(⟨a[i].token,a[i].list⟩:zb)=a[i]:=by cases a[i];rfl
   rw[this,List.set_getElem_self]
  simp only[Qc hi,h2,Bool.and_self,Oa,Z4,Ec,h3,Ca,h1,h4,ZF hi (by omega),Ob]
 ·grind
 ·rw[Q4 (fun a v=>a) (fun v a=>rfl)];congr 2;clear hl hS hlen h;generalize l=b at*;have: ∀(m b:List zb),m.foldl (fun a _=>a) b=b:=by
   intro m
   induction m with
   |nil=>intro b;rfl
   |cons v m ih=>grind
  exact this _ _
theorem Xu{l:List zb}{i:Nat}(h:i<l.length):Ho ((i:Int),l)=some (isSp l[i]):=by unfold Ho;simp only[ze,qZ h,Ca];rfl
theorem BS{l:List zb}(h:szL l<=big):Rs l=some (if errS l=0 then(trimS l,0)else([],errS l)):=by
 unfold Rs;have hlen:=QF l;simp only[ze,Ox h,Ca];by_cases h1:errS l=0
 ·rw[ja h1];have hne:(errS l != 0)=false:=by simp[h1]
  simp only[hne,Sa];have hdl:=List.Sublist.length_le (Pe isSp (l:=l));have hdd:=jv isSp l;refine(Xh (r:= .out ((l.length - (l.dropWhile isSp).length:Nat):Int)) (Vs (fun s=> ∃k:Nat,s=(k:Int)/\k<=l.length/\(l.drop k).dropWhile isSp=l.dropWhile isSp) (fun s=>l.length - s.toNat) _ (fun s hs=> ?_) ⟨0,rfl,Lb _,rfl⟩)).trans ?_
  ·obtain⟨k,rfl,hk,he⟩:=hs;by_cases hlt:k<l.length
   ·rw[Rb hlt,Me]at he;have hw:=ZF hlt (by grind);cases hv:isSp l[k]with
    |true=> rw[ja hv]at he;refine .inl ⟨((k+1:Nat):Int),?_,⟨k+1,rfl,hlt,he⟩,by omega⟩;simp only[Qc hlt,zJ,Xu hlt,Ca,hv,Oa,hw]
    |false=>
     rw[Ta (by rw[hv];simp)]at he;refine .inr (.inl ⟨(k:Int),?_,?_⟩)
     ·simp only[Qc hlt,zJ,Xu hlt,Ca,hv,Oa,Sa]
     grind
   ·have hkk:k=l.length:=by omega
    simp_all
  ·rw[znI];generalize hf:l.length - (l.dropWhile isSp).length=f at hdd;have hfl:f<=l.length:=by omega
   generalize l.dropWhile isSp=d at hdd;subst hdd;refine(Xh (r:= .out ((f+(trimB (l.drop f)).length:Nat):Int)) (Vs (fun s=> ∃m:Nat,s=(m:Int)/\f<=m/\m<=l.length/\trimB ((l.take m).drop f)=trimB (l.drop f)) (fun s=>s.toNat) _ (fun s hs=> ?_) ⟨l.length,rfl,hfl,Ra _,by grind⟩)).trans ?_
   ·obtain⟨m,rfl,hm1,hm2,he⟩:=hs;by_cases hlt:f<m
    ·have hm:m - 1<l.length:=by omega
     have hsn:(l.take m).drop f=(l.take (m - 1)).drop f++[l[m - 1]]:=by
      have:l.take m=l.take (m - 1)++[l[m - 1]]:=by
       have:=Je hm
       rwa [show m - 1+1=m by omega]at this
      rw[this,List.drop_append_of_le_length (by rw[Ed];omega)]
     rw[hsn,Mt]at he;have h2:decide ((f:Int)<(m:Int))=true:=Rc (by omega);have hw:w64 ((m:Int) - 1)=((m - 1:Nat):Int):=by rw[w64,Z8 (by omega) (by unfold big at h;omega)];omega
     cases hv:isSp l[m - 1]with
     |true=> rw[ja hv]at he;refine .inl ⟨((m - 1:Nat):Int),?_,⟨m - 1,rfl,by omega,by omega,he⟩,by omega⟩;simp only[h2,zJ,hw,Xu hm,Ca,hv,Oa]
     |false=>
      rw[Ta (by rw[hv];simp)]at he;refine .inr (.inl ⟨(m:Int),?_,?_⟩)
      ·simp only[h2,zJ,hw,Xu hm,Ca,hv,Oa,Sa]
      ·rw[<-he];congr 1;simp;omega
    ·have hmm:m=f:=by omega
     subst hmm;have h2:decide ((m:Int)<(m:Int))=false:=Wd (by omega);refine .inr (.inl ⟨(m:Int),?_,?_⟩)
     ·simp only[h2,ZI,Ca,Sa]
     ·rw[List.drop_eq_nil_of_le (by rw[Ed];omega),DR]at he;rw[<-he];simp
   ·rw[znI];have htl:=List.Sublist.length_le (dn (l.drop f));rw[Be]at htl;have hcut:List.drop f (List.take (f+(trimB (l.drop f)).length) l)=trimB (l.drop f):=by
     rw[List.drop_take];have: ∀d:List zb,d.take (trimB d).length=trimB d:=by intro d;unfold trimB;rw[Ye];have h3:=jv isSp d.reverse;have h4:=List.Sublist.length_le (Pe isSp (l:=d.reverse));rw[Ye]at h3 h4;rw[<-h3,List.drop_reverse,List.reverse_reverse];congr 1;simp
     have e:=this (l.drop f);rw[show f+(trimB (l.drop f)).length - f=(trimB (l.drop f)).length by omega];exact e
    have hneed:(decide ((0:Int)<=(f:Int))&&(decide ((f:Int)<=((f+(trimB (l.drop f)).length:Nat):Int))&&(decide (((f+(trimB (l.drop f)).length:Nat):Int)<=((f+(trimB (l.drop f)).length:Nat):Int))&&decide (((f+(trimB (l.drop f)).length:Nat):Int)<=(l.length:Int))))&&decide True)=true:=by simp only[Da,Kb];refine⟨?_,trivial⟩;omega
    have hts:trimS l=trimB (l.drop f):=by unfold trimS;rw[<-jv isSp l,hf]
    simp only[hneed,Z4,Ec,hcut,IA (ma (xh ((dn _).trans (List.drop_sublist _ _))) h),Ca,hts]
 grind
def Yf(k:Int)(a:List (List zb)×List zb)(v:zb):List (List zb)×List zb:=
 if v.token.kind==k then(a.1++[a.2],[])else(a.1,a.2++[v])
def Gf(k:Int)(l:List zb):List (List zb)×List zb:=l.foldl (Yf k) ([],[])
def og(k:Int)(l:List zb):List (List zb):=(Gf k l).1++[(Gf k l).2]
theorem oU{k:Int}{l:List zb}{i:Nat}(h:i<l.length):Gf k (l.take (i+1))=Yf k (Gf k (l.take i)) l[i]:=by unfold Gf;rw[Je h,List.foldl_append];rfl
theorem oI(a b:List (List zb)):szP (a++b)=szP a+szP b:=by
 induction a with
 |nil=>simp[szP]
 |cons x a c=>simp only[Jc,szP,c];omega
theorem Nt(a b:List zb):szL (a++b)=szL a+szL b:=by
 induction a with
 |nil=>simp[szL]
 |cons x a c=>simp only[Jc,szL,c];omega
theorem Ew(k:Int): ∀(l:List zb) (a:List (List zb)×List zb),szP (l.foldl (Yf k) a).1+szL (l.foldl (Yf k) a).2<=szP a.1+szL a.2+szL l/\(l.foldl (Yf k) a).1.length<=a.1.length+l.length/\(l.foldl (Yf k) a).2.length<=a.2.length+l.length
 |[],a=>by simp[szL]
 |v::l,a=>by
  rw[Ie];obtain⟨e,c,b⟩:=Ew k l (Yf k a v);have d:=ig v;have:szP (Yf k a v).1+szL (Yf k a v).2<=szP a.1+szL a.2+szV v/\(Yf k a v).1.length<=a.1.length+1/\(Yf k a v).2.length<=a.2.length+1:=by
   unfold Yf;split
   ·simp only[oI,szP,szL,La,Ub,Ad];omega
   ·simp only[Nt,szL,La,Ub,Ad];omega
  rw[szL,Ub];omega
theorem WR(k:Int)(l:List zb):szP (og k l)<=szL l+1:=by obtain⟨c,_,_⟩:=Ew k l ([],[]);unfold og Gf;rw[oI,szP,szP];have b:szP ([]:List (List zb))=0:=rfl;have a:szL ([]:List zb)=0:=rfl;simp only[b,a]at c;omega
theorem xI{l:List zb}{k:Int}(h:szL l<=big):Sl (l,k)=some (if errS l=0 then(if k<1\/24<k then([],2)else(og k l,0))else([],errS l)):=by
 unfold Sl;have hlen:=QF l;simp only[ze,Ox h,Ca];by_cases h1:errS l=0
 ·have hne:(errS l != 0)=false:=by simp[h1]
  rw[ja h1];simp only[hne,Sa,OG];by_cases h2:k<1\/24<k
  ·have:(decide (k<1)||decide (k>24))=true:=by simpa using h2
   rw[ja h2,this];rfl
  ·have:(decide (k<1)||decide (k>24))=false:=by rw[Ve];exact⟨Wd (by omega),Wd (by omega)⟩
   rw[Ta h2,this];simp only[Sa];refine(Xh (r:= .out (((l.length - (Gf k l).2.length:Nat):Int),(Gf k l).1)) (Vs (fun s=> ∃i from_:Nat,s=(((from_:Int),(i:Int)),(Gf k (l.take i)).1)/\from_<=i/\i<=l.length/\(Gf k (l.take i)).2=(l.take i).drop from_) (fun s=>l.length - s.1.2.toNat) _ (fun s hs=> ?_) ⟨0,0,by simp[Gf],Ra _,Lb _,by simp[Gf]⟩)).trans ?_
   ·obtain⟨i,fr,rfl,hfi,hil,he⟩:=hs;by_cases hi:i<l.length
    ·refine .inl ?_;have hw:=ZF hi (by unfold big at h ⊢;omega);have hpt:=oU (k:=k) hi;have htk:l.take (i+1)=l.take i++[l[i]]:=Je hi;unfold Yf at hpt;simp only[Qc hi,Oa,qZ hi,Ca];cases hv:(l[i].token.kind==k)with
     |true=>
      rw[ja hv]at hpt;have hn:(decide ((0:Int)<=(fr:Int))&&(decide ((fr:Int)<=(i:Int))&&(decide ((i:Int)<=(i:Int))&&decide ((i:Int)<=(l.length:Int))))&&decide True)=true:=by simp only[Da,Kb];refine⟨?_,trivial⟩;omega
      have hsz:szL (List.drop fr (List.take i l))<=big:=ma (xh ((List.drop_sublist _ _).trans (List.take_sublist _ _))) h;have hpl:=(Ew k (l.take i) ([],[])).2.1;have hap:zB (Gf k (l.take i)).1.length 1 24=true:=di (by
       unfold Gf;have:=List.length_take_le i l;unfold big at h;simp only[Ad]at hpl;omega)
      refine⟨((((i+1:Nat):Int),((i+1:Nat):Int)),(Gf k (l.take (i+1))).1),?_,⟨i+1,i+1,rfl,Ra _,hi,?_⟩,?_⟩
      ·simp only[Oa,hn,Z4,Ec,IA hsz,Ca,hap,hw,zQ,hpt,he]
      ·rw[hpt];simp
      ·simp only[Ec];omega
     |false=>
      rw[Ta (by rw[hv];simp)]at hpt;refine⟨(((fr:Int),((i+1:Nat):Int)),(Gf k (l.take (i+1))).1),?_,⟨i+1,fr,rfl,by omega,hi,?_⟩,?_⟩
      ·simp only[Sa,zQ,hw,hpt]
      ·rw[hpt,htk,he,List.drop_append_of_le_length (by rw[Ed];omega)]
      ·simp only[Ec];omega
    ·have hil:i=l.length:=by omega
     subst hil;rw[jd]at he ⊢;refine .inr (.inl ⟨((fr:Int),(Gf k l).1),by simp only[Wj,Sa],?_⟩);rw[he,Be];congr 2;omega
   ·rw[znI]
    -- the last part is behind
    have key: ∀(m:List zb) (a:List (List zb)×List zb) (p:List zb),a.2<:+p->(m.foldl (Yf k) a).2<:+p++m:=by
     intro m
     induction m with
     |nil=>intro a p h;simpa using h
     |cons v m ih=>
      intro a p h;rw[Ie];have:(Yf k a v).2<:+p++[v]:=by
       unfold Yf;split
       ·exact List.nil_suffix
       ·obtain⟨q,hq⟩:=h;exact⟨q,by rw[<-hq,Dc]⟩
      have:=ih _ _ this
      rwa [Dc]at this
    have hsuf:=key l ([],[]) [] (Pf _);rw[Xd]at hsuf;have hdr:List.drop (l.length - (Gf k l).2.length) l=(Gf k l).2:=by unfold Gf;exact(List.suffix_iff_eq_drop.1 hsuf).symm
    have hsz:szL (Gf k l).2<=big:=by have:=xh hsuf.sublist;unfold Gf;omega
    have hle:(Gf k l).2.length<=l.length:=by unfold Gf;exact hsuf.length_le
    have hn:(decide ((0:Int)<=((l.length - (Gf k l).2.length:Nat):Int))&&decide (((l.length - (Gf k l).2.length:Nat):Int)<=(l.length:Int)))=true:=by simp only[Da,Kb];omega
    have hpl:=(Ew k l ([],[])).2.1;have hap:zB (Gf k l).1.length 1 24=true:=di (by
     unfold Gf;unfold big at h;simp only[Ad]at hpl;omega)
    simp only[hn,Z4,Ec,hdr,IA hsz,Ca,hap];rfl
 ·have h2:(errS l != 0)=true:=Re.2 h1;rw[Ta h1];simp only[h2,Oa]
end Go.Lv.VT

namespace Go.Lv
theorem Le.lp{S X R:Type}{step a:S->Option (LO S X R)}{s:S}{k c:X->Option R}(h: ∀s,Le (step s) (a s))(f: ∀x,Le (k x) (c x)):Le (ZG step s k) (ZG a s c):=by
 intro y b;unfold ZG at b;cases d:Gi step s with
 |none=>grind
 |some r=>
  rw[d]at b;obtain⟨n,e⟩:=BJ d;rw[Xh (ji (TA h n s r e))];cases r with
  |out x=>exact f x y b
  |ret r=>exact b
def bE{X Y:Type}(B:(X->Option Y)->X->Option Y):Prop:= ∀S a:X->Option Y,(∀x,Le (S x) (a x))-> ∀x,Le (B S x) (B a x)
theorem BQ {X Y:Type} {B:(X->Option Y)->X->Option Y} (f:bE B) (b:X->Nat) (ok:X->Prop) (R:X->Y->Prop)
  (g: ∀(S:X->Option Y) (x:X),ok x->(∀z,ok z->b z<b x-> ∃y,S z=some y/\R z y)-> ∃y,B S x=some y/\R x y) {x:X} (j:ok x): ∃y,recE B x=some y/\R x y:=by
 have step: ∀n x,Le (Ag B n x) (Ag B (n+1) x):=by
  intro n
  induction n with
  |zero=>intro x;exact Le.none
  |succ n a=>intro x;exact f _ _ a x
 have l: ∀d n x,Le (Ag B n x) (Ag B (n+d) x):=by
  intro d
  induction d with
  |zero=>intro n x;exact Le.rfl
  |succ d a=>intro n x y k;exact step _ x y (a n x y k)
 have c: ∀(m:Nat) (x:X),b x<m->ok x-> ∃y,Ag B m x=some y/\R x y:=by
  intro m
  induction m with
  |zero=>intro x h;omega
  |succ m a=> intro x f e;exact g _ x e fun z o p=>a z (by omega) o
 obtain⟨y,i,r⟩:=c (b x+1) x (by omega) j;refine⟨y,OA (N:=b x+1) fun n q=> ?_,r⟩;obtain⟨d,rfl⟩:=Nat.le.dest q;exact l d _ x y i
theorem SQ {A S X R:Type} {step:S->Option (LO S X R)} {k:X->Option R} (n:Nat) (st:Nat->A->S) (Inv:Nat->A->Prop) (Q:R->Prop) {s0:S} {a0:A} (p:s0=st 0 a0) (q:Inv 0 a0)
  (u: ∀(i:Nat) (a:A),i<n->Inv i a->(∃e,step (st i a)=some (.again (st (i+1) e))/\Inv (i+1) e)\/(∃r,step (st i a)=some (.ret r)/\Q r)\/(∃x,step (st i a)=some (.out x)/\ ∃r,k x=some r/\Q r))
  (h: ∀a,Inv n a->(∃x,step (st n a)=some (.out x)/\ ∃r,k x=some r/\Q r)\/(∃r,step (st n a)=some (.ret r)/\Q r)): ∃r,ZG step s0 k=some r/\Q r:=by
 have f: ∀(m i:Nat) (a:A),i+m=n->Inv i a-> ∃j x,qz step j (st i a)=some x/\ ∃r,LX.go x k=some r/\Q r:=by
  intro m
  induction m with
  |zero=>
   intro i a s g;obtain rfl:i=n:=by omega
   rcases h a g with⟨x,b,r,c,d⟩|⟨r,b,c⟩
   ·exact⟨1, .out x,by simp only[qz,b],r,c,d⟩
   ·exact⟨1, .ret r,by simp only[qz,b],r,rfl,c⟩
  |succ m t=>
   intro i a s g;rcases u i a (by omega) g with⟨e,b,c⟩|⟨r,b,c⟩|⟨x,b,r,c,d⟩
   ·obtain⟨j,x,l,o⟩:=t (i+1) e (by omega) c;exact⟨j+1,x,by simp only[qz,b];exact l,o⟩
   ·exact⟨1, .ret r,by simp only[qz,b],r,rfl,c⟩
   ·exact⟨1, .out x,by simp only[qz,b],r,c,d⟩
 obtain⟨j,x,b,r,c,d⟩:=f n 0 a0 (by omega) q;refine⟨r,?_,d⟩;rw[p,Xh (ji b),c]
namespace VT
def mx{α:Type}(f:α->Nat):List α->Nat
 |[]=>0
 |v::l=>max (f v) (mx f l)
end VT
end Go.Lv

namespace Go.Lv.VT
set_option maxRecDepth 100000
theorem VZ:bE Po:=by intro qi ref04_Size' h_ref04_Size x;unfold Po;exact(.lp (fun _=>(.bif (.bind .rfl fun _=>(.bind .rfl fun _=>(.bind .rfl fun _=>(.bind (h_ref04_Size _) fun _=> .rfl)))) .rfl)) fun _=> .rfl)
theorem AQ{a:List zb}(h:szL a<=big):QD (a,a)=some true:=by
 refine aj (fun x:List zb×List zb=>szL x.1) (fun x=>szL x.1<=big/\x.1=x.2) (fun x=>true) (fun S x d k=> ?_) (show szL (a,a).1<=big/\(a,a).1=(a,a).2 from⟨h,rfl⟩);obtain⟨l,p⟩:=x;obtain⟨d,m⟩:=d;simp only at d k m;subst m;unfold Gy;have j:=QF l;have c:((l.length:Int) != (l.length:Int))=false:=by simp
 simp only[c,Sa];refine(Iw l (fun i (_:Unit)=>(i:Int)) (fun v (_:Unit)=>some (.again ())) (fun _=>some (.out ())) (a:=()) rfl (fun i a b=> ?_) (fun a=> ?_) (r:= .out ()) ?_)
 ·have n:=yh (Nc b);have o:=ig l[i];have e:szL l[i].list<=big:=by omega
  have g:szL l[i].list<szL l:=by omega
  have f:S (l[i].list,l[i].list)=some true:=k (l[i].list,l[i].list) ⟨e,rfl⟩ g;simp[b,qZ b,f,ZF b (by omega)]
 ·grind
 ·rw[Q4 (fun a v=>a) (fun v a=>rfl)]
inductive Cuts (k:Int):List zb->List (List zb)->Prop
 |one (p:List zb) (h: ∀x∈p,(x.token.kind==k)=false):Cuts k p [p]
 |more (p:List zb) (s:zb) (v:List zb) (ps:List (List zb)) (h: ∀x∈p,(x.token.kind==k)=false) (hs:(s.token.kind==k)=true) (hc:Cuts k v ps):Cuts k (p++s::v) (p::ps)
theorem uz(k:Int): ∀(l:List zb) (d:List (List zb)) (c:List zb),(∀x∈c,(x.token.kind==k)=false)-> ∃qs,(l.foldl (Yf k) (d,c)).1++[(l.foldl (Yf k) (d,c)).2]=d++qs/\Cuts k (c++l) qs
 |[],d,c,h=>⟨[c],rfl,by rw[Oc];exact .one c h⟩
 |v::l,d,c,h=>by
  rw[Ie];cases hv:v.token.kind==k with
  |true=>
   obtain⟨qs,h1,h2⟩:=uz k l (d++[c]) [] (fun x hx=>by cases hx);refine⟨c::qs,?_, .more c v l qs h hv h2⟩;rw[show Yf k (d,c) v=(d++[c],[]) by unfold Yf;rw[ja hv],h1,Dc];rfl
  |false=>
   obtain⟨qs,h1,h2⟩:=uz k l d (c++[v]) (fun x hx=>by
    rcases Eb.1 hx with hx|hx
    ·exact h x hx
    ·rw[Ga.1 hx];exact hv)
   refine⟨qs,?_,by rw[Dc]at h2;exact h2⟩;rw[show Yf k (d,c) v=(d,c++[v]) by unfold Yf;rw[Ta (by rw[hv];decide)],h1]
theorem yO(k:Int)(l:List zb):Cuts k l (og k l):=by obtain⟨qs,h1,h2⟩:=uz k l [] [] (fun x hx=>by cases hx);have:og k l=qs:=h1;rw[this];exact h2
theorem NJ(d:List zb): ∃r,d=trimB d++r/\(∀x∈r,isSp x=true)/\(trimB d=[]\/ ∃t v,trimB d=t++[v]/\isSp v=false):=by
 induction hn:d.length generalizing d with
 |zero=>
  obtain rfl:=List.length_eq_zero_iff.1 hn;exact⟨[],rfl,fun x hx=>(by cases hx), .inl rfl⟩
 |succ n ih=>
  rcases Co d with rfl|⟨t,v,rfl⟩
  ·cases hn
  ·rw[Mt];cases hv:isSp v with
   |true=>
    rw[ja rfl];obtain⟨r,h1,h2,h3⟩:=ih t (by rw[La]at hn;simpa using hn);refine⟨r++[v],by rw[<-Dc,<-h1],fun x hx=> ?_,h3⟩;rcases Eb.1 hx with hx|hx
    ·exact h2 x hx
    ·rw[Ga.1 hx];exact hv
   |false=> rw[Ta (by decide)];exact⟨[],(Oc _).symm,fun x hx=>(by cases hx), .inr ⟨t,v,rfl,hv⟩⟩
theorem NC: ∀(v:List zb),∃a,v=a++v.dropWhile isSp/\(∀x∈a,isSp x=true)/\ ∀x b,v.dropWhile isSp=x::b->isSp x=false
 |[]=>⟨[],rfl,fun x hx=>(by cases hx),fun x b h=>(by cases h)⟩
 |y::v=>by
  obtain⟨a,h1,h2,h3⟩:=NC v;cases hy:isSp y with
  |true=>
   rw[List.dropWhile_cons_of_pos hy];refine⟨y::a,by rw[Jc,<-h1],fun x hx=> ?_,h3⟩;rcases Va.1 hx with rfl|hx
   ·exact hy
   ·exact h2 x hx
  |false=> rw[List.dropWhile_cons_of_neg (by rw[hy];decide)];exact⟨[],rfl,fun x hx=>(by cases hx),fun x b h=>(by cases h;exact hy)⟩
theorem BU{a b:List zb}(h:a.Sublist b):Qx a<=Qx b:=by
 induction h with
 |slnil=>exact Ra _
 |cons v _ ih=>rw[Qx];omega
 |cons_cons v _ ih=>rw[Qx,Qx];omega
theorem mQ{a b:List zb}(h:a.Sublist b):(tokL a).length<=(tokL b).length:=by
 induction h with
 |slnil=>exact Ra _
 |cons v _ ih=>rw[tokL,La];omega
 |cons_cons v _ ih=>rw[tokL,tokL,La,La];omega
theorem rP{a b:List zb}{c:Int}(h:a.Sublist b)(hb:shL b c=true):shL a c=true:=by
 induction h with
 |slnil=>exact hb
 |cons v _ ih=>rw[shL,Da]at hb;exact ih hb.2
 |cons_cons v _ ih=>rw[shL,Da]at hb ⊢;exact⟨hb.1,ih hb.2⟩
theorem IR{a b:List zb}(h:a.Sublist b)(hb:errS b=0):errS a=0:=by
 unfold errS at*;have h1:=BU h;have h2:=mQ h;split at hb
 ·cases hb
 split at hb
 ·cases hb
 split at hb
 ·rename_i q1 q2 q3;rw[Ta (by omega),Ta (by omega),ja (rP h q3)]
 ·cases hb
end Go.Lv.VT
