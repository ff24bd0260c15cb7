/- How large values are. -/
import Derived.Test.YtcdeccnjlkkejaaGreatDoorIp
import Derived.Test.YtcdeccnjlkkejaaGreatDoorLaw
import Derived.Test.YtcdeccnjlkkejaaGreatDoorLf
import Derived.Test.YtcdeccnjlkkejaaGreatDoorMo
import Derived.Test.YtcdeccnjlkkejaaGreatDoorLe
import Derived.Test.YtcdeccnjlkkejaaGreatDoorTx
set_option linter.unusedSimpArgs false
set_option linter.unusedVariables false
namespace Go.Lv.VT
mutual
/-- How large values are. -/
def szV:zg->Nat
 |⟨t,l⟩=>1+t.text.length+t.unit.length+szL l
def szL:List zg->Nat
 |[]=>0
 |v::r=>szV v+szL r
end
theorem Cq(v:zg):szV v=1+v.token.text.length+v.token.unit.length+szL v.list:=by obtain⟨t,l⟩:=v;rw[szV]
theorem Ar{v:zg}: ∀{l:List zg},v∈l->szV v<=szL l
 |[],h=>by cases h
 |x::l,h=>by
  rw[szL];rcases Ab.1 h with rfl|h
  ·omega
  ·have:=Ar h;omega
theorem Br: ∀(l:List zg),l.length<=szL l
 |[]=>Ya _
 |v::r=>by rw[szL,Cq,Sa];have:=Br r;omega
theorem zCj(n:Nat):decide ((n:Int)>0)=decide (0<n):=by
 grind
theorem R6(k:Int):Iy k=some (zo k):=by
 unfold Iy zo;by_cases b:k=19
 ·subst b;rfl
 by_cases d:k=21
 ·subst d;rfl
 by_cases c:k=2
 ·subst c;rfl
 by_cases a:k=23
 ·subst a;rfl
 have g:(k==19)=false:=Fa.2 b;have h:(k==21)=false:=Fa.2 d;have e:(k==2)=false:=Fa.2 c;have f:(k==23)=false:=Fa.2 a;simp only[g,h,e,f,Ha,zh,b,d,c,a,Ce,or_self]
theorem Vy(k:Int):Z8 k=some (zo k):=by
 unfold Z8 zo;by_cases b:k=19
 ·subst b;rfl
 by_cases d:k=21
 ·subst d;rfl
 by_cases c:k=2
 ·subst c;rfl
 by_cases a:k=23
 ·subst a;rfl
 have g:(k==19)=false:=Fa.2 b;have h:(k==21)=false:=Fa.2 d;have e:(k==2)=false:=Fa.2 c;have f:(k==23)=false:=Fa.2 a;simp only[g,h,e,f,Ha,zh,b,d,c,a,Ce,or_self]
mutual
/-- The depth of values. -/
def Si:zg->Nat
 |⟨t,l⟩=>if zo t.kind=0 then 0 else 1+Hg l
def Hg:List zg->Nat
 |[]=>0
 |v::r=>max (Si v) (Hg r)
end
theorem rX(v:zg):Si v=if zo v.token.kind=0 then 0 else 1+Hg v.list:=by obtain⟨t,l⟩:=v;rw[Si]
mutual
theorem pX: ∀v:zg,Si v<=szV v
 |⟨t,l⟩=>by rw[Si,szV];have:=bG l;split<;>omega
theorem bG: ∀l:List zg,Hg l<=szL l
 |[]=>Ya _
 |v::r=>by rw[Hg,szL];have:=pX v;have:=bG r;omega
end
theorem IB{l:List zg}: ∀{i:Nat} (h:i<l.length),szL (l.take (i+1))=szL (l.take i)+szV l[i]:=by
 induction l with
 |nil=>grind
 |cons v r a=>
  intro i h;cases i with
  |zero=>simp[szL]
  |succ i=>
   simp only[xe,szL,List.getElem_cons_succ]
   grind
theorem TD(l:List zg)(i:Nat):szL (l.take i)<=szL l:=by
 induction l generalizing i with
 |nil=>simp
 |cons v r a=>
  cases i with
  |zero=>simp[szL]
  |succ i=>simp only[xe,szL];grind
mutual
/-- The tokens of values. -/
def tokV:zg->List zb
 |⟨t,l⟩=>t::if zo t.kind=0 then []else tokL l++[⟨zo t.kind,[],0,[],false⟩]
def tokL:List zg->List zb
 |[]=>[]
 |v::r=>tokV v++tokL r
end
theorem xn(v:zg):tokV v=v.token::if zo v.token.kind=0 then []else tokL v.list++[⟨zo v.token.kind,[],0,[],false⟩]:=by obtain⟨t,l⟩:=v;rw[tokV]
mutual
theorem Xv: ∀v:zg,(tokV v).length<=2*szV v
 |⟨t,l⟩=>by
  rw[tokV,szV];have:=xq l
  grind
theorem xq: ∀l:List zg,(tokL l).length<=2*szL l
 |[]=>Ya _
 |v::r=>by rw[tokL,szL,Ia];have:=Xv v;have:=xq r;omega
end
theorem VC: ∀(l:List zg) (a:List zb),l.foldl (fun a v=>a++tokV v) a=a++tokL l
 |[],a=>by simp[tokL]
 |v::l,a=>by rw[List.foldl_cons,VC l,tokL,Ra]
theorem U0{l:List zg}(h:szL l<=big):qp l=some (tokL l):=by
 refine iC (fun l=>szL l) (fun l=>szL l<=big) (fun l=>tokL l) (fun S l j o=> ?_) h;unfold oD;have f:=Br l;refine(Tw l (fun i (a:List zb)=>((i:Int),a)) (fun v a=>some (.again (a++tokV v))) (fun a=>some (.out a)) (fun i a=>a.length<=2*szL (l.take i)) (a:=[]) rfl (by simp) (fun i a c u=> ?_) (fun a _=> ?_) (r:= .out (tokL l)) ?_)
 ·have g:=Ar (Sd c);have t:=Cq l[i];have d:=xn l[i];have k:=xq l[i].list;have w:=IB c;have q:=TD l (i+1);have s:=Xv l[i];unfold big at j;have b: ∀n m:Nat,n+m<=100000000->zX n m 56=true:=fun n m h=>pG (by omega);refine⟨?_,fun x y=> ?_⟩
  ·simp only[Lj c,Ea,ze,QV c,Aa,R6];by_cases e:zo l[i].token.kind=0
   ·rw[La e]at d;simp[e,d,qZ c (by unfold big;omega),b a.length 1 (by omega)]
   ·rw[Ga e]at d;rw[o l[i].list (by unfold big;omega) (by omega)];have p:(zo l[i].token.kind != 0)=true:=og.2 e;simp[p,d,qZ c (by unfold big;omega),b a.length 1 (by omega),b (a.length+1) (tokL l[i].list).length (by omega),b (a.length+((tokL l[i].list).length+1)) 1 (by omega)]
  ·grind
 ·grind
 ·rw[Et (fun a v=>a++tokV v) (fun v a=>rfl),VC];simp
mutual
/-- Whether lists are those of blocks, and have not their closers. -/
def shV:zg->Int->Bool
 |⟨t,l⟩,c=> !((zo t.kind==0&&decide (0<l.length))||(c != 0&&t.kind==c)||(zo t.kind != 0&& !(shL l (zo t.kind))))
def shL:List zg->Int->Bool
 |[],_=>true
 |v::r,c=>shV v c&&shL r c
end
theorem zDK(v:zg)(c:Int):shV v c= !((zo v.token.kind==0&&decide (0<v.list.length))||(c != 0&&v.token.kind==c)||(zo v.token.kind != 0&& !(shL v.list (zo v.token.kind)))):=by obtain⟨t,l⟩:=v;rw[shV]
def il(l:List zg)(c:Int):zH:=⟨Hg l,(tokL l).length, !(shL l c)⟩
theorem YO(c:Int): ∀(l:List zg) (a:Nat×Nat×Bool),l.foldl (fun a v=>(max a.1 (Si v),a.2.1+(tokV v).length,a.2.2|| !(shV v c))) a=(max a.1 (Hg l),a.2.1+(tokL l).length,a.2.2|| !(shL l c))
 |[],a=>by simp[Hg,tokL,shL]
 |v::l,a=>by
  rw[List.foldl_cons,YO c l,Hg,tokL,shL,Ia];simp only[Prod.mk.injEq]
  grind
theorem zBk(a b:Bool):(bif a then true else b)=(a||b):=by cases a<;>rfl
theorem AY(a b:Bool):(bif a then b else false)=(a&&b):=by cases a<;>rfl
theorem TR{l:List zg}{c:Int}(h:szL l<=big):QD (l,c)=some (il l c):=by
 refine iC (fun x:List zg×Int=>szL x.1) (fun x=>szL x.1<=big) (fun x=>il x.1 x.2) (fun S x C E=> ?_) h;obtain⟨l,c⟩:=x;simp only at C E ⊢;unfold KD;have B:=Br l;refine(Tw l (fun i (a:Nat×Nat×Bool)=>((i:Int),(⟨(a.1:Int),(a.2.1:Int),a.2.2⟩:zH))) (fun v a=>some (.again (max a.1 (Si v),a.2.1+(tokV v).length,a.2.2|| !(shV v c)))) (fun a=>some (.out (⟨(a.1:Int),(a.2.1:Int),a.2.2⟩:zH))) (fun i a=>a.2.1<=2*szL (l.take i)) (a:=(0,0,false)) rfl (by simp) (fun i a j J=> ?_) (fun a _=> ?_) (r:= .out (il l c)) ?_)
 ·have N:=Ar (Sd j);have H:=Cq l[i];have m:=rX l[i];have O:=bG l[i].list;have o:=xn l[i];have P:=xq l[i].list;have e:=zDK l[i] c;have K:=IB j;have G:=TD l (i+1);have Q:=Xv l[i];have w:szL l[i].list<=big:=by omega
  have y:szL l[i].list<szL l:=by omega
  have p:S (l[i].list,zo l[i].token.kind)=some (il l[i].list (zo l[i].token.kind)):=E (l[i].list,zo l[i].token.kind) w y;obtain⟨d,n,b⟩:=a;simp only at J;have D:=qZ j (by omega);unfold big at C;have u:w64 ((n:Int)+1)=((n+1:Nat):Int):=by rw[w64,xk (by omega) (by omega)];omega
  refine⟨?_,fun R T=> ?_⟩
  ·have L:decide ((l[i].list.length:Int)>0)=decide (0<l[i].list.length):=zCj _;simp only[Lj j,Ea,ze,QV j,Aa,Vy,Pb,u,bne,L,zBk,AY];by_cases k:zo l[i].token.kind=0
   ·rw[La k]at m o;simp only[k,beq_self_eq_true,Sb,Ec,Rc,Gf,bne]at e ⊢;rw[e,m,o];rcases Pf (decide (0<l[i].list.length))with F|F<;>rcases Pf (c==0)with g|g<;>rcases Pf (l[i].token.kind==c)with f|f<;>
     simp[F,g,f,D,Ea,Ha]
   ·rw[Ga k]at m o;have s:(zo l[i].token.kind==0)=false:=Fa.2 k;have z:w64 ((Hg l[i].list:Int)+1)=((1+Hg l[i].list:Nat):Int):=by rw[w64,xk (by omega) (by omega)];omega
    have t:w64 (((n+1:Nat):Int)+((tokL l[i].list).length:Int))=((n+1+(tokL l[i].list).length:Nat):Int):=by rw[w64,xk (by omega) (by omega)];omega
    have A:w64 (((n+1+(tokL l[i].list).length:Nat):Int)+1)=((n+(1+((tokL l[i].list).length+1)):Nat):Int):=by rw[w64,xk (by omega) (by omega)];omega
    have q:(tokV l[i]).length=1+((tokL l[i].list).length+1):=by rw[o];simp;omega
    have M:(if((1+Hg l[i].list:Nat):Int)>(d:Int)then((1+Hg l[i].list:Nat):Int)else(d:Int))=((max d (1+Hg l[i].list):Nat):Int):=by split<;>omega
    rw[e,m,q];simp only[s,p,Rc,Cc,Sb,Gf,Ld,Ha,bne,Aa,il];rcases Pf (c==0)with g|g<;>rcases Pf (l[i].token.kind==c)with f|f<;>
     simp only[g,f,D,z,t,A,M,Ea,Ha,zh,Ec,Cc,Sb,Jc,Df,Rc,Bool.or_true,Gf,Oe,Ld,Bool.not_not]
  grind
 ·grind
 ·rw[Et (fun a v=>(max a.1 (Si v),a.2.1+(tokV v).length,a.2.2|| !(shV v c))) (fun v a=>rfl),YO];simp[il]
def errS(l:List zg):Int:=if 16<Hg l then 20 else if 1500<(tokL l).length then 4 else if shL l 0 then 0 else 8
theorem BQ{l:List zg}(h:szL l<=big):Uo l=some (errS l):=by
 unfold Uo errS;simp only[ze,TR h,Aa,il]
 grind
theorem R5{l:List zg}(h:szL l<=big):Us l=some (if errS l=0 then((Hg l:Int),0)else(0,errS l)):=by
 unfold Us;simp only[ze,BQ h,TR h,Aa,il]
 grind
theorem rW{l:List zg}{a:List zb}(h:szL l<=big)(e:a.length+2*szL l<=4*big):qU (l,a)=some (a++tokL l):=by
 refine iC (fun z=>szL z.1) (fun z=>szL z.1<=big/\z.2.length+2*szL z.1<=4*big) (fun z=>z.2++tokL z.1) (fun S z q s=> ?_) (x:=(l,a)) ⟨h,e⟩;obtain⟨l,a⟩:=z;obtain⟨h,e⟩:=q;have h:szL l<=big:=h;have e:a.length+2*szL l<=4*big:=e;have j:=Br l;unfold gD;refine(Tw l (fun i (b:List zb)=>((i:Int),b)) (fun v b=>some (.again (b++tokV v))) (fun b=>some (.out b)) (fun i b=>b.length<=a.length+2*szL (l.take i)) (a:=a) rfl (by simp) (fun i b d A=> ?_) (fun b _=> ?_) (r:= .out (a++tokL l)) ?_).trans rfl
 ·have o:=Ar (Sd d);have y:=Cq l[i];have f:=xn l[i];have p:=xq l[i].list;have B:=IB d;have u:=TD l (i+1);have w:=Xv l[i];unfold big at h e;have c: ∀n m:Nat,n+m<=100000000->zX n m 56=true:=fun n m h=>pG (by omega);refine⟨?_,fun C k=> ?_⟩
  ·simp only[Lj d,Ea,ze,QV d,Aa,Vy];by_cases g:zo l[i].token.kind=0
   ·rw[La g]at f;simp[g,f,qZ d (by unfold big;omega),c b.length 1 (by omega)]
   ·rw[Ga g]at f;rw[s (l[i].list,b++[l[i].token]) ⟨by grind,by grind⟩ (by grind)];have t:(zo l[i].token.kind != 0)=true:=og.2 g;simp[t,f,qZ d (by unfold big;omega),c b.length 1 (by omega),c (b.length+((tokL l[i].list).length+1)) 1 (by omega)]
  ·grind
 ·grind
 ·rw[Et (fun a v=>a++tokV v) (fun v a=>rfl),VC]
theorem sW{l:List zg}(h:szL l<=big):Pt l=some (tokL l):=by
 have g:=Br l;unfold Pt;refine(Tw l (fun i (b:List zb)=>((i:Int),b)) (fun v b=>some (.again (b++tokV v))) (fun b=>some (.out b)) (fun i b=>b.length<=2*szL (l.take i)) (a:=[]) rfl (by simp) (fun i b d u=> ?_) (fun b _=> ?_) (r:= .out (tokL l)) ?_).trans rfl
 ·have k:=Ar (Sd d);have t:=Cq l[i];have e:=xn l[i];have o:=xq l[i].list;have w:=IB d;have q:=TD l (i+1);have s:=Xv l[i];unfold big at h;have c: ∀n m:Nat,n+m<=100000000->zX n m 56=true:=fun n m h=>pG (by omega);refine⟨?_,fun x j=> ?_⟩
  ·simp only[Lj d,Ea,ze,QV d,Aa,Vy];by_cases f:zo l[i].token.kind=0
   ·rw[La f]at e;simp[f,e,qZ d (by unfold big;omega),c b.length 1 (by omega)]
   ·rw[Ga f]at e;rw[rW (a:=b++[l[i].token]) (show szL l[i].list<=big by unfold big;omega) (by grind)];have p:(zo l[i].token.kind != 0)=true:=og.2 f;simp[p,e,qZ d (by unfold big;omega),c b.length 1 (by omega),c (b.length+((tokL l[i].list).length+1)) 1 (by omega)]
  ·grind
 ·grind
 ·rw[Et (fun a v=>a++tokV v) (fun v a=>rfl),VC];simp
end Go.Lv.VT

namespace Go.Lv
namespace VT
def mx{α:Type}(f:α->Nat):List α->Nat
 |[]=>0
 |v::l=>max (f v) (mx f l)
end VT
end Go.Lv

namespace Go.Lv.VT
set_option maxRecDepth 100000
theorem vW{a:List zg}(h:szL a<=big):QO (a,a)=some true:=by
 refine iC (fun x:List zg×List zg=>szL x.1) (fun x=>szL x.1<=big/\x.1=x.2) (fun x=>true) (fun S x d k=> ?_) (show szL (a,a).1<=big/\(a,a).1=(a,a).2 from⟨h,rfl⟩);obtain⟨l,p⟩:=x;obtain⟨d,m⟩:=d;simp only at d k m;subst m;unfold VD;have j:=Br l;have c:((l.length:Int) != (l.length:Int))=false:=by simp
 simp only[c,Ha];refine(UW l (fun i (_:Unit)=>(i:Int)) (fun v (_:Unit)=>some (.again ())) (fun _=>some (.out ())) (a:=()) rfl (fun i a b=> ?_) (fun a=> ?_) (r:= .out ()) ?_)
 ·have n:=Ar (Sd b);have o:=Cq l[i];have e:szL l[i].list<=big:=by omega
  have g:szL l[i].list<szL l:=by omega
  have f:S (l[i].list,l[i].list)=some true:=k (l[i].list,l[i].list) ⟨e,rfl⟩ g;simp[b,QV b,f,qZ b (by omega)]
 ·grind
 ·rw[Et (fun a v=>a) (fun v a=>rfl)]
end Go.Lv.VT
