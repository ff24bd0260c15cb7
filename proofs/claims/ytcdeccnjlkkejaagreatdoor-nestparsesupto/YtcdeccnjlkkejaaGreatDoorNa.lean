/- How large values are. -/
import Derived.Test.YtcdeccnjlkkejaaGreatDoorIp
import Derived.Test.YtcdeccnjlkkejaaGreatDoorLaw
import Derived.Test.YtcdeccnjlkkejaaGreatDoorLf
import Derived.Test.YtcdeccnjlkkejaaGreatDoorMo
import Derived.Test.YtcdeccnjlkkejaaGreatDoorTx
set_option linter.unusedSimpArgs false
set_option linter.unusedVariables false
namespace Go.Lv.VT
def zL{α:Type}(f:α->List PV)(l:List α):Nat:=Hl (l.map f)
theorem KI{α:Type}(f:α->List PV)(v:α)(l:List α):zL f (v::l)=qM (f v)+zL f l:=rfl
theorem KW(x:zb):qM (Qz x)=5+x.text.length+x.unit.length:=by unfold Qz;simp only[qM,bPV];omega
theorem JW(x:zg):qM (Zc x)=6+x.token.text.length+x.token.unit.length+zL Zc x.list:=by rw[X7];simp only[qM,bPV,zL];omega
mutual
/-- How large values are. -/
def szV:zg->Nat
 |⟨t,l⟩=>1+t.text.length+t.unit.length+szL l
def szL:List zg->Nat
 |[]=>0
 |v::r=>szV v+szL r
end
theorem Oi(v:zg):szV v=1+v.token.text.length+v.token.unit.length+szL v.list:=by obtain⟨t,l⟩:=v;rw[szV]
theorem Dj{v:zg}: ∀{l:List zg},v∈l->szV v<=szL l
 |[],h=>by cases h
 |x::l,h=>by
  rw[szL];rcases Lb.1 h with rfl|h
  ·omega
  ·have:=Dj h;omega
theorem Ej: ∀(l:List zg),l.length<=szL l
 |[]=>Va _
 |v::r=>by rw[szL,Oi,Ia];have:=Ej r;omega
theorem VI(n:Nat):decide ((n:Int)>0)=decide (0<n):=by
 grind
theorem dz(k:Int):qa k=some (zw k):=by
 unfold qa zw;by_cases b:k=19
 ·subst b;rfl
 by_cases d:k=21
 ·subst d;rfl
 by_cases c:k=2
 ·subst c;rfl
 by_cases a:k=23
 ·subst a;rfl
 have g:(k==19)=false:=Ga.2 b;have h:(k==21)=false:=Ga.2 d;have e:(k==2)=false:=Ga.2 c;have f:(k==23)=false:=Ga.2 a;simp only[g,h,e,f,Ba,zh,b,d,c,a,Ed,or_self]
theorem mG(k:Int):Qp k=some (zw k):=by
 unfold Qp zw;by_cases b:k=19
 ·subst b;rfl
 by_cases d:k=21
 ·subst d;rfl
 by_cases c:k=2
 ·subst c;rfl
 by_cases a:k=23
 ·subst a;rfl
 have g:(k==19)=false:=Ga.2 b;have h:(k==21)=false:=Ga.2 d;have e:(k==2)=false:=Ga.2 c;have f:(k==23)=false:=Ga.2 a;simp only[g,h,e,f,Ba,zh,b,d,c,a,Ed,or_self]
mutual
/-- The depth of values. -/
def ah:zg->Nat
 |⟨t,l⟩=>if zw t.kind=0 then 0 else 1+mf l
def mf:List zg->Nat
 |[]=>0
 |v::r=>max (ah v) (mf r)
end
theorem uK(v:zg):ah v=if zw v.token.kind=0 then 0 else 1+mf v.list:=by obtain⟨t,l⟩:=v;rw[ah]
mutual
theorem iW: ∀v:zg,ah v<=szV v
 |⟨t,l⟩=>by rw[ah,szV];have:=ay l;split<;>omega
theorem ay: ∀l:List zg,mf l<=szL l
 |[]=>Va _
 |v::r=>by rw[mf,szL];have:=iW v;have:=ay r;omega
end
theorem LM(f:zg->Nat): ∀(l:List zg) (a:Nat),l.foldl (fun a v=>max a (f v)) a=max a (l.foldr (fun v a=>max (f v) a) 0)
 |[],a=>by simp
 |v::l,a=>by rw[uf,LM f l,List.foldr_cons];omega
theorem vK: ∀(l:List zg),mf l=l.foldr (fun v a=>max (ah v) a) 0
 |[]=>by rw[mf];rfl
 |v::l=>by rw[mf,vK l];rfl
theorem pJ{l:List zg}(h:szL l<=big):qK l=some (mf l:Int):=by
 refine Pj (fun l=>szL l) (fun l=>szL l<=big) (fun l=>(mf l:Int)) (fun S l n j=> ?_) h;unfold EA;have e:=Ej l;refine(VE l (fun i (a:Nat)=>((a:Int),(i:Int))) (fun v a=>some (.again (max a (ah v)))) (fun a=>some (.out (a:Int))) (a:=0) rfl (fun i a b=> ?_) (fun a=> ?_) (r:= .out (mf l:Int)) ?_)
 ·have f:=Dj (Xc b);have k:=Oi l[i];have c:=uK l[i];have g:=ay l[i].list;simp only[Q7 b,Ca,ze,Z8 b,Aa,dz];by_cases d:zw l[i].token.kind=0
  ·rw[Ka d]at c;simp[d,c,Z6 b (by omega)]
  ·rw[Ja d]at c;rw[j l[i].list (by omega) (by omega)];have m:w64 (1+(mf l[i].list:Int))=((1+mf l[i].list:Nat):Int):=by rw[w64,qc (by omega) (by grind)];omega
   simp only[Xe.2 d,Ca,Aa,zh,Z6 b (by omega),m,c,Ec]
   grind
 ·grind
 ·rw[ym (fun a v=>max a (ah v)) (fun v a=>rfl),LM,<-vK];simp
theorem Vt{l:List zg}: ∀{i:Nat} (h:i<l.length),szL (l.take (i+1))=szL (l.take i)+szV l[i]:=by
 induction l with
 |nil=>grind
 |cons v r a=>
  intro i h;cases i with
  |zero=>simp[szL]
  |succ i=>
   simp only[Ie,szL,List.getElem_cons_succ]
   grind
theorem pu(l:List zg)(i:Nat):szL (l.take i)<=szL l:=by
 induction l generalizing i with
 |nil=>simp
 |cons v r a=>
  cases i with
  |zero=>simp[szL]
  |succ i=>simp only[Ie,szL];grind
mutual
/-- The tokens of values. -/
def tokV:zg->List zb
 |⟨t,l⟩=>t::if zw t.kind=0 then []else tokL l++[⟨zw t.kind,[],0,[],false⟩]
def tokL:List zg->List zb
 |[]=>[]
 |v::r=>tokV v++tokL r
end
theorem Dm(v:zg):tokV v=v.token::if zw v.token.kind=0 then []else tokL v.list++[⟨zw v.token.kind,[],0,[],false⟩]:=by obtain⟨t,l⟩:=v;rw[tokV]
mutual
theorem Ns: ∀v:zg,(tokV v).length<=2*szV v
 |⟨t,l⟩=>by
  rw[tokV,szV];have:=Em l
  grind
theorem Em: ∀l:List zg,(tokL l).length<=2*szL l
 |[]=>Va _
 |v::r=>by rw[tokL,szL,Ha];have:=Ns v;have:=Em r;omega
end
theorem Iz: ∀(l:List zg) (a:List zb),l.foldl (fun a v=>a++tokV v) a=a++tokL l
 |[],a=>by simp[tokL]
 |v::l,a=>by rw[uf,Iz l,tokL,Oa]
theorem cz{l:List zg}(h:szL l<=big):Zk l=some (tokL l):=by
 refine Pj (fun l=>szL l) (fun l=>szL l<=big) (fun l=>tokL l) (fun S l j o=> ?_) h;unfold KA;have f:=Ej l;refine(Wp l (fun i (a:List zb)=>((i:Int),a)) (fun v a=>some (.again (a++tokV v))) (fun a=>some (.out a)) (fun i a=>a.length<=2*szL (l.take i)) (a:=[]) rfl (by simp) (fun i a c u=> ?_) (fun a _=> ?_) (r:= .out (tokL l)) ?_)
 ·have g:=Dj (Xc c);have t:=Oi l[i];have d:=Dm l[i];have k:=Em l[i].list;have w:=Vt c;have q:=pu l (i+1);have s:=Ns l[i];unfold big at j;have b: ∀n m:Nat,n+m<=100000000->zQ n m 56=true:=fun n m h=>Oj (by omega);refine⟨?_,fun x y=> ?_⟩
  ·simp only[Q7 c,Ca,ze,Z8 c,Aa,dz];by_cases e:zw l[i].token.kind=0
   ·rw[Ka e]at d;simp[e,d,Z6 c (by unfold big;omega),b a.length 1 (by omega)]
   ·rw[Ja e]at d;rw[o l[i].list (by unfold big;omega) (by omega)];have p:(zw l[i].token.kind != 0)=true:=Xe.2 e;simp[p,d,Z6 c (by unfold big;omega),b a.length 1 (by omega),b (a.length+1) (tokL l[i].list).length (by omega),b (a.length+((tokL l[i].list).length+1)) 1 (by omega)]
  ·grind
 ·grind
 ·rw[ym (fun a v=>a++tokV v) (fun v a=>rfl),Iz];simp
mutual
/-- Whether lists are those of blocks, and have not their closers. -/
def shV:zg->Int->Bool
 |⟨t,l⟩,c=> !((zw t.kind==0&&decide (0<l.length))||(c != 0&&t.kind==c)||(zw t.kind != 0&& !(shL l (zw t.kind))))
def shL:List zg->Int->Bool
 |[],_=>true
 |v::r,c=>shV v c&&shL r c
end
theorem kH(v:zg)(c:Int):shV v c= !((zw v.token.kind==0&&decide (0<v.list.length))||(c != 0&&v.token.kind==c)||(zw v.token.kind != 0&& !(shL v.list (zw v.token.kind)))):=by obtain⟨t,l⟩:=v;rw[shV]
theorem jY{l:List zg}{c:Int}(h:szL l<=big):qy (l,c)=some (shL l c):=by
 refine Pj (fun x:List zg×Int=>szL x.1) (fun x=>szL x.1<=big) (fun x=>shL x.1 x.2) (fun S x A q=> ?_) h;obtain⟨l,c⟩:=x;simp only at A q ⊢;unfold JA;have m:=Ej l;have f: ∀l:List zg,Yg (fun v (_:Unit)=>if shV v c=true then some (.again ())else some (.ret false)) (fun _=>some (.out ())) l ()=some (if shL l c=true then .out ()else .ret false):=by
  intro l
  induction l with
  |nil=>simp[Yg,shL]
  |cons v r y=>
   by_cases n:shV v c=true
   ·simpa [Yg,shL,n] using y
   ·simp[Yg,shL,n]
 refine(VE l (fun i (_:Unit)=>(i:Int)) (fun v (_:Unit)=>if shV v c=true then some (.again ())else some (.ret false)) (fun _=>some (.out ())) (a:=()) rfl (fun i a d=> ?_) (fun a=> ?_) (f l)).trans ?_
 ·have C:=Dj (Xc d);have w:=Oi l[i];have z:=kH l[i] c;simp only[Q7 d,Ca,ze,Z8 d,Aa,dz];have g:szL l[i].list<=big:=by omega
  have j:szL l[i].list<szL l:=by omega
  have e: ∀b,S (l[i].list,b)=some (shL l[i].list b):=fun b=>q (l[i].list,b) g j;rw[z];have o:decide ((l[i].list.length:Int)>0)=decide (0<l[i].list.length):=VI _;have B:=Z6 d (by omega);simp only[bne,o];rcases Oc (zw l[i].token.kind==0)with k|k<;>rcases Oc (decide (0<l[i].list.length))with u|u<;>rcases Oc (c==0)with s|s<;>rcases Oc (l[i].token.kind==c)with p|p<;>rcases Oc (shL l[i].list (zw l[i].token.kind))with t|t<;>
   simp only[e,o,k,u,s,p,t,B,Ca,Ba,Db,ma,Ib,Be,Eb,Ac,ae,Ke,Wd,Jc,zH,Zb,Aa,Jd,Ed,Ec,Ob]
 ·grind
 ·cases h:shL l c<;>simp
def Xl(l:List zg)(c:Int):zR:=⟨mf l,(tokL l).length, !(shL l c)⟩
theorem UL(c:Int): ∀(l:List zg) (a:Nat×Nat×Bool),l.foldl (fun a v=>(max a.1 (ah v),a.2.1+(tokV v).length,a.2.2|| !(shV v c))) a=(max a.1 (mf l),a.2.1+(tokL l).length,a.2.2|| !(shL l c))
 |[],a=>by simp[mf,tokL,shL]
 |v::l,a=>by
  rw[uf,UL c l,mf,tokL,shL,Ha];simp only[Prod.mk.injEq]
  grind
theorem fT(a b:Bool):(bif a then true else b)=(a||b):=by cases a<;>rfl
theorem oW(a b:Bool):(bif a then b else false)=(a&&b):=by cases a<;>rfl
theorem O3{l:List zg}{c:Int}(h:szL l<=big):Ui (l,c)=some (Xl l c):=by
 refine Pj (fun x:List zg×Int=>szL x.1) (fun x=>szL x.1<=big) (fun x=>Xl x.1 x.2) (fun S x C E=> ?_) h;obtain⟨l,c⟩:=x;simp only at C E ⊢;unfold uz;have B:=Ej l;refine(Wp l (fun i (a:Nat×Nat×Bool)=>((i:Int),(⟨(a.1:Int),(a.2.1:Int),a.2.2⟩:zR))) (fun v a=>some (.again (max a.1 (ah v),a.2.1+(tokV v).length,a.2.2|| !(shV v c)))) (fun a=>some (.out (⟨(a.1:Int),(a.2.1:Int),a.2.2⟩:zR))) (fun i a=>a.2.1<=2*szL (l.take i)) (a:=(0,0,false)) rfl (by simp) (fun i a j J=> ?_) (fun a _=> ?_) (r:= .out (Xl l c)) ?_)
 ·have N:=Dj (Xc j);have H:=Oi l[i];have m:=uK l[i];have O:=ay l[i].list;have o:=Dm l[i];have P:=Em l[i].list;have e:=kH l[i] c;have K:=Vt j;have G:=pu l (i+1);have Q:=Ns l[i];have w:szL l[i].list<=big:=by omega
  have y:szL l[i].list<szL l:=by omega
  have p:S (l[i].list,zw l[i].token.kind)=some (Xl l[i].list (zw l[i].token.kind)):=E (l[i].list,zw l[i].token.kind) w y;obtain⟨d,n,b⟩:=a;simp only at J;have D:=Z6 j (by omega);unfold big at C;have u:w64 ((n:Int)+1)=((n+1:Nat):Int):=by rw[w64,qc (by omega) (by omega)];omega
  refine⟨?_,fun R T=> ?_⟩
  ·have L:decide ((l[i].list.length:Int)>0)=decide (0<l[i].list.length):=VI _;simp only[Q7 j,Ca,ze,Z8 j,Aa,mG,Ec,u,bne,L,fT,oW];by_cases k:zw l[i].token.kind=0
   ·rw[Ka k]at m o;simp only[k,Xf,Eb,Db,Ac,Ke,bne]at e ⊢;rw[e,m,o];rcases Oc (decide (0<l[i].list.length))with F|F<;>rcases Oc (c==0)with g|g<;>rcases Oc (l[i].token.kind==c)with f|f<;>
     simp[F,g,f,D,Ca,Ba]
   ·rw[Ja k]at m o;have s:(zw l[i].token.kind==0)=false:=Ga.2 k;have z:w64 ((mf l[i].list:Int)+1)=((1+mf l[i].list:Nat):Int):=by rw[w64,qc (by omega) (by omega)];omega
    have t:w64 (((n+1:Nat):Int)+((tokL l[i].list).length:Int))=((n+1+(tokL l[i].list).length:Nat):Int):=by rw[w64,qc (by omega) (by omega)];omega
    have A:w64 (((n+1+(tokL l[i].list).length:Nat):Int)+1)=((n+(1+((tokL l[i].list).length+1)):Nat):Int):=by rw[w64,qc (by omega) (by omega)];omega
    have q:(tokV l[i]).length=1+((tokL l[i].list).length+1):=by rw[o];simp;omega
    have M:(if((1+mf l[i].list:Nat):Int)>(d:Int)then((1+mf l[i].list:Nat):Int)else(d:Int))=((max d (1+mf l[i].list):Nat):Int):=by split<;>omega
    rw[e,m,q];simp only[s,p,Ac,ma,Eb,Ke,Jc,Ba,bne,Aa,Xl];rcases Oc (c==0)with g|g<;>rcases Oc (l[i].token.kind==c)with f|f<;>
     simp only[g,f,D,z,t,A,M,Ca,Ba,zh,Db,ma,Eb,Ib,Be,Ac,ae,Ke,Wd,Jc,Bool.not_not]
  grind
 ·grind
 ·rw[ym (fun a v=>(max a.1 (ah v),a.2.1+(tokV v).length,a.2.2|| !(shV v c))) (fun v a=>rfl),UL];simp[Xl]
def errS(l:List zg):Int:=if 16<mf l then 20 else if 1500<(tokL l).length then 4 else if shL l 0 then 0 else 8
theorem iL{l:List zg}(h:szL l<=big):Gn l=some (errS l):=by
 unfold Gn errS;simp only[ze,pJ h,cz h,jY h,Aa]
 grind
theorem wM{l:List zg}(h:szL l<=big):Bn l=some (errS l):=by
 unfold Bn errS;simp only[ze,O3 h,Aa,Xl]
 grind
theorem zA6: ∀l:List zg,szL l<=zL Zc l:=by
 have a: ∀(n:Nat) (l:List zg),zL Zc l<n->szL l<=zL Zc l:=by
  intro n
  induction n with
  |zero=>intro l h;omega
  |succ n d=>
   intro l
   induction l with
   |nil=>intro _;rw[szL];grind
   |cons v l b=>
    intro h;rw[KI]at h ⊢;rw[szL,Oi];have c:=JW v
    grind
 grind
theorem IX{l:List zg}{a:List zb}(h:szL l<=big)(e:a.length+2*szL l<=4*big):qV (l,a)=some (a++tokL l):=by
 refine Pj (fun z=>szL z.1) (fun z=>szL z.1<=big/\z.2.length+2*szL z.1<=4*big) (fun z=>z.2++tokL z.1) (fun S z q s=> ?_) (x:=(l,a)) ⟨h,e⟩;obtain⟨l,a⟩:=z;obtain⟨h,e⟩:=q;have h:szL l<=big:=h;have e:a.length+2*szL l<=4*big:=e;have j:=Ej l;unfold AA;refine(Wp l (fun i (b:List zb)=>((i:Int),b)) (fun v b=>some (.again (b++tokV v))) (fun b=>some (.out b)) (fun i b=>b.length<=a.length+2*szL (l.take i)) (a:=a) rfl (by simp) (fun i b d A=> ?_) (fun b _=> ?_) (r:= .out (a++tokL l)) ?_).trans rfl
 ·have o:=Dj (Xc d);have y:=Oi l[i];have f:=Dm l[i];have p:=Em l[i].list;have B:=Vt d;have u:=pu l (i+1);have w:=Ns l[i];unfold big at h e;have c: ∀n m:Nat,n+m<=100000000->zQ n m 56=true:=fun n m h=>Oj (by omega);refine⟨?_,fun C k=> ?_⟩
  ·simp only[Q7 d,Ca,ze,Z8 d,Aa,mG];by_cases g:zw l[i].token.kind=0
   ·rw[Ka g]at f;simp[g,f,Z6 d (by unfold big;omega),c b.length 1 (by omega)]
   ·rw[Ja g]at f;rw[s (l[i].list,b++[l[i].token]) ⟨by grind,by grind⟩ (by grind)];have t:(zw l[i].token.kind != 0)=true:=Xe.2 g;simp[t,f,Z6 d (by unfold big;omega),c b.length 1 (by omega),c (b.length+((tokL l[i].list).length+1)) 1 (by omega)]
  ·grind
 ·grind
 ·rw[ym (fun a v=>a++tokV v) (fun v a=>rfl),Iz]
theorem mK{l:List zg}(h:szL l<=big):QN l=some (tokL l):=by
 have g:=Ej l;unfold QN;refine(Wp l (fun i (b:List zb)=>((i:Int),b)) (fun v b=>some (.again (b++tokV v))) (fun b=>some (.out b)) (fun i b=>b.length<=2*szL (l.take i)) (a:=[]) rfl (by simp) (fun i b d u=> ?_) (fun b _=> ?_) (r:= .out (tokL l)) ?_).trans rfl
 ·have k:=Dj (Xc d);have t:=Oi l[i];have e:=Dm l[i];have o:=Em l[i].list;have w:=Vt d;have q:=pu l (i+1);have s:=Ns l[i];unfold big at h;have c: ∀n m:Nat,n+m<=100000000->zQ n m 56=true:=fun n m h=>Oj (by omega);refine⟨?_,fun x j=> ?_⟩
  ·simp only[Q7 d,Ca,ze,Z8 d,Aa,mG];by_cases f:zw l[i].token.kind=0
   ·rw[Ka f]at e;simp[f,e,Z6 d (by unfold big;omega),c b.length 1 (by omega)]
   ·rw[Ja f]at e;rw[IX (a:=b++[l[i].token]) (show szL l[i].list<=big by unfold big;omega) (by grind)];have p:(zw l[i].token.kind != 0)=true:=Xe.2 f;simp[p,e,Z6 d (by unfold big;omega),c b.length 1 (by omega),c (b.length+((tokL l[i].list).length+1)) 1 (by omega)]
  ·grind
 ·grind
 ·rw[ym (fun a v=>a++tokV v) (fun v a=>rfl),Iz];simp
theorem U3{l:List zg}(h:szL l<=big):Ru l=some (if errS l=0 then(tokL l,0)else([],errS l)):=by
 unfold Ru;simp only[wM h,ze,Aa];by_cases he:errS l=0
 ·have:(errS l != 0)=false:=by rw[he];rfl
  rw[this,Ba,mK h,Ka he];rfl
 grind
end Go.Lv.VT

namespace Go.Lv
theorem Le.lp{S X R:Type}{step step':S->Option (LO S X R)}{s:S}{k k':X->Option R}(h: ∀s,Le (step s) (step' s))(hk: ∀x,Le (k x) (k' x)):Le (Zg step s k) (Zg step' s k'):=by
 intro y hy;unfold Zg at hy;cases hl:Lf step s with
 |none=>rw[hl]at hy;cases hy
 |some r=>
  rw[hl]at hy;obtain⟨n,hn⟩:=EN hl;rw[Jj (Wh (mE h n s r hn))];cases r with
  |out x=>exact hk x y hy
  |ret r=>exact hy
def OH{X Y:Type}(B:(X->Option Y)->X->Option Y):Prop:= ∀S S':X->Option Y,(∀x,Le (S x) (S' x))-> ∀x,Le (B S x) (B S' x)
theorem dV {X Y:Type} {B:(X->Option Y)->X->Option Y} (hm:OH B) (μ:X->Nat) (ok:X->Prop) (R:X->Y->Prop)
  (hB: ∀(S:X->Option Y) (x:X),ok x->(∀z,ok z->μ z<μ x-> ∃y,S z=some y/\R z y)-> ∃y,B S x=some y/\R x y) {x:X} (hx:ok x): ∃y,recE B x=some y/\R x y:=by
 have step: ∀n x,Le (ag B n x) (ag B (n+1) x):=by
  intro n
  induction n with
  |zero=>intro x;exact Le.none
  |succ n ih=>intro x;exact hm _ _ ih x
 have up: ∀d n x,Le (ag B n x) (ag B (n+d) x):=by
  intro d
  induction d with
  |zero=>intro n x;exact Le.rfl
  |succ d ih=>intro n x y hy;exact step _ x y (ih n x y hy)
 have key: ∀(m:Nat) (x:X),μ x<m->ok x-> ∃y,ag B m x=some y/\R x y:=by
  intro m
  induction m with
  |zero=>intro x h;omega
  |succ m ih=> intro x hm hok;exact hB _ x hok fun z hz hlt=>ih z (by omega) hz
 obtain⟨y,h1,h2⟩:=key (μ x+1) x (by omega) hx;refine⟨y,vD (N:=μ x+1) fun n hn=> ?_,h2⟩;obtain⟨d,rfl⟩:=Nat.le.dest hn;exact up d _ x y h1
theorem MV {A S X R:Type} {step:S->Option (LO S X R)} {k:X->Option R} (n:Nat) (st:Nat->A->S) (Inv:Nat->A->Prop) (Q:R->Prop) {s0:S} {a0:A} (h0:s0=st 0 a0) (hI:Inv 0 a0)
  (hg: ∀(i:Nat) (a:A),i<n->Inv i a->(∃a',step (st i a)=some (.again (st (i+1) a'))/\Inv (i+1) a')\/(∃r,step (st i a)=some (.ret r)/\Q r)\/(∃x,step (st i a)=some (.out x)/\ ∃r,k x=some r/\Q r))
  (hf: ∀a,Inv n a->(∃x,step (st n a)=some (.out x)/\ ∃r,k x=some r/\Q r)\/(∃r,step (st n a)=some (.ret r)/\Q r)): ∃r,Zg step s0 k=some r/\Q r:=by
 have key: ∀(m i:Nat) (a:A),i+m=n->Inv i a-> ∃j x,qE step j (st i a)=some x/\ ∃r,LX.go x k=some r/\Q r:=by
  intro m
  induction m with
  |zero=>
   intro i a hi ha;obtain rfl:i=n:=by omega
   rcases hf a ha with⟨x,h1,r,h2,h3⟩|⟨r,h1,h2⟩
   ·exact⟨1, .out x,by simp only[qE,h1],r,h2,h3⟩
   ·exact⟨1, .ret r,by simp only[qE,h1],r,rfl,h2⟩
  |succ m ih=>
   intro i a hi ha;rcases hg i a (by omega) ha with⟨a',h1,h2⟩|⟨r,h1,h2⟩|⟨x,h1,r,h2,h3⟩
   ·obtain⟨j,x,g1,g2⟩:=ih (i+1) a' (by omega) h2;exact⟨j+1,x,by simp only[qE,h1];exact g1,g2⟩
   ·exact⟨1, .ret r,by simp only[qE,h1],r,rfl,h2⟩
   ·exact⟨1, .out x,by simp only[qE,h1],r,h2,h3⟩
 obtain⟨j,x,h1,r,h2,h3⟩:=key n 0 a0 (by omega) hI;refine⟨r,?_,h3⟩;rw[h0,Jj (Wh h1),h2]
namespace VT
def mx{α:Type}(f:α->Nat):List α->Nat
 |[]=>0
 |v::l=>max (f v) (mx f l)
end VT
end Go.Lv

namespace Go.Lv.VT
set_option maxRecDepth 100000
theorem U8:OH Vq:=by intro qC ref04_Size' h_ref04_Size x;unfold Vq;exact(.lp (fun _=>(.bif (.bind .rfl fun _=>(.bind .rfl fun _=>(.bind .rfl fun _=>(.bind (h_ref04_Size _) fun _=> .rfl)))) .rfl)) fun _=> .rfl)
theorem FW{a:List zg}(h:szL a<=big):QC (a,a)=some true:=by
 refine Pj (fun x:List zg×List zg=>szL x.1) (fun x=>szL x.1<=big/\x.1=x.2) (fun x=>true) (fun S x d k=> ?_) (show szL (a,a).1<=big/\(a,a).1=(a,a).2 from⟨h,rfl⟩);obtain⟨l,p⟩:=x;obtain⟨d,m⟩:=d;simp only at d k m;subst m;unfold BA;have j:=Ej l;have c:((l.length:Int) != (l.length:Int))=false:=by simp
 simp only[c,Ba];refine(VE l (fun i (_:Unit)=>(i:Int)) (fun v (_:Unit)=>some (.again ())) (fun _=>some (.out ())) (a:=()) rfl (fun i a b=> ?_) (fun a=> ?_) (r:= .out ()) ?_)
 ·have n:=Dj (Xc b);have o:=Oi l[i];have e:szL l[i].list<=big:=by omega
  have g:szL l[i].list<szL l:=by omega
  have f:S (l[i].list,l[i].list)=some true:=k (l[i].list,l[i].list) ⟨e,rfl⟩ g;simp[b,Z8 b,f,Z6 b (by omega)]
 ·grind
 ·rw[ym (fun a v=>a) (fun v a=>rfl)]
end Go.Lv.VT
