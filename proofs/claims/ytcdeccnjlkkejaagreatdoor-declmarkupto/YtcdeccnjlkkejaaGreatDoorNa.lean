/- How large values are. -/
import Derived.Test.YtcdeccnjlkkejaaGreatDoorIp
import Derived.Test.YtcdeccnjlkkejaaGreatDoorLaw
import Derived.Test.YtcdeccnjlkkejaaGreatDoorLf
import Derived.Test.YtcdeccnjlkkejaaGreatDoorMo
import Derived.Test.YtcdeccnjlkkejaaGreatDoorTx
import Derived.KernelRfl
set_option linter.unusedSimpArgs false
set_option linter.unusedVariables false
namespace Go.Lv.VT
def zL{α:Type}(f:α->List PV)(l:List α):Nat:=wm (l.map f)
theorem zEi{α:Type}(f:α->List PV)(v:α)(l:List α):zL f (v::l)=jf (f v)+zL f l:=rfl
theorem VX(x:zf):jf (Zp x)=6+x.token.text.length+x.token.unit.length+zL Zp x.list:=by rw[M9];simp only[jf,bPV,zL];omega
mutual
/-- How large values are. -/
def szV:zf->Nat
 |⟨t,l⟩=>1+t.text.length+t.unit.length+szL l
def szL:List zf->Nat
 |[]=>0
 |v::r=>szV v+szL r
end
theorem yg(v:zf):szV v=1+v.token.text.length+v.token.unit.length+szL v.list:=by obtain⟨t,l⟩:=v;rw[szV]
theorem Mi{v:zf}: ∀{l:List zf},v∈l->szV v<=szL l
 |[],h=>by cases h
 |x::l,h=>by
  rw[szL];rcases Fb.1 h with rfl|h
  ·omega
  ·have:=Mi h;omega
theorem QV: ∀(l:List zf),l.length<=szL l
 |[]=>Xa _
 |v::r=>by rw[szL,yg,Ja];have:=QV r;omega
theorem tq(n:Nat):decide ((n:Int)>0)=decide (0<n):=by
 grind
theorem RH(k:Int):Qv k=some (zy k):=by
 unfold Qv zy;by_cases b:k=19
 ·subst b;rfl
 by_cases d:k=21
 ·subst d;rfl
 by_cases c:k=2
 ·subst c;rfl
 by_cases a:k=23
 ·subst a;rfl
 have g:(k==19)=false:=Fa.2 b;have h:(k==21)=false:=Fa.2 d;have e:(k==2)=false:=Fa.2 c;have f:(k==23)=false:=Fa.2 a;simp only[g,h,e,f,Ba,zh,b,d,c,a,Od,or_self]
theorem xI(k:Int):qG k=some (zy k):=by
 unfold qG zy;by_cases b:k=19
 ·subst b;rfl
 by_cases d:k=21
 ·subst d;rfl
 by_cases c:k=2
 ·subst c;rfl
 by_cases a:k=23
 ·subst a;rfl
 have g:(k==19)=false:=Fa.2 b;have h:(k==21)=false:=Fa.2 d;have e:(k==2)=false:=Fa.2 c;have f:(k==23)=false:=Fa.2 a;simp only[g,h,e,f,Ba,zh,b,d,c,a,Od,or_self]
mutual
/-- The depth of values. -/
def xg:zf->Nat
 |⟨t,l⟩=>if zy t.kind=0 then 0 else 1+QN l
def QN:List zf->Nat
 |[]=>0
 |v::r=>max (xg v) (QN r)
end
theorem mM(v:zf):xg v=if zy v.token.kind=0 then 0 else 1+QN v.list:=by obtain⟨t,l⟩:=v;rw[xg]
mutual
theorem zAi: ∀v:zf,xg v<=szV v
 |⟨t,l⟩=>by rw[xg,szV];have:=LA l;split<;>omega
theorem LA: ∀l:List zf,QN l<=szL l
 |[]=>Xa _
 |v::r=>by rw[QN,szL];have:=zAi v;have:=LA r;omega
end
theorem pO(f:zf->Nat): ∀(l:List zf) (a:Nat),l.foldl (fun a v=>max a (f v)) a=max a (l.foldr (fun v a=>max (f v) a) 0)
 |[],a=>by simp
 |v::l,a=>by rw[Yc,pO f l,List.foldr_cons];omega
theorem nM: ∀(l:List zf),QN l=l.foldr (fun v a=>max (xg v) a) 0
 |[]=>by rw[QN];rfl
 |v::l=>by rw[QN,nM l];rfl
theorem NM{l:List zf}(h:szL l<=big):Qk l=some (QN l:Int):=by
 refine Vk (fun l=>szL l) (fun l=>szL l<=big) (fun l=>(QN l:Int)) (fun S l n j=> ?_) h;unfold bB;have e:=QV l;refine(EA l (fun i (a:Nat)=>((a:Int),(i:Int))) (fun v a=>some (.again (max a (xg v)))) (fun a=>some (.out (a:Int))) (a:=0) rfl (fun i a b=> ?_) (fun a=> ?_) (r:= .out (QN l:Int)) ?_)
 ·have f:=Mi (Ic b);have k:=yg l[i];have c:=mM l[i];have g:=LA l[i].list;simp only[ql b,Da,zb,ZA b,Aa,RH];by_cases d:zy l[i].token.kind=0
  ·rw[Ha d]at c;simp[d,c,Zy b (by omega)]
  ·rw[Ga d]at c;rw[j l[i].list (by omega) (by omega)];have m:w64 (1+(QN l[i].list:Int))=((1+QN l[i].list:Nat):Int):=by rw[w64,Z4 (by omega) (by grind)];omega
   simp only[Ue.2 d,Da,Aa,zh,Zy b (by omega),m,c,jc]
   grind
 ·grind
 ·rw[Xk (fun a v=>max a (xg v)) (fun v a=>rfl),pO,<-nM];simp
theorem Tv{l:List zf}: ∀{i:Nat} (h:i<l.length),szL (l.take (i+1))=szL (l.take i)+szV l[i]:=by
 induction l with
 |nil=>grind
 |cons v r a=>
  intro i h;cases i with
  |zero=>simp[szL]
  |succ i=>
   simp only[Xe,szL,List.getElem_cons_succ]
   grind
theorem sw(l:List zf)(i:Nat):szL (l.take i)<=szL l:=by
 induction l generalizing i with
 |nil=>simp
 |cons v r a=>
  cases i with
  |zero=>simp[szL]
  |succ i=>simp only[Xe,szL];grind
mutual
/-- The tokens of values. -/
def tokV:zf->List ze
 |⟨t,l⟩=>t::if zy t.kind=0 then []else tokL l++[⟨zy t.kind,[],0,[],false⟩]
def tokL:List zf->List ze
 |[]=>[]
 |v::r=>tokV v++tokL r
end
theorem Mj(v:zf):tokV v=v.token::if zy v.token.kind=0 then []else tokL v.list++[⟨zy v.token.kind,[],0,[],false⟩]:=by obtain⟨t,l⟩:=v;rw[tokV]
mutual
theorem tu: ∀v:zf,(tokV v).length<=2*szV v
 |⟨t,l⟩=>by
  rw[tokV,szV];have:=oq l
  grind
theorem oq: ∀l:List zf,(tokL l).length<=2*szL l
 |[]=>Xa _
 |v::r=>by rw[tokL,szL,Ka];have:=tu v;have:=oq r;omega
end
theorem nA: ∀(l:List zf) (a:List ze),l.foldl (fun a v=>a++tokV v) a=a++tokL l
 |[],a=>by simp[tokL]
 |v::l,a=>by rw[Yc,nA l,tokL,La]
theorem RQ{l:List zf}(h:szL l<=big):qc l=some (tokL l):=by
 refine Vk (fun l=>szL l) (fun l=>szL l<=big) (fun l=>tokL l) (fun S l j o=> ?_) h;unfold OC;have f:=QV l;refine(Ro l (fun i (a:List ze)=>((i:Int),a)) (fun v a=>some (.again (a++tokV v))) (fun a=>some (.out a)) (fun i a=>a.length<=2*szL (l.take i)) (a:=[]) rfl (by simp) (fun i a c u=> ?_) (fun a _=> ?_) (r:= .out (tokL l)) ?_)
 ·have g:=Mi (Ic c);have t:=yg l[i];have d:=Mj l[i];have k:=oq l[i].list;have w:=Tv c;have q:=sw l (i+1);have s:=tu l[i];unfold big at j;have b: ∀n m:Nat,n+m<=100000000->zH n m 56=true:=fun n m h=>mi (by omega);refine⟨?_,fun x y=> ?_⟩
  ·simp only[ql c,Da,zb,ZA c,Aa,RH];by_cases e:zy l[i].token.kind=0
   ·rw[Ha e]at d;simp[e,d,Zy c (by unfold big;omega),b a.length 1 (by omega)]
   ·rw[Ga e]at d;rw[o l[i].list (by unfold big;omega) (by omega)];have p:(zy l[i].token.kind != 0)=true:=Ue.2 e;simp[p,d,Zy c (by unfold big;omega),b a.length 1 (by omega),b (a.length+1) (tokL l[i].list).length (by omega),b (a.length+((tokL l[i].list).length+1)) 1 (by omega)]
  ·grind
 ·grind
 ·rw[Xk (fun a v=>a++tokV v) (fun v a=>rfl),nA];simp
mutual
/-- Whether lists are those of blocks, and have not their closers. -/
def shV:zf->Int->Bool
 |⟨t,l⟩,c=> !((zy t.kind==0&&decide (0<l.length))||(c != 0&&t.kind==c)||(zy t.kind != 0&& !(shL l (zy t.kind))))
def shL:List zf->Int->Bool
 |[],_=>true
 |v::r,c=>shV v c&&shL r c
end
theorem CW(v:zf)(c:Int):shV v c= !((zy v.token.kind==0&&decide (0<v.list.length))||(c != 0&&v.token.kind==c)||(zy v.token.kind != 0&& !(shL v.list (zy v.token.kind)))):=by obtain⟨t,l⟩:=v;rw[shV]
theorem OZ{l:List zf}{c:Int}(h:szL l<=big):qQ (l,c)=some (shL l c):=by
 refine Vk (fun x:List zf×Int=>szL x.1) (fun x=>szL x.1<=big) (fun x=>shL x.1 x.2) (fun S x A q=> ?_) h;obtain⟨l,c⟩:=x;simp only at A q ⊢;unfold NC;have m:=QV l;have f: ∀l:List zf,vg (fun v (_:Unit)=>if shV v c=true then some (.again ())else some (.ret false)) (fun _=>some (.out ())) l ()=some (if shL l c=true then .out ()else .ret false):=by
  intro l
  induction l with
  |nil=>simp[vg,shL]
  |cons v r y=>
   by_cases n:shV v c=true
   ·simpa [vg,shL,n] using y
   ·simp[vg,shL,n]
 refine(EA l (fun i (_:Unit)=>(i:Int)) (fun v (_:Unit)=>if shV v c=true then some (.again ())else some (.ret false)) (fun _=>some (.out ())) (a:=()) rfl (fun i a d=> ?_) (fun a=> ?_) (f l)).trans ?_
 ·have C:=Mi (Ic d);have w:=yg l[i];have z:=CW l[i] c;simp only[ql d,Da,zb,ZA d,Aa,RH];have g:szL l[i].list<=big:=by omega
  have j:szL l[i].list<szL l:=by omega
  have e: ∀b,S (l[i].list,b)=some (shL l[i].list b):=fun b=>q (l[i].list,b) g j;rw[z];have o:decide ((l[i].list.length:Int)>0)=decide (0<l[i].list.length):=tq _;have B:=Zy d (by omega);simp only[bne,o];rcases ic (zy l[i].token.kind==0)with k|k<;>rcases ic (decide (0<l[i].list.length))with u|u<;>rcases ic (c==0)with s|s<;>rcases ic (l[i].token.kind==c)with p|p<;>rcases ic (shL l[i].list (zy l[i].token.kind))with t|t<;>
   simp only[e,o,k,u,s,p,t,B,Da,Ba,aa,Va,Rb,Rc,ma,Lb,Ff,Ke,Td,Xc,zA,Zb,Aa,Be,Od,jc,Sb]
 ·grind
 ·cases h:shL l c<;>simp
def Kn(l:List zf)(c:Int):zx:=⟨QN l,(tokL l).length, !(shL l c)⟩
theorem BP(c:Int): ∀(l:List zf) (a:Nat×Nat×Bool),l.foldl (fun a v=>(max a.1 (xg v),a.2.1+(tokV v).length,a.2.2|| !(shV v c))) a=(max a.1 (QN l),a.2.1+(tokL l).length,a.2.2|| !(shL l c))
 |[],a=>by simp[QN,tokL,shL]
 |v::l,a=>by
  rw[Yc,BP c l,QN,tokL,shL,Ka];simp only[Prod.mk.injEq]
  grind
theorem nL(a b:Bool):(bif a then true else b)=(a||b):=by cases a<;>rfl
theorem zAa(a b:Bool):(bif a then b else false)=(a&&b):=by cases a<;>rfl
theorem M7{l:List zf}{c:Int}(h:szL l<=big):qJ (l,c)=some (Kn l c):=by
 refine Vk (fun x:List zf×Int=>szL x.1) (fun x=>szL x.1<=big) (fun x=>Kn x.1 x.2) (fun S x C E=> ?_) h;obtain⟨l,c⟩:=x;simp only at C E ⊢;unfold Ps;have B:=QV l;refine(Ro l (fun i (a:Nat×Nat×Bool)=>((i:Int),(⟨(a.1:Int),(a.2.1:Int),a.2.2⟩:zx))) (fun v a=>some (.again (max a.1 (xg v),a.2.1+(tokV v).length,a.2.2|| !(shV v c)))) (fun a=>some (.out (⟨(a.1:Int),(a.2.1:Int),a.2.2⟩:zx))) (fun i a=>a.2.1<=2*szL (l.take i)) (a:=(0,0,false)) rfl (by simp) (fun i a j J=> ?_) (fun a _=> ?_) (r:= .out (Kn l c)) ?_)
 ·have N:=Mi (Ic j);have H:=yg l[i];have m:=mM l[i];have O:=LA l[i].list;have o:=Mj l[i];have P:=oq l[i].list;have e:=CW l[i] c;have K:=Tv j;have G:=sw l (i+1);have Q:=tu l[i];have w:szL l[i].list<=big:=by omega
  have y:szL l[i].list<szL l:=by omega
  have p:S (l[i].list,zy l[i].token.kind)=some (Kn l[i].list (zy l[i].token.kind)):=E (l[i].list,zy l[i].token.kind) w y;obtain⟨d,n,b⟩:=a;simp only at J;have D:=Zy j (by omega);unfold big at C;have u:w64 ((n:Int)+1)=((n+1:Nat):Int):=by rw[w64,Z4 (by omega) (by omega)];omega
  refine⟨?_,fun R T=> ?_⟩
  ·have L:decide ((l[i].list.length:Int)>0)=decide (0<l[i].list.length):=tq _;simp only[ql j,Da,zb,ZA j,Aa,xI,jc,u,bne,L,nL,zAa];by_cases k:zy l[i].token.kind=0
   ·rw[Ha k]at m o;simp only[k,af,ma,aa,Lb,Ke,bne]at e ⊢;rw[e,m,o];rcases ic (decide (0<l[i].list.length))with F|F<;>rcases ic (c==0)with g|g<;>rcases ic (l[i].token.kind==c)with f|f<;>
     simp[F,g,f,D,Da,Ba]
   ·rw[Ga k]at m o;have s:(zy l[i].token.kind==0)=false:=Fa.2 k;have z:w64 ((QN l[i].list:Int)+1)=((1+QN l[i].list:Nat):Int):=by rw[w64,Z4 (by omega) (by omega)];omega
    have t:w64 (((n+1:Nat):Int)+((tokL l[i].list).length:Int))=((n+1+(tokL l[i].list).length:Nat):Int):=by rw[w64,Z4 (by omega) (by omega)];omega
    have A:w64 (((n+1+(tokL l[i].list).length:Nat):Int)+1)=((n+(1+((tokL l[i].list).length+1)):Nat):Int):=by rw[w64,Z4 (by omega) (by omega)];omega
    have q:(tokV l[i]).length=1+((tokL l[i].list).length+1):=by rw[o];simp;omega
    have M:(if((1+QN l[i].list:Nat):Int)>(d:Int)then((1+QN l[i].list:Nat):Int)else(d:Int))=((max d (1+QN l[i].list):Nat):Int):=by split<;>omega
    rw[e,m,q];simp only[s,p,Lb,Va,ma,Ke,Xc,Ba,bne,Aa,Kn];rcases ic (c==0)with g|g<;>rcases ic (l[i].token.kind==c)with f|f<;>
     simp only[g,f,D,z,t,A,M,Da,Ba,zh,aa,Va,ma,Rb,Rc,Lb,Ff,Ke,Td,Xc,Bool.not_not]
  grind
 ·grind
 ·rw[Xk (fun a v=>(max a.1 (xg v),a.2.1+(tokV v).length,a.2.2|| !(shV v c))) (fun v a=>rfl),BP];simp[Kn]
theorem bi{a b:List zf}(h:a.Sublist b):szL a<=szL b:=by
 induction h with
 |slnil=>grind
 |cons v _ c=>rw[szL];omega
 |cons_cons v _ c=>rw[szL,szL];omega
theorem QD(l:List zf):l=[]\/ ∃t v,l=t++[v]:=by
 rcases List.eq_nil_or_concat l with h|⟨t,v,h⟩
 ·exact .inl h
 grind
def isSp(v:zf):Bool:=v.token.kind==13
def trimB(l:List zf):List zf:=(l.reverse.dropWhile isSp).reverse
theorem eX:trimB []=[]:=rfl
theorem QX(t:List zf)(v:zf):trimB (t++[v])=if isSp v then trimB t else t++[v]:=by
 unfold trimB;rw[List.reverse_append];simp only[List.reverse_cons,List.reverse_nil,Ob,Sa,Oc]
 grind
theorem Cm(l:List zf):(trimB l).Sublist l:=by
 unfold trimB
 grind
def trimS(l:List zf):List zf:=trimB (l.dropWhile isSp)
theorem zBC(l:List zf):szL (trimS l)<=szL l:=bi ((Cm _).trans (He _))
theorem Fz(p:zf->Bool): ∀(l:List zf),l.drop (l.length - (l.dropWhile p).length)=l.dropWhile p
 |[]=>rfl
 |v::r=>by
  rw[Oc];split
  ·have h:=List.Sublist.length_le (He p (l:=r));rw[Ja,Nat.succ_sub h,List.drop_succ_cons];exact Fz p r
  ·simp
theorem I5{l:List zf}(h:szL l<=big):ax l=some (trimS l):=by
 unfold ax;refine(Qt (r:= .out (l.dropWhile isSp)) (ZT (fun s=>s.dropWhile isSp=l.dropWhile isSp) (fun s=>s.length) _ (fun s c=> ?_) rfl)).trans ?_
 ·cases s with
  |nil=>simp_all
  |cons v t=>
   have e:decide (((v::t).length:Int)>0)=true:=by rw[tq];simp
   have f:geti (v::t) 0=some v:=rfl;have n:decide ((1:Int)<=((v::t).length:Int))=true:=by simp;omega
   rw[Oc]at c;cases b:isSp v with
   |true=> rw[b]at c;unfold isSp at b;simp_all
   |false=> rw[b]at c;unfold isSp at b;refine .inr (.inl ⟨v::t,?_,by rw[<-c];rfl⟩);simp only[e,f,zA,zb,Aa,b,Da,Ba]
 ·rw[zkH];have i:szL (l.dropWhile isSp)<=big:=Yb (bi (He _)) h;unfold trimS;generalize l.dropWhile isSp=d at i;refine(Qt (r:= .out (trimB d)) (ZT (fun s=>trimB s=trimB d/\szL s<=big) (fun s=>s.length) _ (fun s c=> ?_) ⟨rfl,i⟩)).trans ?_
  ·rcases QD s with rfl|⟨t,v,rfl⟩
   ·exact .inr (.inl ⟨[],by simp,by rw[<-c.1];rfl⟩)
   ·have g:=QV (t++[v]);have k:(t++[v]).length=t.length+1:=by simp
    have m:=c.2;unfold big at m;have e:decide (((t++[v]).length:Int)>0)=true:=by rw[tq];simp
    have j:w64 (((t++[v]).length:Int) - 1)=(t.length:Int):=by rw[w64,Z4 (by omega) (by omega)];omega
    have f:geti (t++[v]) (t.length:Int)=some v:=by rw[ZA (by omega)];simp
    have n:(decide ((0:Int)<=(t.length:Int))&&decide ((t.length:Int)<=((t++[v]).length:Int)))=true:=by simp;omega
    have a:=c.1;rw[QX]at a;cases b:isSp v with
    |true=> rw[Ha b]at a;unfold isSp at b;refine .inl ⟨t,?_,⟨a,Yb (bi (List.sublist_append_left t [v])) c.2⟩,by simp⟩;simp_all
    |false=> rw[Ga (by rw[b];simp)]at a;unfold isSp at b;refine .inr (.inl ⟨t++[v],?_,by rw[<-a]⟩);simp only[e,j,f,zA,zb,Aa,b,Da,Ba]
  ·rw[zkH]
def errS(l:List zf):Int:=if 16<QN l then 20 else if 1500<(tokL l).length then 4 else if shL l 0 then 0 else 8
theorem GY{l:List zf}(h:szL l<=big):yw l=some (errS l):=by
 unfold yw errS;simp only[zb,NM h,RQ h,OZ h,Aa]
 grind
theorem RB{l:List zf}(h:szL l<=big):qU l=some (errS l):=by
 unfold qU errS;simp only[zb,M7 h,Aa,Kn]
 grind
theorem zFM: ∀l:List zf,szL l<=zL Zp l:=by
 have a: ∀(n:Nat) (l:List zf),zL Zp l<n->szL l<=zL Zp l:=by
  intro n
  induction n with
  |zero=>intro l h;omega
  |succ n d=>
   intro l
   induction l with
   |nil=>intro _;rw[szL];grind
   |cons v l b=>
    intro h;rw[zEi]at h ⊢;rw[szL,yg];have c:=VX v
    grind
 grind
theorem zAs{l:List zf}{a:List ze}(h:szL l<=big)(e:a.length+2*szL l<=4*big):ZM (l,a)=some (a++tokL l):=by
 refine Vk (fun z=>szL z.1) (fun z=>szL z.1<=big/\z.2.length+2*szL z.1<=4*big) (fun z=>z.2++tokL z.1) (fun S z q s=> ?_) (x:=(l,a)) ⟨h,e⟩;obtain⟨l,a⟩:=z;obtain⟨h,e⟩:=q;have h:szL l<=big:=h;have e:a.length+2*szL l<=4*big:=e;have j:=QV l;unfold Pt;refine(Ro l (fun i (b:List ze)=>((i:Int),b)) (fun v b=>some (.again (b++tokV v))) (fun b=>some (.out b)) (fun i b=>b.length<=a.length+2*szL (l.take i)) (a:=a) rfl (by simp) (fun i b d A=> ?_) (fun b _=> ?_) (r:= .out (a++tokL l)) ?_).trans rfl
 ·have o:=Mi (Ic d);have y:=yg l[i];have f:=Mj l[i];have p:=oq l[i].list;have B:=Tv d;have u:=sw l (i+1);have w:=tu l[i];unfold big at h e;have c: ∀n m:Nat,n+m<=100000000->zH n m 56=true:=fun n m h=>mi (by omega);refine⟨?_,fun C k=> ?_⟩
  ·simp only[ql d,Da,zb,ZA d,Aa,xI];by_cases g:zy l[i].token.kind=0
   ·rw[Ha g]at f;simp[g,f,Zy d (by unfold big;omega),c b.length 1 (by omega)]
   ·rw[Ga g]at f;rw[s (l[i].list,b++[l[i].token]) ⟨by grind,by grind⟩ (by grind)];have t:(zy l[i].token.kind != 0)=true:=Ue.2 g;simp[t,f,Zy d (by unfold big;omega),c b.length 1 (by omega),c (b.length+((tokL l[i].list).length+1)) 1 (by omega)]
  ·grind
 ·grind
 ·rw[Xk (fun a v=>a++tokV v) (fun v a=>rfl),nA]
theorem dM{l:List zf}(h:szL l<=big):QC l=some (tokL l):=by
 have g:=QV l;unfold QC;refine(Ro l (fun i (b:List ze)=>((i:Int),b)) (fun v b=>some (.again (b++tokV v))) (fun b=>some (.out b)) (fun i b=>b.length<=2*szL (l.take i)) (a:=[]) rfl (by simp) (fun i b d u=> ?_) (fun b _=> ?_) (r:= .out (tokL l)) ?_).trans rfl
 ·have k:=Mi (Ic d);have t:=yg l[i];have e:=Mj l[i];have o:=oq l[i].list;have w:=Tv d;have q:=sw l (i+1);have s:=tu l[i];unfold big at h;have c: ∀n m:Nat,n+m<=100000000->zH n m 56=true:=fun n m h=>mi (by omega);refine⟨?_,fun x j=> ?_⟩
  ·simp only[ql d,Da,zb,ZA d,Aa,xI];by_cases f:zy l[i].token.kind=0
   ·rw[Ha f]at e;simp[f,e,Zy d (by unfold big;omega),c b.length 1 (by omega)]
   ·rw[Ga f]at e;rw[zAs (a:=b++[l[i].token]) (show szL l[i].list<=big by unfold big;omega) (by grind)];have p:(zy l[i].token.kind != 0)=true:=Ue.2 f;simp[p,e,Zy d (by unfold big;omega),c b.length 1 (by omega),c (b.length+((tokL l[i].list).length+1)) 1 (by omega)]
  ·grind
 ·grind
 ·rw[Xk (fun a v=>a++tokV v) (fun v a=>rfl),nA];simp
theorem N7{l:List zf}(h:szL l<=big):Wo l=some (if errS l=0 then(tokL l,0)else([],errS l)):=by
 unfold Wo;simp only[RB h,zb,Aa];by_cases he:errS l=0
 ·have:(errS l != 0)=false:=by rw[he];rfl
  rw[this,Ba,dM h,Ha he];rfl
 grind
def szP:List (List zf)->Nat
 |[]=>0
 |l::r=>1+szL l+szP r
theorem JK{v:List zf}: ∀{l:List (List zf)},v∈l->szL v<=szP l
 |[],h=>by cases h
 |x::l,h=>by
  rw[szP];rcases Fb.1 h with rfl|h
  ·omega
  ·have:=JK h;omega
theorem LK: ∀(l:List (List zf)),l.length<=szP l
 |[]=>Xa _
 |v::r=>by rw[szP,Ja];have:=LK r;omega
theorem iZ{R:Type}(x:Option R):both x x=x:=by unfold both;rw[Ha rfl]
theorem jX{l:List zf}(h:szL l<=big):Qx l=some l:=by
 unfold Qx;have b:=QV l;unfold big at h;have a:zH 0 l.length 80=true:=mi (by omega);cases l with
 |nil=>simp only[a,iZ,zV,List.isEmpty_nil,Da]
 |cons v r=>simp_all
theorem jE{l:List zf}(h:szL l<=big):QP l=some l:=by
 refine Vk (fun l=>szL l) (fun l=>szL l<=big) (fun l=>l) (fun S l hl hS=> ?_) h;unfold YB;have hlen:=QV l;simp only[zb,jX hl,Aa];refine(Ro l (fun i (a:List zf)=>((i:Int),a)) (fun v a=>some (.again a)) (fun a=>some (.out a)) (fun i a=>a=l) (a:=l) rfl rfl (fun i a hi hI=> ?_) (fun a hI=> ?_) (r:= .out l) ?_)
 ·subst hI;have hsz:=Mi (Ic hi);have hv2:=yg a[i];refine⟨?_,fun a' ha=>by cases ha;rfl⟩;have h1:S a[i].list=some a[i].list:=hS a[i].list (by omega) (by omega);have h2:decide ((0:Int)<=(i:Int))=true:=Ia (by omega);have h3:a[i]? =some a[i]:=Ua hi;have h4:a.set i ⟨a[i].token,a[i].list⟩=a:=by
   have:(⟨a[i].token,a[i].list⟩:zf)=a[i]:=by cases a[i];rfl
   rw[this,List.set_getElem_self]
  simp only[ql hi,h2,Bool.and_self,Da,zV,Eb,h3,Aa,h1,h4,Zy hi (by omega),jc]
 ·grind
 ·rw[Xk (fun a v=>a) (fun v a=>rfl)];congr 2;clear hl hS hlen h;generalize l=b at*;have: ∀(m b:List zf),m.foldl (fun a _=>a) b=b:=by
   intro m
   induction m with
   |nil=>intro b;rfl
   |cons v m ih=>grind
  exact this _ _
theorem tC{l:List zf}{i:Nat}(h:i<l.length):Rs ((i:Int),l)=some (isSp l[i]):=by unfold Rs;simp only[zb,ZA h,Aa];rfl
theorem BZ{l:List zf}(h:szL l<=big):Pw l=some (if errS l=0 then(trimS l,0)else([],errS l)):=by
 unfold Pw;have hlen:=QV l;simp only[zb,RB h,Aa];by_cases h1:errS l=0
 ·rw[Ha h1];have hne:(errS l != 0)=false:=by simp[h1]
  simp only[hne,Ba];have hdl:=List.Sublist.length_le (He isSp (l:=l));have hdd:=Fz isSp l;refine(Qt (r:= .out ((l.length - (l.dropWhile isSp).length:Nat):Int)) (ZT (fun s=> ∃k:Nat,s=(k:Int)/\k<=l.length/\(l.drop k).dropWhile isSp=l.dropWhile isSp) (fun s=>l.length - s.toNat) _ (fun s hs=> ?_) ⟨0,rfl,Dc _,rfl⟩)).trans ?_
  ·obtain⟨k,rfl,hk,he⟩:=hs;by_cases hlt:k<l.length
   ·rw[Bb hlt,Oc]at he;have hw:=Zy hlt (by grind);cases hv:isSp l[k]with
    |true=> rw[Ha hv]at he;refine .inl ⟨((k+1:Nat):Int),?_,⟨k+1,rfl,hlt,he⟩,by omega⟩;simp only[ql hlt,zA,tC hlt,Aa,hv,Da,hw]
    |false=>
     rw[Ga (by rw[hv];simp)]at he;refine .inr (.inl ⟨(k:Int),?_,?_⟩)
     ·simp only[ql hlt,zA,tC hlt,Aa,hv,Da,Ba]
     grind
   ·have hkk:k=l.length:=by omega
    simp_all
  ·rw[zkH];generalize hf:l.length - (l.dropWhile isSp).length=f at hdd;have hfl:f<=l.length:=by omega
   generalize l.dropWhile isSp=d at hdd;subst hdd;refine(Qt (r:= .out ((f+(trimB (l.drop f)).length:Nat):Int)) (ZT (fun s=> ∃m:Nat,s=(m:Int)/\f<=m/\m<=l.length/\trimB ((l.take m).drop f)=trimB (l.drop f)) (fun s=>s.toNat) _ (fun s hs=> ?_) ⟨l.length,rfl,hfl,Xa _,by grind⟩)).trans ?_
   ·obtain⟨m,rfl,hm1,hm2,he⟩:=hs;by_cases hlt:f<m
    ·have hm:m - 1<l.length:=by omega
     have hsn:(l.take m).drop f=(l.take (m - 1)).drop f++[l[m - 1]]:=by
      have:l.take m=l.take (m - 1)++[l[m - 1]]:=by
       have:=Tc hm
       rwa [show m - 1+1=m by omega]at this
      rw[this,Ag (by rw[lc];omega)]
     rw[hsn,QX]at he;have h2:decide ((f:Int)<(m:Int))=true:=Ia (by omega);have hw:w64 ((m:Int) - 1)=((m - 1:Nat):Int):=by rw[w64,Z4 (by omega) (by unfold big at h;omega)];omega
     cases hv:isSp l[m - 1]with
     |true=> rw[Ha hv]at he;refine .inl ⟨((m - 1:Nat):Int),?_,⟨m - 1,rfl,by omega,by omega,he⟩,by omega⟩;simp only[h2,zA,hw,tC hm,Aa,hv,Da]
     |false=>
      rw[Ga (by rw[hv];simp)]at he;refine .inr (.inl ⟨(m:Int),?_,?_⟩)
      ·simp only[h2,zA,hw,tC hm,Aa,hv,Da,Ba]
      ·rw[<-he];congr 1;simp;omega
    ·have hmm:m=f:=by omega
     subst hmm;have h2:decide ((m:Int)<(m:Int))=false:=Ya (by omega);refine .inr (.inl ⟨(m:Int),?_,?_⟩)
     ·simp only[h2,Zb,Aa,Ba]
     ·rw[Pe (by rw[lc];omega),eX]at he;rw[<-he];simp
   ·rw[zkH];have htl:=List.Sublist.length_le (Cm (l.drop f));rw[Ub]at htl;have hcut:List.drop f (List.take (f+(trimB (l.drop f)).length) l)=trimB (l.drop f):=by
     rw[List.drop_take];have: ∀d:List zf,d.take (trimB d).length=trimB d:=by intro d;unfold trimB;rw[List.length_reverse];have h3:=Fz isSp d.reverse;have h4:=List.Sublist.length_le (He isSp (l:=d.reverse));rw[List.length_reverse]at h3 h4;rw[<-h3,List.drop_reverse,List.reverse_reverse];congr 1;simp
     have e:=this (l.drop f);rw[show f+(trimB (l.drop f)).length - f=(trimB (l.drop f)).length by omega];exact e
    have hneed:(decide ((0:Int)<=(f:Int))&&(decide ((f:Int)<=((f+(trimB (l.drop f)).length:Nat):Int))&&(decide (((f+(trimB (l.drop f)).length:Nat):Int)<=((f+(trimB (l.drop f)).length:Nat):Int))&&decide (((f+(trimB (l.drop f)).length:Nat):Int)<=(l.length:Int))))&&decide True)=true:=by simp only[Ea,Jb];refine⟨?_,trivial⟩;omega
    have hts:trimS l=trimB (l.drop f):=by unfold trimS;rw[<-Fz isSp l,hf]
    simp only[hneed,zV,Eb,hcut,jE (Yb (bi ((Cm _).trans (List.drop_sublist _ _))) h),Aa,hts]
 grind
def Vf(k:Int)(a:List (List zf)×List zf)(v:zf):List (List zf)×List zf:=
 if v.token.kind==k then(a.1++[a.2],[])else(a.1,a.2++[v])
def Rf(k:Int)(l:List zf):List (List zf)×List zf:=l.foldl (Vf k) ([],[])
def Sg(k:Int)(l:List zf):List (List zf):=(Rf k l).1++[(Rf k l).2]
theorem U2{k:Int}{l:List zf}{i:Nat}(h:i<l.length):Rf k (l.take (i+1))=Vf k (Rf k (l.take i)) l[i]:=by unfold Rf;rw[Tc h,List.foldl_append];rfl
theorem LQ(a b:List (List zf)):szP (a++b)=szP a+szP b:=by
 induction a with
 |nil=>simp[szP]
 |cons x a c=>simp only[Sa,szP,c];omega
theorem OH(a b:List zf):szL (a++b)=szL a+szL b:=by
 induction a with
 |nil=>simp[szL]
 |cons x a c=>simp only[Sa,szL,c];omega
theorem wz(k:Int): ∀(l:List zf) (a:List (List zf)×List zf),szP (l.foldl (Vf k) a).1+szL (l.foldl (Vf k) a).2<=szP a.1+szL a.2+szL l/\(l.foldl (Vf k) a).1.length<=a.1.length+l.length/\(l.foldl (Vf k) a).2.length<=a.2.length+l.length
 |[],a=>by simp[szL]
 |v::l,a=>by
  rw[Yc];obtain⟨e,c,b⟩:=wz k l (Vf k a v);have d:=yg v;have:szP (Vf k a v).1+szL (Vf k a v).2<=szP a.1+szL a.2+szV v/\(Vf k a v).1.length<=a.1.length+1/\(Vf k a v).2.length<=a.2.length+1:=by
   unfold Vf;split
   ·simp only[LQ,szP,szL,Ka,Ja,Pb];omega
   ·simp only[OH,szL,Ka,Ja,Pb];omega
  rw[szL,Ja];omega
theorem zAd(k:Int)(l:List zf):szP (Sg k l)<=szL l+1:=by obtain⟨c,_,_⟩:=wz k l ([],[]);unfold Sg Rf;rw[LQ,szP,szP];have b:szP ([]:List (List zf))=0:=rfl;have a:szL ([]:List zf)=0:=rfl;simp only[b,a]at c;omega
theorem V3{l:List zf}{k:Int}(h:szL l<=big):Yw (l,k)=some (if errS l=0 then(if k<1\/24<k then([],2)else(Sg k l,0))else([],errS l)):=by
 unfold Yw;have hlen:=QV l;simp only[zb,RB h,Aa];by_cases h1:errS l=0
 ·have hne:(errS l != 0)=false:=by simp[h1]
  rw[Ha h1];simp only[hne,Ba,nL];by_cases h2:k<1\/24<k
  ·have:(decide (k<1)||decide (k>24))=true:=by simpa using h2
   rw[Ha h2,this];rfl
  ·have:(decide (k<1)||decide (k>24))=false:=by rw[Lc];exact⟨Ya (by omega),Ya (by omega)⟩
   rw[Ga h2,this];simp only[Ba];refine(Qt (r:= .out (((l.length - (Rf k l).2.length:Nat):Int),(Rf k l).1)) (ZT (fun s=> ∃i from_:Nat,s=(((from_:Int),(i:Int)),(Rf k (l.take i)).1)/\from_<=i/\i<=l.length/\(Rf k (l.take i)).2=(l.take i).drop from_) (fun s=>l.length - s.1.2.toNat) _ (fun s hs=> ?_) ⟨0,0,by simp[Rf],Xa _,Dc _,by simp[Rf]⟩)).trans ?_
   ·obtain⟨i,fr,rfl,hfi,hil,he⟩:=hs;by_cases hi:i<l.length
    ·refine .inl ?_;have hw:=Zy hi (by unfold big at h ⊢;omega);have hpt:=U2 (k:=k) hi;have htk:l.take (i+1)=l.take i++[l[i]]:=Tc hi;unfold Vf at hpt;simp only[ql hi,Da,ZA hi,Aa];cases hv:(l[i].token.kind==k)with
     |true=>
      rw[Ha hv]at hpt;have hn:(decide ((0:Int)<=(fr:Int))&&(decide ((fr:Int)<=(i:Int))&&(decide ((i:Int)<=(i:Int))&&decide ((i:Int)<=(l.length:Int))))&&decide True)=true:=by simp only[Ea,Jb];refine⟨?_,trivial⟩;omega
      have hsz:szL (List.drop fr (List.take i l))<=big:=Yb (bi ((List.drop_sublist _ _).trans (List.take_sublist _ _))) h;have hpl:=(wz k (l.take i) ([],[])).2.1;have hap:zH (Rf k (l.take i)).1.length 1 24=true:=mi (by
       unfold Rf;have:=List.length_take_le i l;unfold big at h;simp only[Pb]at hpl;omega)
      refine⟨((((i+1:Nat):Int),((i+1:Nat):Int)),(Rf k (l.take (i+1))).1),?_,⟨i+1,i+1,rfl,Xa _,hi,?_⟩,?_⟩
      ·simp only[Da,hn,zV,Eb,jE hsz,Aa,hap,hw,zh,hpt,he]
      ·rw[hpt];simp
      ·simp only[Eb];omega
     |false=>
      rw[Ga (by rw[hv];simp)]at hpt;refine⟨(((fr:Int),((i+1:Nat):Int)),(Rf k (l.take (i+1))).1),?_,⟨i+1,fr,rfl,by omega,hi,?_⟩,?_⟩
      ·simp only[Ba,zh,hw,hpt]
      ·rw[hpt,htk,he,Ag (by rw[lc];omega)]
      ·simp only[Eb];omega
    ·have hil:i=l.length:=by omega
     subst hil;rw[bf]at he ⊢;refine .inr (.inl ⟨((fr:Int),(Rf k l).1),by simp only[Ki,Ba],?_⟩);rw[he,Ub];congr 2;omega
   ·rw[zkH]
    -- the last part is behind
    have key: ∀(m:List zf) (a:List (List zf)×List zf) (p:List zf),a.2<:+p->(m.foldl (Vf k) a).2<:+p++m:=by
     intro m
     induction m with
     |nil=>intro a p h;simpa using h
     |cons v m ih=>
      intro a p h;rw[Yc];have:(Vf k a v).2<:+p++[v]:=by
       unfold Vf;split
       ·exact List.nil_suffix
       ·obtain⟨q,hq⟩:=h;exact⟨q,by rw[<-hq,La]⟩
      have:=ih _ _ this
      rwa [La]at this
    have hsuf:=key l ([],[]) [] (Te _);rw[Ob]at hsuf;have hdr:List.drop (l.length - (Rf k l).2.length) l=(Rf k l).2:=by unfold Rf;exact(List.suffix_iff_eq_drop.1 hsuf).symm
    have hsz:szL (Rf k l).2<=big:=by have:=bi hsuf.sublist;unfold Rf;omega
    have hle:(Rf k l).2.length<=l.length:=by unfold Rf;exact hsuf.length_le
    have hn:(decide ((0:Int)<=((l.length - (Rf k l).2.length:Nat):Int))&&decide (((l.length - (Rf k l).2.length:Nat):Int)<=(l.length:Int)))=true:=by simp only[Ea,Jb];omega
    have hpl:=(wz k l ([],[])).2.1;have hap:zH (Rf k l).1.length 1 24=true:=mi (by
     unfold Rf;unfold big at h;simp only[Pb]at hpl;omega)
    simp only[hn,zV,Eb,hdr,jE hsz,Aa,hap];rfl
 ·have h2:(errS l != 0)=true:=Ue.2 h1;rw[Ga h1];simp only[h2,Da]
end Go.Lv.VT

namespace Go.Lv
theorem Le.lp{S X R:Type}{step step':S->Option (LO S X R)}{s:S}{k k':X->Option R}(h: ∀s,Le (step s) (step' s))(hk: ∀x,Le (k x) (k' x)):Le (Zf step s k) (Zf step' s k'):=by
 intro y hy;unfold Zf at hy;cases hl:Jg step s with
 |none=>rw[hl]at hy;cases hy
 |some r=>
  rw[hl]at hy;obtain⟨n,hn⟩:=xP hl;rw[Qt (di (tF h n s r hn))];cases r with
  |out x=>exact hk x y hy
  |ret r=>exact hy
def jV{X Y:Type}(B:(X->Option Y)->X->Option Y):Prop:= ∀S S':X->Option Y,(∀x,Le (S x) (S' x))-> ∀x,Le (B S x) (B S' x)
theorem zBi {X Y:Type} {B:(X->Option Y)->X->Option Y} (hm:jV B) (μ:X->Nat) (ok:X->Prop) (R:X->Y->Prop)
  (hB: ∀(S:X->Option Y) (x:X),ok x->(∀z,ok z->μ z<μ x-> ∃y,S z=some y/\R z y)-> ∃y,B S x=some y/\R x y) {x:X} (hx:ok x): ∃y,recE B x=some y/\R x y:=by
 have step: ∀n x,Le (Pg B n x) (Pg B (n+1) x):=by
  intro n
  induction n with
  |zero=>intro x;exact Le.none
  |succ n ih=>intro x;exact hm _ _ ih x
 have up: ∀d n x,Le (Pg B n x) (Pg B (n+d) x):=by
  intro d
  induction d with
  |zero=>intro n x;exact Le.rfl
  |succ d ih=>intro n x y hy;exact step _ x y (ih n x y hy)
 have key: ∀(m:Nat) (x:X),μ x<m->ok x-> ∃y,Pg B m x=some y/\R x y:=by
  intro m
  induction m with
  |zero=>intro x h;omega
  |succ m ih=> intro x hm hok;exact hB _ x hok fun z hz hlt=>ih z (by omega) hz
 obtain⟨y,h1,h2⟩:=key (μ x+1) x (by omega) hx;refine⟨y,vE (N:=μ x+1) fun n hn=> ?_,h2⟩;obtain⟨d,rfl⟩:=Nat.le.dest hn;exact up d _ x y h1
theorem zAL {A S X R:Type} {step:S->Option (LO S X R)} {k:X->Option R} (n:Nat) (st:Nat->A->S) (Inv:Nat->A->Prop) (Q:R->Prop) {s0:S} {a0:A} (h0:s0=st 0 a0) (hI:Inv 0 a0)
  (hg: ∀(i:Nat) (a:A),i<n->Inv i a->(∃a',step (st i a)=some (.again (st (i+1) a'))/\Inv (i+1) a')\/(∃r,step (st i a)=some (.ret r)/\Q r)\/(∃x,step (st i a)=some (.out x)/\ ∃r,k x=some r/\Q r))
  (hf: ∀a,Inv n a->(∃x,step (st n a)=some (.out x)/\ ∃r,k x=some r/\Q r)\/(∃r,step (st n a)=some (.ret r)/\Q r)): ∃r,Zf step s0 k=some r/\Q r:=by
 have key: ∀(m i:Nat) (a:A),i+m=n->Inv i a-> ∃j x,qI step j (st i a)=some x/\ ∃r,LX.go x k=some r/\Q r:=by
  intro m
  induction m with
  |zero=>
   intro i a hi ha;obtain rfl:i=n:=by omega
   rcases hf a ha with⟨x,h1,r,h2,h3⟩|⟨r,h1,h2⟩
   ·exact⟨1, .out x,by simp only[qI,h1],r,h2,h3⟩
   ·exact⟨1, .ret r,by simp only[qI,h1],r,rfl,h2⟩
  |succ m ih=>
   intro i a hi ha;rcases hg i a (by omega) ha with⟨a',h1,h2⟩|⟨r,h1,h2⟩|⟨x,h1,r,h2,h3⟩
   ·obtain⟨j,x,g1,g2⟩:=ih (i+1) a' (by omega) h2;exact⟨j+1,x,by simp only[qI,h1];exact g1,g2⟩
   ·exact⟨1, .ret r,by simp only[qI,h1],r,rfl,h2⟩
   ·exact⟨1, .out x,by simp only[qI,h1],r,h2,h3⟩
 obtain⟨j,x,h1,r,h2,h3⟩:=key n 0 a0 (by omega) hI;refine⟨r,?_,h3⟩;rw[h0,Qt (di h1),h2]
namespace VT
def mx{α:Type}(f:α->Nat):List α->Nat
 |[]=>0
 |v::l=>max (f v) (mx f l)
end VT
end Go.Lv

namespace Go.Lv.VT
set_option maxRecDepth 100000
theorem zmF:jV Dt:=by intro qV ref04_Size' h_ref04_Size x;unfold Dt;exact(.lp (fun _=>(.bif (.bind .rfl fun _=>(.bind .rfl fun _=>(.bind .rfl fun _=>(.bind (h_ref04_Size _) fun _=> .rfl)))) .rfl)) fun _=> .rfl)
theorem zBj{a:List zf}(h:szL a<=big):Sj (a,a)=some true:=by
 refine Vk (fun x:List zf×List zf=>szL x.1) (fun x=>szL x.1<=big/\x.1=x.2) (fun x=>true) (fun S x d k=> ?_) (show szL (a,a).1<=big/\(a,a).1=(a,a).2 from⟨h,rfl⟩);obtain⟨l,p⟩:=x;obtain⟨d,m⟩:=d;simp only at d k m;subst m;unfold aB;have j:=QV l;have c:((l.length:Int) != (l.length:Int))=false:=by simp
 simp only[c,Ba];refine(EA l (fun i (_:Unit)=>(i:Int)) (fun v (_:Unit)=>some (.again ())) (fun _=>some (.out ())) (a:=()) rfl (fun i a b=> ?_) (fun a=> ?_) (r:= .out ()) ?_)
 ·have n:=Mi (Ic b);have o:=yg l[i];have e:szL l[i].list<=big:=by omega
  have g:szL l[i].list<szL l:=by omega
  have f:S (l[i].list,l[i].list)=some true:=k (l[i].list,l[i].list) ⟨e,rfl⟩ g;simp[b,ZA b,f,Zy b (by omega)]
 ·grind
 ·rw[Xk (fun a v=>a) (fun v a=>rfl)]
inductive Cuts (k:Int):List zf->List (List zf)->Prop
 |one (p:List zf) (h: ∀x∈p,(x.token.kind==k)=false):Cuts k p [p]
 |more (p:List zf) (s:zf) (v:List zf) (ps:List (List zf)) (h: ∀x∈p,(x.token.kind==k)=false) (hs:(s.token.kind==k)=true) (hc:Cuts k v ps):Cuts k (p++s::v) (p::ps)
theorem TQ(d:List zf): ∃r,d=trimB d++r/\(∀x∈r,isSp x=true)/\(trimB d=[]\/ ∃t v,trimB d=t++[v]/\isSp v=false):=by
 induction hn:d.length generalizing d with
 |zero=>
  obtain rfl:=Ye.1 hn;exact⟨[],rfl,fun x hx=>(by cases hx), .inl rfl⟩
 |succ n ih=>
  rcases QD d with rfl|⟨t,v,rfl⟩
  ·cases hn
  ·rw[QX];cases hv:isSp v with
   |true=>
    rw[Ha rfl];obtain⟨r,h1,h2,h3⟩:=ih t (by rw[Ka]at hn;simpa using hn);refine⟨r++[v],by rw[<-La,<-h1],fun x hx=> ?_,h3⟩;rcases Nc.1 hx with hx|hx
    ·exact h2 x hx
    ·rw[Gc.1 hx];exact hv
   |false=> rw[Ga (by decide)];exact⟨[],(Ra _).symm,fun x hx=>(by cases hx), .inr ⟨t,v,rfl,hv⟩⟩
theorem eH: ∀(v:List zf),∃a,v=a++v.dropWhile isSp/\(∀x∈a,isSp x=true)/\ ∀x b,v.dropWhile isSp=x::b->isSp x=false
 |[]=>⟨[],rfl,fun x hx=>(by cases hx),fun x b h=>(by cases h)⟩
 |y::v=>by
  obtain⟨a,h1,h2,h3⟩:=eH v;cases hy:isSp y with
  |true=>
   rw[List.dropWhile_cons_of_pos hy];refine⟨y::a,by rw[Sa,<-h1],fun x hx=> ?_,h3⟩;rcases Fb.1 hx with rfl|hx
   ·exact hy
   ·exact h2 x hx
  |false=> rw[List.dropWhile_cons_of_neg (by rw[hy];decide)];exact⟨[],rfl,fun x hx=>(by cases hx),fun x b h=>(by cases h;exact hy)⟩
end Go.Lv.VT
