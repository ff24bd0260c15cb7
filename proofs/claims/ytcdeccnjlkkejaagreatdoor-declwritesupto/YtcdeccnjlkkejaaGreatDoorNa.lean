/- How large values are. -/
import Derived.Test.YtcdeccnjlkkejaaGreatDoorIp
import Derived.Test.YtcdeccnjlkkejaaGreatDoorLaw
import Derived.Test.YtcdeccnjlkkejaaGreatDoorLf
import Derived.Test.YtcdeccnjlkkejaaGreatDoorMo
import Derived.Test.YtcdeccnjlkkejaaGreatDoorTx
import Derived.KernelRfl
set_option linter.unusedSimpArgs false
set_option linter.unusedVariables false
namespace Go.Lv.VT
def zL{α:Type}(f:α->List PV)(l:List α):Nat:=Em (l.map f)
theorem eD{α:Type}(f:α->List PV)(v:α)(l:List α):zL f (v::l)=Qc (f v)+zL f l:=rfl
theorem GJ{α:Type}{f:α->List PV}{v:α}: ∀{l:List α},v∈l->Qc (f v)<=zL f l
 |[],h=>by cases h
 |x::l,h=>by
  rw[eD];rcases Nb.1 h with rfl|h
  ·omega
  ·have:=GJ (f:=f) h;omega
theorem YI{α:Type}{f:α->List PV}(a: ∀v,1<=Qc (f v)): ∀(l:List α),l.length<=zL f l
 |[]=>aa _
 |v::l=>by rw[eD,Ia];have:=YI a l;grind
theorem mX(x:zg):Qc (Zp x)=6+x.token.text.length+x.token.unit.length+zL Zp x.list:=by rw[p8];simp only[Qc,bPV,zL];omega
mutual
/-- How large values are. -/
def szV:zg->Nat
 |⟨t,l⟩=>1+t.text.length+t.unit.length+szL l
def szL:List zg->Nat
 |[]=>0
 |v::r=>szV v+szL r
end
theorem Ri(v:zg):szV v=1+v.token.text.length+v.token.unit.length+szL v.list:=by obtain⟨t,l⟩:=v;rw[szV]
theorem Cj{v:zg}: ∀{l:List zg},v∈l->szV v<=szL l
 |[],h=>by cases h
 |x::l,h=>by
  rw[szL];rcases Nb.1 h with rfl|h
  ·omega
  ·have:=Cj h;omega
theorem dh: ∀(l:List zg),l.length<=szL l
 |[]=>aa _
 |v::r=>by rw[szL,Ri,Ia];have:=dh r;omega
theorem Oy(n:Nat):decide ((n:Int)>0)=decide (0<n):=by
 grind
theorem fG(k:Int):Qm k=some (ZG k):=by
 unfold Qm ZG;by_cases b:k=19
 ·subst b;rfl
 by_cases d:k=21
 ·subst d;rfl
 by_cases c:k=2
 ·subst c;rfl
 by_cases a:k=23
 ·subst a;rfl
 have g:(k==19)=false:=Ha.2 b;have h:(k==21)=false:=Ha.2 d;have e:(k==2)=false:=Ha.2 c;have f:(k==23)=false:=Ha.2 a;simp only[g,h,e,f,Ba,zh,b,d,c,a,Ad,or_self]
theorem mH(k:Int):QF k=some (ZG k):=by
 unfold QF ZG;by_cases b:k=19
 ·subst b;rfl
 by_cases d:k=21
 ·subst d;rfl
 by_cases c:k=2
 ·subst c;rfl
 by_cases a:k=23
 ·subst a;rfl
 have g:(k==19)=false:=Ha.2 b;have h:(k==21)=false:=Ha.2 d;have e:(k==2)=false:=Ha.2 c;have f:(k==23)=false:=Ha.2 a;simp only[g,h,e,f,Ba,zh,b,d,c,a,Ad,or_self]
mutual
/-- The depth of values. -/
def Ki:zg->Nat
 |⟨t,l⟩=>if ZG t.kind=0 then 0 else 1+Rf l
def Rf:List zg->Nat
 |[]=>0
 |v::r=>max (Ki v) (Rf r)
end
theorem sM(v:zg):Ki v=if ZG v.token.kind=0 then 0 else 1+Rf v.list:=by obtain⟨t,l⟩:=v;rw[Ki]
mutual
theorem rV: ∀v:zg,Ki v<=szV v
 |⟨t,l⟩=>by rw[Ki,szV];have:=gz l;split<;>omega
theorem gz: ∀l:List zg,Rf l<=szL l
 |[]=>aa _
 |v::r=>by rw[Rf,szL];have:=rV v;have:=gz r;omega
end
theorem aN(f:zg->Nat): ∀(l:List zg) (a:Nat),l.foldl (fun a v=>max a (f v)) a=max a (l.foldr (fun v a=>max (f v) a) 0)
 |[],a=>by simp
 |v::l,a=>by rw[Bg,aN f l,List.foldr_cons];omega
theorem uM: ∀(l:List zg),Rf l=l.foldr (fun v a=>max (Ki v) a) 0
 |[]=>by rw[Rf];rfl
 |v::l=>by rw[Rf,uM l];rfl
theorem vL{l:List zg}(h:szL l<=big):Qf l=some (Rf l:Int):=by
 refine Kk (fun l=>szL l) (fun l=>szL l<=big) (fun l=>(Rf l:Int)) (fun S l n j=> ?_) h;unfold iA;have e:=dh l;refine(IL l (fun i (a:Nat)=>((a:Int),(i:Int))) (fun v a=>some (.again (max a (Ki v)))) (fun a=>some (.out (a:Int))) (a:=0) rfl (fun i a b=> ?_) (fun a=> ?_) (r:= .out (Rf l:Int)) ?_)
 ·have f:=Cj (Ac b);have k:=Ri l[i];have c:=sM l[i];have g:=gz l[i].list;simp only[qD b,Ca,zb,Zo b,Aa,fG];by_cases d:ZG l[i].token.kind=0
  ·rw[Ka d]at c;simp[d,c,ZC b (by omega)]
  ·rw[Ja d]at c;rw[j l[i].list (by omega) (by omega)];have m:w64 (1+(Rf l[i].list:Int))=((1+Rf l[i].list:Nat):Int):=by rw[w64,qJ (by omega) (by grind)];omega
   simp only[bne_iff_ne.2 d,Ca,Aa,zh,ZC b (by omega),m,c,Gd]
   grind
 ·grind
 ·rw[tq (fun a v=>max a (Ki v)) (fun v a=>rfl),aN,<-uM];simp
theorem Yu{l:List zg}: ∀{i:Nat} (h:i<l.length),szL (l.take (i+1))=szL (l.take i)+szV l[i]:=by
 induction l with
 |nil=>grind
 |cons v r a=>
  intro i h;cases i with
  |zero=>simp[szL]
  |succ i=>
   simp only[He,szL,List.getElem_cons_succ]
   grind
theorem Uv(l:List zg)(i:Nat):szL (l.take i)<=szL l:=by
 induction l generalizing i with
 |nil=>simp
 |cons v r a=>
  cases i with
  |zero=>simp[szL]
  |succ i=>simp only[He,szL];grind
mutual
/-- The tokens of values. -/
def tokV:zg->List ze
 |⟨t,l⟩=>t::if ZG t.kind=0 then []else tokL l++[⟨ZG t.kind,[],0,[],false⟩]
def tokL:List zg->List ze
 |[]=>[]
 |v::r=>tokV v++tokL r
end
theorem Wy(v:zg):tokV v=v.token::if ZG v.token.kind=0 then []else tokL v.list++[⟨ZG v.token.kind,[],0,[],false⟩]:=by obtain⟨t,l⟩:=v;rw[tokV]
mutual
theorem Du: ∀v:zg,(tokV v).length<=2*szV v
 |⟨t,l⟩=>by
  rw[tokV,szV];have:=om l
  grind
theorem om: ∀l:List zg,(tokL l).length<=2*szL l
 |[]=>aa _
 |v::r=>by rw[tokL,szL,Ga];have:=Du v;have:=om r;omega
end
theorem uz: ∀(l:List zg) (a:List ze),l.foldl (fun a v=>a++tokV v) a=a++tokL l
 |[],a=>by simp[tokL]
 |v::l,a=>by rw[Bg,uz l,tokL,Oa]
theorem eG{l:List zg}(h:szL l<=big):ZB l=some (tokL l):=by
 refine Kk (fun l=>szL l) (fun l=>szL l<=big) (fun l=>tokL l) (fun S l j o=> ?_) h;unfold rA;have f:=dh l;refine(ku l (fun i (a:List ze)=>((i:Int),a)) (fun v a=>some (.again (a++tokV v))) (fun a=>some (.out a)) (fun i a=>a.length<=2*szL (l.take i)) (a:=[]) rfl (by simp) (fun i a c u=> ?_) (fun a _=> ?_) (r:= .out (tokL l)) ?_)
 ·have g:=Cj (Ac c);have t:=Ri l[i];have d:=Wy l[i];have k:=om l[i].list;have w:=Yu c;have q:=Uv l (i+1);have s:=Du l[i];unfold big at j;have b: ∀n m:Nat,n+m<=100000000->Zc n m 56=true:=fun n m h=>pz (by omega);refine⟨?_,fun x y=> ?_⟩
  ·simp only[qD c,Ca,zb,Zo c,Aa,fG];by_cases e:ZG l[i].token.kind=0
   ·rw[Ka e]at d;simp[e,d,ZC c (by unfold big;omega),b a.length 1 (by omega)]
   ·rw[Ja e]at d;rw[o l[i].list (by unfold big;omega) (by omega)];have p:(ZG l[i].token.kind != 0)=true:=bne_iff_ne.2 e;simp[p,d,ZC c (by unfold big;omega),b a.length 1 (by omega),b (a.length+1) (tokL l[i].list).length (by omega),b (a.length+((tokL l[i].list).length+1)) 1 (by omega)]
  ·grind
 ·grind
 ·rw[tq (fun a v=>a++tokV v) (fun v a=>rfl),uz];simp
mutual
/-- Whether lists are those of blocks, and have not their closers. -/
def shV:zg->Int->Bool
 |⟨t,l⟩,c=> !((ZG t.kind==0&&decide (0<l.length))||(c != 0&&t.kind==c)||(ZG t.kind != 0&& !(shL l (ZG t.kind))))
def shL:List zg->Int->Bool
 |[],_=>true
 |v::r,c=>shV v c&&shL r c
end
theorem lI(v:zg)(c:Int):shV v c= !((ZG v.token.kind==0&&decide (0<v.list.length))||(c != 0&&v.token.kind==c)||(ZG v.token.kind != 0&& !(shL v.list (ZG v.token.kind)))):=by obtain⟨t,l⟩:=v;rw[shV]
theorem bZ{l:List zg}{c:Int}(h:szL l<=big):qP (l,c)=some (shL l c):=by
 refine Kk (fun x:List zg×Int=>szL x.1) (fun x=>szL x.1<=big) (fun x=>shL x.1 x.2) (fun S x A q=> ?_) h;obtain⟨l,c⟩:=x;simp only at A q ⊢;unfold nA;have m:=dh l;have f: ∀l:List zg,Vh (fun v (_:Unit)=>if shV v c=true then some (.again ())else some (.ret false)) (fun _=>some (.out ())) l ()=some (if shL l c=true then .out ()else .ret false):=by
  intro l
  induction l with
  |nil=>simp[Vh,shL]
  |cons v r y=>
   by_cases n:shV v c=true
   ·simpa [Vh,shL,n] using y
   ·simp[Vh,shL,n]
 refine(IL l (fun i (_:Unit)=>(i:Int)) (fun v (_:Unit)=>if shV v c=true then some (.again ())else some (.ret false)) (fun _=>some (.out ())) (a:=()) rfl (fun i a d=> ?_) (fun a=> ?_) (f l)).trans ?_
 ·have C:=Cj (Ac d);have w:=Ri l[i];have z:=lI l[i] c;simp only[qD d,Ca,zb,Zo d,Aa,fG];have g:szL l[i].list<=big:=by omega
  have j:szL l[i].list<szL l:=by omega
  have e: ∀b,S (l[i].list,b)=some (shL l[i].list b):=fun b=>q (l[i].list,b) g j;rw[z];have o:decide ((l[i].list.length:Int)>0)=decide (0<l[i].list.length):=Oy _;have B:=ZC d (by omega);simp only[bne,o];rcases Xc (ZG l[i].token.kind==0)with k|k<;>rcases Xc (decide (0<l[i].list.length))with u|u<;>rcases Xc (c==0)with s|s<;>rcases Xc (l[i].token.kind==c)with p|p<;>rcases Xc (shL l[i].list (ZG l[i].token.kind))with t|t<;>
   simp only[e,o,k,u,s,p,t,B,Ca,Ba,Ya,Va,Lb,lc,ma,Pb,Xe,Be,Wd,Gc,zx,zP,Aa,Md,Ad,Gd,Sb]
 ·grind
 ·cases h:shL l c<;>simp
def Um(l:List zg)(c:Int):zT:=⟨Rf l,(tokL l).length, !(shL l c)⟩
theorem wN(c:Int): ∀(l:List zg) (a:Nat×Nat×Bool),l.foldl (fun a v=>(max a.1 (Ki v),a.2.1+(tokV v).length,a.2.2|| !(shV v c))) a=(max a.1 (Rf l),a.2.1+(tokL l).length,a.2.2|| !(shL l c))
 |[],a=>by simp[Rf,tokL,shL]
 |v::l,a=>by
  rw[Bg,wN c l,Rf,tokL,shL,Ga];simp only[Prod.mk.injEq]
  grind
theorem YK(a b:Bool):(bif a then true else b)=(a||b):=by cases a<;>rfl
theorem xV(a b:Bool):(bif a then b else false)=(a&&b):=by cases a<;>rfl
theorem R4{l:List zg}{c:Int}(h:szL l<=big):Ij (l,c)=some (Um l c):=by
 refine Kk (fun x:List zg×Int=>szL x.1) (fun x=>szL x.1<=big) (fun x=>Um x.1 x.2) (fun S x C E=> ?_) h;obtain⟨l,c⟩:=x;simp only at C E ⊢;unfold bA;have B:=dh l;refine(ku l (fun i (a:Nat×Nat×Bool)=>((i:Int),(⟨(a.1:Int),(a.2.1:Int),a.2.2⟩:zT))) (fun v a=>some (.again (max a.1 (Ki v),a.2.1+(tokV v).length,a.2.2|| !(shV v c)))) (fun a=>some (.out (⟨(a.1:Int),(a.2.1:Int),a.2.2⟩:zT))) (fun i a=>a.2.1<=2*szL (l.take i)) (a:=(0,0,false)) rfl (by simp) (fun i a j J=> ?_) (fun a _=> ?_) (r:= .out (Um l c)) ?_)
 ·have N:=Cj (Ac j);have H:=Ri l[i];have m:=sM l[i];have O:=gz l[i].list;have o:=Wy l[i];have P:=om l[i].list;have e:=lI l[i] c;have K:=Yu j;have G:=Uv l (i+1);have Q:=Du l[i];have w:szL l[i].list<=big:=by omega
  have y:szL l[i].list<szL l:=by omega
  have p:S (l[i].list,ZG l[i].token.kind)=some (Um l[i].list (ZG l[i].token.kind)):=E (l[i].list,ZG l[i].token.kind) w y;obtain⟨d,n,b⟩:=a;simp only at J;have D:=ZC j (by omega);unfold big at C;have u:w64 ((n:Int)+1)=((n+1:Nat):Int):=by rw[w64,qJ (by omega) (by omega)];omega
  refine⟨?_,fun R T=> ?_⟩
  ·have L:decide ((l[i].list.length:Int)>0)=decide (0<l[i].list.length):=Oy _;simp only[qD j,Ca,zb,Zo j,Aa,mH,Gd,u,bne,L,YK,xV];by_cases k:ZG l[i].token.kind=0
   ·rw[Ka k]at m o;simp only[k,df,ma,Ya,Pb,Be,bne]at e ⊢;rw[e,m,o];rcases Xc (decide (0<l[i].list.length))with F|F<;>rcases Xc (c==0)with g|g<;>rcases Xc (l[i].token.kind==c)with f|f<;>
     simp[F,g,f,D,Ca,Ba]
   ·rw[Ja k]at m o;have s:(ZG l[i].token.kind==0)=false:=Ha.2 k;have z:w64 ((Rf l[i].list:Int)+1)=((1+Rf l[i].list:Nat):Int):=by rw[w64,qJ (by omega) (by omega)];omega
    have t:w64 (((n+1:Nat):Int)+((tokL l[i].list).length:Int))=((n+1+(tokL l[i].list).length:Nat):Int):=by rw[w64,qJ (by omega) (by omega)];omega
    have A:w64 (((n+1+(tokL l[i].list).length:Nat):Int)+1)=((n+(1+((tokL l[i].list).length+1)):Nat):Int):=by rw[w64,qJ (by omega) (by omega)];omega
    have q:(tokV l[i]).length=1+((tokL l[i].list).length+1):=by rw[o];simp;omega
    have M:(if((1+Rf l[i].list:Nat):Int)>(d:Int)then((1+Rf l[i].list:Nat):Int)else(d:Int))=((max d (1+Rf l[i].list):Nat):Int):=by split<;>omega
    rw[e,m,q];simp only[s,p,Pb,Va,ma,Be,Gc,Ba,bne,Aa,Um];rcases Xc (c==0)with g|g<;>rcases Xc (l[i].token.kind==c)with f|f<;>
     simp only[g,f,D,z,t,A,M,Ca,Ba,zh,Ya,Va,ma,Lb,lc,Pb,Xe,Be,Wd,Gc,Bool.not_not]
  grind
 ·grind
 ·rw[tq (fun a v=>(max a.1 (Ki v),a.2.1+(tokV v).length,a.2.2|| !(shV v c))) (fun v a=>rfl),wN];simp[Um]
theorem tJ{a b:List zg}(h:a.Sublist b):szL a<=szL b:=by
 induction h with
 |slnil=>grind
 |cons v _ c=>rw[szL];omega
 |cons_cons v _ c=>rw[szL,szL];omega
theorem kG(l:List zg):l=[]\/ ∃t v,l=t++[v]:=by
 rcases List.eq_nil_or_concat l with h|⟨t,v,h⟩
 ·exact .inl h
 grind
def isSp(v:zg):Bool:=v.token.kind==13
def trimB(l:List zg):List zg:=(l.reverse.dropWhile isSp).reverse
theorem OA(t:List zg)(v:zg):trimB (t++[v])=if isSp v then trimB t else t++[v]:=by
 unfold trimB;rw[List.reverse_append];simp only[List.reverse_cons,List.reverse_nil,Ub,Xa,yc]
 grind
theorem WX(l:List zg):(trimB l).Sublist l:=by
 unfold trimB
 grind
def trimS(l:List zg):List zg:=trimB (l.dropWhile isSp)
theorem sZ{l:List zg}(h:szL l<=big):Kw l=some (trimS l):=by
 unfold Kw;refine(Ci (r:= .out (l.dropWhile isSp)) (Zv (fun s=>s.dropWhile isSp=l.dropWhile isSp) (fun s=>s.length) _ (fun s c=> ?_) rfl)).trans ?_
 ·cases s with
  |nil=>simp_all
  |cons v t=>
   have e:decide (((v::t).length:Int)>0)=true:=by rw[Oy];simp
   have f:geti (v::t) 0=some v:=rfl;have n:decide ((1:Int)<=((v::t).length:Int))=true:=by simp;omega
   rw[yc]at c;cases b:isSp v with
   |true=> rw[b]at c;unfold isSp at b;simp_all
   |false=> rw[b]at c;unfold isSp at b;refine .inr (.inl ⟨v::t,?_,by rw[<-c];rfl⟩);simp only[e,f,zx,zb,Aa,b,Ca,Ba]
 ·rw[zy8];have i:szL (l.dropWhile isSp)<=big:=Ic (tJ (List.dropWhile_sublist _)) h;unfold trimS;generalize l.dropWhile isSp=d at i;refine(Ci (r:= .out (trimB d)) (Zv (fun s=>trimB s=trimB d/\szL s<=big) (fun s=>s.length) _ (fun s c=> ?_) ⟨rfl,i⟩)).trans ?_
  ·rcases kG s with rfl|⟨t,v,rfl⟩
   ·exact .inr (.inl ⟨[],by simp,by rw[<-c.1];rfl⟩)
   ·have g:=dh (t++[v]);have k:(t++[v]).length=t.length+1:=by simp
    have m:=c.2;unfold big at m;have e:decide (((t++[v]).length:Int)>0)=true:=by rw[Oy];simp
    have j:w64 (((t++[v]).length:Int) - 1)=(t.length:Int):=by rw[w64,qJ (by omega) (by omega)];omega
    have f:geti (t++[v]) (t.length:Int)=some v:=by rw[Zo (by omega)];simp
    have n:(decide ((0:Int)<=(t.length:Int))&&decide ((t.length:Int)<=((t++[v]).length:Int)))=true:=by simp;omega
    have a:=c.1;rw[OA]at a;cases b:isSp v with
    |true=> rw[Ka b]at a;unfold isSp at b;refine .inl ⟨t,?_,⟨a,Ic (tJ (List.sublist_append_left t [v])) c.2⟩,by simp⟩;simp_all
    |false=> rw[Ja (by rw[b];simp)]at a;unfold isSp at b;refine .inr (.inl ⟨t++[v],?_,by rw[<-a]⟩);simp only[e,j,f,zx,zb,Aa,b,Ca,Ba]
  ·rw[zy8]
def errS(l:List zg):Int:=if 16<Rf l then 20 else if 1500<(tokL l).length then 4 else if shL l 0 then 0 else 8
theorem FX{l:List zg}(h:szL l<=big):Wv l=some (errS l):=by
 unfold Wv errS;simp only[zb,vL h,eG h,bZ h,Aa]
 grind
theorem tO{l:List zg}(h:szL l<=big):bn l=some (errS l):=by
 unfold bn errS;simp only[zb,R4 h,Aa,Um]
 grind
theorem zCD: ∀l:List zg,szL l<=zL Zp l:=by
 have a: ∀(n:Nat) (l:List zg),zL Zp l<n->szL l<=zL Zp l:=by
  intro n
  induction n with
  |zero=>intro l h;omega
  |succ n d=>
   intro l
   induction l with
   |nil=>intro _;rw[szL];grind
   |cons v l b=>
    intro h;rw[eD]at h ⊢;rw[szL,Ri];have c:=mX v
    grind
 grind
theorem gV{l:List zg}{a:List ze}(h:szL l<=big)(e:a.length+2*szL l<=4*big):Qq (l,a)=some (a++tokL l):=by
 refine Kk (fun z=>szL z.1) (fun z=>szL z.1<=big/\z.2.length+2*szL z.1<=4*big) (fun z=>z.2++tokL z.1) (fun S z q s=> ?_) (x:=(l,a)) ⟨h,e⟩;obtain⟨l,a⟩:=z;obtain⟨h,e⟩:=q;have h:szL l<=big:=h;have e:a.length+2*szL l<=4*big:=e;have j:=dh l;unfold EB;refine(ku l (fun i (b:List ze)=>((i:Int),b)) (fun v b=>some (.again (b++tokV v))) (fun b=>some (.out b)) (fun i b=>b.length<=a.length+2*szL (l.take i)) (a:=a) rfl (by simp) (fun i b d A=> ?_) (fun b _=> ?_) (r:= .out (a++tokL l)) ?_).trans rfl
 ·have o:=Cj (Ac d);have y:=Ri l[i];have f:=Wy l[i];have p:=om l[i].list;have B:=Yu d;have u:=Uv l (i+1);have w:=Du l[i];unfold big at h e;have c: ∀n m:Nat,n+m<=100000000->Zc n m 56=true:=fun n m h=>pz (by omega);refine⟨?_,fun C k=> ?_⟩
  ·simp only[qD d,Ca,zb,Zo d,Aa,mH];by_cases g:ZG l[i].token.kind=0
   ·rw[Ka g]at f;simp[g,f,ZC d (by unfold big;omega),c b.length 1 (by omega)]
   ·rw[Ja g]at f;rw[s (l[i].list,b++[l[i].token]) ⟨by grind,by grind⟩ (by grind)];have t:(ZG l[i].token.kind != 0)=true:=bne_iff_ne.2 g;simp[t,f,ZC d (by unfold big;omega),c b.length 1 (by omega),c (b.length+((tokL l[i].list).length+1)) 1 (by omega)]
  ·grind
 ·grind
 ·rw[tq (fun a v=>a++tokV v) (fun v a=>rfl),uz]
theorem WL{l:List zg}(h:szL l<=big):Xl l=some (tokL l):=by
 have g:=dh l;unfold Xl;refine(ku l (fun i (b:List ze)=>((i:Int),b)) (fun v b=>some (.again (b++tokV v))) (fun b=>some (.out b)) (fun i b=>b.length<=2*szL (l.take i)) (a:=[]) rfl (by simp) (fun i b d u=> ?_) (fun b _=> ?_) (r:= .out (tokL l)) ?_).trans rfl
 ·have k:=Cj (Ac d);have t:=Ri l[i];have e:=Wy l[i];have o:=om l[i].list;have w:=Yu d;have q:=Uv l (i+1);have s:=Du l[i];unfold big at h;have c: ∀n m:Nat,n+m<=100000000->Zc n m 56=true:=fun n m h=>pz (by omega);refine⟨?_,fun x j=> ?_⟩
  ·simp only[qD d,Ca,zb,Zo d,Aa,mH];by_cases f:ZG l[i].token.kind=0
   ·rw[Ka f]at e;simp[f,e,ZC d (by unfold big;omega),c b.length 1 (by omega)]
   ·rw[Ja f]at e;rw[gV (a:=b++[l[i].token]) (show szL l[i].list<=big by unfold big;omega) (by grind)];have p:(ZG l[i].token.kind != 0)=true:=bne_iff_ne.2 f;simp[p,e,ZC d (by unfold big;omega),c b.length 1 (by omega),c (b.length+((tokL l[i].list).length+1)) 1 (by omega)]
  ·grind
 ·grind
 ·rw[tq (fun a v=>a++tokV v) (fun v a=>rfl),uz];simp
theorem U4{l:List zg}(h:szL l<=big):su l=some (if errS l=0 then(tokL l,0)else([],errS l)):=by
 unfold su;simp only[tO h,zb,Aa];by_cases he:errS l=0
 ·have:(errS l != 0)=false:=by rw[he];rfl
  rw[this,Ba,WL h,Ka he];rfl
 grind
end Go.Lv.VT

namespace Go.Lv
theorem Le.lp{S X R:Type}{step step':S->Option (LO S X R)}{s:S}{k k':X->Option R}(h: ∀s,Le (step s) (step' s))(hk: ∀x,Le (k x) (k' x)):Le (Za step s k) (Za step' s k'):=by
 intro y hy;unfold Za at hy;cases hl:Nf step s with
 |none=>rw[hl]at hy;cases hy
 |some r=>
  rw[hl]at hy;obtain⟨n,hn⟩:=yO hl;rw[Ci (mh (bF h n s r hn))];cases r with
  |out x=>exact hk x y hy
  |ret r=>exact hy
def vT{X Y:Type}(B:(X->Option Y)->X->Option Y):Prop:= ∀S S':X->Option Y,(∀x,Le (S x) (S' x))-> ∀x,Le (B S x) (B S' x)
theorem wU {X Y:Type} {B:(X->Option Y)->X->Option Y} (hm:vT B) (μ:X->Nat) (ok:X->Prop) (R:X->Y->Prop)
  (hB: ∀(S:X->Option Y) (x:X),ok x->(∀z,ok z->μ z<μ x-> ∃y,S z=some y/\R z y)-> ∃y,B S x=some y/\R x y) {x:X} (hx:ok x): ∃y,recE B x=some y/\R x y:=by
 have step: ∀n x,Le (mg B n x) (mg B (n+1) x):=by
  intro n
  induction n with
  |zero=>intro x;exact Le.none
  |succ n ih=>intro x;exact hm _ _ ih x
 have up: ∀d n x,Le (mg B n x) (mg B (n+d) x):=by
  intro d
  induction d with
  |zero=>intro n x;exact Le.rfl
  |succ d ih=>intro n x y hy;exact step _ x y (ih n x y hy)
 have key: ∀(m:Nat) (x:X),μ x<m->ok x-> ∃y,mg B m x=some y/\R x y:=by
  intro m
  induction m with
  |zero=>intro x h;omega
  |succ m ih=> intro x hm hok;exact hB _ x hok fun z hz hlt=>ih z (by omega) hz
 obtain⟨y,h1,h2⟩:=key (μ x+1) x (by omega) hx;refine⟨y,OD (N:=μ x+1) fun n hn=> ?_,h2⟩;obtain⟨d,rfl⟩:=Nat.le.dest hn;exact up d _ x y h1
theorem VW {A S X R:Type} {step:S->Option (LO S X R)} {k:X->Option R} (n:Nat) (st:Nat->A->S) (Inv:Nat->A->Prop) (Q:R->Prop) {s0:S} {a0:A} (h0:s0=st 0 a0) (hI:Inv 0 a0)
  (hg: ∀(i:Nat) (a:A),i<n->Inv i a->(∃a',step (st i a)=some (.again (st (i+1) a'))/\Inv (i+1) a')\/(∃r,step (st i a)=some (.ret r)/\Q r)\/(∃x,step (st i a)=some (.out x)/\ ∃r,k x=some r/\Q r))
  (hf: ∀a,Inv n a->(∃x,step (st n a)=some (.out x)/\ ∃r,k x=some r/\Q r)\/(∃r,step (st n a)=some (.ret r)/\Q r)): ∃r,Za step s0 k=some r/\Q r:=by
 have key: ∀(m i:Nat) (a:A),i+m=n->Inv i a-> ∃j x,qy step j (st i a)=some x/\ ∃r,LX.go x k=some r/\Q r:=by
  intro m
  induction m with
  |zero=>
   intro i a hi ha;obtain rfl:i=n:=by omega
   rcases hf a ha with⟨x,h1,r,h2,h3⟩|⟨r,h1,h2⟩
   ·exact⟨1, .out x,by simp only[qy,h1],r,h2,h3⟩
   ·exact⟨1, .ret r,by simp only[qy,h1],r,rfl,h2⟩
  |succ m ih=>
   intro i a hi ha;rcases hg i a (by omega) ha with⟨a',h1,h2⟩|⟨r,h1,h2⟩|⟨x,h1,r,h2,h3⟩
   ·obtain⟨j,x,g1,g2⟩:=ih (i+1) a' (by omega) h2;exact⟨j+1,x,by simp only[qy,h1];exact g1,g2⟩
   ·exact⟨1, .ret r,by simp only[qy,h1],r,rfl,h2⟩
   ·exact⟨1, .out x,by simp only[qy,h1],r,h2,h3⟩
 obtain⟨j,x,h1,r,h2,h3⟩:=key n 0 a0 (by omega) hI;refine⟨r,?_,h3⟩;rw[h0,Ci (mh h1),h2]
namespace VT
def mx{α:Type}(f:α->Nat):List α->Nat
 |[]=>0
 |v::l=>max (f v) (mx f l)
end VT
end Go.Lv

namespace Go.Lv.VT
set_option maxRecDepth 100000
theorem D9:vT Br:=by intro qV ref04_Size' h_ref04_Size x;unfold Br;exact(.lp (fun _=>(.bif (.bind .rfl fun _=>(.bind .rfl fun _=>(.bind .rfl fun _=>(.bind (h_ref04_Size _) fun _=> .rfl)))) .rfl)) fun _=> .rfl)
inductive Cuts (k:Int):List zg->List (List zg)->Prop
 |one (p:List zg) (h: ∀x∈p,(x.token.kind==k)=false):Cuts k p [p]
 |more (p:List zg) (s:zg) (v:List zg) (ps:List (List zg)) (h: ∀x∈p,(x.token.kind==k)=false) (hs:(s.token.kind==k)=true) (hc:Cuts k v ps):Cuts k (p++s::v) (p::ps)
end Go.Lv.VT
