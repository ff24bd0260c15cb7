/- How large values are. -/
import Derived.Test.YtcdeccnjlkkejaaGreatDoorIp
import Derived.Test.YtcdeccnjlkkejaaGreatDoorLaw
import Derived.Test.YtcdeccnjlkkejaaGreatDoorLf
import Derived.Test.YtcdeccnjlkkejaaGreatDoorMo
import Derived.Test.YtcdeccnjlkkejaaGreatDoorLe
import Derived.Test.YtcdeccnjlkkejaaGreatDoorTx
import Derived.KernelRfl
set_option linter.unusedSimpArgs false
set_option linter.unusedVariables false
namespace Go.Lv.VT
def zL{α:Type}(f:α->List PV)(l:List α):Nat:=ym (l.map f)
theorem zBQ{α:Type}(f:α->List PV)(v:α)(l:List α):zL f (v::l)=QO (f v)+zL f l:=rfl
theorem uW(x:zb):QO (zt x)=6+x.token.text.length+x.token.unit.length+zL zt x.list:=by rw[S9];simp only[QO,bPV,zL];omega
mutual
/-- How large values are. -/
def szV:zb->Nat
 |⟨t,l⟩=>1+t.text.length+t.unit.length+szL l
def szL:List zb->Nat
 |[]=>0
 |v::r=>szV v+szL r
end
theorem Jh(v:zb):szV v=1+v.token.text.length+v.token.unit.length+szL v.list:=by obtain⟨t,l⟩:=v;rw[szV]
theorem ui{v:zb}: ∀{l:List zb},v∈l->szV v<=szL l
 |[],h=>by cases h
 |x::l,h=>by
  rw[szL];rcases Jb.1 h with rfl|h
  ·omega
  ·have:=ui h;omega
theorem Qr: ∀(l:List zb),l.length<=szL l
 |[]=>ma _
 |v::r=>by rw[szL,Jh,Ea];have:=Qr r;omega
theorem Br(n:Nat):decide ((n:Int)>0)=decide (0<n):=by
 grind
theorem VC(k:Int):qg k=some (zq k):=by
 unfold qg zq;by_cases b:k=19
 ·subst b;rfl
 by_cases d:k=21
 ·subst d;rfl
 by_cases c:k=2
 ·subst c;rfl
 by_cases a:k=23
 ·subst a;rfl
 have g:(k==19)=false:=Ia.2 b;have h:(k==21)=false:=Ia.2 d;have e:(k==2)=false:=Ia.2 c;have f:(k==23)=false:=Ia.2 a;simp only[g,h,e,f,Ba,zh,b,d,c,a,Cf,or_self]
theorem Yy(k:Int):qo k=some (zq k):=by
 unfold qo zq;by_cases b:k=19
 ·subst b;rfl
 by_cases d:k=21
 ·subst d;rfl
 by_cases c:k=2
 ·subst c;rfl
 by_cases a:k=23
 ·subst a;rfl
 have g:(k==19)=false:=Ia.2 b;have h:(k==21)=false:=Ia.2 d;have e:(k==2)=false:=Ia.2 c;have f:(k==23)=false:=Ia.2 a;simp only[g,h,e,f,Ba,zh,b,d,c,a,Cf,or_self]
mutual
/-- The depth of values. -/
def Li:zb->Nat
 |⟨t,l⟩=>if zq t.kind=0 then 0 else 1+yf l
def yf:List zb->Nat
 |[]=>0
 |v::r=>max (Li v) (yf r)
end
theorem wL(v:zb):Li v=if zq v.token.kind=0 then 0 else 1+yf v.list:=by obtain⟨t,l⟩:=v;rw[Li]
mutual
theorem XW: ∀v:zb,Li v<=szV v
 |⟨t,l⟩=>by rw[Li,szV];have:=EB l;split<;>omega
theorem EB: ∀l:List zb,yf l<=szL l
 |[]=>ma _
 |v::r=>by rw[yf,szL];have:=XW v;have:=EB r;omega
end
theorem vN(f:zb->Nat): ∀(l:List zb) (a:Nat),l.foldl (fun a v=>max a (f v)) a=max a (l.foldr (fun v a=>max (f v) a) 0)
 |[],a=>by simp
 |v::l,a=>by rw[xe,vN f l,List.foldr_cons];omega
theorem xL: ∀(l:List zb),yf l=l.foldr (fun v a=>max (Li v) a) 0
 |[]=>by rw[yf];rfl
 |v::l=>by rw[yf,xL l];rfl
theorem FL{l:List zb}(h:szL l<=big):qX l=some (yf l:Int):=by
 refine Sk (fun l=>szL l) (fun l=>szL l<=big) (fun l=>(yf l:Int)) (fun S l n j=> ?_) h;unfold DD;have e:=Qr l;refine(jB l (fun i (a:Nat)=>((a:Int),(i:Int))) (fun v a=>some (.again (max a (Li v)))) (fun a=>some (.out (a:Int))) (a:=0) rfl (fun i a b=> ?_) (fun a=> ?_) (r:= .out (yf l:Int)) ?_)
 ·have f:=ui (Sc b);have k:=Jh l[i];have c:=wL l[i];have g:=EB l[i].list;simp only[ZH b,Ca,ze,Zt b,Aa,VC];by_cases d:zq l[i].token.kind=0
  ·rw[Na d]at c;simp[d,c,Za b (by omega)]
  ·rw[Ka d]at c;rw[j l[i].list (by omega) (by omega)];have m:w64 (1+(yf l[i].list:Int))=((1+yf l[i].list:Nat):Int):=by rw[w64,ZT (by omega) (by grind)];omega
   simp only[He.2 d,Ca,Aa,zh,Za b (by omega),m,c,Bb]
   grind
 ·grind
 ·rw[QX (fun a v=>max a (Li v)) (fun v a=>rfl),vN,<-xL];simp
theorem UB{l:List zb}: ∀{i:Nat} (h:i<l.length),szL (l.take (i+1))=szL (l.take i)+szV l[i]:=by
 induction l with
 |nil=>grind
 |cons v r a=>
  intro i h;cases i with
  |zero=>simp[szL]
  |succ i=>
   simp only[Pg,szL,List.getElem_cons_succ]
   grind
theorem lC(l:List zb)(i:Nat):szL (l.take i)<=szL l:=by
 induction l generalizing i with
 |nil=>simp
 |cons v r a=>
  cases i with
  |zero=>simp[szL]
  |succ i=>simp only[Pg,szL];grind
mutual
/-- The tokens of values. -/
def tokV:zb->List zf
 |⟨t,l⟩=>t::if zq t.kind=0 then []else tokL l++[⟨zq t.kind,[],0,[],false⟩]
def tokL:List zb->List zf
 |[]=>[]
 |v::r=>tokV v++tokL r
end
theorem Eo(v:zb):tokV v=v.token::if zq v.token.kind=0 then []else tokL v.list++[⟨zq v.token.kind,[],0,[],false⟩]:=by obtain⟨t,l⟩:=v;rw[tokV]
mutual
theorem Av: ∀v:zb,(tokV v).length<=2*szV v
 |⟨t,l⟩=>by
  rw[tokV,szV];have:=Ar l
  grind
theorem Ar: ∀l:List zb,(tokL l).length<=2*szL l
 |[]=>ma _
 |v::r=>by rw[tokL,szL,Ha];have:=Av v;have:=Ar r;omega
end
theorem IC: ∀(l:List zb) (a:List zf),l.foldl (fun a v=>a++tokV v) a=a++tokL l
 |[],a=>by simp[tokL]
 |v::l,a=>by rw[xe,IC l,tokL,Ec]
theorem SH{l:List zb}(h:szL l<=big):Zz l=some (tokL l):=by
 refine Sk (fun l=>szL l) (fun l=>szL l<=big) (fun l=>tokL l) (fun S l j o=> ?_) h;unfold KD;have f:=Qr l;refine(Mo l (fun i (a:List zf)=>((i:Int),a)) (fun v a=>some (.again (a++tokV v))) (fun a=>some (.out a)) (fun i a=>a.length<=2*szL (l.take i)) (a:=[]) rfl (by simp) (fun i a c u=> ?_) (fun a _=> ?_) (r:= .out (tokL l)) ?_)
 ·have g:=ui (Sc c);have t:=Jh l[i];have d:=Eo l[i];have k:=Ar l[i].list;have w:=UB c;have q:=lC l (i+1);have s:=Av l[i];unfold big at j;have b: ∀n m:Nat,n+m<=100000000->Zo n m 56=true:=fun n m h=>Nk (by omega);refine⟨?_,fun x y=> ?_⟩
  ·simp only[ZH c,Ca,ze,Zt c,Aa,VC];by_cases e:zq l[i].token.kind=0
   ·rw[Na e]at d;simp[e,d,Za c (by unfold big;omega),b a.length 1 (by omega)]
   ·rw[Ka e]at d;rw[o l[i].list (by unfold big;omega) (by omega)];have p:(zq l[i].token.kind != 0)=true:=He.2 e;simp[p,d,Za c (by unfold big;omega),b a.length 1 (by omega),b (a.length+1) (tokL l[i].list).length (by omega),b (a.length+((tokL l[i].list).length+1)) 1 (by omega)]
  ·grind
 ·grind
 ·rw[QX (fun a v=>a++tokV v) (fun v a=>rfl),IC];simp
mutual
/-- Whether lists are those of blocks, and have not their closers. -/
def shV:zb->Int->Bool
 |⟨t,l⟩,c=> !((zq t.kind==0&&decide (0<l.length))||(c != 0&&t.kind==c)||(zq t.kind != 0&& !(shL l (zq t.kind))))
def shL:List zb->Int->Bool
 |[],_=>true
 |v::r,c=>shV v c&&shL r c
end
theorem KU(v:zb)(c:Int):shV v c= !((zq v.token.kind==0&&decide (0<v.list.length))||(c != 0&&v.token.kind==c)||(zq v.token.kind != 0&& !(shL v.list (zq v.token.kind)))):=by obtain⟨t,l⟩:=v;rw[shV]
theorem VZ{l:List zb}{c:Int}(h:szL l<=big):qG (l,c)=some (shL l c):=by
 refine Sk (fun x:List zb×Int=>szL x.1) (fun x=>szL x.1<=big) (fun x=>shL x.1 x.2) (fun S x A q=> ?_) h;obtain⟨l,c⟩:=x;simp only at A q ⊢;unfold JD;have m:=Qr l;have f: ∀l:List zb,Ji (fun v (_:Unit)=>if shV v c=true then some (.again ())else some (.ret false)) (fun _=>some (.out ())) l ()=some (if shL l c=true then .out ()else .ret false):=by
  intro l
  induction l with
  |nil=>simp[Ji,shL]
  |cons v r y=>
   by_cases n:shV v c=true
   ·simpa [Ji,shL,n] using y
   ·simp[Ji,shL,n]
 refine(jB l (fun i (_:Unit)=>(i:Int)) (fun v (_:Unit)=>if shV v c=true then some (.again ())else some (.ret false)) (fun _=>some (.out ())) (a:=()) rfl (fun i a d=> ?_) (fun a=> ?_) (f l)).trans ?_
 ·have C:=ui (Sc d);have w:=Jh l[i];have z:=KU l[i] c;simp only[ZH d,Ca,ze,Zt d,Aa,VC];have g:szL l[i].list<=big:=by omega
  have j:szL l[i].list<szL l:=by omega
  have e: ∀b,S (l[i].list,b)=some (shL l[i].list b):=fun b=>q (l[i].list,b) g j;rw[z];have o:decide ((l[i].list.length:Int)>0)=decide (0<l[i].list.length):=Br _;have B:=Za d (by omega);simp only[bne,o];rcases Ed (zq l[i].token.kind==0)with k|k<;>rcases Ed (decide (0<l[i].list.length))with u|u<;>rcases Ed (c==0)with s|s<;>rcases Ed (l[i].token.kind==c)with p|p<;>rcases Ed (shL l[i].list (zq l[i].token.kind))with t|t<;>
   simp only[e,o,k,u,s,p,t,B,Ca,Ba,Cb,Ta,Mc,Md,Ob,Rc,Bool.or_true,Gg,Nf,Ve,zo,zG,Aa,Od,Cf,Bb,Xd]
 ·grind
 ·cases h:shL l c<;>simp
def Wn(l:List zb)(c:Int):zJ:=⟨yf l,(tokL l).length, !(shL l c)⟩
theorem sM(c:Int): ∀(l:List zb) (a:Nat×Nat×Bool),l.foldl (fun a v=>(max a.1 (Li v),a.2.1+(tokV v).length,a.2.2|| !(shV v c))) a=(max a.1 (yf l),a.2.1+(tokL l).length,a.2.2|| !(shL l c))
 |[],a=>by simp[yf,tokL,shL]
 |v::l,a=>by
  rw[xe,sM c l,yf,tokL,shL,Ha];simp only[Prod.mk.injEq]
  grind
theorem dK(a b:Bool):(bif a then true else b)=(a||b):=by cases a<;>rfl
theorem dW(a b:Bool):(bif a then b else false)=(a&&b):=by cases a<;>rfl
theorem Y6{l:List zb}{c:Int}(h:szL l<=big):Vk (l,c)=some (Wn l c):=by
 refine Sk (fun x:List zb×Int=>szL x.1) (fun x=>szL x.1<=big) (fun x=>Wn x.1 x.2) (fun S x C E=> ?_) h;obtain⟨l,c⟩:=x;simp only at C E ⊢;unfold xC;have B:=Qr l;refine(Mo l (fun i (a:Nat×Nat×Bool)=>((i:Int),(⟨(a.1:Int),(a.2.1:Int),a.2.2⟩:zJ))) (fun v a=>some (.again (max a.1 (Li v),a.2.1+(tokV v).length,a.2.2|| !(shV v c)))) (fun a=>some (.out (⟨(a.1:Int),(a.2.1:Int),a.2.2⟩:zJ))) (fun i a=>a.2.1<=2*szL (l.take i)) (a:=(0,0,false)) rfl (by simp) (fun i a j J=> ?_) (fun a _=> ?_) (r:= .out (Wn l c)) ?_)
 ·have N:=ui (Sc j);have H:=Jh l[i];have m:=wL l[i];have O:=EB l[i].list;have o:=Eo l[i];have P:=Ar l[i].list;have e:=KU l[i] c;have K:=UB j;have G:=lC l (i+1);have Q:=Av l[i];have w:szL l[i].list<=big:=by omega
  have y:szL l[i].list<szL l:=by omega
  have p:S (l[i].list,zq l[i].token.kind)=some (Wn l[i].list (zq l[i].token.kind)):=E (l[i].list,zq l[i].token.kind) w y;obtain⟨d,n,b⟩:=a;simp only at J;have D:=Za j (by omega);unfold big at C;have u:w64 ((n:Int)+1)=((n+1:Nat):Int):=by rw[w64,ZT (by omega) (by omega)];omega
  refine⟨?_,fun R T=> ?_⟩
  ·have L:decide ((l[i].list.length:Int)>0)=decide (0<l[i].list.length):=Br _;simp only[ZH j,Ca,ze,Zt j,Aa,Yy,Bb,u,bne,L,dK,dW];by_cases k:zq l[i].token.kind=0
   ·rw[Na k]at m o;simp only[k,jd,Ob,Cb,Rc,Gg,bne]at e ⊢;rw[e,m,o];rcases Ed (decide (0<l[i].list.length))with F|F<;>rcases Ed (c==0)with g|g<;>rcases Ed (l[i].token.kind==c)with f|f<;>
     simp[F,g,f,D,Ca,Ba]
   ·rw[Ka k]at m o;have s:(zq l[i].token.kind==0)=false:=Ia.2 k;have z:w64 ((yf l[i].list:Int)+1)=((1+yf l[i].list:Nat):Int):=by rw[w64,ZT (by omega) (by omega)];omega
    have t:w64 (((n+1:Nat):Int)+((tokL l[i].list).length:Int))=((n+1+(tokL l[i].list).length:Nat):Int):=by rw[w64,ZT (by omega) (by omega)];omega
    have A:w64 (((n+1+(tokL l[i].list).length:Nat):Int)+1)=((n+(1+((tokL l[i].list).length+1)):Nat):Int):=by rw[w64,ZT (by omega) (by omega)];omega
    have q:(tokV l[i]).length=1+((tokL l[i].list).length+1):=by rw[o];simp;omega
    have M:(if((1+yf l[i].list:Nat):Int)>(d:Int)then((1+yf l[i].list:Nat):Int)else(d:Int))=((max d (1+yf l[i].list):Nat):Int):=by split<;>omega
    rw[e,m,q];simp only[s,p,Rc,Ta,Ob,Gg,Ve,Ba,bne,Aa,Wn];rcases Ed (c==0)with g|g<;>rcases Ed (l[i].token.kind==c)with f|f<;>
     simp only[g,f,D,z,t,A,M,Ca,Ba,zh,Cb,Ta,Ob,Mc,Md,Rc,Bool.or_true,Gg,Nf,Ve,Bool.not_not]
  grind
 ·grind
 ·rw[QX (fun a v=>(max a.1 (Li v),a.2.1+(tokV v).length,a.2.2|| !(shV v c))) (fun v a=>rfl),sM];simp[Wn]
theorem Ii{a b:List zb}(h:a.Sublist b):szL a<=szL b:=by
 induction h with
 |slnil=>grind
 |cons v _ c=>rw[szL];omega
 |cons_cons v _ c=>rw[szL,szL];omega
theorem Qm(l:List zb):l=[]\/ ∃t v,l=t++[v]:=by
 rcases List.eq_nil_or_concat l with h|⟨t,v,h⟩
 ·exact .inl h
 grind
def isSp(v:zb):Bool:=v.token.kind==13
def trimB(l:List zb):List zb:=(l.reverse.dropWhile isSp).reverse
theorem KW:trimB []=[]:=rfl
theorem uo(t:List zb)(v:zb):trimB (t++[v])=if isSp v then trimB t else t++[v]:=by
 unfold trimB;rw[List.reverse_append];simp only[List.reverse_cons,List.reverse_nil,Ad,Tc,yc]
 grind
theorem Rm(l:List zb):(trimB l).Sublist l:=by
 unfold trimB
 grind
def trimS(l:List zb):List zb:=trimB (l.dropWhile isSp)
theorem xV(l:List zb):szL (trimS l)<=szL l:=Ii ((Rm _).trans (Je _))
theorem dA(p:zb->Bool): ∀(l:List zb),l.drop (l.length - (l.dropWhile p).length)=l.dropWhile p
 |[]=>rfl
 |v::r=>by
  rw[yc];split
  ·have h:=List.Sublist.length_le (Je p (l:=r));rw[Ea,Nat.succ_sub h,List.drop_succ_cons];exact dA p r
  ·simp
theorem Gt{l:List zb}(h:szL l<=big):ZF l=some (trimS l):=by
 unfold ZF;refine(Qd (r:= .out (l.dropWhile isSp)) (ZK (fun s=>s.dropWhile isSp=l.dropWhile isSp) (fun s=>s.length) _ (fun s c=> ?_) rfl)).trans ?_
 ·cases s with
  |nil=>simp_all
  |cons v t=>
   have e:decide (((v::t).length:Int)>0)=true:=by rw[Br];simp
   have f:geti (v::t) 0=some v:=rfl;have n:decide ((1:Int)<=((v::t).length:Int))=true:=by simp;omega
   rw[yc]at c;cases b:isSp v with
   |true=> rw[b]at c;unfold isSp at b;simp_all
   |false=> rw[b]at c;unfold isSp at b;refine .inr (.inl ⟨v::t,?_,by rw[<-c];rfl⟩);simp only[e,f,zo,ze,Aa,b,Ca,Ba]
 ·rw[zlJ];have i:szL (l.dropWhile isSp)<=big:=Eb (Ii (Je _)) h;unfold trimS;generalize l.dropWhile isSp=d at i;refine(Qd (r:= .out (trimB d)) (ZK (fun s=>trimB s=trimB d/\szL s<=big) (fun s=>s.length) _ (fun s c=> ?_) ⟨rfl,i⟩)).trans ?_
  ·rcases Qm s with rfl|⟨t,v,rfl⟩
   ·exact .inr (.inl ⟨[],by simp,by rw[<-c.1];rfl⟩)
   ·have g:=Qr (t++[v]);have k:(t++[v]).length=t.length+1:=by simp
    have m:=c.2;unfold big at m;have e:decide (((t++[v]).length:Int)>0)=true:=by rw[Br];simp
    have j:w64 (((t++[v]).length:Int) - 1)=(t.length:Int):=by rw[w64,ZT (by omega) (by omega)];omega
    have f:geti (t++[v]) (t.length:Int)=some v:=by rw[Zt (by omega)];simp
    have n:(decide ((0:Int)<=(t.length:Int))&&decide ((t.length:Int)<=((t++[v]).length:Int)))=true:=by simp;omega
    have a:=c.1;rw[uo]at a;cases b:isSp v with
    |true=> rw[Na b]at a;unfold isSp at b;refine .inl ⟨t,?_,⟨a,Eb (Ii (List.sublist_append_left t [v])) c.2⟩,by simp⟩;simp_all
    |false=> rw[Ka (by rw[b];simp)]at a;unfold isSp at b;refine .inr (.inl ⟨t++[v],?_,by rw[<-a]⟩);simp only[e,j,f,zo,ze,Aa,b,Ca,Ba]
  ·rw[zlJ]
def errS(l:List zb):Int:=if 16<yf l then 20 else if 1500<(tokL l).length then 4 else if shL l 0 then 0 else 8
theorem dG{l:List zb}(h:szL l<=big):QM l=some (errS l):=by
 unfold QM errS;simp only[ze,FL h,SH h,VZ h,Aa]
 grind
theorem XC{l:List zb}(h:szL l<=big):Qw l=some (errS l):=by
 unfold Qw errS;simp only[ze,Y6 h,Aa,Wn]
 grind
theorem zCN: ∀l:List zb,szL l<=zL zt l:=by
 have a: ∀(n:Nat) (l:List zb),zL zt l<n->szL l<=zL zt l:=by
  intro n
  induction n with
  |zero=>intro l h;omega
  |succ n d=>
   intro l
   induction l with
   |nil=>intro _;rw[szL];grind
   |cons v l b=>
    intro h;rw[zBQ]at h ⊢;rw[szL,Jh];have c:=uW v
    grind
 grind
theorem CX{l:List zb}{a:List zf}(h:szL l<=big)(e:a.length+2*szL l<=4*big):Ql (l,a)=some (a++tokL l):=by
 refine Sk (fun z=>szL z.1) (fun z=>szL z.1<=big/\z.2.length+2*szL z.1<=4*big) (fun z=>z.2++tokL z.1) (fun S z q s=> ?_) (x:=(l,a)) ⟨h,e⟩;obtain⟨l,a⟩:=z;obtain⟨h,e⟩:=q;have h:szL l<=big:=h;have e:a.length+2*szL l<=4*big:=e;have j:=Qr l;unfold UD;refine(Mo l (fun i (b:List zf)=>((i:Int),b)) (fun v b=>some (.again (b++tokV v))) (fun b=>some (.out b)) (fun i b=>b.length<=a.length+2*szL (l.take i)) (a:=a) rfl (by simp) (fun i b d A=> ?_) (fun b _=> ?_) (r:= .out (a++tokL l)) ?_).trans rfl
 ·have o:=ui (Sc d);have y:=Jh l[i];have f:=Eo l[i];have p:=Ar l[i].list;have B:=UB d;have u:=lC l (i+1);have w:=Av l[i];unfold big at h e;have c: ∀n m:Nat,n+m<=100000000->Zo n m 56=true:=fun n m h=>Nk (by omega);refine⟨?_,fun C k=> ?_⟩
  ·simp only[ZH d,Ca,ze,Zt d,Aa,Yy];by_cases g:zq l[i].token.kind=0
   ·rw[Na g]at f;simp[g,f,Za d (by unfold big;omega),c b.length 1 (by omega)]
   ·rw[Ka g]at f;rw[s (l[i].list,b++[l[i].token]) ⟨by grind,by grind⟩ (by grind)];have t:(zq l[i].token.kind != 0)=true:=He.2 g;simp[t,f,Za d (by unfold big;omega),c b.length 1 (by omega),c (b.length+((tokL l[i].list).length+1)) 1 (by omega)]
  ·grind
 ·grind
 ·rw[QX (fun a v=>a++tokV v) (fun v a=>rfl),IC]
theorem DX{l:List zb}(h:szL l<=big):Rx l=some (tokL l):=by
 have g:=Qr l;unfold Rx;refine(Mo l (fun i (b:List zf)=>((i:Int),b)) (fun v b=>some (.again (b++tokV v))) (fun b=>some (.out b)) (fun i b=>b.length<=2*szL (l.take i)) (a:=[]) rfl (by simp) (fun i b d u=> ?_) (fun b _=> ?_) (r:= .out (tokL l)) ?_).trans rfl
 ·have k:=ui (Sc d);have t:=Jh l[i];have e:=Eo l[i];have o:=Ar l[i].list;have w:=UB d;have q:=lC l (i+1);have s:=Av l[i];unfold big at h;have c: ∀n m:Nat,n+m<=100000000->Zo n m 56=true:=fun n m h=>Nk (by omega);refine⟨?_,fun x j=> ?_⟩
  ·simp only[ZH d,Ca,ze,Zt d,Aa,Yy];by_cases f:zq l[i].token.kind=0
   ·rw[Na f]at e;simp[f,e,Za d (by unfold big;omega),c b.length 1 (by omega)]
   ·rw[Ka f]at e;rw[CX (a:=b++[l[i].token]) (show szL l[i].list<=big by unfold big;omega) (by grind)];have p:(zq l[i].token.kind != 0)=true:=He.2 f;simp[p,e,Za d (by unfold big;omega),c b.length 1 (by omega),c (b.length+((tokL l[i].list).length+1)) 1 (by omega)]
  ·grind
 ·grind
 ·rw[QX (fun a v=>a++tokV v) (fun v a=>rfl),IC];simp
theorem l6{l:List zb}(h:szL l<=big):Pw l=some (if errS l=0 then(tokL l,0)else([],errS l)):=by
 unfold Pw;simp only[XC h,ze,Aa];by_cases he:errS l=0
 ·have:(errS l != 0)=false:=by rw[he];rfl
  rw[this,Ba,DX h,Na he];rfl
 grind
def szP:List (List zb)->Nat
 |[]=>0
 |l::r=>1+szL l+szP r
theorem IK{v:List zb}: ∀{l:List (List zb)},v∈l->szL v<=szP l
 |[],h=>by cases h
 |x::l,h=>by
  rw[szP];rcases Jb.1 h with rfl|h
  ·omega
  ·have:=IK h;omega
theorem JK: ∀(l:List (List zb)),l.length<=szP l
 |[]=>ma _
 |v::r=>by rw[szP,Ea];have:=JK r;omega
theorem kN{R:Type}(x:Option R):both x x=x:=by unfold both;rw[Na rfl]
theorem gW{l:List zb}(h:szL l<=big):Qg l=some l:=by
 unfold Qg;have b:=Qr l;unfold big at h;have a:Zo 0 l.length 80=true:=Nk (by omega);cases l with
 |nil=>simp only[a,kN,Zu,List.isEmpty_nil,Ca]
 |cons v r=>simp_all
theorem fE{l:List zb}(h:szL l<=big):Qx l=some l:=by
 refine Sk (fun l=>szL l) (fun l=>szL l<=big) (fun l=>l) (fun S l hl hS=> ?_) h;unfold wC;have hlen:=Qr l;simp only[ze,gW hl,Aa];refine(Mo l (fun i (a:List zb)=>((i:Int),a)) (fun v a=>some (.again a)) (fun a=>some (.out a)) (fun i a=>a=l) (a:=l) rfl rfl (fun i a hi hI=> ?_) (fun a hI=> ?_) (r:= .out l) ?_)
 ·subst hI;have hsz:=ui (Sc hi);have hv2:=Jh a[i];refine⟨?_,fun a' ha=>by cases ha;rfl⟩;have h1:S a[i].list=some a[i].list:=hS a[i].list (by omega) (by omega);have h2:decide ((0:Int)<=(i:Int))=true:=La (by omega);have h3:a[i]? =some a[i]:=Ja hi;have h4:a.set i ⟨a[i].token,a[i].list⟩=a:=by
   have:(⟨a[i].token,a[i].list⟩:zb)=a[i]:=by cases a[i];rfl
   rw[this,List.set_getElem_self]
  simp only[ZH hi,h2,Bool.and_self,Ca,Zu,Xa,h3,Aa,h1,h4,Za hi (by omega),Bb]
 ·grind
 ·rw[QX (fun a v=>a) (fun v a=>rfl)];congr 2;clear hl hS hlen h;generalize l=b at*;have: ∀(m b:List zb),m.foldl (fun a _=>a) b=b:=by
   intro m
   induction m with
   |nil=>intro b;rfl
   |cons v m ih=>grind
  exact this _ _
theorem Cz{l:List zb}{i:Nat}(h:i<l.length):Bt ((i:Int),l)=some (isSp l[i]):=by unfold Bt;simp only[ze,Zt h,Aa];rfl
theorem GX{l:List zb}(h:szL l<=big):Ow l=some (if errS l=0 then(trimS l,0)else([],errS l)):=by
 unfold Ow;have hlen:=Qr l;simp only[ze,XC h,Aa];by_cases h1:errS l=0
 ·rw[Na h1];have hne:(errS l != 0)=false:=by simp[h1]
  simp only[hne,Ba];have hdl:=List.Sublist.length_le (Je isSp (l:=l));have hdd:=dA isSp l;refine(Qd (r:= .out ((l.length - (l.dropWhile isSp).length:Nat):Int)) (ZK (fun s=> ∃k:Nat,s=(k:Int)/\k<=l.length/\(l.drop k).dropWhile isSp=l.dropWhile isSp) (fun s=>l.length - s.toNat) _ (fun s hs=> ?_) ⟨0,rfl,Kb _,rfl⟩)).trans ?_
  ·obtain⟨k,rfl,hk,he⟩:=hs;by_cases hlt:k<l.length
   ·rw[Pb hlt,yc]at he;have hw:=Za hlt (by grind);cases hv:isSp l[k]with
    |true=> rw[Na hv]at he;refine .inl ⟨((k+1:Nat):Int),?_,⟨k+1,rfl,hlt,he⟩,by omega⟩;simp only[ZH hlt,zo,Cz hlt,Aa,hv,Ca,hw]
    |false=>
     rw[Ka (by rw[hv];simp)]at he;refine .inr (.inl ⟨(k:Int),?_,?_⟩)
     ·simp only[ZH hlt,zo,Cz hlt,Aa,hv,Ca,Ba]
     grind
   ·have hkk:k=l.length:=by omega
    simp_all
  ·rw[zlJ];generalize hf:l.length - (l.dropWhile isSp).length=f at hdd;have hfl:f<=l.length:=by omega
   generalize l.dropWhile isSp=d at hdd;subst hdd;refine(Qd (r:= .out ((f+(trimB (l.drop f)).length:Nat):Int)) (ZK (fun s=> ∃m:Nat,s=(m:Int)/\f<=m/\m<=l.length/\trimB ((l.take m).drop f)=trimB (l.drop f)) (fun s=>s.toNat) _ (fun s hs=> ?_) ⟨l.length,rfl,hfl,ma _,by grind⟩)).trans ?_
   ·obtain⟨m,rfl,hm1,hm2,he⟩:=hs;by_cases hlt:f<m
    ·have hm:m - 1<l.length:=by omega
     have hsn:(l.take m).drop f=(l.take (m - 1)).drop f++[l[m - 1]]:=by
      have:l.take m=l.take (m - 1)++[l[m - 1]]:=by
       have:=Sd hm
       rwa [show m - 1+1=m by omega]at this
      rw[this,List.drop_append_of_le_length (by rw[Pd];omega)]
     rw[hsn,uo]at he;have h2:decide ((f:Int)<(m:Int))=true:=La (by omega);have hw:w64 ((m:Int) - 1)=((m - 1:Nat):Int):=by rw[w64,ZT (by omega) (by unfold big at h;omega)];omega
     cases hv:isSp l[m - 1]with
     |true=> rw[Na hv]at he;refine .inl ⟨((m - 1:Nat):Int),?_,⟨m - 1,rfl,by omega,by omega,he⟩,by omega⟩;simp only[h2,zo,hw,Cz hm,Aa,hv,Ca]
     |false=>
      rw[Ka (by rw[hv];simp)]at he;refine .inr (.inl ⟨(m:Int),?_,?_⟩)
      ·simp only[h2,zo,hw,Cz hm,Aa,hv,Ca,Ba]
      ·rw[<-he];congr 1;simp;omega
    ·have hmm:m=f:=by omega
     subst hmm;have h2:decide ((m:Int)<(m:Int))=false:=Ya (by omega);refine .inr (.inl ⟨(m:Int),?_,?_⟩)
     ·simp only[h2,zG,Aa,Ba]
     ·rw[List.drop_eq_nil_of_le (by rw[Pd];omega),KW]at he;rw[<-he];simp
   ·rw[zlJ];have htl:=List.Sublist.length_le (Rm (l.drop f));rw[Oc]at htl;have hcut:List.drop f (List.take (f+(trimB (l.drop f)).length) l)=trimB (l.drop f):=by
     rw[List.drop_take];have: ∀d:List zb,d.take (trimB d).length=trimB d:=by intro d;unfold trimB;rw[Pf];have h3:=dA isSp d.reverse;have h4:=List.Sublist.length_le (Je isSp (l:=d.reverse));rw[Pf]at h3 h4;rw[<-h3,List.drop_reverse,List.reverse_reverse];congr 1;simp
     have e:=this (l.drop f);rw[show f+(trimB (l.drop f)).length - f=(trimB (l.drop f)).length by omega];exact e
    have hneed:(decide ((0:Int)<=(f:Int))&&(decide ((f:Int)<=((f+(trimB (l.drop f)).length:Nat):Int))&&(decide (((f+(trimB (l.drop f)).length:Nat):Int)<=((f+(trimB (l.drop f)).length:Nat):Int))&&decide (((f+(trimB (l.drop f)).length:Nat):Int)<=(l.length:Int))))&&decide True)=true:=by simp only[Fa,Ac];refine⟨?_,trivial⟩;omega
    have hts:trimS l=trimB (l.drop f):=by unfold trimS;rw[<-dA isSp l,hf]
    simp only[hneed,Zu,Xa,hcut,fE (Eb (Ii ((Rm _).trans (List.drop_sublist _ _))) h),Aa,hts]
 grind
def Tg(k:Int)(a:List (List zb)×List zb)(v:zb):List (List zb)×List zb:=
 if v.token.kind==k then(a.1++[a.2],[])else(a.1,a.2++[v])
def Yf(k:Int)(l:List zb):List (List zb)×List zb:=l.foldl (Tg k) ([],[])
def Ph(k:Int)(l:List zb):List (List zb):=(Yf k l).1++[(Yf k l).2]
theorem jZ{k:Int}{l:List zb}{i:Nat}(h:i<l.length):Yf k (l.take (i+1))=Tg k (Yf k (l.take i)) l[i]:=by unfold Yf;rw[Sd h,List.foldl_append];rfl
theorem nO(a b:List (List zb)):szP (a++b)=szP a+szP b:=by
 induction a with
 |nil=>simp[szP]
 |cons x a c=>simp only[Tc,szP,c];omega
theorem UC(a b:List zb):szL (a++b)=szL a+szL b:=by
 induction a with
 |nil=>simp[szL]
 |cons x a c=>simp only[Tc,szL,c];omega
theorem dB(k:Int): ∀(l:List zb) (a:List (List zb)×List zb),szP (l.foldl (Tg k) a).1+szL (l.foldl (Tg k) a).2<=szP a.1+szL a.2+szL l/\(l.foldl (Tg k) a).1.length<=a.1.length+l.length/\(l.foldl (Tg k) a).2.length<=a.2.length+l.length
 |[],a=>by simp[szL]
 |v::l,a=>by
  rw[xe];obtain⟨e,c,b⟩:=dB k l (Tg k a v);have d:=Jh v;have:szP (Tg k a v).1+szL (Tg k a v).2<=szP a.1+szL a.2+szV v/\(Tg k a v).1.length<=a.1.length+1/\(Tg k a v).2.length<=a.2.length+1:=by
   unfold Tg;split
   ·simp only[nO,szP,szL,Ha,Ea,Db];omega
   ·simp only[UC,szL,Ha,Ea,Db];omega
  rw[szL,Ea];omega
theorem aW(k:Int)(l:List zb):szP (Ph k l)<=szL l+1:=by obtain⟨c,_,_⟩:=dB k l ([],[]);unfold Ph Yf;rw[nO,szP,szP];have b:szP ([]:List (List zb))=0:=rfl;have a:szL ([]:List zb)=0:=rfl;simp only[b,a]at c;omega
theorem WX{l:List zb}{k:Int}(h:szL l<=big):Yx (l,k)=some (Ph k l):=by
 unfold Yx;have o:=Qr l;refine(Mo l (fun i (a:List (List zb)×List zb)=>((i:Int),(a.1,([]:List (List zb))),a.2)) (fun v a=>some (.again (Tg k a v))) (fun a=>some (.out ((a.1,([]:List (List zb))),a.2))) (fun i a=>a.1.length<=i/\a.2.length<=i) (a:=([],[])) rfl (by simp) (fun i a m t=> ?_) (fun a _=> ?_) (r:= .out (((Yf k l).1,[]),(Yf k l).2)) ?_)
 ·obtain⟨c,b⟩:=a;obtain⟨g,j⟩:=t;simp only at g j;unfold big at h;have p:=Za m (by unfold big;omega);refine⟨?_,fun C A=> ?_⟩
  ·simp only[ZH m,Ca,ze,Zt m,Aa,Bb,Tg];cases B:(l[i].token.kind==k)with
   |true=> have d:Zo (c++List.cons b []).length (0+1+0) 24=true:=Nk (by simp;omega);simp only[Ca,d,Zu,zh,p,Od,Lb]
   |false=>
    have q:([]:List (List zb)).length=0:=rfl;have s:w64 (((c.length+1+([]:List (List zb)).length:Nat):Int) - 1)=(c.length:Int):=by rw[w64,ZT (by omega) (by omega)];omega
    have x:(decide ((0:Int)<=(c.length:Int))&&decide ((c.length:Int)<((c.length+1+([]:List (List zb)).length:Nat):Int)))=true:=by simp only[Fa,Ac];omega
    have f:Nat.beq c.length c.length=true:=Nat.beq_refl _;have d:Zo b.length 1 80=true:=Nk (by omega);have n: ∀z:zb,(decide ((0:Int)<=(b.length:Int))&&decide ((b.length:Int)<((b++[z]).length:Int)))=true:=by intro z;simp;omega
    have w: ∀z:zb,(b++[z])[b.length]? =some z:=by intro z;simp
    have e: ∀z u:zb,(b++[z]).set b.length u=b++[u]:=by intro z u;simp
    have y: ∀u:zb,(⟨u.token,u.list⟩:zb)=u:=fun u=>by cases u;rfl
    simp only[Ba,s,x,Zu,Xa,f,d,n,w,e,y,Aa,kN,zh,p,Cf,Xd]
  ·cases A;unfold Tg;split
   ·simp;omega
   ·simp;omega
 ·simp only[ah,Ba];rfl
 ·rw[QX (fun a v=>Tg k a v) (fun v a=>rfl)];rfl
theorem uY{l:List zb}{k:Int}(h:szL l<=big):Lx (l,k)=some (if errS l=0 then(if k<1\/24<k then([],2)else(Ph k l,0))else([],errS l)):=by
 unfold Lx;have hlen:=Qr l;simp only[ze,XC h,Aa];by_cases h1:errS l=0
 ·have hne:(errS l != 0)=false:=by simp[h1]
  rw[Na h1];simp only[hne,Ba,dK];by_cases h2:k<1\/24<k
  ·have:(decide (k<1)||decide (k>24))=true:=by simpa using h2
   rw[Na h2,this];rfl
  ·have:(decide (k<1)||decide (k>24))=false:=by rw[Bf];exact⟨Ya (by omega),Ya (by omega)⟩
   rw[Ka h2,this];simp only[Ba];refine(Qd (r:= .out (((l.length - (Yf k l).2.length:Nat):Int),(Yf k l).1)) (ZK (fun s=> ∃i from_:Nat,s=(((from_:Int),(i:Int)),(Yf k (l.take i)).1)/\from_<=i/\i<=l.length/\(Yf k (l.take i)).2=(l.take i).drop from_) (fun s=>l.length - s.1.2.toNat) _ (fun s hs=> ?_) ⟨0,0,by simp[Yf],ma _,Kb _,by simp[Yf]⟩)).trans ?_
   ·obtain⟨i,fr,rfl,hfi,hil,he⟩:=hs;by_cases hi:i<l.length
    ·refine .inl ?_;have hw:=Za hi (by unfold big at h ⊢;omega);have hpt:=jZ (k:=k) hi;have htk:l.take (i+1)=l.take i++[l[i]]:=Sd hi;unfold Tg at hpt;simp only[ZH hi,Ca,Zt hi,Aa];cases hv:(l[i].token.kind==k)with
     |true=>
      rw[Na hv]at hpt;have hn:(decide ((0:Int)<=(fr:Int))&&(decide ((fr:Int)<=(i:Int))&&(decide ((i:Int)<=(i:Int))&&decide ((i:Int)<=(l.length:Int))))&&decide True)=true:=by simp only[Fa,Ac];refine⟨?_,trivial⟩;omega
      have hsz:szL (List.drop fr (List.take i l))<=big:=Eb (Ii ((List.drop_sublist _ _).trans (List.take_sublist _ _))) h;have hpl:=(dB k (l.take i) ([],[])).2.1;have hap:Zo (Yf k (l.take i)).1.length 1 24=true:=Nk (by
       unfold Yf;have:=List.length_take_le i l;unfold big at h;simp only[Db]at hpl;omega)
      refine⟨((((i+1:Nat):Int),((i+1:Nat):Int)),(Yf k (l.take (i+1))).1),?_,⟨i+1,i+1,rfl,ma _,hi,?_⟩,?_⟩
      ·simp only[Ca,hn,Zu,Xa,fE hsz,Aa,hap,hw,zh,hpt,he]
      ·rw[hpt];simp
      ·simp only[Xa];omega
     |false=>
      rw[Ka (by rw[hv];simp)]at hpt;refine⟨(((fr:Int),((i+1:Nat):Int)),(Yf k (l.take (i+1))).1),?_,⟨i+1,fr,rfl,by omega,hi,?_⟩,?_⟩
      ·simp only[Ba,zh,hw,hpt]
      ·rw[hpt,htk,he,List.drop_append_of_le_length (by rw[Pd];omega)]
      ·simp only[Xa];omega
    ·have hil:i=l.length:=by omega
     subst hil;rw[Pe]at he ⊢;refine .inr (.inl ⟨((fr:Int),(Yf k l).1),by simp only[ah,Ba],?_⟩);rw[he,Oc];congr 2;omega
   ·rw[zlJ]
    -- the last part is behind
    have key: ∀(m:List zb) (a:List (List zb)×List zb) (p:List zb),a.2<:+p->(m.foldl (Tg k) a).2<:+p++m:=by
     intro m
     induction m with
     |nil=>intro a p h;simpa using h
     |cons v m ih=>
      intro a p h;rw[xe];have:(Tg k a v).2<:+p++[v]:=by
       unfold Tg;split
       ·exact Mg
       ·obtain⟨q,hq⟩:=h;exact⟨q,by rw[<-hq,Ec]⟩
      have:=ih _ _ this
      rwa [Ec]at this
    have hsuf:=key l ([],[]) [] (Re _);rw[Ad]at hsuf;have hdr:List.drop (l.length - (Yf k l).2.length) l=(Yf k l).2:=by unfold Yf;exact(List.suffix_iff_eq_drop.1 hsuf).symm
    have hsz:szL (Yf k l).2<=big:=by have:=Ii hsuf.sublist;unfold Yf;omega
    have hle:(Yf k l).2.length<=l.length:=by unfold Yf;exact hsuf.length_le
    have hn:(decide ((0:Int)<=((l.length - (Yf k l).2.length:Nat):Int))&&decide (((l.length - (Yf k l).2.length:Nat):Int)<=(l.length:Int)))=true:=by simp only[Fa,Ac];omega
    have hpl:=(dB k l ([],[])).2.1;have hap:Zo (Yf k l).1.length 1 24=true:=Nk (by
     unfold Yf;unfold big at h;simp only[Db]at hpl;omega)
    simp only[hn,Zu,Xa,hdr,fE hsz,Aa,hap];rfl
 ·have h2:(errS l != 0)=true:=He.2 h1;rw[Ka h1];simp only[h2,Ca]
end Go.Lv.VT

namespace Go.Lv
theorem Le.lp{S X R:Type}{step a:S->Option (LO S X R)}{s:S}{k c:X->Option R}(h: ∀s,Le (step s) (a s))(f: ∀x,Le (k x) (c x)):Le (zY step s k) (zY a s c):=by
 intro y b;unfold zY at b;cases d:Vg step s with
 |none=>grind
 |some r=>
  rw[d]at b;obtain⟨n,e⟩:=VO d;rw[Qd (Lj (jF h n s r e))];cases r with
  |out x=>exact f x y b
  |ret r=>exact b
def CU{X Y:Type}(B:(X->Option Y)->X->Option Y):Prop:= ∀S a:X->Option Y,(∀x,Le (S x) (a x))-> ∀x,Le (B S x) (B a x)
theorem lV {X Y:Type} {B:(X->Option Y)->X->Option Y} (f:CU B) (b:X->Nat) (ok:X->Prop) (R:X->Y->Prop)
  (g: ∀(S:X->Option Y) (x:X),ok x->(∀z,ok z->b z<b x-> ∃y,S z=some y/\R z y)-> ∃y,B S x=some y/\R x y) {x:X} (j:ok x): ∃y,recE B x=some y/\R x y:=by
 have step: ∀n x,Le (Bh B n x) (Bh B (n+1) x):=by
  intro n
  induction n with
  |zero=>intro x;exact Le.none
  |succ n a=>intro x;exact f _ _ a x
 have l: ∀d n x,Le (Bh B n x) (Bh B (n+d) x):=by
  intro d
  induction d with
  |zero=>intro n x;exact Le.rfl
  |succ d a=>intro n x y k;exact step _ x y (a n x y k)
 have c: ∀(m:Nat) (x:X),b x<m->ok x-> ∃y,Bh B m x=some y/\R x y:=by
  intro m
  induction m with
  |zero=>intro x h;omega
  |succ m a=> intro x f e;exact g _ x e fun z o p=>a z (by omega) o
 obtain⟨y,i,r⟩:=c (b x+1) x (by omega) j;refine⟨y,nE (N:=b x+1) fun n q=> ?_,r⟩;obtain⟨d,rfl⟩:=Nat.le.dest q;exact l d _ x y i
theorem GV {A S X R:Type} {step:S->Option (LO S X R)} {k:X->Option R} (n:Nat) (st:Nat->A->S) (Inv:Nat->A->Prop) (Q:R->Prop) {s0:S} {a0:A} (p:s0=st 0 a0) (q:Inv 0 a0)
  (u: ∀(i:Nat) (a:A),i<n->Inv i a->(∃e,step (st i a)=some (.again (st (i+1) e))/\Inv (i+1) e)\/(∃r,step (st i a)=some (.ret r)/\Q r)\/(∃x,step (st i a)=some (.out x)/\ ∃r,k x=some r/\Q r))
  (h: ∀a,Inv n a->(∃x,step (st n a)=some (.out x)/\ ∃r,k x=some r/\Q r)\/(∃r,step (st n a)=some (.ret r)/\Q r)): ∃r,zY step s0 k=some r/\Q r:=by
 have f: ∀(m i:Nat) (a:A),i+m=n->Inv i a-> ∃j x,qm step j (st i a)=some x/\ ∃r,LX.go x k=some r/\Q r:=by
  intro m
  induction m with
  |zero=>
   intro i a s g;obtain rfl:i=n:=by omega
   rcases h a g with⟨x,b,r,c,d⟩|⟨r,b,c⟩
   ·exact⟨1, .out x,by simp only[qm,b],r,c,d⟩
   ·exact⟨1, .ret r,by simp only[qm,b],r,rfl,c⟩
  |succ m t=>
   intro i a s g;rcases u i a (by omega) g with⟨e,b,c⟩|⟨r,b,c⟩|⟨x,b,r,c,d⟩
   ·obtain⟨j,x,l,o⟩:=t (i+1) e (by omega) c;exact⟨j+1,x,by simp only[qm,b];exact l,o⟩
   ·exact⟨1, .ret r,by simp only[qm,b],r,rfl,c⟩
   ·exact⟨1, .out x,by simp only[qm,b],r,c,d⟩
 obtain⟨j,x,b,r,c,d⟩:=f n 0 a0 (by omega) q;refine⟨r,?_,d⟩;rw[p,Qd (Lj b),c]
namespace VT
def mx{α:Type}(f:α->Nat):List α->Nat
 |[]=>0
 |v::l=>max (f v) (mx f l)
end VT
end Go.Lv

namespace Go.Lv.VT
set_option maxRecDepth 100000
theorem zmc:CU Ws:=by intro qY ref04_Size' h_ref04_Size x;unfold Ws;exact(.lp (fun _=>(.bif (.bind .rfl fun _=>(.bind .rfl fun _=>(.bind .rfl fun _=>(.bind (h_ref04_Size _) fun _=> .rfl)))) .rfl)) fun _=> .rfl)
def zBR{A S X R:Type}(k:X->Option R)(st:Nat->A->S)(Q:R->Prop)(i:Nat):LO S X R->Prop
 | .again s=> ∃a,s=st (i+1) a
 | .ret r=>Q r
 | .out x=> ∃r,k x=some r/\Q r
def Ends{S X R:Type}(k:X->Option R)(Q:R->Prop):LO S X R->Prop
 | .again _=>False
 | .ret r=>Q r
 | .out x=> ∃r,k x=some r/\Q r
theorem zBf {A S X R:Type} {step:S->Option (LO S X R)} {k:X->Option R} (n:Nat) (st:Nat->A->S) (Q:R->Prop) {s0:S} {a0:A} (e:s0=st 0 a0)
  (g: ∀(i:Nat) (a:A),i<n-> ∃o,step (st i a)=some o/\zBR k st Q i o) (d: ∀a,∃o,step (st n a)=some o/\Ends k Q o): ∃r,zY step s0 k=some r/\Q r:=by
 refine GV n st (fun _ _=>True) Q e trivial (fun i a f _=> ?_) (fun a _=> ?_)
 ·obtain⟨o,c,b⟩:=g i a f;cases o with
  |again s=>obtain⟨h,rfl⟩:=b;grind
  |ret r=>exact .inr (.inl ⟨r,c,b⟩)
  |out x=>exact .inr (.inr ⟨x,c,b⟩)
 ·obtain⟨o,c,b⟩:=d a;cases o with
  |again s=>exact b.elim
  |ret r=>exact .inr ⟨r,c,b⟩
  |out x=>exact .inl ⟨x,c,b⟩
theorem C9{l:List zb}{m:Int}(h:szL l<=big): ∃r,qY (l,m)=some r:=by
 have: ∃r,qY (l,m)=some r/\True:=by
  refine lV zmc (fun x=>szL x.1) (fun x=>szL x.1<=big) (fun _ _=>True) (fun S x d g=> ?_) (x:=(l,m)) h;obtain⟨l,m⟩:=x;have d:szL l<=big:=d;have c:=Qr l;unfold Ws;refine zBf (A:=Int) l.length (fun i a=>(a,(i:Int))) _ (a0:=0) rfl (fun i a b=> ?_) (fun a=> ?_)
  ·have f:=ui (Sc b);have k:=Jh l[i];cases e:decide (a<=m)with
   |false=>simp only[ZH b,Ca,Ba,e];exact⟨_,rfl,_,rfl,trivial⟩
   |true=> obtain⟨r,j,_⟩:=g (l[i].list,w64 (m - a)) (by grind) (by grind);simp only[ZH b,Ca,e,Zt b,ze,Aa,j,Za b (show l.length<=big by omega)];exact⟨_,rfl,_,rfl⟩
  ·simp only[ah,Ba];exact⟨_,rfl,_,rfl,trivial⟩
 grind
theorem kV{a:List zb}(h:szL a<=big):Q0 (a,a)=some true:=by
 refine Sk (fun x:List zb×List zb=>szL x.1) (fun x=>szL x.1<=big/\x.1=x.2) (fun x=>true) (fun S x d k=> ?_) (show szL (a,a).1<=big/\(a,a).1=(a,a).2 from⟨h,rfl⟩);obtain⟨l,p⟩:=x;obtain⟨d,m⟩:=d;simp only at d k m;subst m;unfold BD;have j:=Qr l;have c:((l.length:Int) != (l.length:Int))=false:=by simp
 simp only[c,Ba];refine(jB l (fun i (_:Unit)=>(i:Int)) (fun v (_:Unit)=>some (.again ())) (fun _=>some (.out ())) (a:=()) rfl (fun i a b=> ?_) (fun a=> ?_) (r:= .out ()) ?_)
 ·have n:=ui (Sc b);have o:=Jh l[i];have e:szL l[i].list<=big:=by omega
  have g:szL l[i].list<szL l:=by omega
  have f:S (l[i].list,l[i].list)=some true:=k (l[i].list,l[i].list) ⟨e,rfl⟩ g;simp[b,Zt b,f,Za b (by omega)]
 ·grind
 ·rw[QX (fun a v=>a) (fun v a=>rfl)]
theorem VY{l:List zb}(h:szL l<=big): ∃r,dx l=some r:=by
 obtain⟨r,a⟩:=C9 (m:=300) h;unfold dx;simp only[ze,a,Aa];cases b:decide (r>300)with
 |true=>simp_all
 |false=>simp only[Ta,zo,FL h,Aa];grind
inductive Cuts (k:Int):List zb->List (List zb)->Prop
 |one (p:List zb) (h: ∀x∈p,(x.token.kind==k)=false):Cuts k p [p]
 |more (p:List zb) (s:zb) (v:List zb) (ps:List (List zb)) (h: ∀x∈p,(x.token.kind==k)=false) (hs:(s.token.kind==k)=true) (hc:Cuts k v ps):Cuts k (p++s::v) (p::ps)
theorem RP(d:List zb): ∃r,d=trimB d++r/\(∀x∈r,isSp x=true)/\(trimB d=[]\/ ∃t v,trimB d=t++[v]/\isSp v=false):=by
 induction hn:d.length generalizing d with
 |zero=>
  obtain rfl:=List.length_eq_zero_iff.1 hn;exact⟨[],rfl,fun x hx=>(by cases hx), .inl rfl⟩
 |succ n ih=>
  rcases Qm d with rfl|⟨t,v,rfl⟩
  ·cases hn
  ·rw[uo];cases hv:isSp v with
   |true=>
    rw[Na rfl];obtain⟨r,h1,h2,h3⟩:=ih t (by rw[Ha]at hn;simpa using hn);refine⟨r++[v],by rw[<-Ec,<-h1],fun x hx=> ?_,h3⟩;rcases Vb.1 hx with hx|hx
    ·exact h2 x hx
    ·rw[Oa.1 hx];exact hv
   |false=> rw[Ka (by decide)];exact⟨[],(Lb _).symm,fun x hx=>(by cases hx), .inr ⟨t,v,rfl,hv⟩⟩
theorem rH: ∀(v:List zb),∃a,v=a++v.dropWhile isSp/\(∀x∈a,isSp x=true)/\ ∀x b,v.dropWhile isSp=x::b->isSp x=false
 |[]=>⟨[],rfl,fun x hx=>(by cases hx),fun x b h=>(by cases h)⟩
 |y::v=>by
  obtain⟨a,h1,h2,h3⟩:=rH v;cases hy:isSp y with
  |true=>
   rw[List.dropWhile_cons_of_pos hy];refine⟨y::a,by rw[Tc,<-h1],fun x hx=> ?_,h3⟩;rcases Jb.1 hx with rfl|hx
   ·exact hy
   ·exact h2 x hx
  |false=> rw[List.dropWhile_cons_of_neg (by rw[hy];decide)];exact⟨[],rfl,fun x hx=>(by cases hx),fun x b h=>(by cases h;exact hy)⟩
end Go.Lv.VT
