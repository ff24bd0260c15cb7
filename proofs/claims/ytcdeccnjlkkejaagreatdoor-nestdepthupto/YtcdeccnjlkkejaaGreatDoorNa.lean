/- How large values are. -/
import Derived.Test.YtcdeccnjlkkejaaGreatDoorIp
import Derived.Test.YtcdeccnjlkkejaaGreatDoorLaw
import Derived.Test.YtcdeccnjlkkejaaGreatDoorLf
import Derived.Test.YtcdeccnjlkkejaaGreatDoorMo
import Derived.Test.YtcdeccnjlkkejaaGreatDoorLe
import Derived.Test.YtcdeccnjlkkejaaGreatDoorTx
import Derived.KernelRfl
set_option linter.unusedSimpArgs false
set_option linter.unusedVariables false
namespace Go.Lv.VT
def zL{α:Type}(f:α->List PV)(l:List α):Nat:=si (l.map f)
theorem DJ{α:Type}(f:α->List PV)(v:α)(l:List α):zL f (v::l)=Qb (f v)+zL f l:=rfl
theorem aM(x:ze):Qb (Zq x)=5+x.text.length+x.unit.length:=by unfold Zq;simp only[Qb,bPV];omega
mutual
/-- How large values are. -/
def szV:zg->Nat
 |⟨t,l⟩=>1+t.text.length+t.unit.length+szL l
def szL:List zg->Nat
 |[]=>0
 |v::r=>szV v+szL r
end
theorem dB(v:zg):szV v=1+v.token.text.length+v.token.unit.length+szL v.list:=by obtain⟨t,l⟩:=v;rw[szV]
theorem kC{v:zg}: ∀{l:List zg},v∈l->szV v<=szL l
 |[],h=>by cases h
 |x::l,h=>by
  rw[szL];rcases Oa.1 h with rfl|h
  ·omega
  ·have:=kC h;omega
theorem ow: ∀(l:List zg),l.length<=szL l
 |[]=>Na _
 |v::r=>by rw[szL,dB,Ta];have:=ow r;omega
theorem iK(n:Nat):decide ((n:Int)>0)=decide (0<n):=by
 by_cases h:0<n
 ·rw[Ld h,Ld (by omega)]
 ·rw[ae h,ae (by omega)]
theorem FO(k:Int):jq k=some (zh k):=by
 unfold jq zh;by_cases h1:k=19
 ·subst h1;rfl
 by_cases h2:k=21
 ·subst h2;rfl
 by_cases h3:k=2
 ·subst h3;rfl
 by_cases h4:k=23
 ·subst h4;rfl
 have e1:(k==19)=false:=Sb.2 h1;have e2:(k==21)=false:=Sb.2 h2;have e3:(k==2)=false:=Sb.2 h3;have e4:(k==23)=false:=Sb.2 h4;simp only[e1,e2,e3,e4,Md,Q3,h1,h2,h3,h4,if_false,or_self]
theorem uA(k:Int):Zh k=some (zh k):=by
 unfold Zh zh;by_cases h1:k=19
 ·subst h1;rfl
 by_cases h2:k=21
 ·subst h2;rfl
 by_cases h3:k=2
 ·subst h3;rfl
 by_cases h4:k=23
 ·subst h4;rfl
 have e1:(k==19)=false:=Sb.2 h1;have e2:(k==21)=false:=Sb.2 h2;have e3:(k==2)=false:=Sb.2 h3;have e4:(k==23)=false:=Sb.2 h4;simp only[e1,e2,e3,e4,Md,Q3,h1,h2,h3,h4,if_false,or_self]
mutual
/-- The depth of values. -/
def Vg:zg->Nat
 |⟨t,l⟩=>if zh t.kind=0 then 0 else 1+Zt l
def Zt:List zg->Nat
 |[]=>0
 |v::r=>max (Vg v) (Zt r)
end
theorem FL(v:zg):Vg v=if zh v.token.kind=0 then 0 else 1+Zt v.list:=by obtain⟨t,l⟩:=v;rw[Vg]
mutual
theorem DL: ∀v:zg,Vg v<=szV v
 |⟨t,l⟩=>by rw[Vg,szV];have:=Iy l;split<;>omega
theorem Iy: ∀l:List zg,Zt l<=szL l
 |[]=>Na _
 |v::r=>by rw[Zt,szL];have:=DL v;have:=Iy r;omega
end
theorem PL{l:List zg}: ∀{i:Nat} (h:i<l.length),szL (l.take (i+1))=szL (l.take i)+szV l[i]:=by
 induction l with
 |nil=>intro i h;cases h
 |cons v r ih=>
  intro i h;cases i with
  |zero=>simp[szL]
  |succ i=> simp only[bf,szL,List.getElem_cons_succ];rw[ih (by simpa using h)];omega
theorem LQ(l:List zg)(i:Nat):szL (l.take i)<=szL l:=by
 induction l generalizing i with
 |nil=>simp
 |cons v r ih=>
  cases i with
  |zero=>simp[szL]
  |succ i=>simp only[bf,szL];have:=ih i;omega
mutual
/-- The tokens of values. -/
def tokV:zg->List ze
 |⟨t,l⟩=>t::if zh t.kind=0 then []else tokL l++[⟨zh t.kind,[],0,[],false⟩]
def tokL:List zg->List ze
 |[]=>[]
 |v::r=>tokV v++tokL r
end
theorem Gs(v:zg):tokV v=v.token::if zh v.token.kind=0 then []else tokL v.list++[⟨zh v.token.kind,[],0,[],false⟩]:=by obtain⟨t,l⟩:=v;rw[tokV]
mutual
theorem jC: ∀v:zg,(tokV v).length<=2*szV v
 |⟨t,l⟩=>by
  rw[tokV,szV];have:=lw l;split
  ·simp;omega
  ·simp;omega
theorem lw: ∀l:List zg,(tokL l).length<=2*szL l
 |[]=>Na _
 |v::r=>by rw[tokL,szL,Ma];have:=jC v;have:=lw r;omega
end
mutual
/-- Whether lists are those of blocks, and have not their closers. -/
def shV:zg->Int->Bool
 |⟨t,l⟩,c=> !((zh t.kind==0&&decide (0<l.length))||(c != 0&&t.kind==c)||(zh t.kind != 0&& !(shL l (zh t.kind))))
def shL:List zg->Int->Bool
 |[],_=>true
 |v::r,c=>shV v c&&shL r c
end
theorem eB(v:zg)(c:Int):shV v c= !((zh v.token.kind==0&&decide (0<v.list.length))||(c != 0&&v.token.kind==c)||(zh v.token.kind != 0&& !(shL v.list (zh v.token.kind)))):=by obtain⟨t,l⟩:=v;rw[shV]
def Si(l:List zg)(c:Int):zm:=⟨Zt l,(tokL l).length, !(shL l c)⟩
theorem OE(c:Int): ∀(l:List zg) (a:Nat×Nat×Bool),l.foldl (fun a v=>(max a.1 (Vg v),a.2.1+(tokV v).length,a.2.2|| !(shV v c))) a=(max a.1 (Zt l),a.2.1+(tokL l).length,a.2.2|| !(shL l c))
 |[],a=>by simp[Zt,tokL,shL]
 |v::l,a=>by rw[List.foldl_cons,OE c l,Zt,tokL,shL,Ma];simp only[Prod.mk.injEq];refine⟨by omega,by omega,?_⟩;cases a.2.2<;>cases shV v c<;>cases shL l c<;>rfl
theorem tJ(a b:Bool):(bif a then true else b)=(a||b):=by cases a<;>rfl
theorem ML(a b:Bool):(bif a then b else false)=(a&&b):=by cases a<;>rfl
theorem eG{l:List zg}{c:Int}(h:szL l<=big):Zu (l,c)=some (Si l c):=by
 refine TM (fun x:List zg×Int=>szL x.1) (fun x=>szL x.1<=big) (fun x=>Si x.1 x.2) (fun S x hl hS=> ?_) h;obtain⟨l,c⟩:=x;simp only at hl hS ⊢;unfold Lm;have hlen:=ow l;refine(lK l (fun i (a:Nat×Nat×Bool)=>((i:Int),(⟨(a.1:Int),(a.2.1:Int),a.2.2⟩:zm))) (fun v a=>some (.again (max a.1 (Vg v),a.2.1+(tokV v).length,a.2.2|| !(shV v c)))) (fun a=>some (.out (⟨(a.1:Int),(a.2.1:Int),a.2.2⟩:zm))) (fun i a=>a.2.1<=2*szL (l.take i)) (a:=(0,0,false)) rfl (by simp) (fun i a hi hI=> ?_) (fun a _=> ?_) (r:= .out (Si l c)) ?_)
 ·have hsz:=kC (List.getElem_mem hi);have hv2:=dB l[i];have hd:=FL l[i];have hd2:=Iy l[i].list;have ht:=Gs l[i];have ht2:=lw l[i].list;have hsh:=eB l[i] c;have htk:=PL hi;have htk2:=LQ l (i+1);have hv3:=jC l[i];have hs1:szL l[i].list<=big:=by omega
  have hs2:szL l[i].list<szL l:=by omega
  have hSq:S (l[i].list,zh l[i].token.kind)=some (Si l[i].list (zh l[i].token.kind)):=hS (l[i].list,zh l[i].token.kind) hs1 hs2;obtain⟨d,n,b⟩:=a;simp only at hI;have hw:=Ju hi (by omega);unfold big at hl;have hw1:w64 ((n:Int)+1)=((n+1:Nat):Int):=by rw[w64,uh (by omega) (by omega)];omega
  refine⟨?_,fun a' ha=> ?_⟩
  ·have hp:decide ((l[i].list.length:Int)>0)=decide (0<l[i].list.length):=iK _;simp only[Ex hi,Ic,zf,Yw hi,aa,uA,Cb,hw1,bne,hp,tJ,ML];by_cases hc:zh l[i].token.kind=0
   ·rw[Ra hc]at hd ht;simp only[hc,Gf,Xe,Bool.not_true,Bool.false_and,Bool.or_false,bne]at hsh ⊢;rw[hsh,hd,ht];rcases Ye (decide (0<l[i].list.length))with h2|h2<;>rcases Ye (c==0)with h3|h3<;>rcases Ye (l[i].token.kind==c)with h4|h4<;>
     simp[h2,h3,h4,hw,Ic,Md]
   ·rw[Ha hc]at hd ht;have hcb:(zh l[i].token.kind==0)=false:=Sb.2 hc;have hw2:w64 ((Zt l[i].list:Int)+1)=((1+Zt l[i].list:Nat):Int):=by rw[w64,uh (by omega) (by omega)];omega
    have hw3:w64 (((n+1:Nat):Int)+((tokL l[i].list).length:Int))=((n+1+(tokL l[i].list).length:Nat):Int):=by rw[w64,uh (by omega) (by omega)];omega
    have hw4:w64 (((n+1+(tokL l[i].list).length:Nat):Int)+1)=((n+(1+((tokL l[i].list).length+1)):Nat):Int):=by rw[w64,uh (by omega) (by omega)];omega
    have htl:(tokV l[i]).length=1+((tokL l[i].list).length+1):=by rw[ht];simp;omega
    have hm:(if((1+Zt l[i].list:Nat):Int)>(d:Int)then((1+Zt l[i].list:Nat):Int)else(d:Int))=((max d (1+Zt l[i].list):Nat):Int):=by split<;>omega
    rw[hsh,hd,htl];simp only[hcb,hSq,Bool.false_and,Bool.not_false,Xe,Bool.or_false,Bool.false_or,Md,bne,aa,Si];rcases Ye (c==0)with h3|h3<;>rcases Ye (l[i].token.kind==c)with h4|h4<;>
     simp only[h3,h4,hw,hw2,hw3,hw4,hm,Ic,Md,Q3,Bool.not_true,Bool.not_false,Xe,Bool.and_true,Bool.and_false,Bool.false_and,Bool.or_true,Bool.or_false,Bool.true_or,Bool.false_or,Bool.not_not]
  ·cases ha;simp only;omega
 ·simp only[Fx,Md];rfl
 ·rw[uF (fun a v=>(max a.1 (Vg v),a.2.1+(tokV v).length,a.2.2|| !(shV v c))) (fun v a=>rfl),OE];simp[Si]
def errS(l:List zg):Int:=if 16<Zt l then 20 else if 1500<(tokL l).length then 4 else if shL l 0 then 0 else 8
theorem YO{l:List zg}(h:szL l<=big):Qn l=some (errS l):=by
 unfold Qn errS;simp only[zf,eG h,aa,Si];by_cases h1:16<Zt l
 ·have:decide ((Zt l:Int)>16)=true:=Ld (by omega);simp[this,h1]
 ·have:decide ((Zt l:Int)>16)=false:=ae (by omega);by_cases h2:1500<(tokL l).length
  ·have h3:decide (((tokL l).length:Int)>1500)=true:=Ld (by omega);simp[this,h1,h2,h3]
  ·have h3:decide (((tokL l).length:Int)>1500)=false:=ae (by omega);cases h4:shL l 0<;>simp[this,h1,h2,h3]
theorem vF{l:List zg}(h:szL l<=big):qY l=some (if errS l=0 then((Zt l:Int),0)else(0,errS l)):=by
 unfold qY;simp only[zf,YO h,eG h,aa,Si];by_cases h1:errS l=0
 ·simp[h1]
 ·have h2:(errS l != 0)=true:=bne_iff_ne.2 h1;simp[h1,h2]
end Go.Lv.VT

namespace Go.Lv
namespace VT
def mx{α:Type}(f:α->Nat):List α->Nat
 |[]=>0
 |v::l=>max (f v) (mx f l)
end VT
end Go.Lv

namespace Go.Lv.VT
set_option maxRecDepth 100000
theorem vo:ZU ()=some true:=VS 400 _ _ (by decide+kernel)
inductive Cuts (k:Int):List zg->List (List zg)->Prop
 |one (p:List zg) (h: ∀x∈p,(x.token.kind==k)=false):Cuts k p [p]
 |more (p:List zg) (s:zg) (v:List zg) (ps:List (List zg)) (h: ∀x∈p,(x.token.kind==k)=false) (hs:(s.token.kind==k)=true) (hc:Cuts k v ps):Cuts k (p++s::v) (p::ps)
end Go.Lv.VT
