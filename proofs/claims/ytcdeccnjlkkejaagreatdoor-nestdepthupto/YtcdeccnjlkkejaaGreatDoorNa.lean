/- How large values are. -/
import Derived.Test.YtcdeccnjlkkejaaGreatDoorIp
import Derived.Test.YtcdeccnjlkkejaaGreatDoorLaw
import Derived.Test.YtcdeccnjlkkejaaGreatDoorLf
import Derived.Test.YtcdeccnjlkkejaaGreatDoorMo
import Derived.Test.YtcdeccnjlkkejaaGreatDoorLe
import Derived.Test.YtcdeccnjlkkejaaGreatDoorTx
import Derived.KernelRfl
set_option linter.unusedSimpArgs false
set_option linter.unusedVariables false
namespace Go.Lv.VT
def zL{α:Type}(f:α->List PV)(l:List α):Nat:=mi (l.map f)
theorem BJ{α:Type}(f:α->List PV)(v:α)(l:List α):zL f (v::l)=Qb (f v)+zL f l:=rfl
theorem XM(x:ze):Qb (Zq x)=5+x.text.length+x.unit.length:=by unfold Zq;simp only[Qb,bPV];omega
mutual
/-- How large values are. -/
def szV:zg->Nat
 |⟨t,l⟩=>1+t.text.length+t.unit.length+szL l
def szL:List zg->Nat
 |[]=>0
 |v::r=>szV v+szL r
end
theorem aB(v:zg):szV v=1+v.token.text.length+v.token.unit.length+szL v.list:=by obtain⟨t,l⟩:=v;rw[szV]
theorem aC{v:zg}: ∀{l:List zg},v∈l->szV v<=szL l
 |[],h=>by cases h
 |x::l,h=>by
  rw[szL];rcases Oa.1 h with rfl|h
  ·omega
  ·have:=aC h;omega
theorem lw: ∀(l:List zg),l.length<=szL l
 |[]=>Na _
 |v::r=>by rw[szL,aB,Sa];have:=lw r;omega
theorem fK(n:Nat):decide ((n:Int)>0)=decide (0<n):=by
 grind
theorem BO(k:Int):gq k=some (zh k):=by
 unfold gq zh;by_cases h1:k=19
 ·subst h1;rfl
 by_cases h2:k=21
 ·subst h2;rfl
 by_cases h3:k=2
 ·subst h3;rfl
 by_cases h4:k=23
 ·subst h4;rfl
 have e1:(k==19)=false:=Pb.2 h1;have e2:(k==21)=false:=Pb.2 h2;have e3:(k==2)=false:=Pb.2 h3;have e4:(k==23)=false:=Pb.2 h4;simp only[e1,e2,e3,e4,Gd,Q0,h1,h2,h3,h4,if_false,or_self]
theorem iA(k:Int):Zh k=some (zh k):=by
 unfold Zh zh;by_cases h1:k=19
 ·subst h1;rfl
 by_cases h2:k=21
 ·subst h2;rfl
 by_cases h3:k=2
 ·subst h3;rfl
 by_cases h4:k=23
 ·subst h4;rfl
 have e1:(k==19)=false:=Pb.2 h1;have e2:(k==21)=false:=Pb.2 h2;have e3:(k==2)=false:=Pb.2 h3;have e4:(k==23)=false:=Pb.2 h4;simp only[e1,e2,e3,e4,Gd,Q0,h1,h2,h3,h4,if_false,or_self]
mutual
/-- The depth of values. -/
def Ug:zg->Nat
 |⟨t,l⟩=>if zh t.kind=0 then 0 else 1+Zz l
def Zz:List zg->Nat
 |[]=>0
 |v::r=>max (Ug v) (Zz r)
end
theorem CL(v:zg):Ug v=if zh v.token.kind=0 then 0 else 1+Zz v.list:=by obtain⟨t,l⟩:=v;rw[Ug]
mutual
theorem BL: ∀v:zg,Ug v<=szV v
 |⟨t,l⟩=>by rw[Ug,szV];have:=Fy l;split<;>omega
theorem Fy: ∀l:List zg,Zz l<=szL l
 |[]=>Na _
 |v::r=>by rw[Zz,szL];have:=BL v;have:=Fy r;omega
end
theorem ML{l:List zg}: ∀{i:Nat} (h:i<l.length),szL (l.take (i+1))=szL (l.take i)+szV l[i]:=by
 induction l with
 |nil=>grind
 |cons v r ih=>
  intro i h;cases i with
  |zero=>simp[szL]
  |succ i=>
   simp only[Vf,szL,List.getElem_cons_succ]
   grind
theorem JQ(l:List zg)(i:Nat):szL (l.take i)<=szL l:=by
 induction l generalizing i with
 |nil=>simp
 |cons v r ih=>
  cases i with
  |zero=>simp[szL]
  |succ i=>simp only[Vf,szL];grind
mutual
/-- The tokens of values. -/
def tokV:zg->List ze
 |⟨t,l⟩=>t::if zh t.kind=0 then []else tokL l++[⟨zh t.kind,[],0,[],false⟩]
def tokL:List zg->List ze
 |[]=>[]
 |v::r=>tokV v++tokL r
end
theorem Es(v:zg):tokV v=v.token::if zh v.token.kind=0 then []else tokL v.list++[⟨zh v.token.kind,[],0,[],false⟩]:=by obtain⟨t,l⟩:=v;rw[tokV]
mutual
theorem YC: ∀v:zg,(tokV v).length<=2*szV v
 |⟨t,l⟩=>by
  rw[tokV,szV];have:=kw l
  grind
theorem kw: ∀l:List zg,(tokL l).length<=2*szL l
 |[]=>Na _
 |v::r=>by rw[tokL,szL,Ma];have:=YC v;have:=kw r;omega
end
mutual
/-- Whether lists are those of blocks, and have not their closers. -/
def shV:zg->Int->Bool
 |⟨t,l⟩,c=> !((zh t.kind==0&&decide (0<l.length))||(c != 0&&t.kind==c)||(zh t.kind != 0&& !(shL l (zh t.kind))))
def shL:List zg->Int->Bool
 |[],_=>true
 |v::r,c=>shV v c&&shL r c
end
theorem bB(v:zg)(c:Int):shV v c= !((zh v.token.kind==0&&decide (0<v.list.length))||(c != 0&&v.token.kind==c)||(zh v.token.kind != 0&& !(shL v.list (zh v.token.kind)))):=by obtain⟨t,l⟩:=v;rw[shV]
def Pi(l:List zg)(c:Int):zm:=⟨Zz l,(tokL l).length, !(shL l c)⟩
theorem ME(c:Int): ∀(l:List zg) (a:Nat×Nat×Bool),l.foldl (fun a v=>(max a.1 (Ug v),a.2.1+(tokV v).length,a.2.2|| !(shV v c))) a=(max a.1 (Zz l),a.2.1+(tokL l).length,a.2.2|| !(shL l c))
 |[],a=>by simp[Zz,tokL,shL]
 |v::l,a=>by
  rw[List.foldl_cons,ME c l,Zz,tokL,shL,Ma];simp only[Prod.mk.injEq]
  grind
theorem rJ(a b:Bool):(bif a then true else b)=(a||b):=by cases a<;>rfl
theorem JL(a b:Bool):(bif a then b else false)=(a&&b):=by cases a<;>rfl
theorem bG{l:List zg}{c:Int}(h:szL l<=big):Zt (l,c)=some (Pi l c):=by
 refine OM (fun x:List zg×Int=>szL x.1) (fun x=>szL x.1<=big) (fun x=>Pi x.1 x.2) (fun S x hl hS=> ?_) h;obtain⟨l,c⟩:=x;simp only at hl hS ⊢;unfold Jm;have hlen:=lw l;refine(jK l (fun i (a:Nat×Nat×Bool)=>((i:Int),(⟨(a.1:Int),(a.2.1:Int),a.2.2⟩:zm))) (fun v a=>some (.again (max a.1 (Ug v),a.2.1+(tokV v).length,a.2.2|| !(shV v c)))) (fun a=>some (.out (⟨(a.1:Int),(a.2.1:Int),a.2.2⟩:zm))) (fun i a=>a.2.1<=2*szL (l.take i)) (a:=(0,0,false)) rfl (by simp) (fun i a hi hI=> ?_) (fun a _=> ?_) (r:= .out (Pi l c)) ?_)
 ·have hsz:=aC (List.getElem_mem hi);have hv2:=aB l[i];have hd:=CL l[i];have hd2:=Fy l[i].list;have ht:=Es l[i];have ht2:=kw l[i].list;have hsh:=bB l[i] c;have htk:=ML hi;have htk2:=JQ l (i+1);have hv3:=YC l[i];have hs1:szL l[i].list<=big:=by omega
  have hs2:szL l[i].list<szL l:=by omega
  have hSq:S (l[i].list,zh l[i].token.kind)=some (Pi l[i].list (zh l[i].token.kind)):=hS (l[i].list,zh l[i].token.kind) hs1 hs2;obtain⟨d,n,b⟩:=a;simp only at hI;have hw:=Hu hi (by omega);unfold big at hl;have hw1:w64 ((n:Int)+1)=((n+1:Nat):Int):=by rw[w64,mh (by omega) (by omega)];omega
  refine⟨?_,fun a' ha=> ?_⟩
  ·have hp:decide ((l[i].list.length:Int)>0)=decide (0<l[i].list.length):=fK _;simp only[Dx hi,Cc,zf,Ww hi,Ya,iA,Bb,hw1,bne,hp,rJ,JL];by_cases hc:zh l[i].token.kind=0
   ·rw[Ta hc]at hd ht;simp only[hc,Bf,Te,Bool.not_true,Bool.false_and,Bool.or_false,bne]at hsh ⊢;rw[hsh,hd,ht];rcases Ue (decide (0<l[i].list.length))with h2|h2<;>rcases Ue (c==0)with h3|h3<;>rcases Ue (l[i].token.kind==c)with h4|h4<;>
     simp[h2,h3,h4,hw,Cc,Gd]
   ·rw[Ka hc]at hd ht;have hcb:(zh l[i].token.kind==0)=false:=Pb.2 hc;have hw2:w64 ((Zz l[i].list:Int)+1)=((1+Zz l[i].list:Nat):Int):=by rw[w64,mh (by omega) (by omega)];omega
    have hw3:w64 (((n+1:Nat):Int)+((tokL l[i].list).length:Int))=((n+1+(tokL l[i].list).length:Nat):Int):=by rw[w64,mh (by omega) (by omega)];omega
    have hw4:w64 (((n+1+(tokL l[i].list).length:Nat):Int)+1)=((n+(1+((tokL l[i].list).length+1)):Nat):Int):=by rw[w64,mh (by omega) (by omega)];omega
    have htl:(tokV l[i]).length=1+((tokL l[i].list).length+1):=by rw[ht];simp;omega
    have hm:(if((1+Zz l[i].list:Nat):Int)>(d:Int)then((1+Zz l[i].list:Nat):Int)else(d:Int))=((max d (1+Zz l[i].list):Nat):Int):=by split<;>omega
    rw[hsh,hd,htl];simp only[hcb,hSq,Bool.false_and,Bool.not_false,Te,Bool.or_false,Bool.false_or,Gd,bne,Ya,Pi];rcases Ue (c==0)with h3|h3<;>rcases Ue (l[i].token.kind==c)with h4|h4<;>
     simp only[h3,h4,hw,hw2,hw3,hw4,hm,Cc,Gd,Q0,Bool.not_true,Bool.not_false,Te,Bool.and_true,Bool.and_false,Bool.false_and,Bool.or_true,Bool.or_false,Bool.true_or,Bool.false_or,Bool.not_not]
  grind
 ·grind
 ·rw[sF (fun a v=>(max a.1 (Ug v),a.2.1+(tokV v).length,a.2.2|| !(shV v c))) (fun v a=>rfl),ME];simp[Pi]
def errS(l:List zg):Int:=if 16<Zz l then 20 else if 1500<(tokL l).length then 4 else if shL l 0 then 0 else 8
theorem WO{l:List zg}(h:szL l<=big):Qn l=some (errS l):=by
 unfold Qn errS;simp only[zf,bG h,Ya,Pi]
 grind
theorem tF{l:List zg}(h:szL l<=big):qY l=some (if errS l=0 then((Zz l:Int),0)else(0,errS l)):=by
 unfold qY;simp only[zf,WO h,bG h,Ya,Pi]
 grind
end Go.Lv.VT

namespace Go.Lv
namespace VT
def mx{α:Type}(f:α->Nat):List α->Nat
 |[]=>0
 |v::l=>max (f v) (mx f l)
end VT
end Go.Lv

namespace Go.Lv.VT
set_option maxRecDepth 100000
theorem mo:ZU ()=some true:=RS 400 _ _ (by decide+kernel)
inductive Cuts (k:Int):List zg->List (List zg)->Prop
 |one (p:List zg) (h: ∀x∈p,(x.token.kind==k)=false):Cuts k p [p]
 |more (p:List zg) (s:zg) (v:List zg) (ps:List (List zg)) (h: ∀x∈p,(x.token.kind==k)=false) (hs:(s.token.kind==k)=true) (hc:Cuts k v ps):Cuts k (p++s::v) (p::ps)
end Go.Lv.VT
