/- How large values are. -/
import Derived.Test.YtcdeccnjlkkejaaGreatDoorIp
import Derived.Test.YtcdeccnjlkkejaaGreatDoorLaw
import Derived.Test.YtcdeccnjlkkejaaGreatDoorLf
import Derived.Test.YtcdeccnjlkkejaaGreatDoorMo
import Derived.Test.YtcdeccnjlkkejaaGreatDoorLe
import Derived.Test.YtcdeccnjlkkejaaGreatDoorTx
set_option linter.unusedSimpArgs false
set_option linter.unusedVariables false
namespace Go.Lv.VT
mutual
/-- How large values are. -/
def szV:zg->Nat
 |⟨t,l⟩=>1+t.text.length+t.unit.length+szL l
def szL:List zg->Nat
 |[]=>0
 |v::r=>szV v+szL r
end
theorem kr(v:zg):szV v=1+v.token.text.length+v.token.unit.length+szL v.list:=by obtain⟨t,l⟩:=v;rw[szV]
theorem Xt{v:zg}: ∀{l:List zg},v∈l->szV v<=szL l
 |[],h=>by cases h
 |x::l,h=>by
  rw[szL];rcases ja.1 h with rfl|h
  ·omega
  ·have:=Xt h;omega
theorem Yt: ∀(l:List zg),l.length<=szL l
 |[]=>Va _
 |v::r=>by rw[szL,kr,Ia];have:=Yt r;omega
theorem zCT(n:Nat):decide ((n:Int)>0)=decide (0<n):=by
 by_cases h:0<n
 ·rw[La h,La (by omega)]
 ·rw[Ib h,Ib (by omega)]
theorem H7(k:Int):oz k=some (zo k):=by
 unfold oz zo;by_cases h1:k=19
 ·subst h1;rfl
 by_cases h2:k=21
 ·subst h2;rfl
 by_cases h3:k=2
 ·subst h3;rfl
 by_cases h4:k=23
 ·subst h4;rfl
 have e1:(k==19)=false:=Fa.2 h1;have e2:(k==21)=false:=Fa.2 h2;have e3:(k==2)=false:=Fa.2 h3;have e4:(k==23)=false:=Fa.2 h4;simp only[e1,e2,e3,e4,Ha,zh,h1,h2,h3,h4,Ye,or_self]
theorem wz(k:Int):qa k=some (zo k):=by
 unfold qa zo;by_cases h1:k=19
 ·subst h1;rfl
 by_cases h2:k=21
 ·subst h2;rfl
 by_cases h3:k=2
 ·subst h3;rfl
 by_cases h4:k=23
 ·subst h4;rfl
 have e1:(k==19)=false:=Fa.2 h1;have e2:(k==21)=false:=Fa.2 h2;have e3:(k==2)=false:=Fa.2 h3;have e4:(k==23)=false:=Fa.2 h4;simp only[e1,e2,e3,e4,Ha,zh,h1,h2,h3,h4,Ye,or_self]
mutual
/-- The depth of values. -/
def Rj:zg->Nat
 |⟨t,l⟩=>if zo t.kind=0 then 0 else 1+Yg l
def Yg:List zg->Nat
 |[]=>0
 |v::r=>max (Rj v) (Yg r)
end
theorem nX(v:zg):Rj v=if zo v.token.kind=0 then 0 else 1+Yg v.list:=by obtain⟨t,l⟩:=v;rw[Rj]
mutual
theorem mX: ∀v:zg,Rj v<=szV v
 |⟨t,l⟩=>by rw[Rj,szV];have:=dH l;split<;>omega
theorem dH: ∀l:List zg,Yg l<=szL l
 |[]=>Va _
 |v::r=>by rw[Yg,szL];have:=mX v;have:=dH r;omega
end
theorem NC{l:List zg}: ∀{i:Nat} (h:i<l.length),szL (l.take (i+1))=szL (l.take i)+szV l[i]:=by
 induction l with
 |nil=>intro i h;cases h
 |cons v r ih=>
  intro i h;cases i with
  |zero=>simp[szL]
  |succ i=> simp only[df,szL,List.getElem_cons_succ];rw[ih (by simpa using h)];omega
theorem OE(l:List zg)(i:Nat):szL (l.take i)<=szL l:=by
 induction l generalizing i with
 |nil=>simp
 |cons v r ih=>
  cases i with
  |zero=>simp[szL]
  |succ i=>simp only[df,szL];have:=ih i;omega
mutual
/-- The tokens of values. -/
def tokV:zg->List zb
 |⟨t,l⟩=>t::if zo t.kind=0 then []else tokL l++[⟨zo t.kind,[],0,[],false⟩]
def tokL:List zg->List zb
 |[]=>[]
 |v::r=>tokV v++tokL r
end
theorem Lp(v:zg):tokV v=v.token::if zo v.token.kind=0 then []else tokL v.list++[⟨zo v.token.kind,[],0,[],false⟩]:=by obtain⟨t,l⟩:=v;rw[tokV]
mutual
theorem ow: ∀v:zg,(tokV v).length<=2*szV v
 |⟨t,l⟩=>by
  rw[tokV,szV];have:=Lt l;split
  ·simp;omega
  ·simp;omega
theorem Lt: ∀l:List zg,(tokL l).length<=2*szL l
 |[]=>Va _
 |v::r=>by rw[tokL,szL,Ba];have:=ow v;have:=Lt r;omega
end
theorem TD: ∀(l:List zg) (a:List zb),l.foldl (fun a v=>a++tokV v) a=a++tokL l
 |[],a=>by simp[tokL]
 |v::l,a=>by rw[List.foldl_cons,TD l,tokL,Ra]
theorem G7{l:List zg}(h:szL l<=big):qy l=some (tokL l):=by
 refine aD (fun l=>szL l) (fun l=>szL l<=big) (fun l=>tokL l) (fun S l hl hS=> ?_) h;unfold CF;have hlen:=Yt l;refine(Ty l (fun i (a:List zb)=>((i:Int),a)) (fun v a=>some (.again (a++tokV v))) (fun a=>some (.out a)) (fun i a=>a.length<=2*szL (l.take i)) (a:=[]) rfl (by simp) (fun i a hi hI=> ?_) (fun a _=> ?_) (r:= .out (tokL l)) ?_)
 ·have hsz:=Xt (Ue hi);have hv2:=kr l[i];have hd:=Lp l[i];have hd2:=Lt l[i].list;have ht:=NC hi;have ht2:=OE l (i+1);have hv3:=ow l[i];unfold big at hl;have hap: ∀n m:Nat,n+m<=100000000->Zb n m 56=true:=fun n m h=>nH (by omega);refine⟨?_,fun a' ha=> ?_⟩
  ·simp only[Xk hi,Ja,ze,QX hi,Aa,H7];by_cases hc:zo l[i].token.kind=0
   ·rw[Ka hc]at hd;simp[hc,hd,Qd hi (by unfold big;omega),hap a.length 1 (by omega)]
   ·rw[Ga hc]at hd;rw[hS l[i].list (by unfold big;omega) (by omega)];have hb:(zo l[i].token.kind != 0)=true:=Bg.2 hc;simp[hb,hd,Qd hi (by unfold big;omega),hap a.length 1 (by omega),hap (a.length+1) (tokL l[i].list).length (by omega),hap (a.length+((tokL l[i].list).length+1)) 1 (by omega)]
  ·cases ha;rw[Ba,ht];omega
 ·simp only[Hl,Ha];rfl
 ·rw[Wu (fun a v=>a++tokV v) (fun v a=>rfl),TD];simp
mutual
/-- Whether lists are those of blocks, and have not their closers. -/
def shV:zg->Int->Bool
 |⟨t,l⟩,c=> !((zo t.kind==0&&decide (0<l.length))||(c != 0&&t.kind==c)||(zo t.kind != 0&& !(shL l (zo t.kind))))
def shL:List zg->Int->Bool
 |[],_=>true
 |v::r,c=>shV v c&&shL r c
end
theorem zEk(v:zg)(c:Int):shV v c= !((zo v.token.kind==0&&decide (0<v.list.length))||(c != 0&&v.token.kind==c)||(zo v.token.kind != 0&& !(shL v.list (zo v.token.kind)))):=by obtain⟨t,l⟩:=v;rw[shV]
def ym(l:List zg)(c:Int):zH:=⟨Yg l,(tokL l).length, !(shL l c)⟩
theorem aQ(c:Int): ∀(l:List zg) (a:Nat×Nat×Bool),l.foldl (fun a v=>(max a.1 (Rj v),a.2.1+(tokV v).length,a.2.2|| !(shV v c))) a=(max a.1 (Yg l),a.2.1+(tokL l).length,a.2.2|| !(shL l c))
 |[],a=>by simp[Yg,tokL,shL]
 |v::l,a=>by rw[List.foldl_cons,aQ c l,Yg,tokL,shL,Ba];simp only[Prod.mk.injEq];refine⟨by omega,by omega,?_⟩;cases a.2.2<;>cases shV v c<;>cases shL l c<;>rfl
theorem zBS(a b:Bool):(bif a then true else b)=(a||b):=by cases a<;>rfl
theorem xX(a b:Bool):(bif a then b else false)=(a&&b):=by cases a<;>rfl
theorem nT{l:List zg}{c:Int}(h:szL l<=big):QG (l,c)=some (ym l c):=by
 refine aD (fun x:List zg×Int=>szL x.1) (fun x=>szL x.1<=big) (fun x=>ym x.1 x.2) (fun S x hl hS=> ?_) h;obtain⟨l,c⟩:=x;simp only at hl hS ⊢;unfold WE;have hlen:=Yt l;refine(Ty l (fun i (a:Nat×Nat×Bool)=>((i:Int),(⟨(a.1:Int),(a.2.1:Int),a.2.2⟩:zH))) (fun v a=>some (.again (max a.1 (Rj v),a.2.1+(tokV v).length,a.2.2|| !(shV v c)))) (fun a=>some (.out (⟨(a.1:Int),(a.2.1:Int),a.2.2⟩:zH))) (fun i a=>a.2.1<=2*szL (l.take i)) (a:=(0,0,false)) rfl (by simp) (fun i a hi hI=> ?_) (fun a _=> ?_) (r:= .out (ym l c)) ?_)
 ·have hsz:=Xt (Ue hi);have hv2:=kr l[i];have hd:=nX l[i];have hd2:=dH l[i].list;have ht:=Lp l[i];have ht2:=Lt l[i].list;have hsh:=zEk l[i] c;have htk:=NC hi;have htk2:=OE l (i+1);have hv3:=ow l[i];have hs1:szL l[i].list<=big:=by omega
  have hs2:szL l[i].list<szL l:=by omega
  have hSq:S (l[i].list,zo l[i].token.kind)=some (ym l[i].list (zo l[i].token.kind)):=hS (l[i].list,zo l[i].token.kind) hs1 hs2;obtain⟨d,n,b⟩:=a;simp only at hI;have hw:=Qd hi (by omega);unfold big at hl;have hw1:w64 ((n:Int)+1)=((n+1:Nat):Int):=by rw[w64,Gm (by omega) (by omega)];omega
  refine⟨?_,fun a' ha=> ?_⟩
  ·have hp:decide ((l[i].list.length:Int)>0)=decide (0<l[i].list.length):=zCT _;simp only[Xk hi,Ja,ze,QX hi,Aa,wz,Jb,hw1,bne,hp,zBS,xX];by_cases hc:zo l[i].token.kind=0
   ·rw[Ka hc]at hd ht;simp only[hc,mf,Xb,Oc,Yc,Rf,bne]at hsh ⊢;rw[hsh,hd,ht];rcases Kg (decide (0<l[i].list.length))with h2|h2<;>rcases Kg (c==0)with h3|h3<;>rcases Kg (l[i].token.kind==c)with h4|h4<;>
     simp[h2,h3,h4,hw,Ja,Ha]
   ·rw[Ga hc]at hd ht;have hcb:(zo l[i].token.kind==0)=false:=Fa.2 hc;have hw2:w64 ((Yg l[i].list:Int)+1)=((1+Yg l[i].list:Nat):Int):=by rw[w64,Gm (by omega) (by omega)];omega
    have hw3:w64 (((n+1:Nat):Int)+((tokL l[i].list).length:Int))=((n+1+(tokL l[i].list).length:Nat):Int):=by rw[w64,Gm (by omega) (by omega)];omega
    have hw4:w64 (((n+1+(tokL l[i].list).length:Nat):Int)+1)=((n+(1+((tokL l[i].list).length+1)):Nat):Int):=by rw[w64,Gm (by omega) (by omega)];omega
    have htl:(tokV l[i]).length=1+((tokL l[i].list).length+1):=by rw[ht];simp;omega
    have hm:(if((1+Yg l[i].list:Nat):Int)>(d:Int)then((1+Yg l[i].list:Nat):Int)else(d:Int))=((max d (1+Yg l[i].list):Nat):Int):=by split<;>omega
    rw[hsh,hd,htl];simp only[hcb,hSq,Yc,Ec,Xb,Rf,jd,Ha,bne,Aa,ym];rcases Kg (c==0)with h3|h3<;>rcases Kg (l[i].token.kind==c)with h4|h4<;>
     simp only[h3,h4,hw,hw2,hw3,hw4,hm,Ja,Ha,zh,Oc,Ec,Xb,Xc,xe,Yc,af,Rf,Hf,jd,Bool.not_not]
  ·cases ha;simp only;omega
 ·simp only[Hl,Ha];rfl
 ·rw[Wu (fun a v=>(max a.1 (Rj v),a.2.1+(tokV v).length,a.2.2|| !(shV v c))) (fun v a=>rfl),aQ];simp[ym]
def errS(l:List zg):Int:=if 16<Yg l then 20 else if 1500<(tokL l).length then 4 else if shL l 0 then 0 else 8
theorem iR{l:List zg}(h:szL l<=big):Mq l=some (errS l):=by
 unfold Mq errS;simp only[ze,nT h,Aa,ym];by_cases h1:16<Yg l
 ·have:decide ((Yg l:Int)>16)=true:=La (by omega);simp[this,h1]
 ·have:decide ((Yg l:Int)>16)=false:=Ib (by omega);by_cases h2:1500<(tokL l).length
  ·have h3:decide (((tokL l).length:Int)>1500)=true:=La (by omega);simp[this,h1,h2,h3]
  ·have h3:decide (((tokL l).length:Int)>1500)=false:=Ib (by omega);cases h4:shL l 0<;>simp[this,h1,h2,h3]
theorem V5{l:List zg}(h:szL l<=big):au l=some (if errS l=0 then((Yg l:Int),0)else(0,errS l)):=by
 unfold au;simp only[ze,iR h,nT h,Aa,ym];by_cases h1:errS l=0
 ·simp[h1]
 ·have h2:(errS l != 0)=true:=Bg.2 h1;simp[h1,h2]
theorem dY{l:List zg}{a:List zb}(h:szL l<=big)(ha:a.length+2*szL l<=4*big):qX (l,a)=some (a++tokL l):=by
 refine aD (fun z=>szL z.1) (fun z=>szL z.1<=big/\z.2.length+2*szL z.1<=4*big) (fun z=>z.2++tokL z.1) (fun S z hz hS=> ?_) (x:=(l,a)) ⟨h,ha⟩;obtain⟨l,a⟩:=z;obtain⟨h,ha⟩:=hz;have h:szL l<=big:=h;have ha:a.length+2*szL l<=4*big:=ha;have hlen:=Yt l;unfold nE;refine(Ty l (fun i (b:List zb)=>((i:Int),b)) (fun v b=>some (.again (b++tokV v))) (fun b=>some (.out b)) (fun i b=>b.length<=a.length+2*szL (l.take i)) (a:=a) rfl (by simp) (fun i b hi hI=> ?_) (fun b _=> ?_) (r:= .out (a++tokL l)) ?_).trans rfl
 ·have hsz:=Xt (Ue hi);have hv2:=kr l[i];have hd:=Lp l[i];have hd2:=Lt l[i].list;have ht:=NC hi;have ht2:=OE l (i+1);have hv3:=ow l[i];unfold big at h ha;have hap: ∀n m:Nat,n+m<=100000000->Zb n m 56=true:=fun n m h=>nH (by omega);refine⟨?_,fun a' ha'=> ?_⟩
  ·simp only[Xk hi,Ja,ze,QX hi,Aa,wz];by_cases hc:zo l[i].token.kind=0
   ·rw[Ka hc]at hd;simp[hc,hd,Qd hi (by unfold big;omega),hap b.length 1 (by omega)]
   ·rw[Ga hc]at hd;rw[hS (l[i].list,b++[l[i].token]) ⟨by show szL l[i].list<=big;unfold big;omega,by show(b++[l[i].token]).length+2*szL l[i].list<=4*big;unfold big;rw[Ba,Eb];omega⟩ (by show szL l[i].list<szL l;omega)];have hb:(zo l[i].token.kind != 0)=true:=Bg.2 hc;simp[hb,hd,Qd hi (by unfold big;omega),hap b.length 1 (by omega),hap (b.length+((tokL l[i].list).length+1)) 1 (by omega)]
  ·cases ha';rw[Ba,ht];omega
 ·simp only[Hl,Ha];rfl
 ·rw[Wu (fun a v=>a++tokV v) (fun v a=>rfl),TD]
theorem eY{l:List zg}(h:szL l<=big):gu l=some (tokL l):=by
 have hlen:=Yt l;unfold gu;refine(Ty l (fun i (b:List zb)=>((i:Int),b)) (fun v b=>some (.again (b++tokV v))) (fun b=>some (.out b)) (fun i b=>b.length<=2*szL (l.take i)) (a:=[]) rfl (by simp) (fun i b hi hI=> ?_) (fun b _=> ?_) (r:= .out (tokL l)) ?_).trans rfl
 ·have hsz:=Xt (Ue hi);have hv2:=kr l[i];have hd:=Lp l[i];have hd2:=Lt l[i].list;have ht:=NC hi;have ht2:=OE l (i+1);have hv3:=ow l[i];unfold big at h;have hap: ∀n m:Nat,n+m<=100000000->Zb n m 56=true:=fun n m h=>nH (by omega);refine⟨?_,fun a' ha'=> ?_⟩
  ·simp only[Xk hi,Ja,ze,QX hi,Aa,wz];by_cases hc:zo l[i].token.kind=0
   ·rw[Ka hc]at hd;simp[hc,hd,Qd hi (by unfold big;omega),hap b.length 1 (by omega)]
   ·rw[Ga hc]at hd;rw[dY (a:=b++[l[i].token]) (show szL l[i].list<=big by unfold big;omega) (by unfold big;rw[Ba,Eb];omega)];have hb:(zo l[i].token.kind != 0)=true:=Bg.2 hc;simp[hb,hd,Qd hi (by unfold big;omega),hap b.length 1 (by omega),hap (b.length+((tokL l[i].list).length+1)) 1 (by omega)]
  ·cases ha';rw[Ba,ht];omega
 ·simp only[Hl,Ha];rfl
 ·rw[Wu (fun a v=>a++tokV v) (fun v a=>rfl),TD];simp
end Go.Lv.VT

namespace Go.Lv
namespace VT
def mx{α:Type}(f:α->Nat):List α->Nat
 |[]=>0
 |v::l=>max (f v) (mx f l)
end VT
end Go.Lv

namespace Go.Lv.VT
set_option maxRecDepth 100000
theorem zAs{a:List zg}(h:szL a<=big):QQ (a,a)=some true:=by
 refine aD (fun x:List zg×List zg=>szL x.1) (fun x=>szL x.1<=big/\x.1=x.2) (fun x=>true) (fun S x hl hS=> ?_) (show szL (a,a).1<=big/\(a,a).1=(a,a).2 from⟨h,rfl⟩);obtain⟨l,l'⟩:=x;obtain⟨hl,he⟩:=hl;simp only at hl hS he;subst he;unfold XE;have hlen:=Yt l;have hne:((l.length:Int) != (l.length:Int))=false:=by simp
 simp only[hne,Ha];refine(JY l (fun i (_:Unit)=>(i:Int)) (fun v (_:Unit)=>some (.again ())) (fun _=>some (.out ())) (a:=()) rfl (fun i a hi=> ?_) (fun a=> ?_) (r:= .out ()) ?_)
 ·have hsz:=Xt (Ue hi);have hv2:=kr l[i];have hs1:szL l[i].list<=big:=by omega
  have hs2:szL l[i].list<szL l:=by omega
  have hS':S (l[i].list,l[i].list)=some true:=hS (l[i].list,l[i].list) ⟨hs1,rfl⟩ hs2;simp[hi,QX hi,hS',Qd hi (by omega)]
 ·simp only[Hl,Ha];rfl
 ·rw[Wu (fun a v=>a) (fun v a=>rfl)]
end Go.Lv.VT
