/- How large values are. -/
import Derived.Test.YtcdeccnjlkkejaaGreatDoorIp
import Derived.Test.YtcdeccnjlkkejaaGreatDoorLaw
import Derived.Test.YtcdeccnjlkkejaaGreatDoorLf
import Derived.Test.YtcdeccnjlkkejaaGreatDoorMo
import Derived.Test.YtcdeccnjlkkejaaGreatDoorLe
import Derived.Test.YtcdeccnjlkkejaaGreatDoorTx
set_option linter.unusedSimpArgs false
set_option linter.unusedVariables false
namespace Go.Lv.VT
def zL{α:Type}(f:α->List PV)(l:List α):Nat:=Yp (l.map f)
theorem kZ{α:Type}(f:α->List PV)(v:α)(l:List α):zL f (v::l)=Qk (f v)+zL f l:=rfl
theorem zAv(x:zb):Qk (ZW x)=5+x.text.length+x.unit.length:=by unfold ZW;simp only[Qk,bPV];omega
theorem zAw(x:zg):Qk (zu x)=6+x.token.text.length+x.token.unit.length+zL zu x.list:=by rw[znI];simp only[Qk,bPV,zL];omega
mutual
/-- How large values are. -/
def szV:zg->Nat
 |⟨t,l⟩=>1+t.text.length+t.unit.length+szL l
def szL:List zg->Nat
 |[]=>0
 |v::r=>szV v+szL r
end
theorem ll(v:zg):szV v=1+v.token.text.length+v.token.unit.length+szL v.list:=by obtain⟨t,l⟩:=v;rw[szV]
theorem lm{v:zg}: ∀{l:List zg},v∈l->szV v<=szL l
 |[],h=>by cases h
 |x::l,h=>by
  rw[szL];rcases Cb.1 h with rfl|h
  ·omega
  ·have:=lm h;omega
theorem om: ∀(l:List zg),l.length<=szL l
 |[]=>Ya _
 |v::r=>by rw[szL,ll,Fa];have:=om r;omega
theorem lN(n:Nat):decide ((n:Int)>0)=decide (0<n):=by
 by_cases h:0<n
 ·rw[Ha h,Ha (by omega)]
 ·rw[Xa h,Xa (by omega)]
theorem jF(k:Int):qo k=some (zt k):=by
 unfold qo zt;by_cases h1:k=19
 ·subst h1;rfl
 by_cases h2:k=21
 ·subst h2;rfl
 by_cases h3:k=2
 ·subst h3;rfl
 by_cases h4:k=23
 ·subst h4;rfl
 have e1:(k==19)=false:=Ia.2 h1;have e2:(k==21)=false:=Ia.2 h2;have e3:(k==2)=false:=Ia.2 h3;have e4:(k==23)=false:=Ia.2 h4;simp only[e1,e2,e3,e4,Ca,zh,h1,h2,h3,h4,Ve,or_self]
theorem xB(k:Int):qB k=some (zt k):=by
 unfold qB zt;by_cases h1:k=19
 ·subst h1;rfl
 by_cases h2:k=21
 ·subst h2;rfl
 by_cases h3:k=2
 ·subst h3;rfl
 by_cases h4:k=23
 ·subst h4;rfl
 have e1:(k==19)=false:=Ia.2 h1;have e2:(k==21)=false:=Ia.2 h2;have e3:(k==2)=false:=Ia.2 h3;have e4:(k==23)=false:=Ia.2 h4;simp only[e1,e2,e3,e4,Ca,zh,h1,h2,h3,h4,Ve,or_self]
mutual
/-- The depth of values. -/
def jk:zg->Nat
 |⟨t,l⟩=>if zt t.kind=0 then 0 else 1+ng l
def ng:List zg->Nat
 |[]=>0
 |v::r=>max (jk v) (ng r)
end
theorem TQ(v:zg):jk v=if zt v.token.kind=0 then 0 else 1+ng v.list:=by obtain⟨t,l⟩:=v;rw[jk]
mutual
theorem zAU: ∀v:zg,jk v<=szV v
 |⟨t,l⟩=>by rw[jk,szV];have:=fE l;split<;>omega
theorem fE: ∀l:List zg,ng l<=szL l
 |[]=>Ya _
 |v::r=>by rw[ng,szL];have:=zAU v;have:=fE r;omega
end
theorem kR(f:zg->Nat): ∀(l:List zg) (a:Nat),l.foldl (fun a v=>max a (f v)) a=max a (l.foldr (fun v a=>max (f v) a) 0)
 |[],a=>by simp
 |v::l,a=>by rw[Wh,kR f l,List.foldr_cons];omega
theorem UQ: ∀(l:List zg),ng l=l.foldr (fun v a=>max (jk v) a) 0
 |[]=>by rw[ng];rfl
 |v::l=>by rw[ng,UQ l];rfl
theorem KQ{l:List zg}(h:szL l<=big):Qj l=some (ng l:Int):=by
 refine Pn (fun l=>szL l) (fun l=>szL l<=big) (fun l=>(ng l:Int)) (fun S l hl hS=> ?_) h;unfold wF;have hlen:=om l;refine(nJ l (fun i (a:Nat)=>((a:Int),(i:Int))) (fun v a=>some (.again (max a (jk v)))) (fun a=>some (.out (a:Int))) (a:=0) rfl (fun i a hi=> ?_) (fun a=> ?_) (r:= .out (ng l:Int)) ?_)
 ·have hsz:=lm (De hi);have hv2:=ll l[i];have hd:=TQ l[i];have hd2:=fE l[i].list;simp only[Xi hi,Da,ze,qA hi,Aa,jF];by_cases hc:zt l[i].token.kind=0
  ·rw[La hc]at hd;simp[hc,hd,qj hi (by omega)]
  ·rw[Ja hc]at hd;rw[hS l[i].list (by omega) (by omega)];have hw:w64 (1+(ng l[i].list:Int))=((1+ng l[i].list:Nat):Int):=by rw[w64,qw (by omega) (by unfold big at hl;omega)];omega
   simp only[bf.2 hc,Da,Aa,zh,qj hi (by omega),hw,hd,Fb];congr 3;split<;>omega
 ·simp only[Nj,Ca];rfl
 ·rw[Fs (fun a v=>max a (jk v)) (fun v a=>rfl),kR,<-UQ];simp
theorem Vz{l:List zg}: ∀{i:Nat} (h:i<l.length),szL (l.take (i+1))=szL (l.take i)+szV l[i]:=by
 induction l with
 |nil=>intro i h;cases h
 |cons v r ih=>
  intro i h;cases i with
  |zero=>simp[szL]
  |succ i=> simp only[Xf,szL,List.getElem_cons_succ];rw[ih (by simpa using h)];omega
theorem CB(l:List zg)(i:Nat):szL (l.take i)<=szL l:=by
 induction l generalizing i with
 |nil=>simp
 |cons v r ih=>
  cases i with
  |zero=>simp[szL]
  |succ i=>simp only[Xf,szL];have:=ih i;omega
mutual
/-- The tokens of values. -/
def tokV:zg->List zb
 |⟨t,l⟩=>t::if zt t.kind=0 then []else tokL l++[⟨zt t.kind,[],0,[],false⟩]
def tokL:List zg->List zb
 |[]=>[]
 |v::r=>tokV v++tokL r
end
theorem uq(v:zg):tokV v=v.token::if zt v.token.kind=0 then []else tokL v.list++[⟨zt v.token.kind,[],0,[],false⟩]:=by obtain⟨t,l⟩:=v;rw[tokV]
mutual
theorem Ty: ∀v:zg,(tokV v).length<=2*szV v
 |⟨t,l⟩=>by
  rw[tokV,szV];have:=xq l;split
  ·simp;omega
  ·simp;omega
theorem xq: ∀l:List zg,(tokL l).length<=2*szL l
 |[]=>Ya _
 |v::r=>by rw[tokL,szL,Ba];have:=Ty v;have:=xq r;omega
end
theorem uE: ∀(l:List zg) (a:List zb),l.foldl (fun a v=>a++tokV v) a=a++tokL l
 |[],a=>by simp[tokL]
 |v::l,a=>by rw[Wh,uE l,tokL,Na]
theorem iF{l:List zg}(h:szL l<=big):Zp l=some (tokL l):=by
 refine Pn (fun l=>szL l) (fun l=>szL l<=big) (fun l=>tokL l) (fun S l hl hS=> ?_) h;unfold IG;have hlen:=om l;refine(Oz l (fun i (a:List zb)=>((i:Int),a)) (fun v a=>some (.again (a++tokV v))) (fun a=>some (.out a)) (fun i a=>a.length<=2*szL (l.take i)) (a:=[]) rfl (by simp) (fun i a hi hI=> ?_) (fun a _=> ?_) (r:= .out (tokL l)) ?_)
 ·have hsz:=lm (De hi);have hv2:=ll l[i];have hd:=uq l[i];have hd2:=xq l[i].list;have ht:=Vz hi;have ht2:=CB l (i+1);have hv3:=Ty l[i];unfold big at hl;have hap: ∀n m:Nat,n+m<=100000000->Zc n m 56=true:=fun n m h=>nz (by omega);refine⟨?_,fun a' ha=> ?_⟩
  ·simp only[Xi hi,Da,ze,qA hi,Aa,jF];by_cases hc:zt l[i].token.kind=0
   ·rw[La hc]at hd;simp[hc,hd,qj hi (by unfold big;omega),hap a.length 1 (by omega)]
   ·rw[Ja hc]at hd;rw[hS l[i].list (by unfold big;omega) (by omega)];have hb:(zt l[i].token.kind != 0)=true:=bf.2 hc;simp[hb,hd,qj hi (by unfold big;omega),hap a.length 1 (by omega),hap (a.length+1) (tokL l[i].list).length (by omega),hap (a.length+((tokL l[i].list).length+1)) 1 (by omega)]
  ·cases ha;rw[Ba,ht];omega
 ·simp only[Nj,Ca];rfl
 ·rw[Fs (fun a v=>a++tokV v) (fun v a=>rfl),uE];simp
mutual
/-- Whether lists are those of blocks, and have not their closers. -/
def shV:zg->Int->Bool
 |⟨t,l⟩,c=> !((zt t.kind==0&&decide (0<l.length))||(c != 0&&t.kind==c)||(zt t.kind != 0&& !(shL l (zt t.kind))))
def shL:List zg->Int->Bool
 |[],_=>true
 |v::r,c=>shV v c&&shL r c
end
theorem dZ(v:zg)(c:Int):shV v c= !((zt v.token.kind==0&&decide (0<v.list.length))||(c != 0&&v.token.kind==c)||(zt v.token.kind != 0&& !(shL v.list (zt v.token.kind)))):=by obtain⟨t,l⟩:=v;rw[shV]
theorem E9{l:List zg}{c:Int}(h:szL l<=big):qQ (l,c)=some (shL l c):=by
 refine Pn (fun x:List zg×Int=>szL x.1) (fun x=>szL x.1<=big) (fun x=>shL x.1 x.2) (fun S x hl hS=> ?_) h;obtain⟨l,c⟩:=x;simp only at hl hS ⊢;unfold GG;have hlen:=om l;have hov: ∀l:List zg,Tj (fun v (_:Unit)=>if shV v c=true then some (.again ())else some (.ret false)) (fun _=>some (.out ())) l ()=some (if shL l c=true then .out ()else .ret false):=by
  intro l
  induction l with
  |nil=>simp[Tj,shL]
  |cons v r ih=>
   by_cases hv:shV v c=true
   ·simpa [Tj,shL,hv] using ih
   ·simp[Tj,shL,hv]
 refine(nJ l (fun i (_:Unit)=>(i:Int)) (fun v (_:Unit)=>if shV v c=true then some (.again ())else some (.ret false)) (fun _=>some (.out ())) (a:=()) rfl (fun i a hi=> ?_) (fun a=> ?_) (hov l)).trans ?_
 ·have hsz:=lm (De hi);have hv2:=ll l[i];have hd:=dZ l[i] c;simp only[Xi hi,Da,ze,qA hi,Aa,jF];have hs1:szL l[i].list<=big:=by omega
  have hs2:szL l[i].list<szL l:=by omega
  have hSq: ∀c',S (l[i].list,c')=some (shL l[i].list c'):=fun c'=>hS (l[i].list,c') hs1 hs2;rw[hd];have hp:decide ((l[i].list.length:Int)>0)=decide (0<l[i].list.length):=lN _;have hw:=qj hi (by omega);simp only[bne,hp];rcases Ie (zt l[i].token.kind==0)with h1|h1<;>rcases Ie (decide (0<l[i].list.length))with h2|h2<;>rcases Ie (c==0)with h3|h3<;>rcases Ie (l[i].token.kind==c)with h4|h4<;>rcases Ie (shL l[i].list (zt l[i].token.kind))with h5|h5<;>
   simp only[hSq,hp,h1,h2,h3,h4,h5,hw,Da,Ca,Yb,Lb,Oc,Pe,Xb,Yc,Cf,Nf,xe,Od,zH,zO,Aa,Ud,Ve,Fb,Xc]
 ·simp only[Nj,Ca];rfl
 ·cases h:shL l c<;>simp
def Vq(l:List zg)(c:Int):zN:=⟨ng l,(tokL l).length, !(shL l c)⟩
theorem WS(c:Int): ∀(l:List zg) (a:Nat×Nat×Bool),l.foldl (fun a v=>(max a.1 (jk v),a.2.1+(tokV v).length,a.2.2|| !(shV v c))) a=(max a.1 (ng l),a.2.1+(tokL l).length,a.2.2|| !(shL l c))
 |[],a=>by simp[ng,tokL,shL]
 |v::l,a=>by rw[Wh,WS c l,ng,tokL,shL,Ba];simp only[Prod.mk.injEq];refine⟨by omega,by omega,?_⟩;cases a.2.2<;>cases shV v c<;>cases shL l c<;>rfl
theorem zDt(a b:Bool):(bif a then true else b)=(a||b):=by cases a<;>rfl
theorem zAO(a b:Bool):(bif a then b else false)=(a&&b):=by cases a<;>rfl
theorem zr6{l:List zg}{c:Int}(h:szL l<=big):Lm (l,c)=some (Vq l c):=by
 refine Pn (fun x:List zg×Int=>szL x.1) (fun x=>szL x.1<=big) (fun x=>Vq x.1 x.2) (fun S x hl hS=> ?_) h;obtain⟨l,c⟩:=x;simp only at hl hS ⊢;unfold rF;have hlen:=om l;refine(Oz l (fun i (a:Nat×Nat×Bool)=>((i:Int),(⟨(a.1:Int),(a.2.1:Int),a.2.2⟩:zN))) (fun v a=>some (.again (max a.1 (jk v),a.2.1+(tokV v).length,a.2.2|| !(shV v c)))) (fun a=>some (.out (⟨(a.1:Int),(a.2.1:Int),a.2.2⟩:zN))) (fun i a=>a.2.1<=2*szL (l.take i)) (a:=(0,0,false)) rfl (by simp) (fun i a hi hI=> ?_) (fun a _=> ?_) (r:= .out (Vq l c)) ?_)
 ·have hsz:=lm (De hi);have hv2:=ll l[i];have hd:=TQ l[i];have hd2:=fE l[i].list;have ht:=uq l[i];have ht2:=xq l[i].list;have hsh:=dZ l[i] c;have htk:=Vz hi;have htk2:=CB l (i+1);have hv3:=Ty l[i];have hs1:szL l[i].list<=big:=by omega
  have hs2:szL l[i].list<szL l:=by omega
  have hSq:S (l[i].list,zt l[i].token.kind)=some (Vq l[i].list (zt l[i].token.kind)):=hS (l[i].list,zt l[i].token.kind) hs1 hs2;obtain⟨d,n,b⟩:=a;simp only at hI;have hw:=qj hi (by omega);unfold big at hl;have hw1:w64 ((n:Int)+1)=((n+1:Nat):Int):=by rw[w64,qw (by omega) (by omega)];omega
  refine⟨?_,fun a' ha=> ?_⟩
  ·have hp:decide ((l[i].list.length:Int)>0)=decide (0<l[i].list.length):=lN _;simp only[Xi hi,Da,ze,qA hi,Aa,xB,Fb,hw1,bne,hp,zDt,zAO];by_cases hc:zt l[i].token.kind=0
   ·rw[La hc]at hd ht;simp only[hc,af,Xb,Yb,Yc,Nf,bne]at hsh ⊢;rw[hsh,hd,ht];rcases Ie (decide (0<l[i].list.length))with h2|h2<;>rcases Ie (c==0)with h3|h3<;>rcases Ie (l[i].token.kind==c)with h4|h4<;>
     simp[h2,h3,h4,hw,Da,Ca]
   ·rw[Ja hc]at hd ht;have hcb:(zt l[i].token.kind==0)=false:=Ia.2 hc;have hw2:w64 ((ng l[i].list:Int)+1)=((1+ng l[i].list:Nat):Int):=by rw[w64,qw (by omega) (by omega)];omega
    have hw3:w64 (((n+1:Nat):Int)+((tokL l[i].list).length:Int))=((n+1+(tokL l[i].list).length:Nat):Int):=by rw[w64,qw (by omega) (by omega)];omega
    have hw4:w64 (((n+1+(tokL l[i].list).length:Nat):Int)+1)=((n+(1+((tokL l[i].list).length+1)):Nat):Int):=by rw[w64,qw (by omega) (by omega)];omega
    have htl:(tokV l[i]).length=1+((tokL l[i].list).length+1):=by rw[ht];simp;omega
    have hm:(if((1+ng l[i].list:Nat):Int)>(d:Int)then((1+ng l[i].list:Nat):Int)else(d:Int))=((max d (1+ng l[i].list):Nat):Int):=by split<;>omega
    rw[hsh,hd,htl];simp only[hcb,hSq,Yc,Lb,Xb,Nf,Od,Ca,bne,Aa,Vq];rcases Ie (c==0)with h3|h3<;>rcases Ie (l[i].token.kind==c)with h4|h4<;>
     simp only[h3,h4,hw,hw2,hw3,hw4,hm,Da,Ca,zh,Yb,Lb,Xb,Oc,Pe,Yc,Cf,Nf,xe,Od,Bool.not_not]
  ·cases ha;simp only;omega
 ·simp only[Nj,Ca];rfl
 ·rw[Fs (fun a v=>(max a.1 (jk v),a.2.1+(tokV v).length,a.2.2|| !(shV v c))) (fun v a=>rfl),WS];simp[Vq]
def errS(l:List zg):Int:=if 16<ng l then 20 else if 1500<(tokL l).length then 4 else if shL l 0 then 0 else 8
theorem NR{l:List zg}(h:szL l<=big):Rs l=some (errS l):=by
 unfold Rs errS;simp only[ze,KQ h,iF h,E9 h,Aa];by_cases h1:16<ng l
 ·have:decide ((ng l:Int)>16)=true:=Ha (by omega);simp[this,h1]
 ·have:decide ((ng l:Int)>16)=false:=Xa (by omega);by_cases h2:1500<(tokL l).length
  ·have h3:decide (((tokL l).length:Int)>1500)=true:=Ha (by omega);simp[this,h1,h2,h3]
  ·have h3:decide (((tokL l).length:Int)>1500)=false:=Xa (by omega);cases h4:shL l 0<;>simp[this,h1,h2,h3]
theorem LU{l:List zg}(h:szL l<=big):Gs l=some (errS l):=by
 unfold Gs errS;simp only[ze,zr6 h,Aa,Vq];by_cases h1:16<ng l
 ·have:decide ((ng l:Int)>16)=true:=Ha (by omega);simp[this,h1]
 ·have:decide ((ng l:Int)>16)=false:=Xa (by omega);by_cases h2:1500<(tokL l).length
  ·have h3:decide (((tokL l).length:Int)>1500)=true:=Ha (by omega);simp[this,h1,h2,h3]
  ·have h3:decide (((tokL l).length:Int)>1500)=false:=Xa (by omega);cases h4:shL l 0<;>simp[this,h1,h2,h3]
theorem zGh: ∀l:List zg,szL l<=zL zu l:=by
 have key: ∀(n:Nat) (l:List zg),zL zu l<n->szL l<=zL zu l:=by
  intro n
  induction n with
  |zero=>intro l h;omega
  |succ n ih=>
   intro l
   induction l with
   |nil=>intro _;rw[szL];exact Sb _
   |cons v l ihl=> intro h;rw[kZ]at h ⊢;rw[szL,ll];have hz:=zAw v;have h1:=ih v.list (by omega);have h2:=ihl (by omega);omega
 exact fun l=>key _ l (Ac _)
theorem zA6{l:List zg}{a:List zb}(h:szL l<=big)(ha:a.length+2*szL l<=4*big):Qt (l,a)=some (a++tokL l):=by
 refine Pn (fun z=>szL z.1) (fun z=>szL z.1<=big/\z.2.length+2*szL z.1<=4*big) (fun z=>z.2++tokL z.1) (fun S z hz hS=> ?_) (x:=(l,a)) ⟨h,ha⟩;obtain⟨l,a⟩:=z;obtain⟨h,ha⟩:=hz;have h:szL l<=big:=h;have ha:a.length+2*szL l<=4*big:=ha;have hlen:=om l;unfold UG;refine(Oz l (fun i (b:List zb)=>((i:Int),b)) (fun v b=>some (.again (b++tokV v))) (fun b=>some (.out b)) (fun i b=>b.length<=a.length+2*szL (l.take i)) (a:=a) rfl (by simp) (fun i b hi hI=> ?_) (fun b _=> ?_) (r:= .out (a++tokL l)) ?_).trans rfl
 ·have hsz:=lm (De hi);have hv2:=ll l[i];have hd:=uq l[i];have hd2:=xq l[i].list;have ht:=Vz hi;have ht2:=CB l (i+1);have hv3:=Ty l[i];unfold big at h ha;have hap: ∀n m:Nat,n+m<=100000000->Zc n m 56=true:=fun n m h=>nz (by omega);refine⟨?_,fun a' ha'=> ?_⟩
  ·simp only[Xi hi,Da,ze,qA hi,Aa,xB];by_cases hc:zt l[i].token.kind=0
   ·rw[La hc]at hd;simp[hc,hd,qj hi (by unfold big;omega),hap b.length 1 (by omega)]
   ·rw[Ja hc]at hd;rw[hS (l[i].list,b++[l[i].token]) ⟨by show szL l[i].list<=big;unfold big;omega,by show(b++[l[i].token]).length+2*szL l[i].list<=4*big;unfold big;rw[Ba,Va];omega⟩ (by show szL l[i].list<szL l;omega)];have hb:(zt l[i].token.kind != 0)=true:=bf.2 hc;simp[hb,hd,qj hi (by unfold big;omega),hap b.length 1 (by omega),hap (b.length+((tokL l[i].list).length+1)) 1 (by omega)]
  ·cases ha';rw[Ba,ht];omega
 ·simp only[Nj,Ca];rfl
 ·rw[Fs (fun a v=>a++tokV v) (fun v a=>rfl),uE]
theorem rQ{l:List zg}(h:szL l<=big):Lp l=some (tokL l):=by
 have hlen:=om l;unfold Lp;refine(Oz l (fun i (b:List zb)=>((i:Int),b)) (fun v b=>some (.again (b++tokV v))) (fun b=>some (.out b)) (fun i b=>b.length<=2*szL (l.take i)) (a:=[]) rfl (by simp) (fun i b hi hI=> ?_) (fun b _=> ?_) (r:= .out (tokL l)) ?_).trans rfl
 ·have hsz:=lm (De hi);have hv2:=ll l[i];have hd:=uq l[i];have hd2:=xq l[i].list;have ht:=Vz hi;have ht2:=CB l (i+1);have hv3:=Ty l[i];unfold big at h;have hap: ∀n m:Nat,n+m<=100000000->Zc n m 56=true:=fun n m h=>nz (by omega);refine⟨?_,fun a' ha'=> ?_⟩
  ·simp only[Xi hi,Da,ze,qA hi,Aa,xB];by_cases hc:zt l[i].token.kind=0
   ·rw[La hc]at hd;simp[hc,hd,qj hi (by unfold big;omega),hap b.length 1 (by omega)]
   ·rw[Ja hc]at hd;rw[zA6 (a:=b++[l[i].token]) (show szL l[i].list<=big by unfold big;omega) (by unfold big;rw[Ba,Va];omega)];have hb:(zt l[i].token.kind != 0)=true:=bf.2 hc;simp[hb,hd,qj hi (by unfold big;omega),hap b.length 1 (by omega),hap (b.length+((tokL l[i].list).length+1)) 1 (by omega)]
  ·cases ha';rw[Ba,ht];omega
 ·simp only[Nj,Ca];rfl
 ·rw[Fs (fun a v=>a++tokV v) (fun v a=>rfl),uE];simp
theorem zr4{l:List zg}(h:szL l<=big):xz l=some (if errS l=0 then(tokL l,0)else([],errS l)):=by
 unfold xz;simp only[LU h,ze,Aa];by_cases he:errS l=0
 ·have:(errS l != 0)=false:=by rw[he];rfl
  rw[this,Ca,rQ h,La he];rfl
 ·rw[bf.2 he,Da,Ja he]
end Go.Lv.VT

namespace Go.Lv
theorem Le.lp{S X R:Type}{step step':S->Option (LO S X R)}{s:S}{k k':X->Option R}(h: ∀s,Le (step s) (step' s))(hk: ∀x,Le (k x) (k' x)):Le (Zi step s k) (Zi step' s k'):=by
 intro y hy;unfold Zi at hy;cases hl:bg step s with
 |none=>rw[hl]at hy;cases hy
 |some r=>
  rw[hl]at hy;obtain⟨n,hn⟩:=PU hl;rw[Gn (Sk (RJ h n s r hn))];cases r with
  |out x=>exact hk x y hy
  |ret r=>exact hy
def lY{X Y:Type}(B:(X->Option Y)->X->Option Y):Prop:= ∀S S':X->Option Y,(∀x,Le (S x) (S' x))-> ∀x,Le (B S x) (B S' x)
theorem zBZ {X Y:Type} {B:(X->Option Y)->X->Option Y} (hm:lY B) (μ:X->Nat) (ok:X->Prop) (R:X->Y->Prop)
  (hB: ∀(S:X->Option Y) (x:X),ok x->(∀z,ok z->μ z<μ x-> ∃y,S z=some y/\R z y)-> ∃y,B S x=some y/\R x y) {x:X} (hx:ok x): ∃y,recE B x=some y/\R x y:=by
 have step: ∀n x,Le (Ri B n x) (Ri B (n+1) x):=by
  intro n
  induction n with
  |zero=>intro x;exact Le.none
  |succ n ih=>intro x;exact hm _ _ ih x
 have up: ∀d n x,Le (Ri B n x) (Ri B (n+d) x):=by
  intro d
  induction d with
  |zero=>intro n x;exact Le.rfl
  |succ d ih=>intro n x y hy;exact step _ x y (ih n x y hy)
 have key: ∀(m:Nat) (x:X),μ x<m->ok x-> ∃y,Ri B m x=some y/\R x y:=by
  intro m
  induction m with
  |zero=>intro x h;omega
  |succ m ih=> intro x hm hok;exact hB _ x hok fun z hz hlt=>ih z (by omega) hz
 obtain⟨y,h1,h2⟩:=key (μ x+1) x (by omega) hx;refine⟨y,wH (N:=μ x+1) fun n hn=> ?_,h2⟩;obtain⟨d,rfl⟩:=Nat.le.dest hn;exact up d _ x y h1
theorem zBp {A S X R:Type} {step:S->Option (LO S X R)} {k:X->Option R} (n:Nat) (st:Nat->A->S) (Inv:Nat->A->Prop) (Q:R->Prop) {s0:S} {a0:A} (h0:s0=st 0 a0) (hI:Inv 0 a0)
  (hg: ∀(i:Nat) (a:A),i<n->Inv i a->(∃a',step (st i a)=some (.again (st (i+1) a'))/\Inv (i+1) a')\/(∃r,step (st i a)=some (.ret r)/\Q r)\/(∃x,step (st i a)=some (.out x)/\ ∃r,k x=some r/\Q r))
  (hf: ∀a,Inv n a->(∃x,step (st n a)=some (.out x)/\ ∃r,k x=some r/\Q r)\/(∃r,step (st n a)=some (.ret r)/\Q r)): ∃r,Zi step s0 k=some r/\Q r:=by
 have key: ∀(m i:Nat) (a:A),i+m=n->Inv i a-> ∃j x,qU step j (st i a)=some x/\ ∃r,LX.go x k=some r/\Q r:=by
  intro m
  induction m with
  |zero=>
   intro i a hi ha;obtain rfl:i=n:=by omega
   rcases hf a ha with⟨x,h1,r,h2,h3⟩|⟨r,h1,h2⟩
   ·exact⟨1, .out x,by simp only[qU,h1],r,h2,h3⟩
   ·exact⟨1, .ret r,by simp only[qU,h1],r,rfl,h2⟩
  |succ m ih=>
   intro i a hi ha;rcases hg i a (by omega) ha with⟨a',h1,h2⟩|⟨r,h1,h2⟩|⟨x,h1,r,h2,h3⟩
   ·obtain⟨j,x,g1,g2⟩:=ih (i+1) a' (by omega) h2;exact⟨j+1,x,by simp only[qU,h1];exact g1,g2⟩
   ·exact⟨1, .ret r,by simp only[qU,h1],r,rfl,h2⟩
   ·exact⟨1, .out x,by simp only[qU,h1],r,h2,h3⟩
 obtain⟨j,x,h1,r,h2,h3⟩:=key n 0 a0 (by omega) hI;refine⟨r,?_,h3⟩;rw[h0,Gn (Sk h1),h2]
namespace VT
def mx{α:Type}(f:α->Nat):List α->Nat
 |[]=>0
 |v::l=>max (f v) (mx f l)
end VT
end Go.Lv

namespace Go.Lv.VT
set_option maxRecDepth 100000
theorem zmn:lY lv:=by intro qX ref04_Size' h_ref04_Size x;unfold lv;exact(.lp (fun _=>(.bif (.bind .rfl fun _=>(.bind .rfl fun _=>(.bind .rfl fun _=>(.bind (h_ref04_Size _) fun _=> .rfl)))) .rfl)) fun _=> .rfl)
theorem zB1{a:List zg}(h:szL a<=big):Q8 (a,a)=some true:=by
 refine Pn (fun x:List zg×List zg=>szL x.1) (fun x=>szL x.1<=big/\x.1=x.2) (fun x=>true) (fun S x hl hS=> ?_) (show szL (a,a).1<=big/\(a,a).1=(a,a).2 from⟨h,rfl⟩);obtain⟨l,l'⟩:=x;obtain⟨hl,he⟩:=hl;simp only at hl hS he;subst he;unfold vF;have hlen:=om l;have hne:((l.length:Int) != (l.length:Int))=false:=by simp
 simp only[hne,Ca];refine(nJ l (fun i (_:Unit)=>(i:Int)) (fun v (_:Unit)=>some (.again ())) (fun _=>some (.out ())) (a:=()) rfl (fun i a hi=> ?_) (fun a=> ?_) (r:= .out ()) ?_)
 ·have hsz:=lm (De hi);have hv2:=ll l[i];have hs1:szL l[i].list<=big:=by omega
  have hs2:szL l[i].list<szL l:=by omega
  have hS':S (l[i].list,l[i].list)=some true:=hS (l[i].list,l[i].list) ⟨hs1,rfl⟩ hs2;simp[hi,qA hi,hS',qj hi (by omega)]
 ·simp only[Nj,Ca];rfl
 ·rw[Fs (fun a v=>a) (fun v a=>rfl)]
end Go.Lv.VT
