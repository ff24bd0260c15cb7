/- How large values are. -/
import Derived.Test.YtcdeccnjlkkejaaGreatDoorIp
import Derived.Test.YtcdeccnjlkkejaaGreatDoorLaw
import Derived.Test.YtcdeccnjlkkejaaGreatDoorLf
import Derived.Test.YtcdeccnjlkkejaaGreatDoorMo
import Derived.Test.YtcdeccnjlkkejaaGreatDoorLe
import Derived.Test.YtcdeccnjlkkejaaGreatDoorTx
set_option linter.unusedSimpArgs false
set_option linter.unusedVariables false
namespace Go.Lv.VT
mutual
/-- How large values are. -/
def szV:zg->Nat
 |⟨t,l⟩=>1+t.text.length+t.unit.length+szL l
def szL:List zg->Nat
 |[]=>0
 |v::r=>szV v+szL r
end
theorem Cs(v:zg):szV v=1+v.token.text.length+v.token.unit.length+szL v.list:=by obtain⟨t,l⟩:=v;rw[szV]
theorem Au{v:zg}: ∀{l:List zg},v∈l->szV v<=szL l
 |[],h=>by cases h
 |x::l,h=>by
  rw[szL];rcases ma.1 h with rfl|h
  ·omega
  ·have:=Au h;omega
theorem Bu: ∀(l:List zg),l.length<=szL l
 |[]=>Va _
 |v::r=>by rw[szL,Cs,Ea];have:=Bu r;omega
theorem zCT(n:Nat):decide ((n:Int)>0)=decide (0<n):=by
 by_cases h:0<n
 ·rw[Ja h,Ja (by omega)]
 ·rw[Db h,Db (by omega)]
theorem K7(k:Int):vz k=some (zo k):=by
 unfold vz zo;by_cases h1:k=19
 ·subst h1;rfl
 by_cases h2:k=21
 ·subst h2;rfl
 by_cases h3:k=2
 ·subst h3;rfl
 by_cases h4:k=23
 ·subst h4;rfl
 have e1:(k==19)=false:=Ga.2 h1;have e2:(k==21)=false:=Ga.2 h2;have e3:(k==2)=false:=Ga.2 h3;have e4:(k==23)=false:=Ga.2 h4;simp only[e1,e2,e3,e4,Ia,zh,h1,h2,h3,h4,Te,or_self]
theorem BA(k:Int):qb k=some (zo k):=by
 unfold qb zo;by_cases h1:k=19
 ·subst h1;rfl
 by_cases h2:k=21
 ·subst h2;rfl
 by_cases h3:k=2
 ·subst h3;rfl
 by_cases h4:k=23
 ·subst h4;rfl
 have e1:(k==19)=false:=Ga.2 h1;have e2:(k==21)=false:=Ga.2 h2;have e3:(k==2)=false:=Ga.2 h3;have e4:(k==23)=false:=Ga.2 h4;simp only[e1,e2,e3,e4,Ia,zh,h1,h2,h3,h4,Te,or_self]
mutual
/-- The depth of values. -/
def Uj:zg->Nat
 |⟨t,l⟩=>if zo t.kind=0 then 0 else 1+ig l
def ig:List zg->Nat
 |[]=>0
 |v::r=>max (Uj v) (ig r)
end
theorem tX(v:zg):Uj v=if zo v.token.kind=0 then 0 else 1+ig v.list:=by obtain⟨t,l⟩:=v;rw[Uj]
mutual
theorem rX: ∀v:zg,Uj v<=szV v
 |⟨t,l⟩=>by rw[Uj,szV];have:=KI l;split<;>omega
theorem KI: ∀l:List zg,ig l<=szL l
 |[]=>Va _
 |v::r=>by rw[ig,szL];have:=rX v;have:=KI r;omega
end
theorem UC{l:List zg}: ∀{i:Nat} (h:i<l.length),szL (l.take (i+1))=szL (l.take i)+szV l[i]:=by
 induction l with
 |nil=>intro i h;cases h
 |cons v r d=>
  intro i h;cases i with
  |zero=>simp[szL]
  |c i=> simp only[mf,szL,List.getElem_cons_succ];rw[d (by simpa using h)];omega
theorem UE(l:List zg)(i:Nat):szL (l.take i)<=szL l:=by
 induction l generalizing i with
 |nil=>simp
 |cons v r d=>
  cases i with
  |zero=>simp[szL]
  |c i=>simp only[mf,szL];have:=d i;omega
mutual
/-- The tokens of values. -/
def tokV:zg->List zb
 |⟨t,l⟩=>t::if zo t.kind=0 then []else tokL l++[⟨zo t.kind,[],0,[],false⟩]
def tokL:List zg->List zb
 |[]=>[]
 |v::r=>tokV v++tokL r
end
theorem Rp(v:zg):tokV v=v.token::if zo v.token.kind=0 then []else tokL v.list++[⟨zo v.token.kind,[],0,[],false⟩]:=by obtain⟨t,l⟩:=v;rw[tokV]
mutual
theorem ww: ∀v:zg,(tokV v).length<=2*szV v
 |⟨t,l⟩=>by
  rw[tokV,szV];have:=Pt l;split
  ·simp;omega
  ·simp;omega
theorem Pt: ∀l:List zg,(tokL l).length<=2*szL l
 |[]=>Va _
 |v::r=>by rw[tokL,szL,Ba];have:=ww v;have:=Pt r;omega
end
theorem XD: ∀(l:List zg) (a:List zb),l.foldl (fun a v=>a++tokV v) a=a++tokL l
 |[],a=>by simp[tokL]
 |v::l,a=>by rw[List.foldl_cons,XD l,tokL,Na]
theorem J7{l:List zg}(h:szL l<=big):qz l=some (tokL l):=by
 refine eD (fun l=>szL l) (fun l=>szL l<=big) (fun l=>tokL l) (fun S l hl j=> ?_) h;unfold JF;have f:=Bu l;refine(Xy l (fun i (a:List zb)=>((i:Int),a)) (fun v a=>some (.again (a++tokV v))) (fun a=>some (.out a)) (fun i a=>a.length<=2*szL (l.take i)) (a:=[]) rfl (by simp) (fun i a hi hI=> ?_) (fun a _=> ?_) (r:= .out (tokL l)) ?_)
 ·have p:=Au (We hi);have u:=Cs l[i];have d:=Rp l[i];have y:=Pt l[i].list;have ht:=UC hi;have z:=UE l (i+1);have A:=ww l[i];unfold big at hl;have c: ∀n m:Nat,n+m<=100000000->Zb n m 56=true:=fun n m h=>rH (by omega);refine⟨?_,fun B ha=> ?_⟩
  ·simp only[ek hi,Ka,ze,QX hi,Aa,K7];by_cases hc:zo l[i].token.kind=0
   ·rw[La hc]at d;simp[hc,d,Qd hi (by unfold big;omega),c a.length 1 (by omega)]
   ·rw[Ha hc]at d;rw[j l[i].list (by unfold big;omega) (by omega)];have hb:(zo l[i].token.kind != 0)=true:=Cg.2 hc;simp[hb,d,Qd hi (by unfold big;omega),c a.length 1 (by omega),c (a.length+1) (tokL l[i].list).length (by omega),c (a.length+((tokL l[i].list).length+1)) 1 (by omega)]
  ·cases ha;rw[Ba,ht];omega
 ·simp only[Kl,Ia];rfl
 ·rw[au (fun a v=>a++tokV v) (fun v a=>rfl),XD];simp
mutual
/-- Whether lists are those of blocks, and have not their closers. -/
def shV:zg->Int->Bool
 |⟨t,l⟩,c=> !((zo t.kind==0&&decide (0<l.length))||(c != 0&&t.kind==c)||(zo t.kind != 0&& !(shL l (zo t.kind))))
def shL:List zg->Int->Bool
 |[],_=>true
 |v::r,c=>shV v c&&shL r c
end
theorem zEk(v:zg)(c:Int):shV v c= !((zo v.token.kind==0&&decide (0<v.list.length))||(c != 0&&v.token.kind==c)||(zo v.token.kind != 0&& !(shL v.list (zo v.token.kind)))):=by obtain⟨t,l⟩:=v;rw[shV]
def En(l:List zg)(c:Int):zI:=⟨ig l,(tokL l).length, !(shL l c)⟩
theorem eQ(c:Int): ∀(l:List zg) (a:Nat×Nat×Bool),l.foldl (fun a v=>(max a.1 (Uj v),a.2.1+(tokV v).length,a.2.2|| !(shV v c))) a=(max a.1 (ig l),a.2.1+(tokL l).length,a.2.2|| !(shL l c))
 |[],a=>by simp[ig,tokL,shL]
 |v::l,a=>by rw[List.foldl_cons,eQ c l,ig,tokL,shL,Ba];simp only[Prod.mk.injEq];refine⟨by omega,by omega,?_⟩;cases a.2.2<;>cases shV v c<;>cases shL l c<;>rfl
theorem zBS(a b:Bool):(bif a then true else b)=(a||b):=by cases a<;>rfl
theorem CY(a b:Bool):(bif a then b else false)=(a&&b):=by cases a<;>rfl
theorem uT{l:List zg}{c:Int}(h:szL l<=big):QG (l,c)=some (En l c):=by
 refine eD (fun x:List zg×Int=>szL x.1) (fun x=>szL x.1<=big) (fun x=>En x.1 x.2) (fun S x hl O=> ?_) h;obtain⟨l,c⟩:=x;simp only at hl O ⊢;unfold bE;have U:=Bu l;refine(Xy l (fun i (a:Nat×Nat×Bool)=>((i:Int),(⟨(a.1:Int),(a.2.1:Int),a.2.2⟩:zI))) (fun v a=>some (.again (max a.1 (Uj v),a.2.1+(tokV v).length,a.2.2|| !(shV v c)))) (fun a=>some (.out (⟨(a.1:Int),(a.2.1:Int),a.2.2⟩:zI))) (fun i a=>a.2.1<=2*szL (l.take i)) (a:=(0,0,false)) rfl (by simp) (fun i a hi hI=> ?_) (fun a _=> ?_) (r:= .out (En l c)) ?_)
 ·have Y:=Au (We hi);have Z:=Cs l[i];have j:=tX l[i];have a3:=KI l[i].list;have ht:=Rp l[i];have a5:=Pt l[i].list;have f:=zEk l[i] c;have a6:=UC hi;have V:=UE l (i+1);have a7:=ww l[i];have m:szL l[i].list<=big:=by omega
  have p:szL l[i].list<szL l:=by omega
  have u:S (l[i].list,zo l[i].token.kind)=some (En l[i].list (zo l[i].token.kind)):=O (l[i].list,zo l[i].token.kind) m p;obtain⟨d,n,b⟩:=a;simp only at hI;have W:=Qd hi (by omega);unfold big at hl;have y:w64 ((n:Int)+1)=((n+1:Nat):Int):=by rw[w64,Jm (by omega) (by omega)];omega
  refine⟨?_,fun a' ha=> ?_⟩
  ·have hp:decide ((l[i].list.length:Int)>0)=decide (0<l[i].list.length):=zCT _;simp only[ek hi,Ka,ze,QX hi,Aa,BA,Kb,y,bne,hp,zBS,CY];by_cases hc:zo l[i].token.kind=0
   ·rw[La hc]at j ht;simp only[hc,yf,Vb,Nc,Sc,Uf,bne]at f ⊢;rw[f,j,ht];rcases Ng (decide (0<l[i].list.length))with h2|h2<;>rcases Ng (c==0)with h3|h3<;>rcases Ng (l[i].token.kind==c)with h4|h4<;>
     simp[h2,h3,h4,W,Ka,Ia]
   ·rw[Ha hc]at j ht;have z:(zo l[i].token.kind==0)=false:=Ga.2 hc;have A:w64 ((ig l[i].list:Int)+1)=((1+ig l[i].list:Nat):Int):=by rw[w64,Jm (by omega) (by omega)];omega
    have B:w64 (((n+1:Nat):Int)+((tokL l[i].list).length:Int))=((n+1+(tokL l[i].list).length:Nat):Int):=by rw[w64,Jm (by omega) (by omega)];omega
    have J:w64 (((n+1+(tokL l[i].list).length:Nat):Int)+1)=((n+(1+((tokL l[i].list).length+1)):Nat):Int):=by rw[w64,Jm (by omega) (by omega)];omega
    have L:(tokV l[i]).length=1+((tokL l[i].list).length+1):=by rw[ht];simp;omega
    have hm:(if((1+ig l[i].list:Nat):Int)>(d:Int)then((1+ig l[i].list:Nat):Int)else(d:Int))=((max d (1+ig l[i].list):Nat):Int):=by split<;>omega
    rw[f,j,L];simp only[z,u,Sc,Ec,Vb,Uf,Vd,Ia,bne,Aa,En];rcases Ng (c==0)with h3|h3<;>rcases Ng (l[i].token.kind==c)with h4|h4<;>
     simp only[h3,h4,W,A,B,J,hm,Ka,Ia,zh,Nc,Ec,Vb,Uc,Ve,Sc,Jf,Uf,Hf,Vd,Bool.not_not]
  ·cases ha;simp only;omega
 ·simp only[Kl,Ia];rfl
 ·rw[au (fun a v=>(max a.1 (Uj v),a.2.1+(tokV v).length,a.2.2|| !(shV v c))) (fun v a=>rfl),eQ];simp[En]
def errS(l:List zg):Int:=if 16<ig l then 20 else if 1500<(tokL l).length then 4 else if shL l 0 then 0 else 8
theorem mR{l:List zg}(h:szL l<=big):Rq l=some (errS l):=by
 unfold Rq errS;simp only[ze,uT h,Aa,En];by_cases h1:16<ig l
 ·have:decide ((ig l:Int)>16)=true:=Ja (by omega);simp[c,h1]
 ·have:decide ((ig l:Int)>16)=false:=Db (by omega);by_cases h2:1500<(tokL l).length
  ·have h3:decide (((tokL l).length:Int)>1500)=true:=Ja (by omega);simp[c,h1,h2,h3]
  ·have h3:decide (((tokL l).length:Int)>1500)=false:=Db (by omega);cases h4:shL l 0<;>simp[c,h1,h2,h3]
theorem D6{l:List zg}(h:szL l<=big):eu l=some (if errS l=0 then((ig l:Int),0)else(0,errS l)):=by
 unfold eu;simp only[ze,mR h,uT h,Aa,En];by_cases h1:errS l=0
 ·simp[h1]
 ·have h2:(errS l != 0)=true:=Cg.2 h1;simp[h1,h2]
theorem iY{l:List zg}{a:List zb}(h:szL l<=big)(ha:a.length+2*szL l<=4*big):qX (l,a)=some (a++tokL l):=by
 refine eD (fun z=>szL z.1) (fun z=>szL z.1<=big/\z.2.length+2*szL z.1<=4*big) (fun z=>z.2++tokL z.1) (fun S z p u=> ?_) (x:=(l,a)) ⟨h,ha⟩;obtain⟨l,a⟩:=z;obtain⟨h,ha⟩:=p;have h:szL l<=big:=h;have ha:a.length+2*szL l<=4*big:=ha;have j:=Bu l;unfold uE;refine(Xy l (fun i (b:List zb)=>((i:Int),b)) (fun v b=>some (.again (b++tokV v))) (fun b=>some (.out b)) (fun i b=>b.length<=a.length+2*szL (l.take i)) (a:=a) rfl (by simp) (fun i b hi hI=> ?_) (fun b _=> ?_) (r:= .out (a++tokL l)) ?_).trans rfl
 ·have y:=Au (We hi);have A:=Cs l[i];have d:=Rp l[i];have B:=Pt l[i].list;have ht:=UC hi;have J:=UE l (i+1);have L:=ww l[i];unfold big at h ha;have c: ∀n m:Nat,n+m<=100000000->Zb n m 56=true:=fun n m h=>rH (by omega);refine⟨?_,fun O f=> ?_⟩
  ·simp only[ek hi,Ka,ze,QX hi,Aa,BA];by_cases hc:zo l[i].token.kind=0
   ·rw[La hc]at d;simp[hc,d,Qd hi (by unfold big;omega),c b.length 1 (by omega)]
   ·rw[Ha hc]at d;rw[u (l[i].list,b++[l[i].token]) ⟨by show szL l[i].list<=big;unfold big;omega,by show(b++[l[i].token]).length+2*szL l[i].list<=4*big;unfold big;rw[Ba,Cb];omega⟩ (by show szL l[i].list<szL l;omega)];have hb:(zo l[i].token.kind != 0)=true:=Cg.2 hc;simp[hb,d,Qd hi (by unfold big;omega),c b.length 1 (by omega),c (b.length+((tokL l[i].list).length+1)) 1 (by omega)]
  ·cases f;rw[Ba,ht];omega
 ·simp only[Kl,Ia];rfl
 ·rw[au (fun a v=>a++tokV v) (fun v a=>rfl),XD]
theorem jY{l:List zg}(h:szL l<=big):nu l=some (tokL l):=by
 have j:=Bu l;unfold nu;refine(Xy l (fun i (b:List zb)=>((i:Int),b)) (fun v b=>some (.again (b++tokV v))) (fun b=>some (.out b)) (fun i b=>b.length<=2*szL (l.take i)) (a:=[]) rfl (by simp) (fun i b hi hI=> ?_) (fun b _=> ?_) (r:= .out (tokL l)) ?_).trans rfl
 ·have p:=Au (We hi);have u:=Cs l[i];have d:=Rp l[i];have y:=Pt l[i].list;have ht:=UC hi;have z:=UE l (i+1);have A:=ww l[i];unfold big at h;have c: ∀n m:Nat,n+m<=100000000->Zb n m 56=true:=fun n m h=>rH (by omega);refine⟨?_,fun B f=> ?_⟩
  ·simp only[ek hi,Ka,ze,QX hi,Aa,BA];by_cases hc:zo l[i].token.kind=0
   ·rw[La hc]at d;simp[hc,d,Qd hi (by unfold big;omega),c b.length 1 (by omega)]
   ·rw[Ha hc]at d;rw[iY (a:=b++[l[i].token]) (show szL l[i].list<=big by unfold big;omega) (by unfold big;rw[Ba,Cb];omega)];have hb:(zo l[i].token.kind != 0)=true:=Cg.2 hc;simp[hb,d,Qd hi (by unfold big;omega),c b.length 1 (by omega),c (b.length+((tokL l[i].list).length+1)) 1 (by omega)]
  ·cases f;rw[Ba,ht];omega
 ·simp only[Kl,Ia];rfl
 ·rw[au (fun a v=>a++tokV v) (fun v a=>rfl),XD];simp
end Go.Lv.VT

namespace Go.Lv
namespace VT
def mx{α:Type}(f:α->Nat):List α->Nat
 |[]=>0
 |v::l=>max (f v) (mx f l)
end VT
end Go.Lv

namespace Go.Lv.VT
set_option maxRecDepth 100000
theorem zAs{a:List zg}(h:szL a<=big):QQ (a,a)=some true:=by
 refine eD (fun x:List zg×List zg=>szL x.1) (fun x=>szL x.1<=big/\x.1=x.2) (fun x=>true) (fun S x hl m=> ?_) (show szL (a,a).1<=big/\(a,a).1=(a,a).2 from⟨h,rfl⟩);obtain⟨l,A⟩:=x;obtain⟨hl,p⟩:=hl;simp only at hl m p;subst p;unfold dE;have u:=Bu l;have c:((l.length:Int) != (l.length:Int))=false:=by simp
 simp only[c,Ia];refine(NY l (fun i (_:Unit)=>(i:Int)) (fun v (_:Unit)=>some (.again ())) (fun _=>some (.out ())) (a:=()) rfl (fun i a hi=> ?_) (fun a=> ?_) (r:= .out ()) ?_)
 ·have y:=Au (We hi);have z:=Cs l[i];have d:szL l[i].list<=big:=by omega
  have f:szL l[i].list<szL l:=by omega
  have j:S (l[i].list,l[i].list)=some true:=m (l[i].list,l[i].list) ⟨d,rfl⟩ f;simp[hi,QX hi,j,Qd hi (by omega)]
 ·simp only[Kl,Ia];rfl
 ·rw[au (fun a v=>a) (fun v a=>rfl)]
end Go.Lv.VT
