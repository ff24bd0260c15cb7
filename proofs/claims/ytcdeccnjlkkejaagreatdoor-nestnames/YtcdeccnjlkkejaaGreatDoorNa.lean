/- How large values are. -/
import Derived.Test.YtcdeccnjlkkejaaGreatDoorIp
import Derived.Test.YtcdeccnjlkkejaaGreatDoorLaw
import Derived.Test.YtcdeccnjlkkejaaGreatDoorLf
import Derived.Test.YtcdeccnjlkkejaaGreatDoorMo
import Derived.Test.YtcdeccnjlkkejaaGreatDoorLe
import Derived.Test.YtcdeccnjlkkejaaGreatDoorTx
import Derived.KernelRfl
set_option linter.unusedSimpArgs false
set_option linter.unusedVariables false
namespace Go.Lv.VT
mutual
/-- How large values are. -/
def szV:zg->Nat
 |⟨t,l⟩=>1+t.text.length+t.unit.length+szL l
def szL:List zg->Nat
 |[]=>0
 |v::r=>szV v+szL r
end
theorem Uk(v:zg):szV v=1+v.token.text.length+v.token.unit.length+szL v.list:=by obtain⟨t,l⟩:=v;rw[szV]
theorem Un{v:zg}: ∀{l:List zg},v∈l->szV v<=szL l
 |[],h=>by cases h
 |x::l,h=>by
  rw[szL];rcases Ra.1 h with rfl|h
  ·omega
  ·have:=Un h;omega
theorem Pi: ∀(l:List zg),l.length<=szL l
 |[]=>Ma _
 |v::r=>by rw[szL,Uk,Ob];have:=Pi r;omega
theorem tH(n:Nat):decide ((n:Int)>0)=decide (0<n):=by
 grind
theorem QF(k:Int):Zh k=some (zI k):=by
 unfold Zh zI;by_cases h1:k=19
 ·subst h1;rfl
 by_cases h2:k=21
 ·subst h2;rfl
 by_cases h3:k=2
 ·subst h3;rfl
 by_cases h4:k=23
 ·subst h4;rfl
 have e1:(k==19)=false:=Ac.2 h1;have e2:(k==21)=false:=Ac.2 h2;have e3:(k==2)=false:=Ac.2 h3;have e4:(k==23)=false:=Ac.2 h4;simp only[e1,e2,e3,e4,Ed,zcY,h1,h2,h3,h4,if_false,or_self]
mutual
/-- The depth of values. -/
def Ci:zg->Nat
 |⟨t,l⟩=>if zI t.kind=0 then 0 else 1+Ag l
def Ag:List zg->Nat
 |[]=>0
 |v::r=>max (Ci v) (Ag r)
end
theorem TK(v:zg):Ci v=if zI v.token.kind=0 then 0 else 1+Ag v.list:=by obtain⟨t,l⟩:=v;rw[Ci]
mutual
theorem SK: ∀v:zg,Ci v<=szV v
 |⟨t,l⟩=>by rw[Ci,szV];have:=Dw l;split<;>omega
theorem Dw: ∀l:List zg,Ag l<=szL l
 |[]=>Ma _
 |v::r=>by rw[Ag,szL];have:=SK v;have:=Dw r;omega
end
theorem Iw{l:List zg}: ∀{i:Nat} (h:i<l.length),szL (l.take (i+1))=szL (l.take i)+szV l[i]:=by
 induction l with
 |nil=>grind
 |cons v r ih=>
  intro i h;cases i with
  |zero=>simp[szL]
  |succ i=>
   simp only[List.take_succ_cons,szL,List.getElem_cons_succ]
   grind
theorem ay(l:List zg)(i:Nat):szL (l.take i)<=szL l:=by
 induction l generalizing i with
 |nil=>simp
 |cons v r ih=>
  cases i with
  |zero=>simp[szL]
  |succ i=>simp only[List.take_succ_cons,szL];grind
mutual
/-- The tokens of values. -/
def tokV:zg->List zf
 |⟨t,l⟩=>t::if zI t.kind=0 then []else tokL l++[⟨zI t.kind,[],0,[],false⟩]
def tokL:List zg->List zf
 |[]=>[]
 |v::r=>tokV v++tokL r
end
theorem Tv(v:zg):tokV v=v.token::if zI v.token.kind=0 then []else tokL v.list++[⟨zI v.token.kind,[],0,[],false⟩]:=by obtain⟨t,l⟩:=v;rw[tokV]
mutual
theorem Ar: ∀v:zg,(tokV v).length<=2*szV v
 |⟨t,l⟩=>by
  rw[tokV,szV];have:=Sn l
  grind
theorem Sn: ∀l:List zg,(tokL l).length<=2*szL l
 |[]=>Ma _
 |v::r=>by rw[tokL,szL,Ja];have:=Ar v;have:=Sn r;omega
end
theorem Ex: ∀(l:List zg) (a:List zf),l.foldl (fun a v=>a++tokV v) a=a++tokL l
 |[],a=>by simp[tokL]
 |v::l,a=>by rw[Pe,Ex l,tokL,Lc]
mutual
/-- Whether lists are those of blocks, and have not their closers. -/
def shV:zg->Int->Bool
 |⟨t,l⟩,c=> !((zI t.kind==0&&decide (0<l.length))||(c != 0&&t.kind==c)||(zI t.kind != 0&& !(shL l (zI t.kind))))
def shL:List zg->Int->Bool
 |[],_=>true
 |v::r,c=>shV v c&&shL r c
end
theorem FI(v:zg)(c:Int):shV v c= !((zI v.token.kind==0&&decide (0<v.list.length))||(c != 0&&v.token.kind==c)||(zI v.token.kind != 0&& !(shL v.list (zI v.token.kind)))):=by obtain⟨t,l⟩:=v;rw[shV]
def Mi(l:List zg)(c:Int):zl:=⟨Ag l,(tokL l).length, !(shL l c)⟩
theorem XD(c:Int): ∀(l:List zg) (a:Nat×Nat×Bool),l.foldl (fun a v=>(max a.1 (Ci v),a.2.1+(tokV v).length,a.2.2|| !(shV v c))) a=(max a.1 (Ag l),a.2.1+(tokL l).length,a.2.2|| !(shL l c))
 |[],a=>by simp[Ag,tokL,shL]
 |v::l,a=>by
  rw[Pe,XD c l,Ag,tokL,shL,Ja];simp only[Prod.mk.injEq]
  grind
theorem XB(a b:Bool):(bif a then true else b)=(a||b):=by cases a<;>rfl
theorem aJ(a b:Bool):(bif a then b else false)=(a&&b):=by cases a<;>rfl
theorem MF{l:List zg}{c:Int}(h:szL l<=big):Zr (l,c)=some (Mi l c):=by
 refine Ox (fun x:List zg×Int=>szL x.1) (fun x=>szL x.1<=big) (fun x=>Mi x.1 x.2) (fun S x hl hS=> ?_) h;obtain⟨l,c⟩:=x;simp only at hl hS ⊢;unfold Wl;have hlen:=Pi l;refine(Cs l (fun i (a:Nat×Nat×Bool)=>((i:Int),(⟨(a.1:Int),(a.2.1:Int),a.2.2⟩:zl))) (fun v a=>some (.again (max a.1 (Ci v),a.2.1+(tokV v).length,a.2.2|| !(shV v c)))) (fun a=>some (.out (⟨(a.1:Int),(a.2.1:Int),a.2.2⟩:zl))) (fun i a=>a.2.1<=2*szL (l.take i)) (a:=(0,0,false)) rfl (by simp) (fun i a hi hI=> ?_) (fun a _=> ?_) (r:= .out (Mi l c)) ?_)
 ·have hsz:=Un (Ff hi);have hv2:=Uk l[i];have hd:=TK l[i];have hd2:=Dw l[i].list;have ht:=Tv l[i];have ht2:=Sn l[i].list;have hsh:=FI l[i] c;have htk:=Iw hi;have htk2:=ay l (i+1);have hv3:=Ar l[i];have hs1:szL l[i].list<=big:=by omega
  have hs2:szL l[i].list<szL l:=by omega
  have hSq:S (l[i].list,zI l[i].token.kind)=some (Mi l[i].list (zI l[i].token.kind)):=hS (l[i].list,zI l[i].token.kind) hs1 hs2;obtain⟨d,n,b⟩:=a;simp only at hI;have hw:=oh hi (by omega);unfold big at hl;have hw1:w64 ((n:Int)+1)=((n+1:Nat):Int):=by rw[w64,Sj (by omega) (by omega)];omega
  refine⟨?_,fun a' ha=> ?_⟩
  ·have hp:decide ((l[i].list.length:Int)>0)=decide (0<l[i].list.length):=tH _;simp only[Ui hi,Bc,ze,Ao hi,aa,QF,Db,hw1,bne,hp,XB,aJ];by_cases hc:zI l[i].token.kind=0
   ·rw[Va hc]at hd ht;simp only[hc,beq_self_eq_true,Me,Bool.not_true,Bool.false_and,Bool.or_false,bne]at hsh ⊢;rw[hsh,hd,ht];rcases Oe (decide (0<l[i].list.length))with h2|h2<;>rcases Oe (c==0)with h3|h3<;>rcases Oe (l[i].token.kind==c)with h4|h4<;>
     simp[h2,h3,h4,hw,Bc,Ed]
   ·rw[Oa hc]at hd ht;have hcb:(zI l[i].token.kind==0)=false:=Ac.2 hc;have hw2:w64 ((Ag l[i].list:Int)+1)=((1+Ag l[i].list:Nat):Int):=by rw[w64,Sj (by omega) (by omega)];omega
    have hw3:w64 (((n+1:Nat):Int)+((tokL l[i].list).length:Int))=((n+1+(tokL l[i].list).length:Nat):Int):=by rw[w64,Sj (by omega) (by omega)];omega
    have hw4:w64 (((n+1+(tokL l[i].list).length:Nat):Int)+1)=((n+(1+((tokL l[i].list).length+1)):Nat):Int):=by rw[w64,Sj (by omega) (by omega)];omega
    have htl:(tokV l[i]).length=1+((tokL l[i].list).length+1):=by rw[ht];simp;omega
    have hm:(if((1+Ag l[i].list:Nat):Int)>(d:Int)then((1+Ag l[i].list:Nat):Int)else(d:Int))=((max d (1+Ag l[i].list):Nat):Int):=by split<;>omega
    rw[hsh,hd,htl];simp only[hcb,hSq,Bool.false_and,Bool.not_false,Me,Bool.or_false,Bool.false_or,Ed,bne,aa,Mi];rcases Oe (c==0)with h3|h3<;>rcases Oe (l[i].token.kind==c)with h4|h4<;>
     simp only[h3,h4,hw,hw2,hw3,hw4,hm,Bc,Ed,zcY,Bool.not_true,Bool.not_false,Me,Bool.and_true,Bool.and_false,Bool.false_and,Bool.or_true,Bool.or_false,Bool.true_or,Bool.false_or,Bool.not_not]
  grind
 ·grind
 ·rw[uo (fun a v=>(max a.1 (Ci v),a.2.1+(tokV v).length,a.2.2|| !(shV v c))) (fun v a=>rfl),XD];simp[Mi]
theorem Uv{a b:List zg}(h:a.Sublist b):szL a<=szL b:=by
 induction h with
 |slnil=>grind
 |cons v _ ih=>rw[szL];omega
 |cons_cons v _ ih=>rw[szL,szL];omega
def isSp(v:zg):Bool:=v.token.kind==13
def trimB(l:List zg):List zg:=(l.reverse.dropWhile isSp).reverse
theorem rJ:trimB []=[]:=rfl
theorem EM(t:List zg)(v:zg):trimB (t++[v])=if isSp v then trimB t else t++[v]:=by
 unfold trimB;rw[List.reverse_append];simp only[List.reverse_cons,List.reverse_nil,Vd,Xc,List.dropWhile_cons]
 grind
theorem tC(l:List zg):(trimB l).Sublist l:=by
 unfold trimB
 grind
def trimS(l:List zg):List zg:=trimB (l.dropWhile isSp)
theorem xq(p:zg->Bool): ∀(l:List zg),l.drop (l.length - (l.dropWhile p).length)=l.dropWhile p
 |[]=>rfl
 |v::r=>by
  rw[List.dropWhile_cons];split
  ·have h:=List.Sublist.length_le (List.dropWhile_sublist p (l:=r));rw[Ob,Nat.succ_sub h,List.drop_succ_cons];exact xq p r
  ·simp
def errS(l:List zg):Int:=if 16<Ag l then 20 else if 1500<(tokL l).length then 4 else if shL l 0 then 0 else 8
theorem QW{l:List zg}(h:szL l<=big):zH l=some (errS l):=by
 unfold zH errS;simp only[ze,MF h,aa,Mi]
 grind
theorem GN{l:List zg}(h:szL l<=big):qV l=some (if errS l=0 then((Ag l:Int),0)else(0,errS l)):=by
 unfold qV;simp only[ze,QW h,MF h,aa,Mi]
 grind
theorem IK{l:List zg}{a:List zf}(h:szL l<=big)(ha:a.length+2*szL l<=4*big):Za (l,a)=some (a++tokL l):=by
 refine Ox (fun z=>szL z.1) (fun z=>szL z.1<=big/\z.2.length+2*szL z.1<=4*big) (fun z=>z.2++tokL z.1) (fun S z hz hS=> ?_) (x:=(l,a)) ⟨h,ha⟩;obtain⟨l,a⟩:=z;obtain⟨h,ha⟩:=hz;have h:szL l<=big:=h;have ha:a.length+2*szL l<=4*big:=ha;have hlen:=Pi l;unfold Qp;refine(Cs l (fun i (b:List zf)=>((i:Int),b)) (fun v b=>some (.again (b++tokV v))) (fun b=>some (.out b)) (fun i b=>b.length<=a.length+2*szL (l.take i)) (a:=a) rfl (by simp) (fun i b hi hI=> ?_) (fun b _=> ?_) (r:= .out (a++tokL l)) ?_).trans rfl
 ·have hsz:=Un (Ff hi);have hv2:=Uk l[i];have hd:=Tv l[i];have hd2:=Sn l[i].list;have ht:=Iw hi;have ht2:=ay l (i+1);have hv3:=Ar l[i];unfold big at h ha;have hap: ∀n m:Nat,n+m<=100000000->zC n m 56=true:=fun n m h=>Rj (by omega);refine⟨?_,fun a' ha'=> ?_⟩
  ·simp only[Ui hi,Bc,ze,Ao hi,aa,QF];by_cases hc:zI l[i].token.kind=0
   ·rw[Va hc]at hd;simp[hc,hd,oh hi (by unfold big;omega),hap b.length 1 (by omega)]
   ·rw[Oa hc]at hd;rw[hS (l[i].list,b++[l[i].token]) ⟨by grind,by grind⟩ (by grind)];have hb:(zI l[i].token.kind != 0)=true:=bne_iff_ne.2 hc;simp[hb,hd,oh hi (by unfold big;omega),hap b.length 1 (by omega),hap (b.length+((tokL l[i].list).length+1)) 1 (by omega)]
  ·grind
 ·grind
 ·rw[uo (fun a v=>a++tokV v) (fun v a=>rfl),Ex]
theorem JK{l:List zg}(h:szL l<=big):qg l=some (tokL l):=by
 have hlen:=Pi l;unfold qg;refine(Cs l (fun i (b:List zf)=>((i:Int),b)) (fun v b=>some (.again (b++tokV v))) (fun b=>some (.out b)) (fun i b=>b.length<=2*szL (l.take i)) (a:=[]) rfl (by simp) (fun i b hi hI=> ?_) (fun b _=> ?_) (r:= .out (tokL l)) ?_).trans rfl
 ·have hsz:=Un (Ff hi);have hv2:=Uk l[i];have hd:=Tv l[i];have hd2:=Sn l[i].list;have ht:=Iw hi;have ht2:=ay l (i+1);have hv3:=Ar l[i];unfold big at h;have hap: ∀n m:Nat,n+m<=100000000->zC n m 56=true:=fun n m h=>Rj (by omega);refine⟨?_,fun a' ha'=> ?_⟩
  ·simp only[Ui hi,Bc,ze,Ao hi,aa,QF];by_cases hc:zI l[i].token.kind=0
   ·rw[Va hc]at hd;simp[hc,hd,oh hi (by unfold big;omega),hap b.length 1 (by omega)]
   ·rw[Oa hc]at hd;rw[IK (a:=b++[l[i].token]) (show szL l[i].list<=big by unfold big;omega) (by grind)];have hb:(zI l[i].token.kind != 0)=true:=bne_iff_ne.2 hc;simp[hb,hd,oh hi (by unfold big;omega),hap b.length 1 (by omega),hap (b.length+((tokL l[i].list).length+1)) 1 (by omega)]
  ·grind
 ·grind
 ·rw[uo (fun a v=>a++tokV v) (fun v a=>rfl),Ex];simp
theorem mP{l:List zg}(h:szL l<=big):Ul l=some (if errS l=0 then(tokL l,0)else([],errS l)):=by
 unfold Ul;simp only[QW h,ze,aa];by_cases he:errS l=0
 ·have:(errS l != 0)=false:=by rw[he];rfl
  rw[this,Ed,JK h,Va he];rfl
 grind
def szP:List (List zg)->Nat
 |[]=>0
 |l::r=>1+szL l+szP r
theorem vL{R:Type}(x:Option R):both x x=x:=by unfold both;rw[Va rfl]
theorem bJ{l:List zg}(h:szL l<=big):Z8 l=some l:=by
 unfold Z8;have hlen:=Pi l;unfold big at h;have hap:zC 0 l.length 80=true:=Rj (by omega);cases l with
 |nil=>simp only[hap,vL,zaL,List.isEmpty_nil,Bc]
 |cons v r=>simp_all
theorem Sv{l:List zg}(h:szL l<=big):qz l=some l:=by
 refine Ox (fun l=>szL l) (fun l=>szL l<=big) (fun l=>l) (fun S l hl hS=> ?_) h;unfold Eu;have hlen:=Pi l;simp only[ze,bJ hl,aa];refine(Cs l (fun i (a:List zg)=>((i:Int),a)) (fun v a=>some (.again a)) (fun a=>some (.out a)) (fun i a=>a=l) (a:=l) rfl rfl (fun i a hi hI=> ?_) (fun a hI=> ?_) (r:= .out l) ?_)
 ·subst hI;have hsz:=Un (Ff hi);have hv2:=Uk a[i];refine⟨?_,fun a' ha=>by cases ha;rfl⟩;have h1:S a[i].list=some a[i].list:=hS a[i].list (by omega) (by omega);have h2:decide ((0:Int)<=(i:Int))=true:=Od (by omega);have h3:a[i]? =some a[i]:=Ea hi;have h4:a.set i ⟨a[i].token,a[i].list⟩=a:=by
   have:(⟨a[i].token,a[i].list⟩:zg)=a[i]:=by cases a[i];rfl
   rw[this,List.set_getElem_self]
  simp only[Ui hi,h2,Bool.and_self,Bc,zaL,jb,h3,aa,h1,h4,oh hi (by omega),Db]
 ·grind
 ·rw[uo (fun a v=>a) (fun v a=>rfl)];congr 2;clear hl hS hlen h;generalize l=b at*;have: ∀(m b:List zg),m.foldl (fun a _=>a) b=b:=by
   intro m
   induction m with
   |nil=>intro b;rfl
   |cons v m ih=>grind
  exact this _ _
theorem Cq{l:List zg}{i:Nat}(h:i<l.length):Xl ((i:Int),l)=some (isSp l[i]):=by unfold Xl;simp only[ze,Ao h,aa];rfl
theorem gK{l:List zg}(h:szL l<=big):Sl l=some (if errS l=0 then(trimS l,0)else([],errS l)):=by
 unfold Sl;have hlen:=Pi l;simp only[ze,QW h,aa];by_cases h1:errS l=0
 ·rw[Va h1];have hne:(errS l != 0)=false:=by simp[h1]
  simp only[hne,Ed];have hdl:=List.Sublist.length_le (List.dropWhile_sublist isSp (l:=l));have hdd:=xq isSp l;refine(Ko (r:= .out ((l.length - (l.dropWhile isSp).length:Nat):Int)) (uw (fun s=> ∃k:Nat,s=(k:Int)/\k<=l.length/\(l.drop k).dropWhile isSp=l.dropWhile isSp) (fun s=>l.length - s.toNat) _ (fun s hs=> ?_) ⟨0,rfl,Nb _,rfl⟩)).trans ?_
  ·obtain⟨k,rfl,hk,he⟩:=hs;by_cases hlt:k<l.length
   ·rw[ib hlt,List.dropWhile_cons]at he;have hw:=oh hlt (by grind);cases hv:isSp l[k]with
    |true=> rw[Va hv]at he;refine .inl ⟨((k+1:Nat):Int),?_,⟨k+1,rfl,hlt,he⟩,by omega⟩;simp only[Ui hlt,zbV,Cq hlt,aa,hv,Bc,hw]
    |false=>
     rw[Oa (by rw[hv];simp)]at he;refine .inr (.inl ⟨(k:Int),?_,?_⟩)
     ·simp only[Ui hlt,zbV,Cq hlt,aa,hv,Bc,Ed]
     grind
   ·have hkk:k=l.length:=by omega
    simp_all
  ·rw[zo8];generalize hf:l.length - (l.dropWhile isSp).length=f at hdd;have hfl:f<=l.length:=by omega
   generalize l.dropWhile isSp=d at hdd;subst hdd;refine(Ko (r:= .out ((f+(trimB (l.drop f)).length:Nat):Int)) (uw (fun s=> ∃m:Nat,s=(m:Int)/\f<=m/\m<=l.length/\trimB ((l.take m).drop f)=trimB (l.drop f)) (fun s=>s.toNat) _ (fun s hs=> ?_) ⟨l.length,rfl,hfl,Ma _,by grind⟩)).trans ?_
   ·obtain⟨m,rfl,hm1,hm2,he⟩:=hs;by_cases hlt:f<m
    ·have hm:m - 1<l.length:=by omega
     have hsn:(l.take m).drop f=(l.take (m - 1)).drop f++[l[m - 1]]:=by
      have:l.take m=l.take (m - 1)++[l[m - 1]]:=by
       have:=Ue hm
       rwa [show m - 1+1=m by omega]at this
      rw[this,List.drop_append_of_le_length (by rw[Ad];omega)]
     rw[hsn,EM]at he;have h2:decide ((f:Int)<(m:Int))=true:=Od (by omega);have hw:w64 ((m:Int) - 1)=((m - 1:Nat):Int):=by rw[w64,Sj (by omega) (by unfold big at h;omega)];omega
     cases hv:isSp l[m - 1]with
     |true=> rw[Va hv]at he;refine .inl ⟨((m - 1:Nat):Int),?_,⟨m - 1,rfl,by omega,by omega,he⟩,by omega⟩;simp only[h2,zbV,hw,Cq hm,aa,hv,Bc]
     |false=>
      rw[Oa (by rw[hv];simp)]at he;refine .inr (.inl ⟨(m:Int),?_,?_⟩)
      ·simp only[h2,zbV,hw,Cq hm,aa,hv,Bc,Ed]
      ·rw[<-he];congr 1;simp;omega
    ·have hmm:m=f:=by omega
     subst hmm;have h2:decide ((m:Int)<(m:Int))=false:=decide_eq_false (by omega);refine .inr (.inl ⟨(m:Int),?_,?_⟩)
     ·simp only[h2,zlW,aa,Ed]
     ·rw[List.drop_eq_nil_of_le (by rw[Ad];omega),rJ]at he;rw[<-he];simp
   ·rw[zo8];have htl:=List.Sublist.length_le (tC (l.drop f));rw[Ud]at htl;have hcut:List.drop f (List.take (f+(trimB (l.drop f)).length) l)=trimB (l.drop f):=by
     rw[List.drop_take];have: ∀d:List zg,d.take (trimB d).length=trimB d:=by intro d;unfold trimB;rw[Ke];have h3:=xq isSp d.reverse;have h4:=List.Sublist.length_le (List.dropWhile_sublist isSp (l:=d.reverse));rw[Ke]at h3 h4;rw[<-h3,List.drop_reverse,List.reverse_reverse];congr 1;simp
     have e:=this (l.drop f);rw[show f+(trimB (l.drop f)).length - f=(trimB (l.drop f)).length by omega];exact e
    have hneed:(decide ((0:Int)<=(f:Int))&&(decide ((f:Int)<=((f+(trimB (l.drop f)).length:Nat):Int))&&(decide (((f+(trimB (l.drop f)).length:Nat):Int)<=((f+(trimB (l.drop f)).length:Nat):Int))&&decide (((f+(trimB (l.drop f)).length:Nat):Int)<=(l.length:Int))))&&decide True)=true:=by simp only[Ca,Lb];refine⟨?_,trivial⟩;omega
    have hts:trimS l=trimB (l.drop f):=by unfold trimS;rw[<-xq isSp l,hf]
    simp only[hneed,zaL,jb,hcut,Sv (ja (Uv ((tC _).trans (List.drop_sublist _ _))) h),aa,hts]
 grind
def Bg(k:Int)(a:List (List zg)×List zg)(v:zg):List (List zg)×List zg:=
 if v.token.kind==k then(a.1++[a.2],[])else(a.1,a.2++[v])
def je(k:Int)(l:List zg):List (List zg)×List zg:=l.foldl (Bg k) ([],[])
def TH(k:Int)(l:List zg):List (List zg):=(je k l).1++[(je k l).2]
theorem wM{k:Int}{l:List zg}{i:Nat}(h:i<l.length):je k (l.take (i+1))=Bg k (je k (l.take i)) l[i]:=by unfold je;rw[Ue h,List.foldl_append];rfl
theorem IM(a b:List (List zg)):szP (a++b)=szP a+szP b:=by
 induction a with
 |nil=>simp[szP]
 |cons x a ih=>simp only[Xc,szP,ih];omega
theorem JM(a b:List zg):szL (a++b)=szL a+szL b:=by
 induction a with
 |nil=>simp[szL]
 |cons x a ih=>simp only[Xc,szL,ih];omega
theorem Nw(k:Int): ∀(l:List zg) (a:List (List zg)×List zg),szP (l.foldl (Bg k) a).1+szL (l.foldl (Bg k) a).2<=szP a.1+szL a.2+szL l/\(l.foldl (Bg k) a).1.length<=a.1.length+l.length/\(l.foldl (Bg k) a).2.length<=a.2.length+l.length
 |[],a=>by simp[szL]
 |v::l,a=>by
  rw[Pe];obtain⟨h1,h2,h3⟩:=Nw k l (Bg k a v);have hv:=Uk v;have:szP (Bg k a v).1+szL (Bg k a v).2<=szP a.1+szL a.2+szV v/\(Bg k a v).1.length<=a.1.length+1/\(Bg k a v).2.length<=a.2.length+1:=by
   unfold Bg;split
   ·simp only[IM,szP,szL,Ja,Ob,Tc];omega
   ·simp only[JM,szL,Ja,Ob,Tc];omega
  rw[szL,Ob];omega
theorem Cy{l:List zg}{k:Int}(h:szL l<=big):qW (l,k)=some (if errS l=0 then(if k<1\/24<k then([],2)else(TH k l,0))else([],errS l)):=by
 unfold qW;have hlen:=Pi l;simp only[ze,QW h,aa];by_cases h1:errS l=0
 ·have hne:(errS l != 0)=false:=by simp[h1]
  rw[Va h1];simp only[hne,Ed,XB];by_cases h2:k<1\/24<k
  ·have:(decide (k<1)||decide (k>24))=true:=by simpa using h2
   rw[Va h2,this];rfl
  ·have:(decide (k<1)||decide (k>24))=false:=by rw[Ie];exact⟨decide_eq_false (by omega),decide_eq_false (by omega)⟩
   rw[Oa h2,this];simp only[Ed];refine(Ko (r:= .out (((l.length - (je k l).2.length:Nat):Int),(je k l).1)) (uw (fun s=> ∃i from_:Nat,s=(((from_:Int),(i:Int)),(je k (l.take i)).1)/\from_<=i/\i<=l.length/\(je k (l.take i)).2=(l.take i).drop from_) (fun s=>l.length - s.1.2.toNat) _ (fun s hs=> ?_) ⟨0,0,by simp[je],Ma _,Nb _,by simp[je]⟩)).trans ?_
   ·obtain⟨i,fr,rfl,hfi,hil,he⟩:=hs;by_cases hi:i<l.length
    ·refine .inl ?_;have hw:=oh hi (by unfold big at h ⊢;omega);have hpt:=wM (k:=k) hi;have htk:l.take (i+1)=l.take i++[l[i]]:=Ue hi;unfold Bg at hpt;simp only[Ui hi,Bc,Ao hi,aa];cases hv:(l[i].token.kind==k)with
     |true=>
      rw[Va hv]at hpt;have hn:(decide ((0:Int)<=(fr:Int))&&(decide ((fr:Int)<=(i:Int))&&(decide ((i:Int)<=(i:Int))&&decide ((i:Int)<=(l.length:Int))))&&decide True)=true:=by simp only[Ca,Lb];refine⟨?_,trivial⟩;omega
      have hsz:szL (List.drop fr (List.take i l))<=big:=ja (Uv ((List.drop_sublist _ _).trans (List.take_sublist _ _))) h;have hpl:=(Nw k (l.take i) ([],[])).2.1;have hap:zC (je k (l.take i)).1.length 1 24=true:=Rj (by
       unfold je;have:=List.length_take_le i l;unfold big at h;simp only[Tc]at hpl;omega)
      refine⟨((((i+1:Nat):Int),((i+1:Nat):Int)),(je k (l.take (i+1))).1),?_,⟨i+1,i+1,rfl,Ma _,hi,?_⟩,?_⟩
      ·simp only[Bc,hn,zaL,jb,Sv hsz,aa,hap,hw,zcY,hpt,he]
      ·rw[hpt];simp
      ·simp only[jb];omega
     |false=>
      rw[Oa (by rw[hv];simp)]at hpt;refine⟨(((fr:Int),((i+1:Nat):Int)),(je k (l.take (i+1))).1),?_,⟨i+1,fr,rfl,by omega,hi,?_⟩,?_⟩
      ·simp only[Ed,zcY,hw,hpt]
      ·rw[hpt,htk,he,List.drop_append_of_le_length (by rw[Ad];omega)]
      ·simp only[jb];omega
    ·have hil:i=l.length:=by omega
     subst hil;rw[List.take_length]at he ⊢;refine .inr (.inl ⟨((fr:Int),(je k l).1),by simp only[FB,Ed],?_⟩);rw[he,Ud];congr 2;omega
   ·rw[zo8]
    -- the last part is behind
    have key: ∀(m:List zg) (a:List (List zg)×List zg) (p:List zg),a.2<:+p->(m.foldl (Bg k) a).2<:+p++m:=by
     intro m
     induction m with
     |nil=>intro a p h;simpa using h
     |cons v m ih=>
      intro a p h;rw[Pe];have:(Bg k a v).2<:+p++[v]:=by
       unfold Bg;split
       ·exact List.nil_suffix
       ·obtain⟨q,hq⟩:=h;exact⟨q,by rw[<-hq,Lc]⟩
      have:=ih _ _ this
      rwa [Lc]at this
    have hsuf:=key l ([],[]) [] (Ef _);rw[Vd]at hsuf;have hdr:List.drop (l.length - (je k l).2.length) l=(je k l).2:=by unfold je;exact(List.suffix_iff_eq_drop.1 hsuf).symm
    have hsz:szL (je k l).2<=big:=by have:=Uv hsuf.sublist;unfold je;omega
    have hle:(je k l).2.length<=l.length:=by unfold je;exact hsuf.length_le
    have hn:(decide ((0:Int)<=((l.length - (je k l).2.length:Nat):Int))&&decide (((l.length - (je k l).2.length:Nat):Int)<=(l.length:Int)))=true:=by simp only[Ca,Lb];omega
    have hpl:=(Nw k l ([],[])).2.1;have hap:zC (je k l).1.length 1 24=true:=Rj (by
     unfold je;unfold big at h;simp only[Tc]at hpl;omega)
    simp only[hn,zaL,jb,hdr,Sv hsz,aa,hap];rfl
 ·have h2:(errS l != 0)=true:=bne_iff_ne.2 h1;rw[Oa h1];simp only[h2,Bc]
end Go.Lv.VT

namespace Go.Lv
namespace VT
def mx{α:Type}(f:α->Nat):List α->Nat
 |[]=>0
 |v::l=>max (f v) (mx f l)
end VT
end Go.Lv

namespace Go.Lv.VT
set_option maxRecDepth 100000
theorem NJ:Yl ()=some true:=dQ 400 _ _ (by decide+kernel)
inductive Cuts (k:Int):List zg->List (List zg)->Prop
 |one (p:List zg) (h: ∀x∈p,(x.token.kind==k)=false):Cuts k p [p]
 |more (p:List zg) (s:zg) (v:List zg) (ps:List (List zg)) (h: ∀x∈p,(x.token.kind==k)=false) (hs:(s.token.kind==k)=true) (hc:Cuts k v ps):Cuts k (p++s::v) (p::ps)
end Go.Lv.VT
