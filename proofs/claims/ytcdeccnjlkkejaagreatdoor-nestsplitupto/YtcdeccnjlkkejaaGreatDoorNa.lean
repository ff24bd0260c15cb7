/- Small functions of bytes and texts: small letters, names; the program's and the reference's are the same. -/
import Derived.Test.YtcdeccnjlkkejaaGreatDoorTx
import Derived.Test.YtcdeccnjlkkejaaGreatDoorMo
import Derived.Test.YtcdeccnjlkkejaaGreatDoorIp
import Derived.Test.YtcdeccnjlkkejaaGreatDoorLf
import Derived.Test.YtcdeccnjlkkejaaGreatDoorLe
set_option linter.unusedSimpArgs false
set_option linter.unusedVariables false
namespace Go.Lv.VT
end Go.Lv.VT

namespace Go.Lv.VT
def zL{α:Type}(f:α→List PV)(l:List α):Nat:=znS (l.map f)
theorem zuD{α:Type}(f:α→List PV)(v:α)(l:List α):zL f (v::l)=Qp (f v)+zL f l:=rfl
theorem zsB(x:ze):Qp (zq x)=6+x.token.text.length+x.token.unit.length+zL zq x.list:=by
 rw[zjG]
 simp only[Qp,bPV,zL]
 omega
end Go.Lv.VT

namespace Go.Lv.VT
mutual
/-- How large values are. -/
def szV:ze→Nat
 |⟨t,l⟩=>1+t.text.length+t.unit.length+szL l
def szL:List ze→Nat
 |[]=>0
 |v::r=>szV v+szL r
end
theorem zfk(v:ze):szV v=1+v.token.text.length+v.token.unit.length+szL v.list:=by
 obtain⟨t,l⟩:=v;rw[szV]
theorem zdT{v:ze}: ∀{l:List ze},v∈l→szV v≤szL l
 |[],h=>by cases h
 |x::l,h=>by
  rw[szL]
  rcases List.mem_cons.1 h with rfl|h
  ·omega
  ·have:=zdT h;omega
theorem zbm: ∀(l:List ze),l.length≤szL l
 |[]=>Nat.le_refl _
 |v::r=>by rw[szL,zfk,List.length_cons];have:=zbm r;omega
theorem zr2(n:Nat):decide ((n:Int)>0)=decide (0<n):=by
 by_cases h:0<n
 ·rw[decide_eq_true h,decide_eq_true (by omega)]
 ·rw[decide_eq_false h,decide_eq_false (by omega)]
theorem zg3(k:Int):qB k=some (zH k):=by
 unfold qB zH
 by_cases h1:k=19
 ·subst h1;rfl
 by_cases h2:k=21
 ·subst h2;rfl
 by_cases h3:k=2
 ·subst h3;rfl
 by_cases h4:k=23
 ·subst h4;rfl
 have e1:(k==19)=false:=beq_eq_false_iff_ne.2 h1
 have e2:(k==21)=false:=beq_eq_false_iff_ne.2 h2
 have e3:(k==2)=false:=beq_eq_false_iff_ne.2 h3
 have e4:(k==23)=false:=beq_eq_false_iff_ne.2 h4
 simp only[e1,e2,e3,e4,cond_false,zcq,h1,h2,h3,h4,if_false,or_self]
theorem zc3(k:Int):Zq k=some (zH k):=by
 unfold Zq zH
 by_cases h1:k=19
 ·subst h1;rfl
 by_cases h2:k=21
 ·subst h2;rfl
 by_cases h3:k=2
 ·subst h3;rfl
 by_cases h4:k=23
 ·subst h4;rfl
 have e1:(k==19)=false:=beq_eq_false_iff_ne.2 h1
 have e2:(k==21)=false:=beq_eq_false_iff_ne.2 h2
 have e3:(k==2)=false:=beq_eq_false_iff_ne.2 h3
 have e4:(k==23)=false:=beq_eq_false_iff_ne.2 h4
 simp only[e1,e2,e3,e4,cond_false,zcq,h1,h2,h3,h4,if_false,or_self]
mutual
/-- The depth of values. -/
def zir:ze→Nat
 |⟨t,l⟩=>if zH t.kind=0 then 0 else 1+QN l
def QN:List ze→Nat
 |[]=>0
 |v::r=>max (zir v) (QN r)
end
theorem zo0(v:ze):zir v=if zH v.token.kind=0 then 0 else 1+QN v.list:=by
 obtain⟨t,l⟩:=v;rw[zir]
mutual
theorem zsQ: ∀v:ze,zir v≤szV v
 |⟨t,l⟩=>by
  rw[zir,szV]
  have:=zhG l
  split<;>omega
theorem zhG: ∀l:List ze,QN l≤szL l
 |[]=>Nat.le_refl _
 |v::r=>by
  rw[QN,szL]
  have:=zsQ v
  have:=zhG r
  omega
end
theorem zmC(f:ze→Nat): ∀(l:List ze) (a:Nat),l.foldl (fun a v=>max a (f v)) a=max a (l.foldr (fun v a=>max (f v) a) 0)
 |[],a=>by simp
 |v::l,a=>by rw[List.foldl_cons,zmC f l,List.foldr_cons];omega
theorem zoZ: ∀(l:List ze),QN l=l.foldr (fun v a=>max (zir v) a) 0
 |[]=>by rw[QN];rfl
 |v::l=>by rw[QN,zoZ l];rfl
theorem zpk{l:List ze}(h:szL l≤big):qo l=some (QN l:Int):=by
 refine zdt (fun l=>szL l) (fun l=>szL l≤big) (fun l=>(QN l:Int)) (fun S l hl hS=> ?_) h
 unfold zcP
 have hlen:=zbm l
 refine(zln l (fun i (a:Nat)=>((a:Int),(i:Int))) (fun v a=>some (.again (max a (zir v)))) (fun a=>some (.out (a:Int))) (a:=0) rfl (fun i a hi=> ?_) (fun a=> ?_) (r:= .out (QN l:Int)) ?_)
 ·have hsz:=zdT (List.getElem_mem hi)
  have hv2:=zfk l[i]
  have hd:=zo0 l[i]
  have hd2:=zhG l[i].list
  simp only[zaq hi,cond_true,zb,zak hi,Option.bind_some,zg3]
  by_cases hc:zH l[i].token.kind=0
  ·rw[if_pos hc]at hd
   simp[hc,hd,zaj hi (by omega)]
  ·rw[if_neg hc]at hd
   rw[hS l[i].list (by omega) (by omega)]
   have hw:w64 (1+(QN l[i].list:Int))=((1+QN l[i].list:Nat):Int):=by
    rw[w64,Qs (by omega) (by unfold big at hl;omega)];omega
   simp only[bne_iff_ne.2 hc,cond_true,Option.bind_some,zcq,zaj hi (by omega),hw,hd,Option.map_some]
   congr 3
   split<;>omega
 ·simp only[zbJ,cond_false]
  rfl
 ·rw[zce (fun a v=>max a (zir v)) (fun v a=>rfl),zmC,←zoZ]
  simp
theorem zpq{l:List ze}: ∀{i:Nat} (h:i<l.length),szL (l.take (i+1))=szL (l.take i)+szV l[i]:=by
 induction l with
 |nil=>intro i h;cases h
 |cons v r ih=>
  intro i h
  cases i with
  |zero=>simp[szL]
  |succ i=>
   simp only[List.take_succ_cons,szL,List.getElem_cons_succ]
   rw[ih (by simpa using h)]
   omega
theorem zjl(l:List ze)(i:Nat):szL (l.take i)≤szL l:=by
 induction l generalizing i with
 |nil=>simp
 |cons v r ih=>
  cases i with
  |zero=>simp[szL]
  |succ i=>simp only[List.take_succ_cons,szL];have:=ih i;omega
mutual
/-- The tokens of values. -/
def tokV:ze→List zf
 |⟨t,l⟩=>t::if zH t.kind=0 then []else tokL l++[⟨zH t.kind,[],0,[],false⟩]
def tokL:List ze→List zf
 |[]=>[]
 |v::r=>tokV v++tokL r
end
theorem zsk(v:ze):tokV v=v.token::if zH v.token.kind=0 then []else tokL v.list++[⟨zH v.token.kind,[],0,[],false⟩]:=by
 obtain⟨t,l⟩:=v;rw[tokV]
mutual
theorem zoF: ∀v:ze,(tokV v).length≤2*szV v
 |⟨t,l⟩=>by
  rw[tokV,szV]
  have:=zlT l
  split
  ·simp;omega
  ·simp;omega
theorem zlT: ∀l:List ze,(tokL l).length≤2*szL l
 |[]=>Nat.le_refl _
 |v::r=>by
  rw[tokL,szL,List.length_append]
  have:=zoF v
  have:=zlT r
  omega
end
theorem znD: ∀(l:List ze) (a:List zf),l.foldl (fun a v=>a++tokV v) a=a++tokL l
 |[],a=>by simp[tokL]
 |v::l,a=>by rw[List.foldl_cons,znD l,tokL,List.append_assoc]
theorem zqi{l:List ze}(h:szL l≤big):Z0 l=some (tokL l):=by
 refine zdt (fun l=>szL l) (fun l=>szL l≤big) (fun l=>tokL l) (fun S l hl hS=> ?_) h
 unfold zbs
 have hlen:=zbm l
 refine(zhO l (fun i (a:List zf)=>((i:Int),a)) (fun v a=>some (.again (a++tokV v))) (fun a=>some (.out a)) (fun i a=>a.length≤2*szL (l.take i)) (a:=[]) rfl (by simp) (fun i a hi hI=> ?_) (fun a _=> ?_) (r:= .out (tokL l)) ?_)
 ·have hsz:=zdT (List.getElem_mem hi)
  have hv2:=zfk l[i]
  have hd:=zsk l[i]
  have hd2:=zlT l[i].list
  have ht:=zpq hi
  have ht2:=zjl l (i+1)
  have hv3:=zoF l[i]
  unfold big at hl
  have hap: ∀n m:Nat,n+m≤100000000→zz n m 56=true:=fun n m h=>zhC (by omega)
  refine⟨?_,fun a' ha=> ?_⟩
  ·simp only[zaq hi,cond_true,zb,zak hi,Option.bind_some,zg3]
   by_cases hc:zH l[i].token.kind=0
   ·rw[if_pos hc]at hd
    simp[hc,hd,zaj hi (by unfold big;omega),hap a.length 1 (by omega)]
   ·rw[if_neg hc]at hd
    rw[hS l[i].list (by unfold big;omega) (by omega)]
    have hb:(zH l[i].token.kind != 0)=true:=bne_iff_ne.2 hc
    simp[hb,hd,zaj hi (by unfold big;omega),hap a.length 1 (by omega),hap (a.length+1) (tokL l[i].list).length (by omega),hap (a.length+((tokL l[i].list).length+1)) 1 (by omega)]
  ·cases ha
   rw[List.length_append,ht]
   omega
 ·simp only[zbJ,cond_false]
  rfl
 ·rw[zce (fun a v=>a++tokV v) (fun v a=>rfl),znD]
  simp
mutual
/-- Whether lists are those of blocks, and have not their closers. -/
def shV:ze→Int→Bool
 |⟨t,l⟩,c=> !((zH t.kind==0&&decide (0<l.length))||(c != 0&&t.kind==c)||(zH t.kind != 0&& !(shL l (zH t.kind))))
def shL:List ze→Int→Bool
 |[],_=>true
 |v::r,c=>shV v c&&shL r c
end
theorem ztP(v:ze)(c:Int):shV v c= !((zH v.token.kind==0&&decide (0<v.list.length))||(c != 0&&v.token.kind==c)||(zH v.token.kind != 0&& !(shL v.list (zH v.token.kind)))):=by
 obtain⟨t,l⟩:=v;rw[shV]
theorem zqh{l:List ze}{c:Int}(h:szL l≤big):Z4 (l,c)=some (shL l c):=by
 refine zdt (fun x:List ze×Int=>szL x.1) (fun x=>szL x.1≤big) (fun x=>shL x.1 x.2) (fun S x hl hS=> ?_) h
 obtain⟨l,c⟩:=x
 simp only at hl hS ⊢
 unfold zbt
 have hlen:=zbm l
 have hov: ∀l:List ze,zg0 (fun v (_:Unit)=>if shV v c=true then some (.again ())else some (.ret false)) (fun _=>some (.out ())) l ()=some (if shL l c=true then .out ()else .ret false):=by
  intro l
  induction l with
  |nil=>simp[zg0,shL]
  |cons v r ih=>
   by_cases hv:shV v c=true
   ·simpa [zg0,shL,hv] using ih
   ·simp[zg0,shL,hv]
 refine(zln l (fun i (_:Unit)=>(i:Int)) (fun v (_:Unit)=>if shV v c=true then some (.again ())else some (.ret false)) (fun _=>some (.out ())) (a:=()) rfl (fun i a hi=> ?_) (fun a=> ?_) (hov l)).trans ?_
 ·have hsz:=zdT (List.getElem_mem hi)
  have hv2:=zfk l[i]
  have hd:=ztP l[i] c
  simp only[zaq hi,cond_true,zb,zak hi,Option.bind_some,zg3]
  have hs1:szL l[i].list≤big:=by omega
  have hs2:szL l[i].list<szL l:=by omega
  have hSq: ∀c',S (l[i].list,c')=some (shL l[i].list c'):=fun c'=>hS (l[i].list,c') hs1 hs2
  rw[hd]
  have hp:decide ((l[i].list.length:Int)>0)=decide (0<l[i].list.length):=zr2 _
  have hw:=zaj hi (by omega)
  simp only[bne,hp]
  rcases Bool.eq_false_or_eq_true (zH l[i].token.kind==0)with h1|h1<;>rcases Bool.eq_false_or_eq_true (decide (0<l[i].list.length))with h2|h2<;>rcases Bool.eq_false_or_eq_true (c==0)with h3|h3<;>rcases Bool.eq_false_or_eq_true (l[i].token.kind==c)with h4|h4<;>rcases Bool.eq_false_or_eq_true (shL l[i].list (zH l[i].token.kind))with h5|h5<;>
   simp only[hSq,hp,h1,h2,h3,h4,h5,hw,cond_true,cond_false,Bool.not_true,Bool.not_false,Bool.and_true,Bool.and_false,Bool.true_and,Bool.false_and,Bool.or_true,Bool.or_false,Bool.true_or,Bool.false_or,Zw,za9,Option.bind_some,if_true,if_false,Option.map_some,Bool.false_eq_true]
 ·simp only[zbJ,cond_false]
  rfl
 ·cases h:shL l c<;>simp
def ziv(l:List ze)(c:Int):zo:=⟨QN l,(tokL l).length, !(shL l c)⟩
theorem zmY(c:Int): ∀(l:List ze) (a:Nat×Nat×Bool),l.foldl (fun a v=>(max a.1 (zir v),a.2.1+(tokV v).length,a.2.2|| !(shV v c))) a=(max a.1 (QN l),a.2.1+(tokL l).length,a.2.2|| !(shL l c))
 |[],a=>by simp[QN,tokL,shL]
 |v::l,a=>by
  rw[List.foldl_cons,zmY c l,QN,tokL,shL,List.length_append]
  simp only[Prod.mk.injEq]
  refine⟨by omega,by omega,?_⟩
  cases a.2.2<;>cases shV v c<;>cases shL l c<;>rfl
theorem zqS(a b:Bool):(bif a then true else b)=(a||b):=by cases a<;>rfl
theorem zsL(a b:Bool):(bif a then b else false)=(a&&b):=by cases a<;>rfl
theorem zm3{l:List ze}{c:Int}(h:szL l≤big):ZA (l,c)=some (ziv l c):=by
 refine zdt (fun x:List ze×Int=>szL x.1) (fun x=>szL x.1≤big) (fun x=>ziv x.1 x.2) (fun S x hl hS=> ?_) h
 obtain⟨l,c⟩:=x
 simp only at hl hS ⊢
 unfold zbj
 have hlen:=zbm l
 refine(zhO l (fun i (a:Nat×Nat×Bool)=>((i:Int),(⟨(a.1:Int),(a.2.1:Int),a.2.2⟩:zo))) (fun v a=>some (.again (max a.1 (zir v),a.2.1+(tokV v).length,a.2.2|| !(shV v c)))) (fun a=>some (.out (⟨(a.1:Int),(a.2.1:Int),a.2.2⟩:zo))) (fun i a=>a.2.1≤2*szL (l.take i)) (a:=(0,0,false)) rfl (by simp) (fun i a hi hI=> ?_) (fun a _=> ?_) (r:= .out (ziv l c)) ?_)
 ·have hsz:=zdT (List.getElem_mem hi)
  have hv2:=zfk l[i]
  have hd:=zo0 l[i]
  have hd2:=zhG l[i].list
  have ht:=zsk l[i]
  have ht2:=zlT l[i].list
  have hsh:=ztP l[i] c
  have htk:=zpq hi
  have htk2:=zjl l (i+1)
  have hv3:=zoF l[i]
  have hs1:szL l[i].list≤big:=by omega
  have hs2:szL l[i].list<szL l:=by omega
  have hSq:S (l[i].list,zH l[i].token.kind)=some (ziv l[i].list (zH l[i].token.kind)):=hS (l[i].list,zH l[i].token.kind) hs1 hs2
  obtain⟨d,n,b⟩:=a
  simp only at hI
  have hw:=zaj hi (by omega)
  unfold big at hl
  have hw1:w64 ((n:Int)+1)=((n+1:Nat):Int):=by rw[w64,Qs (by omega) (by omega)];omega
  refine⟨?_,fun a' ha=> ?_⟩
  ·have hp:decide ((l[i].list.length:Int)>0)=decide (0<l[i].list.length):=zr2 _
   simp only[zaq hi,cond_true,zb,zak hi,Option.bind_some,zc3,Option.map_some,hw1,bne,hp,zqS,zsL]
   by_cases hc:zH l[i].token.kind=0
   ·rw[if_pos hc]at hd ht
    simp only[hc,beq_self_eq_true,Bool.true_and,Bool.not_true,Bool.false_and,Bool.or_false,bne]at hsh ⊢
    rw[hsh,hd,ht]
    rcases Bool.eq_false_or_eq_true (decide (0<l[i].list.length))with h2|h2<;>rcases Bool.eq_false_or_eq_true (c==0)with h3|h3<;>rcases Bool.eq_false_or_eq_true (l[i].token.kind==c)with h4|h4<;>
     simp[h2,h3,h4,hw,cond_true,cond_false]
   ·rw[if_neg hc]at hd ht
    have hcb:(zH l[i].token.kind==0)=false:=beq_eq_false_iff_ne.2 hc
    have hw2:w64 ((QN l[i].list:Int)+1)=((1+QN l[i].list:Nat):Int):=by rw[w64,Qs (by omega) (by omega)];omega
    have hw3:w64 (((n+1:Nat):Int)+((tokL l[i].list).length:Int))=((n+1+(tokL l[i].list).length:Nat):Int):=by rw[w64,Qs (by omega) (by omega)];omega
    have hw4:w64 (((n+1+(tokL l[i].list).length:Nat):Int)+1)=((n+(1+((tokL l[i].list).length+1)):Nat):Int):=by rw[w64,Qs (by omega) (by omega)];omega
    have htl:(tokV l[i]).length=1+((tokL l[i].list).length+1):=by rw[ht];simp;omega
    have hm:(if((1+QN l[i].list:Nat):Int)>(d:Int)then((1+QN l[i].list:Nat):Int)else(d:Int))=((max d (1+QN l[i].list):Nat):Int):=by split<;>omega
    rw[hsh,hd,htl]
    simp only[hcb,hSq,Bool.false_and,Bool.not_false,Bool.true_and,Bool.or_false,Bool.false_or,cond_false,bne,Option.bind_some,ziv]
    rcases Bool.eq_false_or_eq_true (c==0)with h3|h3<;>rcases Bool.eq_false_or_eq_true (l[i].token.kind==c)with h4|h4<;>
     simp only[h3,h4,hw,hw2,hw3,hw4,hm,cond_true,cond_false,zcq,Bool.not_true,Bool.not_false,Bool.true_and,Bool.and_true,Bool.and_false,Bool.false_and,Bool.or_true,Bool.or_false,Bool.true_or,Bool.false_or,Bool.not_not]
  ·cases ha
   simp only
   omega
 ·simp only[zbJ,cond_false]
  rfl
 ·rw[zce (fun a v=>(max a.1 (zir v),a.2.1+(tokV v).length,a.2.2|| !(shV v c))) (fun v a=>rfl),zmY]
  simp[ziv]
end Go.Lv.VT

namespace Go.Lv.VT
theorem zlS{a b:List ze}(h:a.Sublist b):szL a≤szL b:=by
 induction h with
 |slnil=>exact Nat.le_refl _
 |cons v _ ih=>rw[szL];omega
 |cons_cons v _ ih=>rw[szL,szL];omega
theorem zop(l:List ze):l=[]∨ ∃t v,l=t++[v]:=by
 rcases List.eq_nil_or_concat l with h|⟨t,v,h⟩
 ·exact .inl h
 ·exact .inr ⟨t,v,by rw[h,List.concat_eq_append]⟩
def isSp(v:ze):Bool:=v.token.kind==13
def trimB(l:List ze):List ze:=(l.reverse.dropWhile isSp).reverse
theorem zso:trimB []=[]:=rfl
theorem zg5(t:List ze)(v:ze):trimB (t++[v])=if isSp v then trimB t else t++[v]:=by
 unfold trimB
 rw[List.reverse_append]
 simp only[List.reverse_cons,List.reverse_nil,List.nil_append,List.cons_append,List.dropWhile_cons]
 split
 ·rfl
 ·simp
theorem zgu(l:List ze):(trimB l).Sublist l:=by
 unfold trimB
 have:=List.dropWhile_sublist isSp (l:=l.reverse)
 simpa using this.reverse
def trimS(l:List ze):List ze:=trimB (l.dropWhile isSp)
theorem ztz(l:List ze):szL (trimS l)≤szL l:=zlS ((zgu _).trans (List.dropWhile_sublist _))
theorem zk7(p:ze→Bool): ∀(l:List ze),l.drop (l.length - (l.dropWhile p).length)=l.dropWhile p
 |[]=>rfl
 |v::r=>by
  rw[List.dropWhile_cons]
  split
  ·have h:=List.Sublist.length_le (List.dropWhile_sublist p (l:=r))
   rw[List.length_cons,Nat.succ_sub h,List.drop_succ_cons]
   exact zk7 p r
  ·simp
def errS(l:List ze):Int:=if 16<QN l then 20 else if 1500<(tokL l).length then 4 else if shL l 0 then 0 else 8
theorem zr8{l:List ze}(h:szL l≤big):zcz l=some (errS l):=by
 unfold zcz errS
 simp only[zb,zpk h,zqi h,zqh h,Option.bind_some]
 by_cases h1:16<QN l
 ·have:decide ((QN l:Int)>16)=true:=decide_eq_true (by omega)
  simp[this,h1]
 ·have:decide ((QN l:Int)>16)=false:=decide_eq_false (by omega)
  by_cases h2:1500<(tokL l).length
  ·have h3:decide (((tokL l).length:Int)>1500)=true:=decide_eq_true (by omega)
   simp[this,h1,h2,h3]
  ·have h3:decide (((tokL l).length:Int)>1500)=false:=decide_eq_false (by omega)
   cases h4:shL l 0<;>simp[this,h1,h2,h3]
theorem zkB{l:List ze}(h:szL l≤big):Z5 l=some (errS l):=by
 unfold Z5 errS
 simp only[zb,zm3 h,Option.bind_some,ziv]
 by_cases h1:16<QN l
 ·have:decide ((QN l:Int)>16)=true:=decide_eq_true (by omega)
  simp[this,h1]
 ·have:decide ((QN l:Int)>16)=false:=decide_eq_false (by omega)
  by_cases h2:1500<(tokL l).length
  ·have h3:decide (((tokL l).length:Int)>1500)=true:=decide_eq_true (by omega)
   simp[this,h1,h2,h3]
  ·have h3:decide (((tokL l).length:Int)>1500)=false:=decide_eq_false (by omega)
   cases h4:shL l 0<;>simp[this,h1,h2,h3]
theorem zu9: ∀l:List ze,szL l≤zL zq l:=by
 have key: ∀(n:Nat) (l:List ze),zL zq l<n→szL l≤zL zq l:=by
  intro n
  induction n with
  |zero=>intro l h;omega
  |succ n ih=>
   intro l
   induction l with
   |nil=>intro _;rw[szL];exact Nat.zero_le _
   |cons v l ihl=>
    intro h
    rw[zuD]at h ⊢
    rw[szL,zfk]
    have hz:=zsB v
    have h1:=ih v.list (by omega)
    have h2:=ihl (by omega)
    omega
 exact fun l=>key _ l (Nat.lt_succ_self _)
end Go.Lv.VT

namespace Go.Lv.VT
def szP:List (List ze)→Nat
 |[]=>0
 |l::r=>1+szL l+szP r
theorem zsh: ∀(l:List (List ze)),l.length≤szP l
 |[]=>Nat.le_refl _
 |v::r=>by rw[szP,List.length_cons];have:=zsh r;omega
theorem zqD{R:Type}(x:Option R):both x x=x:=by
 unfold both;rw[if_pos rfl]
theorem zsK{l:List ze}(h:szL l≤big):qC l=some l:=by
 unfold qC
 have hlen:=zbm l
 unfold big at h
 have hap:zz 0 l.length 80=true:=zhC (by omega)
 cases l with
 |nil=>simp only[hap,zqD,zbE,List.isEmpty_nil,cond_true]
 |cons v r=>simp only[hap,zbE,List.isEmpty_cons,cond_false]
theorem zoI{l:List ze}(h:szL l≤big):qW l=some l:=by
 refine zdt (fun l=>szL l) (fun l=>szL l≤big) (fun l=>l) (fun S l hl hS=> ?_) h
 unfold zdO
 have hlen:=zbm l
 simp only[zb,zsK hl,Option.bind_some]
 refine(zhO l (fun i (a:List ze)=>((i:Int),a)) (fun v a=>some (.again a)) (fun a=>some (.out a)) (fun i a=>a=l) (a:=l) rfl rfl (fun i a hi hI=> ?_) (fun a hI=> ?_) (r:= .out l) ?_)
 ·subst hI
  have hsz:=zdT (List.getElem_mem hi)
  have hv2:=zfk a[i]
  refine⟨?_,fun a' ha=>by cases ha;rfl⟩
  have h1:S a[i].list=some a[i].list:=hS a[i].list (by omega) (by omega)
  have h2:decide ((0:Int)≤(i:Int))=true:=decide_eq_true (by omega)
  have h3:a[i]? =some a[i]:=List.getElem?_eq_getElem hi
  have h4:a.set i ⟨a[i].token,a[i].list⟩=a:=by
   have:(⟨a[i].token,a[i].list⟩:ze)=a[i]:=by cases a[i];rfl
   rw[this,List.set_getElem_self]
  simp only[zaq hi,h2,Bool.and_self,cond_true,zbE,Int.toNat_natCast,h3,Option.bind_some,h1,h4,zaj hi (by omega),Option.map_some]
 ·subst hI
  simp only[zbJ,cond_false]
  rfl
 ·rw[zce (fun a v=>a) (fun v a=>rfl)]
  congr 2
  clear hl hS hlen h
  generalize l=b at*
  have: ∀(m b:List ze),m.foldl (fun a _=>a) b=b:=by
   intro m
   induction m with
   |nil=>intro b;rfl
   |cons v m ih=>intro b;exact ih b
  exact this _ _
theorem zty{l:List ze}{i:Nat}(h:i<l.length):zbh ((i:Int),l)=some (isSp l[i]):=by
 unfold zbh
 simp only[zb,zak h,Option.bind_some]
 rfl
theorem zm4{l:List ze}(h:szL l≤big):zdo l=some (if errS l=0 then(trimS l,0)else([],errS l)):=by
 unfold zdo
 have hlen:=zbm l
 simp only[zb,zkB h,Option.bind_some]
 by_cases h1:errS l=0
 ·rw[if_pos h1]
  have hne:(errS l != 0)=false:=by simp[h1]
  simp only[hne,cond_false]
  have hdl:=List.Sublist.length_le (List.dropWhile_sublist isSp (l:=l))
  have hdd:=zk7 isSp l
  refine(zeR (r:= .out ((l.length - (l.dropWhile isSp).length:Nat):Int)) (zcv (fun s=> ∃k:Nat,s=(k:Int)∧k≤l.length∧(l.drop k).dropWhile isSp=l.dropWhile isSp) (fun s=>l.length - s.toNat) _ (fun s hs=> ?_) ⟨0,rfl,Nat.zero_le _,rfl⟩)).trans ?_
  ·obtain⟨k,rfl,hk,he⟩:=hs
   by_cases hlt:k<l.length
   ·rw[List.drop_eq_getElem_cons hlt,List.dropWhile_cons]at he
    have hw:=zaj hlt (by unfold big at h ⊢;omega)
    cases hv:isSp l[k]with
    |true=>
     rw[if_pos hv]at he
     refine .inl ⟨((k+1:Nat):Int),?_,⟨k+1,rfl,hlt,he⟩,by omega⟩
     simp only[zaq hlt,Zw,zty hlt,Option.bind_some,hv,cond_true,hw]
    |false=>
     rw[if_neg (by rw[hv];simp)]at he
     refine .inr (.inl ⟨(k:Int),?_,?_⟩)
     ·simp only[zaq hlt,Zw,zty hlt,Option.bind_some,hv,cond_true,cond_false]
     ·rw[←he]
      congr 1
      simp
      omega
   ·have hkk:k=l.length:=by omega
    subst hkk
    rw[List.drop_length]at he
    refine .inr (.inl ⟨(l.length:Int),?_,?_⟩)
    ·simp only[zbJ,za9,Option.bind_some,cond_false]
    ·rw[←he];simp
  ·rw[zrh]
   generalize hf:l.length - (l.dropWhile isSp).length=f at hdd
   have hfl:f≤l.length:=by omega
   generalize l.dropWhile isSp=d at hdd
   subst hdd
   refine(zeR (r:= .out ((f+(trimB (l.drop f)).length:Nat):Int)) (zcv (fun s=> ∃m:Nat,s=(m:Int)∧f≤m∧m≤l.length∧trimB ((l.take m).drop f)=trimB (l.drop f)) (fun s=>s.toNat) _ (fun s hs=> ?_) ⟨l.length,rfl,hfl,Nat.le_refl _,by rw[List.take_length]⟩)).trans ?_
   ·obtain⟨m,rfl,hm1,hm2,he⟩:=hs
    by_cases hlt:f<m
    ·have hm:m - 1<l.length:=by omega
     have hsn:(l.take m).drop f=(l.take (m - 1)).drop f++[l[m - 1]]:=by
      have:l.take m=l.take (m - 1)++[l[m - 1]]:=by
       have:=List.take_succ_eq_append_getElem hm
       rwa [show m - 1+1=m by omega]at this
      rw[this,List.drop_append_of_le_length (by rw[List.length_take];omega)]
     rw[hsn,zg5]at he
     have h2:decide ((f:Int)<(m:Int))=true:=decide_eq_true (by omega)
     have hw:w64 ((m:Int) - 1)=((m - 1:Nat):Int):=by rw[w64,Qs (by omega) (by unfold big at h;omega)];omega
     cases hv:isSp l[m - 1]with
     |true=>
      rw[if_pos hv]at he
      refine .inl ⟨((m - 1:Nat):Int),?_,⟨m - 1,rfl,by omega,by omega,he⟩,by omega⟩
      simp only[h2,Zw,hw,zty hm,Option.bind_some,hv,cond_true]
     |false=>
      rw[if_neg (by rw[hv];simp)]at he
      refine .inr (.inl ⟨(m:Int),?_,?_⟩)
      ·simp only[h2,Zw,hw,zty hm,Option.bind_some,hv,cond_true,cond_false]
      ·rw[←he]
       congr 1
       simp
       omega
    ·have hmm:m=f:=by omega
     subst hmm
     have h2:decide ((m:Int)<(m:Int))=false:=decide_eq_false (by omega)
     refine .inr (.inl ⟨(m:Int),?_,?_⟩)
     ·simp only[h2,za9,Option.bind_some,cond_false]
     ·rw[List.drop_eq_nil_of_le (by rw[List.length_take];omega),zso]at he
      rw[←he];simp
   ·rw[zrh]
    have htl:=List.Sublist.length_le (zgu (l.drop f))
    rw[List.length_drop]at htl
    have hcut:List.drop f (List.take (f+(trimB (l.drop f)).length) l)=trimB (l.drop f):=by
     rw[List.drop_take]
     have: ∀d:List ze,d.take (trimB d).length=trimB d:=by
      intro d
      unfold trimB
      rw[List.length_reverse]
      have h3:=zk7 isSp d.reverse
      have h4:=List.Sublist.length_le (List.dropWhile_sublist isSp (l:=d.reverse))
      rw[List.length_reverse]at h3 h4
      rw[←h3,List.drop_reverse,List.reverse_reverse]
      congr 1
      simp
     have e:=this (l.drop f)
     rw[show f+(trimB (l.drop f)).length - f=(trimB (l.drop f)).length by omega]
     exact e
    have hneed:(decide ((0:Int)≤(f:Int))&&(decide ((f:Int)≤((f+(trimB (l.drop f)).length:Nat):Int))&&(decide (((f+(trimB (l.drop f)).length:Nat):Int)≤((f+(trimB (l.drop f)).length:Nat):Int))&&decide (((f+(trimB (l.drop f)).length:Nat):Int)≤(l.length:Int))))&&decide True)=true:=by
     simp only[Bool.and_eq_true,decide_eq_true_eq];refine⟨?_,trivial⟩;omega
    have hts:trimS l=trimB (l.drop f):=by
     unfold trimS
     rw[←zk7 isSp l,hf]
    simp only[hneed,zbE,Int.toNat_natCast,hcut,zoI (Nat.le_trans (zlS ((zgu _).trans (List.drop_sublist _ _))) h),Option.bind_some,hts]
 ·rw[if_neg h1]
  have hne:(errS l != 0)=true:=by simp[h1]
  simp only[hne,cond_true]
def zcD(k:Int)(a:List (List ze)×List ze)(v:ze):List (List ze)×List ze:=
 if v.token.kind==k then(a.1++[a.2],[])else(a.1,a.2++[v])
def za3(k:Int)(l:List ze):List (List ze)×List ze:=l.foldl (zcD k) ([],[])
def zk3(k:Int)(l:List ze):List (List ze):=(za3 k l).1++[(za3 k l).2]
theorem zpK{k:Int}{l:List ze}{i:Nat}(h:i<l.length):za3 k (l.take (i+1))=zcD k (za3 k (l.take i)) l[i]:=by
 unfold za3
 rw[List.take_succ_eq_append_getElem h,List.foldl_append]
 rfl
theorem zkG(a b:List (List ze)):szP (a++b)=szP a+szP b:=by
 induction a with
 |nil=>simp[szP]
 |cons x a ih=>simp only[List.cons_append,szP,ih];omega
theorem zqr(a b:List ze):szL (a++b)=szL a+szL b:=by
 induction a with
 |nil=>simp[szL]
 |cons x a ih=>simp only[List.cons_append,szL,ih];omega
theorem zhR(k:Int): ∀(l:List ze) (a:List (List ze)×List ze),szP (l.foldl (zcD k) a).1+szL (l.foldl (zcD k) a).2≤szP a.1+szL a.2+szL l∧(l.foldl (zcD k) a).1.length≤a.1.length+l.length∧(l.foldl (zcD k) a).2.length≤a.2.length+l.length
 |[],a=>by simp[szL]
 |v::l,a=>by
  rw[List.foldl_cons]
  obtain⟨h1,h2,h3⟩:=zhR k l (zcD k a v)
  have hv:=zfk v
  have:szP (zcD k a v).1+szL (zcD k a v).2≤szP a.1+szL a.2+szV v∧(zcD k a v).1.length≤a.1.length+1∧(zcD k a v).2.length≤a.2.length+1:=by
   unfold zcD
   split
   ·simp only[zkG,szP,szL,List.length_append,List.length_cons,List.length_nil];omega
   ·simp only[zqr,szL,List.length_append,List.length_cons,List.length_nil];omega
  rw[szL,List.length_cons]
  omega
theorem zsN(k:Int)(l:List ze):szP (zk3 k l)≤szL l+1:=by
 obtain⟨h1,_,_⟩:=zhR k l ([],[])
 unfold zk3 za3
 rw[zkG,szP,szP]
 have e1:szP ([]:List (List ze))=0:=rfl
 have e2:szL ([]:List ze)=0:=rfl
 simp only[e1,e2]at h1
 omega
theorem zp8{l:List ze}{k:Int}(h:szL l≤big):zcc (l,k)=some (if errS l=0 then(if k<1∨24<k then([],2)else(zk3 k l,0))else([],errS l)):=by
 unfold zcc
 have hlen:=zbm l
 simp only[zb,zkB h,Option.bind_some]
 by_cases h1:errS l=0
 ·have hne:(errS l != 0)=false:=by simp[h1]
  rw[if_pos h1]
  simp only[hne,cond_false,zqS]
  by_cases h2:k<1∨24<k
  ·have:(decide (k<1)||decide (k>24))=true:=by simpa using h2
   rw[if_pos h2,this]
   rfl
  ·have:(decide (k<1)||decide (k>24))=false:=by
    rw[Bool.or_eq_false_iff]
    exact⟨decide_eq_false (by omega),decide_eq_false (by omega)⟩
   rw[if_neg h2,this]
   simp only[cond_false]
   refine(zeR (r:= .out (((l.length - (za3 k l).2.length:Nat):Int),(za3 k l).1)) (zcv (fun s=> ∃i from_:Nat,s=(((from_:Int),(i:Int)),(za3 k (l.take i)).1)∧from_≤i∧i≤l.length∧(za3 k (l.take i)).2=(l.take i).drop from_) (fun s=>l.length - s.1.2.toNat) _ (fun s hs=> ?_) ⟨0,0,by simp[za3],Nat.le_refl _,Nat.zero_le _,by simp[za3]⟩)).trans ?_
   ·obtain⟨i,fr,rfl,hfi,hil,he⟩:=hs
    by_cases hi:i<l.length
    ·refine .inl ?_
     have hw:=zaj hi (by unfold big at h ⊢;omega)
     have hpt:=zpK (k:=k) hi
     have htk:l.take (i+1)=l.take i++[l[i]]:=List.take_succ_eq_append_getElem hi
     unfold zcD at hpt
     simp only[zaq hi,cond_true,zak hi,Option.bind_some]
     cases hv:(l[i].token.kind==k)with
     |true=>
      rw[if_pos hv]at hpt
      have hn:(decide ((0:Int)≤(fr:Int))&&(decide ((fr:Int)≤(i:Int))&&(decide ((i:Int)≤(i:Int))&&decide ((i:Int)≤(l.length:Int))))&&decide True)=true:=by
       simp only[Bool.and_eq_true,decide_eq_true_eq];refine⟨?_,trivial⟩;omega
      have hsz:szL (List.drop fr (List.take i l))≤big:=Nat.le_trans (zlS ((List.drop_sublist _ _).trans (List.take_sublist _ _))) h
      have hpl:=(zhR k (l.take i) ([],[])).2.1
      have hap:zz (za3 k (l.take i)).1.length 1 24=true:=zhC (by
       unfold za3
       have:=List.length_take_le i l
       unfold big at h
       simp only[List.length_nil]at hpl
       omega)
      refine⟨((((i+1:Nat):Int),((i+1:Nat):Int)),(za3 k (l.take (i+1))).1),?_,⟨i+1,i+1,rfl,Nat.le_refl _,hi,?_⟩,?_⟩
      ·simp only[cond_true,hn,zbE,Int.toNat_natCast,zoI hsz,Option.bind_some,hap,hw,zcq,hpt,he]
      ·rw[hpt]
       simp
      ·simp only[Int.toNat_natCast];omega
     |false=>
      rw[if_neg (by rw[hv];simp)]at hpt
      refine⟨(((fr:Int),((i+1:Nat):Int)),(za3 k (l.take (i+1))).1),?_,⟨i+1,fr,rfl,by omega,hi,?_⟩,?_⟩
      ·simp only[cond_false,zcq,hw,hpt]
      ·rw[hpt,htk,he,List.drop_append_of_le_length (by rw[List.length_take];omega)]
      ·simp only[Int.toNat_natCast];omega
    ·have hil:i=l.length:=by omega
     subst hil
     rw[List.take_length]at he ⊢
     refine .inr (.inl ⟨((fr:Int),(za3 k l).1),by simp only[zbJ,cond_false],?_⟩)
     rw[he,List.length_drop]
     congr 2
     omega
   ·rw[zrh]
    -- the last part is behind
    have key: ∀(m:List ze) (a:List (List ze)×List ze) (p:List ze),a.2<:+p→(m.foldl (zcD k) a).2<:+p++m:=by
     intro m
     induction m with
     |nil=>intro a p h;simpa using h
     |cons v m ih=>
      intro a p h
      rw[List.foldl_cons]
      have:(zcD k a v).2<:+p++[v]:=by
       unfold zcD
       split
       ·exact List.nil_suffix
       ·obtain⟨q,hq⟩:=h
        exact⟨q,by rw[←hq,List.append_assoc]⟩
      have:=ih _ _ this
      rwa [List.append_assoc]at this
    have hsuf:=key l ([],[]) [] (List.suffix_refl _)
    rw[List.nil_append]at hsuf
    have hdr:List.drop (l.length - (za3 k l).2.length) l=(za3 k l).2:=by
     unfold za3
     exact(List.suffix_iff_eq_drop.1 hsuf).symm
    have hsz:szL (za3 k l).2≤big:=by
     have:=zlS hsuf.sublist
     unfold za3
     omega
    have hle:(za3 k l).2.length≤l.length:=by unfold za3;exact hsuf.length_le
    have hn:(decide ((0:Int)≤((l.length - (za3 k l).2.length:Nat):Int))&&decide (((l.length - (za3 k l).2.length:Nat):Int)≤(l.length:Int)))=true:=by
     simp only[Bool.and_eq_true,decide_eq_true_eq];omega
    have hpl:=(zhR k l ([],[])).2.1
    have hap:zz (za3 k l).1.length 1 24=true:=zhC (by
     unfold za3
     unfold big at h
     simp only[List.length_nil]at hpl
     omega)
    simp only[hn,zbE,Int.toNat_natCast,hdr,zoI hsz,Option.bind_some,hap]
    rfl
 ·have h2:(errS l != 0)=true:=bne_iff_ne.2 h1
  rw[if_neg h1]
  simp only[h2,cond_true]
end Go.Lv.VT

namespace Go.Lv
theorem Le.lp{S X R:Type}{step step':S→Option (LO S X R)}{s:S}{k k':X→Option R}(h: ∀s,Le (step s) (step' s))(hk: ∀x,Le (k x) (k' x)):Le (ZP step s k) (ZP step' s k'):=by
 intro y hy
 unfold ZP at hy
 cases hl:ziN step s with
 |none=>rw[hl]at hy;cases hy
 |some r=>
  rw[hl]at hy
  obtain⟨n,hn⟩:=zky hl
  rw[zeR (zga (zlg h n s r hn))]
  cases r with
  |out x=>exact hk x y hy
  |ret r=>exact hy
def zuF{X Y:Type}(B:(X→Option Y)→X→Option Y):Prop:= ∀S S':X→Option Y,(∀x,Le (S x) (S' x))→ ∀x,Le (B S x) (B S' x)
theorem zti {X Y:Type} {B:(X→Option Y)→X→Option Y} (hm:zuF B) (μ:X→Nat) (ok:X→Prop) (R:X→Y→Prop)
  (hB: ∀(S:X→Option Y) (x:X),ok x→(∀z,ok z→μ z<μ x→ ∃y,S z=some y∧R z y)→ ∃y,B S x=some y∧R x y) {x:X} (hx:ok x): ∃y,recE B x=some y∧R x y:=by
 have step: ∀n x,Le (zdY B n x) (zdY B (n+1) x):=by
  intro n
  induction n with
  |zero=>intro x;exact Le.none
  |succ n ih=>intro x;exact hm _ _ ih x
 have up: ∀d n x,Le (zdY B n x) (zdY B (n+d) x):=by
  intro d
  induction d with
  |zero=>intro n x;exact Le.rfl
  |succ d ih=>intro n x y hy;exact step _ x y (ih n x y hy)
 have key: ∀(m:Nat) (x:X),μ x<m→ok x→ ∃y,zdY B m x=some y∧R x y:=by
  intro m
  induction m with
  |zero=>intro x h;omega
  |succ m ih=>
   intro x hm hok
   exact hB _ x hok fun z hz hlt=>ih z (by omega) hz
 obtain⟨y,h1,h2⟩:=key (μ x+1) x (by omega) hx
 refine⟨y,zoA (N:=μ x+1) fun n hn=> ?_,h2⟩
 obtain⟨d,rfl⟩:=Nat.le.dest hn
 exact up d _ x y h1
theorem zs9 {A S X R:Type} {step:S→Option (LO S X R)} {k:X→Option R} (n:Nat) (st:Nat→A→S) (Inv:Nat→A→Prop) (Q:R→Prop) {s0:S} {a0:A} (h0:s0=st 0 a0) (hI:Inv 0 a0)
  (hg: ∀(i:Nat) (a:A),i<n→Inv i a→(∃a',step (st i a)=some (.again (st (i+1) a'))∧Inv (i+1) a')∨(∃r,step (st i a)=some (.ret r)∧Q r)∨(∃x,step (st i a)=some (.out x)∧ ∃r,k x=some r∧Q r))
  (hf: ∀a,Inv n a→(∃x,step (st n a)=some (.out x)∧ ∃r,k x=some r∧Q r)∨(∃r,step (st n a)=some (.ret r)∧Q r)): ∃r,ZP step s0 k=some r∧Q r:=by
 have key: ∀(m i:Nat) (a:A),i+m=n→Inv i a→ ∃j x,zan step j (st i a)=some x∧ ∃r,LX.go x k=some r∧Q r:=by
  intro m
  induction m with
  |zero=>
   intro i a hi ha
   obtain rfl:i=n:=by omega
   rcases hf a ha with⟨x,h1,r,h2,h3⟩|⟨r,h1,h2⟩
   ·exact⟨1, .out x,by simp only[zan,h1],r,h2,h3⟩
   ·exact⟨1, .ret r,by simp only[zan,h1],r,rfl,h2⟩
  |succ m ih=>
   intro i a hi ha
   rcases hg i a (by omega) ha with⟨a',h1,h2⟩|⟨r,h1,h2⟩|⟨x,h1,r,h2,h3⟩
   ·obtain⟨j,x,g1,g2⟩:=ih (i+1) a' (by omega) h2
    exact⟨j+1,x,by simp only[zan,h1];exact g1,g2⟩
   ·exact⟨1, .ret r,by simp only[zan,h1],r,rfl,h2⟩
   ·exact⟨1, .out x,by simp only[zan,h1],r,h2,h3⟩
 obtain⟨j,x,h1,r,h2,h3⟩:=key n 0 a0 (by omega) hI
 refine⟨r,?_,h3⟩
 rw[h0,zeR (zga h1),h2]
namespace VT
def mx{α:Type}(f:α→Nat):List α→Nat
 |[]=>0
 |v::l=>max (f v) (mx f l)
end VT
end Go.Lv

namespace Go.Lv.VT
set_option maxRecDepth 100000
theorem ziV:zuF zaB:=by
 intro qp ref04_Size' h_ref04_Size x
 unfold zaB
 exact(.lp (fun _=>(.bif (.bind .rfl fun _=>(.bind .rfl fun _=>(.bind .rfl fun _=>(.bind (h_ref04_Size _) fun _=> .rfl)))) .rfl)) fun _=> .rfl)
end Go.Lv.VT

namespace Go.Lv.VT
def zuE{A S X R:Type}(k:X→Option R)(st:Nat→A→S)(Q:R→Prop)(i:Nat):LO S X R→Prop
 | .again s=> ∃a',s=st (i+1) a'
 | .ret r=>Q r
 | .out x=> ∃r,k x=some r∧Q r
def Ends{S X R:Type}(k:X→Option R)(Q:R→Prop):LO S X R→Prop
 | .again _=>False
 | .ret r=>Q r
 | .out x=> ∃r,k x=some r∧Q r
theorem zuk {A S X R:Type} {step:S→Option (LO S X R)} {k:X→Option R} (n:Nat) (st:Nat→A→S) (Q:R→Prop) {s0:S} {a0:A} (h0:s0=st 0 a0)
  (hg: ∀(i:Nat) (a:A),i<n→ ∃o,step (st i a)=some o∧zuE k st Q i o) (hf: ∀a,∃o,step (st n a)=some o∧Ends k Q o): ∃r,ZP step s0 k=some r∧Q r:=by
 refine zs9 n st (fun _ _=>True) Q h0 trivial (fun i a hi _=> ?_) (fun a _=> ?_)
 ·obtain⟨o,h1,h2⟩:=hg i a hi
  cases o with
  |again s=>obtain⟨a',rfl⟩:=h2;exact .inl ⟨a',h1,trivial⟩
  |ret r=>exact .inr (.inl ⟨r,h1,h2⟩)
  |out x=>exact .inr (.inr ⟨x,h1,h2⟩)
 ·obtain⟨o,h1,h2⟩:=hf a
  cases o with
  |again s=>exact h2.elim
  |ret r=>exact .inr ⟨r,h1,h2⟩
  |out x=>exact .inl ⟨x,h1,h2⟩
theorem zlF{l:List ze}{m:Int}(h:szL l≤big): ∃r,qp (l,m)=some r:=by
 have: ∃r,qp (l,m)=some r∧True:=by
  refine zti ziV (fun x=>szL x.1) (fun x=>szL x.1≤big) (fun _ _=>True) (fun S x hx hS=> ?_) (x:=(l,m)) h
  obtain⟨l,m⟩:=x
  have hx:szL l≤big:=hx
  have hlen:=zbm l
  unfold zaB
  refine zuk (A:=Int) l.length (fun i a=>(a,(i:Int))) _ (a0:=0) rfl (fun i a hi=> ?_) (fun a=> ?_)
  ·have hsz:=zdT (List.getElem_mem hi)
   have hv:=zfk l[i]
   cases ha:decide (a≤m)with
   |false=>simp only[zaq hi,cond_true,cond_false,ha];exact⟨_,rfl,_,rfl,trivial⟩
   |true=>
    obtain⟨r,hr,_⟩:=hS (l[i].list,w64 (m - a)) (by show szL l[i].list≤big;omega) (by show szL l[i].list<szL l;omega)
    simp only[zaq hi,cond_true,ha,zak hi,zb,Option.bind_some,hr,zaj hi (show l.length≤big by omega)]
    exact⟨_,rfl,_,rfl⟩
  ·simp only[zbJ,cond_false];exact⟨_,rfl,_,rfl,trivial⟩
 obtain⟨r,hr,_⟩:=this
 exact⟨r,hr⟩
theorem zpl{a:List ze}(h:szL a≤big):ZE (a,a)=some true:=by
 refine zdt (fun x:List ze×List ze=>szL x.1) (fun x=>szL x.1≤big∧x.1=x.2) (fun x=>true) (fun S x hl hS=> ?_) (show szL (a,a).1≤big∧(a,a).1=(a,a).2 from⟨h,rfl⟩)
 obtain⟨l,l'⟩:=x
 obtain⟨hl,he⟩:=hl
 simp only at hl hS he
 subst he
 unfold zcQ
 have hlen:=zbm l
 have hne:((l.length:Int) != (l.length:Int))=false:=by simp
 simp only[hne,cond_false]
 refine(zln l (fun i (_:Unit)=>(i:Int)) (fun v (_:Unit)=>some (.again ())) (fun _=>some (.out ())) (a:=()) rfl (fun i a hi=> ?_) (fun a=> ?_) (r:= .out ()) ?_)
 ·have hsz:=zdT (List.getElem_mem hi)
  have hv2:=zfk l[i]
  have hs1:szL l[i].list≤big:=by omega
  have hs2:szL l[i].list<szL l:=by omega
  have hS':S (l[i].list,l[i].list)=some true:=hS (l[i].list,l[i].list) ⟨hs1,rfl⟩ hs2
  simp[hi,zak hi,hS',zaj hi (by omega)]
 ·simp only[zbJ,cond_false]
  rfl
 ·rw[zce (fun a v=>a) (fun v a=>rfl)]
theorem zrj{l:List ze}(h:szL l≤big): ∃r,zcA l=some r:=by
 obtain⟨r,hr⟩:=zlF (m:=300) h
 unfold zcA
 simp only[zb,hr,Option.bind_some]
 cases hd:decide (r>300)with
 |true=>exact⟨_,rfl⟩
 |false=>simp only[Bool.not_false,Zw,zpk h,Option.bind_some];exact⟨_,rfl⟩
end Go.Lv.VT
