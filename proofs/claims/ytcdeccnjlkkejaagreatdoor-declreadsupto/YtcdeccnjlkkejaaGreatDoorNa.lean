/- How large values are. -/
import Derived.Test.YtcdeccnjlkkejaaGreatDoorIp
import Derived.Test.YtcdeccnjlkkejaaGreatDoorLaw
import Derived.Test.YtcdeccnjlkkejaaGreatDoorLf
import Derived.Test.YtcdeccnjlkkejaaGreatDoorMo
import Derived.Test.YtcdeccnjlkkejaaGreatDoorLe
import Derived.Test.YtcdeccnjlkkejaaGreatDoorTx
import Derived.KernelRfl
set_option linter.unusedSimpArgs false
set_option linter.unusedVariables false
namespace Go.Lv.VT
def zL{α:Type}(f:α→List PV)(l:List α):Nat:=zsH (l.map f)
theorem zBN{α:Type}(f:α→List PV)(v:α)(l:List α):zL f (v::l)=QP (f v)+zL f l:=rfl
theorem zyy(x:zb):QP (zt x)=6+x.token.text.length+x.token.unit.length+zL zt x.list:=by
 rw[znq]
 simp only[QP,bPV,zL]
 omega
end Go.Lv.VT

namespace Go.Lv.VT
mutual
/-- How large values are. -/
def szV:zb→Nat
 |⟨t,l⟩=>1+t.text.length+t.unit.length+szL l
def szL:List zb→Nat
 |[]=>0
 |v::r=>szV v+szL r
end
theorem zcR(v:zb):szV v=1+v.token.text.length+v.token.unit.length+szL v.list:=by
 obtain⟨t,l⟩:=v;rw[szV]
theorem zcL{v:zb}: ∀{l:List zb},v∈l→szV v≤szL l
 |[],h=>by cases h
 |x::l,h=>by
  rw[szL]
  rcases List.mem_cons.1 h with rfl|h
  ·omega
  ·have:=zcL h;omega
theorem Qt: ∀(l:List zb),l.length≤szL l
 |[]=>Nat.le_refl _
 |v::r=>by rw[szL,zcR,List.length_cons];have:=Qt r;omega
theorem zjs(n:Nat):decide ((n:Int)>0)=decide (0<n):=by
 by_cases h:0<n
 ·rw[decide_eq_true h,decide_eq_true (by omega)]
 ·rw[decide_eq_false h,decide_eq_false (by omega)]
theorem zgn(k:Int):qi k=some (zq k):=by
 unfold qi zq
 by_cases h1:k=19
 ·subst h1;rfl
 by_cases h2:k=21
 ·subst h2;rfl
 by_cases h3:k=2
 ·subst h3;rfl
 by_cases h4:k=23
 ·subst h4;rfl
 have e1:(k==19)=false:=beq_eq_false_iff_ne.2 h1
 have e2:(k==21)=false:=beq_eq_false_iff_ne.2 h2
 have e3:(k==2)=false:=beq_eq_false_iff_ne.2 h3
 have e4:(k==23)=false:=beq_eq_false_iff_ne.2 h4
 simp only[e1,e2,e3,e4,cond_false,zh,h1,h2,h3,h4,if_false,or_self]
theorem zaL(k:Int):qp k=some (zq k):=by
 unfold qp zq
 by_cases h1:k=19
 ·subst h1;rfl
 by_cases h2:k=21
 ·subst h2;rfl
 by_cases h3:k=2
 ·subst h3;rfl
 by_cases h4:k=23
 ·subst h4;rfl
 have e1:(k==19)=false:=beq_eq_false_iff_ne.2 h1
 have e2:(k==21)=false:=beq_eq_false_iff_ne.2 h2
 have e3:(k==2)=false:=beq_eq_false_iff_ne.2 h3
 have e4:(k==23)=false:=beq_eq_false_iff_ne.2 h4
 simp only[e1,e2,e3,e4,cond_false,zh,h1,h2,h3,h4,if_false,or_self]
mutual
/-- The depth of values. -/
def zi1:zb→Nat
 |⟨t,l⟩=>if zq t.kind=0 then 0 else 1+zar l
def zar:List zb→Nat
 |[]=>0
 |v::r=>max (zi1 v) (zar r)
end
theorem zt3(v:zb):zi1 v=if zq v.token.kind=0 then 0 else 1+zar v.list:=by
 obtain⟨t,l⟩:=v;rw[zi1]
mutual
theorem zyQ: ∀v:zb,zi1 v≤szV v
 |⟨t,l⟩=>by
  rw[zi1,szV]
  have:=zkn l
  split<;>omega
theorem zkn: ∀l:List zb,zar l≤szL l
 |[]=>Nat.le_refl _
 |v::r=>by
  rw[zar,szL]
  have:=zyQ v
  have:=zkn r
  omega
end
theorem zrc(f:zb→Nat): ∀(l:List zb) (a:Nat),l.foldl (fun a v=>max a (f v)) a=max a (l.foldr (fun v a=>max (f v) a) 0)
 |[],a=>by simp
 |v::l,a=>by rw[List.foldl_cons,zrc f l,List.foldr_cons];omega
theorem zt2: ∀(l:List zb),zar l=l.foldr (fun v a=>max (zi1 v) a) 0
 |[]=>by rw[zar];rfl
 |v::l=>by rw[zar,zt2 l];rfl
theorem zuy{l:List zb}(h:szL l≤big):Qa l=some (zar l:Int):=by
 refine zaS (fun l=>szL l) (fun l=>szL l≤big) (fun l=>(zar l:Int)) (fun S l hl hS=> ?_) h
 unfold zdV
 have hlen:=Qt l
 refine(zkA l (fun i (a:Nat)=>((a:Int),(i:Int))) (fun v a=>some (.again (max a (zi1 v)))) (fun a=>some (.out (a:Int))) (a:=0) rfl (fun i a hi=> ?_) (fun a=> ?_) (r:= .out (zar l:Int)) ?_)
 ·have hsz:=zcL (List.getElem_mem hi)
  have hv2:=zcR l[i]
  have hd:=zt3 l[i]
  have hd2:=zkn l[i].list
  simp only[ZJ hi,cond_true,ze,Zw hi,Option.bind_some,zgn]
  by_cases hc:zq l[i].token.kind=0
  ·rw[if_pos hc]at hd
   simp[hc,hd,Zb hi (by omega)]
  ·rw[if_neg hc]at hd
   rw[hS l[i].list (by omega) (by omega)]
   have hw:w64 (1+(zar l[i].list:Int))=((1+zar l[i].list:Nat):Int):=by
    rw[w64,ZV (by omega) (by unfold big at hl;omega)];omega
   simp only[bne_iff_ne.2 hc,cond_true,Option.bind_some,zh,Zb hi (by omega),hw,hd,Option.map_some]
   congr 3
   split<;>omega
 ·simp only[Z6,cond_false]
  rfl
 ·rw[QZ (fun a v=>max a (zi1 v)) (fun v a=>rfl),zrc,←zt2]
  simp
theorem zkN{l:List zb}: ∀{i:Nat} (h:i<l.length),szL (l.take (i+1))=szL (l.take i)+szV l[i]:=by
 induction l with
 |nil=>intro i h;cases h
 |cons v r ih=>
  intro i h
  cases i with
  |zero=>simp[szL]
  |succ i=>
   simp only[List.take_succ_cons,szL,List.getElem_cons_succ]
   rw[ih (by simpa using h)]
   omega
theorem zfh(l:List zb)(i:Nat):szL (l.take i)≤szL l:=by
 induction l generalizing i with
 |nil=>simp
 |cons v r ih=>
  cases i with
  |zero=>simp[szL]
  |succ i=>simp only[List.take_succ_cons,szL];have:=ih i;omega
mutual
/-- The tokens of values. -/
def tokV:zb→List zf
 |⟨t,l⟩=>t::if zq t.kind=0 then []else tokL l++[⟨zq t.kind,[],0,[],false⟩]
def tokL:List zb→List zf
 |[]=>[]
 |v::r=>tokV v++tokL r
end
theorem zhF(v:zb):tokV v=v.token::if zq v.token.kind=0 then []else tokL v.list++[⟨zq v.token.kind,[],0,[],false⟩]:=by
 obtain⟨t,l⟩:=v;rw[tokV]
mutual
theorem zm6: ∀v:zb,(tokV v).length≤2*szV v
 |⟨t,l⟩=>by
  rw[tokV,szV]
  have:=zjv l
  split
  ·simp;omega
  ·simp;omega
theorem zjv: ∀l:List zb,(tokL l).length≤2*szL l
 |[]=>Nat.le_refl _
 |v::r=>by
  rw[tokL,szL,List.length_append]
  have:=zm6 v
  have:=zjv r
  omega
end
theorem ziD: ∀(l:List zb) (a:List zf),l.foldl (fun a v=>a++tokV v) a=a++tokL l
 |[],a=>by simp[tokL]
 |v::l,a=>by rw[List.foldl_cons,ziD l,tokL,List.append_assoc]
theorem zju{l:List zb}(h:szL l≤big):ZB l=some (tokL l):=by
 refine zaS (fun l=>szL l) (fun l=>szL l≤big) (fun l=>tokL l) (fun S l hl hS=> ?_) h
 unfold zcg
 have hlen:=Qt l
 refine(ze3 l (fun i (a:List zf)=>((i:Int),a)) (fun v a=>some (.again (a++tokV v))) (fun a=>some (.out a)) (fun i a=>a.length≤2*szL (l.take i)) (a:=[]) rfl (by simp) (fun i a hi hI=> ?_) (fun a _=> ?_) (r:= .out (tokL l)) ?_)
 ·have hsz:=zcL (List.getElem_mem hi)
  have hv2:=zcR l[i]
  have hd:=zhF l[i]
  have hd2:=zjv l[i].list
  have ht:=zkN hi
  have ht2:=zfh l (i+1)
  have hv3:=zm6 l[i]
  unfold big at hl
  have hap: ∀n m:Nat,n+m≤100000000→Zv n m 56=true:=fun n m h=>zb8 (by omega)
  refine⟨?_,fun a' ha=> ?_⟩
  ·simp only[ZJ hi,cond_true,ze,Zw hi,Option.bind_some,zgn]
   by_cases hc:zq l[i].token.kind=0
   ·rw[if_pos hc]at hd
    simp[hc,hd,Zb hi (by unfold big;omega),hap a.length 1 (by omega)]
   ·rw[if_neg hc]at hd
    rw[hS l[i].list (by unfold big;omega) (by omega)]
    have hb:(zq l[i].token.kind != 0)=true:=bne_iff_ne.2 hc
    simp[hb,hd,Zb hi (by unfold big;omega),hap a.length 1 (by omega),hap (a.length+1) (tokL l[i].list).length (by omega),hap (a.length+((tokL l[i].list).length+1)) 1 (by omega)]
  ·cases ha
   rw[List.length_append,ht]
   omega
 ·simp only[Z6,cond_false]
  rfl
 ·rw[QZ (fun a v=>a++tokV v) (fun v a=>rfl),ziD]
  simp
mutual
/-- Whether lists are those of blocks, and have not their closers. -/
def shV:zb→Int→Bool
 |⟨t,l⟩,c=> !((zq t.kind==0&&decide (0<l.length))||(c != 0&&t.kind==c)||(zq t.kind != 0&& !(shL l (zq t.kind))))
def shL:List zb→Int→Bool
 |[],_=>true
 |v::r,c=>shV v c&&shL r c
end
theorem zAw(v:zb)(c:Int):shV v c= !((zq v.token.kind==0&&decide (0<v.list.length))||(c != 0&&v.token.kind==c)||(zq v.token.kind != 0&& !(shL v.list (zq v.token.kind)))):=by
 obtain⟨t,l⟩:=v;rw[shV]
theorem zvF{l:List zb}{c:Int}(h:szL l≤big):qI (l,c)=some (shL l c):=by
 refine zaS (fun x:List zb×Int=>szL x.1) (fun x=>szL x.1≤big) (fun x=>shL x.1 x.2) (fun S x hl hS=> ?_) h
 obtain⟨l,c⟩:=x
 simp only at hl hS ⊢
 unfold zch
 have hlen:=Qt l
 have hov: ∀l:List zb,zjo (fun v (_:Unit)=>if shV v c=true then some (.again ())else some (.ret false)) (fun _=>some (.out ())) l ()=some (if shL l c=true then .out ()else .ret false):=by
  intro l
  induction l with
  |nil=>simp[zjo,shL]
  |cons v r ih=>
   by_cases hv:shV v c=true
   ·simpa [zjo,shL,hv] using ih
   ·simp[zjo,shL,hv]
 refine(zkA l (fun i (_:Unit)=>(i:Int)) (fun v (_:Unit)=>if shV v c=true then some (.again ())else some (.ret false)) (fun _=>some (.out ())) (a:=()) rfl (fun i a hi=> ?_) (fun a=> ?_) (hov l)).trans ?_
 ·have hsz:=zcL (List.getElem_mem hi)
  have hv2:=zcR l[i]
  have hd:=zAw l[i] c
  simp only[ZJ hi,cond_true,ze,Zw hi,Option.bind_some,zgn]
  have hs1:szL l[i].list≤big:=by omega
  have hs2:szL l[i].list<szL l:=by omega
  have hSq: ∀c',S (l[i].list,c')=some (shL l[i].list c'):=fun c'=>hS (l[i].list,c') hs1 hs2
  rw[hd]
  have hp:decide ((l[i].list.length:Int)>0)=decide (0<l[i].list.length):=zjs _
  have hw:=Zb hi (by omega)
  simp only[bne,hp]
  rcases Bool.eq_false_or_eq_true (zq l[i].token.kind==0)with h1|h1<;>rcases Bool.eq_false_or_eq_true (decide (0<l[i].list.length))with h2|h2<;>rcases Bool.eq_false_or_eq_true (c==0)with h3|h3<;>rcases Bool.eq_false_or_eq_true (l[i].token.kind==c)with h4|h4<;>rcases Bool.eq_false_or_eq_true (shL l[i].list (zq l[i].token.kind))with h5|h5<;>
   simp only[hSq,hp,h1,h2,h3,h4,h5,hw,cond_true,cond_false,Bool.not_true,Bool.not_false,Bool.and_true,Bool.and_false,Bool.true_and,Bool.false_and,Bool.or_true,Bool.or_false,Bool.true_or,Bool.false_or,zn,zC,Option.bind_some,if_true,if_false,Option.map_some,Bool.false_eq_true]
 ·simp only[Z6,cond_false]
  rfl
 ·cases h:shL l c<;>simp
def zlF(l:List zb)(c:Int):zK:=⟨zar l,(tokL l).length, !(shL l c)⟩
theorem zrx(c:Int): ∀(l:List zb) (a:Nat×Nat×Bool),l.foldl (fun a v=>(max a.1 (zi1 v),a.2.1+(tokV v).length,a.2.2|| !(shV v c))) a=(max a.1 (zar l),a.2.1+(tokL l).length,a.2.2|| !(shL l c))
 |[],a=>by simp[zar,tokL,shL]
 |v::l,a=>by
  rw[List.foldl_cons,zrx c l,zar,tokL,shL,List.length_append]
  simp only[Prod.mk.injEq]
  refine⟨by omega,by omega,?_⟩
  cases a.2.2<;>cases shV v c<;>cases shL l c<;>rfl
theorem zwm(a b:Bool):(bif a then true else b)=(a||b):=by cases a<;>rfl
theorem zyM(a b:Bool):(bif a then b else false)=(a&&b):=by cases a<;>rfl
theorem zrE{l:List zb}{c:Int}(h:szL l≤big):zaM (l,c)=some (zlF l c):=by
 refine zaS (fun x:List zb×Int=>szL x.1) (fun x=>szL x.1≤big) (fun x=>zlF x.1 x.2) (fun S x hl hS=> ?_) h
 obtain⟨l,c⟩:=x
 simp only at hl hS ⊢
 unfold ze7
 have hlen:=Qt l
 refine(ze3 l (fun i (a:Nat×Nat×Bool)=>((i:Int),(⟨(a.1:Int),(a.2.1:Int),a.2.2⟩:zK))) (fun v a=>some (.again (max a.1 (zi1 v),a.2.1+(tokV v).length,a.2.2|| !(shV v c)))) (fun a=>some (.out (⟨(a.1:Int),(a.2.1:Int),a.2.2⟩:zK))) (fun i a=>a.2.1≤2*szL (l.take i)) (a:=(0,0,false)) rfl (by simp) (fun i a hi hI=> ?_) (fun a _=> ?_) (r:= .out (zlF l c)) ?_)
 ·have hsz:=zcL (List.getElem_mem hi)
  have hv2:=zcR l[i]
  have hd:=zt3 l[i]
  have hd2:=zkn l[i].list
  have ht:=zhF l[i]
  have ht2:=zjv l[i].list
  have hsh:=zAw l[i] c
  have htk:=zkN hi
  have htk2:=zfh l (i+1)
  have hv3:=zm6 l[i]
  have hs1:szL l[i].list≤big:=by omega
  have hs2:szL l[i].list<szL l:=by omega
  have hSq:S (l[i].list,zq l[i].token.kind)=some (zlF l[i].list (zq l[i].token.kind)):=hS (l[i].list,zq l[i].token.kind) hs1 hs2
  obtain⟨d,n,b⟩:=a
  simp only at hI
  have hw:=Zb hi (by omega)
  unfold big at hl
  have hw1:w64 ((n:Int)+1)=((n+1:Nat):Int):=by rw[w64,ZV (by omega) (by omega)];omega
  refine⟨?_,fun a' ha=> ?_⟩
  ·have hp:decide ((l[i].list.length:Int)>0)=decide (0<l[i].list.length):=zjs _
   simp only[ZJ hi,cond_true,ze,Zw hi,Option.bind_some,zaL,Option.map_some,hw1,bne,hp,zwm,zyM]
   by_cases hc:zq l[i].token.kind=0
   ·rw[if_pos hc]at hd ht
    simp only[hc,beq_self_eq_true,Bool.true_and,Bool.not_true,Bool.false_and,Bool.or_false,bne]at hsh ⊢
    rw[hsh,hd,ht]
    rcases Bool.eq_false_or_eq_true (decide (0<l[i].list.length))with h2|h2<;>rcases Bool.eq_false_or_eq_true (c==0)with h3|h3<;>rcases Bool.eq_false_or_eq_true (l[i].token.kind==c)with h4|h4<;>
     simp[h2,h3,h4,hw,cond_true,cond_false]
   ·rw[if_neg hc]at hd ht
    have hcb:(zq l[i].token.kind==0)=false:=beq_eq_false_iff_ne.2 hc
    have hw2:w64 ((zar l[i].list:Int)+1)=((1+zar l[i].list:Nat):Int):=by rw[w64,ZV (by omega) (by omega)];omega
    have hw3:w64 (((n+1:Nat):Int)+((tokL l[i].list).length:Int))=((n+1+(tokL l[i].list).length:Nat):Int):=by rw[w64,ZV (by omega) (by omega)];omega
    have hw4:w64 (((n+1+(tokL l[i].list).length:Nat):Int)+1)=((n+(1+((tokL l[i].list).length+1)):Nat):Int):=by rw[w64,ZV (by omega) (by omega)];omega
    have htl:(tokV l[i]).length=1+((tokL l[i].list).length+1):=by rw[ht];simp;omega
    have hm:(if((1+zar l[i].list:Nat):Int)>(d:Int)then((1+zar l[i].list:Nat):Int)else(d:Int))=((max d (1+zar l[i].list):Nat):Int):=by split<;>omega
    rw[hsh,hd,htl]
    simp only[hcb,hSq,Bool.false_and,Bool.not_false,Bool.true_and,Bool.or_false,Bool.false_or,cond_false,bne,Option.bind_some,zlF]
    rcases Bool.eq_false_or_eq_true (c==0)with h3|h3<;>rcases Bool.eq_false_or_eq_true (l[i].token.kind==c)with h4|h4<;>
     simp only[h3,h4,hw,hw2,hw3,hw4,hm,cond_true,cond_false,zh,Bool.not_true,Bool.not_false,Bool.true_and,Bool.and_true,Bool.and_false,Bool.false_and,Bool.or_true,Bool.or_false,Bool.true_or,Bool.false_or,Bool.not_not]
  ·cases ha
   simp only
   omega
 ·simp only[Z6,cond_false]
  rfl
 ·rw[QZ (fun a v=>(max a.1 (zi1 v),a.2.1+(tokV v).length,a.2.2|| !(shV v c))) (fun v a=>rfl),zrx]
  simp[zlF]
end Go.Lv.VT

namespace Go.Lv.VT
theorem zbJ{a b:List zb}(h:a.Sublist b):szL a≤szL b:=by
 induction h with
 |slnil=>exact Nat.le_refl _
 |cons v _ ih=>rw[szL];omega
 |cons_cons v _ ih=>rw[szL,szL];omega
theorem Qo(l:List zb):l=[]∨ ∃t v,l=t++[v]:=by
 rcases List.eq_nil_or_concat l with h|⟨t,v,h⟩
 ·exact .inl h
 ·exact .inr ⟨t,v,by rw[h,List.concat_eq_append]⟩
def isSp(v:zb):Bool:=v.token.kind==13
def trimB(l:List zb):List zb:=(l.reverse.dropWhile isSp).reverse
theorem zyh:trimB []=[]:=rfl
theorem zb7(t:List zb)(v:zb):trimB (t++[v])=if isSp v then trimB t else t++[v]:=by
 unfold trimB
 rw[List.reverse_append]
 simp only[List.reverse_cons,List.reverse_nil,List.nil_append,List.cons_append,List.dropWhile_cons]
 split
 ·rfl
 ·simp
theorem zcG(l:List zb):(trimB l).Sublist l:=by
 unfold trimB
 have:=List.dropWhile_sublist isSp (l:=l.reverse)
 simpa using this.reverse
def trimS(l:List zb):List zb:=trimB (l.dropWhile isSp)
theorem zzZ(l:List zb):szL (trimS l)≤szL l:=zbJ ((zcG _).trans (List.dropWhile_sublist _))
theorem zo8(p:zb→Bool): ∀(l:List zb),l.drop (l.length - (l.dropWhile p).length)=l.dropWhile p
 |[]=>rfl
 |v::r=>by
  rw[List.dropWhile_cons]
  split
  ·have h:=List.Sublist.length_le (List.dropWhile_sublist p (l:=r))
   rw[List.length_cons,Nat.succ_sub h,List.drop_succ_cons]
   exact zo8 p r
  ·simp
theorem zb5{l:List zb}(h:szL l≤big):ZH l=some (trimS l):=by
 unfold ZH
 refine(Qv (r:= .out (l.dropWhile isSp)) (ZM (fun s=>s.dropWhile isSp=l.dropWhile isSp) (fun s=>s.length) _ (fun s hs=> ?_) rfl)).trans ?_
 ·cases s with
  |nil=>exact .inr (.inl ⟨[],by simp,by rw[←hs];rfl⟩)
  |cons v t=>
   have h1:decide (((v::t).length:Int)>0)=true:=by rw[zjs];simp
   have h2:geti (v::t) 0=some v:=rfl
   have h3:decide ((1:Int)≤((v::t).length:Int))=true:=by simp;omega
   rw[List.dropWhile_cons]at hs
   cases hv:isSp v with
   |true=>
    rw[hv]at hs
    unfold isSp at hv
    refine .inl ⟨t,?_,by simpa using hs,by simp⟩
    simp only[h1,h2,h3,zn,ze,Option.bind_some,hv,cond_true,Ze]
    rfl
   |false=>
    rw[hv]at hs
    unfold isSp at hv
    refine .inr (.inl ⟨v::t,?_,by rw[←hs];rfl⟩)
    simp only[h1,h2,zn,ze,Option.bind_some,hv,cond_true,cond_false]
 ·rw[zlJ]
  have hd:szL (l.dropWhile isSp)≤big:=Nat.le_trans (zbJ (List.dropWhile_sublist _)) h
  unfold trimS
  generalize l.dropWhile isSp=d at hd
  refine(Qv (r:= .out (trimB d)) (ZM (fun s=>trimB s=trimB d∧szL s≤big) (fun s=>s.length) _ (fun s hs=> ?_) ⟨rfl,hd⟩)).trans ?_
  ·rcases Qo s with rfl|⟨t,v,rfl⟩
   ·exact .inr (.inl ⟨[],by simp,by rw[←hs.1];rfl⟩)
   ·have hlen:=Qt (t++[v])
    have hl2:(t++[v]).length=t.length+1:=by simp
    have hb:=hs.2
    unfold big at hb
    have h1:decide (((t++[v]).length:Int)>0)=true:=by rw[zjs];simp
    have h4:w64 (((t++[v]).length:Int) - 1)=(t.length:Int):=by rw[w64,ZV (by omega) (by omega)];omega
    have h2:geti (t++[v]) (t.length:Int)=some v:=by rw[Zw (by omega)];simp
    have h3:(decide ((0:Int)≤(t.length:Int))&&decide ((t.length:Int)≤((t++[v]).length:Int)))=true:=by simp;omega
    have hs1:=hs.1
    rw[zb7]at hs1
    cases hv:isSp v with
    |true=>
     rw[if_pos hv]at hs1
     unfold isSp at hv
     refine .inl ⟨t,?_,⟨hs1,Nat.le_trans (zbJ (List.sublist_append_left t [v])) hs.2⟩,by simp⟩
     simp only[h1,h4,h2,h3,zn,ze,Option.bind_some,hv,cond_true,Ze,Int.toNat_natCast]
     simp
    |false=>
     rw[if_neg (by rw[hv];simp)]at hs1
     unfold isSp at hv
     refine .inr (.inl ⟨t++[v],?_,by rw[←hs1]⟩)
     simp only[h1,h4,h2,zn,ze,Option.bind_some,hv,cond_true,cond_false]
  ·rw[zlJ]
def errS(l:List zb):Int:=if 16<zar l then 20 else if 1500<(tokL l).length then 4 else if shL l 0 then 0 else 8
theorem zmI{l:List zb}(h:szL l≤big):QN l=some (errS l):=by
 unfold QN errS
 simp only[ze,zuy h,zju h,zvF h,Option.bind_some]
 by_cases h1:16<zar l
 ·have:decide ((zar l:Int)>16)=true:=decide_eq_true (by omega)
  simp[this,h1]
 ·have:decide ((zar l:Int)>16)=false:=decide_eq_false (by omega)
  by_cases h2:1500<(tokL l).length
  ·have h3:decide (((tokL l).length:Int)>1500)=true:=decide_eq_true (by omega)
   simp[this,h1,h2,h3]
  ·have h3:decide (((tokL l).length:Int)>1500)=false:=decide_eq_false (by omega)
   cases h4:shL l 0<;>simp[this,h1,h2,h3]
theorem zgk{l:List zb}(h:szL l≤big):QA l=some (errS l):=by
 unfold QA errS
 simp only[ze,zrE h,Option.bind_some,zlF]
 by_cases h1:16<zar l
 ·have:decide ((zar l:Int)>16)=true:=decide_eq_true (by omega)
  simp[this,h1]
 ·have:decide ((zar l:Int)>16)=false:=decide_eq_false (by omega)
  by_cases h2:1500<(tokL l).length
  ·have h3:decide (((tokL l).length:Int)>1500)=true:=decide_eq_true (by omega)
   simp[this,h1,h2,h3]
  ·have h3:decide (((tokL l).length:Int)>1500)=false:=decide_eq_false (by omega)
   cases h4:shL l 0<;>simp[this,h1,h2,h3]
theorem zCI: ∀l:List zb,szL l≤zL zt l:=by
 have key: ∀(n:Nat) (l:List zb),zL zt l<n→szL l≤zL zt l:=by
  intro n
  induction n with
  |zero=>intro l h;omega
  |succ n ih=>
   intro l
   induction l with
   |nil=>intro _;rw[szL];exact Nat.zero_le _
   |cons v l ihl=>
    intro h
    rw[zBN]at h ⊢
    rw[szL,zcR]
    have hz:=zyy v
    have h1:=ih v.list (by omega)
    have h2:=ihl (by omega)
    omega
 exact fun l=>key _ l (Nat.lt_succ_self _)
theorem zy0{l:List zb}{a:List zf}(h:szL l≤big)(ha:a.length+2*szL l≤4*big):Qn (l,a)=some (a++tokL l):=by
 refine zaS (fun z=>szL z.1) (fun z=>szL z.1≤big∧z.2.length+2*szL z.1≤4*big) (fun z=>z.2++tokL z.1) (fun S z hz hS=> ?_) (x:=(l,a)) ⟨h,ha⟩
 obtain⟨l,a⟩:=z
 obtain⟨h,ha⟩:=hz
 have h:szL l≤big:=h
 have ha:a.length+2*szL l≤4*big:=ha
 have hlen:=Qt l
 unfold zc0
 refine(ze3 l (fun i (b:List zf)=>((i:Int),b)) (fun v b=>some (.again (b++tokV v))) (fun b=>some (.out b)) (fun i b=>b.length≤a.length+2*szL (l.take i)) (a:=a) rfl (by simp) (fun i b hi hI=> ?_) (fun b _=> ?_) (r:= .out (a++tokL l)) ?_).trans rfl
 ·have hsz:=zcL (List.getElem_mem hi)
  have hv2:=zcR l[i]
  have hd:=zhF l[i]
  have hd2:=zjv l[i].list
  have ht:=zkN hi
  have ht2:=zfh l (i+1)
  have hv3:=zm6 l[i]
  unfold big at h ha
  have hap: ∀n m:Nat,n+m≤100000000→Zv n m 56=true:=fun n m h=>zb8 (by omega)
  refine⟨?_,fun a' ha'=> ?_⟩
  ·simp only[ZJ hi,cond_true,ze,Zw hi,Option.bind_some,zaL]
   by_cases hc:zq l[i].token.kind=0
   ·rw[if_pos hc]at hd
    simp[hc,hd,Zb hi (by unfold big;omega),hap b.length 1 (by omega)]
   ·rw[if_neg hc]at hd
    rw[hS (l[i].list,b++[l[i].token]) ⟨by show szL l[i].list≤big;unfold big;omega,by show(b++[l[i].token]).length+2*szL l[i].list≤4*big;unfold big;rw[List.length_append,List.length_singleton];omega⟩ (by show szL l[i].list<szL l;omega)]
    have hb:(zq l[i].token.kind != 0)=true:=bne_iff_ne.2 hc
    simp[hb,hd,Zb hi (by unfold big;omega),hap b.length 1 (by omega),hap (b.length+((tokL l[i].list).length+1)) 1 (by omega)]
  ·cases ha'
   rw[List.length_append,ht]
   omega
 ·simp only[Z6,cond_false];rfl
 ·rw[QZ (fun a v=>a++tokV v) (fun v a=>rfl),ziD]
theorem zyZ{l:List zb}(h:szL l≤big):zdw l=some (tokL l):=by
 have hlen:=Qt l
 unfold zdw
 refine(ze3 l (fun i (b:List zf)=>((i:Int),b)) (fun v b=>some (.again (b++tokV v))) (fun b=>some (.out b)) (fun i b=>b.length≤2*szL (l.take i)) (a:=[]) rfl (by simp) (fun i b hi hI=> ?_) (fun b _=> ?_) (r:= .out (tokL l)) ?_).trans rfl
 ·have hsz:=zcL (List.getElem_mem hi)
  have hv2:=zcR l[i]
  have hd:=zhF l[i]
  have hd2:=zjv l[i].list
  have ht:=zkN hi
  have ht2:=zfh l (i+1)
  have hv3:=zm6 l[i]
  unfold big at h
  have hap: ∀n m:Nat,n+m≤100000000→Zv n m 56=true:=fun n m h=>zb8 (by omega)
  refine⟨?_,fun a' ha'=> ?_⟩
  ·simp only[ZJ hi,cond_true,ze,Zw hi,Option.bind_some,zaL]
   by_cases hc:zq l[i].token.kind=0
   ·rw[if_pos hc]at hd
    simp[hc,hd,Zb hi (by unfold big;omega),hap b.length 1 (by omega)]
   ·rw[if_neg hc]at hd
    rw[zy0 (a:=b++[l[i].token]) (show szL l[i].list≤big by unfold big;omega) (by unfold big;rw[List.length_append,List.length_singleton];omega)]
    have hb:(zq l[i].token.kind != 0)=true:=bne_iff_ne.2 hc
    simp[hb,hd,Zb hi (by unfold big;omega),hap b.length 1 (by omega),hap (b.length+((tokL l[i].list).length+1)) 1 (by omega)]
  ·cases ha'
   rw[List.length_append,ht]
   omega
 ·simp only[Z6,cond_false];rfl
 ·rw[QZ (fun a v=>a++tokV v) (fun v a=>rfl),ziD]
  simp
theorem zrD{l:List zb}(h:szL l≤big):zfL l=some (if errS l=0 then(tokL l,0)else([],errS l)):=by
 unfold zfL
 simp only[zgk h,ze,Option.bind_some]
 by_cases he:errS l=0
 ·have:(errS l != 0)=false:=by rw[he];rfl
  rw[this,cond_false,zyZ h,if_pos he]
  rfl
 ·rw[bne_iff_ne.2 he,cond_true,if_neg he]
end Go.Lv.VT

namespace Go.Lv.VT
def szP:List (List zb)→Nat
 |[]=>0
 |l::r=>1+szL l+szP r
theorem zyc{v:List zb}: ∀{l:List (List zb)},v∈l→szL v≤szP l
 |[],h=>by cases h
 |x::l,h=>by
  rw[szP]
  rcases List.mem_cons.1 h with rfl|h
  ·omega
  ·have:=zyc h;omega
theorem zyb: ∀(l:List (List zb)),l.length≤szP l
 |[]=>Nat.le_refl _
 |v::r=>by rw[szP,List.length_cons];have:=zyb r;omega
theorem zqK{R:Type}(x:Option R):both x x=x:=by
 unfold both;rw[if_pos rfl]
theorem zyL{l:List zb}(h:szL l≤big):Qi l=some l:=by
 unfold Qi
 have hlen:=Qt l
 unfold big at h
 have hap:Zv 0 l.length 80=true:=zb8 (by omega)
 cases l with
 |nil=>simp only[hap,zqK,Ze,List.isEmpty_nil,cond_true]
 |cons v r=>simp only[hap,Ze,List.isEmpty_cons,cond_false]
theorem ztH{l:List zb}(h:szL l≤big):QB l=some l:=by
 refine zaS (fun l=>szL l) (fun l=>szL l≤big) (fun l=>l) (fun S l hl hS=> ?_) h
 unfold ze8
 have hlen:=Qt l
 simp only[ze,zyL hl,Option.bind_some]
 refine(ze3 l (fun i (a:List zb)=>((i:Int),a)) (fun v a=>some (.again a)) (fun a=>some (.out a)) (fun i a=>a=l) (a:=l) rfl rfl (fun i a hi hI=> ?_) (fun a hI=> ?_) (r:= .out l) ?_)
 ·subst hI
  have hsz:=zcL (List.getElem_mem hi)
  have hv2:=zcR a[i]
  refine⟨?_,fun a' ha=>by cases ha;rfl⟩
  have h1:S a[i].list=some a[i].list:=hS a[i].list (by omega) (by omega)
  have h2:decide ((0:Int)≤(i:Int))=true:=decide_eq_true (by omega)
  have h3:a[i]? =some a[i]:=List.getElem?_eq_getElem hi
  have h4:a.set i ⟨a[i].token,a[i].list⟩=a:=by
   have:(⟨a[i].token,a[i].list⟩:zb)=a[i]:=by cases a[i];rfl
   rw[this,List.set_getElem_self]
  simp only[ZJ hi,h2,Bool.and_self,cond_true,Ze,Int.toNat_natCast,h3,Option.bind_some,h1,h4,Zb hi (by omega),Option.map_some]
 ·subst hI
  simp only[Z6,cond_false]
  rfl
 ·rw[QZ (fun a v=>a) (fun v a=>rfl)]
  congr 2
  clear hl hS hlen h
  generalize l=b at*
  have: ∀(m b:List zb),m.foldl (fun a _=>a) b=b:=by
   intro m
   induction m with
   |nil=>intro b;rfl
   |cons v m ih=>intro b;exact ih b
  exact this _ _
theorem zzX{l:List zb}{i:Nat}(h:i<l.length):zbY ((i:Int),l)=some (isSp l[i]):=by
 unfold zbY
 simp only[ze,Zw h,Option.bind_some]
 rfl
theorem zxo{l:List zb}(h:szL l≤big):zfM l=some (if errS l=0 then(trimS l,0)else([],errS l)):=by
 unfold zfM
 have hlen:=Qt l
 simp only[ze,zgk h,Option.bind_some]
 by_cases h1:errS l=0
 ·rw[if_pos h1]
  have hne:(errS l != 0)=false:=by simp[h1]
  simp only[hne,cond_false]
  have hdl:=List.Sublist.length_le (List.dropWhile_sublist isSp (l:=l))
  have hdd:=zo8 isSp l
  refine(Qv (r:= .out ((l.length - (l.dropWhile isSp).length:Nat):Int)) (ZM (fun s=> ∃k:Nat,s=(k:Int)∧k≤l.length∧(l.drop k).dropWhile isSp=l.dropWhile isSp) (fun s=>l.length - s.toNat) _ (fun s hs=> ?_) ⟨0,rfl,Nat.zero_le _,rfl⟩)).trans ?_
  ·obtain⟨k,rfl,hk,he⟩:=hs
   by_cases hlt:k<l.length
   ·rw[List.drop_eq_getElem_cons hlt,List.dropWhile_cons]at he
    have hw:=Zb hlt (by unfold big at h ⊢;omega)
    cases hv:isSp l[k]with
    |true=>
     rw[if_pos hv]at he
     refine .inl ⟨((k+1:Nat):Int),?_,⟨k+1,rfl,hlt,he⟩,by omega⟩
     simp only[ZJ hlt,zn,zzX hlt,Option.bind_some,hv,cond_true,hw]
    |false=>
     rw[if_neg (by rw[hv];simp)]at he
     refine .inr (.inl ⟨(k:Int),?_,?_⟩)
     ·simp only[ZJ hlt,zn,zzX hlt,Option.bind_some,hv,cond_true,cond_false]
     ·rw[←he]
      congr 1
      simp
      omega
   ·have hkk:k=l.length:=by omega
    subst hkk
    rw[List.drop_length]at he
    refine .inr (.inl ⟨(l.length:Int),?_,?_⟩)
    ·simp only[Z6,zC,Option.bind_some,cond_false]
    ·rw[←he];simp
  ·rw[zlJ]
   generalize hf:l.length - (l.dropWhile isSp).length=f at hdd
   have hfl:f≤l.length:=by omega
   generalize l.dropWhile isSp=d at hdd
   subst hdd
   refine(Qv (r:= .out ((f+(trimB (l.drop f)).length:Nat):Int)) (ZM (fun s=> ∃m:Nat,s=(m:Int)∧f≤m∧m≤l.length∧trimB ((l.take m).drop f)=trimB (l.drop f)) (fun s=>s.toNat) _ (fun s hs=> ?_) ⟨l.length,rfl,hfl,Nat.le_refl _,by rw[List.take_length]⟩)).trans ?_
   ·obtain⟨m,rfl,hm1,hm2,he⟩:=hs
    by_cases hlt:f<m
    ·have hm:m - 1<l.length:=by omega
     have hsn:(l.take m).drop f=(l.take (m - 1)).drop f++[l[m - 1]]:=by
      have:l.take m=l.take (m - 1)++[l[m - 1]]:=by
       have:=List.take_succ_eq_append_getElem hm
       rwa [show m - 1+1=m by omega]at this
      rw[this,List.drop_append_of_le_length (by rw[List.length_take];omega)]
     rw[hsn,zb7]at he
     have h2:decide ((f:Int)<(m:Int))=true:=decide_eq_true (by omega)
     have hw:w64 ((m:Int) - 1)=((m - 1:Nat):Int):=by rw[w64,ZV (by omega) (by unfold big at h;omega)];omega
     cases hv:isSp l[m - 1]with
     |true=>
      rw[if_pos hv]at he
      refine .inl ⟨((m - 1:Nat):Int),?_,⟨m - 1,rfl,by omega,by omega,he⟩,by omega⟩
      simp only[h2,zn,hw,zzX hm,Option.bind_some,hv,cond_true]
     |false=>
      rw[if_neg (by rw[hv];simp)]at he
      refine .inr (.inl ⟨(m:Int),?_,?_⟩)
      ·simp only[h2,zn,hw,zzX hm,Option.bind_some,hv,cond_true,cond_false]
      ·rw[←he]
       congr 1
       simp
       omega
    ·have hmm:m=f:=by omega
     subst hmm
     have h2:decide ((m:Int)<(m:Int))=false:=decide_eq_false (by omega)
     refine .inr (.inl ⟨(m:Int),?_,?_⟩)
     ·simp only[h2,zC,Option.bind_some,cond_false]
     ·rw[List.drop_eq_nil_of_le (by rw[List.length_take];omega),zyh]at he
      rw[←he];simp
   ·rw[zlJ]
    have htl:=List.Sublist.length_le (zcG (l.drop f))
    rw[List.length_drop]at htl
    have hcut:List.drop f (List.take (f+(trimB (l.drop f)).length) l)=trimB (l.drop f):=by
     rw[List.drop_take]
     have: ∀d:List zb,d.take (trimB d).length=trimB d:=by
      intro d
      unfold trimB
      rw[List.length_reverse]
      have h3:=zo8 isSp d.reverse
      have h4:=List.Sublist.length_le (List.dropWhile_sublist isSp (l:=d.reverse))
      rw[List.length_reverse]at h3 h4
      rw[←h3,List.drop_reverse,List.reverse_reverse]
      congr 1
      simp
     have e:=this (l.drop f)
     rw[show f+(trimB (l.drop f)).length - f=(trimB (l.drop f)).length by omega]
     exact e
    have hneed:(decide ((0:Int)≤(f:Int))&&(decide ((f:Int)≤((f+(trimB (l.drop f)).length:Nat):Int))&&(decide (((f+(trimB (l.drop f)).length:Nat):Int)≤((f+(trimB (l.drop f)).length:Nat):Int))&&decide (((f+(trimB (l.drop f)).length:Nat):Int)≤(l.length:Int))))&&decide True)=true:=by
     simp only[Bool.and_eq_true,decide_eq_true_eq];refine⟨?_,trivial⟩;omega
    have hts:trimS l=trimB (l.drop f):=by
     unfold trimS
     rw[←zo8 isSp l,hf]
    simp only[hneed,Ze,Int.toNat_natCast,hcut,ztH (Nat.le_trans (zbJ ((zcG _).trans (List.drop_sublist _ _))) h),Option.bind_some,hts]
 ·rw[if_neg h1]
  have hne:(errS l != 0)=true:=by simp[h1]
  simp only[hne,cond_true]
def zeq(k:Int)(a:List (List zb)×List zb)(v:zb):List (List zb)×List zb:=
 if v.token.kind==k then(a.1++[a.2],[])else(a.1,a.2++[v])
def zbg(k:Int)(l:List zb):List (List zb)×List zb:=l.foldl (zeq k) ([],[])
def zhg(k:Int)(l:List zb):List (List zb):=(zbg k l).1++[(zbg k l).2]
theorem zu4{k:Int}{l:List zb}{i:Nat}(h:i<l.length):zbg k (l.take (i+1))=zeq k (zbg k (l.take i)) l[i]:=by
 unfold zbg
 rw[List.take_succ_eq_append_getElem h,List.foldl_append]
 rfl
theorem zoF(a b:List (List zb)):szP (a++b)=szP a+szP b:=by
 induction a with
 |nil=>simp[szP]
 |cons x a ih=>simp only[List.cons_append,szP,ih];omega
theorem zgp(a b:List zb):szL (a++b)=szL a+szL b:=by
 induction a with
 |nil=>simp[szL]
 |cons x a ih=>simp only[List.cons_append,szL,ih];omega
theorem zkF(k:Int): ∀(l:List zb) (a:List (List zb)×List zb),szP (l.foldl (zeq k) a).1+szL (l.foldl (zeq k) a).2≤szP a.1+szL a.2+szL l∧(l.foldl (zeq k) a).1.length≤a.1.length+l.length∧(l.foldl (zeq k) a).2.length≤a.2.length+l.length
 |[],a=>by simp[szL]
 |v::l,a=>by
  rw[List.foldl_cons]
  obtain⟨h1,h2,h3⟩:=zkF k l (zeq k a v)
  have hv:=zcR v
  have:szP (zeq k a v).1+szL (zeq k a v).2≤szP a.1+szL a.2+szV v∧(zeq k a v).1.length≤a.1.length+1∧(zeq k a v).2.length≤a.2.length+1:=by
   unfold zeq
   split
   ·simp only[zoF,szP,szL,List.length_append,List.length_cons,List.length_nil];omega
   ·simp only[zgp,szL,List.length_append,List.length_cons,List.length_nil];omega
  rw[szL,List.length_cons]
  omega
theorem zyO(k:Int)(l:List zb):szP (zhg k l)≤szL l+1:=by
 obtain⟨h1,_,_⟩:=zkF k l ([],[])
 unfold zhg zbg
 rw[zoF,szP,szP]
 have e1:szP ([]:List (List zb))=0:=rfl
 have e2:szL ([]:List zb)=0:=rfl
 simp only[e1,e2]at h1
 omega
theorem zxW{l:List zb}{k:Int}(h:szL l≤big):zdE (l,k)=some (zhg k l):=by
 unfold zdE
 have hlen:=Qt l
 refine(ze3 l (fun i (a:List (List zb)×List zb)=>((i:Int),(a.1,([]:List (List zb))),a.2)) (fun v a=>some (.again (zeq k a v))) (fun a=>some (.out ((a.1,([]:List (List zb))),a.2))) (fun i a=>a.1.length≤i∧a.2.length≤i) (a:=([],[])) rfl (by simp) (fun i a hi hI=> ?_) (fun a _=> ?_) (r:= .out (((zbg k l).1,[]),(zbg k l).2)) ?_)
 ·obtain⟨l1,last⟩:=a
  obtain⟨hI1,hI2⟩:=hI
  simp only at hI1 hI2
  unfold big at h
  have hw:=Zb hi (by unfold big;omega)
  refine⟨?_,fun a' ha=> ?_⟩
  ·simp only[ZJ hi,cond_true,ze,Zw hi,Option.bind_some,Option.map_some,zeq]
   cases hv:(l[i].token.kind==k)with
   |true=>
    have hap:Zv (l1++List.cons last []).length (0+1+0) 24=true:=zb8 (by simp;omega)
    simp only[cond_true,hap,Ze,zh,hw,if_true,List.append_nil]
   |false=>
    have hl0:([]:List (List zb)).length=0:=rfl
    have hn:w64 (((l1.length+1+([]:List (List zb)).length:Nat):Int) - 1)=(l1.length:Int):=by rw[w64,ZV (by omega) (by omega)];omega
    have hb:(decide ((0:Int)≤(l1.length:Int))&&decide ((l1.length:Int)<((l1.length+1+([]:List (List zb)).length:Nat):Int)))=true:=by
     simp only[Bool.and_eq_true,decide_eq_true_eq];omega
    have hbq:Nat.beq l1.length l1.length=true:=Nat.beq_refl _
    have hap:Zv last.length 1 80=true:=zb8 (by omega)
    have hb2: ∀z:zb,(decide ((0:Int)≤(last.length:Int))&&decide ((last.length:Int)<((last++[z]).length:Int)))=true:=by
     intro z;simp;omega
    have hz: ∀z:zb,(last++[z])[last.length]? =some z:=by intro z;simp
    have hset: ∀z u:zb,(last++[z]).set last.length u=last++[u]:=by intro z u;simp
    have he: ∀u:zb,(⟨u.token,u.list⟩:zb)=u:=fun u=>by cases u;rfl
    simp only[cond_false,hn,hb,Ze,Int.toNat_natCast,hbq,hap,hb2,hz,hset,he,Option.bind_some,zqK,zh,hw,if_false,Bool.false_eq_true]
  ·cases ha
   unfold zeq
   split
   ·simp;omega
   ·simp;omega
 ·simp only[Z6,cond_false]
  rfl
 ·rw[QZ (fun a v=>zeq k a v) (fun v a=>rfl)]
  rfl
theorem zvs{l:List zb}{k:Int}(h:szL l≤big):zeF (l,k)=some (if errS l=0 then(if k<1∨24<k then([],2)else(zhg k l,0))else([],errS l)):=by
 unfold zeF
 have hlen:=Qt l
 simp only[ze,zgk h,Option.bind_some]
 by_cases h1:errS l=0
 ·have hne:(errS l != 0)=false:=by simp[h1]
  rw[if_pos h1]
  simp only[hne,cond_false,zwm]
  by_cases h2:k<1∨24<k
  ·have:(decide (k<1)||decide (k>24))=true:=by simpa using h2
   rw[if_pos h2,this]
   rfl
  ·have:(decide (k<1)||decide (k>24))=false:=by
    rw[Bool.or_eq_false_iff]
    exact⟨decide_eq_false (by omega),decide_eq_false (by omega)⟩
   rw[if_neg h2,this]
   simp only[cond_false]
   refine(Qv (r:= .out (((l.length - (zbg k l).2.length:Nat):Int),(zbg k l).1)) (ZM (fun s=> ∃i from_:Nat,s=(((from_:Int),(i:Int)),(zbg k (l.take i)).1)∧from_≤i∧i≤l.length∧(zbg k (l.take i)).2=(l.take i).drop from_) (fun s=>l.length - s.1.2.toNat) _ (fun s hs=> ?_) ⟨0,0,by simp[zbg],Nat.le_refl _,Nat.zero_le _,by simp[zbg]⟩)).trans ?_
   ·obtain⟨i,fr,rfl,hfi,hil,he⟩:=hs
    by_cases hi:i<l.length
    ·refine .inl ?_
     have hw:=Zb hi (by unfold big at h ⊢;omega)
     have hpt:=zu4 (k:=k) hi
     have htk:l.take (i+1)=l.take i++[l[i]]:=List.take_succ_eq_append_getElem hi
     unfold zeq at hpt
     simp only[ZJ hi,cond_true,Zw hi,Option.bind_some]
     cases hv:(l[i].token.kind==k)with
     |true=>
      rw[if_pos hv]at hpt
      have hn:(decide ((0:Int)≤(fr:Int))&&(decide ((fr:Int)≤(i:Int))&&(decide ((i:Int)≤(i:Int))&&decide ((i:Int)≤(l.length:Int))))&&decide True)=true:=by
       simp only[Bool.and_eq_true,decide_eq_true_eq];refine⟨?_,trivial⟩;omega
      have hsz:szL (List.drop fr (List.take i l))≤big:=Nat.le_trans (zbJ ((List.drop_sublist _ _).trans (List.take_sublist _ _))) h
      have hpl:=(zkF k (l.take i) ([],[])).2.1
      have hap:Zv (zbg k (l.take i)).1.length 1 24=true:=zb8 (by
       unfold zbg
       have:=List.length_take_le i l
       unfold big at h
       simp only[List.length_nil]at hpl
       omega)
      refine⟨((((i+1:Nat):Int),((i+1:Nat):Int)),(zbg k (l.take (i+1))).1),?_,⟨i+1,i+1,rfl,Nat.le_refl _,hi,?_⟩,?_⟩
      ·simp only[cond_true,hn,Ze,Int.toNat_natCast,ztH hsz,Option.bind_some,hap,hw,zh,hpt,he]
      ·rw[hpt]
       simp
      ·simp only[Int.toNat_natCast];omega
     |false=>
      rw[if_neg (by rw[hv];simp)]at hpt
      refine⟨(((fr:Int),((i+1:Nat):Int)),(zbg k (l.take (i+1))).1),?_,⟨i+1,fr,rfl,by omega,hi,?_⟩,?_⟩
      ·simp only[cond_false,zh,hw,hpt]
      ·rw[hpt,htk,he,List.drop_append_of_le_length (by rw[List.length_take];omega)]
      ·simp only[Int.toNat_natCast];omega
    ·have hil:i=l.length:=by omega
     subst hil
     rw[List.take_length]at he ⊢
     refine .inr (.inl ⟨((fr:Int),(zbg k l).1),by simp only[Z6,cond_false],?_⟩)
     rw[he,List.length_drop]
     congr 2
     omega
   ·rw[zlJ]
    -- the last part is behind
    have key: ∀(m:List zb) (a:List (List zb)×List zb) (p:List zb),a.2<:+p→(m.foldl (zeq k) a).2<:+p++m:=by
     intro m
     induction m with
     |nil=>intro a p h;simpa using h
     |cons v m ih=>
      intro a p h
      rw[List.foldl_cons]
      have:(zeq k a v).2<:+p++[v]:=by
       unfold zeq
       split
       ·exact List.nil_suffix
       ·obtain⟨q,hq⟩:=h
        exact⟨q,by rw[←hq,List.append_assoc]⟩
      have:=ih _ _ this
      rwa [List.append_assoc]at this
    have hsuf:=key l ([],[]) [] (List.suffix_refl _)
    rw[List.nil_append]at hsuf
    have hdr:List.drop (l.length - (zbg k l).2.length) l=(zbg k l).2:=by
     unfold zbg
     exact(List.suffix_iff_eq_drop.1 hsuf).symm
    have hsz:szL (zbg k l).2≤big:=by
     have:=zbJ hsuf.sublist
     unfold zbg
     omega
    have hle:(zbg k l).2.length≤l.length:=by unfold zbg;exact hsuf.length_le
    have hn:(decide ((0:Int)≤((l.length - (zbg k l).2.length:Nat):Int))&&decide (((l.length - (zbg k l).2.length:Nat):Int)≤(l.length:Int)))=true:=by
     simp only[Bool.and_eq_true,decide_eq_true_eq];omega
    have hpl:=(zkF k l ([],[])).2.1
    have hap:Zv (zbg k l).1.length 1 24=true:=zb8 (by
     unfold zbg
     unfold big at h
     simp only[List.length_nil]at hpl
     omega)
    simp only[hn,Ze,Int.toNat_natCast,hdr,ztH hsz,Option.bind_some,hap]
    rfl
 ·have h2:(errS l != 0)=true:=bne_iff_ne.2 h1
  rw[if_neg h1]
  simp only[h2,cond_true]
end Go.Lv.VT

namespace Go.Lv
theorem Le.lp{S X R:Type}{step step':S→Option (LO S X R)}{s:S}{k k':X→Option R}(h: ∀s,Le (step s) (step' s))(hk: ∀x,Le (k x) (k' x)):Le (zX step s k) (zX step' s k'):=by
 intro y hy
 unfold zX at hy
 cases hl:zeB step s with
 |none=>rw[hl]at hy;cases hy
 |some r=>
  rw[hl]at hy
  obtain⟨n,hn⟩:=zop hl
  rw[Qv (zce (zpp h n s r hn))]
  cases r with
  |out x=>exact hk x y hy
  |ret r=>exact hy
def zBP{X Y:Type}(B:(X→Option Y)→X→Option Y):Prop:= ∀S S':X→Option Y,(∀x,Le (S x) (S' x))→ ∀x,Le (B S x) (B S' x)
theorem zzC {X Y:Type} {B:(X→Option Y)→X→Option Y} (hm:zBP B) (μ:X→Nat) (ok:X→Prop) (R:X→Y→Prop)
  (hB: ∀(S:X→Option Y) (x:X),ok x→(∀z,ok z→μ z<μ x→ ∃y,S z=some y∧R z y)→ ∃y,B S x=some y∧R x y) {x:X} (hx:ok x): ∃y,recE B x=some y∧R x y:=by
 have step: ∀n x,Le (zgy B n x) (zgy B (n+1) x):=by
  intro n
  induction n with
  |zero=>intro x;exact Le.none
  |succ n ih=>intro x;exact hm _ _ ih x
 have up: ∀d n x,Le (zgy B n x) (zgy B (n+d) x):=by
  intro d
  induction d with
  |zero=>intro n x;exact Le.rfl
  |succ d ih=>intro n x y hy;exact step _ x y (ih n x y hy)
 have key: ∀(m:Nat) (x:X),μ x<m→ok x→ ∃y,zgy B m x=some y∧R x y:=by
  intro m
  induction m with
  |zero=>intro x h;omega
  |succ m ih=>
   intro x hm hok
   exact hB _ x hok fun z hz hlt=>ih z (by omega) hz
 obtain⟨y,h1,h2⟩:=key (μ x+1) x (by omega) hx
 refine⟨y,zty (N:=μ x+1) fun n hn=> ?_,h2⟩
 obtain⟨d,rfl⟩:=Nat.le.dest hn
 exact up d _ x y h1
theorem zzd {A S X R:Type} {step:S→Option (LO S X R)} {k:X→Option R} (n:Nat) (st:Nat→A→S) (Inv:Nat→A→Prop) (Q:R→Prop) {s0:S} {a0:A} (h0:s0=st 0 a0) (hI:Inv 0 a0)
  (hg: ∀(i:Nat) (a:A),i<n→Inv i a→(∃a',step (st i a)=some (.again (st (i+1) a'))∧Inv (i+1) a')∨(∃r,step (st i a)=some (.ret r)∧Q r)∨(∃x,step (st i a)=some (.out x)∧ ∃r,k x=some r∧Q r))
  (hf: ∀a,Inv n a→(∃x,step (st n a)=some (.out x)∧ ∃r,k x=some r∧Q r)∨(∃r,step (st n a)=some (.ret r)∧Q r)): ∃r,zX step s0 k=some r∧Q r:=by
 have key: ∀(m i:Nat) (a:A),i+m=n→Inv i a→ ∃j x,qF step j (st i a)=some x∧ ∃r,LX.go x k=some r∧Q r:=by
  intro m
  induction m with
  |zero=>
   intro i a hi ha
   obtain rfl:i=n:=by omega
   rcases hf a ha with⟨x,h1,r,h2,h3⟩|⟨r,h1,h2⟩
   ·exact⟨1, .out x,by simp only[qF,h1],r,h2,h3⟩
   ·exact⟨1, .ret r,by simp only[qF,h1],r,rfl,h2⟩
  |succ m ih=>
   intro i a hi ha
   rcases hg i a (by omega) ha with⟨a',h1,h2⟩|⟨r,h1,h2⟩|⟨x,h1,r,h2,h3⟩
   ·obtain⟨j,x,g1,g2⟩:=ih (i+1) a' (by omega) h2
    exact⟨j+1,x,by simp only[qF,h1];exact g1,g2⟩
   ·exact⟨1, .ret r,by simp only[qF,h1],r,rfl,h2⟩
   ·exact⟨1, .out x,by simp only[qF,h1],r,h2,h3⟩
 obtain⟨j,x,h1,r,h2,h3⟩:=key n 0 a0 (by omega) hI
 refine⟨r,?_,h3⟩
 rw[h0,Qv (zce h1),h2]
namespace VT
def mx{α:Type}(f:α→Nat):List α→Nat
 |[]=>0
 |v::l=>max (f v) (mx f l)
end VT
end Go.Lv

namespace Go.Lv.VT
set_option maxRecDepth 100000
theorem zmc:zBP zbe:=by
 intro Qb ref04_Size' h_ref04_Size x
 unfold zbe
 exact(.lp (fun _=>(.bif (.bind .rfl fun _=>(.bind .rfl fun _=>(.bind .rfl fun _=>(.bind (h_ref04_Size _) fun _=> .rfl)))) .rfl)) fun _=> .rfl)
end Go.Lv.VT

namespace Go.Lv.VT
def zBO{A S X R:Type}(k:X→Option R)(st:Nat→A→S)(Q:R→Prop)(i:Nat):LO S X R→Prop
 | .again s=> ∃a',s=st (i+1) a'
 | .ret r=>Q r
 | .out x=> ∃r,k x=some r∧Q r
def Ends{S X R:Type}(k:X→Option R)(Q:R→Prop):LO S X R→Prop
 | .again _=>False
 | .ret r=>Q r
 | .out x=> ∃r,k x=some r∧Q r
theorem zBd {A S X R:Type} {step:S→Option (LO S X R)} {k:X→Option R} (n:Nat) (st:Nat→A→S) (Q:R→Prop) {s0:S} {a0:A} (h0:s0=st 0 a0)
  (hg: ∀(i:Nat) (a:A),i<n→ ∃o,step (st i a)=some o∧zBO k st Q i o) (hf: ∀a,∃o,step (st n a)=some o∧Ends k Q o): ∃r,zX step s0 k=some r∧Q r:=by
 refine zzd n st (fun _ _=>True) Q h0 trivial (fun i a hi _=> ?_) (fun a _=> ?_)
 ·obtain⟨o,h1,h2⟩:=hg i a hi
  cases o with
  |again s=>obtain⟨a',rfl⟩:=h2;exact .inl ⟨a',h1,trivial⟩
  |ret r=>exact .inr (.inl ⟨r,h1,h2⟩)
  |out x=>exact .inr (.inr ⟨x,h1,h2⟩)
 ·obtain⟨o,h1,h2⟩:=hf a
  cases o with
  |again s=>exact h2.elim
  |ret r=>exact .inr ⟨r,h1,h2⟩
  |out x=>exact .inl ⟨x,h1,h2⟩
theorem zp5{l:List zb}{m:Int}(h:szL l≤big): ∃r,Qb (l,m)=some r:=by
 have: ∃r,Qb (l,m)=some r∧True:=by
  refine zzC zmc (fun x=>szL x.1) (fun x=>szL x.1≤big) (fun _ _=>True) (fun S x hx hS=> ?_) (x:=(l,m)) h
  obtain⟨l,m⟩:=x
  have hx:szL l≤big:=hx
  have hlen:=Qt l
  unfold zbe
  refine zBd (A:=Int) l.length (fun i a=>(a,(i:Int))) _ (a0:=0) rfl (fun i a hi=> ?_) (fun a=> ?_)
  ·have hsz:=zcL (List.getElem_mem hi)
   have hv:=zcR l[i]
   cases ha:decide (a≤m)with
   |false=>simp only[ZJ hi,cond_true,cond_false,ha];exact⟨_,rfl,_,rfl,trivial⟩
   |true=>
    obtain⟨r,hr,_⟩:=hS (l[i].list,w64 (m - a)) (by show szL l[i].list≤big;omega) (by show szL l[i].list<szL l;omega)
    simp only[ZJ hi,cond_true,ha,Zw hi,ze,Option.bind_some,hr,Zb hi (show l.length≤big by omega)]
    exact⟨_,rfl,_,rfl⟩
  ·simp only[Z6,cond_false];exact⟨_,rfl,_,rfl,trivial⟩
 obtain⟨r,hr,_⟩:=this
 exact⟨r,hr⟩
theorem zzD{a:List zb}(h:szL a≤big):Q4 (a,a)=some true:=by
 refine zaS (fun x:List zb×List zb=>szL x.1) (fun x=>szL x.1≤big∧x.1=x.2) (fun x=>true) (fun S x hl hS=> ?_) (show szL (a,a).1≤big∧(a,a).1=(a,a).2 from⟨h,rfl⟩)
 obtain⟨l,l'⟩:=x
 obtain⟨hl,he⟩:=hl
 simp only at hl hS he
 subst he
 unfold zdW
 have hlen:=Qt l
 have hne:((l.length:Int) != (l.length:Int))=false:=by simp
 simp only[hne,cond_false]
 refine(zkA l (fun i (_:Unit)=>(i:Int)) (fun v (_:Unit)=>some (.again ())) (fun _=>some (.out ())) (a:=()) rfl (fun i a hi=> ?_) (fun a=> ?_) (r:= .out ()) ?_)
 ·have hsz:=zcL (List.getElem_mem hi)
  have hv2:=zcR l[i]
  have hs1:szL l[i].list≤big:=by omega
  have hs2:szL l[i].list<szL l:=by omega
  have hS':S (l[i].list,l[i].list)=some true:=hS (l[i].list,l[i].list) ⟨hs1,rfl⟩ hs2
  simp[hi,Zw hi,hS',Zb hi (by omega)]
 ·simp only[Z6,cond_false]
  rfl
 ·rw[QZ (fun a v=>a) (fun v a=>rfl)]
theorem zwP{l:List zb}(h:szL l≤big): ∃r,zdC l=some r:=by
 obtain⟨r,hr⟩:=zp5 (m:=300) h
 unfold zdC
 simp only[ze,hr,Option.bind_some]
 cases hd:decide (r>300)with
 |true=>exact⟨_,rfl⟩
 |false=>simp only[Bool.not_false,zn,zuy h,Option.bind_some];exact⟨_,rfl⟩
end Go.Lv.VT

namespace Go.Lv.VT
set_option maxRecDepth 100000
inductive Cuts (k:Int):List zb→List (List zb)→Prop
 |one (p:List zb) (h: ∀x∈p,(x.token.kind==k)=false):Cuts k p [p]
 |more (p:List zb) (s:zb) (v:List zb) (ps:List (List zb)) (h: ∀x∈p,(x.token.kind==k)=false) (hs:(s.token.kind==k)=true) (hc:Cuts k v ps):Cuts k (p++s::v) (p::ps)
theorem zm9(d:List zb): ∃r,d=trimB d++r∧(∀x∈r,isSp x=true)∧(trimB d=[]∨ ∃t v,trimB d=t++[v]∧isSp v=false):=by
 induction hn:d.length generalizing d with
 |zero=>
  obtain rfl:=List.length_eq_zero_iff.1 hn
  exact⟨[],rfl,fun x hx=>(by cases hx), .inl rfl⟩
 |succ n ih=>
  rcases Qo d with rfl|⟨t,v,rfl⟩
  ·cases hn
  ·rw[zb7]
   cases hv:isSp v with
   |true=>
    rw[if_pos rfl]
    obtain⟨r,h1,h2,h3⟩:=ih t (by rw[List.length_append]at hn;simpa using hn)
    refine⟨r++[v],by rw[←List.append_assoc,←h1],fun x hx=> ?_,h3⟩
    rcases List.mem_append.1 hx with hx|hx
    ·exact h2 x hx
    ·rw[List.mem_singleton.1 hx];exact hv
   |false=>
    rw[if_neg (by decide)]
    exact⟨[],(List.append_nil _).symm,fun x hx=>(by cases hx), .inr ⟨t,v,rfl,hv⟩⟩
theorem zi8: ∀(v:List zb),∃a,v=a++v.dropWhile isSp∧(∀x∈a,isSp x=true)∧ ∀x b,v.dropWhile isSp=x::b→isSp x=false
 |[]=>⟨[],rfl,fun x hx=>(by cases hx),fun x b h=>(by cases h)⟩
 |y::v=>by
  obtain⟨a,h1,h2,h3⟩:=zi8 v
  cases hy:isSp y with
  |true=>
   rw[List.dropWhile_cons_of_pos hy]
   refine⟨y::a,by rw[List.cons_append,←h1],fun x hx=> ?_,h3⟩
   rcases List.mem_cons.1 hx with rfl|hx
   ·exact hy
   ·exact h2 x hx
  |false=>
   rw[List.dropWhile_cons_of_neg (by rw[hy];decide)]
   exact⟨[],rfl,fun x hx=>(by cases hx),fun x b h=>(by cases h;exact hy)⟩
end Go.Lv.VT
