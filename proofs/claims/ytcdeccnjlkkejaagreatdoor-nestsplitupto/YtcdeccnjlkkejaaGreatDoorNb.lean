/- NestSplit: parts are the values; trimming takes spaces at both ends. -/
import Derived.Test.YtcdeccnjlkkejaaGreatDoorNa
import Derived.Test.YtcdeccnjlkkejaaGreatDoorMo
import Derived.KernelRfl
set_option linter.unusedSimpArgs false
set_option linter.unusedVariables false
namespace Go.Lv.VT
set_option maxRecDepth 100000
theorem zh0:zao ()=some true:=zjO 400 _ _ (by decide+kernel)
inductive Cuts (k:Int):List ze→List (List ze)→Prop
 |one (p:List ze) (h: ∀x∈p,(x.token.kind==k)=false):Cuts k p [p]
 |more (p:List ze) (s:ze) (v:List ze) (ps:List (List ze)) (h: ∀x∈p,(x.token.kind==k)=false) (hs:(s.token.kind==k)=true) (hc:Cuts k v ps):Cuts k (p++s::v) (p::ps)
theorem zn1(k:Int): ∀(l:List ze) (d:List (List ze)) (c:List ze),(∀x∈c,(x.token.kind==k)=false)→ ∃qs,(l.foldl (zcD k) (d,c)).1++[(l.foldl (zcD k) (d,c)).2]=d++qs∧Cuts k (c++l) qs
 |[],d,c,h=>⟨[c],rfl,by rw[List.append_nil];exact .one c h⟩
 |v::l,d,c,h=>by
  rw[List.foldl_cons]
  cases hv:v.token.kind==k with
  |true=>
   obtain⟨qs,h1,h2⟩:=zn1 k l (d++[c]) [] (fun x hx=>by cases hx)
   refine⟨c::qs,?_, .more c v l qs h hv h2⟩
   rw[show zcD k (d,c) v=(d++[c],[]) by unfold zcD;rw[if_pos hv],h1,List.append_assoc];rfl
  |false=>
   obtain⟨qs,h1,h2⟩:=zn1 k l d (c++[v]) (fun x hx=>by
    rcases List.mem_append.1 hx with hx|hx
    ·exact h x hx
    ·rw[List.mem_singleton.1 hx];exact hv)
   refine⟨qs,?_,by rw[List.append_assoc]at h2;exact h2⟩
   rw[show zcD k (d,c) v=(d,c++[v]) by unfold zcD;rw[if_neg (by rw[hv];decide)],h1]
theorem zq3(k:Int)(l:List ze):Cuts k l (zk3 k l):=by
 obtain⟨qs,h1,h2⟩:=zn1 k l [] [] (fun x hx=>by cases hx)
 have:zk3 k l=qs:=h1
 rw[this];exact h2
theorem zoY{k:Int}{v:List ze}{ps:List (List ze)}(h:Cuts k v ps):0<ps.length:=by cases h<;>simp
theorem zph{v:List ze}{i:Nat}(h:i<v.length):List.drop i (List.take (i+1) v)=[v[i]]:=by
 rw[List.take_add_one,List.getElem?_eq_getElem h,List.drop_append_of_le_length (by rw[List.length_take];omega),List.drop_eq_nil_of_le (by rw[List.length_take];omega)]
 rfl
theorem w1{i n:Nat}(h:i<n)(hn:n≤big):w64 ((i:Int)+1)=((i+1:Nat):Int):=zaj h hn
theorem zrZ{R:Type}{v p:List ze}{ps:List (List ze)}{k:Int}{i a:Nat}{tl:List ze}{K:Int→Option R}(hv:szL v≤big)(hi:ps[i]? =some p)(ha:v.drop a=p++tl)(hal:a≤v.length)(hp: ∀x∈p,(x.token.kind==k)=false)(rr:R):
  ZP (R:=R) (fun(s8:Int×Int)=>
        zb (geti ps (i:Int)) fun y9=>
        bif decide (s8.2<(y9.length:Int))then
         zb (geti ps (i:Int)) fun y10=>
         zb (geti y10 s8.2) fun y11=>
         zb (zB (!(bif y11.token.kind==k then true else decide (s8.1≥(v.length:Int)))) (geti ps (i:Int)) (default:List ze)) fun y12=>
         need (decide (0≤s8.2)&&(decide (s8.2≤w64 (s8.2+1))&&decide (w64 (s8.2+1)≤(y12.length:Int)))|| !(!(bif y11.token.kind==k then true else decide (s8.1≥(v.length:Int)))))<|
         need (decide (0≤s8.1)&&(decide (s8.1≤w64 (s8.1+1))&&decide (w64 (s8.1+1)≤(v.length:Int)))|| !(!(bif y11.token.kind==k then true else decide (s8.1≥(v.length:Int)))))<|
         zb (zB (!(bif y11.token.kind==k then true else decide (s8.1≥(v.length:Int)))) (ZE (List.drop s8.2.toNat (List.take (w64 (s8.2+1)).toNat y12),List.drop s8.1.toNat (List.take (w64 (s8.1+1)).toNat v))) (default:Bool)) fun y13=>
         bif bif bif y11.token.kind==k then true else decide (s8.1≥(v.length:Int))then true else !y13 then
          some (LO.ret rr)
         else
          some (LO.again (w64 (s8.1+1),w64 (s8.2+1)))
        else
         some (LO.out s8.1):Int×Int→Option (LO (Int×Int) (Int) R)) ((a:Int),0) K=K ((a+p.length:Nat):Int):=by
 have hlen:=zbm v
 have hpl:a+p.length≤v.length:=by
  have:=congrArg List.length ha
  rw[List.length_drop,List.length_append]at this
  omega
 have hil:=(List.getElem?_eq_some_iff.1 hi).1
 have hgi:geti ps (i:Int)=some p:=by rw[zak hil,(List.getElem?_eq_some_iff.1 hi).2]
 refine zgb (zcv (fun s=> ∃j:Nat,j≤p.length∧s=(((a+j:Nat):Int),(j:Int))) (fun s=>p.length - s.2.toNat) _ (fun s hs=> ?_) ⟨0,Nat.zero_le _,rfl⟩)
 obtain⟨j,hj,rfl⟩:=hs
 simp only[hgi,zb,Option.bind_some]
 rcases Nat.lt_or_ge j p.length with hj2|hj2
 ·refine .inl ⟨(((a+(j+1):Nat):Int),((j+1:Nat):Int)),?_,⟨j+1,hj2,rfl⟩,by simp only[Int.toNat_natCast];omega⟩
  have hk:(p[j].token.kind==k)=false:=hp _ (List.getElem_mem hj2)
  have haj:a+j<v.length:=by omega
  have hge:decide (((a+j:Nat):Int)≥(v.length:Int))=false:=decide_eq_false (by omega)
  have hw1:w64 ((j:Int)+1)=((j+1:Nat):Int):=w1 hj2 (by unfold big at *; omega)
  have hw2:w64 (((a+j:Nat):Int)+1)=((a+j+1:Nat):Int):=w1 haj (by unfold big at *; omega)
  have hvj:v[a+j]=p[j]:=by
   have h1:(v.drop a)[j]? =some p[j]:=by rw[ha,List.getElem?_append_left hj2,List.getElem?_eq_getElem hj2]
   rw[List.getElem?_drop,List.getElem?_eq_getElem haj]at h1
   exact Option.some.inj h1
  have hn1:(decide ((0:Int)≤(j:Int))&&(decide ((j:Int)≤((j+1:Nat):Int))&&decide (((j+1:Nat):Int)≤(p.length:Int))))=true:=by simp only[Bool.and_eq_true,decide_eq_true_eq];omega
  have hn2:(decide ((0:Int)≤((a+j:Nat):Int))&&(decide (((a+j:Nat):Int)≤((a+j+1:Nat):Int))&&decide (((a+j+1:Nat):Int)≤(v.length:Int))))=true:=by simp only[Bool.and_eq_true,decide_eq_true_eq];omega
  have hs:ZE ([p[j]],[p[j]])=some true:=zpl (by
   have:=zdT (List.getElem_mem haj)
   rw[hvj]at this
   simp only[szL];omega)
  simp only[zaq hj2,cond_true,zak hj2,Option.bind_some,hk,cond_false,hge,Bool.not_false,Zw,hw1,hw2,hn1,hn2,Bool.true_or,zbE,Int.toNat_natCast,zph hj2,zph haj,hvj,hs,Bool.not_true]
  rfl
 ·have:j=p.length:=by omega
  subst this
  exact .inr (.inl ⟨_,by simp only[zbJ,cond_false],rfl⟩)
theorem zoG(d:List ze): ∃r,d=trimB d++r∧(∀x∈r,isSp x=true)∧(trimB d=[]∨ ∃t v,trimB d=t++[v]∧isSp v=false):=by
 induction hn:d.length generalizing d with
 |zero=>
  obtain rfl:=List.length_eq_zero_iff.1 hn
  exact⟨[],rfl,fun x hx=>(by cases hx), .inl rfl⟩
 |succ n ih=>
  rcases zop d with rfl|⟨t,v,rfl⟩
  ·cases hn
  ·rw[zg5]
   cases hv:isSp v with
   |true=>
    rw[if_pos rfl]
    obtain⟨r,h1,h2,h3⟩:=ih t (by rw[List.length_append]at hn;simpa using hn)
    refine⟨r++[v],by rw[←List.append_assoc,←h1],fun x hx=> ?_,h3⟩
    rcases List.mem_append.1 hx with hx|hx
    ·exact h2 x hx
    ·rw[List.mem_singleton.1 hx];exact hv
   |false=>
    rw[if_neg (by decide)]
    exact⟨[],(List.append_nil _).symm,fun x hx=>(by cases hx), .inr ⟨t,v,rfl,hv⟩⟩
theorem zkx: ∀(v:List ze),∃a,v=a++v.dropWhile isSp∧(∀x∈a,isSp x=true)∧ ∀x b,v.dropWhile isSp=x::b→isSp x=false
 |[]=>⟨[],rfl,fun x hx=>(by cases hx),fun x b h=>(by cases h)⟩
 |y::v=>by
  obtain⟨a,h1,h2,h3⟩:=zkx v
  cases hy:isSp y with
  |true=>
   rw[List.dropWhile_cons_of_pos hy]
   refine⟨y::a,by rw[List.cons_append,←h1],fun x hx=> ?_,h3⟩
   rcases List.mem_cons.1 hx with rfl|hx
   ·exact hy
   ·exact h2 x hx
  |false=>
   rw[List.dropWhile_cons_of_neg (by rw[hy];decide)]
   exact⟨[],rfl,fun x hx=>(by cases hx),fun x b h=>(by cases h;exact hy)⟩
theorem zjr(v:List ze): ∃a r,v=a++(trimS v++r)∧(∀x∈a,isSp x=true)∧(∀x∈r,isSp x=true)∧(∀x b,trimS v++r=x::b→isSp x=false)∧(trimS v=[]∨ ∃t x,trimS v=t++[x]∧isSp x=false):=by
 obtain⟨r,h1,h2,h3⟩:=zoG (v.dropWhile isSp)
 obtain⟨a,q1,q2,q3⟩:=zkx v
 refine⟨a,r,?_,q2,h2,fun x b hx=> ?_,h3⟩
 ·unfold trimS
  rw[←h1];exact q1
 ·unfold trimS at hx
  rw[←h1]at hx
  exact q3 x b hx
theorem zoH(v:List ze):trimS (trimS v)=trimS v:=by
 obtain⟨a,r,h1,h2,h3,h4,h5⟩:=zjr v
 rcases h5 with h5|⟨t,x,h5,h6⟩
 ·rw[h5];rfl
 ·have hd:(trimS v).dropWhile isSp=trimS v:=by
   cases hc:trimS v with
   |nil=>rfl
   |cons y b=>rw[List.dropWhile_cons_of_neg (by rw[h4 y (b++r) (by rw[hc];rfl)];decide)]
  have:trimS (trimS v)=trimB (trimS v):=by
   show trimB ((trimS v).dropWhile isSp)=_
   rw[hd]
  rw[this,h5,zg5,h6,if_neg (by decide)]
theorem zra{a b:List ze}(h:a.Sublist b):QN a≤QN b:=by
 induction h with
 |slnil=>exact Nat.le_refl _
 |cons v _ ih=>rw[QN];omega
 |cons_cons v _ ih=>rw[QN,QN];omega
theorem ztu{a b:List ze}(h:a.Sublist b):(tokL a).length≤(tokL b).length:=by
 induction h with
 |slnil=>exact Nat.le_refl _
 |cons v _ ih=>rw[tokL,List.length_append];omega
 |cons_cons v _ ih=>rw[tokL,tokL,List.length_append,List.length_append];omega
theorem zut{a b:List ze}{c:Int}(h:a.Sublist b)(hb:shL b c=true):shL a c=true:=by
 induction h with
 |slnil=>exact hb
 |cons v _ ih=>rw[shL,Bool.and_eq_true]at hb;exact ih hb.2
 |cons_cons v _ ih=>rw[shL,Bool.and_eq_true]at hb ⊢;exact⟨hb.1,ih hb.2⟩
theorem zsU{a b:List ze}(h:a.Sublist b)(hb:errS b=0):errS a=0:=by
 unfold errS at*
 have h1:=zra h
 have h2:=ztu h
 split at hb
 ·cases hb
 split at hb
 ·cases hb
 split at hb
 ·rename_i q1 q2 q3
  rw[if_neg (by omega),if_neg (by omega),if_pos (zut h q3)]
 ·cases hb
theorem zqt(v:List ze):(trimS v).Sublist v:=(zgu _).trans (List.dropWhile_sublist _)
theorem zl6{v:List ze}{k:Int}(h:szL v≤big):zaJ (v,k)=some true:=by
 have hlen:=zbm v
 obtain⟨g,hg⟩:=zrj h
 unfold zaJ
 simp only[zb,hg,Option.bind_some]
 cases g with
 |true=>simp only[Bool.not_true,za9,Option.bind_some,cond_true,zh0]
 |false=>
 simp only[Bool.not_false,Zw,zr8 h,Option.bind_some,cond_false]
 by_cases h1:errS v=0
 rotate_left
 ·have:(errS v != 0)=true:=by simpa using h1
  simp only[this,cond_true,zh0,Option.bind_some]
 have he0:(errS v != 0)=false:=by rw[h1];rfl
 simp only[he0,cond_false]
 by_cases h2:k<1∨24<k
 ·have:(bif decide (k<1)then true else decide (k>24))=true:=by
   rcases h2 with h2|h2
   ·rw[decide_eq_true h2];rfl
   ·cases decide (k<1)<;>simp[decide_eq_true h2]
  simp only[this,cond_true,zh0,Option.bind_some]
 have hk:(bif decide (k<1)then true else decide (k>24))=false:=by
  rw[decide_eq_false (by omega),decide_eq_false (by omega)];rfl
 have hcp:=zoY (zq3 k v)
 have hcs:szP (zk3 k v)≤szL v+1:=zsN k v
 have hcl:=zsh (zk3 k v)
 have hps:=zq3 k v
 have hsplit:zcc (v,k)=some (zk3 k v,0):=by rw[zp8 h,if_pos h1,if_neg h2]
 generalize zk3 k v=ps at*
 have hone:decide ((ps.length:Int)<1)=false:=decide_eq_false (by omega)
 simp only[hk,cond_false,hsplit,Option.bind_some,bne_self_eq_false,hone]
 refine(zgb (zcv (fun s=> ∃at_ i:Nat,s=((at_:Int),(i:Int))∧((i=0∧at_=0)∨(0<i∧i<ps.length∧ ∃hlt:at_<v.length,(v[at_].token.kind==k)=true∧Cuts k (v.drop (at_+1)) (ps.drop i))∨(i=ps.length∧at_=v.length))) (fun s=>ps.length - s.2.toNat) (.out (v.length:Int)) (fun s hs=> ?_) ⟨0,0,rfl, .inl ⟨rfl,rfl⟩⟩)).trans ?_
 ·obtain⟨at_,i,rfl,hs⟩:=hs
  rcases Nat.lt_or_ge i ps.length with hi|hi
  rotate_left
  ·have:i=ps.length∧at_=v.length:=by
    rcases hs with⟨q,_⟩|⟨_,q,_⟩|q
    ·omega
    ·omega
    ·exact q
   obtain⟨rfl,rfl⟩:=this
   exact .inr (.inl ⟨_,by simp only[zbJ,cond_false],rfl⟩)
  -- where the part begins
  have beg: ∃a:Nat,a≤v.length∧Cuts k (v.drop a) (ps.drop i)∧zJ (X:=Int) (R:=LO (Int×Int) Int Bool) (
        bif decide ((i:Int)>0)then
         zb (zB (!(decide ((at_:Int)≥(v.length:Int)))) (geti v (at_:Int)) (default:ze)) fun y6=>
         bif bif decide ((at_:Int)≥(v.length:Int))then true else y6.token.kind != k then
          some (LX.ret (LO.ret false))
         else
          some (LX.out (w64 ((at_:Int)+1)))
        else
         some (LX.out (at_:Int)))=fun K=>K (a:Int):=by
   rcases hs with⟨rfl,rfl⟩|⟨q1,q2,hlt,q3,q4⟩|⟨q,_⟩
   ·exact⟨0,Nat.zero_le _,hps,rfl⟩
   ·refine⟨at_+1,hlt,q4,?_⟩
    have e1:decide ((i:Int)>0)=true:=decide_eq_true (by omega)
    have e2:decide ((at_:Int)≥(v.length:Int))=false:=decide_eq_false (by omega)
    have e3:(v[at_].token.kind != k)=false:=by rw[bne,q3];rfl
    simp only[e1,e2,cond_true,cond_false,Bool.not_false,Zw,zak hlt,zb,Option.bind_some,e3,w1 hlt (by omega)]
    rfl
   ·omega
  obtain⟨a,hal,hcut,hj⟩:=beg
  have hj':=fun K=>congrFun hj K
  have hdi:ps.drop i=ps[i]::ps.drop (i+1):=List.drop_eq_getElem_cons hi
  rw[hdi]at hcut
  have hgi:ps[i]? =some ps[i]:=List.getElem?_eq_getElem hi
  generalize ps[i]=p at hcut hgi
  have hcut': ∃tl,v.drop a=p++tl∧(∀x∈p,(x.token.kind==k)=false)∧((ps.drop (i+1)=[]∧tl=[])∨ ∃s v',tl=s::v'∧(s.token.kind==k)=true∧Cuts k v' (ps.drop (i+1))):=by
   generalize hw:v.drop a=w at hcut
   generalize hr:ps.drop (i+1)=rs at hcut
   cases hcut with
   |one _ hp=>exact⟨[],(List.append_nil _).symm,hp, .inl ⟨rfl,rfl⟩⟩
   |more _ s v' _ hp hs hc=>exact⟨s::v',rfl,hp, .inr ⟨s,v',rfl,hs,hc⟩⟩
  obtain⟨tl,ha,hp,hcase⟩:=hcut'
  have hpl:a+p.length+tl.length=v.length:=by
   have:=congrArg List.length ha
   rw[List.length_drop,List.length_append]at this
   omega
  refine .inl ⟨(((a+p.length:Nat):Int),((i+1:Nat):Int)),?_,⟨a+p.length,i+1,rfl,?_⟩,by simp only[Int.toNat_natCast];omega⟩
  ·have:=zrZ (R:=LO (Int×Int) Int Bool) (tl:=tl) (K:=fun o14=>some (LO.again (o14,w64 ((i:Int)+1)))) h hgi ha hal hp (LO.ret false)
   have hwi:w64 ((i:Int)+1)=((i+1:Nat):Int):=by rw[w64,Qs (by omega) (by unfold big at h;omega)];omega
   show(bif decide ((i:Int)<(ps.length:Int))then _ else _)=_
   rw[zaq hi]
   refine(hj' _).trans (this.trans ?_)
   rw[hwi]
  ·rcases hcase with⟨q1,rfl⟩|⟨s,v',rfl,q2,q3⟩
   ·have hi2:i+1=ps.length:=by
     have:=congrArg List.length q1
     rw[List.length_drop]at this
     simp at this;omega
    exact .inr (.inr ⟨hi2,by simpa using hpl⟩)
   ·rw[List.length_cons]at hpl
    have hlt:a+p.length<v.length:=by omega
    have hv2:v.drop (a+p.length)=s::v':=by
     rw[←List.drop_drop,ha,List.drop_left]
    have hva:v[a+p.length]=s:=by
     have:=List.drop_eq_getElem_cons hlt
     rw[hv2]at this
     exact(List.cons.inj this).1.symm
    have hvd:v.drop (a+p.length+1)=v':=by
     have:=List.drop_eq_getElem_cons hlt
     rw[hv2]at this
     exact(List.cons.inj this).2.symm
    have hi2:i+1<ps.length:=by
     have:=zoY q3
     rw[List.length_drop]at this
     omega
    exact .inr (.inl ⟨Nat.succ_pos _,hi2,hlt,by rw[hva];exact q2,by rw[hvd];exact q3⟩)
 ·have hne:((v.length:Int) != (v.length:Int))=false:=by simp
  have et:errS (trimS v)=0:=zsU (zqt v) h1
  have ht:szL (trimS v)≤big:=Nat.le_trans (ztz v) h
  have hs2:ZE (trimS v,trimS v)=some true:=zpl ht
  simp only[hne,cond_false,zm4 h,if_pos h1,zm4 ht,if_pos et,zoH,Option.bind_some,bne_self_eq_false,Bool.not_false,Zw,hs2,Bool.not_true]
  obtain⟨a,r,q1,q2,q3,q4,q5⟩:=zjr v
  generalize trimS v=t at*
  have hl:v.length=a.length+(t.length+r.length):=by
   have:=congrArg List.length q1
   rw[List.length_append,List.length_append]at this
   exact this
  refine(zgb (zcv (fun s=> ∃i:Nat,s=(i:Int)∧i≤a.length) (fun s=>a.length - s.toNat) (.out (a.length:Int)) (fun s hs=> ?_) ⟨0,rfl,Nat.zero_le _⟩)).trans ?_
  ·obtain⟨i,rfl,hi⟩:=hs
   rcases Nat.lt_or_ge i a.length with hi2|hi2
   ·have hiv:i<v.length:=by omega
    have hvi:(v[i].token.kind==13)=true:=by
     have e:v[i]? =some a[i]:=by
      rw[q1,List.getElem?_append_left hi2,List.getElem?_eq_getElem hi2]
     rw[List.getElem?_eq_getElem hiv]at e
     rw[Option.some.inj e]
     exact q2 _ (List.getElem_mem hi2)
    refine .inl ⟨((i+1:Nat):Int),?_,⟨i+1,rfl,hi2⟩,by simp only[Int.toNat_natCast];omega⟩
    simp only[zaq hiv,Zw,zak hiv,Option.bind_some,cond_true,hvi,w1 hiv (by omega)]
   ·have:i=a.length:=by omega
    subst this
    refine .inr (.inl ⟨_,?_,rfl⟩)
    rcases Nat.lt_or_ge a.length v.length with hiv|hiv
    ·have hvi:(v[a.length].token.kind==13)=false:=by
      cases hc:t++r with
      |nil=>
       exfalso
       have:=congrArg List.length hc
       rw[List.length_append,List.length_nil]at this
       omega
      |cons x b=>
       have e:v[a.length]? =some x:=by
        rw[q1,List.getElem?_append_right (Nat.le_refl _),Nat.sub_self,hc];rfl
       rw[List.getElem?_eq_getElem hiv]at e
       rw[Option.some.inj e]
       exact q4 x b hc
     simp only[zaq hiv,Zw,zak hiv,Option.bind_some,cond_true,hvi,cond_false]
    ·have:decide ((a.length:Int)<(v.length:Int))=false:=decide_eq_false (by omega)
     simp only[this,za9,Option.bind_some,cond_false]
  have hw1:w64 ((a.length:Int)+(t.length:Int))=((a.length+t.length:Nat):Int):=by rw[w64,Qs (by omega) (by unfold big at h;omega)];omega
  have hw2:w64 ((v.length:Int) - (a.length:Int))=((t.length+r.length:Nat):Int):=by rw[w64,Qs (by omega) (by unfold big at h;omega)];omega
  have hgt:decide ((t.length:Int)>((t.length+r.length:Nat):Int))=false:=decide_eq_false (by omega)
  have hn:(decide ((0:Int)≤(a.length:Int))&&(decide ((a.length:Int)≤((a.length+t.length:Nat):Int))&&decide (((a.length+t.length:Nat):Int)≤(v.length:Int))))=true:=by simp only[Bool.and_eq_true,decide_eq_true_eq];omega
  have hdt:List.drop a.length (List.take (a.length+t.length) v)=t:=by
   rw[q1,←List.append_assoc,List.take_left' (by rw[List.length_append]),List.drop_left]
  simp only[hw1,hw2,hgt,hn,Bool.true_or,zbE,Bool.not_false,Zw,Int.toNat_natCast,hdt,hs2,Option.bind_some,Bool.not_true,cond_false]
  refine(zgb (zcv (fun s=> ∃i:Nat,s=(i:Int)∧a.length+t.length≤i∧i≤v.length) (fun s=>v.length - s.toNat) (.out ()) (fun s hs=> ?_) ⟨_,rfl,Nat.le_refl _,by omega⟩)).trans ?_
  ·obtain⟨i,rfl,hi,hi1⟩:=hs
   rcases Nat.lt_or_ge i v.length with hiv|hiv
   ·have hvi:(v[i].token.kind != 13)=false:=by
     have hir:i - (a.length+t.length)<r.length:=by omega
     have e:v[i]? =some r[i - (a.length+t.length)]:=by
      rw[q1,←List.append_assoc,List.getElem?_append_right (by rw[List.length_append];omega),List.length_append,List.getElem?_eq_getElem hir]
     rw[List.getElem?_eq_getElem hiv]at e
     rw[Option.some.inj e,bne,show(r[i - (a.length+t.length)].token.kind==13)=true from q3 _ (List.getElem_mem hir)]
     rfl
    refine .inl ⟨((i+1:Nat):Int),?_,⟨i+1,rfl,by omega,hiv⟩,by simp only[Int.toNat_natCast];omega⟩
    simp only[zaq hiv,cond_true,zak hiv,Option.bind_some,hvi,cond_false,w1 hiv (by omega)]
   ·have:i=v.length:=by omega
    subst this
    exact .inr (.inl ⟨_,by simp only[zbJ,cond_false],rfl⟩)
  rcases q5 with rfl|⟨t0,x,rfl,hx⟩
  ·simp only[List.length_nil,Int.ofNat_zero,Int.cast_ofNat_Int,beq_self_eq_true,Bool.not_true,za9,Option.bind_some,cond_true,Zw,zh0]
  ·have hz:(((t0++[x]).length:Int)==0)=false:=by
    rw[beq_eq_false_iff_ne,List.length_append];simp;omega
   have hw3:w64 (((t0++[x]).length:Int) - 1)=(t0.length:Int):=by
    rw[w64,Qs (by rw[List.length_append];simp) (by unfold big at h;omega),List.length_append];simp
   have hgl:geti (t0++[x]) (t0.length:Int)=some x:=by
    rw[zak (by simp)];simp
   have hx2:(x.token.kind != 13)=true:=by rw[bne,show(x.token.kind==13)=false from hx];rfl
   simp only[hz,Bool.not_false,Zw,hw3,hgl,Option.bind_some,cond_false,hx2,Zw,zh0,cond_true]
end Go.Lv.VT
