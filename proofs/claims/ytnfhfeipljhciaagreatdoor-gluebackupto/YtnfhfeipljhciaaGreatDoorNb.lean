/- The writing of names. -/
import Derived.Test.YtnfhfeipljhciaaGreatDoorNam
set_option linter.unusedSimpArgs false
set_option linter.unusedVariables false
namespace Go.Lv.VT
set_option maxRecDepth 100000
def escC(c:UInt8):Str:=bif decide (32<c.toNat)&&decide (c.toNat<127)&& !digB c&& !alB c then [92,c]else 92::(hexS c.toNat++[32])
def pcW(dash:Bool)(k:Nat)(c:UInt8):Str:=bif letB c&&(k==0|| !digB c)&& !dash then [c]else escC c
def encW(dash:Bool):Nat→Str→Str
 |_,[]=>[]
 |k,c::r=>pcW dash k c++encW dash (k - 1) r
theorem zxt(c:UInt8):namN c.toNat=letB c:=by
 have: ∀n:Nat,n<256→namN (UInt8.ofNat n).toNat=letB (UInt8.ofNat n):=by decide+kernel
 have h:=this c.toNat (UInt8.toNat_lt c)
 rwa [UInt8.ofNat_toNat]at h
theorem zzp(c:UInt8):QU (c.toNat:Int)=some (letB c):=by rw[zg0,zxt]
theorem zuO(c:UInt8):ZU (c.toNat:Int)=some (digB c):=zgZ c
theorem zxe(c:UInt8):QE (c.toNat:Int)=some (alB c):=zmf (zfR 1) (by decide+kernel) c
theorem zwE(c:UInt8):wu64 (c.toNat:Int)=(c.toNat:Int):=by
 have:=UInt8.toNat_lt c
 show IntKind.u64.wrap _=_
 have h: ∀n:Int,IntKind.u64.wrap n=n%18446744073709551616:=fun n=>by simp[IntKind.wrap,IntKind.bits,IntKind.signed]
 rw[h];omega
theorem zmI(c:UInt8):Zl ((c.toNat:Nat):Int)=some c:=by rw[Zm (UInt8.toNat_lt c),UInt8.ofNat_toNat]
theorem zrY(n:Nat):(hexS n).length≤2:=by unfold hexS;split<;>simp
theorem zc8(c:UInt8){acc:Str}(ha:acc.length≤1000000000):ZM ((c.toNat:Int),acc)=some (acc++escC c):=by
 have hc:=UInt8.toNat_lt c
 unfold ZM escC
 simp only[ze,zuO,zxe]
 have e1:decide ((c.toNat:Int)>32)=decide (32<c.toNat):=by rw[decide_eq_decide];omega
 have e2:decide ((c.toNat:Int)<127)=decide (c.toNat<127):=by rw[decide_eq_decide];omega
 rw[e1,e2]
 have hsh:short (acc++[(92:UInt8)])=true:=decide_eq_true (by rw[List.length_append,List.length_singleton];omega)
 have hu:zdw ((wu64 (c.toNat:Int),16),acc++[(92:UInt8)])=some (acc++[(92:UInt8)]++hexS c.toNat):=by
  unfold zdw
  simp only[zwE,hsh]
  rw[zw (by simp;omega)]
  rfl
 have hx:=zrY c.toNat
 have hfin:need (Ze acc.length 1 1) (ze (zdw ((wu64 (c.toNat:Int),16),acc++[(92:UInt8)])) fun y4=>need (Ze y4.length 1 1) (some (y4++[(32:UInt8)])))=some (acc++92::(hexS c.toNat++[32])):=by
  rw[zw (zaI (by omega)),hu]
  simp only[ze,Option.bind_some]
  rw[zw (zaI (by rw[List.length_append,List.length_append,List.length_singleton];omega))]
  simp
 simp only[ze]at hfin
 rw[hfin]
 cases decide (32<c.toNat)with
 |false=>rfl
 |true=>
  cases decide (c.toNat<127)with
  |false=>rfl
  |true=>
   cases digB c with
   |true=>rfl
   |false=>
    cases alB c with
    |true=>rfl
    |false=>
     simp only[zn,cond_true,Bool.not_false,Bool.and_self,Option.bind_some,zmI]
     rw[zw (zaI (by omega))]
theorem zgT(c:UInt8):(escC c).length≤4:=by
 have:=zrY c.toNat
 unfold escC
 cases decide (32<c.toNat)&&decide (c.toNat<127)&& !digB c&& !alB c with
 |true=>show 2≤4;omega
 |false=>rw[cond_false,List.length_cons,List.length_append,List.length_singleton];omega
theorem zvJ(dash:Bool)(k:Nat)(c:UInt8):(pcW dash k c).length≤4:=by
 have:=zgT c
 unfold pcW
 cases letB c&&(k==0|| !digB c)&& !dash with
 |true=>show 1≤4;omega
 |false=>exact this
theorem zgP(dash:Bool): ∀(k:Nat) (l:Str),(encW dash k l).length≤4*l.length
 |_,[]=>by unfold encW;simp
 |k,c::r=>by
  have:=zvJ dash k c
  have:=zgP dash (k - 1) r
  unfold encW
  rw[List.length_append,List.length_cons];omega
theorem zzh{dash:Bool}{k i:Nat}{l:Str}(h:i<l.length):encW dash (k - i) (l.drop i)=pcW dash (k - i) l[i]++encW dash (k - (i+1)) (l.drop (i+1)):=by
 rw[List.drop_eq_getElem_cons h,encW,show k - i - 1=k - (i+1) by omega]
theorem zAr {R:Type} {step:Int×List UInt8→Option (LO (Int×List UInt8) (List UInt8) R)} {l acc:Str} {k:Nat} {dash:Bool} (hl:l.length≤100000) (ha:acc.length≤100000000)
  (h1: ∀(i:Nat) (a:Str) (hi:i<l.length),a.length≤500000000→step ((i:Int),a)=some (.again (w64 ((i:Int)+1),a++pcW dash (k - i) l[i])))
  (h2: ∀a,step ((l.length:Int),a)=some (.out a)):zdM step (0,acc)=some (.out (acc++encW dash k l)):=by
 refine qN (fun z=> ∃(i:Nat) (a:Str),z=((i:Int),a)∧i≤l.length∧a.length≤acc.length+4*i∧a++encW dash (k - i) (l.drop i)=acc++encW dash k l) (fun z=>l.length - z.1.toNat) _ ?_ ⟨0,acc,rfl,by omega,by omega,rfl⟩
 rintro _ ⟨i,a,rfl,hi,hal,he⟩
 rcases Nat.lt_or_ge i l.length with h|h
 ·refine .inl ⟨_,h1 i a h (by omega),⟨i+1,_,by rw[zV (by omega) (by omega)];rfl,by omega,?_,?_⟩,by simp only;rw[zV (by omega) (by omega)];omega⟩
  ·have:=zvJ dash (k - i) l[i]
   rw[List.length_append];omega
  ·rw[←he,zzh h,List.append_assoc]
 ·have:i=l.length:=by omega
  subst this
  refine .inr (.inl ⟨_,h2 a,?_⟩)
  rw[←he,List.drop_eq_nil_of_le (Nat.le_refl _)]
  rw[show encW dash (k - l.length) []=[] by rw[encW],List.append_nil]
def zqE(k:Nat)(l:Str):Bool:= !(k==0)&&l==[45]
def QD(l:Str):Nat:=if [45].isPrefixOf l then 2 else 1
theorem zgW(l:Str):QT l=some ((QD l:Nat):Int):=by
 unfold QT QD
 simp only[ze,zaz,Option.bind_some]
 cases List.isPrefixOf [45] l<;>rfl
def Z9(l:Str):Str:=encW (l==[45]) (QD l) l
end Go.Lv.VT

namespace Go.Lv.VT
set_option maxRecDepth 100000
theorem zj4{n:Nat}(h:n<16):qH (hexD n)=true∧hexN (hexD n)=n∧(hexD n==10)=false∧letB (hexD n)=true:=by
 have: ∀n:Nat,n<16→qH (hexD n)=true∧hexN (hexD n)=n∧(hexD n==10)=false∧letB (hexD n)=true:=by decide+kernel
 exact this n h
theorem zhQ{k n:Nat}{c:UInt8}{r:Str}(h:qH c=true):hexes (k+1) n (c::r)=hexes k (16*n+hexN c) r:=by
 rw[hexes,if_pos h]
theorem zuY{n:Nat}(h:n<256)(R:Str):hexes 6 0 (hexS n++32::R)=(n,32::R):=by
 unfold hexS
 by_cases h1:n<16
 ·obtain⟨a,b,_⟩:=zj4 h1
  rw[if_pos h1,List.singleton_append,zhQ a,b,zqM _ _ (32::R) (show qH 32=false by decide)]
  simp
 ·obtain⟨a,b,_⟩:=zj4 (show n / 16<16 by omega)
  obtain⟨a',b',_⟩:=zj4 (show n%16<16 by omega)
  rw[if_neg h1,List.cons_append,List.singleton_append,zhQ a,zhQ a',b,b',zqM _ _ (32::R) (show qH 32=false by decide)]
  rw[show 16*(16*0+n / 16)+n%16=n by omega]
theorem zj5{n:Nat}(h:n<256)(R:Str): ∃d t,hexS n++R=d::t∧qH d=true∧(d==10)=false:=by
 unfold hexS
 by_cases h1:n<16
 ·obtain⟨a,_,b,_⟩:=zj4 h1
  exact⟨_,_,by rw[if_pos h1];rfl,a,b⟩
 ·obtain⟨a,_,b,_⟩:=zj4 (show n / 16<16 by omega)
  exact⟨_,_,by rw[if_neg h1];rfl,a,b⟩
theorem zqb{c:UInt8}(h0:c≠0)(h:c.toNat<128):zd2 c.toNat=[c]:=by
 have hn:c.toNat≠0:=by intro e;exact h0 (UInt8.toNat_inj.1 e)
 unfold zd2
 rw[if_neg (by omega),if_pos h,UInt8.ofNat_toNat]
theorem zpi{r:Str}(h:escS (92::r)=true):zl (92::r)=((zm r).1++(zl (zm r).2).1,(zl (zm r).2).2):=by
 rw[zC,if_neg (by decide),if_pos h]
theorem zsl{c:UInt8}(h0:c≠0)(h:c.toNat<128)(R:Str):zl (escC c++R)=(c::(zl R).1,(zl R).2):=by
 unfold escC
 cases hg:decide (32<c.toNat)&&decide (c.toNat<127)&& !digB c&& !alB c with
 |true=>
  rw[cond_true]
  have hx:qH c=false∧(c==10)=false:=by
   have: ∀n:Nat,n<256→(decide (32<(UInt8.ofNat n).toNat)&&decide ((UInt8.ofNat n).toNat<127)&& !digB (UInt8.ofNat n)&& !alB (UInt8.ofNat n))=true→qH (UInt8.ofNat n)=false∧(UInt8.ofNat n==10)=false:=by decide+kernel
   have:=this c.toNat (UInt8.toNat_lt c)
   rw[UInt8.ofNat_toNat]at this
   exact this hg
  have he:zm (c::R)=([c],R):=by show(if qH c then _ else _)=_;rw[if_neg (by rw[hx.1];decide)]
  rw[show [92,c]++R=92::c::R from rfl,zpi (by unfold escS;rw[show atS (92::c::R) 0=92 from rfl,show atS (92::c::R) 1=c from rfl,hx.2];rfl),he]
  rfl
 |false=>
  rw[cond_false,List.cons_append,List.append_assoc]
  obtain⟨d,t,e,hd,h10⟩:=zj5 (n:=c.toNat) (UInt8.toNat_lt c) ([32]++R)
  have he:zm (hexS c.toNat++([32]++R))=([c],R):=by
   have hh:=zuY (n:=c.toNat) (UInt8.toNat_lt c) R
   rw[show(32::R:Str)=[32]++R from rfl,e]at hh
   rw[e]
   show(if qH d then(zd2 (hexes 6 0 (d::t)).1,unsp (hexes 6 0 (d::t)).2)else _)=_
   rw[if_pos hd,hh,zqb h0 h]
   rfl
  rw[zpi (by rw[e];unfold escS;rw[show atS (92::d::t) 0=92 from rfl,show atS (92::d::t) 1=d from rfl,h10];rfl),he]
  rfl
theorem zqW{c:UInt8}(h: ¬c.toNat<128):letB c=true∧digB c=false:=by
 have: ∀n:Nat,n<256→ ¬(UInt8.ofNat n).toNat<128→letB (UInt8.ofNat n)=true∧digB (UInt8.ofNat n)=false:=by decide+kernel
 have:=this c.toNat (UInt8.toNat_lt c)
 rw[UInt8.ofNat_toNat]at this
 exact this h
theorem zvW{dash:Bool}{k:Nat}{c:UInt8}(h0:c≠0)(hd:dash=true→c.toNat<128)(R:Str):zl (pcW dash k c++R)=(c::(zl R).1,(zl R).2):=by
 unfold pcW
 cases hg:letB c&&(k==0|| !digB c)&& !dash with
 |true=>
  rw[Bool.and_eq_true,Bool.and_eq_true]at hg
  rw[cond_true,List.singleton_append,zC,if_pos hg.1.1]
 |false=>
  rw[cond_false]
  refine zsl h0 ?_ R
  by_cases h:c.toNat<128
  ·exact h
  ·obtain⟨a,b⟩:=zqW h
   rw[a,b,Bool.not_false,Bool.or_true]at hg
   exact hd (by cases dash<;>simp_all)
theorem zsk{dash:Bool}: ∀(k:Nat) (l:Str),Zh l=true→(dash=true→ ∀c∈l,c.toNat<128)→zl (encW dash k l)=(l,[])
 |_,[],_,_=>by rw[encW,qz]
 |k,c::r,h,hd=>by
  unfold Zh at h
  rw[List.all_cons,Bool.and_eq_true]at h
  rw[encW,zvW (by rintro rfl;exact absurd h.1 (by decide)) (fun e=>hd e c (List.mem_cons_self ..)),zsk (k - 1) r h.2 (fun e x hx=>hd e x (List.mem_cons_of_mem _ hx))]
theorem zvV{l:Str}(h:Zh l=true):zl (Z9 l)=(l,[]):=by
 refine zsk _ _ h (fun e c hc=> ?_)
 rw[beq_iff_eq.1 e,List.mem_singleton]at hc
 subst hc;decide
theorem zjd{dash:Bool}{k:Nat}(hk:0<k)(c:UInt8)(R:Str): ∃d t,pcW dash k c++R=d::t∧(d=92∧escS (d::t)=true∨(d=c∧dash=false∧letB d=true∧digB d=false∧t=R)):=by
 have hk0:(k==0)=false:=by rw[beq_eq_false_iff_ne];omega
 unfold pcW
 rw[hk0,Bool.false_or]
 cases hg:letB c&& !digB c&& !dash with
 |true=>
  rw[Bool.and_eq_true,Bool.and_eq_true,Bool.not_eq_true',Bool.not_eq_true']at hg
  exact⟨c,R,rfl, .inr ⟨rfl,hg.2,hg.1.1,hg.1.2,rfl⟩⟩
 |false=>
  rw[cond_false]
  unfold escC
  cases hg2:decide (32<c.toNat)&&decide (c.toNat<127)&& !digB c&& !alB c with
  |true=>
   refine⟨92,c::R,rfl, .inl ⟨rfl,?_⟩⟩
   have:c≠10:=by rintro rfl;revert hg2;decide
   unfold escS
   rw[show atS (92::c::R) 1=c from rfl,beq_eq_false_iff_ne.2 this];rfl
  |false=>
   obtain⟨d,t,e,hd,h10⟩:=zj5 (n:=c.toNat) (UInt8.toNat_lt c) ([32]++R)
   refine⟨92,_,by rw[cond_false,List.cons_append,List.append_assoc], .inl ⟨rfl,?_⟩⟩
   rw[e];unfold escS
   rw[show atS (92::d::t) 1=d from rfl,h10];rfl
theorem zo7{d:UInt8}(h:letB d=true)(h2:digB d=false):fstB d=true∨d=45:=by
 unfold letB at h
 rw[h2,Bool.or_false,Bool.or_eq_true,beq_iff_eq]at h
 exact h
theorem zyF{d:UInt8}{t:Str}(hd:d=92)(h:escS (d::t)=true):nmS (d::t)=true:=by
 subst hd
 unfold nmS
 rw[show atS (92::t) 0=92 from rfl,if_neg (by decide),h,Bool.or_true]
theorem zdR{l:Str}(h:l≠[]):nmS (Z9 l)=true:=by
 cases l with
 |nil=>exact absurd rfl h
 |cons c r=>
  unfold Z9 encW
  obtain⟨d,t,e,hd⟩:=zjd (dash:=(c::r:Str)==[45]) (k:=QD (c::r)) (by unfold QD;split<;>omega) c (encW ((c::r:Str)==[45]) (QD (c::r) - 1) r)
  rw[e]
  rcases hd with⟨h1,h2⟩|⟨rfl,h2,h3,h4,h5⟩
  ·exact zyF h1 h2
  ·rcases zo7 h3 h4 with h6|rfl
   ·by_cases h45:d=45
    ·subst h45;exact absurd h6 (by decide)
    ·unfold nmS
     rw[show atS (d::t) 0=d from rfl,if_neg (by rw[beq_iff_eq];exact h45),h6,Bool.true_or]
   ·have hr:r≠[]:=by rintro rfl;exact absurd h2 (by decide)
    cases r with
    |nil=>exact absurd rfl hr
    |cons c2 r2=>
     have hf:QD (45::c2::r2)=2:=rfl
     rw[hf]at h5
     obtain⟨d2,t2,e2,hd2⟩:=zjd (dash:=(45::c2::r2:Str)==[45]) (k:=2 - 1) (by omega) c2 (encW ((45::c2::r2:Str)==[45]) (2 - 1 - 1) r2)
     have ht:t=d2::t2:=by rw[h5,encW,e2]
     rw[ht]
     unfold nmS
     rw[show atS (45::d2::t2) 0=45 from rfl,if_pos (show((45:UInt8)==45)=true from rfl),show atS (45::d2::t2) 1=d2 from rfl,show(45::d2::t2:Str).drop 1=d2::t2 from rfl]
     rcases hd2 with⟨_,h7⟩|⟨_,_,h8,h9,_⟩
     ·rw[h7,Bool.or_true]
     ·rcases zo7 h8 h9 with h10|rfl
      ·rw[h10];rfl
      ·simp
end Go.Lv.VT

namespace Go.Lv.VT
set_option maxRecDepth 100000
theorem zbg(m:UInt8):zW m []=(some [],[]):=by rw[zW]
theorem Qa(m c:UInt8)(r:Str):zW m (c::r)=if c==m then(some [],r)
  else if c==10 then(none,c::r)
  else if c==92 then
   (if r.isEmpty then(some [],[])
   else if atS r 0==10 then zW m (r.drop 1)
   else((zW m (zm r).2).1.map ((zm r).1++ ·),(zW m (zm r).2).2))
  else((zW m r).1.map (c:: ·),(zW m r).2):=by rw[zW]
theorem zfo(m:UInt8)(l:Str):(zW m l).2<:+l:=by
 match l with
 |[]=>rw[zbg];exact List.suffix_refl _
 |c::r=>
  rw[Qa]
  have hr:=List.suffix_cons c r
  split
  ·exact hr
  ·split
   ·exact List.suffix_refl _
   ·split
    ·split
     ·exact List.nil_suffix
     ·split
      ·exact(zfo m (r.drop 1)).trans ((List.drop_suffix 1 r).trans hr)
      ·have:=zD r
       exact(zfo m (zm r).2).trans ((ZE r).trans hr)
    ·exact(zfo m r).trans hr
termination_by l.length
decreasing_by
 all_goals first|(have:=zD r;simp only[List.length_cons];omega)|(simp only[List.length_cons,List.length_drop];omega)
theorem zq0(a b:Str)(x:Option Str):(x.map (b++ ·)).map (a++ ·)=x.map ((a++b)++ ·):=by
 cases x with
 |none=>rfl
 |some t=>show some (a++(b++t))=some ((a++b)++t);rw[List.append_assoc]
theorem zsa(a:Str)(b:UInt8)(x:Option Str):(x.map (b:: ·)).map (a++ ·)=x.map ((a++[b])++ ·):=zq0 a [b] x
def zf1:Option Str→zb
 |some t=>⟨5,t,0,[],false⟩
 |none=>⟨6,[],0,[],false⟩
theorem zz5{s q:Str}{m:UInt8}(hs:s.length≤big)(hm:m::q<:+s):Z7 (sr s (m::q))=some (zf1 (zW m q).1,sr s (zW m q).2):=by
 have hb:big=4194304:=rfl
 have hq:=zan hm
 unfold Z7
 simp only[ze,zaW hs hm,Option.bind_some,zgp,zgu hs hm]
 let res:LX (za×zb×List UInt8) (zb×za):=match(zW m q).1 with
  |some t=> .out (sr s (zW m q).2,⟨0,[],0,[],false⟩,t)
  |none=> .ret (⟨6,[],0,[],false⟩,sr s (zW m q).2)
 rw[zdO (r:=res)]
 ·show LX.go res _=_
  cases h:(zW m q).1 with
  |some t=>simp only[res,h];rfl
  |none=>simp only[res,h];rfl
 refine qN (fun z=> ∃(p acc:Str),z=(sr s p,⟨0,[],0,[],false⟩,acc)∧p<:+s∧acc.length+4*p.length≤4*s.length∧(zW m q).1=(zW m p).1.map (acc++ ·)∧(zW m q).2=(zW m p).2) (fun z=>s.length - z.1.at_.toNat) _ ?_
  ⟨q,[],rfl,hq,by have:=hq.length_le;rw[List.length_nil];omega,by simp,rfl⟩
 rintro _ ⟨p,acc,rfl,hp,hl,he1,he2⟩
 simp only[zaW hs hp,Option.bind_some,zkE,zzX,zBj]
 cases p with
 |nil=>
  refine .inr (.inl ⟨_,rfl,?_⟩)
  rw[zbg]at he1 he2
  simp only[res,he1,he2,Option.map_some,List.append_nil]
 |cons c t=>
  have hlen:=hp.length_le
  rw[List.length_cons]at hlen hl
  have ht:=zan hp
  rw[Qa]at he1 he2
  rw[show(c::t).isEmpty=false from rfl,cond_false,zgp,show((c.toNat:Int)==(m.toNat:Int))=(c==m)from zmJ c m,show atS (c::t) 0=c from rfl,zgu hs hp]
  have mono: ∀u:Str,u.length≤t.length→u<:+s→s.length - beh s u<s.length - beh s (c::t):=by
   intro u hu hus
   unfold beh;rw[List.length_cons];omega
  cases hcm:c==m with
  |true=>
   rw[hcm,if_pos rfl]at he1 he2
   refine .inr (.inl ⟨_,by rw[cond_true],?_⟩)
   simp only[res,he1,he2,Option.map_some,List.append_nil]
  |false=>
   rw[hcm,if_neg (by decide)]at he1 he2
   rw[cond_false]
   cases h10:c==10 with
   |true=>
    rw[h10,if_pos rfl]at he1 he2
    refine .inr (.inr ⟨_,by rw[cond_true],?_⟩)
    simp only[res,he1,he2,Option.map_none]
   |false=>
    rw[h10,if_neg (by decide)]at he1 he2
    rw[cond_false]
    cases h92:c==92 with
    |false=>
     rw[h92,if_neg (by decide)]at he1 he2
     simp only[zn,cond_false,Option.bind_some,Bool.and_false,zgA]
     rw[zw (zaI (by omega))]
     exact .inl ⟨_,rfl,⟨t,acc++[c],rfl,ht,by rw[List.length_append,List.length_singleton];omega,by rw[he1,zsa],he2⟩,mono t (by omega) ht⟩
    |true=>
     rw[h92,if_pos rfl]at he1 he2
     simp only[zn,cond_true,zpE hs hp,Option.bind_some,Bool.and_true]
     have hpk:pk (c::t) 1=pk t 0:=rfl
     rw[hpk,zkE]
     cases t with
     |nil=>
      rw[show([]:Str).isEmpty=true from rfl,if_pos rfl]at he1 he2
      have hbe:beh s [c]=s.length - 1:=rfl
      have h2:(if((s.length:Int)<w64 ((beh s [c]:Int)+2))then(s.length:Int)else w64 ((beh s [c]:Int)+2))=((beh s []:Nat):Int):=by
       rw[zV (by omega) (by omega),if_pos (by omega)]
       unfold beh;rw[List.length_nil];omega
      refine .inl ⟨(sr s [],⟨0,[],0,[],false⟩,acc),?_,⟨[],acc,rfl,List.nil_suffix,by rw[List.length_nil];omega,by rw[he1,zbg],by rw[he2,zbg]⟩,mono [] (by simp) List.nil_suffix⟩
      simp only[List.isEmpty_nil,cond_true,Bool.not_true,cond_false,Option.bind_some]
      rw[h2]
     |cons d u=>
      rw[show(d::u).isEmpty=false from rfl,if_neg (by decide)]at he1 he2
      simp only[show(d::u).isEmpty=false from rfl,Bool.not_false,cond_true,cond_false,Option.bind_some,zzX]
      cases hd:atS (d::u) 0==10 with
      |true=>
       rw[hd,if_pos rfl]at he1 he2
       have hu:=zan ht
       rw[List.length_cons]at hlen hl
       have hbe:beh s (c::d::u)=s.length - (u.length+1+1):=by unfold beh;rw[List.length_cons,List.length_cons]
       have h2:(if((s.length:Int)<w64 ((beh s (c::d::u):Int)+2))then(s.length:Int)else w64 ((beh s (c::d::u):Int)+2))=((beh s u:Nat):Int):=by
        rw[zV (by omega) (by omega),if_neg (by omega)]
        unfold beh;rw[List.length_cons,List.length_cons];omega
       refine .inl ⟨(sr s u,⟨0,[],0,[],false⟩,acc),?_,⟨u,acc,rfl,hu,by omega,he1,he2⟩,mono u (by rw[List.length_cons];omega) hu⟩
       simp only[cond_true]
       rw[h2]
      |false=>
       rw[hd,if_neg (by decide)]at he1 he2
       have h4:=zgU (d::u)
       have h5:=zD (d::u)
       refine .inl ⟨(sr s (zm (d::u)).2,⟨0,[],0,[],false⟩,acc++(zm (d::u)).1),?_,⟨_,_,rfl,(ZE _).trans ht,by rw[List.length_append];omega,by rw[he1,zq0],he2⟩,mono _ h5 ((ZE _).trans ht)⟩
       simp only[cond_false,zjY hs hp (show acc.length≤1000000000 by omega),Option.bind_some]
end Go.Lv.VT

namespace Go.Lv.VT
set_option maxRecDepth 100000
theorem zBp{n:Nat}(h0:n≠0)(h:n<16777216):ZI (w32 (n:Int))=some (zd2 n):=by
 have a1:Ze 0 1 1=true:=zaI (by omega)
 have a2:Ze 0 2 1=true:=zaI (by omega)
 have a3:Ze 0 3 1=true:=zaI (by omega)
 have a4:Ze 0 4 1=true:=zaI (by omega)
 have a80:(128+n%64)<256:=by omega
 have m80:(128+n / 64%64)<256:=by omega
 have k80:(128+n / 4096%64)<256:=by omega
 unfold ZI ZO zd2
 simp only[zfa (show n<2147483648 by omega),zsJ (show n<2147483648 by omega),ze,shr6,zBs,zBt,zr8,Zm a80,Zm m80,Zm k80,Option.bind_some]
 by_cases h1:n<128
 ·rw[decide_eq_true (by omega),cond_true,zk8,Zm (by omega),Option.bind_some,zw a1,if_neg (by omega),if_pos h1,Nat.mod_eq_of_lt (by omega)]
 ·rw[decide_eq_false (by omega),cond_false]
  by_cases h2:n<2048
  ·rw[decide_eq_true (by omega),cond_true,zBb (by omega),Zm (by omega)]
   simp only[Option.bind_some]
   rw[zw a2,if_neg (by omega),if_neg (by omega),if_pos h2]
   rfl
  ·rw[decide_eq_false (by omega),cond_false]
   by_cases h3:n<55296
   ·rw[decide_eq_true (by omega),cond_true,zg]
    simp only[cond_true]
    rw[zxN (by omega),Zm (by omega)]
    simp only[Option.bind_some]
    rw[zw a3,if_neg (by omega),if_neg (by omega),if_neg (by omega),if_pos (by omega)]
    rfl
   ·rw[decide_eq_false (by omega),cond_false,zg]
    simp only[zyq]
    by_cases h4:57343<n∧n<65536
    ·rw[decide_eq_true (by omega),decide_eq_true (by omega),Bool.and_true,cond_true,zxN (by omega),Zm (by omega)]
     simp only[Option.bind_some]
     rw[zw a3,if_neg (by omega),if_neg (by omega),if_neg (by omega),if_pos (by omega)]
     rfl
    ·rw[show(decide ((57343:Int)<(n:Int))&&decide ((n:Int)≤65535))=false by rw[Bool.and_eq_false_iff];simp only[decide_eq_false_iff_not];omega,cond_false]
     by_cases h5:65535<n∧n≤1114111
     ·rw[decide_eq_true (by omega),decide_eq_true (by omega),Bool.and_true,cond_true,zBc (by omega),Zm (by omega)]
      simp only[Option.bind_some]
      rw[zw a4,if_neg (by omega),if_neg (by omega),if_neg (by omega),if_neg (by omega)]
      rfl
     ·rw[show(decide ((n:Int)>65535)&&decide ((n:Int)≤1114111))=false by rw[Bool.and_eq_false_iff];simp only[decide_eq_false_iff_not];omega,cond_false,zw a3,if_pos (by omega)]
      rfl
theorem zmj:ZI 65533=some zpa:=by
 have h:=zBp (n:=65533) (by omega) (by omega)
 rw[zfa (by omega)]at h
 exact h
theorem zuI{s l:Str}{c:UInt8}(hs:s.length≤big)(hr:c::l<:+s):
  Zz (sr s (c::l))=some (sr s (zm l).2,(zm l).1):=by
 have hl:=zan hr
 unfold Zz
 simp only[zgu hs hr,ze,zaW hs hl,Option.bind_some,zkE]
 cases l with
 |nil=>
  rw[show([]:Str).isEmpty=true from rfl,cond_true,zmj]
  rfl
 |cons d r=>
  rw[show(d::r).isEmpty=false from rfl,cond_false,zx3]
  simp only[Option.bind_some,zi4]
  cases hx:qH (atS (d::r) 0)with
  |false=>
   rw[Bool.not_false,cond_true,zgp,zgA]
   simp only[Option.bind_some,zgu hs hl]
   rw[zw (zaI (n:=0) (by omega))]
   have:zm (d::r)=([d],r):=by show(if qH d then _ else _)=_;rw[if_neg (by rw[show qH d=false from hx];decide)]
   rw[this]
  |true=>
   rw[Bool.not_true,cond_false]
   have he:zm (d::r)=(zd2 (hexes 6 0 (d::r)).1,unsp (hexes 6 0 (d::r)).2):=by show(if qH d then _ else _)=_;rw[if_pos (show qH d=true from hx)]
   rw[he]
   rw[qO (zrP (l:=d::r) hl (fun n i q hq hn hi=> ?_))]
   ·have hq:(hexes 6 0 (d::r)).2<:+s:=(zg1 6 0 _).trans hl
    have hlt:=zm6 6 0 (d::r)
    rw[show 16 ^ 6*(0+1)=16777216 from rfl]at hlt
    simp only[zaW hs hq,Option.bind_some,zkV]
    have hj:(bif spB (atS (hexes 6 0 (d::r)).2 0)then some (LX.out (((hexes 6 0 (d::r)).1:Int),(⟨s,w64 ((beh s (hexes 6 0 (d::r)).2:Int)+1)⟩:za)))else some (LX.out (((hexes 6 0 (d::r)).1:Int),sr s (hexes 6 0 (d::r)).2)):Option (LX (Int×za) (za×List UInt8)))
      =some (LX.out (((hexes 6 0 (d::r)).1:Int),sr s (unsp (hexes 6 0 (d::r)).2))):=by
     cases hh:(hexes 6 0 (d::r)).2 with
     |nil=>rfl
     |cons e t=>
      rw[hh]at hq
      rw[show atS (e::t) 0=e from rfl,zgu hs hq]
      show _=some (LX.out (_,sr s (if spB e then t else e::t)))
      cases spB e<;>rfl
    rw[hj,zg]
    simp only
    by_cases h0:(hexes 6 0 (d::r)).1=0
    ·rw[h0,show((((0:Nat):Int))==0)=true from rfl,cond_true,zg]
     simp only[zfa (show 65533<2147483648 by omega),show w32 (65533:Int)=65533 from zfa (n:=65533) (by omega),zmj,Option.bind_some]
     rfl
    ·rw[show(((hexes 6 0 (d::r)).1:Int)==0)=false by rw[beq_eq_false_iff_ne];omega,cond_false,zg]
     simp only[zBp h0 hlt,Option.bind_some]
   ·simp only[zaW hs hq,Option.bind_some,zx3,zi4]
    have hb6:decide ((i:Int)<6)=decide (i<6):=by rw[decide_eq_decide];omega
    rw[hb6]
    cases decide (i<6)with
    |false=>rfl
    |true=>
     rw[cond_true,Bool.true_and]
     cases hx2:qH (atS q 0)with
     |false=>rfl
     |true=>
      cases q with
      |nil=>exact absurd hx2 (by decide)
      |cons e t=>
       have hI:hexI (atS (e::t) 0)=(hexN (atS (e::t) 0):Int):=by unfold hexI;rw[if_pos hx2]
       rw[hI,zyM hn (zm5 hx2),zgu hs hq,zV (by omega) (by omega)]
       rfl
theorem zgy:badS []=[]:=by rw[badS]
theorem zed(c:UInt8)(r:Str):badS (c::r)=if c==41 then r else if escS (c::r)then badS (zm r).2 else badS r:=by rw[badS]
theorem zmE(l:Str):badS l<:+l:=by
 match l with
 |[]=>rw[zgy];exact List.suffix_refl _
 |c::r=>
  rw[zed]
  have hr:=List.suffix_cons c r
  split
  ·exact hr
  ·split
   ·have:=zD r
    exact(zmE (zm r).2).trans ((ZE r).trans hr)
   ·exact(zmE r).trans hr
termination_by l.length
decreasing_by
 all_goals first|(have:=zD r;simp only[List.length_cons];omega)|(simp only[List.length_cons];omega)
theorem zAS{s t:Str}{c:UInt8}(hs:s.length≤big)(h:c::t<:+s):geti s (w64 ((beh s t:Int) - 1))=some c:=by
 have hb:big=4194304:=rfl
 have h1:=h.length_le
 rw[List.length_cons]at h1
 have hd:=zfe h
 have e1:beh s t=beh s (c::t)+1:=by unfold beh;rw[List.length_cons];omega
 have hlt:beh s (c::t)<s.length:=by unfold beh;rw[List.length_cons];omega
 rw[zV (by omega) (by omega),show(beh s t:Int) - 1=((beh s (c::t):Nat):Int) by omega,zbB hlt]
 rw[List.drop_eq_getElem_cons hlt]at hd
 injection hd with hd _
 rw[hd]
theorem badR{s q:Str}(hs:s.length≤big)(hq:q<:+s):ZG (sr s q)=some (⟨8,[],0,[],false⟩,sr s (badS q)):=by
 unfold ZG
 refine zkj ?_
 refine qN (fun z=> ∃(p:Str),z=(sr s p,(⟨0,[],0,[],false⟩:zb))∧p<:+s∧badS q=badS p) (fun z=>s.length - z.1.at_.toNat) _ ?_ ⟨q,rfl,hq,rfl⟩
 rintro _ ⟨p,rfl,hp,he⟩
 simp only[ze,zaW hs hp,Option.bind_some,zkE]
 cases p with
 |nil=>exact .inr (.inr ⟨_,rfl,by rw[he,zgy]⟩)
 |cons c t=>
  have hlen:=hp.length_le
  rw[List.length_cons]at hlen
  have ht:=zan hp
  have mono: ∀u:Str,u.length≤t.length→u<:+s→s.length - beh s u<s.length - beh s (c::t):=by
   intro u hu hus
   unfold beh;rw[List.length_cons];omega
  rw[show(c::t).isEmpty=false from rfl,cond_false,zmV hs hp]
  rw[zed]at he
  simp only[Option.bind_some]
  cases hesc:escS (c::t)with
  |true=>
   have h92:(c==41)=false:=by
    unfold escS at hesc
    rw[Bool.and_eq_true,beq_iff_eq]at hesc
    rw[show c=92 from hesc.1];decide
   rw[hesc,h92,if_neg (by decide),if_pos rfl]at he
   rw[cond_true,zuI hs hp]
   exact .inl ⟨_,rfl,⟨_,rfl,(ZE t).trans ht,he⟩,mono _ (zD t) ((ZE t).trans ht)⟩
  |false=>
   rw[cond_false,zgu hs hp,zAS hs hp]
   simp only[Option.bind_some]
   rw[show((c.toNat:Int)==41)=(c==41)from zmJ c 41]
   rw[hesc,if_neg (by decide: ¬(false=true))]at he
   cases h41:c==41 with
   |true=>
    rw[h41,if_pos rfl]at he
    exact .inr (.inr ⟨_,by rw[cond_true],by rw[he]⟩)
   |false=>
    rw[h41,if_neg (by decide)]at he
    exact .inl ⟨_,by rw[cond_false],⟨t,rfl,ht,he⟩,mono t (Nat.le_refl _) ht⟩
end Go.Lv.VT

namespace Go.Lv.VT
set_option maxRecDepth 100000
theorem zfu:urlS []=(some [],[]):=by rw[urlS]
theorem zby(c:UInt8)(r:Str):urlS (c::r)=if c==41 then(some [],r)
  else if spB c then(match past spB r with
   |[]=>(some [],[])
   |d::r'=>if d==41 then(some [],r')else(none,badS (d::r')))
  else if c==34||c==39||c==40||unB c||c==92&& !escS (c::r)then(none,badS (c::r))
  else if c==92 then((urlS (zm r).2).1.map ((zm r).1++ ·),(urlS (zm r).2).2)
  else((urlS r).1.map (c:: ·),(urlS r).2):=by rw[urlS];cases past spB r<;>rfl
theorem zrv(l:Str):(urlS l).2<:+l:=by
 match l with
 |[]=>rw[zfu];exact List.suffix_refl _
 |c::r=>
  rw[zby]
  have hr:=List.suffix_cons c r
  split
  ·exact hr
  ·split
   ·have hp:=(zfm spB r).trans hr
    cases hq:past spB r with
    |nil=>exact List.nil_suffix
    |cons d r'=>
     rw[hq]at hp
     simp only
     split
     ·exact(List.suffix_cons d r').trans hp
     ·exact(zmE _).trans hp
   ·split
    ·exact zmE _
    ·split
     ·have:=zD r
      exact(zrv (zm r).2).trans ((ZE r).trans hr)
     ·exact(zrv r).trans hr
termination_by l.length
decreasing_by
 all_goals first|(have:=zD r;simp only[List.length_cons];omega)|(simp only[List.length_cons];omega)
def zf5:Option Str→zb
 |some t=>⟨7,t,0,[],false⟩
 |none=>⟨8,[],0,[],false⟩
theorem zAl(c:UInt8): ∃y,zn (!(bif bif bif bif (c.toNat:Int)==34 then true else(c.toNat:Int)==39 then true else(c.toNat:Int)==40 then true else decide ((c.toNat:Int)≤8)then true else(c.toNat:Int)==11)) (Zk ((c.toNat:Int),14,31)) (default:Bool)=some y∧
  (bif bif bif bif bif bif (c.toNat:Int)==34 then true else(c.toNat:Int)==39 then true else(c.toNat:Int)==40 then true else decide ((c.toNat:Int)≤8)then true else(c.toNat:Int)==11 then true else y then true else(c.toNat:Int)==127)=(c==34||c==39||c==40||unB c):=by
 have key: ∀n:Nat,n<256→((zn (!(bif bif bif bif (n:Int)==34 then true else(n:Int)==39 then true else(n:Int)==40 then true else decide ((n:Int)≤8)then true else(n:Int)==11)) (Zk ((n:Int),14,31)) (default:Bool)).elim false fun y=>
  (bif bif bif bif bif bif (n:Int)==34 then true else(n:Int)==39 then true else(n:Int)==40 then true else decide ((n:Int)≤8)then true else(n:Int)==11 then true else y then true else(n:Int)==127)==(UInt8.ofNat n==34||UInt8.ofNat n==39||UInt8.ofNat n==40||unB (UInt8.ofNat n)))=true:=by decide+kernel
 have h:=key c.toNat (UInt8.toNat_lt c)
 rw[UInt8.ofNat_toNat]at h
 cases hc:zn (!(bif bif bif bif (c.toNat:Int)==34 then true else(c.toNat:Int)==39 then true else(c.toNat:Int)==40 then true else decide ((c.toNat:Int)≤8)then true else(c.toNat:Int)==11)) (Zk ((c.toNat:Int),14,31)) (default:Bool)with
 |none=>rw[hc]at h;cases h
 |some y=>
  rw[hc]at h
  exact⟨y,rfl,beq_iff_eq.1 h⟩
theorem zz1(c:UInt8)(t:Str):(pk (c::t) 0== -1)=false:=by rw[zkE];rfl
theorem urlR{s q0:Str}(hs:s.length≤big)(hq0:q0<:+s):qX (sr s q0)=some (zf5 (urlS (past spB q0)).1,sr s (urlS (past spB q0)).2):=by
 have hb:big=4194304:=rfl
 unfold qX
 rw[zsH hs hq0]
 simp only[ze,Option.bind_some]
 have hq:=zdZ spB hq0
 generalize past spB q0=q at hq ⊢
 refine zkj ?_
 refine qN (fun z=> ∃(p acc:Str),z=(sr s p,(⟨0,[],0,[],false⟩:zb),acc)∧p<:+s∧acc.length+4*p.length≤4*s.length∧(urlS q).1=(urlS p).1.map (acc++ ·)∧(urlS q).2=(urlS p).2) (fun z=>s.length - z.1.at_.toNat) _ ?_
  ⟨q,[],rfl,hq,by have:=hq.length_le;rw[List.length_nil];omega,by simp,rfl⟩
 rintro _ ⟨p,acc,rfl,hp,hl,he1,he2⟩
 simp only[zaW hs hp,Option.bind_some,zkV]
 cases p with
 |nil=>
  refine .inr (.inr ⟨_,rfl,?_⟩)
  rw[zfu]at he1 he2
  rw[he1,he2]
  simp only[Option.map_some,List.append_nil,zf5]
 |cons c t=>
  have hlen:=hp.length_le
  rw[List.length_cons]at hlen hl
  have ht:=zan hp
  have mono: ∀u:Str,u.length≤t.length→u<:+s→s.length - beh s u<s.length - beh s (c::t):=by
   intro u hu hus
   unfold beh;rw[List.length_cons];omega
  rw[zby]at he1 he2
  rw[show atS (c::t) 0=c from rfl]
  cases hsp:spB c with
  |true=>
   have h41:(c==41)=false:=by rw[beq_eq_false_iff_ne];rintro rfl;exact absurd hsp (by decide)
   rw[h41,hsp,if_neg (by decide),if_pos rfl]at he1 he2
   have hps:past spB (c::t)=past spB t:=by rw[past,if_pos hsp]
   have hpt:past spB t<:+s:=zdZ spB ht
   rw[cond_true,zsH hs hp,hps]
   simp only[Option.bind_some,zaW hs hpt]
   cases hpp:past spB t with
   |nil=>
    rw[hpp]at he1 he2
    refine .inr (.inr ⟨_,rfl,?_⟩)
    simp only at he1 he2
    rw[he1,he2]
    simp only[Option.map_some,List.append_nil,zf5]
   |cons d r'=>
    rw[hpp]at he1 he2 hpt
    simp only at he1 he2
    unfold bne
    rw[zzY,zz1,show atS (d::r') 0=d from rfl]
    cases hd:d==41 with
    |true=>
     rw[hd,if_pos rfl]at he1 he2
     refine .inr (.inr ⟨_,?_,rfl⟩)
     simp only[Bool.not_true,cond_false,zg,zz1,zzY,show atS (d::r') 0=d from rfl,hd,cond_true,zgu hs hpt]
     rw[he1,he2]
     simp only[Option.map_some,List.append_nil,zf5]
    |false=>
     rw[hd,if_neg (by decide)]at he1 he2
     refine .inr (.inr ⟨_,?_,rfl⟩)
     simp only[Bool.not_false,cond_true,badR hs hpt,Option.bind_some,zo0]
     rw[he1,he2]
     rfl
  |false=>
   rw[cond_false,zg]
   simp only[zz1,zzY,show atS (c::t) 0=c from rfl,cond_false,zgu hs hp]
   cases h41:c==41 with
   |true=>
    rw[h41,if_pos rfl]at he1 he2
    refine .inr (.inr ⟨_,by rw[cond_true],?_⟩)
    rw[he1,he2]
    simp only[Option.map_some,List.append_nil,zf5]
   |false=>
    rw[h41,if_neg (by decide),hsp,if_neg (by decide)]at he1 he2
    rw[cond_false]
    obtain⟨y,hy1,hy2⟩:=zAl c
    rw[zgp,hy1]
    simp only[Option.bind_some]
    rw[hy2]
    cases hun:(c==34||c==39||c==40||unB c)with
    |true=>
     rw[hun,Bool.true_or,if_pos rfl]at he1 he2
     refine .inr (.inr ⟨_,?_,rfl⟩)
     rw[cond_true,badR hs hp]
     simp only[Option.bind_some]
     rw[he1,he2];rfl
    |false=>
     rw[hun,Bool.false_or]at he1 he2
     rw[cond_false]
     unfold bne
     rw[show((c.toNat:Int)==92)=(c==92)from zmJ c 92]
     cases h92:c==92 with
     |false=>
      rw[h92,Bool.false_and,if_neg (by decide),if_neg (by decide)]at he1 he2
      rw[Bool.not_false,cond_true,zgA]
      simp only[Option.bind_some]
      rw[zw (zaI (by omega))]
      exact .inl ⟨_,rfl,⟨t,acc++[c],rfl,ht,by rw[List.length_append,List.length_singleton];omega,by rw[he1,zsa],he2⟩,mono t (Nat.le_refl _) ht⟩
     |true=>
      rw[h92,Bool.true_and]at he1 he2
      rw[Bool.not_true,cond_false,zmV hs hp]
      simp only[Option.bind_some]
      cases hesc:escS (c::t)with
      |true=>
       rw[hesc,Bool.not_true,if_neg (by decide),if_pos rfl]at he1 he2
       have h4:=zgU t
       have h5:=zD t
       refine .inl ⟨(sr s (zm t).2,⟨0,[],0,[],false⟩,acc++(zm t).1),?_,⟨_,_,rfl,(ZE _).trans ht,by rw[List.length_append];omega,by rw[he1,zq0],he2⟩,mono _ h5 ((ZE _).trans ht)⟩
       simp only[cond_true,zjY hs hp (show acc.length≤1000000000 by omega),Option.bind_some]
      |false=>
       rw[hesc,Bool.not_false,if_pos rfl]at he1 he2
       refine .inr (.inr ⟨_,?_,rfl⟩)
       rw[cond_false,badR hs hp]
       simp only[Option.bind_some]
       rw[he1,he2];rfl
end Go.Lv.VT

namespace Go.Lv.VT
set_option maxRecDepth 100000
def hdB(b:UInt8):Bool:=b==45||fstB b||b==92
theorem zto{q:Str}(h:nmS q=true):hdB (atS q 0)=true:=by
 unfold nmS at h
 unfold hdB
 cases h45:atS q 0==45 with
 |true=>rfl
 |false=>
  rw[h45,if_neg (by decide),Bool.or_eq_true]at h
  rcases h with h|h
  ·rw[h];rfl
  ·unfold escS at h
   rw[Bool.and_eq_true]at h
   rw[h.1,Bool.or_true]
theorem zoT{b:UInt8}(h:hdB b=true):spB b=false∧(b==34)=false∧(b==39)=false∧(b==35)=false∧(b==64)=false∧(b==47)=false∧(b==60)=false∧(b==43)=false∧(b==46)=false∧digB b=false∧b≠0:=by
 have: ∀n:Nat,n<256→hdB (UInt8.ofNat n)=true→spB (UInt8.ofNat n)=false∧(UInt8.ofNat n==34)=false∧(UInt8.ofNat n==39)=false∧(UInt8.ofNat n==35)=false∧(UInt8.ofNat n==64)=false∧(UInt8.ofNat n==47)=false∧(UInt8.ofNat n==60)=false∧(UInt8.ofNat n==43)=false∧(UInt8.ofNat n==46)=false∧digB (UInt8.ofNat n)=false∧UInt8.ofNat n≠0:=by decide+kernel
 have:=this b.toNat (UInt8.toNat_lt b)
 rw[UInt8.ofNat_toNat]at this
 exact this h
theorem zA6{q:Str}(h:nmS q=true):nbS q=false:=by
 obtain⟨_,_,_,_,_,_,_,h43,h46,hdg,_⟩:=zoT (zto h)
 unfold nbS unsign zaE
 rw[h43,Bool.false_or]
 cases h45:atS q 0==45 with
 |false=>
  rw[if_neg (by decide)]
  unfold undot
  rw[h46,if_neg (by decide),hdg]
 |true=>
  rw[if_pos rfl]
  unfold nmS at h
  rw[h45,if_pos rfl]at h
  have h1:hdB (atS q 1)=true:=by
   unfold hdB
   cases hf:fstB (atS q 1)with
   |true=>simp
   |false=>
    cases h4:atS q 1==45 with
    |true=>rfl
    |false=>
     rw[hf,h4,Bool.false_or,Bool.false_or]at h
     unfold escS at h
     rw[Bool.and_eq_true,Qe]at h
     rw[h.1];rfl
  obtain⟨_,_,_,_,_,_,_,_,g46,gdg,_⟩:=zoT h1
  unfold undot
  rw[Qe,g46,if_neg (by decide),Qe,gdg]
theorem zAx{s r:Str}:(decide ((0:Int)≤(beh s r:Int))&&decide ((beh s r:Int)≤(s.length:Int)))=true:=by
 have:=zee s r
 rw[decide_eq_true (by omega),decide_eq_true (by omega)];rfl
theorem zuD{s r:Str}(hr:r<:+s):List.drop ((beh s r:Int)).toNat s=r:=by rw[Int.toNat_natCast,zfe hr]
theorem zpG{a b:UInt8}{m t:Str}(h:(b==a)=false):(a::m).isPrefixOf (b::t)=false:=by
 rw[List.isPrefixOf]
 have:(a==b)=false:=by rw[beq_eq_false_iff_ne]at h ⊢;exact fun e=>h e.symm
 rw[this];rfl
theorem zz3{a:UInt8}{m q:Str}(h0:a≠0)(h:(atS q 0==a)=false):(a::m).isPrefixOf q=false:=by
 cases q with
 |nil=>rfl
 |cons b t=>exact zpG h
end Go.Lv.VT

namespace Go.Lv.VT
set_option maxRecDepth 100000
def capF(cap:Nat):Nat→Str→Nat
 |n,[]=>n
 |n,c::r=>capF cap (min cap (decN n c)) r
theorem zor(cap:Nat): ∀(l:Str) (n:Nat) (c:UInt8),capF cap n (l++[c])=min cap (decN (capF cap n l) c)
 |[],_,_=>rfl
 |d::l,n,c=>by
  show capF cap (min cap (decN n d)) (l++[c])=_
  rw[zor cap l]
  rfl
theorem zmN(cap:Nat): ∀(l:Str) (n:Nat),n≤cap→capF cap n l≤cap
 |[],_,h=>h
 |c::l,n,_=>zmN cap l _ (Nat.min_le_left ..)
theorem zrH {R:Type} {step:Int×Int→Option (LO (Int×Int) Int R)} {l:Str} {cap:Nat} (hl:l.all digB=true) (hn:l.length≤100000) (hc:cap≤1000000000000)
  (h1: ∀(v:Int) (i:Nat) (hi:i<l.length),step (v,(i:Int))=some (.again (if(cap:Int)<w64 (w64 (10*v)+w64 (wu8 ((l[i].toNat:Int) - 48)))then(cap:Int)else w64 (w64 (10*v)+w64 (wu8 ((l[i].toNat:Int) - 48))),w64 ((i:Int)+1))))
  (h2: ∀v:Int,step (v,(l.length:Int))=some (.out v)):zdM step (0,0)=some (.out ((capF cap 0 l:Nat):Int)):=by
 refine qN (fun s=> ∃i:Nat,i≤l.length∧s=(((capF cap 0 (l.take i):Nat):Int),(i:Int))) (fun s=>l.length - s.2.toNat) _ ?_ ⟨0,by omega,rfl⟩
 rintro _ ⟨i,hi,rfl⟩
 rcases Nat.lt_or_ge i l.length with h|h
 ·refine .inl ⟨_,h1 _ i h,⟨i+1,by omega,?_⟩,by simp only;rw[zV (by omega) (by omega)];omega⟩
  have hd:=zc7 (List.all_eq_true.1 hl _ (List.getElem_mem h))
  have ht:capF cap 0 (l.take (i+1))=min cap (decN (capF cap 0 (l.take i)) l[i]):=by
   rw[List.take_succ_eq_append_getElem h,zor]
  have hb:=zmN cap (l.take i) 0 (Nat.zero_le _)
  have hu:wu8 ((l[i].toNat:Int) - 48)=((l[i].toNat - 48:Nat):Int):=by
   show IntKind.u8.wrap _=_
   rw[IntKind.wrap_u8];omega
  unfold decN at ht
  rw[hu,zV (n:=10*_) (by omega) (by omega),zV (n:=((l[i].toNat - 48:Nat):Int)) (by omega) (by omega),zV (n:=(i:Int)+1) (by omega) (by omega),zV (by omega) (by omega)]
  refine Prod.ext ?_ ?_
  ·show(if(cap:Int)<10*((capF cap 0 (l.take i):Nat):Int)+((l[i].toNat - 48:Nat):Int)then(cap:Int)else 10*((capF cap 0 (l.take i):Nat):Int)+((l[i].toNat - 48:Nat):Int))=_
   split<;>omega
  ·show(i:Int)+1=((i+1:Nat):Int)
   omega
 ·have:i=l.length:=by omega
  subst this
  refine .inr (.inl ⟨_,h2 _,?_⟩)
  rw[List.take_length]
theorem zp3: ∀(k n:Nat),n≤zfA→zds k n≤zfA
 |0,_,h=>h
 |k+1,n,h=>by
  unfold zds
  split
  ·exact h
  ·exact zp3 k _ (Nat.min_le_left ..)
theorem zrs {R:Type} {step:Int×Int→Option (LO (Int×Int) Int R)} {v:Nat} {p:Int} (hp:p≤4000000) (hp': -4000000≤p) (hv:v≤1000000000000)
  (h: ∀(a b:Int),step (a,b)=bif bif bif decide (a>0)then decide (b>0)else false then decide (b<1000000000000)else false then some (.again (w64 (a - 1),if 1000000000000<w64 (10*b)then 1000000000000 else w64 (10*b)))else some (.out b)):
  zdM step (p,(v:Int))=some (.out ((zds p.toNat v:Nat):Int)):=by
 have hm:zfA=1000000000000:=rfl
 refine qN (fun s=> ∃(a:Int) (b:Nat),s=(a,(b:Int))∧a≤4000000∧ -4000000≤a∧b≤1000000000000∧zds a.toNat b=zds p.toNat v) (fun s=>s.1.toNat) _ ?_ ⟨p,v,rfl,hp,hp',hv,rfl⟩
 rintro _ ⟨a,b,rfl,ha,ha',hb,he⟩
 rw[h]
 by_cases h1:a>0
 ·obtain⟨k,hk⟩: ∃k,a.toNat=k+1:=⟨a.toNat - 1,by omega⟩
  rw[hk,zds]at he
  rw[decide_eq_true h1,cond_true]
  by_cases h2:b=0∨zfA≤b
  ·rw[if_pos h2]at he
   have:(bif bif decide (((b:Nat):Int)>0)then decide (((b:Nat):Int)<1000000000000)else false then(some (.again (w64 (a - 1),if 1000000000000<w64 (10*(b:Int))then 1000000000000 else w64 (10*(b:Int)))):Option (LO (Int×Int) Int R))else some (.out (b:Int)))=some (.out (b:Int)):=by
    rcases h2 with h2|h2
    ·subst h2;rfl
    ·have e:decide (((b:Nat):Int)<1000000000000)=false:=decide_eq_false (by omega)
     rw[e]
     cases decide (((b:Nat):Int)>0)<;>rfl
   exact .inr (.inl ⟨_,this,by rw[he]⟩)
  ·rw[if_neg h2]at he
   have e1:decide (((b:Nat):Int)>0)=true:=decide_eq_true (by omega)
   have e2:decide (((b:Nat):Int)<1000000000000)=true:=decide_eq_true (by omega)
   rw[e1,cond_true,e2,cond_true]
   refine .inl ⟨_,rfl,⟨a - 1,min zfA (10*b),?_,by omega,by omega,by omega,?_⟩,by simp only;rw[zV (by omega) (by omega)];omega⟩
   ·rw[zV (by omega) (by omega),zV (by omega) (by omega)]
    refine Prod.ext rfl ?_
    show(if(1000000000000:Int)<10*(b:Int)then(1000000000000:Int)else 10*(b:Int))=((min zfA (10*b):Nat):Int)
    split<;>omega
   ·rw[show(a - 1).toNat=k by omega];exact he
 ·rw[decide_eq_false h1,cond_false]
  refine .inr (.inl ⟨_,rfl,?_⟩)
  rw[←he,show a.toNat=0 by omega]
  rfl
structure NumP where
 sg:Str
 D:Str
 F:Option Str
 X:Option (UInt8×Str×Str)
def dotS:Option Str→Str
 |none=>[]
 |some f=>46::f
def expT:Option (UInt8×Str×Str)→Str
 |none=>[]
 |some (e,s,x)=>e::(s++x)
def NumP.txt(n:NumP):Str:=n.sg++(n.D++(dotS n.F++expT n.X))
def sgB(s:Str):Bool:=s==[]||s==[43]||s==[45]
def NumP.ok(n:NumP):Bool:=sgB n.sg&&n.D.all digB&&(match n.F with|none=> !n.D.isEmpty|some f=> !f.isEmpty&&f.all digB)&&
 (match n.X with|none=>true|some (e,s,x)=>(e==101||e==69)&&sgB s&& !x.isEmpty&&x.all digB)
def expV:Option (UInt8×Str×Str)→Int
 |none=>0
 |some (_,s,x)=>if s==[45]then -((capF 1048576 0 x:Nat):Int)else((capF 1048576 0 x:Nat):Int)
def thoV(A:Str)(p:Int):Nat:=zds p.toNat (capF zfA 0 (if p<0 then A.take ((A.length:Int)+p).toNat else A))
def NumP.val(n:NumP):Int:=
 let v:=thoV (n.D++n.F.getD []) (3+expV n.X - ((n.F.getD []).length:Int))
 if n.sg==[45]then -(v:Int)else(v:Int)
theorem zji{s:Str}(h:sgB s=true):s=[]∨s=[43]∨s=[45]:=by
 unfold sgB at h
 simp only[Bool.or_eq_true,beq_iff_eq]at h
 rcases h with(h|h)|h
 ·exact .inl h
 ·exact .inr (.inl h)
 ·exact .inr (.inr h)
theorem zwm{s q:Str}(h:sgB s=true)(hq: ∀c r,q=c::r→List.contains [43,45] c=false):Lib.trimLeftS (s++q) [43,45]=q:=by
 have h0:Lib.trimLeftS q [43,45]=q:=by
  unfold Lib.trimLeftS
  cases q with
  |nil=>rfl
  |cons c r=>rw[List.dropWhile_cons,hq c r rfl];rfl
 rcases zji h with rfl|rfl|rfl
 ·exact h0
 ·show List.dropWhile _ (43::q)=_
  rw[List.dropWhile_cons];exact h0
 ·show List.dropWhile _ (45::q)=_
  rw[List.dropWhile_cons];exact h0
theorem ztT{e:UInt8}(he:e=101∨e=69)(t:Str): ∀(l:Str),(l.all fun b=>digB b||b==46)=true→Lib.indexAny (l++e::t) [101,69]=(l.length:Int)
 |[],_=>by
  rw[List.nil_append,Lib.indexAny]
  rcases he with rfl|rfl<;>rfl
 |c::l,h=>by
  rw[List.all_cons,Bool.and_eq_true]at h
  have hc:List.contains [101,69] c=false:=by
   have: ∀n:Nat,n<256→(digB (UInt8.ofNat n)||UInt8.ofNat n==46)=true→List.contains [101,69] (UInt8.ofNat n)=false:=by decide+kernel
   have:=this c.toNat (UInt8.toNat_lt c)
   rw[UInt8.ofNat_toNat]at this
   exact this h.1
  rw[List.cons_append,Lib.indexAny,hc,ztT he t l h.2]
  have:((l.length:Int)== -1)=false:=beq_eq_false_iff_ne.2 (by omega)
  rw[this,List.length_cons]
  simp
theorem zyy{l:Str}(h:l.all digB=true):(l.all fun b=>digB b||b==46)=true:=by
 rw[List.all_eq_true]at h ⊢
 intro b hb
 rw[h b hb];rfl
theorem zgw{l:Str}(h: ∀b∈l,b.toNat<128):za4 l=true:=by
 unfold za4
 rw[List.all_eq_true]
 exact fun b hb=>decide_eq_true (h b hb)
theorem zwK{l:Str}(h:za4 l=true): ∀b∈l,b.toNat<128:=by
 unfold za4 at h
 rw[List.all_eq_true]at h
 exact fun b hb=>of_decide_eq_true (h b hb)
theorem zy8{D:Str}(hD:D.all digB=true)(F:Option Str): ∃f,Lib.cut (D++dotS F) [46]=(D,F.getD [],f):=by
 unfold Lib.cut
 rw[zfi]
 cases F with
 |none=>
  rw[show dotS none=[]from rfl,List.append_nil,zqO _ hD,if_neg (by decide)]
  exact⟨false,rfl⟩
 |some g=>
  rw[show dotS (some g)=46::g from rfl,zqN _ _ hD,if_pos (by omega)]
  refine⟨true,?_⟩
  rw[Int.toNat_natCast,List.take_left,List.length_singleton,show D.length+1=(D++[46]).length by simp]
  have:D++46::g=(D++[46])++g:=by simp
  rw[this,List.drop_left]
  rfl
theorem zsw {D:Str} {F:Option Str} {E:Int} (hD:D.all digB=true) (hF:(F.getD []).all digB=true) (hl:D.length+(F.getD []).length≤50000) (hE:E≤2000000) (hE': -2000000≤E) (y1:UInt8) (sg:Str)
  (hy:((y1.toNat:Int)==45)=(sg==[45])) (hsh:short (D++dotS F)=true):
  (ze (cutF (D++dotS F,[46])) fun y11=>
 need (zbY y11.1.length y11.2.1.length)<|
 zU (X:=Str×Int) (
   bif decide (w64 ((3+E) - (y11.2.1.length:Int))<0)then
    need (decide (0≤(if w64 (((y11.1++y11.2.1).length:Int)+w64 ((3+E) - (y11.2.1.length:Int)))>0 then w64 (((y11.1++y11.2.1).length:Int)+w64 ((3+E) - (y11.2.1.length:Int)))else 0))&&decide ((if w64 (((y11.1++y11.2.1).length:Int)+w64 ((3+E) - (y11.2.1.length:Int)))>0 then w64 (((y11.1++y11.2.1).length:Int)+w64 ((3+E) - (y11.2.1.length:Int)))else 0)≤((y11.1++y11.2.1).length:Int)))<|
    some (LX.out (List.take (if w64 (((y11.1++y11.2.1).length:Int)+w64 ((3+E) - (y11.2.1.length:Int)))>0 then w64 (((y11.1++y11.2.1).length:Int)+w64 ((3+E) - (y11.2.1.length:Int)))else 0).toNat (y11.1++y11.2.1),w64 ((3+E) - (y11.2.1.length:Int))))
   else
    some (LX.out (y11.1++y11.2.1,w64 ((3+E) - (y11.2.1.length:Int))))) fun j12=>
 need (decide (j12.1.length≤maxLen))<|
 ZF (fun(s13:Int×Int)=>
   bif decide (s13.2<(j12.1.length:Int))then
    need (decide (0≤s13.2)&&decide (s13.2<(j12.1.length:Int)))<|
    ze j12.1[s13.2.toNat]? fun y14=>
    some (LO.again (if 1000000000000<w64 (w64 (10*s13.1)+w64 (wu8 ((y14.toNat:Int) - 48)))then 1000000000000 else w64 (w64 (10*s13.1)+w64 (wu8 ((y14.toNat:Int) - 48))),w64 (s13.2+1)))
   else
    some (LO.out s13.1):Int×Int→Option (LO (Int×Int) (Int) _)) (0,0) fun o15=>
 ZF (fun(s16:Int×Int)=>
   bif bif bif decide (s16.1>0)then decide (s16.2>0)else false then decide (s16.2<1000000000000)else false then
    some (LO.again (w64 (s16.1 - 1),if 1000000000000<w64 (10*s16.2)then 1000000000000 else w64 (10*s16.2)))
   else
    some (LO.out s16.2):Int×Int→Option (LO (Int×Int) (Int) _)) (j12.2,o15) fun o17=>
 zU (X:=Int) (
   bif (y1.toNat:Int)==45 then
    some (LX.out (w64 (0 - o17)))
   else
    some (LX.out o17)) fun j18=>
 some j18)=some (if sg==[45]then -((thoV (D++F.getD []) (3+E - ((F.getD []).length:Int)):Nat):Int)else((thoV (D++F.getD []) (3+E - ((F.getD []).length:Int)):Nat):Int)):=by
 obtain⟨f,hcut⟩:=zy8 hD F
 have t3:cutF (D++dotS F,[46])=some (D,F.getD [],f):=by
  unfold cutF
  rw[zw (by exact hsh)]
  exact congrArg some hcut
 have hml:maxLen=9223372036854775807:=rfl
 have hmost:zfA=1000000000000:=rfl
 simp only[ze,t3,Option.bind_some]
 generalize F.getD []=G at*
 rw[zw (ze3.2 (by omega))]
 obtain⟨p,hp⟩: ∃p:Int,p=3+E - (G.length:Int):=⟨_,rfl⟩
 rw[←hp,zV (n:=p) (by omega) (by omega)]
 have hA:(D++G).all digB=true:=by rw[List.all_append,hD,hF];rfl
 have hAl:(D++G).length≤50000:=by rw[List.length_append];omega
 generalize D++G=A at*
 have key: ∀B:Str,B.all digB=true→B.length≤50000→(need (decide (B.length≤maxLen))<|
 ZF (fun(s13:Int×Int)=>
   bif decide (s13.2<(B.length:Int))then
    need (decide (0≤s13.2)&&decide (s13.2<(B.length:Int)))<|
    (B[s13.2.toNat]?).bind fun y14=>
    some (LO.again (if 1000000000000<w64 (w64 (10*s13.1)+w64 (wu8 ((y14.toNat:Int) - 48)))then 1000000000000 else w64 (w64 (10*s13.1)+w64 (wu8 ((y14.toNat:Int) - 48))),w64 (s13.2+1)))
   else
    some (LO.out s13.1):Int×Int→Option (LO (Int×Int) (Int) _)) (0,0) fun o15=>
 ZF (fun(s16:Int×Int)=>
   bif bif bif decide (s16.1>0)then decide (s16.2>0)else false then decide (s16.2<1000000000000)else false then
    some (LO.again (w64 (s16.1 - 1),if 1000000000000<w64 (10*s16.2)then 1000000000000 else w64 (10*s16.2)))
   else
    some (LO.out s16.2):Int×Int→Option (LO (Int×Int) (Int) _)) (p,o15) fun o17=>
 zU (X:=Int) (
   bif (y1.toNat:Int)==45 then
    some (LX.out (w64 (0 - o17)))
   else
    some (LX.out o17)) fun j18=>
 some j18)=some (if sg==[45]then -((zds p.toNat (capF zfA 0 B):Nat):Int)else((zds p.toNat (capF zfA 0 B):Nat):Int)):=by
  intro B hB hBl
  have hcap:=zmN zfA B 0 (Nat.zero_le _)
  rw[zw (decide_eq_true (by omega))]
  rw[qO (zrH (cap:=zfA) hB (by omega) (by omega) (fun v i hi=> ?_) (fun v=> ?_))]
  ·have htm:=zp3 p.toNat _ hcap
   rw[qO (zrs (by omega) (by omega) (by omega) (fun a b=> ?_)),hy]
   ·cases hs:sg==[45]with
    |true=>
     rw[cond_true,zg,zV (by omega) (by omega),if_pos rfl]
     congr 1;omega
    |false=>rw[cond_false,zg,if_neg (by decide)]
   ·simp only
  ·have e1:decide ((i:Int)<(B.length:Int))=true:=decide_eq_true (by omega)
   have e0:decide ((0:Int)≤(i:Int))=true:=decide_eq_true (by omega)
   simp only[e1,e0,cond_true,Bool.and_true,ZR,Int.toNat_natCast,List.getElem?_eq_getElem hi,Option.bind_some]
   rfl
  ·simp only
   rw[decide_eq_false (by omega),cond_false]
 unfold thoV
 by_cases hn:p<0
 ·rw[decide_eq_true hn,cond_true,if_pos hn]
  have hk:(if w64 ((A.length:Int)+p)>0 then w64 ((A.length:Int)+p)else 0)=((((A.length:Int)+p).toNat:Nat):Int):=by
   rw[zV (by omega) (by omega)]
   split<;>omega
  rw[hk,zw (by rw[decide_eq_true (by omega),decide_eq_true (by omega)];rfl),zg,Int.toNat_natCast]
  refine key _ ?_ (by rw[List.length_take];omega)
  rw[List.all_eq_true]at hA ⊢
  exact fun b hb=>hA b (List.mem_of_mem_take hb)
 ·rw[decide_eq_false hn,cond_false,if_neg hn,zg]
  exact key _ hA hAl
theorem ze5{n:NumP}(h:n.ok=true)(hl:n.txt.length≤40000):ZH n.txt=some n.val:=by
 obtain⟨sg,D,F,X⟩:=n
 unfold NumP.ok at h
 simp only[Bool.and_eq_true]at h
 obtain⟨⟨⟨hsg,hD⟩,hFo⟩,hX⟩:=h
 have hF:(F.getD []).all digB=true:=by
  cases F with
  |none=>rfl
  |some f=>simp only[Bool.and_eq_true]at hFo;exact hFo.2
 have hne:D++dotS F≠[]:=by
  cases F with
  |none=>cases D with
   |nil=>exact absurd hFo (by decide)
   |cons c r=>simp
  |some f=>simp[dotS]
 have hpar:((D++dotS F).all fun b=>digB b||b==46)=true:=by
  rw[List.all_append,zyy hD]
  cases F with
  |none=>rfl
  |some f=>rw[show dotS (some f)=46::f from rfl,List.all_cons,zyy (show f.all digB=true from hF)];rfl
 have hlen:sg.length+(D.length+((dotS F).length+(expT X).length))≤40000:=by
  have:(NumP.txt ⟨sg,D,F,X⟩).length=sg.length+(D.length+((dotS F).length+(expT X).length)):=by
   unfold NumP.txt;simp only[List.length_append]
  omega
 have hFl:(F.getD []).length≤(dotS F).length:=by
  cases F with
  |none=>exact Nat.le_refl _
  |some f=>show f.length≤(46::f).length;rw[List.length_cons];omega
 have hhead: ∀c r,D++(dotS F++expT X)=c::r→List.contains [43,45] c=false:=by
  rw[←List.append_assoc]
  intro c r e
  cases hq:D++dotS F with
  |nil=>exact absurd hq hne
  |cons d q=>
   rw[hq,List.cons_append]at e
   injection e with e1 _
   subst e1
   rw[hq,List.all_cons,Bool.and_eq_true,Bool.or_eq_true]at hpar
   rcases hpar.1 with hd|hd
   ·exact(QC hd).2.2.2.2
   ·rw[beq_iff_eq.1 hd];decide
 have hy1: ∃b,geti (NumP.txt ⟨sg,D,F,X⟩) 0=some b∧(((b.toNat:Int)==45)=(sg==[45])):=by
  unfold NumP.txt
  show∃b,geti (sg++(D++(dotS F++expT X))) 0=some b∧_
  rcases zji hsg with rfl|rfl|rfl
  ·cases hq:D++(dotS F++expT X)with
   |nil=>rw[←List.append_assoc]at hq;exact absurd (List.append_eq_nil_iff.1 hq).1 hne
   |cons c r=>
    refine⟨c,rfl,?_⟩
    have:=hhead c r hq
    refine beq_eq_false_iff_ne.2 (fun e=> ?_)
    have:c=45:=UInt8.toNat_inj.1 (by show c.toNat=45;omega)
    subst this
    revert this
    simp_all
  ·exact⟨43,rfl,rfl⟩
  ·exact⟨45,rfl,rfl⟩
 obtain⟨y1,hg,hyy⟩:=hy1
 have t1:ze7 (NumP.txt ⟨sg,D,F,X⟩,[43,45])=some (D++(dotS F++expT X)):=by
  unfold ze7
  rw[zw (show(short ([43,45]:Str)&&za4 [43,45])=true by decide)]
  exact congrArg some (zwm hsg hhead)
 unfold ZH
 simp only[ze,hg,t1,Option.bind_some]
 have hsh:short (D++dotS F)=true:=decide_eq_true (by rw[List.length_append];omega)
 have hasc:za4 (D++dotS F)=true:=ztW hpar
 cases X with
 |none=>
  have t2:QG (D++(dotS F++expT none),[101,69])=some (-1):=by
   show QG (D++(dotS F++[]),[101,69])=_
   rw[List.append_nil]
   unfold QG
   rw[zw (by simp only[hsh,hasc,Bool.and_true,Bool.true_and];decide)]
   exact congrArg some (zqj _ hpar)
  simp only[t2,Option.bind_some,show decide ((-1:Int)≥0)=false from rfl,cond_false,zg]
  rw[show D++(dotS F++expT none)=D++dotS F by show D++(dotS F++[])=_;rw[List.append_nil]]
  have:=zsw (E:=0) hD hF (by omega) (by omega) (by omega) y1 sg hyy hsh
  exact this
 |some ex=>
  obtain⟨e,s,x⟩:=ex
  simp only[Bool.and_eq_true]at hX
  obtain⟨⟨⟨he,hs⟩,hxne⟩,hx⟩:=hX
  have he':e=101∨e=69:=by
   rw[Bool.or_eq_true,beq_iff_eq,beq_iff_eq]at he;exact he
  have hexl:(expT (some (e,s,x))).length=1+(s.length+x.length):=by
   show(e::(s++x)).length=_;rw[List.length_cons,List.length_append];omega
  have hass:D++(dotS F++expT (some (e,s,x)))=(D++dotS F)++e::(s++x):=by rw[←List.append_assoc];rfl
  have hasx:za4 ((D++dotS F)++e::(s++x))=true:=by
   refine zgw (fun b hb=> ?_)
   rcases List.mem_append.1 hb with hb|hb
   ·exact zwK hasc b hb
   ·rcases List.mem_cons.1 hb with hb|hb
    ·subst hb;rcases he' with rfl|rfl<;>decide
    ·rcases List.mem_append.1 hb with hb|hb
     ·rcases zji hs with rfl|rfl|rfl
      ·cases hb
      ·rw[List.mem_singleton]at hb;subst hb;decide
      ·rw[List.mem_singleton]at hb;subst hb;decide
     ·have:=zc7 (List.all_eq_true.1 hx b hb);omega
  have hlt:((D++dotS F)++e::(s++x)).length≤40000:=by
   rw[List.length_append,List.length_cons,List.length_append,List.length_append];omega
  have t2:QG (D++(dotS F++expT (some (e,s,x))),[101,69])=some ((D++dotS F).length:Int):=by
   rw[hass]
   unfold QG
   show need (short ((D++dotS F)++e::(s++x))&&short [101,69]&&za4 ((D++dotS F)++e::(s++x))&&za4 [101,69]) _=_
   rw[show short ((D++dotS F)++e::(s++x))=true from decide_eq_true (by omega),hasx]
   exact congrArg some (ztT he' (s++x) _ hpar)
  have hdrop:List.drop (D++dotS F).length ((D++dotS F)++e::(s++x))=e::(s++x):=List.drop_left
  have hdrop1:List.drop ((D++dotS F).length+1) ((D++dotS F)++e::(s++x))=s++x:=by
   rw[←List.drop_drop,hdrop];rfl
  have hd0:(D++dotS F).length≤40000:=by rw[List.length_append];omega
  have hw1:w64 (((D++dotS F).length:Int)+1)=(((D++dotS F).length+1:Nat):Int):=by rw[zV (by omega) (by omega)];omega
  simp only[t2,Option.bind_some]
  rw[decide_eq_true (show(((D++dotS F).length:Nat):Int)≥0 by omega),cond_true,hw1,hass]
  have hlt2:(D++dotS F).length+1≤((D++dotS F)++e::(s++x)).length:=by rw[List.length_append (bs:=e::(s++x)),List.length_cons];omega
  rw[zw (by rw[decide_eq_true (by omega),decide_eq_true (by omega)];rfl),Int.toNat_natCast,hdrop1]
  have hxh: ∀c r,x=c::r→List.contains [43,45] c=false:=by
   intro c r e
   subst e
   rw[List.all_cons,Bool.and_eq_true]at hx
   exact(QC hx.1).2.2.2.2
  have t4:ze7 (s++x,[43,45])=some x:=by
   unfold ze7
   rw[zw (show(short ([43,45]:Str)&&za4 [43,45])=true by decide)]
   exact congrArg some (zwm hs hxh)
  have hxl:x.length≤40000:=by omega
  have hml:maxLen=9223372036854775807:=rfl
  simp only[t4,Option.bind_some]
  rw[zw (decide_eq_true (by omega))]
  have hcap:=zmN 1048576 x 0 (Nat.zero_le _)
  rw[qO (zrH (cap:=1048576) hx (by omega) (by omega) (fun v i hi=> ?_) (fun v=> ?_))]
  ·have hg8: ∃y8,geti ((D++dotS F)++e::(s++x)) (((D++dotS F).length+1:Nat):Int)=some y8∧(((y8.toNat:Int)==45)=(s==[45])):=by
    have hgg: ∀(b:UInt8) (r:Str),s++x=b::r→geti ((D++dotS F)++e::(s++x)) (((D++dotS F).length+1:Nat):Int)=some b:=by
     intro b r e1
     unfold geti
     have:((D++dotS F)++e::(s++x))[(D++dotS F).length+1]? =some b:=by
      rw[List.getElem?_append_right (by omega),show(D++dotS F).length+1 - (D++dotS F).length=1 by omega,List.getElem?_cons_succ,e1];rfl
     rw[Int.toNat_natCast,this,decide_eq_true (by omega)]
     rfl
    rcases zji hs with rfl|rfl|rfl
    ·cases hxx:x with
     |nil=>rw[hxx]at hxne;exact absurd hxne (by decide)
     |cons c r=>
      refine⟨c,by rw[←hxx];exact hgg c r hxx,?_⟩
      have:=hxh c r hxx
      refine beq_eq_false_iff_ne.2 (fun e=> ?_)
      have h45:c=45:=UInt8.toNat_inj.1 (by show c.toNat=45;omega)
      subst h45
      exact absurd this (by decide)
    ·exact⟨43,hgg 43 x rfl,rfl⟩
    ·exact⟨45,hgg 45 x rfl,rfl⟩
   obtain⟨y8,h8,h8'⟩:=hg8
   simp only[h8,Option.bind_some]
   rw[h8']
   have hj:(bif s==[45]then(some (LX.out ((D++dotS F)++e::(s++x),3,w64 (0 - ((capF 1048576 0 x:Nat):Int)))):Option (LX (Str×Int×Int) (LX (Str×Int) Int)))else some (LX.out ((D++dotS F)++e::(s++x),3,((capF 1048576 0 x:Nat):Int))))
     =some (LX.out ((D++dotS F)++e::(s++x),3,expV (some (e,s,x)))):=by
    unfold expV
    simp only
    cases s==[45]with
    |true=>rw[cond_true,if_pos rfl,zV (by omega) (by omega)];simp
    |false=>rw[cond_false,if_neg (by decide)]
   have hEb:expV (some (e,s,x))≤1048576∧ -1048576≤expV (some (e,s,x)):=by
    unfold expV
    simp only
    split<;>omega
   refine(congrArg (fun o=>zU (zU o _) _) hj).trans ?_
   simp only[zg]
   rw[show decide ((((D++dotS F).length:Nat):Int)≤((((D++dotS F)++e::(s++x)).length:Nat):Int))=true from decide_eq_true (by omega),zw (by rfl)]
   simp only[zg,Int.toNat_natCast,List.take_left]
   rw[zV (by omega) (by omega)]
   exact zsw (E:=expV (some (e,s,x))) hD hF (by omega) (by omega) (by omega) y1 sg hyy hsh
  ·have e1:decide ((i:Int)<(x.length:Int))=true:=decide_eq_true (by omega)
   have e0:decide ((0:Int)≤(i:Int))=true:=decide_eq_true (by omega)
   simp only[e1,e0,cond_true,Bool.and_true,ZR,Int.toNat_natCast,List.getElem?_eq_getElem hi,Option.bind_some]
   rfl
  ·simp only
   rw[decide_eq_false (by omega),cond_false]
end Go.Lv.VT

namespace Go.Lv.VT
set_option maxRecDepth 100000
theorem zha {S X R:Type} {step:S→Option (LO S X R)} {k:X→Option R} (Inv:S→Prop) (μ:S→Nat) (y:R)
  (h: ∀s,Inv s→(∃s',step s=some (.again s')∧Inv s'∧μ s'<μ s)∨(∃x,step s=some (.out x)∧k x=some y)∨step s=some (.ret y)) {s:S} (hs:Inv s):ZF step s k=some y:=by
 have key: ∀(m:Nat) (s:S),μ s<m→Inv s→ ∃r:LX X R,Q6 step m s=some r∧r.go k=some y:=by
  intro m
  induction m with
  |zero=>intro s h;omega
  |succ m ih=>
   intro s hm hs
   simp only[Q6]
   rcases h s hs with⟨s',h1,h2,h3⟩|⟨x,h1,h2⟩|h1
   ·rw[h1];exact ih s' (by omega) h2
   ·rw[h1];exact⟨_,rfl,h2⟩
   ·rw[h1];exact⟨_,rfl,rfl⟩
 obtain⟨r,h1,h2⟩:=key (μ s+1) s (by omega) hs
 rw[zdO (zdN h1)]
 exact h2
theorem zpD(p:UInt8→Bool): ∀l:Str,past p l=l.dropWhile p
 |[]=>rfl
 |c::r=>by
  rw[past,List.dropWhile_cons]
  cases h:p c with
  |true=>exact zpD p r
  |false=>rfl
theorem zhq(p:UInt8→Bool)(l:Str):l.takeWhile p++past p l=l:=by rw[zpD,List.takeWhile_append_dropWhile]
theorem zkP(p:UInt8→Bool): ∀l:Str,(l.takeWhile p).all p=true
 |[]=>rfl
 |c::r=>by
  rw[List.takeWhile_cons]
  cases h:p c with
  |true=>show(c::List.takeWhile p r).all p=true;rw[List.all_cons,h,zkP p r];rfl
  |false=>rfl
def sgOf(l:Str):Str:=if zaE (atS l 0)then [atS l 0]else []
theorem zz8(l:Str):sgOf l++unsign l=l:=by
 unfold sgOf unsign
 cases h:zaE (atS l 0)with
 |false=>rfl
 |true=>
  rw[if_pos rfl,if_pos rfl]
  cases l with
  |nil=>exact absurd h (by decide)
  |cons c r=>rfl
theorem zBr(l:Str):sgB (sgOf l)=true:=by
 unfold sgOf
 cases h:zaE (atS l 0)with
 |false=>rfl
 |true=>
  rw[if_pos rfl]
  unfold zaE at h
  rw[Bool.or_eq_true,beq_iff_eq,beq_iff_eq]at h
  rcases h with h|h<;>rw[h]<;>rfl
def dotP(q:Str):Option Str:=if atS q 0==46&&digB (atS q 1)then some ((q.drop 1).takeWhile digB)else none
def expP(q:Str):Option (UInt8×Str×Str):=
 if(atS q 0==101||atS q 0==69)&&digB (atS (unsign (q.drop 1)) 0)then some (atS q 0,sgOf (q.drop 1),(unsign (q.drop 1)).takeWhile digB)else none
def numP(l:Str):NumP:=⟨sgOf l,(unsign l).takeWhile digB,dotP (past digB (unsign l)),expP (zK (past digB (unsign l))).1⟩
theorem zuB(q:Str):dotS (dotP q)++(zK q).1=q∧(zK q).2=(dotP q).isNone:=by
 unfold dotP zK
 cases h:atS q 0==46&&digB (atS q 1)with
 |false=>exact⟨rfl,rfl⟩
 |true=>
  rw[if_pos rfl,if_pos rfl]
  cases q with
  |nil=>exact absurd h (by decide)
  |cons c r=>
   rw[Bool.and_eq_true,beq_iff_eq]at h
   refine⟨?_,rfl⟩
   show(46::List.takeWhile digB r)++past digB r=c::r
   rw[List.cons_append,zhq,show c=46 from h.1]
theorem zxa(q:Str):expT (expP q)++(match expS q with|some r=>r|none=>q)=q:=by
 unfold expP expS
 cases h1:atS q 0==101||atS q 0==69 with
 |false=>rfl
 |true=>
  cases h2:digB (atS (unsign (q.drop 1)) 0)with
  |false=>rfl
  |true=>
   simp only[Bool.and_self,if_true]
   cases q with
   |nil=>exact absurd h1 (by decide)
   |cons c r=>
    show(c::(sgOf r++List.takeWhile digB (unsign r)))++past digB (unsign r)=c::r
    rw[List.cons_append,List.append_assoc,zhq,zz8]
theorem zku(l:Str):(numP l).txt++(zA l).1=l:=by
 have h1:=(zuB (past digB (unsign l))).1
 have h2:=zxa (zK (past digB (unsign l))).1
 have h3:(zA l).1=(match expS (zK (past digB (unsign l))).1 with|some r=>r|none=>(zK (past digB (unsign l))).1):=by
  unfold zA
  simp only
  cases expS (zK (past digB (unsign l))).1<;>rfl
 rw[h3]
 show(sgOf l++(List.takeWhile digB (unsign l)++(dotS (dotP (past digB (unsign l)))++expT (expP (zK (past digB (unsign l))).1))))++_=l
 rw[List.append_assoc,List.append_assoc,List.append_assoc,h2,h1,zhq,zz8]
theorem zv8{p:UInt8→Bool}{q:Str}(h:p (atS q 0)=true)(h0:p 0=false):(q.takeWhile p).isEmpty=false:=by
 cases q with
 |nil=>rw[show atS [] 0=0 from rfl,h0]at h;cases h
 |cons c r=>rw[List.takeWhile_cons,if_pos (show p c=true from h)];rfl
theorem zvs{l:Str}(h:nbS l=true):(numP l).ok=true:=by
 unfold NumP.ok numP
 simp only[zBr,zkP,Bool.true_and,Bool.and_eq_true]
 refine⟨?_,?_⟩
 ·unfold dotP
  cases hd:atS (past digB (unsign l)) 0==46&&digB (atS (past digB (unsign l)) 1)with
  |true=>
   rw[if_pos rfl]
   simp only[zkP,Bool.and_true]
   rw[Bool.and_eq_true]at hd
   rw[zv8 (p:=digB) (by rw[Qe];exact hd.2) (by decide)]
   rfl
  |false=>
   rw[if_neg (by decide)]
   simp only
   cases hq:digB (atS (unsign l) 0)with
   |true=>rw[zv8 hq (by decide)];rfl
   |false=>
    exfalso
    have hp:past digB (unsign l)=unsign l:=by
     cases hu:unsign l with
     |nil=>rfl
     |cons c r=>rw[hu]at hq;rw[past,if_neg (by rw[show digB c=false from hq];decide)]
    rw[hp]at hd
    unfold nbS undot at h
    cases h46:atS (unsign l) 0==46 with
    |false=>rw[h46,if_neg (by decide),hq]at h;cases h
    |true=>
     rw[h46,if_pos rfl,Qe]at h
     rw[h46,Bool.true_and]at hd
     rw[show atS (unsign l) (1+0)=atS (unsign l) 1 from rfl,hd]at h
     cases h
 ·unfold expP
  cases hd:(atS (zK (past digB (unsign l))).1 0==101||atS (zK (past digB (unsign l))).1 0==69)&&digB (atS (unsign ((zK (past digB (unsign l))).1.drop 1)) 0)with
  |false=>rfl
  |true=>
   rw[if_pos rfl]
   rw[Bool.and_eq_true]at hd
   simp only[hd.1,zBr,zkP,Bool.and_true,Bool.true_and]
   rw[zv8 hd.2 (by decide)]
   rfl
theorem zBA{n:NumP}(h:n.ok=true):n.txt≠[]:=by
 obtain⟨sg,D,F,X⟩:=n
 unfold NumP.ok at h
 simp only[Bool.and_eq_true]at h
 intro e
 unfold NumP.txt at e
 simp only[List.append_eq_nil_iff]at e
 obtain⟨e1,e2,e3,e4⟩:=e
 subst e2
 cases F with
 |none=>exact absurd h.1.2 (by decide)
 |some f=>cases e3
theorem zq5{c:UInt8}{r:Str}(h:nbS (c::r)=true):(zA (c::r)).1<:+r:=by
 have h1:=zku (c::r)
 have h2:=zBA (zvs h)
 cases ht:(numP (c::r)).txt with
 |nil=>exact absurd ht h2
 |cons d t=>
  rw[ht,List.cons_append]at h1
  injection h1 with _ h3
  exact⟨t,h3⟩
def zz(l:Str):zb×Str:=
 if nmS (zA l).1 then(⟨12,[],(numP l).val,(zl (zA l).1).1,(zA l).2⟩,(zl (zA l).1).2)
 else if atS (zA l).1 0==37 then(⟨11,[],(numP l).val,[],false⟩,(zA l).1.drop 1)
 else(⟨10,[],(numP l).val,[],(zA l).2⟩,(zA l).1)
theorem zy9{s l t e:Str}(hl:l<:+s)(h:t++e=l):List.drop (beh s l) (List.take (beh s e) s)=t:=by
 obtain⟨p,rfl⟩:=hl
 subst h
 have h1:beh (p++(t++e)) (t++e)=p.length:=by unfold beh;simp only[List.length_append];omega
 have h2:beh (p++(t++e)) e=(p++t).length:=by unfold beh;simp only[List.length_append];omega
 rw[h1,h2,←List.append_assoc,List.take_left,List.drop_left]
theorem zxK{s l:Str}(hs:s.length≤40000)(hl:l<:+s)(h:nbS l=true):Zt (sr s l)=some ((zz l).1,sr s (zz l).2):=by
 have hsb:s.length≤big:=by unfold big;omega
 have he:=ztp hl
 have hle:=hl.length_le
 have hsp:=zku l
 have hel:(zA l).1.length≤l.length:=by
  have:=congrArg List.length hsp
  rw[List.length_append]at this;omega
 have htl:(numP l).txt.length≤40000:=by
  have:=congrArg List.length hsp
  rw[List.length_append]at this;omega
 unfold Zt
 rw[zxb hsb hl]
 simp only[ze,Option.bind_some]
 have h1:(beh s l:Int)≤(beh s (zA l).1:Int):=by unfold beh;omega
 have h2:=zee s (zA l).1
 rw[zw (by rw[decide_eq_true (by omega),decide_eq_true (by omega),decide_eq_true (by omega)];rfl),Int.toNat_natCast,Int.toNat_natCast,zy9 hl hsp,ze5 (zvs h) htl]
 simp only[Option.bind_some]
 rw[show zB (0,sr s (zA l).1)=some (nmS (zA l).1)from zzE (k:=0) hsb he (by omega)]
 simp only[Option.bind_some]
 unfold zz
 cases hn:nmS (zA l).1 with
 |true=>
  rw[cond_true,zyk hsb he,if_pos rfl]
  rfl
 |false=>
  rw[cond_false,zaW hsb he,if_neg (by decide)]
  simp only[Option.bind_some,zBS]
  cases h37:atS (zA l).1 0==37 with
  |true=>
   rw[cond_true,zg,zvl hsb he (by rw[beq_iff_eq.1 h37];decide),if_pos rfl]
  |false=>rw[cond_false,zg,if_neg (by decide)]
theorem zq3(l:Str):(zl l).1.length≤4*l.length:=by
 match l with
 |[]=>rw[qz];exact Nat.le_refl _
 |c::r=>
  rw[zC]
  split
  ·have:=zq3 r
   show(c::(zl r).1).length≤_
   rw[List.length_cons,List.length_cons];omega
  ·split
   ·have h1:=zD r
    have h2:=zgU r
    have:=zq3 (zm r).2
    show((zm r).1++(zl (zm r).2).1).length≤_
    rw[List.length_append,List.length_cons];omega
   ·exact Nat.zero_le _
termination_by l.length
decreasing_by
 all_goals first|(have:=zD r;simp only[List.length_cons];omega)|(simp only[List.length_cons];omega)
def qx(l:Str):zb×Str:=
 if atS (zl l).2 0==40 then
  (if(lowS (zl l).1==[117,114,108])&& !(atS (past spB ((zl l).2.drop 1)) 0==34||atS (past spB ((zl l).2.drop 1)) 0==39)
  then(zf5 (urlS (past spB ((zl l).2.drop 1))).1,(urlS (past spB ((zl l).2.drop 1))).2)
  else(⟨2,(zl l).1,0,[],false⟩,(zl l).2.drop 1))
 else(⟨1,(zl l).1,0,[],false⟩,(zl l).2)
theorem zzt{s q:Str}(hs:s.length≤40000)(hq:q<:+s):Zq (sr s q)=some ((qx q).1,sr s (qx q).2):=by
 have hsb:s.length≤big:=by unfold big;omega
 have hn:(zl q).2<:+s:=(zaT q).trans hq
 have h4:=zq3 q
 have hql:=hq.length_le
 have hnl:(zl q).1.length≤big:=by unfold big;omega
 unfold Zq
 rw[zyk hsb hq]
 simp only[ze,Option.bind_some,zaW hsb hn]
 unfold bne qx
 rw[zBT]
 cases h40:atS (zl q).2 0==40 with
 |false=>rfl
 |true=>
  have hne:atS (zl q).2 0≠0:=by rw[beq_iff_eq.1 h40];decide
  rw[Bool.not_true,cond_false,if_pos rfl,zvl hsb hn hne,zib hnl (by decide),zkl]
  simp only[Option.bind_some]
  have hd:=zbZ hn 1
  cases hu:lowS (zl q).1==[117,114,108]with
  |false=>rfl
  |true=>
   rw[cond_true,zsH hsb hd,Bool.true_and]
   have hp:=zdZ spB hd
   simp only[Option.bind_some,zaW hsb hp]
   rw[zBh,zBi]
   cases h34:atS (past spB ((zl q).2.drop 1)) 0==34 with
   |true=>rfl
   |false=>
    cases h39:atS (past spB ((zl q).2.drop 1)) 0==39 with
    |true=>rfl
    |false=>
     rw[urlR hsb hd]
     rfl
theorem zxA{c:UInt8}{r:Str}(h:letB c=true∨escS (c::r)=true):(zl (c::r)).2<:+r:=by
 rw[zC]
 split
 ·exact zaT r
 ·rename_i hl
  rw[if_pos (h.resolve_left hl)]
  exact(zaT _).trans (ZE r)
theorem zsf{c:UInt8}{r:Str}(h:nmS (c::r)=true):letB c=true∨escS (c::r)=true:=by
 unfold nmS at h
 cases h45:atS (c::r) 0==45 with
 |true=>
  left
  rw[show c=45 from beq_iff_eq.1 h45]
  decide
 |false=>
  rw[h45,if_neg (by decide),Bool.or_eq_true]at h
  rcases h with h|h
  ·left
   unfold letB
   rw[show fstB c=true from h];rfl
  ·exact .inr h
theorem zu1{c:UInt8}{r:Str}(h:nmS (c::r)=true):(qx (c::r)).2<:+r:=by
 have hn:=zxA (zsf h)
 have hd:(zl (c::r)).2.drop 1<:+r:=(List.drop_suffix 1 _).trans hn
 unfold qx
 split
 ·split
  ·exact(zrv _).trans ((zfm spB _).trans hd)
  ·exact hd
 ·exact hn
def nxU(c:UInt8)(r:Str):zb×Str:=
  if nmS (c::r)then qx (c::r)
  else if zcx c==0 then(⟨9,[c],0,[],false⟩,r)
  else(zeB (zcx c),r)
def nxT(c:UInt8)(r:Str):zb×Str:=
  if nbS (c::r)then zz (c::r)
  else if [45,45,62].isPrefixOf (c::r)then(zeB 15,(c::r).drop 3)
  else if [60,33,45,45].isPrefixOf (c::r)then(zeB 14,(c::r).drop 4)
  else if c==64&&nmS r then(⟨3,(zl r).1,0,[],false⟩,(zl r).2)
  else nxU c r
def Zp:Str→zb×Str
 |[]=>(⟨0,[],0,[],false⟩,[])
 |c::r=>
  if spB c then(zeB 13,past spB (c::r))
  else if c==34||c==39 then(zf1 (zW c r).1,(zW c r).2)
  else if c==35&&(letB (atS r 0)||escS r)then(⟨4,(zl r).1,0,[],nmS r⟩,(zl r).2)
  else nxT c r
theorem zb4(c:UInt8)(r:Str):Zp (c::r)=
  if spB c then(zeB 13,past spB (c::r))
  else if c==34||c==39 then(zf1 (zW c r).1,(zW c r).2)
  else if c==35&&(letB (atS r 0)||escS r)then(⟨4,(zl r).1,0,[],nmS r⟩,(zl r).2)
  else if nbS (c::r)then zz (c::r)
  else if [45,45,62].isPrefixOf (c::r)then(zeB 15,(c::r).drop 3)
  else if [60,33,45,45].isPrefixOf (c::r)then(zeB 14,(c::r).drop 4)
  else if c==64&&nmS r then(⟨3,(zl r).1,0,[],false⟩,(zl r).2)
  else if nmS (c::r)then qx (c::r)
  else if zcx c==0 then(⟨9,[c],0,[],false⟩,r)
  else(zeB (zcx c),r):=rfl
theorem zq8{c:UInt8}{r:Str}(h:nbS (c::r)=true):(zz (c::r)).2<:+r:=by
 have h1:=zq5 h
 unfold zz
 split
 ·exact(zaT _).trans h1
 ·split
  ·exact(List.drop_suffix 1 _).trans h1
  ·exact h1
theorem zcH(c:UInt8)(r:Str):(Zp (c::r)).2<:+r:=by
 rw[zb4]
 split
 ·rename_i h
  show past spB (c::r)<:+r
  rw[past,if_pos h]
  exact zfm spB r
 ·split
  ·exact zfo c r
  ·split
   ·exact zaT r
   ·split
    ·rename_i h;exact zq8 h
    ·split
     ·exact List.drop_suffix 2 r
     ·split
      ·exact List.drop_suffix 3 r
      ·split
       ·exact zaT r
       ·split
        ·rename_i h;exact zu1 h
        ·split
         ·exact List.suffix_refl _
         ·exact List.suffix_refl _
theorem zxv(c:UInt8):decide (Lib.indexByte [58,59,44,91,93,40,41,123,125] c≥0)= !(zcx c==0)∧(zcx c≠0→wu8 (16+wu8 (Lib.indexByte [58,59,44,91,93,40,41,123,125] c))=zcx c):=by
 have: ∀n:Nat,n<256→decide (Lib.indexByte [58,59,44,91,93,40,41,123,125] (UInt8.ofNat n)≥0)= !(zcx (UInt8.ofNat n)==0)∧(zcx (UInt8.ofNat n)≠0→wu8 (16+wu8 (Lib.indexByte [58,59,44,91,93,40,41,123,125] (UInt8.ofNat n)))=zcx (UInt8.ofNat n)):=by decide+kernel
 have:=this c.toNat (UInt8.toNat_lt c)
 rw[UInt8.ofNat_toNat]at this
 exact this
theorem zeR{m q:Str}(h:m.isPrefixOf q=true):m.length≤q.length:=by
 obtain⟨t,rfl⟩:=List.isPrefixOf_iff_prefix.1 h
 rw[List.length_append];omega
def zvH(s:Str)(X:zb×Str):Option (zb×za):=some (X.1,sr s X.2)
theorem zBK{s q:Str}{c:UInt8}{r:Str}(hs:s.length≤40000)(hq:q<:+s)(hc:q=c::r):ZY (sr s q)=some ((Zp q).1,sr s (Zp q).2):=by
 subst hc
 have hsb:s.length≤big:=by unfold big;omega
 have hr:=zan hq
 have hd1:(c::r).drop 1=r:=rfl
 rw[show Zp (c::r)=if spB c then(zeB 13,past spB (c::r))else if c==34||c==39 then(zf1 (zW c r).1,(zW c r).2)else if c==35&&(letB (atS r 0)||escS r)then(⟨4,(zl r).1,0,[],nmS r⟩,(zl r).2)else nxT c r from rfl]
 unfold ZY
 simp only[ze,zaW hsb hq,Option.bind_some]
 rw[zw zAx]
 simp only[zkV,Option.bind_some,zBh,zBi,zBR,zBU,zuD hq,zaz,show atS (c::r) 0=c from rfl,zzR]
 cases hsp:spB c with
 |true=>
  rw[cond_true,zsH hsb hq,if_pos rfl]
  rfl
 |false=>
  rw[cond_false,if_neg (by decide)]
  cases hqu:c==34||c==39 with
  |true=>
   rw[cond_true,zz5 hsb hq,if_pos rfl]
   rfl
  |false=>
   rw[cond_false,if_neg (by decide)]
   have hsc:zo (1,sr s (c::r))=some (escS r):=zi2 (k:=1) hsb hq (by omega)
   have hnm1:zB (1,sr s (c::r))=some (nmS r):=zzE (k:=1) hsb hq (by omega)
   have hnm0:zB (0,sr s (c::r))=some (nmS (c::r)):=zzE (k:=0) hsb hq (by omega)
   have hst:(⟨s,w64 ((beh s (c::r):Int)+1)⟩:za)=sr s r:=by rw[zgu hsb hq]
   rw[hst]
   have tail:((Zi (sr s (c::r))).bind fun y10=>
    bif y10 then
     (Zt (sr s (c::r))).bind fun y11=>
     some (y11.1,y11.2)
    else
     (some ([45,45,62].isPrefixOf (c::r))).bind fun y12=>
     bif y12 then
      some ((⟨15,[],0,[],false⟩:zb),(⟨s,w64 ((beh s (c::r):Int)+3)⟩:za))
     else
      (some ([60,33,45,45].isPrefixOf (c::r))).bind fun y13=>
      bif y13 then
       some ((⟨14,[],0,[],false⟩:zb),(⟨s,w64 ((beh s (c::r):Int)+4)⟩:za))
      else
       (zn (c==64) (zB (1,sr s (c::r))) (default:Bool)).bind fun y14=>
       bif bif c==64 then y14 else false then
        (zG (sr s r)).bind fun y15=>
        some ((⟨3,y15.1,0,[],false⟩:zb),y15.2)
       else
        (zB (0,sr s (c::r))).bind fun y16=>
        bif y16 then
         (Zq (sr s (c::r))).bind fun y17=>
         some (y17.1,y17.2)
        else
         (strings_IndexByte ([58,59,44,91,93,40,41,123,125],wu8 (pk (c::r) 0))).bind fun y18=>
         bif decide (y18≥0)then
          some ((⟨wu8 (16+wu8 y18),[],0,[],false⟩:zb),sr s r)
         else
          need (decide (1≤((c::r).length:Int)))<|
          some ((⟨9,List.take 1 (c::r),0,[],false⟩:zb),sr s r))=
    zvH s (nxT c r):=by
    unfold nxT
    simp only[zzK hsb hq,Option.bind_some]
    cases hnb:nbS (c::r)with
    |true=>
     rw[cond_true,zxK hs hq hnb,if_pos rfl]
     rfl
    |false=>
     rw[cond_false,if_neg (by decide)]
     cases h3:[45,45,62].isPrefixOf (c::r)with
     |true=>
      rw[cond_true,if_pos rfl,show(3:Int)=((3:Nat):Int)from rfl,zxC (n:=3) hsb hq (zeR h3)]
      rfl
     |false=>
      rw[cond_false,if_neg (by decide)]
      cases h4:[60,33,45,45].isPrefixOf (c::r)with
      |true=>
       rw[cond_true,if_pos rfl,show(4:Int)=((4:Nat):Int)from rfl,zxC (n:=4) hsb hq (zeR h4)]
       rfl
      |false=>
       rw[cond_false,if_neg (by decide),hnm1,hnm0]
       have rest: ∀z:Bool,((some z).bind fun y14=>bif y14 then
        (zG (sr s r)).bind fun y15=>
        some ((⟨3,y15.1,0,[],false⟩:zb),y15.2)
       else
        (some (nmS (c::r))).bind fun y16=>
        bif y16 then
         (Zq (sr s (c::r))).bind fun y17=>
         some (y17.1,y17.2)
        else
         (strings_IndexByte ([58,59,44,91,93,40,41,123,125],wu8 (pk (c::r) 0))).bind fun y18=>
         bif decide (y18≥0)then
          some ((⟨wu8 (16+wu8 y18),[],0,[],false⟩:zb),sr s r)
         else
          need (decide (1≤((c::r).length:Int)))<|
          some ((⟨9,List.take 1 (c::r),0,[],false⟩:zb),sr s r))=zvH s (if z then(⟨3,(zl r).1,0,[],false⟩,(zl r).2)else nxU c r):=by
        intro z
        unfold nxU
        simp only[Option.bind_some]
        cases z with
        |true=>
         rw[cond_true,zyk hsb hr]
         rfl
        |false=>
         rw[cond_false,if_neg (by decide)]
         cases hnm:nmS (c::r)with
         |true=>rw[cond_true,zzt hs hq];rfl
         |false=>
          rw[cond_false,if_neg (by decide),zgp,zcF]
          have hb:(wu8 (c.toNat:Int)).toNat.toUInt8=c:=by
           rw[zk8,Nat.mod_eq_of_lt (UInt8.toNat_lt c),Int.toNat_natCast]
           exact UInt8.ofNat_toNat
          rw[hb]
          obtain⟨m1,m2⟩:=zxv c
          simp only[Option.bind_some,m1]
          cases hm:zcx c==0 with
          |true=>
           rw[Bool.not_true,cond_false,zw (decide_eq_true (by rw[List.length_cons];omega))]
           rfl
          |false=>
           rw[Bool.not_false,cond_true,m2 (beq_eq_false_iff_ne.1 hm)]
           rfl
       cases h64:c==64 with
       |false=>
        have:=rest false
        simp only[Zu,Option.bind_some,cond_false,Bool.false_and]at this ⊢
        exact this
       |true=>
        have:=rest (nmS r)
        simp only[zT,Option.bind_some,cond_true,Bool.true_and]at this ⊢
        exact this
   cases h35:c==35 with
   |false=>
    simp only[Zu,Option.bind_some,cond_false,Bool.and_false,Bool.false_and]
    exact tail
   |true=>
    simp only[zT,Option.bind_some,cond_true,Bool.and_true,Bool.true_and,zpE hsb hq,zst]
    have e1:atS (c::r) 1=atS r 0:=rfl
    rw[e1,hsc]
    have hh:(bif letB (atS r 0)||escS r then(zB (1,sr s (c::r))).bind fun y8=>(zG (sr s r)).bind fun y9=>some ((⟨4,y9.1,0,[],y8⟩:zb),y9.2)else zvH s (nxT c r))=zvH s (if(letB (atS r 0)||escS r)then(⟨4,(zl r).1,0,[],nmS r⟩,(zl r).2)else nxT c r):=by
     cases letB (atS r 0)||escS r with
     |false=>rfl
     |true=>rw[cond_true,hnm1,zyk hsb hr];rfl
    show _=zvH s (if(letB (atS r 0)||escS r)then(⟨4,(zl r).1,0,[],nmS r⟩,(zl r).2)else nxT c r)
    rw[←hh]
    cases hl:letB (atS r 0)with
    |true=>rfl
    |false=>
     simp only[Bool.not_false,zT,Option.bind_some,Bool.false_or]
     cases hes:escS r with
     |true=>rfl
     |false=>rw[cond_false];exact tail
end Go.Lv.VT

namespace Go.Lv.VT
set_option maxRecDepth 100000
def clsS:Str→Option Str
 |[]=>none
 |c::r=>if c==42&&atS r 0==47 then some (r.drop 1)else clsS r
theorem zdC: ∀(l:Str) {r:Str},clsS l=some r→r<:+l∧r.length+2≤l.length
 |[],r,h=>by cases h
 |c::t,r,h=>by
  unfold clsS at h
  split at h
  ·rename_i hc
   rw[Bool.and_eq_true,beq_iff_eq,beq_iff_eq]at hc
   injection h with h
   subst h
   have:=zsN (l:=t) (n:=0) (by rw[hc.2];decide)
   exact⟨(List.drop_suffix 1 t).trans (List.suffix_cons c t),by rw[List.length_drop,List.length_cons];omega⟩
  ·obtain⟨h1,h2⟩:=zdC t h
   exact⟨h1.trans (List.suffix_cons c t),by rw[List.length_cons];omega⟩
theorem pre2(b:UInt8)(l:Str):([42,47]:Str).isPrefixOf (b::l)=(b==42&&atS l 0==47):=by
 have h1:((42:UInt8)==b)=(b==42):=by rw[Bool.eq_iff_iff,beq_iff_eq,beq_iff_eq];exact eq_comm
 rw[List.isPrefixOf,h1]
 cases l with
 |nil=>rfl
 |cons d t=>
  have h2:((47:UInt8)==d)=(d==47):=by rw[Bool.eq_iff_iff,beq_iff_eq,beq_iff_eq];exact eq_comm
  rw[List.isPrefixOf,h2,List.isPrefixOf]
  rw[Bool.and_true];rfl
theorem zoX: ∀l:Str,Lib.index l [42,47]=match clsS l with|none=> -1|some r=>((l.length - r.length - 2:Nat):Int)
 |[]=>rfl
 |b::l=>by
  rw[Lib.index,pre2,clsS]
  cases h:b==42&&atS l 0==47 with
  |true=>
   rw[if_pos rfl,if_pos rfl]
   rw[Bool.and_eq_true,beq_iff_eq,beq_iff_eq]at h
   have:=zsN (l:=l) (n:=0) (by rw[h.2];decide)
   simp only[List.length_drop,List.length_cons]
   omega
  |false=>
   simp only[Bool.false_eq_true,if_false]
   rw[zoX l]
   cases hc:clsS l with
   |none=>rfl
   |some r=>
    have:=(zdC l hc).2
    simp only
    rw[if_neg (by rw[beq_iff_eq];omega),List.length_cons]
    omega
def cmtS(l:Str):Str:=
 if([47,42]:Str).isPrefixOf l then
  (match h:clsS (l.drop 2)with
  |some q=>cmtS q
  |none=>[])
 else l
termination_by l.length
decreasing_by
 have:=(zdC _ h).2
 rw[List.length_drop]at this
 omega
theorem zbz(l:Str):cmtS l=if([47,42]:Str).isPrefixOf l then(match clsS (l.drop 2)with|some q=>cmtS q|none=>[])else l:=by
 rw[cmtS]
 split
 ·split<;>rename_i h<;>rw[h]
 ·rfl
theorem ZQ{l:Str}(h:([47,42]:Str).isPrefixOf l=false):cmtS l=l:=by rw[zbz,h];rfl
theorem zer(l:Str):cmtS l<:+l:=by
 rw[zbz]
 split
 ·split
  ·rename_i q hq
   have h1:=zdC _ hq
   have h2:=h1.2
   rw[List.length_drop]at h2
   exact(zer q).trans (h1.1.trans (List.drop_suffix 2 l))
  ·exact List.nil_suffix
 ·exact List.suffix_refl _
termination_by l.length
decreasing_by
 all_goals first|omega|(simp only[List.length_drop]at *; omega)
theorem zdD(l:Str):cmtS (cmtS l)=cmtS l:=by
 rw[zbz l]
 split
 ·split
  ·rename_i q hq
   have h2:=(zdC _ hq).2
   rw[List.length_drop]at h2
   exact zdD q
  ·exact ZQ rfl
 ·rename_i h
  exact ZQ (Bool.eq_false_iff.2 h)
termination_by l.length
decreasing_by
 all_goals first|omega|(simp only[List.length_drop]at *; omega)
theorem zjN(l:Str):([47,42]:Str).isPrefixOf (cmtS l)=false:=by
 have h:=zdD l
 cases hp:([47,42]:Str).isPrefixOf (cmtS l)with
 |false=>rfl
 |true=>
  exfalso
  rw[zbz (cmtS l),hp,if_pos rfl]at h
  have hl:=zeR hp
  rw[show([47,42]:Str).length=2 from rfl]at hl
  cases hc:clsS ((cmtS l).drop 2)with
  |none=>rw[hc]at h;rw[←h]at hl;simp at hl
  |some q=>
   rw[hc]at h
   have h1:=(zdC _ hc).2
   have h2:=(zer q).length_le
   simp only at h
   rw[h,List.length_drop]at*
   omega
theorem zoz{s q:Str}(hs:s.length≤40000)(hq:q<:+s):Zd (sr s q)=some (sr s (cmtS q)):=by
 have hsb:s.length≤big:=by unfold big;omega
 unfold Zd
 refine zha (fun z=> ∃p,z=sr s p∧p<:+s∧cmtS p=cmtS q) (fun z=>s.length - z.at_.toNat) _ ?_ ⟨q,rfl,hq,rfl⟩
 rintro _ ⟨p,rfl,hp,he⟩
 rw[zw zAx]
 simp only[ze,zuD hp,zaz,Option.bind_some]
 rw[zbz p]at he
 cases hpre:([47,42]:Str).isPrefixOf p with
 |false=>
  rw[hpre,if_neg (by decide)]at he
  exact .inr (.inl ⟨_,rfl,by rw[he]⟩)
 |true=>
  rw[hpre,if_pos rfl]at he
  have hl:=zeR hpre
  rw[show([47,42]:Str).length=2 from rfl]at hl
  have hle:=hp.length_le
  have hb:=ztY hp hl
  have hb2:=zee s (p.drop 2)
  rw[cond_true]
  have hw:w64 ((beh s p:Int)+2)=((beh s (p.drop 2):Nat):Int):=by rw[←hb,zV (by omega) (by omega)];omega
  rw[hw,zw (by rw[decide_eq_true (by omega),decide_eq_true (by omega)];rfl),zuD (zbZ hp 2)]
  have hlen:(p.drop 2).length≤40000:=by rw[List.length_drop];omega
  have hi:zg3 (p.drop 2,[42,47])=some (Lib.index (p.drop 2) [42,47]):=by
   unfold zg3
   rw[zw (by exact decide_eq_true (show(p.drop 2).length<4294967281 by omega))]
  rw[hi,zoX]
  simp only[Option.bind_some]
  cases hc:clsS (p.drop 2)with
  |none=>
   rw[hc]at he
   refine .inr (.inr ?_)
   rw[←he]
   show _=some (LO.ret (⟨s,(beh s []:Int)⟩:za))
   unfold beh
   rw[List.length_nil];rfl
  |some r=>
   rw[hc]at he
   obtain⟨h1,h2⟩:=zdC _ hc
   have hrs:r<:+s:=h1.trans (zbZ hp 2)
   rw[List.length_drop]at h2 hlen
   simp only
   rw[decide_eq_false (by omega),cond_false]
   refine .inl ⟨sr s r,?_,⟨r,rfl,hrs,he⟩,?_⟩
   ·rw[List.length_drop,zV (n:=_+4) (by omega) (by omega)]
    have:(beh s p:Int)+(((p.length - 2 - r.length - 2:Nat):Int)+4)=((beh s r:Nat):Int):=by unfold beh;omega
    rw[this,zV (by have:=zee s r;omega) (by have:=zee s r;omega)]
   ·show s.length - beh s r<s.length - beh s p
    unfold beh;omega
def qw(l:Str):List zb:=
 match h:cmtS l with
 |[]=>[]
 |c::r=>(Zp (c::r)).1::qw (Zp (c::r)).2
termination_by l.length
decreasing_by
 have h1:=(zcH c r).length_le
 have h2:=(zer l).length_le
 rw[h,List.length_cons]at h2
 omega
theorem Q0{l:Str}(h:cmtS l=[]):qw l=[]:=by
 rw[qw]
 split
 ·rfl
 ·rename_i h2;rw[h]at h2;cases h2
theorem zak{l:Str}{c:UInt8}{r:Str}(h:cmtS l=c::r):qw l=(Zp (c::r)).1::qw (Zp (c::r)).2:=by
 rw[qw]
 split
 ·rename_i h2;rw[h]at h2;cases h2
 ·rename_i h2
  rw[h]at h2
  injection h2 with h3 h4
  subst h3 h4
  rfl
theorem zjj(l:Str):qw (cmtS l)=qw l:=by
 cases h:cmtS l with
 |nil=>rw[Q0 h];exact Q0 (ZQ rfl)
 |cons c r=>
  rw[zak h]
  exact zak (by rw[←h,zdD])
theorem zuh: ∀l:Str,(Proofs.Cl.cleanS l).length≤3*l.length:=by
 have: ∀(n:Nat) (l:Str),l.length≤n→(Proofs.Cl.cleanS l).length≤3*l.length:=by
  intro n
  induction n with
  |zero=>
   intro l h
   cases l with
   |nil=>rw[Proofs.Cl.cleanS];exact Nat.le_refl _
   |cons c r=>rw[List.length_cons]at h;omega
  |succ n ih=>
   intro l h
   rw[Proofs.Cl.cleanS.eq_def]
   split
   ·exact Nat.le_refl _
   ·rename_i r
    rw[List.length_cons,List.length_cons]at h
    have:=ih r (by omega)
    rw[List.length_cons,List.length_cons,List.length_cons];omega
   ·rename_i c r _
    rw[List.length_cons]at h
    have:=ih r (by omega)
    rw[Bool.cond_eq_ite]
    split
    ·simp only[List.length_cons];omega
    ·rw[Bool.cond_eq_ite]
     split
     ·simp only[List.length_cons];omega
     ·simp only[List.length_cons];omega
 exact fun l=>this l.length l (Nat.le_refl _)
def zd1(w:Str):List zb×Int:=if 4000<w.length then([],28)else if 1500<(qw (Proofs.Cl.cleanS w)).length then([],4)else(qw (Proofs.Cl.cleanS w),0)
theorem zyW{n:Nat}(h:n≤100000):Ze n 1 56=true:=by unfold Ze;exact decide_eq_true (by omega)
theorem zoc(w:Str):QP w=some (zd1 w):=by
 unfold QP zd1
 by_cases hlong:4000<w.length
 ·have hcl:zgM w=some ([],28):=by unfold zgM;rw[if_pos hlong]
  unfold zbx
  rw[hcl,if_pos hlong]
  rfl
 ·have hcl:zgM w=some (Proofs.Cl.cleanS w,0):=by unfold zgM;rw[if_neg hlong]
  rw[if_neg hlong]
  have h3:=zuh w
  generalize Proofs.Cl.cleanS w=s at hcl h3
  have hs:s.length≤40000:=by omega
  unfold zbx
  rw[hcl]
  simp only[ze,Option.bind_some]
  rw[show((0:Int) != 0)=false from rfl,cond_false,sr_0,zoz hs (List.suffix_refl s)]
  simp only[Option.bind_some]
  have hmain: ∃z:Int×List zb,ZF (fun(s3:Int×List zb×za)=>
    bif decide (s3.2.2.at_<(s.length:Int))then
     bif decide (w64 (s3.1+1)>1500)then
      some (LO.ret (4,s3.2.1))
     else
      (ZY s3.2.2).bind fun y4=>
      (Qo ((y4.1,s3.2.2.at_,y4.2.at_),s3.2.1)).bind fun y5=>
      (Zd y4.2).bind fun y6=>
      some (LO.again (w64 (s3.1+1),y5,y6))
    else
     some (LO.out (s3.2.1,s3.2.2)):Int×List zb×za→Option (LO (Int×List zb×za) (List zb×za) (Int×List zb))) (0,[],sr s (cmtS s)) (fun o7=>some (0,o7.1))=some z∧
    z=(if 1500<(qw s).length then(4,(qw s).take 1500)else(0,qw s)):=by
   refine⟨_,zha (fun z=> ∃(acc:List zb) (q:Str),z=((acc.length:Int),acc,sr s q)∧q<:+s∧cmtS q=q∧acc.length≤1500∧acc++qw q=qw s) (fun z=>s.length - z.2.2.at_.toNat) (if 1500<(qw s).length then(4,(qw s).take 1500)else(0,qw s)) ?_ ⟨[],cmtS s,rfl,zer s,zdD s,by simp,by rw[List.nil_append,zjj]⟩,rfl⟩
   rintro _ ⟨acc,q,rfl,hq,hqc,ha,he⟩
   simp only
   have hle:=hq.length_le
   cases q with
   |nil=>
    have hb:((beh s []:Nat):Int)=(s.length:Int):=by unfold beh;rw[List.length_nil];rfl
    have hd:decide (((beh s []:Nat):Int)<(s.length:Int))=false:=decide_eq_false (by omega)
    simp only[hd,cond_false]
    rw[Q0 (ZQ rfl),List.append_nil]at he
    refine .inr (.inl ⟨_,rfl,?_⟩)
    rw[←he,if_neg (by omega)]
   |cons c r=>
    rw[List.length_cons]at hle
    have hb:beh s (c::r)<s.length:=by unfold beh;rw[List.length_cons];omega
    have hd:decide (((beh s (c::r):Nat):Int)<(s.length:Int))=true:=decide_eq_true (by omega)
    have hw:w64 ((acc.length:Int)+1)=(acc.length:Int)+1:=zV (by omega) (by omega)
    simp only[hd,cond_true,hw]
    rw[zak hqc]at he
    have hlen:=congrArg List.length he
    rw[List.length_append,List.length_cons]at hlen
    by_cases hfull:acc.length=1500
    ·have hd2:decide ((acc.length:Int)+1>1500)=true:=decide_eq_true (by omega)
     simp only[hd2,cond_true]
     refine .inr (.inr ?_)
     rw[if_pos (by omega),←he,←hfull,List.take_left]
    ·have hd2:decide ((acc.length:Int)+1>1500)=false:=decide_eq_false (by omega)
     simp only[hd2,cond_false,zBK hs hq rfl,Option.bind_some]
     unfold Qo
     rw[zw (zyW (by simp only;omega))]
     have hns:(Zp (c::r)).2<:+s:=(zcH c r).trans (zan hq)
     simp only[Option.bind_some,zoz hs hns]
     refine .inl ⟨_,rfl,⟨acc++[(Zp (c::r)).1],cmtS (Zp (c::r)).2,?_,(zer _).trans hns,zdD _,by rw[List.length_append,List.length_singleton];omega,?_⟩,?_⟩
     ·rw[List.length_append,List.length_singleton]
      refine Prod.ext ?_ rfl
      show(acc.length:Int)+1=((acc.length+1:Nat):Int)
      omega
     ·rw[zjj,List.append_assoc];exact he
     ·have h1:=(zcH c r).length_le
      have h2:=(zer (Zp (c::r)).2).length_le
      show s.length - beh s (cmtS (Zp (c::r)).2)<s.length - beh s (c::r)
      unfold beh at*
      rw[List.length_cons]at*
      omega
  obtain⟨z,hz1,hz2⟩:=hmain
  rw[hz1,hz2]
  by_cases hmany:1500<(qw s).length
  ·rw[if_pos hmany,if_pos hmany];rfl
  ·rw[if_neg hmany,if_neg hmany];rfl
end Go.Lv.VT
