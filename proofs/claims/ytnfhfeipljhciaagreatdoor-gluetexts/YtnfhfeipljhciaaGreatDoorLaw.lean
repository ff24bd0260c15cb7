/- The reading of tokens: what the program's text and the reference's come to. -/
import Derived.Test.YtnfhfeipljhciaaGreatDoorTy
import Derived.Test.YtnfhfeipljhciaaGreatDoorMo
import Derived.Test.YtnfhfeipljhciaaGreatDoorTx
set_option linter.unusedSimpArgs false
set_option linter.unusedVariables false
namespace Go.Lv.VT
def atS(l:Str)(n:Nat):UInt8:=l.getD n 0
def digB(b:UInt8):Bool:=decide (48≤b.toNat)&&decide (b.toNat≤57)
def spB(b:UInt8):Bool:=b==10||b==9||b==32
def alB(b:UInt8):Bool:=decide (65≤b.toNat)&&decide (b.toNat≤90)||decide (97≤b.toNat)&&decide (b.toNat≤122)
def fstB(b:UInt8):Bool:=alB b||b==95||decide (128≤b.toNat)
def letB(b:UInt8):Bool:=fstB b||digB b||b==45
def hexN(b:UInt8):Nat:=
 if digB b then b.toNat - 48 else if 97≤b.toNat∧b.toNat≤102 then b.toNat - 87 else if 65≤b.toNat∧b.toNat≤70 then b.toNat - 55 else 16
def qJ(b:UInt8):Bool:=decide (hexN b<16)
def escS(l:Str):Bool:=atS l 0==92&& !(atS l 1==10)
def nmS(l:Str):Bool:=if atS l 0==45 then fstB (atS l 1)||atS l 1==45||escS (l.drop 1)else fstB (atS l 0)||escS l
def zaF(b:UInt8):Bool:=b==43||b==45
def unsign(l:Str):Str:=if zaF (atS l 0)then l.drop 1 else l
def undot(l:Str):Str:=if atS l 0==46 then l.drop 1 else l
def nbS(l:Str):Bool:=digB (atS (undot (unsign l)) 0)
def zph:Str:=[239,191,189]
def zd8(n:Nat):Str:=
 if n=0∨(55296≤n∧n≤57343)∨1114111<n then zph
 else if n<128 then [UInt8.ofNat n]
 else if n<2048 then [UInt8.ofNat (192+n / 64),UInt8.ofNat (128+n%64)]
 else if n<65536 then [UInt8.ofNat (224+n / 4096),UInt8.ofNat (128+n / 64%64),UInt8.ofNat (128+n%64)]
 else [UInt8.ofNat (240+n / 262144),UInt8.ofNat (128+n / 4096%64),UInt8.ofNat (128+n / 64%64),UInt8.ofNat (128+n%64)]
def hexes:Nat→Nat→Str→Nat×Str
 |0,n,l=>(n,l)
 |_+1,n,[]=>(n,[])
 |k+1,n,c::r=>if qJ c then hexes k (16*n+hexN c) r else(n,c::r)
def unsp:Str→Str
 |[]=>[]
 |c::r=>if spB c then r else c::r
def zm:Str→Str×Str
 |[]=>(zph,[])
 |c::r=>if qJ c then(zd8 (hexes 6 0 (c::r)).1,unsp (hexes 6 0 (c::r)).2)else([c],r)
theorem zg5: ∀(k n:Nat) (l:Str),(hexes k n l).2<:+l
 |0,n,l=>List.suffix_refl l
 |k+1,n,[]=>List.suffix_refl _
 |k+1,n,c::r=>by
  unfold hexes
  split
  ·exact(zg5 k _ r).trans (List.suffix_cons c r)
  ·exact List.suffix_refl _
theorem zym(l:Str):unsp l<:+l:=by
 cases l with
 |nil=>exact List.suffix_refl _
 |cons c r=>
  show(if spB c then r else c::r)<:+c::r
  split
  ·exact List.suffix_cons c r
  ·exact List.suffix_refl _
theorem ZF(l:Str):(zm l).2<:+l:=by
 cases l with
 |nil=>exact List.suffix_refl _
 |cons c r=>
  show(if qJ c then(zd8 (hexes 6 0 (c::r)).1,unsp (hexes 6 0 (c::r)).2)else([c],r)).2<:+c::r
  split
  ·exact(zym _).trans (zg5 6 0 _)
  ·exact List.suffix_cons c r
theorem zB(l:Str):(zm l).2.length≤l.length:=(ZF l).length_le
def zl:Str→Str×Str
 |[]=>([],[])
 |c::r=>
  if letB c then((c::(zl r).1),(zl r).2)
  else if escS (c::r)then((zm r).1++(zl (zm r).2).1,(zl (zm r).2).2)
  else([],c::r)
termination_by l=>l.length
decreasing_by
 all_goals first|(have:=zB r;simp only[List.length_cons];omega)|(simp only[List.length_cons];omega)
def past(p:UInt8→Bool):Str→Str
 |[]=>[]
 |c::r=>if p c then past p r else c::r
theorem zcJ(p:UInt8→Bool): ∀l:Str,past p l<:+l
 |[]=>List.suffix_refl _
 |c::r=>by
  unfold past
  split
  ·exact(zcJ p r).trans (List.suffix_cons c r)
  ·exact List.suffix_refl _
def zK(l:Str):Str×Bool:=
 if atS l 0==46&&digB (atS l 1)then(past digB (l.drop 1),false)else(l,true)
def expS(l:Str):Option Str:=
 if atS l 0==101||atS l 0==69 then(if digB (atS (unsign (l.drop 1)) 0)then some (past digB (unsign (l.drop 1)))else none)else none
def zA(l:Str):Str×Bool:=
 let x:=zK (past digB (unsign l))
 match expS x.1 with
 |some r=>(r,false)
 |none=>x
def decN(n:Nat)(b:UInt8):Nat:=10*n+(b.toNat - 48)
def zU(m:UInt8):Str→Option Str×Str
 |[]=>(some [],[])
 |c::r=>
  if c==m then(some [],r)
  else if c==10 then(none,c::r)
  else if c==92 then
   (if r.isEmpty then(some [],[])
   else if atS r 0==10 then zU m (r.drop 1)
   else((zU m (zm r).2).1.map ((zm r).1++ ·),(zU m (zm r).2).2))
  else((zU m r).1.map (c:: ·),(zU m r).2)
termination_by l=>l.length
decreasing_by
 all_goals first|(have:=zB r;simp only[List.length_cons];omega)|(simp only[List.length_cons,List.length_drop];omega)
def badS:Str→Str
 |[]=>[]
 |c::r=>if c==41 then r else if escS (c::r)then badS (zm r).2 else badS r
termination_by l=>l.length
decreasing_by
 all_goals first|(have:=zB r;simp only[List.length_cons];omega)|(simp only[List.length_cons];omega)
def unB(b:UInt8):Bool:=decide (b.toNat≤8)||b==11||decide (14≤b.toNat)&&decide (b.toNat≤31)||b==127
def urlS:Str→Option Str×Str
 |[]=>(some [],[])
 |c::r=>
  if c==41 then(some [],r)
  else if spB c then(match past spB r with
   |[]=>(some [],[])
   |d::r'=>if d==41 then(some [],r')else(none,badS (d::r')))
  else if c==34||c==39||c==40||unB c||c==92&& !escS (c::r)then(none,badS (c::r))
  else if c==92 then((urlS (zm r).2).1.map ((zm r).1++ ·),(urlS (zm r).2).2)
  else((urlS r).1.map (c:: ·),(urlS r).2)
termination_by l=>l.length
decreasing_by
 all_goals first|(have:=zB r;simp only[List.length_cons];omega)|(simp only[List.length_cons];omega)
def zcz(b:UInt8):Int:=
 if b==58 then 16 else if b==59 then 17 else if b==44 then 18 else if b==91 then 19 else if b==93 then 20 else if b==40 then 21 else if b==41 then 22 else if b==123 then 23 else if b==125 then 24 else 0
def zeI(k:Int):zb:=⟨k,[],0,[],false⟩
def zfG:Nat:=1000000000000
def zdx:Nat→Nat→Nat
 |0,n=>n
 |k+1,n=>if n=0∨zfG≤n then n else zdx k (min zfG (10*n))
end Go.Lv.VT

namespace Go.Lv.VT
set_option maxRecDepth 100000
abbrev sc(s:Str)(k:Nat):za:=⟨s,(k:Int)⟩
def pk(l:Str)(n:Nat):Int:=match l[n]? with|some b=>(b.toNat:Int)|none=> -1
def beh(s r:Str):Nat:=s.length - r.length
theorem zT{n:Int}(h1: -9223372036854775808≤n)(h2:n≤9223372036854775807):w64 n=n:=zhG h1 h2
theorem zfm{s r:Str}(h:r<:+s):s.drop (beh s r)=r:=by
 obtain⟨t,rfl⟩:=h
 unfold beh
 rw[List.length_append,show t.length+r.length - r.length=t.length by omega,List.drop_left]
theorem zel(s r:Str):beh s r≤s.length:=by unfold beh;omega
theorem zwS{s:Str}{k:Nat}(h:k≤s.length):beh s (s.drop k)=k:=by unfold beh;rw[List.length_drop];omega
theorem znJ{s:Str}{k n:Nat}(hs:s.length≤big)(hk:k≤s.length)(hn:n≤8):zf ((n:Int),sc s k)=some (pk (s.drop k) n):=by
 have hb:big=4194304:=rfl
 have e:w64 ((k:Int)+(n:Int))=((k+n:Nat):Int):=by rw[zT (by omega) (by omega)];omega
 unfold zf pk
 simp only[e]
 rw[List.getElem?_drop]
 by_cases h:k+n<s.length
 ·rw[decide_eq_true (by omega),cond_true]
  have hg:geti s ((k+n:Nat):Int)=some s[k+n]:=zbe h
  have hlt:=UInt8.toNat_lt s[k+n]
  simp only[ze,hg,Option.bind_some,List.getElem?_eq_getElem h]
  rw[zT (by omega) (by omega)]
 ·rw[decide_eq_false (by omega),cond_false,List.getElem?_eq_none (by omega)]
theorem zvT{s:Str}{k:Nat}(hs:s.length≤big)(hk:k≤s.length):zf (0,sc s k)=some (pk (s.drop k) 0):=znJ (n:=0) hs hk (by omega)
theorem zz8{s:Str}{k:Nat}(hs:s.length≤big)(hk:k≤s.length):zf (1,sc s k)=some (pk (s.drop k) 1):=znJ (n:=1) hs hk (by omega)
theorem zBV{s:Str}{k:Nat}(hs:s.length≤big)(hk:k≤s.length):zf (2,sc s k)=some (pk (s.drop k) 2):=znJ (n:=2) hs hk (by omega)
theorem zvE{β:Type}{f:Int→Option β}{p:UInt8→β}(h: ∀b:UInt8,f (b.toNat:Int)=some (p b))(h0:f (-1)=some (p 0))(l:Str)(n:Nat):f (pk l n)=some (p (atS l n)):=by
 unfold pk atS
 rw[List.getD_eq_getElem?_getD]
 cases l[n]? with
 |none=>exact h0
 |some b=>exact h b
theorem zmm{β:Type}{f g:Int→Option β}{p:UInt8→β}(hf: ∀x,Le (g x) (f x))(h: ∀n:Nat,n<256→g (n:Int)=some (p (UInt8.ofNat n)))(b:UInt8):f (b.toNat:Int)=some (p b):=by
 have:=hf _ _ (h b.toNat (UInt8.toNat_lt b))
 rwa [UInt8.ofNat_toNat]at this
theorem zk4(l:Str)(n:Nat):ZA (pk l n)=some (spB (atS l n)):=zvE (zmm (zfZ 1) (by decide+kernel)) (zfZ 1 _ _ (by decide+kernel)) l n
theorem zfc(l:Str)(n:Nat):Zc (pk l n)=some (digB (atS l n)):=zvE (zmm (zbr 1) (by decide+kernel)) (zbr 1 _ _ (by decide+kernel)) l n
theorem zAo(l:Str)(n:Nat):Qn (pk l n)=some (fstB (atS l n)):=zvE (zmm (zc0 1) (by decide+kernel)) (zc0 1 _ _ (by decide+kernel)) l n
theorem zsy(l:Str)(n:Nat):Qe (pk l n)=some (letB (atS l n)):=zvE (zmm (zeL 1) (by decide+kernel)) (zeL 1 _ _ (by decide+kernel)) l n
def hexI(b:UInt8):Int:=if qJ b then(hexN b:Int)else -1
theorem zyc(l:Str)(n:Nat):zal (pk l n)=some (hexI (atS l n)):=zvE (zmm (ziL 1) (by decide+kernel)) (ziL 1 _ _ (by decide+kernel)) l n
theorem zhs(l:Str)(n:Nat)(c:UInt8)(h:c≠0):(pk l n==(c.toNat:Int))=(atS l n==c):=by
 unfold pk atS
 rw[List.getD_eq_getElem?_getD]
 cases l[n]? with
 |none=>
  have h1:((-1:Int)==(c.toNat:Int))=false:=beq_eq_false_iff_ne.2 (by omega)
  have h2:((none:Option UInt8).getD 0==c)=false:=beq_eq_false_iff_ne.2 (fun e=>h e.symm)
  rw[h2];exact h1
 |some b=>
  show((b.toNat:Int)==(c.toNat:Int))=(b==c)
  by_cases e:b=c
  ·subst e;rw[beq_self_eq_true,beq_self_eq_true]
  ·have:b.toNat≠c.toNat:=fun h=>e (UInt8.toNat_inj.1 h)
   rw[beq_eq_false_iff_ne.2 e,beq_eq_false_iff_ne.2 (by omega)]
theorem zz9(l:Str)(n:Nat):(pk l n==10)=(atS l n==10):=zhs l n 10 (by decide)
theorem zBn(l:Str)(n:Nat):(pk l n==34)=(atS l n==34):=zhs l n 34 (by decide)
theorem zBW(l:Str)(n:Nat):(pk l n==35)=(atS l n==35):=zhs l n 35 (by decide)
theorem zBX(l:Str)(n:Nat):(pk l n==37)=(atS l n==37):=zhs l n 37 (by decide)
theorem zBo(l:Str)(n:Nat):(pk l n==39)=(atS l n==39):=zhs l n 39 (by decide)
theorem zBY(l:Str)(n:Nat):(pk l n==40)=(atS l n==40):=zhs l n 40 (by decide)
theorem zAa(l:Str)(n:Nat):(pk l n==41)=(atS l n==41):=zhs l n 41 (by decide)
theorem zAb(l:Str)(n:Nat):(pk l n==43)=(atS l n==43):=zhs l n 43 (by decide)
theorem zvW(l:Str)(n:Nat):(pk l n==45)=(atS l n==45):=zhs l n 45 (by decide)
theorem zAc(l:Str)(n:Nat):(pk l n==46)=(atS l n==46):=zhs l n 46 (by decide)
theorem zBZ(l:Str)(n:Nat):(pk l n==64)=(atS l n==64):=zhs l n 64 (by decide)
theorem zB0(l:Str)(n:Nat):(pk l n==69)=(atS l n==69):=zhs l n 69 (by decide)
theorem zBp(l:Str)(n:Nat):(pk l n==92)=(atS l n==92):=zhs l n 92 (by decide)
theorem zBm(l:Str)(n:Nat):(pk l n==101)=(atS l n==101):=zhs l n 101 (by decide)
theorem zkN(l:Str):(pk l 0== -1)=l.isEmpty:=by
 cases l with
 |nil=>rfl
 |cons b r=>
  show((b.toNat:Int)== -1)=false
  exact beq_eq_false_iff_ne.2 (by omega)
theorem Qg(l:Str)(k n:Nat):atS (l.drop k) n=atS l (k+n):=by
 unfold atS
 rw[List.getD_eq_getElem?_getD,List.getD_eq_getElem?_getD,List.getElem?_drop]
theorem zsv {R:Type} {step:za→Option (LO za za R)} {s:Str} (p:UInt8→Bool) (h0:p 0=false)
  (h: ∀k,k≤s.length→step (sc s k)=some (bif p (atS (s.drop k) 0)then .again (sc s (k+1))else .out (sc s k))) {k:Nat} (hk:k≤s.length):
  zdS step (sc s k)=some (.out (sc s (beh s (past p (s.drop k))))):=by
 refine qP (fun z=> ∃j,z=sc s j∧j≤s.length∧past p (s.drop j)=past p (s.drop k)) (fun z=>s.length - z.at_.toNat) _ ?_ ⟨k,rfl,hk,rfl⟩
 rintro _ ⟨j,rfl,hj,he⟩
 rw[h j hj]
 cases hd:s.drop j with
 |nil=>
  rw[show atS ([]:Str) 0=0 from rfl,h0,cond_false]
  refine .inr (.inl ⟨_,rfl,?_⟩)
  rw[←he,hd]
  have:j=s.length:=by have:=List.drop_eq_nil_iff.1 hd;omega
  subst this
  show LX.out (sc s (beh s []))=_
  unfold beh
  rw[List.length_nil,Nat.sub_zero]
 |cons c r=>
  have hlt:j<s.length:=by
   rcases Nat.lt_or_ge j s.length with h'|h'
   ·exact h'
   ·rw[List.drop_eq_nil_of_le h']at hd;cases hd
  have hr:s.drop (j+1)=r:=by
   have:=List.drop_eq_getElem_cons hlt
   rw[hd]at this
   injection this with _ h2
   exact h2.symm
  rw[show atS (c::r) 0=c from rfl]
  cases hp:p c with
  |true=>
   refine .inl ⟨_,rfl,⟨j+1,rfl,by omega,?_⟩,by simp only[Int.toNat_natCast];omega⟩
   rw[hr,←he,hd,past,hp];rfl
  |false=>
   refine .inr (.inl ⟨_,rfl,?_⟩)
   rw[←he,hd,past,hp,if_neg (by decide),←hd,zwS hj]
theorem zwi{s:Str}{k:Nat}(hs:s.length≤big)(hk:k≤s.length):w64 ((k:Int)+1)=((k+1:Nat):Int):=by
 have hb:big=4194304:=rfl
 rw[zT (by omega) (by omega)];omega
theorem zys{s:Str}{k:Nat}(hs:s.length≤big)(hk:k≤s.length):zM (sc s k)=some (sc s (beh s (past spB (s.drop k)))):=by
 unfold zM
 rw[qQ (zsv spB rfl (fun j hj=> ?_) hk)]
 simp only[ze,zvT hs hj,Option.bind_some,zk4,zwi hs hj]
 cases spB (atS (s.drop j) 0)<;>rfl
theorem zwG{s:Str}{k:Nat}(hs:s.length≤big)(hk:k≤s.length):zJ (sc s k)=some (sc s (beh s (past digB (s.drop k)))):=by
 unfold zJ
 rw[qQ (zsv digB rfl (fun j hj=> ?_) hk)]
 simp only[ze,zvT hs hj,Option.bind_some,zfc,zwi hs hj]
 cases digB (atS (s.drop j) 0)<;>rfl
theorem number_eq{s:Str}{k:Nat}(hs:s.length≤big)(hk:k≤s.length):Zj (sc s k)=some (nbS (s.drop k)):=by
 unfold Zj nbS unsign undot zaF
 simp only[ze,zvT hs hk,Option.bind_some,zAb,zvW]
 have key: ∀(b:Bool),(zW (X:=Int) (bif b then some (LX.out 1)else some (LX.out 0)) fun j2=>
   zW (X:=Int) ((zf (j2,sc s k)).bind fun y3=>bif y3==46 then some (LX.out (w64 (j2+1)))else some (LX.out j2)) fun j4=>
   (zf (j4,sc s k)).bind fun y5=>(Zc y5).bind fun y6=>some y6)=some (digB (atS (if atS (if b then(s.drop k).drop 1 else s.drop k) 0==46 then(if b then(s.drop k).drop 1 else s.drop k).drop 1 else(if b then(s.drop k).drop 1 else s.drop k)) 0)):=by
  intro b
  cases b with
  |false=>
   simp only[cond_false,zg,zvT hs hk,Option.bind_some,zAc,Bool.false_eq_true,if_false]
   cases h:atS (s.drop k) 0==46 with
   |false=>simp only[cond_false,zg,zvT hs hk,Option.bind_some,zfc,Bool.false_eq_true,if_false]
   |true=>
    simp only[cond_true,zg,if_true]
    rw[show w64 (0+1)=1 from rfl,zz8 hs hk]
    simp only[Option.bind_some,zfc]
    rw[Qg (s.drop k) 1 0]
  |true=>
   simp only[cond_true,zg,zz8 hs hk,Option.bind_some,zAc,if_true]
   rw[Qg (s.drop k) 1 0]
   cases h:atS (s.drop k) (1+0)==46 with
   |false=>
    simp only[Nat.add_zero]at h
    simp only[h,cond_false,zg,zz8 hs hk,Option.bind_some,zfc,Bool.false_eq_true,if_false]
    rw[Qg (s.drop k) 1 0]
   |true=>
    simp only[Nat.add_zero]at h
    simp only[h,cond_true,zg,if_true]
    rw[show w64 (1+1)=2 from rfl,zBV hs hk]
    simp only[Option.bind_some,zfc]
    rw[List.drop_drop,Qg (s.drop k) (1+1) 0]
 have:=key (atS (s.drop k) 0==43||atS (s.drop k) 0==45)
 rw[show(bif atS (s.drop k) 0==43 then true else atS (s.drop k) 0==45)=(atS (s.drop k) 0==43||atS (s.drop k) 0==45)from by cases (atS (s.drop k) 0==43)<;>rfl]
 exact this
end Go.Lv.VT

namespace Go.Lv.VT
set_option maxRecDepth 100000
abbrev sr(s r:Str):za:=sc s (beh s r)
theorem sr_0(s:Str):(⟨s,0⟩:za)=sr s s:=by
 show sc s 0=sc s (beh s s)
 unfold beh
 rw[Nat.sub_self]
theorem zrm{s r:Str}{n:Nat}(hs:s.length≤big)(hr:r<:+s)(hn:n≤8):zf ((n:Int),sr s r)=some (pk r n):=by
 rw[znJ hs (zel s r) hn,zfm hr]
theorem zaY{s r:Str}(hs:s.length≤big)(hr:r<:+s):zf (0,sr s r)=some (pk r 0):=zrm (n:=0) hs hr (by omega)
theorem zpM{s r:Str}(hs:s.length≤big)(hr:r<:+s):zf (1,sr s r)=some (pk r 1):=zrm (n:=1) hs hr (by omega)
theorem zBl{s r:Str}(hs:s.length≤big)(hr:r<:+s):zf (2,sr s r)=some (pk r 2):=zrm (n:=2) hs hr (by omega)
theorem zsN{s r:Str}(hs:s.length≤big)(hr:r<:+s):zM (sr s r)=some (sr s (past spB r)):=by
 rw[zys hs (zel s r),zfm hr]
theorem zoe{s r:Str}(hs:s.length≤big)(hr:r<:+s):zJ (sr s r)=some (sr s (past digB r)):=by
 rw[zwG hs (zel s r),zfm hr]
theorem zzW{s r:Str}(hs:s.length≤big)(hr:r<:+s):Zj (sr s r)=some (nbS r):=by
 rw[number_eq hs (zel s r),zfm hr]
theorem zt8{s r:Str}{n:Nat}(hr:r<:+s)(hn:n≤r.length):beh s r+n=beh s (r.drop n):=by
 have:=hr.length_le
 unfold beh
 rw[List.length_drop];omega
theorem zxJ{s r:Str}{n:Nat}(hs:s.length≤big)(hr:r<:+s)(hn:n≤r.length):(⟨s,w64 ((beh s r:Int)+(n:Int))⟩:za)=sr s (r.drop n):=by
 have hb:big=4194304:=rfl
 have:=zel s r
 have h2:=hr.length_le
 rw[zT (by omega) (by omega),show(beh s r:Int)+(n:Int)=((beh s r+n:Nat):Int) by omega,zt8 hr hn]
theorem zsV{l:Str}{n:Nat}(h:atS l n≠0):n<l.length:=by
 rcases Nat.lt_or_ge n l.length with h'|h'
 ·exact h'
 ·exact absurd (by unfold atS;rw[List.getD_eq_getElem?_getD,List.getElem?_eq_none h'];rfl) h
theorem zvu{s r:Str}(hs:s.length≤big)(hr:r<:+s)(h:atS r 0≠0):(⟨s,w64 ((beh s r:Int)+1)⟩:za)=sr s (r.drop 1):=zxJ (n:=1) hs hr (zsV h)
theorem zb0{s r:Str}(hr:r<:+s)(n:Nat):r.drop n<:+s:=(List.drop_suffix n r).trans hr
theorem zd5{s r:Str}(p:UInt8→Bool)(hr:r<:+s):past p r<:+s:=(zcJ p r).trans hr
theorem zis{s r:Str}(hr:r<:+s):unsign r<:+s:=by
 unfold unsign
 split
 ·exact zb0 hr 1
 ·exact hr
theorem zwj{b:UInt8}(h:zaF b=true):b≠0:=by rintro rfl;revert h;decide
theorem zz3(a b:Bool):(bif a then true else b)=(a||b):=by cases a<;>rfl
theorem zyy(a b:Bool):(bif a then b else false)=(a&&b):=by cases a<;>rfl
theorem zqm{s r:Str}(hr:r<:+s):(zK r).1<:+s:=by
 unfold zK
 split
 ·exact zd5 _ (zb0 hr 1)
 ·exact hr
theorem zuU{s r q:Str}(hr:r<:+s)(h:expS r=some q):q<:+s:=by
 unfold expS at h
 split at h
 ·split at h
  ·cases h
   exact zd5 _ (zis (zb0 hr 1))
  ·cases h
 ·cases h
theorem ztx{s r:Str}(hr:r<:+s):(zA r).1<:+s:=by
 unfold zA
 have h1:=zqm (zd5 digB (zis hr))
 simp only
 cases h:expS (zK (past digB (unsign r))).1 with
 |some q=>exact zuU h1 h
 |none=>exact h1
theorem zxi{s l:Str}(hs:s.length≤big)(hl:l<:+s):ZT (sr s l)=some ((zA l).2,sr s (zA l).1):=by
 unfold ZT
 simp only[ze,zaY hs hl,Option.bind_some,zAb,zvW,zz3]
 have e1:(bif (atS l 0==43||atS l 0==45)then some (LX.out (⟨s,w64 ((beh s l:Int)+1)⟩:za))else some (LX.out (sr s l)))=(some (LX.out (sr s (unsign l))):Option (LX za (Bool×za))):=by
  unfold unsign
  cases h:zaF (atS l 0)with
  |true=>
   have h':(atS l 0==43||atS l 0==45)=true:=h
   rw[h',cond_true,if_pos rfl,zvu hs hl (zwj h)]
  |false=>
   have h':(atS l 0==43||atS l 0==45)=false:=h
   rw[h',cond_false,if_neg (by decide)]
 rw[e1,zg]
 have hu:=zis hl
 rw[zoe hs hu]
 simp only[Option.bind_some]
 have hp:=zd5 digB hu
 unfold zA
 generalize past digB (unsign l)=q at hp ⊢
 have e2:zW (X:=Bool×za) (R:=Bool×za) ((zf (0,sr s q)).bind fun y4=>
   (zn (y4==46) (zf (1,sr s q)) (default:Int)).bind fun y5=>
   (zn (y4==46) (Zc y5) (default:Bool)).bind fun y6=>
   bif bif y4==46 then y6 else false then(zJ (⟨s,w64 ((beh s q:Int)+1)⟩:za)).bind fun y7=>some (LX.out (false,y7))else some (LX.out (true,sr s q)))=zW (some (LX.out ((zK q).2,sr s (zK q).1))):=by
  congr 1
  unfold zK
  simp only[zaY hs hp,zpM hs hp,Option.bind_some,zAc]
  cases h:atS q 0==46 with
  |false=>simp only[Zq,Option.bind_some,cond_false,Bool.false_and,Bool.false_eq_true,if_false]
  |true=>
   simp only[zR,Option.bind_some,cond_true,zfc,Bool.true_and]
   cases h2:digB (atS q 1)with
   |false=>simp only[cond_false,Bool.false_eq_true,if_false]
   |true=>
    rw[cond_true,if_pos rfl,zvu hs hp (by rw[beq_iff_eq.1 h];decide),zoe hs (zb0 hp 1)]
    rfl
 rw[e2,zg]
 have hw:=zqm hp
 generalize zK q=W at hw ⊢
 obtain⟨w,i⟩:=W
 simp only at hw ⊢
 have e3:((zf (0,sr s w)).bind fun y9=>
   (zn (!(y9==101)) (zf (0,sr s w)) (default:Int)).bind fun y10=>
   bif bif y9==101 then true else y10==69 then
    zW (X:=(Bool×Int)×za) ((zf (1,sr s w)).bind fun y11=>bif bif y11==43 then true else y11==45 then some (LX.out ((i,2),sr s w))else some (LX.out ((i,1),sr s w))) fun j12=>
    (zf (j12.1.2,j12.2)).bind fun y13=>(Zc y13).bind fun y14=>
    bif y14 then(zJ (⟨j12.2.s,w64 (j12.2.at_+j12.1.2)⟩:za)).bind fun y15=>some (LX.out (false,y15))else some (LX.out (j12.1.1,j12.2))
   else some (LX.out (i,sr s w)))=(some (LX.out (match expS w with|some r=>(false,sr s r)|none=>(i,sr s w))):Option (LX (Bool×za) (Bool×za))):=by
  simp only[zaY hs hw,Option.bind_some,zBm]
  have e4:((zn (!(atS w 0==101)) (some (pk w 0)) (default:Int)).bind fun y10=>(some (bif atS w 0==101 then true else y10==69):Option Bool))=some (atS w 0==101||atS w 0==69):=by
   cases h:atS w 0==101 with
   |true=>rfl
   |false=>simp only[Bool.not_false,zR,Option.bind_some,cond_false,zB0,Bool.false_or]
  have e5: ∀(f:Bool→Option (LX (Bool×za) (Bool×za))),((zn (!(atS w 0==101)) (some (pk w 0)) (default:Int)).bind fun y10=>f (bif atS w 0==101 then true else y10==69))=f (atS w 0==101||atS w 0==69):=by
   intro f
   have:=congrArg (fun o=>Option.bind o f) e4
   simpa [Option.bind_assoc] using this
  refine(e5 (fun b=>bif b then _ else _)).trans ?_
  unfold expS
  cases h:(atS w 0==101||atS w 0==69)with
  |false=>rfl
  |true=>
   have hne:atS w 0≠0:=by
    intro e;rw[e]at h;revert h;decide
   simp only[cond_true,if_true,zpM hs hw,Option.bind_some,zAb,zvW,zz3]
   unfold unsign
   have hd:atS (w.drop 1) 0=atS w 1:=by rw[Qg w 1 0]
   rw[hd]
   cases hg:(atS w 1==43||atS w 1==45)with
   |true=>
    have hg':zaF (atS w 1)=true:=hg
    have hl2:=zsV (zwj hg')
    simp only[cond_true,zg,zBl hs hw,Option.bind_some,zfc,hg',if_true,List.drop_drop]
    rw[show atS (w.drop (1+1)) 0=atS w 2 by rw[Qg w 2 0]]
    cases hq:digB (atS w 2)with
    |false=>rfl
    |true=>
     rw[cond_true,if_pos rfl,show(2:Int)=((2:Nat):Int)from rfl,zxJ hs hw (by omega),zoe hs (zb0 hw 2)]
     rfl
   |false=>
    have hg':zaF (atS w 1)=false:=hg
    simp only[cond_false,zg,zpM hs hw,Option.bind_some,zfc,hg',Bool.false_eq_true,if_false]
    rw[hd]
    cases hq:digB (atS w 1)with
    |false=>rfl
    |true=>
     rw[cond_true,if_pos rfl,zvu hs hw hne,zoe hs (zb0 hw 1)]
     rfl
 refine(congrArg (fun o=>zW o _) e3).trans ?_
 rw[zg]
 cases expS w<;>rfl
end Go.Lv.VT

namespace Go.Lv.VT
set_option maxRecDepth 100000
def valG(n:Nat)(l:Str):Nat:=l.foldl decN n
theorem zjs(n:Nat)(a b:Str):valG n (a++b)=valG (valG n a) b:=List.foldl_append
theorem zrR{k:Nat}(h:k<10):digB (UInt8.ofNat (48+k))=true∧(UInt8.ofNat (48+k)).toNat=48+k:=by
 have:(UInt8.ofNat (48+k)).toNat=48+k:=by rw[UInt8.toNat_ofNat'];omega
 refine⟨?_,this⟩
 unfold digB
 rw[this,decide_eq_true (by omega),decide_eq_true (by omega)];rfl
theorem zhS: ∀(u:Nat),(Lib.decDigits u).all digB=true∧valG 0 (Lib.decDigits u)=u∧Lib.decDigits u≠[]:=by
 intro u
 induction u using Nat.strongRecOn with
 |_ u ih=>
  rw[Lib.decDigits]
  by_cases h:u<10
  ·rw[dif_pos h]
   obtain⟨h1,h2⟩:=zrR h
   refine⟨by rw[List.all_cons,h1];rfl,?_,by simp⟩
   show decN 0 _=u
   unfold decN;rw[h2];omega
  ·rw[dif_neg h]
   obtain⟨a,b,c⟩:=ih (u / 10) (by omega)
   obtain⟨h1,h2⟩:=zrR (k:=u%10) (by omega)
   refine⟨by rw[List.all_append,a,List.all_cons,h1];rfl,?_,by simp⟩
   rw[zjs,b]
   show decN _ _=u
   unfold decN;rw[h2];omega
theorem zjh: ∀(q t:Str),q.all digB=true→past digB (q++t)=past digB t
 |[],t,_=>rfl
 |c::q,t,h=>by
  rw[List.all_cons,Bool.and_eq_true]at h
  rw[List.cons_append,past,if_pos h.1,zjh q t h.2]
def d48(k:Nat):UInt8:=UInt8.ofNat (48+k)
def zg0(r:Nat):Str:=Lib.trimRightB [d48 (r / 100),d48 (r / 10%10),d48 (r%10)] 48
theorem zw7{r:Nat}(h:r<1000):Lib.decDigits (1000+r)=49::[d48 (r / 100),d48 (r / 10%10),d48 (r%10)]:=by
 rw[Lib.decDigits,dif_neg (by omega),Lib.decDigits,dif_neg (by omega),Lib.decDigits,dif_neg (by omega),Lib.decDigits,dif_pos (by omega)]
 rw[show(1000+r) / 10 / 10 / 10=1 by omega,show(1000+r) / 10 / 10%10=r / 100 by omega,show(1000+r) / 10%10=r / 10%10 by omega,show(1000+r)%10=r%10 by omega]
 rfl
def zrY(r:Nat):Bool:=(zg0 r).all digB&&decide ((zg0 r).length≤3)&&decide (valG 0 (zg0 r)*10 ^ (3 - (zg0 r).length)=r)&&((zg0 r).isEmpty==(r==0))&& !((zg0 r).getLast? ==some 48)
theorem zm5: ∀r,r<1000→zrY r=true:=by decide+kernel
def zqa(r:Nat)(p:Bool):Str:=bif (zg0 r).isEmpty then(bif p then [46,48]else [])else 46::zg0 r
def zbM(m:Nat)(p:Bool):Str:=Lib.decDigits (m / 1000)++zqa (m%1000) p
def numT(n:Int)(p:Bool):Str:=(if n<0 then [45]else [])++zbM n.natAbs p
theorem zjZ{u:Nat}(h:u<18446744073709551616):(Lib.decDigits u).length≤20:=by
 rw[Lib.decDigits_length]
 by_cases h1:u=0
 ·subst h1;rw[Lib.nDigits_small (by omega)];omega
 ·have:=Lib.numDigits_eq u (by omega) h;split at this<;>omega
theorem zyd{r:Nat}(h:r<1000)(p:Bool):(zqa r p).length≤4:=by
 have:=zm5 r h
 simp only[zrY,Bool.and_eq_true,decide_eq_true_eq]at this
 unfold zqa
 cases (zg0 r).isEmpty with
 |true=>cases p<;>simp
 |false=>simp only[cond_false,List.length_cons];omega
theorem zi5{m:Nat}(h:m≤1000000000000)(p:Bool):(zbM m p).length≤24:=by
 unfold zbM
 rw[List.length_append]
 have:=zjZ (u:=m / 1000) (by omega)
 have:=zyd (r:=m%1000) (by omega) p
 omega
theorem zmJ{n m b:Nat}(h:n+m≤100000)(hb:b≤100):Ze n m b=true:=by
 unfold Ze
 refine decide_eq_true ?_
 have:=Nat.mul_le_mul h hb
 omega
theorem zt9(l:Str):(l==[])=l.isEmpty:=by cases l<;>rfl
end Go.Lv.VT

namespace Go.Lv.VT
def ziO(n:Nat):Nat:=if 65≤n∧n≤90 then n+32 else n
def ze9(b:UInt8):UInt8:=UInt8.ofNat (ziO b.toNat)
theorem zwl{n:Nat}(h:n<256):ziO n<256:=by unfold ziO;split<;>omega
theorem ztI(b:UInt8):(ze9 b).toNat=ziO b.toNat:=by
 unfold ze9
 rw[UInt8.toNat_ofNat']
 exact Nat.mod_eq_of_lt (zwl (UInt8.toNat_lt b))
theorem zv6: ∀n:Nat,n<256→qo (n:Int)=some ((ziO n:Nat):Int):=by decide+kernel
theorem zA8: ∀n:Nat,n<256→(bif decide (65≤(n:Int))then decide ((n:Int)≤90)else false)=true→Zm (ibOr IntKind.u8 (n:Int) 32)=some (UInt8.ofNat (ziO n)):=by decide+kernel
def lowS(l:Str):Str:=l.map ze9
theorem znU{α:Type}{l:List α}{i:Nat}(h:i<l.length)(f:α→α):((l.take i).map f++l.drop i).set i (f l[i])=(l.take (i+1)).map f++l.drop (i+1):=by
 apply List.ext_getElem
 ·simp;omega
 ·intro j h1 h2
  rw[List.getElem_set]
  split
  ·rename_i hij;subst hij
   rw[List.getElem_append_left (by simp;omega)]
   simp
  ·rename_i hij
   simp only[List.getElem_append,List.length_map,List.length_take,List.getElem_map,List.getElem_take,List.getElem_drop]
   split
   ·rename_i hlt
    rw[dif_pos (by omega)]
   ·rename_i hlt
    rw[dif_neg (by omega)]
    congr 1;omega
theorem zq9{α:Type}{l:List α}{i:Nat}(h:i<l.length)(f:α→α):((l.take i).map f++l.drop i)[i]? =some l[i]:=by
 rw[List.getElem?_append_right (by simp;omega)]
 simp[h,Nat.min_eq_left (Nat.le_of_lt h)]
theorem zno{α:Type}{l:List α}{i:Nat}(h:i≤l.length)(f:α→α):((l.take i).map f++l.drop i).length=l.length:=by
 simp;omega
theorem zxE{α:Type}{l:List α}{i:Nat}(h:i<l.length)(f:α→α)(e:f l[i]=l[i]):(l.take i).map f++l.drop i=(l.take (i+1)).map f++l.drop (i+1):=by
 rw[←znU h f,e]
 apply List.ext_getElem?
 intro j
 rw[List.getElem?_set]
 split
 ·rename_i hij
  subst hij
  rw[zq9 h,zno (Nat.le_of_lt h),if_pos h]
 ·rfl
theorem zpt(i:Nat):decide ((0:Int)≤(i:Int))=true:=decide_eq_true (by omega)
theorem zpT{l:Str}(h:l.length≤big):QM l=some (lowS l):=by
 unfold QM
 rw[zw (decide_eq_true (by unfold big at h;unfold maxLen;omega))]
 have key: ∀(k i:Nat),i+k=l.length→ ∃n,Q8 (X:=List UInt8) (R:=Str) (fun(s1:Int×List UInt8)=>
   bif decide (s1.1<(s1.2.length:Int))then
    need (decide (0≤s1.1)&&decide (s1.1<(s1.2.length:Int)))<|
    ze s1.2[s1.1.toNat]? fun y2=>
    ze (qo (y2.toNat:Int)) fun y3=>
    need (decide (0≤s1.1)&&decide (s1.1<(s1.2.length:Int)))<|
    ze s1.2[s1.1.toNat]? fun y4=>
    ze (Zm y3) fun y5=>
    some (LO.again (w64 (s1.1+1),List.set s1.2 s1.1.toNat y5))
   else
    some (LO.out s1.2)) n ((i:Int),(l.take i).map ze9++l.drop i)=some (.out (lowS l)):=by
  intro k
  induction k with
  |zero=>
   intro i hi
   have hi:i=l.length:=by omega
   subst hi
   refine⟨1,?_⟩
   simp only[Q8,zno (Nat.le_refl _),zku,cond_false]
   simp[lowS]
  |succ k ih=>
   intro i hi
   have hlt:i<l.length:=by omega
   obtain⟨n,hn⟩:=ih (i+1) (by omega)
   refine⟨n+1,?_⟩
   have hb:=UInt8.toNat_lt l[i]
   simp only[Q8,zno (Nat.le_of_lt hlt),zgn hlt,cond_true,zpt,Bool.and_true,ZR,Int.toNat_natCast,zq9 hlt,ze,Option.bind_some,zv6 _ hb]
   rw[←ztI,zwV,zcP hlt h]
   simp only[Option.bind_some,znU hlt]
   exact hn
 obtain⟨n,hn⟩:=key l.length 0 (by omega)
 replace hn:=zdT hn
 simp only[List.take_zero,List.map_nil,List.nil_append,List.drop_zero]at hn
 exact(zdU hn).trans rfl
theorem zmp{l:Str}(h:l.length≤big):zbg l=some (lowS l):=by
 unfold zbg
 rw[zw (decide_eq_true (by unfold big at h;unfold maxLen;omega))]
 have key: ∀(k i:Nat),i+k=l.length→ ∃n,Q8 (X:=List UInt8) (R:=Str) (fun(s1:Int×List UInt8)=>
   bif decide (s1.1<(l.length:Int))then
    zW (X:=Int×List UInt8) (
      need (decide (0≤s1.1)&&decide (s1.1<(s1.2.length:Int)))<|
      ze s1.2[s1.1.toNat]? fun y2=>
      bif bif decide (65≤(y2.toNat:Int))then decide ((y2.toNat:Int)≤90)else false then
       need (decide (0≤s1.1)&&decide (s1.1<(s1.2.length:Int)))<|
       ze s1.2[s1.1.toNat]? fun y3=>
       need (decide (0≤s1.1)&&decide (s1.1<(s1.2.length:Int)))<|
       ze s1.2[s1.1.toNat]? fun y4=>
       ze (Zm (ibOr IntKind.u8 (y3.toNat:Int) 32)) fun y5=>
       some (LX.out (s1.1,List.set s1.2 s1.1.toNat y5))
      else
       some (LX.out (s1.1,s1.2))) fun j6=>
    some (LO.again (w64 (j6.1+1),j6.2))
   else
    some (LO.out s1.2)) n ((i:Int),(l.take i).map ze9++l.drop i)=some (.out (lowS l)):=by
  intro k
  induction k with
  |zero=>
   intro i hi
   have hi:i=l.length:=by omega
   subst hi
   refine⟨1,?_⟩
   simp only[Q8,zku,cond_false]
   simp[lowS]
  |succ k ih=>
   intro i hi
   have hlt:i<l.length:=by omega
   obtain⟨n,hn⟩:=ih (i+1) (by omega)
   refine⟨n+1,?_⟩
   have hb:=UInt8.toNat_lt l[i]
   simp only[Q8,zno (Nat.le_of_lt hlt),zgn hlt,cond_true,zpt,Bool.and_true,ZR,Int.toNat_natCast,zq9 hlt,ze,Option.bind_some]
   cases hc:(bif decide (65≤(l[i].toNat:Int))then decide ((l[i].toNat:Int)≤90)else false)with
   |true=>
    have e:=zA8 _ hb hc
    simp only[e,cond_true,Option.bind_some,zg,zcP hlt h]
    rw[show UInt8.ofNat (ziO l[i].toNat)=ze9 l[i]from rfl,znU hlt]
    exact hn
   |false=>
    have e:ze9 l[i]=l[i]:=by
     unfold ze9 ziO
     rw[if_neg,UInt8.ofNat_toNat]
     rintro⟨h1,h2⟩
     rw[decide_eq_true (by omega),cond_true,decide_eq_true (by omega)]at hc
     cases hc
    simp only[cond_false,zg,zcP hlt h]
    rw[zxE hlt ze9 e]
    exact hn
 obtain⟨n,hn⟩:=key l.length 0 (by omega)
 replace hn:=zdT hn
 simp only[List.take_zero,List.map_nil,List.nil_append,List.drop_zero]at hn
 exact(zdU hn).trans rfl
def Zh(l:Str):Bool:=l.all fun b=> !(b==0)
theorem zqW(c:UInt8): ∀l:Str,decide (Lib.indexByte l c≥0)=l.any fun b=>b==c
 |[]=>rfl
 |b::l=>by
  have ih:=zqW c l
  have hg:=Lib.indexByte_ge l c
  rw[List.any_cons,Lib.indexByte]
  cases hb:(b==c)with
  |true=>rfl
  |false=>
   rw[Bool.false_or,←ih,if_neg (by simp)]
   by_cases h:Lib.indexByte l c= -1
   ·rw[if_pos (by rw[h];rfl),h]
   ·rw[if_neg (by simpa using h)]
    rw[decide_eq_true (by omega),decide_eq_true (by omega)]
theorem zzU(l:Str):(l.any fun b=>b==0)= !Zh l:=by
 unfold Zh
 induction l with
 |nil=>rfl
 |cons b l ih=>rw[List.any_cons,List.all_cons,ih];cases (b==0)<;>simp
theorem zcH(l:Str)(n:Int):strings_IndexByte (l,n)=some (Lib.indexByte l n.toNat.toUInt8):=rfl
theorem zzF(l:Str):decide (Lib.indexByte l (0:Int).toNat.toUInt8≥0)= !Zh l:=(zqW 0 l).trans (zzU l)
theorem zA3(n m:Nat):decide ((n:Int)>(m:Int))= !decide (n≤m):=by
 by_cases h:n≤m
 ·rw[decide_eq_true h,decide_eq_false (by omega)];rfl
 ·rw[decide_eq_false h,decide_eq_true (by omega)];rfl
theorem byte_zero(b:UInt8):((b.toNat:Int)==0)=(b==0):=by
 by_cases h:b=0
 ·subst h;rfl
 ·have h2:b.toNat≠0:=fun e=>h (UInt8.toNat_inj.1 e)
  rw[beq_eq_false_iff_ne.2 h,beq_eq_false_iff_ne.2 (by omega)]
theorem zyK(n m:Nat):decide ((n:Int)≤(m:Int))=decide (n≤m):=by
 by_cases h:n≤m
 ·rw[decide_eq_true h,decide_eq_true (by omega)]
 ·rw[decide_eq_false h,decide_eq_false (by omega)]
theorem zaA(l m:Str):strings_HasPrefix (l,m)=some (m.isPrefixOf l):=by
 have key: ∀m l:Str,m.isPrefixOf l=(decide (m.length≤l.length)&&l.take m.length==m):=by
  intro m l
  rw[Bool.eq_iff_iff]
  simp only[List.isPrefixOf_iff_prefix,Bool.and_eq_true,decide_eq_true_eq,beq_iff_eq]
  constructor
  ·rintro⟨t,rfl⟩
   exact⟨by simp,by simp⟩
  ·rintro⟨h1,h2⟩
   exact⟨l.drop m.length,by rw[←h2,List.length_take,Nat.min_eq_left h1,List.take_append_drop]⟩
 unfold strings_HasPrefix stringslite_HasPrefix
 have e1:decide ((l.length:Int)≥(m.length:Int))=decide (m.length≤l.length):=zyK _ _
 have e2:decide ((m.length:Int)≤(l.length:Int))=decide (m.length≤l.length):=zyK _ _
 simp only[e1,e2,zpt,Bool.true_and,key]
 cases decide (m.length≤l.length)<;>rfl
theorem zn8(l m:Str):strings_TrimPrefix (l,m)=some (bif m.isPrefixOf l then l.drop m.length else l):=by
 have h:stringslite_HasPrefix (l,m)=some (m.isPrefixOf l):=by
  have:=zaA l m
  unfold strings_HasPrefix at this
  cases hh:stringslite_HasPrefix (l,m)with
  |none=>simp only[hh]at this;cases this
  |some b=>simp only[hh]at this;exact this
 unfold strings_TrimPrefix stringslite_TrimPrefix
 simp only[h,ze,Option.bind_some]
 cases hp:m.isPrefixOf l with
 |false=>rfl
 |true=>
  have hl:=(List.isPrefixOf_iff_prefix.1 hp).length_le
  simp only[cond_true,zpt,Bool.true_and]
  rw[zw (decide_eq_true (by omega))]
  rfl
theorem zih{a b:Str}(h1:a.length≤big)(h2:b.length≤big):zas (a,b)=some (lowS a==lowS b):=by
 unfold zas
 simp only[zmp h1,zmp h2,ze,Option.bind_some]
theorem zv5{a b:Str}(h1:a.length≤big)(h2:b.length≤big):qm (a,b)=some (lowS a==lowS b):=by
 unfold qm
 simp only[zpT h1,zpT h2,ze,Option.bind_some]
end Go.Lv.VT

namespace Go.Lv.VT
def zcj(n:Nat):Bool:=
 !(n==0||n==9||n==10||n==12||n==13||n==32||n==34||n==39||n==40||n==41||n==44||n==58||n==59||n==91||n==93||n==95||n==123||n==125)&&
  (decide (n<128)&& !((decide (48≤n)&&decide (n≤57))||(decide (65≤n)&&decide (n≤90))||(decide (97≤n)&&decide (n≤122))))
set_option maxRecDepth 100000 in
theorem zzo: ∀n:Nat,n<256→zd4 40 (n:Int)=some (zcj n):=by decide+kernel
theorem zlH(b:UInt8):qw (b.toNat:Int)=some (zcj b.toNat):=
 zlt 40 _ _ (zzo _ (UInt8.toNat_lt b))
def digN(n:Nat):Bool:=decide (48≤n)&&decide (n≤57)
theorem zro: ∀n:Nat,n<256→Zx 1 (n:Int)=some (digN n):=by decide+kernel
theorem zpS(b:UInt8):zV (b.toNat:Int)=some (digN b.toNat):=ZN 1 _ _ (zro _ (UInt8.toNat_lt b))
theorem zoV: ∀n:Nat,n<256→zcG 1 (n:Int)=some (digN n):=by decide+kernel
theorem zg3(b:UInt8):ZU (b.toNat:Int)=some (digN b.toNat):=zg9 1 _ _ (zoV _ (UInt8.toNat_lt b))
def namN(n:Nat):Bool:=digN n||(decide (65≤n)&&decide (n≤90))||(decide (97≤n)&&decide (n≤122))||n==95||n==45||decide (128≤n)
theorem zoX: ∀n:Nat,n<256→zeD 1 (n:Int)=some (namN n):=by decide+kernel
theorem zg4(b:UInt8):QX (b.toNat:Int)=some (namN b.toNat):=znk 1 _ _ (zoX _ (UInt8.toNat_lt b))
def zjC:Str→Bool
 |[]=>false
 |b::r=>digN b.toNat||(b==45&&(r==[]||digN (r.headD 0).toNat))
theorem zmR(b c:UInt8):((b.toNat:Int)==(c.toNat:Int))=(b==c):=by
 by_cases h:b=c
 ·subst h;simp
 ·have h2:b.toNat≠c.toNat:=fun e=>h (UInt8.toNat_inj.1 e)
  rw[beq_eq_false_iff_ne.2 h,beq_eq_false_iff_ne.2 (by omega)]
theorem zzd(b:UInt8):((b.toNat:Int)==45)=(b==45):=zmR b 45
theorem znM(l:Str):zdu l=some (zjC l):=by
 unfold zdu
 cases l with
 |nil=>rfl
 |cons b r=>
  have h0:geti (b::r) 0=some b:=rfl
  have hn:(b::r==([]:Str))=false:=rfl
  simp only[hn,cond_false,h0,ze,Option.bind_some,zpS,QT,zzd]
  cases r with
  |nil=>
   have e:(([b]:Str)==[45])=(b==45):=by
    show((b==45)&&true)=_
    rw[Bool.and_true]
   simp only[e]
   unfold zjC
   cases hb:(b==45)with
   |false=>cases h2:digN b.toNat<;>simp[hb,zn,h2]
   |true=>cases h2:digN b.toNat<;>simp[hb,zn,h2]
  |cons d r=>
   have h1:geti (b::d::r) 1=some d:=rfl
   have e:((b::d::r:Str)==[45])=false:=by
    show((b==45)&&false)=_
    rw[Bool.and_false]
   simp only[h1,e,QT,Option.bind_some,zpS,zjC,List.headD_cons]
   cases hb:(b==45)<;>cases h2:digN b.toNat<;>simp[hb]
def numS:Str→Bool
 |[]=>false
 |b::r=>bif b==45 then !(r==[])&&digN (r.headD 0).toNat else digN b.toNat
theorem zeE(l:Str):QH l=some (numS l):=by
 unfold QH
 simp only[zn8,ze,Option.bind_some]
 have key: ∀m:Str,((zn (!(m==[])) (geti m 0) 0).bind fun y2=>(zn (!(m==[])) (ZU (y2.toNat:Int)) (default:Bool)).bind fun y3=>some (bif !(m==[])then y3 else false))=some (!(m==[])&&digN (m.headD 0).toNat):=by
  intro m
  cases m with
  |nil=>rfl
  |cons b r=>
   have h0:geti (b::r) 0=some b:=rfl
   have hn:(b::r==([]:Str))=false:=rfl
   simp only[hn,Bool.not_false,zR,h0,Option.bind_some,zg3,cond_true,List.headD_cons,Bool.true_and]
 rw[key]
 cases l with
 |nil=>rfl
 |cons b r=>
  have e:List.isPrefixOf [45] (b::r)=(b==45):=by
   show((45==b)&&true)=_
   rw[Bool.and_true]
   cases hb:(b==45)with
   |true=>rw[beq_iff_eq]at hb;subst hb;rfl
   |false=>rw[beq_eq_false_iff_ne]at hb;exact beq_eq_false_iff_ne.2 (Ne.symm hb)
  rw[e]
  show _=some (bif b==45 then !(r==[])&&digN (r.headD 0).toNat else digN b.toNat)
  cases b==45<;>rfl
theorem zxP(l:Str):((numS l&& !(List.isPrefixOf [45,45] l))||l==[45])=zjC l:=by
 cases l with
 |nil=>rfl
 |cons b r=>
  cases hb:(b==45)with
  |false=>
   have e1:List.isPrefixOf [45,45] (b::r)=false:=by
    show((45==b)&&_)=_
    rw[beq_eq_false_iff_ne]at hb
    rw[beq_eq_false_iff_ne.2 (Ne.symm hb)];rfl
   have e2:((b::r:Str)==[45])=false:=by
    show((b==45)&&_)=_
    rw[hb];rfl
   rw[e1,e2]
   unfold numS zjC
   simp[hb]
  |true=>
   rw[beq_iff_eq]at hb
   subst hb
   cases r with
   |nil=>rfl
   |cons d r=>
    have e2:((45::d::r:Str)==[45])=false:=rfl
    rw[e2]
    unfold numS zjC
    have e1:List.isPrefixOf [45,45] (45::d::r)=(45==d):=by
     show((45==(45:UInt8))&&((45==d)&&true))=_
     rw[Bool.and_true];rfl
    rw[e1]
    simp only[List.headD_cons]
    have hd:digN 45=false:=by decide
    cases h:(45==d)with
    |false=>simp[hd]
    |true=>rw[beq_iff_eq]at h;subst h;rfl
end Go.Lv.VT

namespace Go.Lv.VT
def delS(l:Str):Bool:=match l with
 |[b]=>zcj b.toNat
 |_=>false
def rngS(x:zb):Bool:=decide (-1000000000000≤x.num)&&(decide (x.num≤1000000000000)&&(!x.flag||Int.tmod x.num 1000==0))
def zbc(x:zb):Bool:=
 bif x.kind==1||x.kind==2||x.kind==3 then !(x.text==[])&&(Zh x.text&&(x.num==0&&(x.unit==[]&& !x.flag)))
 else bif x.kind==4 then !(x.text==[])&&(Zh x.text&&((x.flag||zjC x.text)&&(x.num==0&&x.unit==[])))
 else bif x.kind==5||x.kind==7 then Zh x.text&&(x.num==0&&(x.unit==[]&& !x.flag))
 else bif x.kind==9 then delS x.text&&(x.num==0&&(x.unit==[]&& !x.flag))
 else bif x.kind==10||x.kind==11||x.kind==12 then rngS x&&((!(x.unit==[])==(x.kind==12))&&(Zh x.unit&&((!(x.kind==11)|| !x.flag)&&x.text==[])))
 else(decide (13≤x.kind)&&decide (x.kind≤24))&&(x.text==[]&&(x.num==0&&(x.unit==[]&& !x.flag)))
theorem zf7{l:Str}(h:l.length≤big):QQ l=some (Zh l):=by
 unfold QQ
 refine(zmg l (fun b=>bif (!(b==0))then none else some false) () (fun i hi=> ?_) ?_).trans ?_
 ·simp only[zgn hi,cond_true,zbe hi,ze,Option.bind_some,byte_zero,zcP hi h]
  cases l[i]==0<;>rfl
 ·simp only[zku,cond_false]
 ·rw[zm4]
  show _=some (Zh l)
  unfold Zh
  cases l.all (fun b=> !(b==0))<;>rfl
theorem one_byte(l:Str)(p:Nat→Bool)(d:Bool)(f:Int→Option Bool)(hf: ∀b:UInt8,f (b.toNat:Int)=some (p b.toNat))(g:Bool):
  ((zn (g&&(l.length:Int)==1) (geti l 0) (0:UInt8)).bind fun y=>zn (g&&(l.length:Int)==1) (f (y.toNat:Int)) d)=some (bif g&&(l.length:Int)==1 then(match l with|[b]=>p b.toNat|_=>false)else d):=by
 cases g with
 |false=>rfl
 |true=>
  cases l with
  |nil=>rfl
  |cons b r=>
   cases r with
   |nil=>
    show((geti [b] 0).bind fun y=>f (y.toNat:Int))=some (p b.toNat)
    rw[show geti [b] 0=some b from rfl]
    exact hf b
   |cons c r=>
    have:(((b::c::r).length:Int)==1)=false:=beq_eq_false_iff_ne.2 (by simp only[List.length_cons];omega)
    rw[this];rfl
theorem zs7(l:Str)(g:Bool):((zn (g&&(l.length:Int)==1) (geti l 0) (0:UInt8)).bind fun y=>zn (g&&(l.length:Int)==1) (qw (y.toNat:Int)) (default:Bool))=some (bif g&&(l.length:Int)==1 then delS l else default):=
 one_byte l zcj default qw zlH g
theorem zw9(l:Str):(((l.length:Int)==1)&&delS l)=delS l:=by
 cases l with
 |nil=>rfl
 |cons b r=>
  cases r with
  |nil=>rfl
  |cons c r=>
   have:(((b::c::r).length:Int)==1)=false:=beq_eq_false_iff_ne.2 (by simp only[List.length_cons];omega)
   rw[this];rfl
theorem znN{x:zb}(h1:x.text.length≤big)(h2:x.unit.length≤big):zdv x=some (zbc x):=by
 have hd:=zs7 x.text true
 simp only[Bool.true_and]at hd
 have hd':((zn ((x.text.length:Int)==1) (geti x.text 0) (0:UInt8)).bind fun y7=>(zn ((x.text.length:Int)==1) (qw (y7.toNat:Int)) (default:Bool)).bind fun y8=>some (bif bif (x.text.length:Int)==1 then y8 else false then x.kind==x.kind&&(([]:Str)==[]&&(x.num==0&&(x.unit==[]&&(x.flag==false&&true))))else false))=some (delS x.text&&(x.num==0&&(x.unit==[]&& !x.flag))):=by
  have e: ∀(k:Bool→Option Bool),((zn ((x.text.length:Int)==1) (geti x.text 0) (0:UInt8)).bind fun y7=>(zn ((x.text.length:Int)==1) (qw (y7.toNat:Int)) (default:Bool)).bind k)=(((zn ((x.text.length:Int)==1) (geti x.text 0) (0:UInt8)).bind fun y=>zn ((x.text.length:Int)==1) (qw (y.toNat:Int)) (default:Bool))).bind k:=by
   intro k;rw[Option.bind_assoc]
  rw[e,hd,Option.bind_some,←zw9 x.text]
  simp only[beq_self_eq_true]
  cases (x.text.length:Int)==1<;>cases delS x.text<;>cases x.flag<;>rfl
 unfold zdv
 simp only[ze,zf7 h1,zf7 h2,znM,QT,Option.bind_some,ge_iff_le]
 unfold zbc rngS
 by_cases k9:x.kind=9
 ·simp only[k9,Int.reduceBEq,cond_true,cond_false,zg,Bool.or_false,Bool.false_or]at hd' ⊢
  exact hd'
 clear hd hd'
 have b9:=beq_eq_false_iff_ne.2 k9
 generalize delS x.text=a0
 generalize Zh x.text=a1
 generalize Zh x.unit=a2
 generalize zjC x.text=a3
 generalize hc1:(x.text==[])=a4
 generalize hc2:(x.unit==[])=a5
 generalize hc3:(x.num==0)=a6
 generalize hc4:x.flag=a7
 generalize decide (-1000000000000≤x.num)=a8
 generalize decide (x.num≤1000000000000)=a9
 generalize (Int.tmod x.num 1000==0)=a10
 by_cases k1:x.kind=1
 ·simp only[k1,zg,cond_true,cond_false,hc1,hc2,hc3,hc4,Int.reduceBEq]
  cases a1<;>cases a4<;>cases a5<;>cases a6<;>cases a7<;>rfl
 by_cases k2:x.kind=2
 ·simp only[k2,zg,cond_true,cond_false,hc1,hc2,hc3,hc4,Int.reduceBEq]
  cases a1<;>cases a4<;>cases a5<;>cases a6<;>cases a7<;>rfl
 by_cases k3:x.kind=3
 ·simp only[k3,zg,cond_true,cond_false,hc1,hc2,hc3,hc4,Int.reduceBEq]
  cases a1<;>cases a4<;>cases a5<;>cases a6<;>cases a7<;>rfl
 by_cases k4:x.kind=4
 ·simp only[k4,zg,cond_true,cond_false,hc1,hc2,hc3,hc4,Int.reduceBEq]
  cases a1<;>cases a3<;>cases a4<;>cases a5<;>cases a6<;>cases a7<;>rfl
 by_cases k5:x.kind=5
 ·simp only[k5,zg,cond_true,cond_false,hc1,hc2,hc3,hc4,Int.reduceBEq]
  cases a1<;>cases a4<;>cases a5<;>cases a6<;>cases a7<;>rfl
 by_cases k7:x.kind=7
 ·simp only[k7,zg,cond_true,cond_false,hc1,hc2,hc3,hc4,Int.reduceBEq]
  cases a1<;>cases a4<;>cases a5<;>cases a6<;>cases a7<;>rfl
 by_cases k10:x.kind=10
 ·simp only[k10,zg,cond_true,cond_false,hc1,hc2,hc3,hc4,Int.reduceBEq]
  cases a2<;>cases a4<;>cases a5<;>cases a7<;>cases a8<;>cases a9<;>cases a10<;>rfl
 by_cases k11:x.kind=11
 ·simp only[k11,zg,cond_true,cond_false,hc1,hc2,hc3,hc4,Int.reduceBEq]
  cases a2<;>cases a4<;>cases a5<;>cases a7<;>cases a8<;>cases a9<;>cases a10<;>rfl
 by_cases k12:x.kind=12
 ·simp only[k12,zg,cond_true,cond_false,hc1,hc2,hc3,hc4,Int.reduceBEq]
  cases a2<;>cases a4<;>cases a5<;>cases a7<;>cases a8<;>cases a9<;>cases a10<;>rfl
 simp only[b9,beq_eq_false_iff_ne.2 k1,beq_eq_false_iff_ne.2 k2,beq_eq_false_iff_ne.2 k3,beq_eq_false_iff_ne.2 k4,beq_eq_false_iff_ne.2 k5,beq_eq_false_iff_ne.2 k7,beq_eq_false_iff_ne.2 k10,beq_eq_false_iff_ne.2 k11,beq_eq_false_iff_ne.2 k12,zg,cond_true,cond_false,hc1,hc2,hc3,hc4,beq_self_eq_true,Bool.or_self]
 by_cases k6:x.kind=6
 ·simp only[k6,zg,cond_true,cond_false,Int.reduceBEq];rfl
 by_cases k8:x.kind=8
 ·simp only[k8,zg,cond_true,cond_false,Int.reduceBEq];rfl
 simp only[beq_eq_false_iff_ne.2 k6,beq_eq_false_iff_ne.2 k8,zg,cond_true,cond_false]
 have e:(decide (1≤x.kind)&&decide (x.kind≤24))=(decide (13≤x.kind)&&decide (x.kind≤24)):=by
  by_cases hh:13≤x.kind
  ·rw[decide_eq_true hh,decide_eq_true (by omega)]
  ·rw[decide_eq_false hh]
   by_cases h1:1≤x.kind
   ·omega
   ·rw[decide_eq_false h1]
 rw[←e]
 cases decide (1≤x.kind)<;>cases decide (x.kind≤24)<;>cases a4<;>cases a5<;>cases a6<;>cases a7<;>rfl
abbrev zmi:Str:=[32,9,10,12,13,34,39,58,59,44,91,93,40,41,123,125]
theorem zfq: ∀(m:Str) (c:UInt8),Lib.index m [c]=Lib.indexByte m c
 |[],c=>rfl
 |b::l,c=>by
  have h:List.isPrefixOf [c] (b::l)=(b==c):=by
   show(c==b&&List.isPrefixOf [] l)=_
   rw[List.isPrefixOf,Bool.and_true]
   by_cases e:b=c
   ·subst e;rfl
   ·rw[beq_eq_false_iff_ne.2 e,beq_eq_false_iff_ne.2 (fun h=>e h.symm)]
  rw[Lib.index,Lib.indexByte,h,zfq l c]
theorem contains_one(m:Str)(c:UInt8)(hm:short m=true:=by decide):strings_Contains (m,[c])=some (m.any fun b=>b==c):=by
 unfold strings_Contains
 simp only[zg7,hm,ZR,ze,Option.bind_some,zfq,zqW]
theorem zlj(c:UInt8):strings_Contains ([32,9,10,12,13,34,39,58,59,44,91,93,40,41,123,125],[c])=some (zmi.any fun b=>b==c):=contains_one zmi c
theorem zs6: ∀n:Nat,n<256→((bif bif !(UInt8.ofNat n==0)then !namN n else false then true else UInt8.ofNat n==45)&&(!(zmi.any fun b=>b==UInt8.ofNat n)))=zcj n:=by decide+kernel
theorem zxa(b:UInt8):((bif bif !(b==0)then !namN b.toNat else false then true else b==45)&&(!(zmi.any fun c=>c==b)))=zcj b.toNat:=by
 have:=zs6 b.toNat (UInt8.toNat_lt b)
 rwa [UInt8.ofNat_toNat]at this
theorem zpu(a b:Str):Zh (a++b)=(Zh a&&Zh b):=by
 unfold Zh;rw[List.all_append]
theorem zzR(n:Int):decide (n<0)= !decide (n≥0):=by
 by_cases h:n<0
 ·rw[decide_eq_true h,decide_eq_false (by omega)];rfl
 ·rw[decide_eq_false h,decide_eq_true (by omega)];rfl
end Go.Lv.VT

namespace Go.Lv.VT
set_option maxRecDepth 100000
theorem zld: ∀(l:Str) (n:Nat),valG n l=n*10 ^ l.length+valG 0 l
 |[],n=>by simp[valG]
 |c::l,n=>by
  show valG (decN n c) l=n*10 ^ (l.length+1)+valG (decN 0 c) l
  rw[zld l (decN n c),zld l (decN 0 c),Nat.pow_succ]
  unfold decN
  rw[Nat.add_mul,Nat.mul_zero,Nat.zero_add,Nat.mul_comm 10 n,Nat.mul_assoc,Nat.mul_comm 10 (10 ^ l.length)]
  omega
theorem zwE(l:Str)(i:Nat):valG 0 (l.take i)≤valG 0 l:=by
 have h:valG 0 l=valG (valG 0 (l.take i)) (l.drop i):=by rw[←zjs,List.take_append_drop]
 rw[h,zld (l.drop i)]
 have:=Nat.le_mul_of_pos_right (valG 0 (l.take i)) (Nat.pow_pos (n:=(l.drop i).length) (show 0<10 by omega))
 omega
theorem zdb{b:UInt8}(h:digB b=true):48≤b.toNat∧b.toNat≤57:=by
 unfold digB at h
 simpa using h
theorem zyb {R:Type} {step:Int×Int→Option (LO (Int×Int) Int R)} {l:Str} (hl:l.all digB=true) (hn:l.length≤100000) (hv:valG 0 l≤1000000000000)
  (h1: ∀(v:Int) (i:Nat) (hi:i<l.length),step (v,(i:Int))=some (.again (if 1000000000000<w64 (w64 (10*v)+w64 (wu8 ((l[i].toNat:Int) - 48)))then 1000000000000 else w64 (w64 (10*v)+w64 (wu8 ((l[i].toNat:Int) - 48))),w64 ((i:Int)+1))))
  (h2: ∀v:Int,step (v,(l.length:Int))=some (.out v)):zdS step (0,0)=some (.out ((valG 0 l:Nat):Int)):=by
 refine qP (fun s=> ∃i:Nat,i≤l.length∧s=(((valG 0 (l.take i):Nat):Int),(i:Int))) (fun s=>l.length - s.2.toNat) _ ?_ ⟨0,by omega,rfl⟩
 rintro _ ⟨i,hi,rfl⟩
 rcases Nat.lt_or_ge i l.length with h|h
 ·refine .inl ⟨_,h1 _ i h,⟨i+1,by omega,?_⟩,by simp only;rw[zT (by omega) (by omega)];omega⟩
  have hd:=zdb (List.all_eq_true.1 hl _ (List.getElem_mem h))
  have ht:valG 0 (l.take (i+1))=decN (valG 0 (l.take i)) l[i]:=by
   rw[List.take_succ_eq_append_getElem h,zjs];rfl
  have hb:=zwE l (i+1)
  have hu:wu8 ((l[i].toNat:Int) - 48)=((l[i].toNat - 48:Nat):Int):=by
   show IntKind.u8.wrap _=_
   rw[IntKind.wrap_u8];omega
  unfold decN at ht
  rw[hu,zT (n:=10*_) (by omega) (by omega),zT (n:=((l[i].toNat - 48:Nat):Int)) (by omega) (by omega),zT (n:=(i:Int)+1) (by omega) (by omega),zT (by omega) (by omega),if_neg (by omega)]
  refine Prod.ext ?_ ?_
  ·show(10*((valG 0 (l.take i):Nat):Int)+((l[i].toNat - 48:Nat):Int))=_
   omega
  ·show(i:Int)+1=((i+1:Nat):Int)
   omega
 ·have:i=l.length:=by omega
  subst this
  refine .inr (.inl ⟨_,h2 _,?_⟩)
  rw[List.take_length]
theorem ztO {R:Type} {step:Int×Int→Option (LO (Int×Int) Int R)} {v p:Nat} (hp:p≤100) (hv:v*10 ^ p≤1000000000000)
  (h: ∀(a b:Int),step (a,b)=bif bif bif decide (a>0)then decide (b>0)else false then decide (b<1000000000000)else false then some (.again (w64 (a - 1),if 1000000000000<w64 (10*b)then 1000000000000 else w64 (10*b)))else some (.out b)):
  zdS step ((p:Int),(v:Int))=some (.out ((v*10 ^ p:Nat):Int)):=by
 refine qP (fun s=> ∃a b:Nat,s=((a:Int),(b:Int))∧a≤100∧b*10 ^ a=v*10 ^ p) (fun s=>s.1.toNat) _ ?_ ⟨p,v,rfl,hp,rfl⟩
 rintro _ ⟨a,b,rfl,ha,he⟩
 rw[h]
 cases a with
 |zero=>
  refine .inr (.inl ⟨(b:Int),rfl,?_⟩)
  rw[←he,Nat.pow_zero,Nat.mul_one]
 |succ a=>
  rw[decide_eq_true (show((a+1:Nat):Int)>0 by omega),cond_true]
  rw[Nat.pow_succ,←Nat.mul_assoc]at he
  have hpos:0<10 ^ a:=Nat.pow_pos (by omega)
  cases Nat.eq_zero_or_pos b with
  |inl h0=>
   subst h0
   refine .inr (.inl ⟨0,rfl,?_⟩)
   rw[←he];simp
  |inr h0=>
   rw[decide_eq_true (show((b:Nat):Int)>0 by omega),cond_true]
   have hle:b≤b*10 ^ a:=Nat.le_mul_of_pos_right b hpos
   rw[decide_eq_true (show((b:Nat):Int)<1000000000000 by omega),cond_true]
   refine .inl ⟨_,rfl,⟨a,10*b,?_,by omega,?_⟩,by simp only;rw[zT (by omega) (by omega)];omega⟩
   ·rw[zT (by omega) (by omega),zT (by omega) (by omega),if_neg (by omega)]
    refine Prod.ext ?_ ?_
    ·show((a+1:Nat):Int) - 1=(a:Int);omega
    ·show 10*(b:Int)=((10*b:Nat):Int);omega
   ·rw[←he,Nat.mul_comm 10 b,Nat.mul_assoc,Nat.mul_assoc,Nat.mul_comm 10 (10 ^ a)]
theorem zqV: ∀(q:Str),q.all digB=true→Lib.indexByte q 46= -1
 |[],_=>rfl
 |c::q,h=>by
  rw[List.all_cons,Bool.and_eq_true]at h
  have hd:=zdb h.1
  have hc:(c==46)=false:=by
   refine beq_eq_false_iff_ne.2 (fun e=> ?_)
   subst e
   revert hd;decide
  rw[Lib.indexByte,hc,zqV q h.2]
  rfl
theorem zqU: ∀(q g:Str),q.all digB=true→Lib.indexByte (q++46::g) 46=(q.length:Int)
 |[],g,_=>by rw[List.nil_append,Lib.indexByte];rfl
 |c::q,g,h=>by
  rw[List.all_cons,Bool.and_eq_true]at h
  have hd:=zdb h.1
  have hc:(c==46)=false:=by
   refine beq_eq_false_iff_ne.2 (fun e=> ?_)
   subst e
   revert hd;decide
  rw[List.cons_append,Lib.indexByte,hc,zqU q g h.2]
  have:((q.length:Int)== -1)=false:=beq_eq_false_iff_ne.2 (by omega)
  rw[this,List.length_cons]
  simp
theorem zqq: ∀(l:Str),(l.all fun b=>digB b||b==46)=true→Lib.indexAny l [101,69]= -1
 |[],_=>rfl
 |c::l,h=>by
  rw[List.all_cons,Bool.and_eq_true]at h
  have hc:List.contains [101,69] c=false:=by
   have: ∀n:Nat,n<256→(digB (UInt8.ofNat n)||UInt8.ofNat n==46)=true→List.contains [101,69] (UInt8.ofNat n)=false:=by decide+kernel
   have:=this c.toNat (UInt8.toNat_lt c)
   rw[UInt8.ofNat_toNat]at this
   exact this h.1
  rw[Lib.indexAny,hc,zqq l h.2]
  rfl
end Go.Lv.VT
