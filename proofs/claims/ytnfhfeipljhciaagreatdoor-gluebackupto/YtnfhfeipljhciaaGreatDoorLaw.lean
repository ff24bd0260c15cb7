/- The reading of tokens: what the program's text and the reference's come to. -/
import Derived.Test.YtnfhfeipljhciaaGreatDoorTy
import Derived.Test.YtnfhfeipljhciaaGreatDoorMo
import Derived.Test.YtnfhfeipljhciaaGreatDoorTx
set_option linter.unusedSimpArgs false
set_option linter.unusedVariables false
namespace Go.Lv.VT
def atS(l:Str)(n:Nat):UInt8:=l.getD n 0
def digB(b:UInt8):Bool:=decide (48≤b.toNat)&&decide (b.toNat≤57)
def spB(b:UInt8):Bool:=b==10||b==9||b==32
def alB(b:UInt8):Bool:=decide (65≤b.toNat)&&decide (b.toNat≤90)||decide (97≤b.toNat)&&decide (b.toNat≤122)
def fstB(b:UInt8):Bool:=alB b||b==95||decide (128≤b.toNat)
def letB(b:UInt8):Bool:=fstB b||digB b||b==45
def hexN(b:UInt8):Nat:=
 if digB b then b.toNat - 48 else if 97≤b.toNat∧b.toNat≤102 then b.toNat - 87 else if 65≤b.toNat∧b.toNat≤70 then b.toNat - 55 else 16
def qH(b:UInt8):Bool:=decide (hexN b<16)
def escS(l:Str):Bool:=atS l 0==92&& !(atS l 1==10)
def nmS(l:Str):Bool:=if atS l 0==45 then fstB (atS l 1)||atS l 1==45||escS (l.drop 1)else fstB (atS l 0)||escS l
def zaE(b:UInt8):Bool:=b==43||b==45
def unsign(l:Str):Str:=if zaE (atS l 0)then l.drop 1 else l
def undot(l:Str):Str:=if atS l 0==46 then l.drop 1 else l
def nbS(l:Str):Bool:=digB (atS (undot (unsign l)) 0)
def zpa:Str:=[239,191,189]
def zd2(n:Nat):Str:=
 if n=0∨(55296≤n∧n≤57343)∨1114111<n then zpa
 else if n<128 then [UInt8.ofNat n]
 else if n<2048 then [UInt8.ofNat (192+n / 64),UInt8.ofNat (128+n%64)]
 else if n<65536 then [UInt8.ofNat (224+n / 4096),UInt8.ofNat (128+n / 64%64),UInt8.ofNat (128+n%64)]
 else [UInt8.ofNat (240+n / 262144),UInt8.ofNat (128+n / 4096%64),UInt8.ofNat (128+n / 64%64),UInt8.ofNat (128+n%64)]
def hexes:Nat→Nat→Str→Nat×Str
 |0,n,l=>(n,l)
 |_+1,n,[]=>(n,[])
 |k+1,n,c::r=>if qH c then hexes k (16*n+hexN c) r else(n,c::r)
def unsp:Str→Str
 |[]=>[]
 |c::r=>if spB c then r else c::r
def zm:Str→Str×Str
 |[]=>(zpa,[])
 |c::r=>if qH c then(zd2 (hexes 6 0 (c::r)).1,unsp (hexes 6 0 (c::r)).2)else([c],r)
theorem zg1: ∀(k n:Nat) (l:Str),(hexes k n l).2<:+l
 |0,n,l=>List.suffix_refl l
 |k+1,n,[]=>List.suffix_refl _
 |k+1,n,c::r=>by
  unfold hexes
  split
  ·exact(zg1 k _ r).trans (List.suffix_cons c r)
  ·exact List.suffix_refl _
theorem zyd(l:Str):unsp l<:+l:=by
 cases l with
 |nil=>exact List.suffix_refl _
 |cons c r=>
  show(if spB c then r else c::r)<:+c::r
  split
  ·exact List.suffix_cons c r
  ·exact List.suffix_refl _
theorem ZE(l:Str):(zm l).2<:+l:=by
 cases l with
 |nil=>exact List.suffix_refl _
 |cons c r=>
  show(if qH c then(zd2 (hexes 6 0 (c::r)).1,unsp (hexes 6 0 (c::r)).2)else([c],r)).2<:+c::r
  split
  ·exact(zyd _).trans (zg1 6 0 _)
  ·exact List.suffix_cons c r
theorem zD(l:Str):(zm l).2.length≤l.length:=(ZE l).length_le
def zl:Str→Str×Str
 |[]=>([],[])
 |c::r=>
  if letB c then((c::(zl r).1),(zl r).2)
  else if escS (c::r)then((zm r).1++(zl (zm r).2).1,(zl (zm r).2).2)
  else([],c::r)
termination_by l=>l.length
decreasing_by
 all_goals first|(have:=zD r;simp only[List.length_cons];omega)|(simp only[List.length_cons];omega)
def past(p:UInt8→Bool):Str→Str
 |[]=>[]
 |c::r=>if p c then past p r else c::r
theorem zfm(p:UInt8→Bool): ∀l:Str,past p l<:+l
 |[]=>List.suffix_refl _
 |c::r=>by
  unfold past
  split
  ·exact(zfm p r).trans (List.suffix_cons c r)
  ·exact List.suffix_refl _
def zK(l:Str):Str×Bool:=
 if atS l 0==46&&digB (atS l 1)then(past digB (l.drop 1),false)else(l,true)
def expS(l:Str):Option Str:=
 if atS l 0==101||atS l 0==69 then(if digB (atS (unsign (l.drop 1)) 0)then some (past digB (unsign (l.drop 1)))else none)else none
def zA(l:Str):Str×Bool:=
 let x:=zK (past digB (unsign l))
 match expS x.1 with
 |some r=>(r,false)
 |none=>x
def decN(n:Nat)(b:UInt8):Nat:=10*n+(b.toNat - 48)
def upto(l r:Str):Str:=l.take (l.length - r.length)
def zW(m:UInt8):Str→Option Str×Str
 |[]=>(some [],[])
 |c::r=>
  if c==m then(some [],r)
  else if c==10 then(none,c::r)
  else if c==92 then
   (if r.isEmpty then(some [],[])
   else if atS r 0==10 then zW m (r.drop 1)
   else((zW m (zm r).2).1.map ((zm r).1++ ·),(zW m (zm r).2).2))
  else((zW m r).1.map (c:: ·),(zW m r).2)
termination_by l=>l.length
decreasing_by
 all_goals first|(have:=zD r;simp only[List.length_cons];omega)|(simp only[List.length_cons,List.length_drop];omega)
def badS:Str→Str
 |[]=>[]
 |c::r=>if c==41 then r else if escS (c::r)then badS (zm r).2 else badS r
termination_by l=>l.length
decreasing_by
 all_goals first|(have:=zD r;simp only[List.length_cons];omega)|(simp only[List.length_cons];omega)
def unB(b:UInt8):Bool:=decide (b.toNat≤8)||b==11||decide (14≤b.toNat)&&decide (b.toNat≤31)||b==127
def urlS:Str→Option Str×Str
 |[]=>(some [],[])
 |c::r=>
  if c==41 then(some [],r)
  else if spB c then(match past spB r with
   |[]=>(some [],[])
   |d::r'=>if d==41 then(some [],r')else(none,badS (d::r')))
  else if c==34||c==39||c==40||unB c||c==92&& !escS (c::r)then(none,badS (c::r))
  else if c==92 then((urlS (zm r).2).1.map ((zm r).1++ ·),(urlS (zm r).2).2)
  else((urlS r).1.map (c:: ·),(urlS r).2)
termination_by l=>l.length
decreasing_by
 all_goals first|(have:=zD r;simp only[List.length_cons];omega)|(simp only[List.length_cons];omega)
def zcx(b:UInt8):Int:=
 if b==58 then 16 else if b==59 then 17 else if b==44 then 18 else if b==91 then 19 else if b==93 then 20 else if b==40 then 21 else if b==41 then 22 else if b==123 then 23 else if b==125 then 24 else 0
def zeB(k:Int):zb:=⟨k,[],0,[],false⟩
def zfA:Nat:=1000000000000
def zds:Nat→Nat→Nat
 |0,n=>n
 |k+1,n=>if n=0∨zfA≤n then n else zds k (min zfA (10*n))
end Go.Lv.VT

namespace Go.Lv.VT
set_option maxRecDepth 100000
abbrev sc(s:Str)(k:Nat):za:=⟨s,(k:Int)⟩
def pk(l:Str)(n:Nat):Int:=match l[n]? with|some b=>(b.toNat:Int)|none=> -1
def beh(s r:Str):Nat:=s.length - r.length
theorem zV{n:Int}(h1: -9223372036854775808≤n)(h2:n≤9223372036854775807):w64 n=n:=zhB h1 h2
theorem zfe{s r:Str}(h:r<:+s):s.drop (beh s r)=r:=by
 obtain⟨t,rfl⟩:=h
 unfold beh
 rw[List.length_append,show t.length+r.length - r.length=t.length by omega,List.drop_left]
theorem zee(s r:Str):beh s r≤s.length:=by unfold beh;omega
theorem zwL{s:Str}{k:Nat}(h:k≤s.length):beh s (s.drop k)=k:=by unfold beh;rw[List.length_drop];omega
theorem znD{s:Str}{k n:Nat}(hs:s.length≤big)(hk:k≤s.length)(hn:n≤8):zf ((n:Int),sc s k)=some (pk (s.drop k) n):=by
 have hb:big=4194304:=rfl
 have e:w64 ((k:Int)+(n:Int))=((k+n:Nat):Int):=by rw[zV (by omega) (by omega)];omega
 unfold zf pk
 simp only[e]
 rw[List.getElem?_drop]
 by_cases h:k+n<s.length
 ·rw[decide_eq_true (by omega),cond_true]
  have hg:geti s ((k+n:Nat):Int)=some s[k+n]:=zbB h
  have hlt:=UInt8.toNat_lt s[k+n]
  simp only[ze,hg,Option.bind_some,List.getElem?_eq_getElem h]
  rw[zV (by omega) (by omega)]
 ·rw[decide_eq_false (by omega),cond_false,List.getElem?_eq_none (by omega)]
theorem zvL{s:Str}{k:Nat}(hs:s.length≤big)(hk:k≤s.length):zf (0,sc s k)=some (pk (s.drop k) 0):=znD (n:=0) hs hk (by omega)
theorem zzW{s:Str}{k:Nat}(hs:s.length≤big)(hk:k≤s.length):zf (1,sc s k)=some (pk (s.drop k) 1):=znD (n:=1) hs hk (by omega)
theorem zBQ{s:Str}{k:Nat}(hs:s.length≤big)(hk:k≤s.length):zf (2,sc s k)=some (pk (s.drop k) 2):=znD (n:=2) hs hk (by omega)
theorem zvw{β:Type}{f:Int→Option β}{p:UInt8→β}(h: ∀b:UInt8,f (b.toNat:Int)=some (p b))(h0:f (-1)=some (p 0))(l:Str)(n:Nat):f (pk l n)=some (p (atS l n)):=by
 unfold pk atS
 rw[List.getD_eq_getElem?_getD]
 cases l[n]? with
 |none=>exact h0
 |some b=>exact h b
theorem zmf{β:Type}{f g:Int→Option β}{p:UInt8→β}(hf: ∀x,Le (g x) (f x))(h: ∀n:Nat,n<256→g (n:Int)=some (p (UInt8.ofNat n)))(b:UInt8):f (b.toNat:Int)=some (p b):=by
 have:=hf _ _ (h b.toNat (UInt8.toNat_lt b))
 rwa [UInt8.ofNat_toNat]at this
theorem zkV(l:Str)(n:Nat):ZA (pk l n)=some (spB (atS l n)):=zvw (zmf (zfT 1) (by decide+kernel)) (zfT 1 _ _ (by decide+kernel)) l n
theorem ze4(l:Str)(n:Nat):Zc (pk l n)=some (digB (atS l n)):=zvw (zmf (zbo 1) (by decide+kernel)) (zbo 1 _ _ (by decide+kernel)) l n
theorem zAe(l:Str)(n:Nat):Ql (pk l n)=some (fstB (atS l n)):=zvw (zmf (zcX 1) (by decide+kernel)) (zcX 1 _ _ (by decide+kernel)) l n
theorem zst(l:Str)(n:Nat):Qc (pk l n)=some (letB (atS l n)):=zvw (zmf (zeE 1) (by decide+kernel)) (zeE 1 _ _ (by decide+kernel)) l n
def hexI(b:UInt8):Int:=if qH b then(hexN b:Int)else -1
theorem zx3(l:Str)(n:Nat):zai (pk l n)=some (hexI (atS l n)):=zvw (zmf (ziG 1) (by decide+kernel)) (ziG 1 _ _ (by decide+kernel)) l n
theorem zhn(l:Str)(n:Nat)(c:UInt8)(h:c≠0):(pk l n==(c.toNat:Int))=(atS l n==c):=by
 unfold pk atS
 rw[List.getD_eq_getElem?_getD]
 cases l[n]? with
 |none=>
  have h1:((-1:Int)==(c.toNat:Int))=false:=beq_eq_false_iff_ne.2 (by omega)
  have h2:((none:Option UInt8).getD 0==c)=false:=beq_eq_false_iff_ne.2 (fun e=>h e.symm)
  rw[h2];exact h1
 |some b=>
  show((b.toNat:Int)==(c.toNat:Int))=(b==c)
  by_cases e:b=c
  ·subst e;rw[beq_self_eq_true,beq_self_eq_true]
  ·have:b.toNat≠c.toNat:=fun h=>e (UInt8.toNat_inj.1 h)
   rw[beq_eq_false_iff_ne.2 e,beq_eq_false_iff_ne.2 (by omega)]
theorem zzX(l:Str)(n:Nat):(pk l n==10)=(atS l n==10):=zhn l n 10 (by decide)
theorem zBh(l:Str)(n:Nat):(pk l n==34)=(atS l n==34):=zhn l n 34 (by decide)
theorem zBR(l:Str)(n:Nat):(pk l n==35)=(atS l n==35):=zhn l n 35 (by decide)
theorem zBS(l:Str)(n:Nat):(pk l n==37)=(atS l n==37):=zhn l n 37 (by decide)
theorem zBi(l:Str)(n:Nat):(pk l n==39)=(atS l n==39):=zhn l n 39 (by decide)
theorem zBT(l:Str)(n:Nat):(pk l n==40)=(atS l n==40):=zhn l n 40 (by decide)
theorem zzY(l:Str)(n:Nat):(pk l n==41)=(atS l n==41):=zhn l n 41 (by decide)
theorem zzZ(l:Str)(n:Nat):(pk l n==43)=(atS l n==43):=zhn l n 43 (by decide)
theorem zvO(l:Str)(n:Nat):(pk l n==45)=(atS l n==45):=zhn l n 45 (by decide)
theorem zz0(l:Str)(n:Nat):(pk l n==46)=(atS l n==46):=zhn l n 46 (by decide)
theorem zBU(l:Str)(n:Nat):(pk l n==64)=(atS l n==64):=zhn l n 64 (by decide)
theorem zBV(l:Str)(n:Nat):(pk l n==69)=(atS l n==69):=zhn l n 69 (by decide)
theorem zBj(l:Str)(n:Nat):(pk l n==92)=(atS l n==92):=zhn l n 92 (by decide)
theorem zBg(l:Str)(n:Nat):(pk l n==101)=(atS l n==101):=zhn l n 101 (by decide)
theorem zkE(l:Str):(pk l 0== -1)=l.isEmpty:=by
 cases l with
 |nil=>rfl
 |cons b r=>
  show((b.toNat:Int)== -1)=false
  exact beq_eq_false_iff_ne.2 (by omega)
theorem Qe(l:Str)(k n:Nat):atS (l.drop k) n=atS l (k+n):=by
 unfold atS
 rw[List.getD_eq_getElem?_getD,List.getD_eq_getElem?_getD,List.getElem?_drop]
theorem zsq {R:Type} {step:za→Option (LO za za R)} {s:Str} (p:UInt8→Bool) (h0:p 0=false)
  (h: ∀k,k≤s.length→step (sc s k)=some (bif p (atS (s.drop k) 0)then .again (sc s (k+1))else .out (sc s k))) {k:Nat} (hk:k≤s.length):
  zdM step (sc s k)=some (.out (sc s (beh s (past p (s.drop k))))):=by
 refine qN (fun z=> ∃j,z=sc s j∧j≤s.length∧past p (s.drop j)=past p (s.drop k)) (fun z=>s.length - z.at_.toNat) _ ?_ ⟨k,rfl,hk,rfl⟩
 rintro _ ⟨j,rfl,hj,he⟩
 rw[h j hj]
 cases hd:s.drop j with
 |nil=>
  rw[show atS ([]:Str) 0=0 from rfl,h0,cond_false]
  refine .inr (.inl ⟨_,rfl,?_⟩)
  rw[←he,hd]
  have:j=s.length:=by have:=List.drop_eq_nil_iff.1 hd;omega
  subst this
  show LX.out (sc s (beh s []))=_
  unfold beh
  rw[List.length_nil,Nat.sub_zero]
 |cons c r=>
  have hlt:j<s.length:=by
   rcases Nat.lt_or_ge j s.length with h'|h'
   ·exact h'
   ·rw[List.drop_eq_nil_of_le h']at hd;cases hd
  have hr:s.drop (j+1)=r:=by
   have:=List.drop_eq_getElem_cons hlt
   rw[hd]at this
   injection this with _ h2
   exact h2.symm
  rw[show atS (c::r) 0=c from rfl]
  cases hp:p c with
  |true=>
   refine .inl ⟨_,rfl,⟨j+1,rfl,by omega,?_⟩,by simp only[Int.toNat_natCast];omega⟩
   rw[hr,←he,hd,past,hp];rfl
  |false=>
   refine .inr (.inl ⟨_,rfl,?_⟩)
   rw[←he,hd,past,hp,if_neg (by decide),←hd,zwL hj]
theorem zwa{s:Str}{k:Nat}(hs:s.length≤big)(hk:k≤s.length):w64 ((k:Int)+1)=((k+1:Nat):Int):=by
 have hb:big=4194304:=rfl
 rw[zV (by omega) (by omega)];omega
theorem zyj{s:Str}{k:Nat}(hs:s.length≤big)(hk:k≤s.length):zM (sc s k)=some (sc s (beh s (past spB (s.drop k)))):=by
 unfold zM
 rw[qO (zsq spB rfl (fun j hj=> ?_) hk)]
 simp only[ze,zvL hs hj,Option.bind_some,zkV,zwa hs hj]
 cases spB (atS (s.drop j) 0)<;>rfl
theorem zwz{s:Str}{k:Nat}(hs:s.length≤big)(hk:k≤s.length):zJ (sc s k)=some (sc s (beh s (past digB (s.drop k)))):=by
 unfold zJ
 rw[qO (zsq digB rfl (fun j hj=> ?_) hk)]
 simp only[ze,zvL hs hj,Option.bind_some,ze4,zwa hs hj]
 cases digB (atS (s.drop j) 0)<;>rfl
theorem number_eq{s:Str}{k:Nat}(hs:s.length≤big)(hk:k≤s.length):Zi (sc s k)=some (nbS (s.drop k)):=by
 unfold Zi nbS unsign undot zaE
 simp only[ze,zvL hs hk,Option.bind_some,zzZ,zvO]
 have key: ∀(b:Bool),(zU (X:=Int) (bif b then some (LX.out 1)else some (LX.out 0)) fun j2=>
   zU (X:=Int) ((zf (j2,sc s k)).bind fun y3=>bif y3==46 then some (LX.out (w64 (j2+1)))else some (LX.out j2)) fun j4=>
   (zf (j4,sc s k)).bind fun y5=>(Zc y5).bind fun y6=>some y6)=some (digB (atS (if atS (if b then(s.drop k).drop 1 else s.drop k) 0==46 then(if b then(s.drop k).drop 1 else s.drop k).drop 1 else(if b then(s.drop k).drop 1 else s.drop k)) 0)):=by
  intro b
  cases b with
  |false=>
   simp only[cond_false,zg,zvL hs hk,Option.bind_some,zz0,Bool.false_eq_true,if_false]
   cases h:atS (s.drop k) 0==46 with
   |false=>simp only[cond_false,zg,zvL hs hk,Option.bind_some,ze4,Bool.false_eq_true,if_false]
   |true=>
    simp only[cond_true,zg,if_true]
    rw[show w64 (0+1)=1 from rfl,zzW hs hk]
    simp only[Option.bind_some,ze4]
    rw[Qe (s.drop k) 1 0]
  |true=>
   simp only[cond_true,zg,zzW hs hk,Option.bind_some,zz0,if_true]
   rw[Qe (s.drop k) 1 0]
   cases h:atS (s.drop k) (1+0)==46 with
   |false=>
    simp only[Nat.add_zero]at h
    simp only[h,cond_false,zg,zzW hs hk,Option.bind_some,ze4,Bool.false_eq_true,if_false]
    rw[Qe (s.drop k) 1 0]
   |true=>
    simp only[Nat.add_zero]at h
    simp only[h,cond_true,zg,if_true]
    rw[show w64 (1+1)=2 from rfl,zBQ hs hk]
    simp only[Option.bind_some,ze4]
    rw[List.drop_drop,Qe (s.drop k) (1+1) 0]
 have:=key (atS (s.drop k) 0==43||atS (s.drop k) 0==45)
 rw[show(bif atS (s.drop k) 0==43 then true else atS (s.drop k) 0==45)=(atS (s.drop k) 0==43||atS (s.drop k) 0==45)from by cases (atS (s.drop k) 0==43)<;>rfl]
 exact this
end Go.Lv.VT

namespace Go.Lv.VT
set_option maxRecDepth 100000
abbrev sr(s r:Str):za:=sc s (beh s r)
theorem sr_0(s:Str):(⟨s,0⟩:za)=sr s s:=by
 show sc s 0=sc s (beh s s)
 unfold beh
 rw[Nat.sub_self]
theorem zrh{s r:Str}{n:Nat}(hs:s.length≤big)(hr:r<:+s)(hn:n≤8):zf ((n:Int),sr s r)=some (pk r n):=by
 rw[znD hs (zee s r) hn,zfe hr]
theorem zaW{s r:Str}(hs:s.length≤big)(hr:r<:+s):zf (0,sr s r)=some (pk r 0):=zrh (n:=0) hs hr (by omega)
theorem zpE{s r:Str}(hs:s.length≤big)(hr:r<:+s):zf (1,sr s r)=some (pk r 1):=zrh (n:=1) hs hr (by omega)
theorem zBf{s r:Str}(hs:s.length≤big)(hr:r<:+s):zf (2,sr s r)=some (pk r 2):=zrh (n:=2) hs hr (by omega)
theorem zsH{s r:Str}(hs:s.length≤big)(hr:r<:+s):zM (sr s r)=some (sr s (past spB r)):=by
 rw[zyj hs (zee s r),zfe hr]
theorem zn8{s r:Str}(hs:s.length≤big)(hr:r<:+s):zJ (sr s r)=some (sr s (past digB r)):=by
 rw[zwz hs (zee s r),zfe hr]
theorem zzK{s r:Str}(hs:s.length≤big)(hr:r<:+s):Zi (sr s r)=some (nbS r):=by
 rw[number_eq hs (zee s r),zfe hr]
theorem ztY{s r:Str}{n:Nat}(hr:r<:+s)(hn:n≤r.length):beh s r+n=beh s (r.drop n):=by
 have:=hr.length_le
 unfold beh
 rw[List.length_drop];omega
theorem zxC{s r:Str}{n:Nat}(hs:s.length≤big)(hr:r<:+s)(hn:n≤r.length):(⟨s,w64 ((beh s r:Int)+(n:Int))⟩:za)=sr s (r.drop n):=by
 have hb:big=4194304:=rfl
 have:=zee s r
 have h2:=hr.length_le
 rw[zV (by omega) (by omega),show(beh s r:Int)+(n:Int)=((beh s r+n:Nat):Int) by omega,ztY hr hn]
theorem zsN{l:Str}{n:Nat}(h:atS l n≠0):n<l.length:=by
 rcases Nat.lt_or_ge n l.length with h'|h'
 ·exact h'
 ·exact absurd (by unfold atS;rw[List.getD_eq_getElem?_getD,List.getElem?_eq_none h'];rfl) h
theorem zvl{s r:Str}(hs:s.length≤big)(hr:r<:+s)(h:atS r 0≠0):(⟨s,w64 ((beh s r:Int)+1)⟩:za)=sr s (r.drop 1):=zxC (n:=1) hs hr (zsN h)
theorem zbZ{s r:Str}(hr:r<:+s)(n:Nat):r.drop n<:+s:=(List.drop_suffix n r).trans hr
theorem zdZ{s r:Str}(p:UInt8→Bool)(hr:r<:+s):past p r<:+s:=(zfm p r).trans hr
theorem zim{s r:Str}(hr:r<:+s):unsign r<:+s:=by
 unfold unsign
 split
 ·exact zbZ hr 1
 ·exact hr
theorem zwb{b:UInt8}(h:zaE b=true):b≠0:=by rintro rfl;revert h;decide
theorem zzR(a b:Bool):(bif a then true else b)=(a||b):=by cases a<;>rfl
theorem zyq(a b:Bool):(bif a then b else false)=(a&&b):=by cases a<;>rfl
theorem zqe{s r:Str}(hr:r<:+s):(zK r).1<:+s:=by
 unfold zK
 split
 ·exact zdZ _ (zbZ hr 1)
 ·exact hr
theorem zuL{s r q:Str}(hr:r<:+s)(h:expS r=some q):q<:+s:=by
 unfold expS at h
 split at h
 ·split at h
  ·cases h
   exact zdZ _ (zim (zbZ hr 1))
  ·cases h
 ·cases h
theorem ztp{s r:Str}(hr:r<:+s):(zA r).1<:+s:=by
 unfold zA
 have h1:=zqe (zdZ digB (zim hr))
 simp only
 cases h:expS (zK (past digB (unsign r))).1 with
 |some q=>exact zuL h1 h
 |none=>exact h1
theorem zxb{s l:Str}(hs:s.length≤big)(hl:l<:+s):ZT (sr s l)=some ((zA l).2,sr s (zA l).1):=by
 unfold ZT
 simp only[ze,zaW hs hl,Option.bind_some,zzZ,zvO,zzR]
 have e1:(bif (atS l 0==43||atS l 0==45)then some (LX.out (⟨s,w64 ((beh s l:Int)+1)⟩:za))else some (LX.out (sr s l)))=(some (LX.out (sr s (unsign l))):Option (LX za (Bool×za))):=by
  unfold unsign
  cases h:zaE (atS l 0)with
  |true=>
   have h':(atS l 0==43||atS l 0==45)=true:=h
   rw[h',cond_true,if_pos rfl,zvl hs hl (zwb h)]
  |false=>
   have h':(atS l 0==43||atS l 0==45)=false:=h
   rw[h',cond_false,if_neg (by decide)]
 rw[e1,zg]
 have hu:=zim hl
 rw[zn8 hs hu]
 simp only[Option.bind_some]
 have hp:=zdZ digB hu
 unfold zA
 generalize past digB (unsign l)=q at hp ⊢
 have e2:zU (X:=Bool×za) (R:=Bool×za) ((zf (0,sr s q)).bind fun y4=>
   (zn (y4==46) (zf (1,sr s q)) (default:Int)).bind fun y5=>
   (zn (y4==46) (Zc y5) (default:Bool)).bind fun y6=>
   bif bif y4==46 then y6 else false then(zJ (⟨s,w64 ((beh s q:Int)+1)⟩:za)).bind fun y7=>some (LX.out (false,y7))else some (LX.out (true,sr s q)))=zU (some (LX.out ((zK q).2,sr s (zK q).1))):=by
  congr 1
  unfold zK
  simp only[zaW hs hp,zpE hs hp,Option.bind_some,zz0]
  cases h:atS q 0==46 with
  |false=>simp only[Zu,Option.bind_some,cond_false,Bool.false_and,Bool.false_eq_true,if_false]
  |true=>
   simp only[zT,Option.bind_some,cond_true,ze4,Bool.true_and]
   cases h2:digB (atS q 1)with
   |false=>simp only[cond_false,Bool.false_eq_true,if_false]
   |true=>
    rw[cond_true,if_pos rfl,zvl hs hp (by rw[beq_iff_eq.1 h];decide),zn8 hs (zbZ hp 1)]
    rfl
 rw[e2,zg]
 have hw:=zqe hp
 generalize zK q=W at hw ⊢
 obtain⟨w,i⟩:=W
 simp only at hw ⊢
 have e3:((zf (0,sr s w)).bind fun y9=>
   (zn (!(y9==101)) (zf (0,sr s w)) (default:Int)).bind fun y10=>
   bif bif y9==101 then true else y10==69 then
    zU (X:=(Bool×Int)×za) ((zf (1,sr s w)).bind fun y11=>bif bif y11==43 then true else y11==45 then some (LX.out ((i,2),sr s w))else some (LX.out ((i,1),sr s w))) fun j12=>
    (zf (j12.1.2,j12.2)).bind fun y13=>(Zc y13).bind fun y14=>
    bif y14 then(zJ (⟨j12.2.s,w64 (j12.2.at_+j12.1.2)⟩:za)).bind fun y15=>some (LX.out (false,y15))else some (LX.out (j12.1.1,j12.2))
   else some (LX.out (i,sr s w)))=(some (LX.out (match expS w with|some r=>(false,sr s r)|none=>(i,sr s w))):Option (LX (Bool×za) (Bool×za))):=by
  simp only[zaW hs hw,Option.bind_some,zBg]
  have e4:((zn (!(atS w 0==101)) (some (pk w 0)) (default:Int)).bind fun y10=>(some (bif atS w 0==101 then true else y10==69):Option Bool))=some (atS w 0==101||atS w 0==69):=by
   cases h:atS w 0==101 with
   |true=>rfl
   |false=>simp only[Bool.not_false,zT,Option.bind_some,cond_false,zBV,Bool.false_or]
  have e5: ∀(f:Bool→Option (LX (Bool×za) (Bool×za))),((zn (!(atS w 0==101)) (some (pk w 0)) (default:Int)).bind fun y10=>f (bif atS w 0==101 then true else y10==69))=f (atS w 0==101||atS w 0==69):=by
   intro f
   have:=congrArg (fun o=>Option.bind o f) e4
   simpa [Option.bind_assoc] using this
  refine(e5 (fun b=>bif b then _ else _)).trans ?_
  unfold expS
  cases h:(atS w 0==101||atS w 0==69)with
  |false=>rfl
  |true=>
   have hne:atS w 0≠0:=by
    intro e;rw[e]at h;revert h;decide
   simp only[cond_true,if_true,zpE hs hw,Option.bind_some,zzZ,zvO,zzR]
   unfold unsign
   have hd:atS (w.drop 1) 0=atS w 1:=by rw[Qe w 1 0]
   rw[hd]
   cases hg:(atS w 1==43||atS w 1==45)with
   |true=>
    have hg':zaE (atS w 1)=true:=hg
    have hl2:=zsN (zwb hg')
    simp only[cond_true,zg,zBf hs hw,Option.bind_some,ze4,hg',if_true,List.drop_drop]
    rw[show atS (w.drop (1+1)) 0=atS w 2 by rw[Qe w 2 0]]
    cases hq:digB (atS w 2)with
    |false=>rfl
    |true=>
     rw[cond_true,if_pos rfl,show(2:Int)=((2:Nat):Int)from rfl,zxC hs hw (by omega),zn8 hs (zbZ hw 2)]
     rfl
   |false=>
    have hg':zaE (atS w 1)=false:=hg
    simp only[cond_false,zg,zpE hs hw,Option.bind_some,ze4,hg',Bool.false_eq_true,if_false]
    rw[hd]
    cases hq:digB (atS w 1)with
    |false=>rfl
    |true=>
     rw[cond_true,if_pos rfl,zvl hs hw hne,zn8 hs (zbZ hw 1)]
     rfl
 refine(congrArg (fun o=>zU o _) e3).trans ?_
 rw[zg]
 cases expS w<;>rfl
end Go.Lv.VT

namespace Go.Lv.VT
set_option maxRecDepth 100000
def valG(n:Nat)(l:Str):Nat:=l.foldl decN n
theorem zjl(n:Nat)(a b:Str):valG n (a++b)=valG (valG n a) b:=List.foldl_append
theorem zrM{k:Nat}(h:k<10):digB (UInt8.ofNat (48+k))=true∧(UInt8.ofNat (48+k)).toNat=48+k:=by
 have:(UInt8.ofNat (48+k)).toNat=48+k:=by rw[UInt8.toNat_ofNat'];omega
 refine⟨?_,this⟩
 unfold digB
 rw[this,decide_eq_true (by omega),decide_eq_true (by omega)];rfl
theorem zhN: ∀(u:Nat),(Lib.decDigits u).all digB=true∧valG 0 (Lib.decDigits u)=u∧Lib.decDigits u≠[]:=by
 intro u
 induction u using Nat.strongRecOn with
 |_ u ih=>
  rw[Lib.decDigits]
  by_cases h:u<10
  ·rw[dif_pos h]
   obtain⟨h1,h2⟩:=zrM h
   refine⟨by rw[List.all_cons,h1];rfl,?_,by simp⟩
   show decN 0 _=u
   unfold decN;rw[h2];omega
  ·rw[dif_neg h]
   obtain⟨a,b,c⟩:=ih (u / 10) (by omega)
   obtain⟨h1,h2⟩:=zrM (k:=u%10) (by omega)
   refine⟨by rw[List.all_append,a,List.all_cons,h1];rfl,?_,by simp⟩
   rw[zjl,b]
   show decN _ _=u
   unfold decN;rw[h2];omega
theorem zjc: ∀(q t:Str),q.all digB=true→past digB (q++t)=past digB t
 |[],t,_=>rfl
 |c::q,t,h=>by
  rw[List.all_cons,Bool.and_eq_true]at h
  rw[List.cons_append,past,if_pos h.1,zjc q t h.2]
def d48(k:Nat):UInt8:=UInt8.ofNat (48+k)
def zgX(r:Nat):Str:=Lib.trimRightB [d48 (r / 100),d48 (r / 10%10),d48 (r%10)] 48
theorem zw0{r:Nat}(h:r<1000):Lib.decDigits (1000+r)=49::[d48 (r / 100),d48 (r / 10%10),d48 (r%10)]:=by
 rw[Lib.decDigits,dif_neg (by omega),Lib.decDigits,dif_neg (by omega),Lib.decDigits,dif_neg (by omega),Lib.decDigits,dif_pos (by omega)]
 rw[show(1000+r) / 10 / 10 / 10=1 by omega,show(1000+r) / 10 / 10%10=r / 100 by omega,show(1000+r) / 10%10=r / 10%10 by omega,show(1000+r)%10=r%10 by omega]
 rfl
def zrT(r:Nat):Bool:=(zgX r).all digB&&decide ((zgX r).length≤3)&&decide (valG 0 (zgX r)*10 ^ (3 - (zgX r).length)=r)&&((zgX r).isEmpty==(r==0))&& !((zgX r).getLast? ==some 48)
theorem zmX: ∀r,r<1000→zrT r=true:=by decide+kernel
def zp2(r:Nat)(p:Bool):Str:=bif (zgX r).isEmpty then(bif p then [46,48]else [])else 46::zgX r
def zbL(m:Nat)(p:Bool):Str:=Lib.decDigits (m / 1000)++zp2 (m%1000) p
def numT(n:Int)(p:Bool):Str:=(if n<0 then [45]else [])++zbL n.natAbs p
theorem zjS{u:Nat}(h:u<18446744073709551616):(Lib.decDigits u).length≤20:=by
 rw[Lib.decDigits_length]
 by_cases h1:u=0
 ·subst h1;rw[Lib.nDigits_small (by omega)];omega
 ·have:=Lib.numDigits_eq u (by omega) h;split at this<;>omega
theorem zx4{r:Nat}(h:r<1000)(p:Bool):(zp2 r p).length≤4:=by
 have:=zmX r h
 simp only[zrT,Bool.and_eq_true,decide_eq_true_eq]at this
 unfold zp2
 cases (zgX r).isEmpty with
 |true=>cases p<;>simp
 |false=>simp only[cond_false,List.length_cons];omega
theorem zi0{m:Nat}(h:m≤1000000000000)(p:Bool):(zbL m p).length≤24:=by
 unfold zbL
 rw[List.length_append]
 have:=zjS (u:=m / 1000) (by omega)
 have:=zx4 (r:=m%1000) (by omega) p
 omega
theorem zmA{n m b:Nat}(h:n+m≤100000)(hb:b≤100):Ze n m b=true:=by
 unfold Ze
 refine decide_eq_true ?_
 have:=Nat.mul_le_mul h hb
 omega
theorem ztZ(l:Str):(l==[])=l.isEmpty:=by cases l<;>rfl
end Go.Lv.VT

namespace Go.Lv.VT
def ziJ(n:Nat):Nat:=if 65≤n∧n≤90 then n+32 else n
def ze1(b:UInt8):UInt8:=UInt8.ofNat (ziJ b.toNat)
theorem zwd{n:Nat}(h:n<256):ziJ n<256:=by unfold ziJ;split<;>omega
theorem zty(b:UInt8):(ze1 b).toNat=ziJ b.toNat:=by
 unfold ze1
 rw[UInt8.toNat_ofNat']
 exact Nat.mod_eq_of_lt (zwd (UInt8.toNat_lt b))
theorem zvY: ∀n:Nat,n<256→qj (n:Int)=some ((ziJ n:Nat):Int):=by decide+kernel
theorem zA0: ∀n:Nat,n<256→(bif decide (65≤(n:Int))then decide ((n:Int)≤90)else false)=true→Zl (ibOr IntKind.u8 (n:Int) 32)=some (UInt8.ofNat (ziJ n)):=by decide+kernel
def lowS(l:Str):Str:=l.map ze1
theorem znO{α:Type}{l:List α}{i:Nat}(h:i<l.length)(f:α→α):((l.take i).map f++l.drop i).set i (f l[i])=(l.take (i+1)).map f++l.drop (i+1):=by
 apply List.ext_getElem
 ·simp;omega
 ·intro j h1 h2
  rw[List.getElem_set]
  split
  ·rename_i hij;subst hij
   rw[List.getElem_append_left (by simp;omega)]
   simp
  ·rename_i hij
   simp only[List.getElem_append,List.length_map,List.length_take,List.getElem_map,List.getElem_take,List.getElem_drop]
   split
   ·rename_i hlt
    rw[dif_pos (by omega)]
   ·rename_i hlt
    rw[dif_neg (by omega)]
    congr 1;omega
theorem zq2{α:Type}{l:List α}{i:Nat}(h:i<l.length)(f:α→α):((l.take i).map f++l.drop i)[i]? =some l[i]:=by
 rw[List.getElem?_append_right (by simp;omega)]
 simp[h,Nat.min_eq_left (Nat.le_of_lt h)]
theorem znh{α:Type}{l:List α}{i:Nat}(h:i≤l.length)(f:α→α):((l.take i).map f++l.drop i).length=l.length:=by
 simp;omega
theorem zxx{α:Type}{l:List α}{i:Nat}(h:i<l.length)(f:α→α)(e:f l[i]=l[i]):(l.take i).map f++l.drop i=(l.take (i+1)).map f++l.drop (i+1):=by
 rw[←znO h f,e]
 apply List.ext_getElem?
 intro j
 rw[List.getElem?_set]
 split
 ·rename_i hij
  subst hij
  rw[zq2 h,znh (Nat.le_of_lt h),if_pos h]
 ·rfl
theorem zpm(i:Nat):decide ((0:Int)≤(i:Int))=true:=decide_eq_true (by omega)
theorem zpL{l:Str}(h:l.length≤big):QK l=some (lowS l):=by
 unfold QK
 rw[zw (decide_eq_true (by unfold big at h;unfold maxLen;omega))]
 have key: ∀(k i:Nat),i+k=l.length→ ∃n,Q6 (X:=List UInt8) (R:=Str) (fun(s1:Int×List UInt8)=>
   bif decide (s1.1<(s1.2.length:Int))then
    need (decide (0≤s1.1)&&decide (s1.1<(s1.2.length:Int)))<|
    ze s1.2[s1.1.toNat]? fun y2=>
    ze (qj (y2.toNat:Int)) fun y3=>
    need (decide (0≤s1.1)&&decide (s1.1<(s1.2.length:Int)))<|
    ze s1.2[s1.1.toNat]? fun y4=>
    ze (Zl y3) fun y5=>
    some (LO.again (w64 (s1.1+1),List.set s1.2 s1.1.toNat y5))
   else
    some (LO.out s1.2)) n ((i:Int),(l.take i).map ze1++l.drop i)=some (.out (lowS l)):=by
  intro k
  induction k with
  |zero=>
   intro i hi
   have hi:i=l.length:=by omega
   subst hi
   refine⟨1,?_⟩
   simp only[Q6,znh (Nat.le_refl _),zkm,cond_false]
   simp[lowS]
  |succ k ih=>
   intro i hi
   have hlt:i<l.length:=by omega
   obtain⟨n,hn⟩:=ih (i+1) (by omega)
   refine⟨n+1,?_⟩
   have hb:=UInt8.toNat_lt l[i]
   simp only[Q6,znh (Nat.le_of_lt hlt),zgj hlt,cond_true,zpm,Bool.and_true,ZR,Int.toNat_natCast,zq2 hlt,ze,Option.bind_some,zvY _ hb]
   rw[←zty,zwO,zcN hlt h]
   simp only[Option.bind_some,znO hlt]
   exact hn
 obtain⟨n,hn⟩:=key l.length 0 (by omega)
 replace hn:=zdN hn
 simp only[List.take_zero,List.map_nil,List.nil_append,List.drop_zero]at hn
 exact(zdO hn).trans rfl
theorem zmi{l:Str}(h:l.length≤big):zbb l=some (lowS l):=by
 unfold zbb
 rw[zw (decide_eq_true (by unfold big at h;unfold maxLen;omega))]
 have key: ∀(k i:Nat),i+k=l.length→ ∃n,Q6 (X:=List UInt8) (R:=Str) (fun(s1:Int×List UInt8)=>
   bif decide (s1.1<(l.length:Int))then
    zU (X:=Int×List UInt8) (
      need (decide (0≤s1.1)&&decide (s1.1<(s1.2.length:Int)))<|
      ze s1.2[s1.1.toNat]? fun y2=>
      bif bif decide (65≤(y2.toNat:Int))then decide ((y2.toNat:Int)≤90)else false then
       need (decide (0≤s1.1)&&decide (s1.1<(s1.2.length:Int)))<|
       ze s1.2[s1.1.toNat]? fun y3=>
       need (decide (0≤s1.1)&&decide (s1.1<(s1.2.length:Int)))<|
       ze s1.2[s1.1.toNat]? fun y4=>
       ze (Zl (ibOr IntKind.u8 (y3.toNat:Int) 32)) fun y5=>
       some (LX.out (s1.1,List.set s1.2 s1.1.toNat y5))
      else
       some (LX.out (s1.1,s1.2))) fun j6=>
    some (LO.again (w64 (j6.1+1),j6.2))
   else
    some (LO.out s1.2)) n ((i:Int),(l.take i).map ze1++l.drop i)=some (.out (lowS l)):=by
  intro k
  induction k with
  |zero=>
   intro i hi
   have hi:i=l.length:=by omega
   subst hi
   refine⟨1,?_⟩
   simp only[Q6,zkm,cond_false]
   simp[lowS]
  |succ k ih=>
   intro i hi
   have hlt:i<l.length:=by omega
   obtain⟨n,hn⟩:=ih (i+1) (by omega)
   refine⟨n+1,?_⟩
   have hb:=UInt8.toNat_lt l[i]
   simp only[Q6,znh (Nat.le_of_lt hlt),zgj hlt,cond_true,zpm,Bool.and_true,ZR,Int.toNat_natCast,zq2 hlt,ze,Option.bind_some]
   cases hc:(bif decide (65≤(l[i].toNat:Int))then decide ((l[i].toNat:Int)≤90)else false)with
   |true=>
    have e:=zA0 _ hb hc
    simp only[e,cond_true,Option.bind_some,zg,zcN hlt h]
    rw[show UInt8.ofNat (ziJ l[i].toNat)=ze1 l[i]from rfl,znO hlt]
    exact hn
   |false=>
    have e:ze1 l[i]=l[i]:=by
     unfold ze1 ziJ
     rw[if_neg,UInt8.ofNat_toNat]
     rintro⟨h1,h2⟩
     rw[decide_eq_true (by omega),cond_true,decide_eq_true (by omega)]at hc
     cases hc
    simp only[cond_false,zg,zcN hlt h]
    rw[zxx hlt ze1 e]
    exact hn
 obtain⟨n,hn⟩:=key l.length 0 (by omega)
 replace hn:=zdN hn
 simp only[List.take_zero,List.map_nil,List.nil_append,List.drop_zero]at hn
 exact(zdO hn).trans rfl
def Zh(l:Str):Bool:=l.all fun b=> !(b==0)
theorem zqP(c:UInt8): ∀l:Str,decide (Lib.indexByte l c≥0)=l.any fun b=>b==c
 |[]=>rfl
 |b::l=>by
  have ih:=zqP c l
  have hg:=Lib.indexByte_ge l c
  rw[List.any_cons,Lib.indexByte]
  cases hb:(b==c)with
  |true=>rfl
  |false=>
   rw[Bool.false_or,←ih,if_neg (by simp)]
   by_cases h:Lib.indexByte l c= -1
   ·rw[if_pos (by rw[h];rfl),h]
   ·rw[if_neg (by simpa using h)]
    rw[decide_eq_true (by omega),decide_eq_true (by omega)]
theorem zzI(l:Str):(l.any fun b=>b==0)= !Zh l:=by
 unfold Zh
 induction l with
 |nil=>rfl
 |cons b l ih=>rw[List.any_cons,List.all_cons,ih];cases (b==0)<;>simp
theorem zcF(l:Str)(n:Int):strings_IndexByte (l,n)=some (Lib.indexByte l n.toNat.toUInt8):=rfl
theorem zzu(l:Str):decide (Lib.indexByte l (0:Int).toNat.toUInt8≥0)= !Zh l:=(zqP 0 l).trans (zzI l)
theorem zAV(n m:Nat):decide ((n:Int)>(m:Int))= !decide (n≤m):=by
 by_cases h:n≤m
 ·rw[decide_eq_true h,decide_eq_false (by omega)];rfl
 ·rw[decide_eq_false h,decide_eq_true (by omega)];rfl
theorem byte_zero(b:UInt8):((b.toNat:Int)==0)=(b==0):=by
 by_cases h:b=0
 ·subst h;rfl
 ·have h2:b.toNat≠0:=fun e=>h (UInt8.toNat_inj.1 e)
  rw[beq_eq_false_iff_ne.2 h,beq_eq_false_iff_ne.2 (by omega)]
theorem zyB(n m:Nat):decide ((n:Int)≤(m:Int))=decide (n≤m):=by
 by_cases h:n≤m
 ·rw[decide_eq_true h,decide_eq_true (by omega)]
 ·rw[decide_eq_false h,decide_eq_false (by omega)]
theorem zaz(l m:Str):strings_HasPrefix (l,m)=some (m.isPrefixOf l):=by
 have key: ∀m l:Str,m.isPrefixOf l=(decide (m.length≤l.length)&&l.take m.length==m):=by
  intro m l
  rw[Bool.eq_iff_iff]
  simp only[List.isPrefixOf_iff_prefix,Bool.and_eq_true,decide_eq_true_eq,beq_iff_eq]
  constructor
  ·rintro⟨t,rfl⟩
   exact⟨by simp,by simp⟩
  ·rintro⟨h1,h2⟩
   exact⟨l.drop m.length,by rw[←h2,List.length_take,Nat.min_eq_left h1,List.take_append_drop]⟩
 unfold strings_HasPrefix stringslite_HasPrefix
 have e1:decide ((l.length:Int)≥(m.length:Int))=decide (m.length≤l.length):=zyB _ _
 have e2:decide ((m.length:Int)≤(l.length:Int))=decide (m.length≤l.length):=zyB _ _
 simp only[e1,e2,zpm,Bool.true_and,key]
 cases decide (m.length≤l.length)<;>rfl
theorem zn2(l m:Str):strings_TrimPrefix (l,m)=some (bif m.isPrefixOf l then l.drop m.length else l):=by
 have h:stringslite_HasPrefix (l,m)=some (m.isPrefixOf l):=by
  have:=zaz l m
  unfold strings_HasPrefix at this
  cases hh:stringslite_HasPrefix (l,m)with
  |none=>simp only[hh]at this;cases this
  |some b=>simp only[hh]at this;exact this
 unfold strings_TrimPrefix stringslite_TrimPrefix
 simp only[h,ze,Option.bind_some]
 cases hp:m.isPrefixOf l with
 |false=>rfl
 |true=>
  have hl:=(List.isPrefixOf_iff_prefix.1 hp).length_le
  simp only[cond_true,zpm,Bool.true_and]
  rw[zw (decide_eq_true (by omega))]
  rfl
theorem zib{a b:Str}(h1:a.length≤big)(h2:b.length≤big):zaq (a,b)=some (lowS a==lowS b):=by
 unfold zaq
 simp only[zmi h1,zmi h2,ze,Option.bind_some]
theorem zvX{a b:Str}(h1:a.length≤big)(h2:b.length≤big):qi (a,b)=some (lowS a==lowS b):=by
 unfold qi
 simp only[zpL h1,zpL h2,ze,Option.bind_some]
end Go.Lv.VT

namespace Go.Lv.VT
def zci(n:Nat):Bool:=
 !(n==0||n==9||n==10||n==12||n==13||n==32||n==34||n==39||n==40||n==41||n==44||n==58||n==59||n==91||n==93||n==95||n==123||n==125)&&
  (decide (n<128)&& !((decide (48≤n)&&decide (n≤57))||(decide (65≤n)&&decide (n≤90))||(decide (97≤n)&&decide (n≤122))))
set_option maxRecDepth 100000 in
theorem zzd: ∀n:Nat,n<256→zdY 40 (n:Int)=some (zci n):=by decide+kernel
theorem zlA(b:UInt8):qm (b.toNat:Int)=some (zci b.toNat):=
 zll 40 _ _ (zzd _ (UInt8.toNat_lt b))
def digN(n:Nat):Bool:=decide (48≤n)&&decide (n≤57)
theorem zrj: ∀n:Nat,n<256→Zx 1 (n:Int)=some (digN n):=by decide+kernel
theorem zpK(b:UInt8):zS (b.toNat:Int)=some (digN b.toNat):=ZN 1 _ _ (zrj _ (UInt8.toNat_lt b))
theorem zoO: ∀n:Nat,n<256→zcE 1 (n:Int)=some (digN n):=by decide+kernel
theorem zgZ(b:UInt8):ZU (b.toNat:Int)=some (digN b.toNat):=zg5 1 _ _ (zoO _ (UInt8.toNat_lt b))
def namN(n:Nat):Bool:=digN n||(decide (65≤n)&&decide (n≤90))||(decide (97≤n)&&decide (n≤122))||n==95||n==45||decide (128≤n)
theorem zoQ: ∀n:Nat,n<256→zew 1 (n:Int)=some (namN n):=by decide+kernel
theorem zg0(b:UInt8):QU (b.toNat:Int)=some (namN b.toNat):=znd 1 _ _ (zoQ _ (UInt8.toNat_lt b))
def zjv:Str→Bool
 |[]=>false
 |b::r=>digN b.toNat||(b==45&&(r==[]||digN (r.headD 0).toNat))
theorem zmJ(b c:UInt8):((b.toNat:Int)==(c.toNat:Int))=(b==c):=by
 by_cases h:b=c
 ·subst h;simp
 ·have h2:b.toNat≠c.toNat:=fun e=>h (UInt8.toNat_inj.1 e)
  rw[beq_eq_false_iff_ne.2 h,beq_eq_false_iff_ne.2 (by omega)]
theorem zy2(b:UInt8):((b.toNat:Int)==45)=(b==45):=zmJ b 45
theorem znG(l:Str):zdp l=some (zjv l):=by
 unfold zdp
 cases l with
 |nil=>rfl
 |cons b r=>
  have h0:geti (b::r) 0=some b:=rfl
  have hn:(b::r==([]:Str))=false:=rfl
  simp only[hn,cond_false,h0,ze,Option.bind_some,zpK,QS,zy2]
  cases r with
  |nil=>
   have e:(([b]:Str)==[45])=(b==45):=by
    show((b==45)&&true)=_
    rw[Bool.and_true]
   simp only[e]
   unfold zjv
   cases hb:(b==45)with
   |false=>cases h2:digN b.toNat<;>simp[hb,zn,h2]
   |true=>cases h2:digN b.toNat<;>simp[hb,zn,h2]
  |cons d r=>
   have h1:geti (b::d::r) 1=some d:=rfl
   have e:((b::d::r:Str)==[45])=false:=by
    show((b==45)&&false)=_
    rw[Bool.and_false]
   simp only[h1,e,QS,Option.bind_some,zpK,zjv,List.headD_cons]
   cases hb:(b==45)<;>cases h2:digN b.toNat<;>simp[hb]
def numS:Str→Bool
 |[]=>false
 |b::r=>bif b==45 then !(r==[])&&digN (r.headD 0).toNat else digN b.toNat
theorem zex(l:Str):QF l=some (numS l):=by
 unfold QF
 simp only[zn2,ze,Option.bind_some]
 have key: ∀m:Str,((zn (!(m==[])) (geti m 0) 0).bind fun y2=>(zn (!(m==[])) (ZU (y2.toNat:Int)) (default:Bool)).bind fun y3=>some (bif !(m==[])then y3 else false))=some (!(m==[])&&digN (m.headD 0).toNat):=by
  intro m
  cases m with
  |nil=>rfl
  |cons b r=>
   have h0:geti (b::r) 0=some b:=rfl
   have hn:(b::r==([]:Str))=false:=rfl
   simp only[hn,Bool.not_false,zT,h0,Option.bind_some,zgZ,cond_true,List.headD_cons,Bool.true_and]
 rw[key]
 cases l with
 |nil=>rfl
 |cons b r=>
  have e:List.isPrefixOf [45] (b::r)=(b==45):=by
   show((45==b)&&true)=_
   rw[Bool.and_true]
   cases hb:(b==45)with
   |true=>rw[beq_iff_eq]at hb;subst hb;rfl
   |false=>rw[beq_eq_false_iff_ne]at hb;exact beq_eq_false_iff_ne.2 (Ne.symm hb)
  rw[e]
  show _=some (bif b==45 then !(r==[])&&digN (r.headD 0).toNat else digN b.toNat)
  cases b==45<;>rfl
theorem zxI(l:Str):((numS l&& !(List.isPrefixOf [45,45] l))||l==[45])=zjv l:=by
 cases l with
 |nil=>rfl
 |cons b r=>
  cases hb:(b==45)with
  |false=>
   have e1:List.isPrefixOf [45,45] (b::r)=false:=by
    show((45==b)&&_)=_
    rw[beq_eq_false_iff_ne]at hb
    rw[beq_eq_false_iff_ne.2 (Ne.symm hb)];rfl
   have e2:((b::r:Str)==[45])=false:=by
    show((b==45)&&_)=_
    rw[hb];rfl
   rw[e1,e2]
   unfold numS zjv
   simp[hb]
  |true=>
   rw[beq_iff_eq]at hb
   subst hb
   cases r with
   |nil=>rfl
   |cons d r=>
    have e2:((45::d::r:Str)==[45])=false:=rfl
    rw[e2]
    unfold numS zjv
    have e1:List.isPrefixOf [45,45] (45::d::r)=(45==d):=by
     show((45==(45:UInt8))&&((45==d)&&true))=_
     rw[Bool.and_true];rfl
    rw[e1]
    simp only[List.headD_cons]
    have hd:digN 45=false:=by decide
    cases h:(45==d)with
    |false=>simp[hd]
    |true=>rw[beq_iff_eq]at h;subst h;rfl
end Go.Lv.VT

namespace Go.Lv.VT
def delS(l:Str):Bool:=match l with
 |[b]=>zci b.toNat
 |_=>false
def rngS(x:zb):Bool:=decide (-1000000000000≤x.num)&&(decide (x.num≤1000000000000)&&(!x.flag||Int.tmod x.num 1000==0))
def zbA(x:zb):Bool:=
 bif x.kind==1||x.kind==2||x.kind==3 then !(x.text==[])&&(Zh x.text&&(x.num==0&&(x.unit==[]&& !x.flag)))
 else bif x.kind==4 then !(x.text==[])&&(Zh x.text&&((x.flag||zjv x.text)&&(x.num==0&&x.unit==[])))
 else bif x.kind==5||x.kind==7 then Zh x.text&&(x.num==0&&(x.unit==[]&& !x.flag))
 else bif x.kind==9 then delS x.text&&(x.num==0&&(x.unit==[]&& !x.flag))
 else bif x.kind==10||x.kind==11||x.kind==12 then rngS x&&((!(x.unit==[])==(x.kind==12))&&(Zh x.unit&&((!(x.kind==11)|| !x.flag)&&x.text==[])))
 else(decide (13≤x.kind)&&decide (x.kind≤24))&&(x.text==[]&&(x.num==0&&(x.unit==[]&& !x.flag)))
theorem zf2{l:Str}(h:l.length≤big):QO l=some (Zh l):=by
 unfold QO
 refine(zl9 l (fun b=>bif (!(b==0))then none else some false) () (fun i hi=> ?_) ?_).trans ?_
 ·simp only[zgj hi,cond_true,zbB hi,ze,Option.bind_some,byte_zero,zcN hi h]
  cases l[i]==0<;>rfl
 ·simp only[zkm,cond_false]
 ·rw[zmW]
  show _=some (Zh l)
  unfold Zh
  cases l.all (fun b=> !(b==0))<;>rfl
theorem one_byte(l:Str)(p:Nat→Bool)(d:Bool)(f:Int→Option Bool)(hf: ∀b:UInt8,f (b.toNat:Int)=some (p b.toNat))(g:Bool):
  ((zn (g&&(l.length:Int)==1) (geti l 0) (0:UInt8)).bind fun y=>zn (g&&(l.length:Int)==1) (f (y.toNat:Int)) d)=some (bif g&&(l.length:Int)==1 then(match l with|[b]=>p b.toNat|_=>false)else d):=by
 cases g with
 |false=>rfl
 |true=>
  cases l with
  |nil=>rfl
  |cons b r=>
   cases r with
   |nil=>
    show((geti [b] 0).bind fun y=>f (y.toNat:Int))=some (p b.toNat)
    rw[show geti [b] 0=some b from rfl]
    exact hf b
   |cons c r=>
    have:(((b::c::r).length:Int)==1)=false:=beq_eq_false_iff_ne.2 (by simp only[List.length_cons];omega)
    rw[this];rfl
theorem zsY(l:Str)(g:Bool):((zn (g&&(l.length:Int)==1) (geti l 0) (0:UInt8)).bind fun y=>zn (g&&(l.length:Int)==1) (qm (y.toNat:Int)) (default:Bool))=some (bif g&&(l.length:Int)==1 then delS l else default):=
 one_byte l zci default qm zlA g
theorem zw2(l:Str):(((l.length:Int)==1)&&delS l)=delS l:=by
 cases l with
 |nil=>rfl
 |cons b r=>
  cases r with
  |nil=>rfl
  |cons c r=>
   have:(((b::c::r).length:Int)==1)=false:=beq_eq_false_iff_ne.2 (by simp only[List.length_cons];omega)
   rw[this];rfl
theorem znH{x:zb}(h1:x.text.length≤big)(h2:x.unit.length≤big):zdq x=some (zbA x):=by
 have hd:=zsY x.text true
 simp only[Bool.true_and]at hd
 have hd':((zn ((x.text.length:Int)==1) (geti x.text 0) (0:UInt8)).bind fun y7=>(zn ((x.text.length:Int)==1) (qm (y7.toNat:Int)) (default:Bool)).bind fun y8=>some (bif bif (x.text.length:Int)==1 then y8 else false then x.kind==x.kind&&(([]:Str)==[]&&(x.num==0&&(x.unit==[]&&(x.flag==false&&true))))else false))=some (delS x.text&&(x.num==0&&(x.unit==[]&& !x.flag))):=by
  have e: ∀(k:Bool→Option Bool),((zn ((x.text.length:Int)==1) (geti x.text 0) (0:UInt8)).bind fun y7=>(zn ((x.text.length:Int)==1) (qm (y7.toNat:Int)) (default:Bool)).bind k)=(((zn ((x.text.length:Int)==1) (geti x.text 0) (0:UInt8)).bind fun y=>zn ((x.text.length:Int)==1) (qm (y.toNat:Int)) (default:Bool))).bind k:=by
   intro k;rw[Option.bind_assoc]
  rw[e,hd,Option.bind_some,←zw2 x.text]
  simp only[beq_self_eq_true]
  cases (x.text.length:Int)==1<;>cases delS x.text<;>cases x.flag<;>rfl
 unfold zdq
 simp only[ze,zf2 h1,zf2 h2,znG,QS,Option.bind_some,ge_iff_le]
 unfold zbA rngS
 by_cases k9:x.kind=9
 ·simp only[k9,Int.reduceBEq,cond_true,cond_false,zg,Bool.or_false,Bool.false_or]at hd' ⊢
  exact hd'
 clear hd hd'
 have b9:=beq_eq_false_iff_ne.2 k9
 generalize delS x.text=a0
 generalize Zh x.text=a1
 generalize Zh x.unit=a2
 generalize zjv x.text=a3
 generalize hc1:(x.text==[])=a4
 generalize hc2:(x.unit==[])=a5
 generalize hc3:(x.num==0)=a6
 generalize hc4:x.flag=a7
 generalize decide (-1000000000000≤x.num)=a8
 generalize decide (x.num≤1000000000000)=a9
 generalize (Int.tmod x.num 1000==0)=a10
 by_cases k1:x.kind=1
 ·simp only[k1,zg,cond_true,cond_false,hc1,hc2,hc3,hc4,Int.reduceBEq]
  cases a1<;>cases a4<;>cases a5<;>cases a6<;>cases a7<;>rfl
 by_cases k2:x.kind=2
 ·simp only[k2,zg,cond_true,cond_false,hc1,hc2,hc3,hc4,Int.reduceBEq]
  cases a1<;>cases a4<;>cases a5<;>cases a6<;>cases a7<;>rfl
 by_cases k3:x.kind=3
 ·simp only[k3,zg,cond_true,cond_false,hc1,hc2,hc3,hc4,Int.reduceBEq]
  cases a1<;>cases a4<;>cases a5<;>cases a6<;>cases a7<;>rfl
 by_cases k4:x.kind=4
 ·simp only[k4,zg,cond_true,cond_false,hc1,hc2,hc3,hc4,Int.reduceBEq]
  cases a1<;>cases a3<;>cases a4<;>cases a5<;>cases a6<;>cases a7<;>rfl
 by_cases k5:x.kind=5
 ·simp only[k5,zg,cond_true,cond_false,hc1,hc2,hc3,hc4,Int.reduceBEq]
  cases a1<;>cases a4<;>cases a5<;>cases a6<;>cases a7<;>rfl
 by_cases k7:x.kind=7
 ·simp only[k7,zg,cond_true,cond_false,hc1,hc2,hc3,hc4,Int.reduceBEq]
  cases a1<;>cases a4<;>cases a5<;>cases a6<;>cases a7<;>rfl
 by_cases k10:x.kind=10
 ·simp only[k10,zg,cond_true,cond_false,hc1,hc2,hc3,hc4,Int.reduceBEq]
  cases a2<;>cases a4<;>cases a5<;>cases a7<;>cases a8<;>cases a9<;>cases a10<;>rfl
 by_cases k11:x.kind=11
 ·simp only[k11,zg,cond_true,cond_false,hc1,hc2,hc3,hc4,Int.reduceBEq]
  cases a2<;>cases a4<;>cases a5<;>cases a7<;>cases a8<;>cases a9<;>cases a10<;>rfl
 by_cases k12:x.kind=12
 ·simp only[k12,zg,cond_true,cond_false,hc1,hc2,hc3,hc4,Int.reduceBEq]
  cases a2<;>cases a4<;>cases a5<;>cases a7<;>cases a8<;>cases a9<;>cases a10<;>rfl
 simp only[b9,beq_eq_false_iff_ne.2 k1,beq_eq_false_iff_ne.2 k2,beq_eq_false_iff_ne.2 k3,beq_eq_false_iff_ne.2 k4,beq_eq_false_iff_ne.2 k5,beq_eq_false_iff_ne.2 k7,beq_eq_false_iff_ne.2 k10,beq_eq_false_iff_ne.2 k11,beq_eq_false_iff_ne.2 k12,zg,cond_true,cond_false,hc1,hc2,hc3,hc4,beq_self_eq_true,Bool.or_self]
 by_cases k6:x.kind=6
 ·simp only[k6,zg,cond_true,cond_false,Int.reduceBEq];rfl
 by_cases k8:x.kind=8
 ·simp only[k8,zg,cond_true,cond_false,Int.reduceBEq];rfl
 simp only[beq_eq_false_iff_ne.2 k6,beq_eq_false_iff_ne.2 k8,zg,cond_true,cond_false]
 have e:(decide (1≤x.kind)&&decide (x.kind≤24))=(decide (13≤x.kind)&&decide (x.kind≤24)):=by
  by_cases hh:13≤x.kind
  ·rw[decide_eq_true hh,decide_eq_true (by omega)]
  ·rw[decide_eq_false hh]
   by_cases h1:1≤x.kind
   ·omega
   ·rw[decide_eq_false h1]
 rw[←e]
 cases decide (1≤x.kind)<;>cases decide (x.kind≤24)<;>cases a4<;>cases a5<;>cases a6<;>cases a7<;>rfl
abbrev zmb:Str:=[32,9,10,12,13,34,39,58,59,44,91,93,40,41,123,125]
theorem zfi: ∀(m:Str) (c:UInt8),Lib.index m [c]=Lib.indexByte m c
 |[],c=>rfl
 |b::l,c=>by
  have h:List.isPrefixOf [c] (b::l)=(b==c):=by
   show(c==b&&List.isPrefixOf [] l)=_
   rw[List.isPrefixOf,Bool.and_true]
   by_cases e:b=c
   ·subst e;rfl
   ·rw[beq_eq_false_iff_ne.2 e,beq_eq_false_iff_ne.2 (fun h=>e h.symm)]
  rw[Lib.index,Lib.indexByte,h,zfi l c]
theorem contains_one(m:Str)(c:UInt8)(hm:short m=true:=by decide):strings_Contains (m,[c])=some (m.any fun b=>b==c):=by
 unfold strings_Contains
 simp only[zg3,hm,ZR,ze,Option.bind_some,zfi,zqP]
theorem zlb(c:UInt8):strings_Contains ([32,9,10,12,13,34,39,58,59,44,91,93,40,41,123,125],[c])=some (zmb.any fun b=>b==c):=contains_one zmb c
theorem zsX: ∀n:Nat,n<256→((bif bif !(UInt8.ofNat n==0)then !namN n else false then true else UInt8.ofNat n==45)&&(!(zmb.any fun b=>b==UInt8.ofNat n)))=zci n:=by decide+kernel
theorem zw3(b:UInt8):((bif bif !(b==0)then !namN b.toNat else false then true else b==45)&&(!(zmb.any fun c=>c==b)))=zci b.toNat:=by
 have:=zsX b.toNat (UInt8.toNat_lt b)
 rwa [UInt8.ofNat_toNat]at this
theorem zpn(a b:Str):Zh (a++b)=(Zh a&&Zh b):=by
 unfold Zh;rw[List.all_append]
theorem zzF(n:Int):decide (n<0)= !decide (n≥0):=by
 by_cases h:n<0
 ·rw[decide_eq_true h,decide_eq_false (by omega)];rfl
 ·rw[decide_eq_false h,decide_eq_true (by omega)];rfl
end Go.Lv.VT

namespace Go.Lv.VT
set_option maxRecDepth 100000
theorem zk5: ∀(l:Str) (n:Nat),valG n l=n*10 ^ l.length+valG 0 l
 |[],n=>by simp[valG]
 |c::l,n=>by
  show valG (decN n c) l=n*10 ^ (l.length+1)+valG (decN 0 c) l
  rw[zk5 l (decN n c),zk5 l (decN 0 c),Nat.pow_succ]
  unfold decN
  rw[Nat.add_mul,Nat.mul_zero,Nat.zero_add,Nat.mul_comm 10 n,Nat.mul_assoc,Nat.mul_comm 10 (10 ^ l.length)]
  omega
theorem zwx(l:Str)(i:Nat):valG 0 (l.take i)≤valG 0 l:=by
 have h:valG 0 l=valG (valG 0 (l.take i)) (l.drop i):=by rw[←zjl,List.take_append_drop]
 rw[h,zk5 (l.drop i)]
 have:=Nat.le_mul_of_pos_right (valG 0 (l.take i)) (Nat.pow_pos (n:=(l.drop i).length) (show 0<10 by omega))
 omega
theorem zc7{b:UInt8}(h:digB b=true):48≤b.toNat∧b.toNat≤57:=by
 unfold digB at h
 simpa using h
theorem zx2 {R:Type} {step:Int×Int→Option (LO (Int×Int) Int R)} {l:Str} (hl:l.all digB=true) (hn:l.length≤100000) (hv:valG 0 l≤1000000000000)
  (h1: ∀(v:Int) (i:Nat) (hi:i<l.length),step (v,(i:Int))=some (.again (if 1000000000000<w64 (w64 (10*v)+w64 (wu8 ((l[i].toNat:Int) - 48)))then 1000000000000 else w64 (w64 (10*v)+w64 (wu8 ((l[i].toNat:Int) - 48))),w64 ((i:Int)+1))))
  (h2: ∀v:Int,step (v,(l.length:Int))=some (.out v)):zdM step (0,0)=some (.out ((valG 0 l:Nat):Int)):=by
 refine qN (fun s=> ∃i:Nat,i≤l.length∧s=(((valG 0 (l.take i):Nat):Int),(i:Int))) (fun s=>l.length - s.2.toNat) _ ?_ ⟨0,by omega,rfl⟩
 rintro _ ⟨i,hi,rfl⟩
 rcases Nat.lt_or_ge i l.length with h|h
 ·refine .inl ⟨_,h1 _ i h,⟨i+1,by omega,?_⟩,by simp only;rw[zV (by omega) (by omega)];omega⟩
  have hd:=zc7 (List.all_eq_true.1 hl _ (List.getElem_mem h))
  have ht:valG 0 (l.take (i+1))=decN (valG 0 (l.take i)) l[i]:=by
   rw[List.take_succ_eq_append_getElem h,zjl];rfl
  have hb:=zwx l (i+1)
  have hu:wu8 ((l[i].toNat:Int) - 48)=((l[i].toNat - 48:Nat):Int):=by
   show IntKind.u8.wrap _=_
   rw[IntKind.wrap_u8];omega
  unfold decN at ht
  rw[hu,zV (n:=10*_) (by omega) (by omega),zV (n:=((l[i].toNat - 48:Nat):Int)) (by omega) (by omega),zV (n:=(i:Int)+1) (by omega) (by omega),zV (by omega) (by omega),if_neg (by omega)]
  refine Prod.ext ?_ ?_
  ·show(10*((valG 0 (l.take i):Nat):Int)+((l[i].toNat - 48:Nat):Int))=_
   omega
  ·show(i:Int)+1=((i+1:Nat):Int)
   omega
 ·have:i=l.length:=by omega
  subst this
  refine .inr (.inl ⟨_,h2 _,?_⟩)
  rw[List.take_length]
theorem ztE {R:Type} {step:Int×Int→Option (LO (Int×Int) Int R)} {v p:Nat} (hp:p≤100) (hv:v*10 ^ p≤1000000000000)
  (h: ∀(a b:Int),step (a,b)=bif bif bif decide (a>0)then decide (b>0)else false then decide (b<1000000000000)else false then some (.again (w64 (a - 1),if 1000000000000<w64 (10*b)then 1000000000000 else w64 (10*b)))else some (.out b)):
  zdM step ((p:Int),(v:Int))=some (.out ((v*10 ^ p:Nat):Int)):=by
 refine qN (fun s=> ∃a b:Nat,s=((a:Int),(b:Int))∧a≤100∧b*10 ^ a=v*10 ^ p) (fun s=>s.1.toNat) _ ?_ ⟨p,v,rfl,hp,rfl⟩
 rintro _ ⟨a,b,rfl,ha,he⟩
 rw[h]
 cases a with
 |zero=>
  refine .inr (.inl ⟨(b:Int),rfl,?_⟩)
  rw[←he,Nat.pow_zero,Nat.mul_one]
 |succ a=>
  rw[decide_eq_true (show((a+1:Nat):Int)>0 by omega),cond_true]
  rw[Nat.pow_succ,←Nat.mul_assoc]at he
  have hpos:0<10 ^ a:=Nat.pow_pos (by omega)
  cases Nat.eq_zero_or_pos b with
  |inl h0=>
   subst h0
   refine .inr (.inl ⟨0,rfl,?_⟩)
   rw[←he];simp
  |inr h0=>
   rw[decide_eq_true (show((b:Nat):Int)>0 by omega),cond_true]
   have hle:b≤b*10 ^ a:=Nat.le_mul_of_pos_right b hpos
   rw[decide_eq_true (show((b:Nat):Int)<1000000000000 by omega),cond_true]
   refine .inl ⟨_,rfl,⟨a,10*b,?_,by omega,?_⟩,by simp only;rw[zV (by omega) (by omega)];omega⟩
   ·rw[zV (by omega) (by omega),zV (by omega) (by omega),if_neg (by omega)]
    refine Prod.ext ?_ ?_
    ·show((a+1:Nat):Int) - 1=(a:Int);omega
    ·show 10*(b:Int)=((10*b:Nat):Int);omega
   ·rw[←he,Nat.mul_comm 10 b,Nat.mul_assoc,Nat.mul_assoc,Nat.mul_comm 10 (10 ^ a)]
theorem zqO: ∀(q:Str),q.all digB=true→Lib.indexByte q 46= -1
 |[],_=>rfl
 |c::q,h=>by
  rw[List.all_cons,Bool.and_eq_true]at h
  have hd:=zc7 h.1
  have hc:(c==46)=false:=by
   refine beq_eq_false_iff_ne.2 (fun e=> ?_)
   subst e
   revert hd;decide
  rw[Lib.indexByte,hc,zqO q h.2]
  rfl
theorem zqN: ∀(q g:Str),q.all digB=true→Lib.indexByte (q++46::g) 46=(q.length:Int)
 |[],g,_=>by rw[List.nil_append,Lib.indexByte];rfl
 |c::q,g,h=>by
  rw[List.all_cons,Bool.and_eq_true]at h
  have hd:=zc7 h.1
  have hc:(c==46)=false:=by
   refine beq_eq_false_iff_ne.2 (fun e=> ?_)
   subst e
   revert hd;decide
  rw[List.cons_append,Lib.indexByte,hc,zqN q g h.2]
  have:((q.length:Int)== -1)=false:=beq_eq_false_iff_ne.2 (by omega)
  rw[this,List.length_cons]
  simp
theorem zqj: ∀(l:Str),(l.all fun b=>digB b||b==46)=true→Lib.indexAny l [101,69]= -1
 |[],_=>rfl
 |c::l,h=>by
  rw[List.all_cons,Bool.and_eq_true]at h
  have hc:List.contains [101,69] c=false:=by
   have: ∀n:Nat,n<256→(digB (UInt8.ofNat n)||UInt8.ofNat n==46)=true→List.contains [101,69] (UInt8.ofNat n)=false:=by decide+kernel
   have:=this c.toNat (UInt8.toNat_lt c)
   rw[UInt8.ofNat_toNat]at this
   exact this h.1
  rw[Lib.indexAny,hc,zqj l h.2]
  rfl
end Go.Lv.VT
