/- The reading of tokens: what the program's text and the reference's come to. -/
import Derived.Test.YtcdeccnjlkkejaaGreatDoorTy
import Derived.Test.YtcdeccnjlkkejaaGreatDoorMo
import Derived.Test.YtcdeccnjlkkejaaGreatDoorTx
set_option linter.unusedSimpArgs false
set_option linter.unusedVariables false
namespace Go.Lv.VT
def atS(l:Str)(n:Nat):UInt8:=l.getD n 0
def digB(b:UInt8):Bool:=decide (48≤b.toNat)&&decide (b.toNat≤57)
def spB(b:UInt8):Bool:=b==10||b==9||b==32
def alB(b:UInt8):Bool:=decide (65≤b.toNat)&&decide (b.toNat≤90)||decide (97≤b.toNat)&&decide (b.toNat≤122)
def fstB(b:UInt8):Bool:=alB b||b==95||decide (128≤b.toNat)
def letB(b:UInt8):Bool:=fstB b||digB b||b==45
def hexN(b:UInt8):Nat:=
 if digB b then b.toNat - 48 else if 97≤b.toNat∧b.toNat≤102 then b.toNat - 87 else if 65≤b.toNat∧b.toNat≤70 then b.toNat - 55 else 16
def zas(b:UInt8):Bool:=decide (hexN b<16)
def escS(l:Str):Bool:=atS l 0==92&& !(atS l 1==10)
def nmS(l:Str):Bool:=if atS l 0==45 then fstB (atS l 1)||atS l 1==45||escS (l.drop 1)else fstB (atS l 0)||escS l
def zke(b:UInt8):Bool:=b==43||b==45
def unsign(l:Str):Str:=if zke (atS l 0)then l.drop 1 else l
def undot(l:Str):Str:=if atS l 0==46 then l.drop 1 else l
def nbS(l:Str):Bool:=digB (atS (undot (unsign l)) 0)
def zrz:Str:=[239,191,189]
def ziJ(n:Nat):Str:=
 if n=0∨(55296≤n∧n≤57343)∨1114111<n then zrz
 else if n<128 then [UInt8.ofNat n]
 else if n<2048 then [UInt8.ofNat (192+n / 64),UInt8.ofNat (128+n%64)]
 else if n<65536 then [UInt8.ofNat (224+n / 4096),UInt8.ofNat (128+n / 64%64),UInt8.ofNat (128+n%64)]
 else [UInt8.ofNat (240+n / 262144),UInt8.ofNat (128+n / 4096%64),UInt8.ofNat (128+n / 64%64),UInt8.ofNat (128+n%64)]
def hexes:Nat→Nat→Str→Nat×Str
 |0,n,l=>(n,l)
 |_+1,n,[]=>(n,[])
 |k+1,n,c::r=>if zas c then hexes k (16*n+hexN c) r else(n,c::r)
def unsp:Str→Str
 |[]=>[]
 |c::r=>if spB c then r else c::r
def zu:Str→Str×Str
 |[]=>(zrz,[])
 |c::r=>if zas c then(ziJ (hexes 6 0 (c::r)).1,unsp (hexes 6 0 (c::r)).2)else([c],r)
theorem zfE: ∀(k n:Nat) (l:Str),(hexes k n l).2<:+l
 |0,n,l=>List.suffix_refl l
 |k+1,n,[]=>List.suffix_refl _
 |k+1,n,c::r=>by
  unfold hexes
  split
  ·exact(zfE k _ r).trans (List.suffix_cons c r)
  ·exact List.suffix_refl _
theorem zz0(l:Str):unsp l<:+l:=by
 cases l with
 |nil=>exact List.suffix_refl _
 |cons c r=>
  show(if spB c then r else c::r)<:+c::r
  split
  ·exact List.suffix_cons c r
  ·exact List.suffix_refl _
theorem Zc(l:Str):(zu l).2<:+l:=by
 cases l with
 |nil=>exact List.suffix_refl _
 |cons c r=>
  show(if zas c then(ziJ (hexes 6 0 (c::r)).1,unsp (hexes 6 0 (c::r)).2)else([c],r)).2<:+c::r
  split
  ·exact(zz0 _).trans (zfE 6 0 _)
  ·exact List.suffix_cons c r
theorem zJ(l:Str):(zu l).2.length≤l.length:=(Zc l).length_le
def zH:Str→Str×Str
 |[]=>([],[])
 |c::r=>
  if letB c then((c::(zH r).1),(zH r).2)
  else if escS (c::r)then((zu r).1++(zH (zu r).2).1,(zH (zu r).2).2)
  else([],c::r)
termination_by l=>l.length
decreasing_by
 all_goals first|(have:=zJ r;simp only[List.length_cons];omega)|(simp only[List.length_cons];omega)
def past(p:UInt8→Bool):Str→Str
 |[]=>[]
 |c::r=>if p c then past p r else c::r
theorem zdT(p:UInt8→Bool): ∀l:Str,past p l<:+l
 |[]=>List.suffix_refl _
 |c::r=>by
  unfold past
  split
  ·exact(zdT p r).trans (List.suffix_cons c r)
  ·exact List.suffix_refl _
def QW(l:Str):Str×Bool:=
 if atS l 0==46&&digB (atS l 1)then(past digB (l.drop 1),false)else(l,true)
def expS(l:Str):Option Str:=
 if atS l 0==101||atS l 0==69 then(if digB (atS (unsign (l.drop 1)) 0)then some (past digB (unsign (l.drop 1)))else none)else none
def Zp(l:Str):Str×Bool:=
 let x:=QW (past digB (unsign l))
 match expS x.1 with
 |some r=>(r,false)
 |none=>x
def decN(n:Nat)(b:UInt8):Nat:=10*n+(b.toNat - 48)
def upto(l r:Str):Str:=l.take (l.length - r.length)
def zZ(m:UInt8):Str→Option Str×Str
 |[]=>(some [],[])
 |c::r=>
  if c==m then(some [],r)
  else if c==10 then(none,c::r)
  else if c==92 then
   (if r.isEmpty then(some [],[])
   else if atS r 0==10 then zZ m (r.drop 1)
   else((zZ m (zu r).2).1.map ((zu r).1++ ·),(zZ m (zu r).2).2))
  else((zZ m r).1.map (c:: ·),(zZ m r).2)
termination_by l=>l.length
decreasing_by
 all_goals first|(have:=zJ r;simp only[List.length_cons];omega)|(simp only[List.length_cons,List.length_drop];omega)
def badS:Str→Str
 |[]=>[]
 |c::r=>if c==41 then r else if escS (c::r)then badS (zu r).2 else badS r
termination_by l=>l.length
decreasing_by
 all_goals first|(have:=zJ r;simp only[List.length_cons];omega)|(simp only[List.length_cons];omega)
def unB(b:UInt8):Bool:=decide (b.toNat≤8)||b==11||decide (14≤b.toNat)&&decide (b.toNat≤31)||b==127
def urlS:Str→Option Str×Str
 |[]=>(some [],[])
 |c::r=>
  if c==41 then(some [],r)
  else if spB c then(match past spB r with
   |[]=>(some [],[])
   |d::r'=>if d==41 then(some [],r')else(none,badS (d::r')))
  else if c==34||c==39||c==40||unB c||c==92&& !escS (c::r)then(none,badS (c::r))
  else if c==92 then((urlS (zu r).2).1.map ((zu r).1++ ·),(urlS (zu r).2).2)
  else((urlS r).1.map (c:: ·),(urlS r).2)
termination_by l=>l.length
decreasing_by
 all_goals first|(have:=zJ r;simp only[List.length_cons];omega)|(simp only[List.length_cons];omega)
def zjc(b:UInt8):Int:=
 if b==58 then 16 else if b==59 then 17 else if b==44 then 18 else if b==91 then 19 else if b==93 then 20 else if b==40 then 21 else if b==41 then 22 else if b==123 then 23 else if b==125 then 24 else 0
def zi7(k:Int):zf:=⟨k,[],0,[],false⟩
def zbv:Nat:=1000000000000
def zcC:Nat→Nat→Nat
 |0,n=>n
 |k+1,n=>if n=0∨zbv≤n then n else zcC k (min zbv (10*n))
end Go.Lv.VT

namespace Go.Lv.VT
set_option maxRecDepth 100000
abbrev sc(s:Str)(k:Nat):za:=⟨s,(k:Int)⟩
def pk(l:Str)(n:Nat):Int:=match l[n]? with|some b=>(b.toNat:Int)|none=> -1
def beh(s r:Str):Nat:=s.length - r.length
theorem Zg{n:Int}(h1: -9223372036854775808≤n)(h2:n≤9223372036854775807):w64 n=n:=ZV h1 h2
theorem zeX{s r:Str}(h:r<:+s):s.drop (beh s r)=r:=by
 obtain⟨t,rfl⟩:=h
 unfold beh
 rw[List.length_append,show t.length+r.length - r.length=t.length by omega,List.drop_left]
theorem zcl(s r:Str):beh s r≤s.length:=by unfold beh;omega
theorem zyE{s:Str}{k:Nat}(h:k≤s.length):beh s (s.drop k)=k:=by unfold beh;rw[List.length_drop];omega
theorem zpW{s:Str}{k n:Nat}(hs:s.length≤big)(hk:k≤s.length)(hn:n≤8):zg ((n:Int),sc s k)=some (pk (s.drop k) n):=by
 have hb:big=4194304:=rfl
 have e:w64 ((k:Int)+(n:Int))=((k+n:Nat):Int):=by rw[Zg (by omega) (by omega)];omega
 unfold zg pk
 simp only[e]
 rw[List.getElem?_drop]
 by_cases h:k+n<s.length
 ·rw[decide_eq_true (by omega),cond_true]
  have hg:geti s ((k+n:Nat):Int)=some s[k+n]:=Zw h
  have hlt:=UInt8.toNat_lt s[k+n]
  simp only[ze,hg,Option.bind_some,List.getElem?_eq_getElem h]
  rw[Zg (by omega) (by omega)]
 ·rw[decide_eq_false (by omega),cond_false,List.getElem?_eq_none (by omega)]
theorem zxK{s:Str}{k:Nat}(hs:s.length≤big)(hk:k≤s.length):zg (0,sc s k)=some (pk (s.drop k) 0):=zpW (n:=0) hs hk (by omega)
theorem zBo{s:Str}{k:Nat}(hs:s.length≤big)(hk:k≤s.length):zg (1,sc s k)=some (pk (s.drop k) 1):=zpW (n:=1) hs hk (by omega)
theorem zCZ{s:Str}{k:Nat}(hs:s.length≤big)(hk:k≤s.length):zg (2,sc s k)=some (pk (s.drop k) 2):=zpW (n:=2) hs hk (by omega)
theorem zxu{β:Type}{f:Int→Option β}{p:UInt8→β}(h: ∀b:UInt8,f (b.toNat:Int)=some (p b))(h0:f (-1)=some (p 0))(l:Str)(n:Nat):f (pk l n)=some (p (atS l n)):=by
 unfold pk atS
 rw[List.getD_eq_getElem?_getD]
 cases l[n]? with
 |none=>exact h0
 |some b=>exact h b
theorem of_n{β:Type}{f:Int→Option β}{p:UInt8→β}(h: ∀n:Nat,n<256→f (n:Int)=some (p (UInt8.ofNat n)))(b:UInt8):f (b.toNat:Int)=some (p b):=by
 have:=h b.toNat (UInt8.toNat_lt b)
 rwa [UInt8.ofNat_toNat]at this
theorem zm0(l:Str)(n:Nat):qy (pk l n)=some (spB (atS l n)):=zxu (of_n (by decide+kernel)) (by decide+kernel) l n
theorem zf6(l:Str)(n:Nat):Zz (pk l n)=some (digB (atS l n)):=zxu (of_n (by decide+kernel)) (by decide+kernel) l n
theorem zBC(l:Str)(n:Nat):za5 (pk l n)=some (fstB (atS l n)):=zxu (of_n (by decide+kernel)) (by decide+kernel) l n
theorem zuE(l:Str)(n:Nat):zbf (pk l n)=some (letB (atS l n)):=zxu (of_n (by decide+kernel)) (by decide+kernel) l n
def hexI(b:UInt8):Int:=if zas b then(hexN b:Int)else -1
theorem zzR(l:Str)(n:Nat):zcE (pk l n)=some (hexI (atS l n)):=zxu (of_n (by decide+kernel)) (by decide+kernel) l n
theorem zis(l:Str)(n:Nat)(c:UInt8)(h:c≠0):(pk l n==(c.toNat:Int))=(atS l n==c):=by
 unfold pk atS
 rw[List.getD_eq_getElem?_getD]
 cases l[n]? with
 |none=>
  have h1:((-1:Int)==(c.toNat:Int))=false:=beq_eq_false_iff_ne.2 (by omega)
  have h2:((none:Option UInt8).getD 0==c)=false:=beq_eq_false_iff_ne.2 (fun e=>h e.symm)
  rw[h2];exact h1
 |some b=>
  show((b.toNat:Int)==(c.toNat:Int))=(b==c)
  by_cases e:b=c
  ·subst e;rw[beq_self_eq_true,beq_self_eq_true]
  ·have:b.toNat≠c.toNat:=fun h=>e (UInt8.toNat_inj.1 h)
   rw[beq_eq_false_iff_ne.2 e,beq_eq_false_iff_ne.2 (by omega)]
theorem zBp(l:Str)(n:Nat):(pk l n==10)=(atS l n==10):=zis l n 10 (by decide)
theorem zCk(l:Str)(n:Nat):(pk l n==34)=(atS l n==34):=zis l n 34 (by decide)
theorem zC0(l:Str)(n:Nat):(pk l n==35)=(atS l n==35):=zis l n 35 (by decide)
theorem zC1(l:Str)(n:Nat):(pk l n==37)=(atS l n==37):=zis l n 37 (by decide)
theorem zCl(l:Str)(n:Nat):(pk l n==39)=(atS l n==39):=zis l n 39 (by decide)
theorem zC2(l:Str)(n:Nat):(pk l n==40)=(atS l n==40):=zis l n 40 (by decide)
theorem zBq(l:Str)(n:Nat):(pk l n==41)=(atS l n==41):=zis l n 41 (by decide)
theorem zBr(l:Str)(n:Nat):(pk l n==43)=(atS l n==43):=zis l n 43 (by decide)
theorem zxM(l:Str)(n:Nat):(pk l n==45)=(atS l n==45):=zis l n 45 (by decide)
theorem zBs(l:Str)(n:Nat):(pk l n==46)=(atS l n==46):=zis l n 46 (by decide)
theorem zC3(l:Str)(n:Nat):(pk l n==64)=(atS l n==64):=zis l n 64 (by decide)
theorem zC4(l:Str)(n:Nat):(pk l n==69)=(atS l n==69):=zis l n 69 (by decide)
theorem zCm(l:Str)(n:Nat):(pk l n==92)=(atS l n==92):=zis l n 92 (by decide)
theorem zCj(l:Str)(n:Nat):(pk l n==101)=(atS l n==101):=zis l n 101 (by decide)
theorem zmD(l:Str):(pk l 0== -1)=l.isEmpty:=by
 cases l with
 |nil=>rfl
 |cons b r=>
  show((b.toNat:Int)== -1)=false
  exact beq_eq_false_iff_ne.2 (by omega)
theorem zaX(l:Str)(k n:Nat):atS (l.drop k) n=atS l (k+n):=by
 unfold atS
 rw[List.getD_eq_getElem?_getD,List.getD_eq_getElem?_getD,List.getElem?_drop]
theorem zuC {R:Type} {step:za→Option (LO za za R)} {s:Str} (p:UInt8→Bool) (h0:p 0=false)
  (h: ∀k,k≤s.length→step (sc s k)=some (bif p (atS (s.drop k) 0)then .again (sc s (k+1))else .out (sc s k))) {k:Nat} (hk:k≤s.length):
  zeB step (sc s k)=some (.out (sc s (beh s (past p (s.drop k))))):=by
 refine ZM (fun z=> ∃j,z=sc s j∧j≤s.length∧past p (s.drop j)=past p (s.drop k)) (fun z=>s.length - z.at_.toNat) _ ?_ ⟨k,rfl,hk,rfl⟩
 rintro _ ⟨j,rfl,hj,he⟩
 rw[h j hj]
 cases hd:s.drop j with
 |nil=>
  rw[show atS ([]:Str) 0=0 from rfl,h0,cond_false]
  refine .inr (.inl ⟨_,rfl,?_⟩)
  rw[←he,hd]
  have:j=s.length:=by have:=List.drop_eq_nil_iff.1 hd;omega
  subst this
  show LX.out (sc s (beh s []))=_
  unfold beh
  rw[List.length_nil,Nat.sub_zero]
 |cons c r=>
  have hlt:j<s.length:=by
   rcases Nat.lt_or_ge j s.length with h'|h'
   ·exact h'
   ·rw[List.drop_eq_nil_of_le h']at hd;cases hd
  have hr:s.drop (j+1)=r:=by
   have:=List.drop_eq_getElem_cons hlt
   rw[hd]at this
   injection this with _ h2
   exact h2.symm
  rw[show atS (c::r) 0=c from rfl]
  cases hp:p c with
  |true=>
   refine .inl ⟨_,rfl,⟨j+1,rfl,by omega,?_⟩,by simp only[Int.toNat_natCast];omega⟩
   rw[hr,←he,hd,past,hp];rfl
  |false=>
   refine .inr (.inl ⟨_,rfl,?_⟩)
   rw[←he,hd,past,hp,if_neg (by decide),←hd,zyE hj]
theorem zx6{s:Str}{k:Nat}(hs:s.length≤big)(hk:k≤s.length):w64 ((k:Int)+1)=((k+1:Nat):Int):=by
 have hb:big=4194304:=rfl
 rw[Zg (by omega) (by omega)];omega
theorem zz5{s:Str}{k:Nat}(hs:s.length≤big)(hk:k≤s.length):zU (sc s k)=some (sc s (beh s (past spB (s.drop k)))):=by
 unfold zU
 rw[qB (zuC spB rfl (fun j hj=> ?_) hk)]
 simp only[ze,zxK hs hj,Option.bind_some,zm0,zx6 hs hj]
 cases spB (atS (s.drop j) 0)<;>rfl
theorem zyv{s:Str}{k:Nat}(hs:s.length≤big)(hk:k≤s.length):zR (sc s k)=some (sc s (beh s (past digB (s.drop k)))):=by
 unfold zR
 rw[qB (zuC digB rfl (fun j hj=> ?_) hk)]
 simp only[ze,zxK hs hj,Option.bind_some,zf6,zx6 hs hj]
 cases digB (atS (s.drop j) 0)<;>rfl
theorem number_eq{s:Str}{k:Nat}(hs:s.length≤big)(hk:k≤s.length):ZA (sc s k)=some (nbS (s.drop k)):=by
 unfold ZA nbS unsign undot zke
 simp only[ze,zxK hs hk,Option.bind_some,zBr,zxM]
 have key: ∀(b:Bool),(zS (X:=Int) (bif b then some (LX.out 1)else some (LX.out 0)) fun j2=>
   zS (X:=Int) ((zg (j2,sc s k)).bind fun y3=>bif y3==46 then some (LX.out (w64 (j2+1)))else some (LX.out j2)) fun j4=>
   (zg (j4,sc s k)).bind fun y5=>(Zz y5).bind fun y6=>some y6)=some (digB (atS (if atS (if b then(s.drop k).drop 1 else s.drop k) 0==46 then(if b then(s.drop k).drop 1 else s.drop k).drop 1 else(if b then(s.drop k).drop 1 else s.drop k)) 0)):=by
  intro b
  cases b with
  |false=>
   simp only[cond_false,zh,zxK hs hk,Option.bind_some,zBs,Bool.false_eq_true,if_false]
   cases h:atS (s.drop k) 0==46 with
   |false=>simp only[cond_false,zh,zxK hs hk,Option.bind_some,zf6,Bool.false_eq_true,if_false]
   |true=>
    simp only[cond_true,zh,if_true]
    rw[show w64 (0+1)=1 from rfl,zBo hs hk]
    simp only[Option.bind_some,zf6]
    rw[zaX (s.drop k) 1 0]
  |true=>
   simp only[cond_true,zh,zBo hs hk,Option.bind_some,zBs,if_true]
   rw[zaX (s.drop k) 1 0]
   cases h:atS (s.drop k) (1+0)==46 with
   |false=>
    simp only[Nat.add_zero]at h
    simp only[h,cond_false,zh,zBo hs hk,Option.bind_some,zf6,Bool.false_eq_true,if_false]
    rw[zaX (s.drop k) 1 0]
   |true=>
    simp only[Nat.add_zero]at h
    simp only[h,cond_true,zh,if_true]
    rw[show w64 (1+1)=2 from rfl,zCZ hs hk]
    simp only[Option.bind_some,zf6]
    rw[List.drop_drop,zaX (s.drop k) (1+1) 0]
 have:=key (atS (s.drop k) 0==43||atS (s.drop k) 0==45)
 rw[show(bif atS (s.drop k) 0==43 then true else atS (s.drop k) 0==45)=(atS (s.drop k) 0==43||atS (s.drop k) 0==45)from by cases (atS (s.drop k) 0==43)<;>rfl]
 exact this
end Go.Lv.VT

namespace Go.Lv.VT
set_option maxRecDepth 100000
abbrev sr(s r:Str):za:=sc s (beh s r)
theorem sr_0(s:Str):(⟨s,0⟩:za)=sr s s:=by
 show sc s 0=sc s (beh s s)
 unfold beh
 rw[Nat.sub_self]
theorem zto{s r:Str}{n:Nat}(hs:s.length≤big)(hr:r<:+s)(hn:n≤8):zg ((n:Int),sr s r)=some (pk r n):=by
 rw[zpW hs (zcl s r) hn,zeX hr]
theorem zbC{s r:Str}(hs:s.length≤big)(hr:r<:+s):zg (0,sr s r)=some (pk r 0):=zto (n:=0) hs hr (by omega)
theorem zr2{s r:Str}(hs:s.length≤big)(hr:r<:+s):zg (1,sr s r)=some (pk r 1):=zto (n:=1) hs hr (by omega)
theorem zCi{s r:Str}(hs:s.length≤big)(hr:r<:+s):zg (2,sr s r)=some (pk r 2):=zto (n:=2) hs hr (by omega)
theorem zuQ{s r:Str}(hs:s.length≤big)(hr:r<:+s):zU (sr s r)=some (sr s (past spB r)):=by
 rw[zz5 hs (zcl s r),zeX hr]
theorem zqz{s r:Str}(hs:s.length≤big)(hr:r<:+s):zR (sr s r)=some (sr s (past digB r)):=by
 rw[zyv hs (zcl s r),zeX hr]
theorem zBk{s r:Str}(hs:s.length≤big)(hr:r<:+s):ZA (sr s r)=some (nbS r):=by
 rw[number_eq hs (zcl s r),zeX hr]
theorem zsI{s r:Str}{n:Nat}(hr:r<:+s)(hn:n≤r.length):beh s r+n=beh s (r.drop n):=by
 have:=hr.length_le
 unfold beh
 rw[List.length_drop];omega
theorem zzk{s r:Str}{n:Nat}(hs:s.length≤big)(hr:r<:+s)(hn:n≤r.length):(⟨s,w64 ((beh s r:Int)+(n:Int))⟩:za)=sr s (r.drop n):=by
 have hb:big=4194304:=rfl
 have:=zcl s r
 have h2:=hr.length_le
 rw[Zg (by omega) (by omega),show(beh s r:Int)+(n:Int)=((beh s r+n:Nat):Int) by omega,zsI hr hn]
theorem zuU{l:Str}{n:Nat}(h:atS l n≠0):n<l.length:=by
 rcases Nat.lt_or_ge n l.length with h'|h'
 ·exact h'
 ·exact absurd (by unfold atS;rw[List.getD_eq_getElem?_getD,List.getElem?_eq_none h'];rfl) h
theorem zxp{s r:Str}(hs:s.length≤big)(hr:r<:+s)(h:atS r 0≠0):(⟨s,w64 ((beh s r:Int)+1)⟩:za)=sr s (r.drop 1):=zzk (n:=1) hs hr (zuU h)
theorem zbH{s r:Str}(hr:r<:+s)(n:Nat):r.drop n<:+s:=(List.drop_suffix n r).trans hr
theorem zbI{s r:Str}(p:UInt8→Bool)(hr:r<:+s):past p r<:+s:=(zdT p r).trans hr
theorem zdg{s r:Str}(hr:r<:+s):unsign r<:+s:=by
 unfold unsign
 split
 ·exact zbH hr 1
 ·exact hr
theorem zx7{b:UInt8}(h:zke b=true):b≠0:=by rintro rfl;revert h;decide
theorem zvu(a b:Bool):(bif a then true else b)=(a||b):=by cases a<;>rfl
theorem zAc(a b:Bool):(bif a then b else false)=(a&&b):=by cases a<;>rfl
theorem znj{s r:Str}(hr:r<:+s):(QW r).1<:+s:=by
 unfold QW
 split
 ·exact zbI _ (zbH hr 1)
 ·exact hr
theorem zAV{s r q:Str}(hr:r<:+s)(h:expS r=some q):q<:+s:=by
 unfold expS at h
 split at h
 ·split at h
  ·cases h
   exact zbI _ (zdg (zbH hr 1))
  ·cases h
 ·cases h
theorem zow{s r:Str}(hr:r<:+s):(Zp r).1<:+s:=by
 unfold Zp
 have h1:=znj (zbI digB (zdg hr))
 simp only
 cases h:expS (QW (past digB (unsign r))).1 with
 |some q=>exact zAV h1 h
 |none=>exact h1
theorem zyY{s l:Str}(hs:s.length≤big)(hl:l<:+s):qj (sr s l)=some ((Zp l).2,sr s (Zp l).1):=by
 unfold qj
 simp only[ze,zbC hs hl,Option.bind_some,zBr,zxM,zvu]
 have e1:(bif (atS l 0==43||atS l 0==45)then some (LX.out (⟨s,w64 ((beh s l:Int)+1)⟩:za))else some (LX.out (sr s l)))=(some (LX.out (sr s (unsign l))):Option (LX za (Bool×za))):=by
  unfold unsign
  cases h:zke (atS l 0)with
  |true=>
   have h':(atS l 0==43||atS l 0==45)=true:=h
   rw[h',cond_true,if_pos rfl,zxp hs hl (zx7 h)]
  |false=>
   have h':(atS l 0==43||atS l 0==45)=false:=h
   rw[h',cond_false,if_neg (by decide)]
 rw[e1,zh]
 have hu:=zdg hl
 rw[zqz hs hu]
 simp only[Option.bind_some]
 have hp:=zbI digB hu
 unfold Zp
 generalize past digB (unsign l)=q at hp ⊢
 have e2:zS (X:=Bool×za) (R:=Bool×za) ((zg (0,sr s q)).bind fun y4=>
   (zo (y4==46) (zg (1,sr s q)) (default:Int)).bind fun y5=>
   (zo (y4==46) (Zz y5) (default:Bool)).bind fun y6=>
   bif bif y4==46 then y6 else false then(zR (⟨s,w64 ((beh s q:Int)+1)⟩:za)).bind fun y7=>some (LX.out (false,y7))else some (LX.out (true,sr s q)))=zS (some (LX.out ((QW q).2,sr s (QW q).1))):=by
  congr 1
  unfold QW
  simp only[zbC hs hp,zr2 hs hp,Option.bind_some,zBs]
  cases h:atS q 0==46 with
  |false=>simp only[zC,Option.bind_some,cond_false,Bool.false_and,Bool.false_eq_true,if_false]
  |true=>
   simp only[zn,Option.bind_some,cond_true,zf6,Bool.true_and]
   cases h2:digB (atS q 1)with
   |false=>simp only[cond_false,Bool.false_eq_true,if_false]
   |true=>
    rw[cond_true,if_pos rfl,zxp hs hp (by rw[beq_iff_eq.1 h];decide),zqz hs (zbH hp 1)]
    rfl
 rw[e2,zh]
 have hw:=znj hp
 generalize QW q=W at hw ⊢
 obtain⟨w,i⟩:=W
 simp only at hw ⊢
 have e3:((zg (0,sr s w)).bind fun y9=>
   (zo (!(y9==101)) (zg (0,sr s w)) (default:Int)).bind fun y10=>
   bif bif y9==101 then true else y10==69 then
    zS (X:=(Bool×Int)×za) ((zg (1,sr s w)).bind fun y11=>bif bif y11==43 then true else y11==45 then some (LX.out ((i,2),sr s w))else some (LX.out ((i,1),sr s w))) fun j12=>
    (zg (j12.1.2,j12.2)).bind fun y13=>(Zz y13).bind fun y14=>
    bif y14 then(zR (⟨j12.2.s,w64 (j12.2.at_+j12.1.2)⟩:za)).bind fun y15=>some (LX.out (false,y15))else some (LX.out (j12.1.1,j12.2))
   else some (LX.out (i,sr s w)))=(some (LX.out (match expS w with|some r=>(false,sr s r)|none=>(i,sr s w))):Option (LX (Bool×za) (Bool×za))):=by
  simp only[zbC hs hw,Option.bind_some,zCj]
  have e4:((zo (!(atS w 0==101)) (some (pk w 0)) (default:Int)).bind fun y10=>(some (bif atS w 0==101 then true else y10==69):Option Bool))=some (atS w 0==101||atS w 0==69):=by
   cases h:atS w 0==101 with
   |true=>rfl
   |false=>simp only[Bool.not_false,zn,Option.bind_some,cond_false,zC4,Bool.false_or]
  have e5: ∀(f:Bool→Option (LX (Bool×za) (Bool×za))),((zo (!(atS w 0==101)) (some (pk w 0)) (default:Int)).bind fun y10=>f (bif atS w 0==101 then true else y10==69))=f (atS w 0==101||atS w 0==69):=by
   intro f
   have:=congrArg (fun o=>Option.bind o f) e4
   simpa [Option.bind_assoc] using this
  refine(e5 (fun b=>bif b then _ else _)).trans ?_
  unfold expS
  cases h:(atS w 0==101||atS w 0==69)with
  |false=>rfl
  |true=>
   have hne:atS w 0≠0:=by
    intro e;rw[e]at h;revert h;decide
   simp only[cond_true,if_true,zr2 hs hw,Option.bind_some,zBr,zxM,zvu]
   unfold unsign
   have hd:atS (w.drop 1) 0=atS w 1:=by rw[zaX w 1 0]
   rw[hd]
   cases hg:(atS w 1==43||atS w 1==45)with
   |true=>
    have hg':zke (atS w 1)=true:=hg
    have hl2:=zuU (zx7 hg')
    simp only[cond_true,zh,zCi hs hw,Option.bind_some,zf6,hg',if_true,List.drop_drop]
    rw[show atS (w.drop (1+1)) 0=atS w 2 by rw[zaX w 2 0]]
    cases hq:digB (atS w 2)with
    |false=>rfl
    |true=>
     rw[cond_true,if_pos rfl,show(2:Int)=((2:Nat):Int)from rfl,zzk hs hw (by omega),zqz hs (zbH hw 2)]
     rfl
   |false=>
    have hg':zke (atS w 1)=false:=hg
    simp only[cond_false,zh,zr2 hs hw,Option.bind_some,zf6,hg',Bool.false_eq_true,if_false]
    rw[hd]
    cases hq:digB (atS w 1)with
    |false=>rfl
    |true=>
     rw[cond_true,if_pos rfl,zxp hs hw hne,zqz hs (zbH hw 1)]
     rfl
 refine(congrArg (fun o=>zS o _) e3).trans ?_
 rw[zh]
 cases expS w<;>rfl
end Go.Lv.VT

namespace Go.Lv.VT
set_option maxRecDepth 100000
def valG(n:Nat)(l:Str):Nat:=l.foldl decN n
theorem zus: ∀(q t:Str),q.all digB=true→past digB (q++t)=past digB t
 |[],t,_=>rfl
 |c::q,t,h=>by
  rw[List.all_cons,Bool.and_eq_true]at h
  rw[List.cons_append,past,if_pos h.1,zus q t h.2]
end Go.Lv.VT

namespace Go.Lv.VT
def zj5(n:Nat):Nat:=if 65≤n∧n≤90 then n+32 else n
def ziz(b:UInt8):UInt8:=UInt8.ofNat (zj5 b.toNat)
theorem zx9{n:Nat}(h:n<256):zj5 n<256:=by unfold zj5;split<;>omega
theorem zvK(b:UInt8):(ziz b).toNat=zj5 b.toNat:=by
 unfold ziz
 rw[UInt8.toNat_ofNat']
 exact Nat.mod_eq_of_lt (zx9 (UInt8.toNat_lt b))
theorem zxX: ∀n:Nat,n<256→Qs (n:Int)=some ((zj5 n:Nat):Int):=by decide+kernel
theorem zCb: ∀n:Nat,n<256→(bif decide (65≤(n:Int))then decide ((n:Int)≤90)else false)=true→Z4 (ibOr IntKind.u8 (n:Int) 32)=some (UInt8.ofNat (zj5 n)):=by decide+kernel
def lowS(l:Str):Str:=l.map ziz
theorem zqa{α:Type}{l:List α}{i:Nat}(h:i<l.length)(f:α→α):((l.take i).map f++l.drop i).set i (f l[i])=(l.take (i+1)).map f++l.drop (i+1):=by
 apply List.ext_getElem
 ·simp;omega
 ·intro j h1 h2
  rw[List.getElem_set]
  split
  ·rename_i hij;subst hij
   rw[List.getElem_append_left (by simp;omega)]
   simp
  ·rename_i hij
   simp only[List.getElem_append,List.length_map,List.length_take,List.getElem_map,List.getElem_take,List.getElem_drop]
   split
   ·rename_i hlt
    rw[dif_pos (by omega)]
   ·rename_i hlt
    rw[dif_neg (by omega)]
    congr 1;omega
theorem ztf{α:Type}{l:List α}{i:Nat}(h:i<l.length)(f:α→α):((l.take i).map f++l.drop i)[i]? =some l[i]:=by
 rw[List.getElem?_append_right (by simp;omega)]
 simp[h,Nat.min_eq_left (Nat.le_of_lt h)]
theorem zpv{α:Type}{l:List α}{i:Nat}(h:i≤l.length)(f:α→α):((l.take i).map f++l.drop i).length=l.length:=by
 simp;omega
theorem zzh{α:Type}{l:List α}{i:Nat}(h:i<l.length)(f:α→α)(e:f l[i]=l[i]):(l.take i).map f++l.drop i=(l.take (i+1)).map f++l.drop (i+1):=by
 rw[←zqa h f,e]
 apply List.ext_getElem?
 intro j
 rw[List.getElem?_set]
 split
 ·rename_i hij
  subst hij
  rw[ztf h,zpv (Nat.le_of_lt h),if_pos h]
 ·rfl
theorem zrH(i:Nat):decide ((0:Int)≤(i:Int))=true:=decide_eq_true (by omega)
theorem ziv{l:Str}(h:l.length≤big):ZR l=some (lowS l):=by
 unfold ZR
 rw[zD (decide_eq_true (by unfold big at h;unfold maxLen;omega))]
 have key: ∀(k i:Nat),i+k=l.length→ ∃n,qF (X:=List UInt8) (R:=Str) (fun(s1:Int×List UInt8)=>
   bif decide (s1.1<(s1.2.length:Int))then
    need (decide (0≤s1.1)&&decide (s1.1<(s1.2.length:Int)))<|
    ze s1.2[s1.1.toNat]? fun y2=>
    ze (Qs (y2.toNat:Int)) fun y3=>
    need (decide (0≤s1.1)&&decide (s1.1<(s1.2.length:Int)))<|
    ze s1.2[s1.1.toNat]? fun y4=>
    ze (Z4 y3) fun y5=>
    some (LO.again (w64 (s1.1+1),List.set s1.2 s1.1.toNat y5))
   else
    some (LO.out s1.2)) n ((i:Int),(l.take i).map ziz++l.drop i)=some (.out (lowS l)):=by
  intro k
  induction k with
  |zero=>
   intro i hi
   have hi:i=l.length:=by omega
   subst hi
   refine⟨1,?_⟩
   simp only[qF,zpv (Nat.le_refl _),Z6,cond_false]
   simp[lowS]
  |succ k ih=>
   intro i hi
   have hlt:i<l.length:=by omega
   obtain⟨n,hn⟩:=ih (i+1) (by omega)
   refine⟨n+1,?_⟩
   have hb:=UInt8.toNat_lt l[i]
   simp only[qF,zpv (Nat.le_of_lt hlt),ZJ hlt,cond_true,zrH,Bool.and_true,Ze,Int.toNat_natCast,ztf hlt,ze,Option.bind_some,zxX _ hb]
   rw[←zvK,ztQ,Zb hlt h]
   simp only[Option.bind_some,zqa hlt]
   exact hn
 obtain⟨n,hn⟩:=key l.length 0 (by omega)
 replace hn:=zce hn
 simp only[List.take_zero,List.map_nil,List.nil_append,List.drop_zero]at hn
 exact(Qv hn).trans rfl
theorem zgl{l:Str}(h:l.length≤big):qM l=some (lowS l):=by
 unfold qM
 rw[zD (decide_eq_true (by unfold big at h;unfold maxLen;omega))]
 have key: ∀(k i:Nat),i+k=l.length→ ∃n,qF (X:=List UInt8) (R:=Str) (fun(s1:Int×List UInt8)=>
   bif decide (s1.1<(l.length:Int))then
    zS (X:=Int×List UInt8) (
      need (decide (0≤s1.1)&&decide (s1.1<(s1.2.length:Int)))<|
      ze s1.2[s1.1.toNat]? fun y2=>
      bif bif decide (65≤(y2.toNat:Int))then decide ((y2.toNat:Int)≤90)else false then
       need (decide (0≤s1.1)&&decide (s1.1<(s1.2.length:Int)))<|
       ze s1.2[s1.1.toNat]? fun y3=>
       need (decide (0≤s1.1)&&decide (s1.1<(s1.2.length:Int)))<|
       ze s1.2[s1.1.toNat]? fun y4=>
       ze (Z4 (ibOr IntKind.u8 (y3.toNat:Int) 32)) fun y5=>
       some (LX.out (s1.1,List.set s1.2 s1.1.toNat y5))
      else
       some (LX.out (s1.1,s1.2))) fun j6=>
    some (LO.again (w64 (j6.1+1),j6.2))
   else
    some (LO.out s1.2)) n ((i:Int),(l.take i).map ziz++l.drop i)=some (.out (lowS l)):=by
  intro k
  induction k with
  |zero=>
   intro i hi
   have hi:i=l.length:=by omega
   subst hi
   refine⟨1,?_⟩
   simp only[qF,Z6,cond_false]
   simp[lowS]
  |succ k ih=>
   intro i hi
   have hlt:i<l.length:=by omega
   obtain⟨n,hn⟩:=ih (i+1) (by omega)
   refine⟨n+1,?_⟩
   have hb:=UInt8.toNat_lt l[i]
   simp only[qF,zpv (Nat.le_of_lt hlt),ZJ hlt,cond_true,zrH,Bool.and_true,Ze,Int.toNat_natCast,ztf hlt,ze,Option.bind_some]
   cases hc:(bif decide (65≤(l[i].toNat:Int))then decide ((l[i].toNat:Int)≤90)else false)with
   |true=>
    have e:=zCb _ hb hc
    simp only[e,cond_true,Option.bind_some,zh,Zb hlt h]
    rw[show UInt8.ofNat (zj5 l[i].toNat)=ziz l[i]from rfl,zqa hlt]
    exact hn
   |false=>
    have e:ziz l[i]=l[i]:=by
     unfold ziz zj5
     rw[if_neg,UInt8.ofNat_toNat]
     rintro⟨h1,h2⟩
     rw[decide_eq_true (by omega),cond_true,decide_eq_true (by omega)]at hc
     cases hc
    simp only[cond_false,zh,Zb hlt h]
    rw[zzh hlt ziz e]
    exact hn
 obtain⟨n,hn⟩:=key l.length 0 (by omega)
 replace hn:=zce hn
 simp only[List.take_zero,List.map_nil,List.nil_append,List.drop_zero]at hn
 exact(Qv hn).trans rfl
def zat(l:Str):Bool:=l.all fun b=> !(b==0)
theorem zs5(c:UInt8): ∀l:Str,decide (Lib.indexByte l c≥0)=l.any fun b=>b==c
 |[]=>rfl
 |b::l=>by
  have ih:=zs5 c l
  have hg:=Lib.indexByte_ge l c
  rw[List.any_cons,Lib.indexByte]
  cases hb:(b==c)with
  |true=>rfl
  |false=>
   rw[Bool.false_or,←ih,if_neg (by simp)]
   by_cases h:Lib.indexByte l c= -1
   ·rw[if_pos (by rw[h];rfl),h]
   ·rw[if_neg (by simpa using h)]
    rw[decide_eq_true (by omega),decide_eq_true (by omega)]
theorem zBj(l:Str):(l.any fun b=>b==0)= !zat l:=by
 unfold zat
 induction l with
 |nil=>rfl
 |cons b l ih=>rw[List.any_cons,List.all_cons,ih];cases (b==0)<;>simp
theorem zfH(l:Str)(n:Int):strings_IndexByte (l,n)=some (Lib.indexByte l n.toNat.toUInt8):=rfl
theorem zw1(l:Str):decide (Lib.indexByte l (0:Int).toNat.toUInt8≥0)= !zat l:=(zs5 0 l).trans (zBj l)
theorem zwQ(n m:Nat):decide ((n:Int)>(m:Int))= !decide (n≤m):=by
 by_cases h:n≤m
 ·rw[decide_eq_true h,decide_eq_false (by omega)];rfl
 ·rw[decide_eq_false h,decide_eq_true (by omega)];rfl
theorem byte_zero(b:UInt8):((b.toNat:Int)==0)=(b==0):=by
 by_cases h:b=0
 ·subst h;rfl
 ·have h2:b.toNat≠0:=fun e=>h (UInt8.toNat_inj.1 e)
  rw[beq_eq_false_iff_ne.2 h,beq_eq_false_iff_ne.2 (by omega)]
theorem zqH(a b:Str):(a==b)=(b==a):=by
 cases h:(a==b)with
 |true=>rw[beq_iff_eq]at h;subst h;exact(beq_self_eq_true a).symm
 |false=>rw[beq_eq_false_iff_ne]at h;exact(beq_eq_false_iff_ne.2 (Ne.symm h)).symm
theorem zAk(n m:Nat):decide ((n:Int)≤(m:Int))=decide (n≤m):=by
 by_cases h:n≤m
 ·rw[decide_eq_true h,decide_eq_true (by omega)]
 ·rw[decide_eq_false h,decide_eq_false (by omega)]
theorem zt6{f:Option Int}{p:Bool}{i:Int}(h:f=some i)(hp:decide (i≥0)=p):(ze f fun y=>some (decide (y≥0)))=some p:=by
 rw[h];exact congrArg some hp
theorem zac(l m:Str):strings_HasPrefix (l,m)=some (m.isPrefixOf l):=by
 have key: ∀m l:Str,m.isPrefixOf l=(decide (m.length≤l.length)&&l.take m.length==m):=by
  intro m l
  rw[Bool.eq_iff_iff]
  simp only[List.isPrefixOf_iff_prefix,Bool.and_eq_true,decide_eq_true_eq,beq_iff_eq]
  constructor
  ·rintro⟨t,rfl⟩
   exact⟨by simp,by simp⟩
  ·rintro⟨h1,h2⟩
   exact⟨l.drop m.length,by rw[←h2,List.length_take,Nat.min_eq_left h1,List.take_append_drop]⟩
 unfold strings_HasPrefix stringslite_HasPrefix
 have e1:decide ((l.length:Int)≥(m.length:Int))=decide (m.length≤l.length):=zAk _ _
 have e2:decide ((m.length:Int)≤(l.length:Int))=decide (m.length≤l.length):=zAk _ _
 simp only[e1,e2,zrH,Bool.true_and,key]
 cases decide (m.length≤l.length)<;>rfl
theorem zqt(l m:Str):strings_TrimPrefix (l,m)=some (bif m.isPrefixOf l then l.drop m.length else l):=by
 have h:stringslite_HasPrefix (l,m)=some (m.isPrefixOf l):=by
  have:=zac l m
  unfold strings_HasPrefix at this
  cases hh:stringslite_HasPrefix (l,m)with
  |none=>simp only[hh]at this;cases this
  |some b=>simp only[hh]at this;exact this
 unfold strings_TrimPrefix stringslite_TrimPrefix
 simp only[h,ze,Option.bind_some]
 cases hp:m.isPrefixOf l with
 |false=>rfl
 |true=>
  have hl:=(List.isPrefixOf_iff_prefix.1 hp).length_le
  simp only[cond_true,zrH,Bool.true_and]
  rw[zD (decide_eq_true (by omega))]
  rfl
theorem zjt{a b:Str}(h1:a.length≤big)(h2:b.length≤big):Qm (a,b)=some (lowS a==lowS b):=by
 unfold Qm
 simp only[zgl h1,zgl h2,ze,Option.bind_some]
theorem zmH{a b:Str}(h1:a.length≤big)(h2:b.length≤big):Z7 (a,b)=some (lowS a==lowS b):=by
 unfold Z7
 simp only[ziv h1,ziv h2,ze,Option.bind_some]
end Go.Lv.VT

namespace Go.Lv.VT
def zlw(n:Nat):Bool:=
 !(n==0||n==9||n==10||n==12||n==13||n==32||n==34||n==39||n==40||n==41||n==44||n==58||n==59||n==91||n==93||n==95||n==123||n==125)&&
  (decide (n<128)&& !((decide (48≤n)&&decide (n≤57))||(decide (65≤n)&&decide (n≤90))||(decide (97≤n)&&decide (n≤122))))
set_option maxRecDepth 100000 in
theorem zAQ: ∀n:Nat,n<256→zff 40 (n:Int)=some (zlw n):=by decide+kernel
def zoQ:Prop:= ∀b:UInt8,qP (b.toNat:Int)=some (zlw b.toNat)
theorem znQ:zoQ:=fun b=>
 zny 40 _ _ (zAQ _ (UInt8.toNat_lt b))
def digN(n:Nat):Bool:=decide (48≤n)&&decide (n≤57)
theorem ztA: ∀n:Nat,n<256→zG (n:Int)=some (digN n):=by decide+kernel
theorem zr6(b:UInt8):zG (b.toNat:Int)=some (digN b.toNat):=(ztA _ (UInt8.toNat_lt b))
theorem zrg: ∀n:Nat,n<256→zbb (n:Int)=some (digN n):=by decide+kernel
theorem zpg(b:UInt8):zbb (b.toNat:Int)=some (digN b.toNat):=(zrg _ (UInt8.toNat_lt b))
def namN(n:Nat):Bool:=digN n||(decide (65≤n)&&decide (n≤90))||(decide (97≤n)&&decide (n≤122))||n==95||n==45||decide (128≤n)
theorem zri: ∀n:Nat,n<256→zev (n:Int)=some (namN n):=by decide+kernel
theorem zph(b:UInt8):zev (b.toNat:Int)=some (namN b.toNat):=(zri _ (UInt8.toNat_lt b))
def zqG:Str→Bool
 |[]=>false
 |b::r=>digN b.toNat||(b==45&&(r==[]||digN (r.headD 0).toNat))
theorem qD(b c:UInt8):((b.toNat:Int)==(c.toNat:Int))=(b==c):=by
 by_cases h:b=c
 ·subst h;simp
 ·have h2:b.toNat≠c.toNat:=fun e=>h (UInt8.toNat_inj.1 e)
  rw[beq_eq_false_iff_ne.2 h,beq_eq_false_iff_ne.2 (by omega)]
theorem zAL(b:UInt8):((b.toNat:Int)==45)=(b==45):=qD b 45
theorem zp3(l:Str):zeK l=some (zqG l):=by
 unfold zeK
 cases l with
 |nil=>rfl
 |cons b r=>
  have h0:geti (b::r) 0=some b:=rfl
  have hn:(b::r==([]:Str))=false:=rfl
  simp only[hn,cond_false,h0,ze,Option.bind_some,zr6,ZW,zAL]
  cases r with
  |nil=>
   have e:(([b]:Str)==[45])=(b==45):=by
    show((b==45)&&true)=_
    rw[Bool.and_true]
   simp only[e]
   unfold zqG
   cases hb:(b==45)with
   |false=>cases h2:digN b.toNat<;>simp[hb,zo,h2]
   |true=>cases h2:digN b.toNat<;>simp[hb,zo,h2]
  |cons d r=>
   have h1:geti (b::d::r) 1=some d:=rfl
   have e:((b::d::r:Str)==[45])=false:=by
    show((b==45)&&false)=_
    rw[Bool.and_false]
   simp only[h1,e,ZW,Option.bind_some,zr6,zqG,List.headD_cons]
   cases hb:(b==45)<;>cases h2:digN b.toNat<;>simp[hb]
def numS:Str→Bool
 |[]=>false
 |b::r=>bif b==45 then !(r==[])&&digN (r.headD 0).toNat else digN b.toNat
theorem zlI(l:Str):zct l=some (numS l):=by
 unfold zct
 simp only[zqt,ze,Option.bind_some]
 have key: ∀m:Str,((zo (!(m==[])) (geti m 0) 0).bind fun y2=>(zo (!(m==[])) (zbb (y2.toNat:Int)) (default:Bool)).bind fun y3=>some (bif !(m==[])then y3 else false))=some (!(m==[])&&digN (m.headD 0).toNat):=by
  intro m
  cases m with
  |nil=>rfl
  |cons b r=>
   have h0:geti (b::r) 0=some b:=rfl
   have hn:(b::r==([]:Str))=false:=rfl
   simp only[hn,Bool.not_false,zn,h0,Option.bind_some,zpg,cond_true,List.headD_cons,Bool.true_and]
 rw[key]
 cases l with
 |nil=>rfl
 |cons b r=>
  have e:List.isPrefixOf [45] (b::r)=(b==45):=by
   show((45==b)&&true)=_
   rw[Bool.and_true]
   cases hb:(b==45)with
   |true=>rw[beq_iff_eq]at hb;subst hb;rfl
   |false=>rw[beq_eq_false_iff_ne]at hb;exact beq_eq_false_iff_ne.2 (Ne.symm hb)
  rw[e]
  show _=some (bif b==45 then !(r==[])&&digN (r.headD 0).toNat else digN b.toNat)
  cases b==45<;>rfl
theorem zzp(l:Str):((numS l&& !(List.isPrefixOf [45,45] l))||l==[45])=zqG l:=by
 cases l with
 |nil=>rfl
 |cons b r=>
  cases hb:(b==45)with
  |false=>
   have e1:List.isPrefixOf [45,45] (b::r)=false:=by
    show((45==b)&&_)=_
    rw[beq_eq_false_iff_ne]at hb
    rw[beq_eq_false_iff_ne.2 (Ne.symm hb)];rfl
   have e2:((b::r:Str)==[45])=false:=by
    show((b==45)&&_)=_
    rw[hb];rfl
   rw[e1,e2]
   unfold numS zqG
   simp[hb]
  |true=>
   rw[beq_iff_eq]at hb
   subst hb
   cases r with
   |nil=>rfl
   |cons d r=>
    have e2:((45::d::r:Str)==[45])=false:=rfl
    rw[e2]
    unfold numS zqG
    have e1:List.isPrefixOf [45,45] (45::d::r)=(45==d):=by
     show((45==(45:UInt8))&&((45==d)&&true))=_
     rw[Bool.and_true];rfl
    rw[e1]
    simp only[List.headD_cons]
    have hd:digN 45=false:=by decide
    cases h:(45==d)with
    |false=>simp[hd]
    |true=>rw[beq_iff_eq]at h;subst h;rfl
end Go.Lv.VT

namespace Go.Lv.VT
def delS(l:Str):Bool:=match l with
 |[b]=>zlw b.toNat
 |_=>false
def rngS(x:zf):Bool:=decide (-1000000000000≤x.num)&&(decide (x.num≤1000000000000)&&(!x.flag||Int.tmod x.num 1000==0))
def zs1(x:zf):Bool:=
 bif x.kind==1||x.kind==2||x.kind==3 then !(x.text==[])&&(zat x.text&&(x.num==0&&(x.unit==[]&& !x.flag)))
 else bif x.kind==4 then !(x.text==[])&&(zat x.text&&((x.flag||zqG x.text)&&(x.num==0&&x.unit==[])))
 else bif x.kind==5||x.kind==7 then zat x.text&&(x.num==0&&(x.unit==[]&& !x.flag))
 else bif x.kind==9 then delS x.text&&(x.num==0&&(x.unit==[]&& !x.flag))
 else bif x.kind==10||x.kind==11||x.kind==12 then rngS x&&((!(x.unit==[])==(x.kind==12))&&(zat x.unit&&((!(x.kind==11)|| !x.flag)&&x.text==[])))
 else(decide (13≤x.kind)&&decide (x.kind≤24))&&(x.text==[]&&(x.num==0&&(x.unit==[]&& !x.flag)))
theorem zg4{l:Str}(h:l.length≤big):zal l=some (zat l):=by
 unfold zal
 refine(zeC l (fun b=>bif (!(b==0))then none else some false) () (fun i hi=> ?_) ?_).trans ?_
 ·simp only[ZJ hi,cond_true,Zw hi,ze,Option.bind_some,byte_zero,Zb hi h]
  cases l[i]==0<;>rfl
 ·simp only[Z6,cond_false]
 ·rw[zkq]
  show _=some (zat l)
  unfold zat
  cases l.all (fun b=> !(b==0))<;>rfl
theorem one_byte(l:Str)(p:Nat→Bool)(d:Bool)(f:Int→Option Bool)(hf: ∀b:UInt8,f (b.toNat:Int)=some (p b.toNat))(g:Bool):
  ((zo (g&&(l.length:Int)==1) (geti l 0) (0:UInt8)).bind fun y=>zo (g&&(l.length:Int)==1) (f (y.toNat:Int)) d)=some (bif g&&(l.length:Int)==1 then(match l with|[b]=>p b.toNat|_=>false)else d):=by
 cases g with
 |false=>rfl
 |true=>
  cases l with
  |nil=>rfl
  |cons b r=>
   cases r with
   |nil=>
    show((geti [b] 0).bind fun y=>f (y.toNat:Int))=some (p b.toNat)
    rw[show geti [b] 0=some b from rfl]
    exact hf b
   |cons c r=>
    have:(((b::c::r).length:Int)==1)=false:=beq_eq_false_iff_ne.2 (by simp only[List.length_cons];omega)
    rw[this];rfl
theorem zu7(hD:zoQ)(l:Str)(g:Bool):((zo (g&&(l.length:Int)==1) (geti l 0) (0:UInt8)).bind fun y=>zo (g&&(l.length:Int)==1) (qP (y.toNat:Int)) (default:Bool))=some (bif g&&(l.length:Int)==1 then delS l else default):=
 one_byte l zlw default qP hD g
theorem zyR(l:Str):(((l.length:Int)==1)&&delS l)=delS l:=by
 cases l with
 |nil=>rfl
 |cons b r=>
  cases r with
  |nil=>rfl
  |cons c r=>
   have:(((b::c::r).length:Int)==1)=false:=beq_eq_false_iff_ne.2 (by simp only[List.length_cons];omega)
   rw[this];rfl
theorem zp4(hD:zoQ){x:zf}(h1:x.text.length≤big)(h2:x.unit.length≤big):zeL x=some (zs1 x):=by
 have hd:=zu7 hD x.text true
 simp only[Bool.true_and]at hd
 have hd':((zo ((x.text.length:Int)==1) (geti x.text 0) (0:UInt8)).bind fun y7=>(zo ((x.text.length:Int)==1) (qP (y7.toNat:Int)) (default:Bool)).bind fun y8=>some (bif bif (x.text.length:Int)==1 then y8 else false then x.kind==x.kind&&(([]:Str)==[]&&(x.num==0&&(x.unit==[]&&(x.flag==false&&true))))else false))=some (delS x.text&&(x.num==0&&(x.unit==[]&& !x.flag))):=by
  have e: ∀(k:Bool→Option Bool),((zo ((x.text.length:Int)==1) (geti x.text 0) (0:UInt8)).bind fun y7=>(zo ((x.text.length:Int)==1) (qP (y7.toNat:Int)) (default:Bool)).bind k)=(((zo ((x.text.length:Int)==1) (geti x.text 0) (0:UInt8)).bind fun y=>zo ((x.text.length:Int)==1) (qP (y.toNat:Int)) (default:Bool))).bind k:=by
   intro k;rw[Option.bind_assoc]
  rw[e,hd,Option.bind_some,←zyR x.text]
  simp only[beq_self_eq_true]
  cases (x.text.length:Int)==1<;>cases delS x.text<;>cases x.flag<;>rfl
 unfold zeL
 simp only[ze,zg4 h1,zg4 h2,zp3,ZW,Option.bind_some,ge_iff_le]
 unfold zs1 rngS
 by_cases k9:x.kind=9
 ·simp only[k9,Int.reduceBEq,cond_true,cond_false,zh,Bool.or_false,Bool.false_or]at hd' ⊢
  exact hd'
 clear hd hd'
 have b9:=beq_eq_false_iff_ne.2 k9
 generalize delS x.text=a0
 generalize zat x.text=a1
 generalize zat x.unit=a2
 generalize zqG x.text=a3
 generalize hc1:(x.text==[])=a4
 generalize hc2:(x.unit==[])=a5
 generalize hc3:(x.num==0)=a6
 generalize hc4:x.flag=a7
 generalize decide (-1000000000000≤x.num)=a8
 generalize decide (x.num≤1000000000000)=a9
 generalize (Int.tmod x.num 1000==0)=a10
 by_cases k1:x.kind=1
 ·simp only[k1,zh,cond_true,cond_false,hc1,hc2,hc3,hc4,Int.reduceBEq]
  cases a1<;>cases a4<;>cases a5<;>cases a6<;>cases a7<;>rfl
 by_cases k2:x.kind=2
 ·simp only[k2,zh,cond_true,cond_false,hc1,hc2,hc3,hc4,Int.reduceBEq]
  cases a1<;>cases a4<;>cases a5<;>cases a6<;>cases a7<;>rfl
 by_cases k3:x.kind=3
 ·simp only[k3,zh,cond_true,cond_false,hc1,hc2,hc3,hc4,Int.reduceBEq]
  cases a1<;>cases a4<;>cases a5<;>cases a6<;>cases a7<;>rfl
 by_cases k4:x.kind=4
 ·simp only[k4,zh,cond_true,cond_false,hc1,hc2,hc3,hc4,Int.reduceBEq]
  cases a1<;>cases a3<;>cases a4<;>cases a5<;>cases a6<;>cases a7<;>rfl
 by_cases k5:x.kind=5
 ·simp only[k5,zh,cond_true,cond_false,hc1,hc2,hc3,hc4,Int.reduceBEq]
  cases a1<;>cases a4<;>cases a5<;>cases a6<;>cases a7<;>rfl
 by_cases k7:x.kind=7
 ·simp only[k7,zh,cond_true,cond_false,hc1,hc2,hc3,hc4,Int.reduceBEq]
  cases a1<;>cases a4<;>cases a5<;>cases a6<;>cases a7<;>rfl
 by_cases k10:x.kind=10
 ·simp only[k10,zh,cond_true,cond_false,hc1,hc2,hc3,hc4,Int.reduceBEq]
  cases a2<;>cases a4<;>cases a5<;>cases a7<;>cases a8<;>cases a9<;>cases a10<;>rfl
 by_cases k11:x.kind=11
 ·simp only[k11,zh,cond_true,cond_false,hc1,hc2,hc3,hc4,Int.reduceBEq]
  cases a2<;>cases a4<;>cases a5<;>cases a7<;>cases a8<;>cases a9<;>cases a10<;>rfl
 by_cases k12:x.kind=12
 ·simp only[k12,zh,cond_true,cond_false,hc1,hc2,hc3,hc4,Int.reduceBEq]
  cases a2<;>cases a4<;>cases a5<;>cases a7<;>cases a8<;>cases a9<;>cases a10<;>rfl
 simp only[b9,beq_eq_false_iff_ne.2 k1,beq_eq_false_iff_ne.2 k2,beq_eq_false_iff_ne.2 k3,beq_eq_false_iff_ne.2 k4,beq_eq_false_iff_ne.2 k5,beq_eq_false_iff_ne.2 k7,beq_eq_false_iff_ne.2 k10,beq_eq_false_iff_ne.2 k11,beq_eq_false_iff_ne.2 k12,zh,cond_true,cond_false,hc1,hc2,hc3,hc4,beq_self_eq_true,Bool.or_self]
 by_cases k6:x.kind=6
 ·simp only[k6,zh,cond_true,cond_false,Int.reduceBEq];rfl
 by_cases k8:x.kind=8
 ·simp only[k8,zh,cond_true,cond_false,Int.reduceBEq];rfl
 simp only[beq_eq_false_iff_ne.2 k6,beq_eq_false_iff_ne.2 k8,zh,cond_true,cond_false]
 have e:(decide (1≤x.kind)&&decide (x.kind≤24))=(decide (13≤x.kind)&&decide (x.kind≤24)):=by
  by_cases hh:13≤x.kind
  ·rw[decide_eq_true hh,decide_eq_true (by omega)]
  ·rw[decide_eq_false hh]
   by_cases h1:1≤x.kind
   ·omega
   ·rw[decide_eq_false h1]
 rw[←e]
 cases decide (1≤x.kind)<;>cases decide (x.kind≤24)<;>cases a4<;>cases a5<;>cases a6<;>cases a7<;>rfl
abbrev zor:Str:=[32,9,10,12,13,34,39,58,59,44,91,93,40,41,123,125]
theorem zi5: ∀(m:Str) (c:UInt8),Lib.index m [c]=Lib.indexByte m c
 |[],c=>rfl
 |b::l,c=>by
  have h:List.isPrefixOf [c] (b::l)=(b==c):=by
   show(c==b&&List.isPrefixOf [] l)=_
   rw[List.isPrefixOf,Bool.and_true]
   by_cases e:b=c
   ·subst e;rfl
   ·rw[beq_eq_false_iff_ne.2 e,beq_eq_false_iff_ne.2 (fun h=>e h.symm)]
  rw[Lib.index,Lib.indexByte,h,zi5 l c]
theorem contains_one(m:Str)(c:UInt8)(hm:short m=true:=by decide):strings_Contains (m,[c])=some (m.any fun b=>b==c):=by
 unfold strings_Contains
 simp only[zh9,hm,Ze,ze,Option.bind_some,zi5,zs5]
theorem zno(c:UInt8):strings_Contains ([32,9,10,12,13,34,39,58,59,44,91,93,40,41,123,125],[c])=some (zor.any fun b=>b==c):=contains_one zor c
theorem zu6: ∀n:Nat,n<256→((bif bif !(UInt8.ofNat n==0)then !namN n else false then true else UInt8.ofNat n==45)&&(!(zor.any fun b=>b==UInt8.ofNat n)))=zlw n:=by decide+kernel
theorem zyS(b:UInt8):((bif bif !(b==0)then !namN b.toNat else false then true else b==45)&&(!(zor.any fun c=>c==b)))=zlw b.toNat:=by
 have:=zu6 b.toNat (UInt8.toNat_lt b)
 rwa [UInt8.ofNat_toNat]at this
theorem zrI(a b:Str):zat (a++b)=(zat a&&zat b):=by
 unfold zat;rw[List.all_append]
theorem zBi(n:Int):decide (n<0)= !decide (n≥0):=by
 by_cases h:n<0
 ·rw[decide_eq_true h,decide_eq_false (by omega)];rfl
 ·rw[decide_eq_false h,decide_eq_true (by omega)];rfl
end Go.Lv.VT

namespace Go.Lv.VT
set_option maxRecDepth 100000
theorem zet{b:UInt8}(h:digB b=true):48≤b.toNat∧b.toNat≤57:=by
 unfold digB at h
 simpa using h
theorem zw0: ∀(q:Str),q.all digB=true→Lib.indexByte q 46= -1
 |[],_=>rfl
 |c::q,h=>by
  rw[List.all_cons,Bool.and_eq_true]at h
  have hd:=zet h.1
  have hc:(c==46)=false:=by
   refine beq_eq_false_iff_ne.2 (fun e=> ?_)
   subst e
   revert hd;decide
  rw[Lib.indexByte,hc,zw0 q h.2]
  rfl
theorem zwZ: ∀(q g:Str),q.all digB=true→Lib.indexByte (q++46::g) 46=(q.length:Int)
 |[],g,_=>by rw[List.nil_append,Lib.indexByte];rfl
 |c::q,g,h=>by
  rw[List.all_cons,Bool.and_eq_true]at h
  have hd:=zet h.1
  have hc:(c==46)=false:=by
   refine beq_eq_false_iff_ne.2 (fun e=> ?_)
   subst e
   revert hd;decide
  rw[List.cons_append,Lib.indexByte,hc,zwZ q g h.2]
  have:((q.length:Int)== -1)=false:=beq_eq_false_iff_ne.2 (by omega)
  rw[this,List.length_cons]
  simp
theorem zv3: ∀(l:Str),(l.all fun b=>digB b||b==46)=true→Lib.indexAny l [101,69]= -1
 |[],_=>rfl
 |c::l,h=>by
  rw[List.all_cons,Bool.and_eq_true]at h
  have hc:List.contains [101,69] c=false:=by
   have: ∀n:Nat,n<256→(digB (UInt8.ofNat n)||UInt8.ofNat n==46)=true→List.contains [101,69] (UInt8.ofNat n)=false:=by decide+kernel
   have:=this c.toNat (UInt8.toNat_lt c)
   rw[UInt8.ofNat_toNat]at this
   exact this h.1
  rw[Lib.indexAny,hc,zv3 l h.2]
  rfl
end Go.Lv.VT
