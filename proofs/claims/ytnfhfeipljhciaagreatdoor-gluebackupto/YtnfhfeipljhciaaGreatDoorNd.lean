/- Pieces: what is written at once; how they begin. -/
import Derived.Test.YtnfhfeipljhciaaGreatDoorNc
import Derived.Test.YtnfhfeipljhciaaGreatDoorNam
set_option linter.unusedSimpArgs false
set_option linter.unusedVariables false
namespace Go.Lv.VT
set_option maxRecDepth 100000
abbrev tkSp:zb:=⟨13,[],0,[],false⟩
inductive PcT:Str→List zb→Prop
 |one (t:zb) (h:zfv t) (hb: ¬(t.kind=9∧t.text=[92])) (hu:zdd t=false):PcT (txS t) [t]
 |back:PcT [92,10] [⟨9,[92],0,[],false⟩,tkSp]
 |url (l m:Str) (s:Bool) (h:Zh l=true) (hl:lowS l=[117,114,108]) (hm:Zh m=true):
   PcT (Z9 l++40::((if s then [32]else [])++34::(encB quoB m++[34]))) (⟨2,l,0,[],false⟩::((if s then [tkSp]else [])++[⟨5,m,0,[],false⟩]))
theorem zr9{l:Str}(h:lowS l=[117,114,108]): ∃a r,l=a::r∧(a=117∨a=85):=by
 cases l with
 |nil=>cases h
 |cons a r=>
  have h1:ze1 a=117:=by unfold lowS at h;rw[List.map_cons]at h;injection h
  have: ∀n:Nat,n<256→ze1 (UInt8.ofNat n)=117→UInt8.ofNat n=117∨UInt8.ofNat n=85:=by decide+kernel
  have:=this a.toNat (UInt8.toNat_lt a)
  rw[UInt8.ofNat_toNat]at this
  exact⟨a,r,rfl,this h1⟩
theorem zxE{l:Str}(h0:l≠[])(z:Str):nmS (Z9 l++40::z)=true:=zvo (zdR h0) (by show(40:UInt8)≠10;decide)
theorem zhW{k:Int}(h1:13≤k)(h2:k≤24):k=13∨k=14∨k=15∨k=16∨k=17∨k=18∨k=19∨k=20∨k=21∨k=22∨k=23∨k=24:=by omega
theorem zje{s:Str}{P:List zb}(h:PcT s P):nmS s=true∨(∃n p U t,P=[t]∧s=numT n p++U∧t.num=n∧(U=[]∧t.kind=10∨U=[37]∨ ∃u,u≠[]∧Zh u=true∧U=zbF u))∨
  (∃c r,s=c::r∧(c=64∨c=35∨c=34)∧nbS s=false)∨(∃c,s=[c]∧zci c.toNat=true)∨(∃k,13≤k∧k≤24∧s=zq1 k)∨s=[92,10]:=by
 cases h with
 |one t h hb hu=>
  cases h with
  |cId l h0 h=>left;rw[ztG];exact zdR h0
  |cFn l h0 h=>left;rw[zp4];exact zxE h0 []
  |cAt l h0 h=>right;right;left;rw[ztF];exact⟨64,_,rfl, .inl rfl,rfl⟩
  |cHash l f h0 h hbb=>right;right;left;rw[zid];exact⟨35,_,rfl, .inr (.inl rfl),rfl⟩
  |cStr l h=>right;right;left;rw[zkZ];exact⟨34,_,rfl, .inr (.inr rfl),rfl⟩
  |cUrl l h=>left;rw[zmo];rfl
  |cDel c h=>right;right;right;left;rw[zmk];exact⟨c,rfl,h⟩
  |cNum n f h1 h2 hf=>right;left;exact⟨n, !f,[],_,rfl,by rw[zmm,List.append_nil],rfl, .inl ⟨rfl,rfl⟩⟩
  |cPct n h1 h2=>right;left;exact⟨n,false,[37],_,rfl,zmn n,rfl, .inr (.inl rfl)⟩
  |cDim n u f h1 h2 hf h0 h=>right;left;exact⟨n, !f,zbF u,_,rfl,zml n u f,rfl, .inr (.inr ⟨u,h0,h,rfl⟩)⟩
  |cMark k h1 h2=>right;right;right;right;left;exact⟨k,h1,h2,zie h1 h2⟩
 |back=>right;right;right;right;right;rfl
 |url l m s h hl hm=>
  left
  obtain⟨a,r,rfl,_⟩:=zr9 hl
  exact zxE (by simp) _
theorem zjT(c:UInt8)(h:zci c.toNat=true):spB c=false∧nbS [c]=false∧c≠101∧c≠69:=by
 have: ∀n:Nat,n<256→zci (UInt8.ofNat n).toNat=true→spB (UInt8.ofNat n)=false∧nbS [UInt8.ofNat n]=false∧UInt8.ofNat n≠101∧UInt8.ofNat n≠69:=by decide+kernel
 have:=this c.toNat (UInt8.toNat_lt c)
 rw[UInt8.ofNat_toNat]at this
 exact this h
theorem zxB{s:Str}(h:digB (atS (unsign s) 0)=true):nbS s=true:=by
 unfold nbS undot
 have:(atS (unsign s) 0==46)=false:=beq_eq_false_iff_ne.2 (QC h).2.2.1
 rw[this,if_neg (by decide),h]
theorem zxQ{s:Str}{P:List zb}(h:PcT s P)(hd:digB (atS (unsign s) 0)=true): ∃n p U t,P=[t]∧s=numT n p++U∧t.num=n∧(U=[]∧t.kind=10∨U=[37]∨ ∃u,u≠[]∧Zh u=true∧U=zbF u):=by
 have hn:=zxB hd
 rcases zje h with h|h|⟨c,r,e,_,h⟩|⟨c,rfl,h'⟩|⟨k,h1,h2,rfl⟩|rfl
 ·rw[zA6 h]at hn;cases hn
 ·exact h
 ·rw[h]at hn;cases hn
 ·rw[(zjT c h').2.1]at hn;cases hn
 ·rcases zhW h1 h2 with rfl|rfl|rfl|rfl|rfl|rfl|rfl|rfl|rfl|rfl|rfl|rfl<;>cases hn
 ·cases hn
theorem zBP{s:Str}{P:List zb}(h:PcT s P)(hd:spB (atS s 0)=true):s=[32]:=by
 rcases zje h with h|⟨n,p,U,t,_,rfl,_⟩|⟨c,r,rfl,hc,_⟩|⟨c,rfl,h'⟩|⟨k,h1,h2,rfl⟩|rfl
 ·rw[(zoT (zto h)).1]at hd;cases hd
 ·obtain⟨c,r,e,_,h2,_⟩:=zjo n p U
  rw[e]at hd
  rw[show atS (c::r) 0=c from rfl,h2]at hd;cases hd
 ·rcases hc with rfl|rfl|rfl<;>cases hd
 ·rw[show atS [c] 0=c from rfl,(zjT c h').1]at hd;cases hd
 ·rcases zhW h1 h2 with rfl|rfl|rfl|rfl|rfl|rfl|rfl|rfl|rfl|rfl|rfl|rfl<;>first|rfl|cases hd
 ·cases hd
theorem znC{s:Str}{P:List zb}(h:PcT s P){b:UInt8}(hb:b=47∨b=42)(hd:atS s 0=b):s=[b]:=by
 rcases zje h with h|⟨n,p,U,t,_,rfl,_⟩|⟨c,r,rfl,hc,_⟩|⟨c,rfl,h'⟩|⟨k,h1,h2,rfl⟩|rfl
 ·have h1:=zto h
  rw[hd]at h1
  rcases hb with rfl|rfl<;>cases h1
 ·obtain⟨c,r,e,h1,_⟩:=zjo n p U
  rw[e]at hd
  rw[show c=b from hd]at h1
  rcases hb with rfl|rfl<;>cases h1
 ·rw[show c=b from hd]at hc
  rcases hb with rfl|rfl<;>rcases hc with hc|hc|hc<;>cases hc
 ·rw[show c=b from hd]
 ·rcases zhW h1 h2 with rfl|rfl|rfl|rfl|rfl|rfl|rfl|rfl|rfl|rfl|rfl|rfl<;>rcases hb with rfl|rfl<;>cases hd
 ·rcases hb with rfl|rfl<;>cases hd
theorem zkD{s:Str}{P:List zb}(h:PcT s P):s≠[]:=by
 rcases zje h with h|⟨n,p,U,t,_,rfl,_⟩|⟨c,r,rfl,hc,_⟩|⟨c,rfl,h'⟩|⟨k,h1,h2,rfl⟩|rfl
 ·exact znp h
 ·obtain⟨c,r,e,_⟩:=zjo n p U
  rw[e];simp
 ·simp
 ·simp
 ·rcases zhW h1 h2 with rfl|rfl|rfl|rfl|rfl|rfl|rfl|rfl|rfl|rfl|rfl|rfl<;>decide
 ·simp
theorem zxz{l:Str}{c:UInt8}{r:Str}(he:c=101∨c=69)(h:Z9 l=c::r): ∃t,l=c::t:=by
 cases l with
 |nil=>unfold Z9 at h;rw[encW]at h;cases h
 |cons a t=>
  have hn:Z9 (a::t)=pcW ((a::t:Str)==[45]) (QD (a::t)) a++encW ((a::t:Str)==[45]) (QD (a::t) - 1) t:=rfl
  obtain⟨d,u,e,hd⟩:=zjd (dash:=(a::t:Str)==[45]) (k:=QD (a::t)) (by unfold QD;split<;>omega) a (encW ((a::t:Str)==[45]) (QD (a::t) - 1) t)
  rw[hn,e]at h
  injection h with h1 h2
  rcases hd with⟨rfl,_⟩|⟨rfl,_⟩
  ·rcases he with rfl|rfl<;>cases h1
  ·exact⟨t,by rw[h1]⟩
theorem zBe{s:Str}{P:List zb}(h:PcT s P)(hd:atS s 0=101∨atS s 0=69): ∃l t z,Zh l=true∧P=[t]∧(t.kind=1∨t.kind=2)∧t.text=l∧s=Z9 l++z∧(z=[]∨z=[40]):=by
 cases h with
 |one t h hb hu=>
  cases h with
  |cId l h0 h=>exact⟨l,_,[],h,rfl, .inl rfl,rfl,by rw[ztG,List.append_nil], .inl rfl⟩
  |cFn l h0 h=>exact⟨l,_,[40],h,rfl, .inr rfl,rfl,zp4 l, .inr rfl⟩
  |cAt l h0 h=>rw[ztF]at hd;rcases hd with hd|hd<;>cases hd
  |cHash l f h0 h hbb=>rw[zid]at hd;rcases hd with hd|hd<;>cases hd
  |cStr l h=>rw[zkZ]at hd;rcases hd with hd|hd<;>cases hd
  |cUrl l h=>rw[zmo]at hd;rcases hd with hd|hd<;>cases hd
  |cDel c h=>
   rw[zmk]at hd
   obtain⟨_,_,k1,k2⟩:=zjT c h
   rcases hd with hd|hd
   ·exact absurd hd k1
   ·exact absurd hd k2
  |cNum n f h1 h2 hf=>
   rw[zmm]at hd
   obtain⟨c,r,e,h1,_⟩:=zjo n (!f) []
   rw[List.append_nil]at e
   rw[e]at hd
   rcases hd with hd|hd<;>(rw[show c=_ from hd]at h1;cases h1)
  |cPct n h1 h2=>
   rw[zmn]at hd
   obtain⟨c,r,e,h1,_⟩:=zjo n false [37]
   rw[e]at hd
   rcases hd with hd|hd<;>(rw[show c=_ from hd]at h1;cases h1)
  |cDim n u f h1 h2 hf h0 h=>
   rw[zml]at hd
   obtain⟨c,r,e,h1,_⟩:=zjo n (!f) (zbF u)
   rw[e]at hd
   rcases hd with hd|hd<;>(rw[show c=_ from hd]at h1;cases h1)
  |cMark k h1 h2=>
   rw[zie h1 h2]at hd
   rcases zhW h1 h2 with rfl|rfl|rfl|rfl|rfl|rfl|rfl|rfl|rfl|rfl|rfl|rfl<;>rcases hd with hd|hd<;>cases hd
 |back=>rcases hd with hd|hd<;>cases hd
 |url l m s h hl hm=>
  exfalso
  obtain⟨a,r,rfl,ha⟩:=zr9 hl
  obtain⟨c,r2,e⟩:=za8 (znp (zdR (l:=a::r) (by simp)))
  have hd':c=101∨c=69:=by
   rw[e]at hd;exact hd
  obtain⟨t,e2⟩:=zxz hd' e
  injection e2 with e3 _
  subst e3
  rcases ha with rfl|rfl<;>rcases hd' with h|h<;>cases h
end Go.Lv.VT

namespace Go.Lv.VT
set_option maxRecDepth 100000
def ShS(s r:Str):Prop:=r=s∨ ∃d y,digB d=true∧s=48::46::d::y∧r=46::d::y
theorem zrI(cap:Nat)(l:Str):capF cap 0 (48::l)=capF cap 0 l:=by
 show capF cap (min cap (decN 0 48)) l=_
 rw[show decN 0 48=0 from rfl,Nat.min_zero]
theorem zx6(A:Str)(p:Int):thoV (48::A) p=thoV A p:=by
 unfold thoV
 by_cases hp:p<0
 ·rw[if_pos hp,if_pos hp]
  by_cases hl:(A.length:Int)+p<0
  ·have h1:(((48::A:Str).length:Int)+p).toNat=0:=by rw[List.length_cons];omega
   have h2:((A.length:Int)+p).toNat=0:=by omega
   rw[h1,h2];rfl
  ·have h1:(((48::A:Str).length:Int)+p).toNat=((A.length:Int)+p).toNat+1:=by rw[List.length_cons];omega
   rw[h1,List.take_succ_cons,zrI]
 ·rw[if_neg hp,if_neg hp,zrI]
theorem zfq(d:UInt8)(y:Str)(hd:digB d=true):Zp (48::46::d::y)=Zp (46::d::y):=by
 have hs:zaE 48=false∧zaE 46=false:=by decide
 have hq1:q2S (48::46::d::y)=46::d::y:=rfl
 have hq2:q2S (46::d::y)=46::d::y:=rfl
 have he:zA (48::46::d::y)=zA (46::d::y):=by rw[Qn,Qn,hq1,hq2]
 have hv:(numP (48::46::d::y)).val=(numP (46::d::y)).val:=by
  have h1:numP (48::46::d::y)=⟨[],[48],dotP (46::d::y),expP (zK (46::d::y)).1⟩:=rfl
  have h2:numP (46::d::y)=⟨[],[],dotP (46::d::y),expP (zK (46::d::y)).1⟩:=rfl
  rw[h1,h2]
  unfold NumP.val
  simp only[List.singleton_append,List.nil_append,zx6]
 have hn:nbS (46::d::y)=true:=hd
 rw[zb4,if_neg (by decide),if_neg (by decide),show((48:UInt8)==35)=false from rfl,Bool.false_and,if_neg (by decide),show nbS (48::46::d::y)=true from rfl,if_pos rfl,
  zb4,if_neg (by decide),if_neg (by decide),show((46:UInt8)==35)=false from rfl,Bool.false_and,if_neg (by decide),hn,if_pos rfl]
 unfold zz
 rw[he,hv]
theorem capG(cap:Nat): ∀(l:Str) (n:Nat),valG n l≤cap→capF cap n l=valG n l
 |[],n,_=>rfl
 |c::l,n,h=>by
  have h1:valG n (c::l)=valG (decN n c) l:=rfl
  rw[h1]at h ⊢
  have h2:decN n c≤valG (decN n c) l:=by
   rw[zk5 l (decN n c)]
   have:=Nat.le_mul_of_pos_right (decN n c) (Nat.pow_pos (n:=l.length) (show 0<10 by omega))
   omega
  rw[capF,Nat.min_eq_right (Nat.le_trans h2 h)]
  exact capG cap l (decN n c) h
theorem zyN: ∀(k n:Nat),n*10 ^ k≤1000→zds k n=n*10 ^ k
 |0,n,_=>by rw[zds,Nat.pow_zero,Nat.mul_one]
 |k+1,n,h=>by
  have hm:zfA=1000000000000:=rfl
  rw[zds]
  have hpos:0<10 ^ k:=Nat.pow_pos (by omega)
  have e:n*10 ^ (k+1)=10*n*10 ^ k:=by rw[Nat.pow_succ,Nat.mul_comm 10 n,Nat.mul_assoc,Nat.mul_comm (10 ^ k) 10]
  have h1:10*n≤10*n*10 ^ k:=Nat.le_mul_of_pos_right _ hpos
  by_cases h0:n=0
  ·subst h0;simp
  ·rw[if_neg (by omega),Nat.min_eq_right (by omega),zyN k (10*n) (by omega),e]
theorem zxd{n:Int}{p:Bool}(hp:(partT (n.natAbs%1000) p).isEmpty=false){U:Str}(hU:past digB U=U)(hx:expS U=none):
  (numP (46::(partT (n.natAbs%1000) p++U))).val=((n.natAbs%1000:Nat):Int):=by
 obtain⟨k1,k2,k3,_,_⟩:=zgm (r:=n.natAbs%1000) (by omega) p
 generalize partT (n.natAbs%1000) p=F at*
 obtain⟨c,r,rfl⟩:=za8 (show F≠[] by rintro rfl;cases hp)
 have hc:digB c=true:=by rw[List.all_cons,Bool.and_eq_true]at k1;exact k1.1
 have hq:q2S (46::(c::r++U))=46::(c::r++U):=rfl
 have hpast:past digB (c::r++U)=U:=by rw[zjc _ _ k1,hU]
 have hw:zK (46::(c::r++U))=(U,false):=by
  unfold zK
  rw[show atS (46::(c::r++U)) 1=c from rfl,hc,show(atS (46::(c::r++U)) 0==46&&true)=true from rfl,if_pos rfl,show(46::(c::r++U)).drop 1=c::r++U from rfl,hpast]
 have hrun:List.takeWhile digB (c::r++U)=c::r:=by
  have:=zhq digB (c::r++U)
  rw[hpast]at this
  exact List.append_cancel_right this
 have hd:dotP (46::(c::r++U))=some (c::r):=by
  unfold dotP
  rw[show atS (46::(c::r++U)) 1=c from rfl,hc,show(atS (46::(c::r++U)) 0==46&&true)=true from rfl,if_pos rfl,show(46::(c::r++U)).drop 1=c::r++U from rfl,hrun]
 have he:expP U=none:=by
  unfold expP
  rw[zcD]at hx
  rw[hx,if_neg (by decide)]
 have hP:numP (46::(c::r++U))=⟨[],[],some (c::r),none⟩:=by
  show(⟨sgOf (46::(c::r++U)),_,dotP (46::(c::r++U)),expP (zK (46::(c::r++U))).1⟩:NumP)=_
  rw[hd,hw,he]
  rfl
 rw[hP]
 unfold NumP.val
 show(((thoV ([]++(c::r)) (3+0 - ((c::r:Str).length:Int))):Nat):Int)=_
 unfold thoV
 rw[List.nil_append,if_neg (by omega),show(3+0 - ((c::r:Str).length:Int)).toNat=3 - (c::r:Str).length by omega]
 have hle:valG 0 (c::r)≤1000:=by
  have:=Nat.le_mul_of_pos_right (valG 0 (c::r)) (Nat.pow_pos (n:=3 - (c::r:Str).length) (show 0<10 by omega))
  omega
 rw[capG _ _ _ (by unfold zfA;omega),zyN _ _ (by omega),k3]
theorem zw1{m:Nat}(h:m=0):Lib.decDigits m=[48]:=by subst h;decide+kernel
theorem znc{t:zb}{U:Str}(hU:U=[]∧t.kind=10∨U=[37]∨ ∃u,u≠[]∧Zh u=true∧U=zbF u):past digB U=U∧expS U=none∧(U=[]∨U=[37]∨(nmS U=true∧(zl U).2=[])):=by
 rcases hU with⟨rfl,_⟩|rfl|⟨u,h0,h,rfl⟩
 ·exact⟨rfl,rfl, .inl rfl⟩
 ·exact⟨rfl,rfl, .inr (.inl rfl)⟩
 ·have hn:=zrt h0 h
  have e1:=(zqL hn []).1
  have e2:=ziL h0 h (x:=[]) (.inl rfl)
  have e3:=zik h0 h []
  rw[List.append_nil]at e1 e2 e3
  exact⟨e1,e2, .inr (.inr ⟨hn,by rw[e3,qz]⟩)⟩
theorem zvI(n:Int)(p:Bool)(U:Str):past digB (unsign (numT n p++U))=past digB (dotS (if(partT (n.natAbs%1000) p).isEmpty then none else some (partT (n.natAbs%1000) p))++U):=q2_T n p U
theorem zrd{n:Int}{p:Bool}(U:Str)(hp:(partT (n.natAbs%1000) p).isEmpty=true):past digB (unsign (numT n p++U))=past digB U:=by rw[zvI,hp];rfl
theorem zre{n:Int}{p:Bool}(U:Str)(hp:(partT (n.natAbs%1000) p).isEmpty=false):past digB (unsign (numT n p++U))=46::(partT (n.natAbs%1000) p++U):=by rw[zvI,hp];rfl
theorem zAK(z:Str):expS (46::z)=none:=rfl
theorem zA5(z:Str):nmS (46::z)=false:=rfl
theorem zxp{s r:Str}{P:List zb}(h:PcT s P)(hd:digB (atS s 0)=true)(hr:r=past digB s)(hn:nmS r=false)(h37:(atS r 0==37)=false)(hT:qw r=P):ShS s r:=by
 have hun:unsign s=s:=by
  unfold unsign zaE
  rw[beq_eq_false_iff_ne.2 (QC hd).1,beq_eq_false_iff_ne.2 (QC hd).2.1];rfl
 obtain⟨n,p,U,t,rfl,rfl,hnum,hU⟩:=zxQ h (by rw[hun];exact hd)
 obtain⟨u1,u2,u3⟩:=znc hU
 rw[←hun,zvI]at hr
 cases hp:(partT (n.natAbs%1000) p).isEmpty with
 |true=>
  rw[hp]at hr
  have hr':r=U:=by rw[hr];exact u1
  subst hr'
  rcases u3 with rfl|rfl|⟨hu,_⟩
  ·rw[Q0 (ZQ rfl)]at hT;cases hT
  ·cases h37
  ·rw[hu]at hn;cases hn
 |false=>
  rw[hp]at hr
  have hr':r=46::(partT (n.natAbs%1000) p++U):=by rw[hr];rfl
  have hv:=zxd hp u1 u2
  obtain⟨c,q,hF⟩:=za8 (show partT (n.natAbs%1000) p≠[] by intro e;rw[e]at hp;cases hp)
  have hdig:=znB (n:=n) (p:=p)
  have hc:digB c=true:=by rw[hF,List.all_cons,Bool.and_eq_true]at hdig;exact hdig.1
  have hcm:cmtS r=46::(partT (n.natAbs%1000) p++U):=by rw[hr'];exact ZQ rfl
  rw[zak hcm]at hT
  injection hT with hT _
  have hnx:Zp (46::(partT (n.natAbs%1000) p++U))=zz (46::(partT (n.natAbs%1000) p++U)):=by
   have hnb:nbS (46::(partT (n.natAbs%1000) p++U))=true:=by rw[hF];exact hc
   rw[zb4,if_neg (by decide),if_neg (by decide),show((46:UInt8)==35)=false from rfl,Bool.false_and,if_neg (by decide),hnb,if_pos rfl]
  have hval: ∀q:Str,(zz q).1.num=(numP q).val:=by
   intro q
   unfold zz
   split
   ·rfl
   ·split<;>rfl
  rw[hnx]at hT
  have h1:=hval (46::(partT (n.natAbs%1000) p++U))
  rw[hT,hv,hnum]at h1
  have hz:n.natAbs / 1000=0:=by omega
  have hs:numT n p++U=48::46::c::(q++U):=by
   rw[zob,hp,zw1 hz,hF]
   unfold sgT
   rw[if_neg (by omega)]
   rfl
  right
  exact⟨c,q++U,hc,hs,by rw[hr',hF];rfl⟩
theorem zph: ∀(y r:Str),y.all letB=true→zl (y++r)=(y++(zl r).1,(zl r).2)
 |[],r,_=>rfl
 |c::y,r,h=>by
  rw[List.all_cons,Bool.and_eq_true]at h
  rw[List.cons_append,zC,if_pos h.1,zph y r h.2];rfl
theorem zze{l:Str}(h:l.all digB=true):l.all letB=true:=by
 rw[List.all_eq_true]at h ⊢
 intro b hb
 unfold letB
 rw[h b hb,Bool.or_true];rfl
theorem zxo{s r:Str}{P:List zb}(h:PcT s P)(he:atS s 0=101∨atS s 0=69)(hd:digB (atS (unsign (s.drop 1)) 0)=true)(hr:r=past digB (unsign (s.drop 1)))(hT:qw r=P):False:=by
 obtain⟨l,t,z,hl,rfl,hk,ht,rfl,hz⟩:=zBe h he
 obtain⟨c,q,e⟩:=za8 (zkD h)
 have hnz:zl z=([],z):=by rcases hz with rfl|rfl;exact qz;exact znk []
 have hname:zl (Z9 l++z)=(l,z):=by rw[zaB z hl,hnz,List.append_nil]
 rw[e]at he hd hr hname
 rw[show(c::q).drop 1=q from rfl]at hd hr
 have hc:letB c=true:=by rcases he with h|h<;>(rw[show c=_ from h];rfl)
 -- the sign is a dash, or none
 have hsg:(sgOf q).all letB=true:=by
  unfold sgOf
  cases hs:zaE (atS q 0)with
  |false=>rfl
  |true=>
   rw[if_pos rfl]
   unfold zaE at hs
   rw[Bool.or_eq_true,beq_iff_eq,beq_iff_eq]at hs
   rcases hs with hs|hs
   ·exfalso
    cases q with
    |nil=>cases hs
    |cons d q'=>
     rw[show d=43 from hs,zC,if_pos hc,zC,if_neg (by decide),if_neg (by unfold escS;rw[show atS (43::q') 0=43 from rfl];simp)]at hname
     injection hname with _ h2
     rcases hz with rfl|rfl
     ·cases h2
     ·injection h2 with h3 _;cases h3
   ·rw[hs];rfl
 have hsplit:c::q=(c::(sgOf q++(unsign q).takeWhile digB))++r:=by
  rw[hr,List.cons_append,List.append_assoc,zhq,zz8]
 have hall:(c::(sgOf q++(unsign q).takeWhile digB)).all letB=true:=by
  rw[List.all_cons,hc,List.all_append,hsg,zze (zkP digB _)];rfl
 rw[hsplit,zph _ _ hall]at hname
 injection hname with hn1 hn2
 have hcm:cmtS r=r:=by
  refine ZQ ?_
  cases r with
  |nil=>rfl
  |cons d u=>
   refine zpG (beq_eq_false_iff_ne.2 ?_)
   rintro rfl
   rw[zC,if_neg (by decide),if_neg (by unfold escS;rw[show atS (47::u) 0=47 from rfl];simp)]at hn2
   rcases hz with rfl|rfl
   ·cases hn2
   ·injection hn2 with h3 _;cases h3
 cases r with
 |nil=>rw[Q0 hcm]at hT;cases hT
 |cons d u=>
  rw[zak hcm]at hT
  injection hT with hT _
  have hbr:=zef d u
  rw[hT]at hbr
  have hbr':brS d u=7:=by rcases hk with hk|hk<;>(rw[hk]at hbr;exact hbr.symm)
  have hx:t.text=(zl (d::u)).1:=by
   rw[←hT,qh,hbr',zkw]
   have hk':(qx (d::u)).1.kind=1∨(qx (d::u)).1.kind=2:=by
    have:(qx (d::u)).1=t:=by rw[←hT,qh,hbr',zkw]
    rw[this];exact hk
   unfold qx at hk' ⊢
   split
   ·rename_i h40
    rw[if_pos h40]at hk'
    split
    ·rename_i h2
     rw[if_pos h2]at hk'
     rcases zn5 (urlS (past spB ((zl (d::u)).2.drop 1))).1 with hh|hh<;>rcases hk' with hk'|hk'<;>rw[show(zf5 (urlS (past spB ((zl (d::u)).2.drop 1))).1).kind=_ from hk']at hh<;>cases hh
    ·rfl
   ·rfl
  rw[←hx,ht]at hn1
  have:=congrArg List.length hn1
  rw[List.length_append,List.length_cons]at this
  omega
theorem ztL{z r:Str}(h:zK z=(r,true)):r=z:=by
 unfold zK at h
 split at h
 ·cases congrArg Prod.snd h
 ·exact(congrArg Prod.fst h).symm
theorem zwR{z r:Str}(h:(match expS (zK z).1 with|some r=>(r,false)|none=>zK z)=(r,true)):r=z:=by
 cases hx:expS (zK z).1 with
 |some y=>rw[hx]at h;cases congrArg Prod.snd h
 |none=>rw[hx]at h;exact ztL h
theorem zy4{z r:Str}{b:Bool}(h:(match expS z with|some r=>(r,false)|none=>(z,false))=(r,b)):r=z∨expS z=some r:=by
 cases hx:expS z with
 |some y=>rw[hx]at h;right;exact congrArg some (congrArg Prod.fst h)
 |none=>rw[hx]at h;left;exact(congrArg Prod.fst h).symm
theorem zo6{t:zb}{s r:Str}{P:List zb}(ht:zfv t)(h:PcT s P)(hr:zAu t s r)(hT:qw r=P):ShS s r:=by
 have hP:P≠[]:=by cases h<;>simp
 have hrne:r≠[]:=by
  rintro rfl
  rw[Q0 (ZQ rfl)]at hT
  exact hP hT.symm
 have nodig:digB (atS s 0)=false→past digB s=s:=by
  intro hd
  cases s with
  |nil=>rfl
  |cons c q=>rw[past,show digB c=false from hd];rfl
 rcases hr with hr|⟨_,hr⟩|⟨hk,he,hn,h37⟩|⟨_,sg,hsg,hd,hn,hr⟩
 ·exact .inl hr
 ·cases hsp:spB (atS s 0)with
  |true=>
   rw[zBP h hsp]at hr
   exact absurd hr hrne
  |false=>
   left
   rw[hr]
   cases s with
   |nil=>rfl
   |cons c q=>rw[past,show spB c=false from hsp];rfl
 ·cases ht with
  |cNum n f h1 h2 hf=>
   have he':zA (numT n (!f)++s)=(r,f):=he
   have hcase:r=past digB s∨expS (past digB s)=some r:=by
    cases hp:(partT (n.natAbs%1000) (!f)).isEmpty with
    |true=>
     left
     rw[zqG hp]at he'
     rw[zj0 hf]at hp
     subst hp
     exact zwR he'
    |false=>
     rw[zuF hp]at he'
     exact zy4 he'
   cases hd:digB (atS s 0)with
   |true=>
    rcases hcase with hr|hx
    ·exact zxp h hd hr hn h37 hT
    ·exfalso
     have hun:unsign s=s:=by
      unfold unsign zaE
      rw[beq_eq_false_iff_ne.2 (QC hd).1,beq_eq_false_iff_ne.2 (QC hd).2.1];rfl
     obtain⟨n2,p2,U,t2,rfl,rfl,_,hU⟩:=zxQ h (by rw[hun];exact hd)
     obtain⟨u1,u2,_⟩:=znc hU
     rw[←hun]at hx
     cases hp:(partT (n2.natAbs%1000) p2).isEmpty with
     |true=>rw[zrd U hp,u1,u2]at hx;cases hx
     |false=>rw[zre U hp,zAK]at hx;cases hx
   |false=>
    rw[nodig hd]at hcase
    rcases hcase with hr|hx
    ·exact .inl hr
    ·obtain⟨h1,h2,h3⟩:=zrR hx
     exact(zxo h h1 h2 h3 hT).elim
  |cId|cFn|cAt|cHash|cStr|cUrl|cDel|cPct|cDim=>simp at hk
  |cMark k h1 h2=>have hk':k=10:=hk;omega
 ·exfalso
  have hds:digB (atS (unsign s) 0)=true∧past digB (unsign (sg++s))=past digB (unsign s):=by
   rcases hsg with rfl|rfl
   ·exact⟨hd,rfl⟩
   ·have hd':digB (atS s 0)=true:=hd
    have hun:unsign s=s:=by
     unfold unsign zaE
     rw[beq_eq_false_iff_ne.2 (QC hd').1,beq_eq_false_iff_ne.2 (QC hd').2.1];rfl
    rw[hun]
    exact⟨hd',rfl⟩
  obtain⟨hd1,hd2⟩:=hds
  rw[hd2]at hn hr
  obtain⟨n2,p2,U,t2,rfl,rfl,_,hU⟩:=zxQ h hd1
  obtain⟨u1,_,u3⟩:=znc hU
  cases hp:(partT (n2.natAbs%1000) p2).isEmpty with
  |true=>
   rw[zrd U hp,u1]at hn hr
   rcases u3 with rfl|rfl|⟨_,hu⟩
   ·cases hn
   ·cases hn
   ·rw[hu]at hr;exact hrne hr
  |false=>rw[zre U hp,zA5]at hn;cases hn
end Go.Lv.VT

namespace Go.Lv.VT
set_option maxRecDepth 100000
abbrev cmtW:Str:=[47,42,42,47]
theorem zvK{s:Str}{P:List zb}(h:PcT s P)(x:Str)(hx:atS x 0≠42):([47,42]:Str).isPrefixOf (s++x)=false:=by
 obtain⟨c,r,rfl⟩:=za8 (zkD h)
 by_cases hc:c=47
 ·have:=znC h (.inl rfl) hc
  rw[this]
  cases x with
  |nil=>rfl
  |cons d t=>
   show((47==(47:UInt8))&&((42==d)&&_))=false
   have:((42:UInt8)==d)=false:=beq_eq_false_iff_ne.2 (fun e=>hx e.symm)
   rw[this,Bool.false_and,Bool.and_false]
 ·exact zpG (beq_eq_false_iff_ne.2 hc)
theorem zsh{s:Str}{P:List zb}(h:PcT s P):cmtS s=s:=by
 refine ZQ ?_
 have:=zvK h [] (by decide)
 rwa [List.append_nil]at this
theorem zuH(x:Str):Zp (92::10::x)=(⟨9,[92],0,[],false⟩,10::x):=rfl
theorem zs5{l:Str}(h0:l≠[])(h:Zh l=true)(hl:lowS l=[117,114,108])(b:Bool)(w:Str):
  Zp (Z9 l++40::((if b then [32]else [])++34::w))=(⟨2,l,0,[],false⟩,(if b then [32]else [])++34::w):=by
 have hn:=zxE h0 ((if b then [32]else [])++34::w)
 have hnd:=zvk h ((if b then [32]else [])++34::w)
 obtain⟨c,r,e⟩:=za8 (znp hn)
 rw[e]at hn hnd ⊢
 rw[qh,zmG hn (by rw[hnd];intro t e;injection e with e _;cases e),zkw]
 unfold qx
 rw[hnd]
 simp only
 have hp:atS (past spB ((40::((if b then [32]else [])++34::w)).drop 1)) 0=34:=by cases b<;>rfl
 rw[if_pos (by rfl),hl,hp,if_neg (by decide)]
 rfl
theorem zyE{l:Str}(h:lowS l=[117,114,108]):l≠[]:=by rintro rfl;cases h
theorem zye(l m x:Str)(b:Bool):(Z9 l++40::((if b then [32]else [])++34::(encB quoB m++[34])))++x=Z9 l++40::((if b then [32]else [])++34::((encB quoB m++[34])++x)):=by
 rw[List.append_assoc,List.cons_append,List.append_assoc];rfl
theorem zwv{l m:Str}{b:Bool}(h:Zh l=true)(hl:lowS l=[117,114,108])(hm:Zh m=true)(x:Str):
  run ((Z9 l++40::((if b then [32]else [])++34::(encB quoB m++[34])))++x) (⟨2,l,0,[],false⟩::((if b then [tkSp]else [])++[⟨5,m,0,[],false⟩])) x:=by
 rw[zye]
 have hf:=zs5 (zyE hl) h hl b ((encB quoB m++[34])++x)
 have hn:=zxE (zyE hl) ((if b then [32]else [])++34::((encB quoB m++[34])++x))
 have hs: ∀q:Str,q=34::((encB quoB m++[34])++x)→run q [⟨5,m,0,[],false⟩] x:=by
  rintro q rfl
  have:=znT hm x
  rw[List.cons_append]at this
  exact⟨34,_,ZQ rfl,by rw[this],by rw[this];rfl⟩
 obtain⟨c,r,e⟩:=za8 (znp hn)
 rw[e]at hf hn ⊢
 have hc:c≠47:=by
  rintro rfl
  exact absurd (show hdB 47=true from zto hn) (by decide)
 refine⟨c,r,ZQ (zpG (beq_eq_false_iff_ne.2 hc)),by rw[hf],?_⟩
 rw[hf]
 cases b with
 |false=>exact hs _ rfl
 |true=>
  exact⟨32,34::((encB quoB m++[34])++x),ZQ rfl,rfl,hs _ rfl⟩
theorem zyI{s:Str}{P:List zb}(h:PcT s P){x:Str}(hx:neu x):run (s++x) P x:=by
 cases h with
 |one t h hb hu=>
  have hn:=zy3 h hb hu hx
  have hp:=zvK (.one t h hb hu) x (by rcases hx with rfl|⟨y,rfl⟩;exact(show(0:UInt8)≠42 by decide);exact(show(47:UInt8)≠42 by decide))
  obtain⟨c,r,e⟩:=za8 (zkD (.one t h hb hu))
  rw[e]at hn hp ⊢
  exact⟨c,r++x,ZQ hp,by rw[show c::(r++x)=(c::r)++x from rfl,hn],by rw[show c::(r++x)=(c::r)++x from rfl,hn];rfl⟩
 |back=>
  refine⟨92,10::x,ZQ rfl,by rw[zuH],?_⟩
  rw[zuH]
  refine⟨10,x,ZQ rfl,rfl,?_⟩
  show past spB x=x
  exact zsg rfl hx
 |url l m b h hl hm=>exact zwv h hl hm x
theorem zzU{u s r:Str}{p P:List zb}(hu:PcT u p)(hs:PcT s P)(hr:run (u++s) p r)(hT:qw r=P):ShS s r:=by
 cases hu with
 |one t h hb hu=>
  obtain⟨c,q,h1,h2,h3⟩:=hr
  have hpu:PcT (txS t) [t]:= .one t h hb hu
  rw[run]at h3
  cases hp:([47,42]:Str).isPrefixOf (txS t++s)with
  |true=>
   exfalso
   obtain⟨c0,r0,e⟩:=za8 (zkD hpu)
   by_cases hc:c0=47
   ·have e2:=znC hpu (.inl rfl) (by rw[e];exact hc)
    rw[e2]at hp h1
    have h42:atS s 0=42:=by
     cases s with
     |nil=>cases hp
     |cons d t'=>
      have:((42:UInt8)==d)=true:=by
       have h':((47==(47:UInt8))&&((42==d)&&true))=true:=hp
       simpa using h'
      exact(beq_iff_eq.1 this).symm
    rw[znC hs (.inr rfl) h42]at h1
    have:cmtS ([47]++[42])=[]:=by rw[zbz];rfl
    rw[this]at h1;cases h1
   ·rw[e,List.cons_append,zpG (beq_eq_false_iff_ne.2 hc)]at hp;cases hp
  |false=>
   rw[ZQ hp]at h1
   rw[←h1]at h2 h3
   have:=zwQ h hu h2
   rw[h3]at this
   exact zo6 h hs this hT
 |back=>
  obtain⟨c,q,h1,h2,h3⟩:=hr
  rw[show cmtS ([92,10]++s)=92::10::s from ZQ rfl]at h1
  injection h1 with e1 e2
  subst e1 e2
  rw[zuH]at h3
  obtain⟨c',q',g1,g2,g3⟩:=h3
  rw[show cmtS (10::s)=10::s from ZQ rfl]at g1
  injection g1 with e1 e2
  subst e1 e2
  rw[run]at g3
  have g3':past spB s=r:=g3
  exact zo6 (t:=tkSp) (.cMark 13 (by omega) (by omega)) hs (.inr (.inl ⟨rfl,g3'.symm⟩)) hT
 |url l m b h hl hm=>exact .inl (zv6 hr (zwv h hl hm s))
def Lk(R A:Str):Prop:=cmtS R=A∨ ∃d y,digB d=true∧A=48::46::d::y∧cmtS R=46::d::y
theorem zzB{R A:Str}(h:Lk R A)(hA:A≠[]):cmtS R≠[]:=by
 rcases h with h|⟨d,y,_,_,h⟩
 ·rw[h];exact hA
 ·rw[h];simp
theorem zyC{R A x:Str}(h:Lk R A)(hA:A≠[])(hp:([47,42]:Str).isPrefixOf (A++x)=false):Lk (R++x) (A++x):=by
 rcases h with h|⟨d,y,hd,rfl,h⟩
 ·left;rw[zjM (by rw[h];exact hA) (by rw[h];exact hp),h]
 ·right
  exact⟨d,y++x,hd,rfl,by rw[zjM (by rw[h];simp) (by rw[h];rfl),h];rfl⟩
theorem zyD{R A:Str}(h:Lk R A)(hp:([47,42]:Str).isPrefixOf A=false){t:zb}{ts:List zb}{r:Str}:run R (t::ts) r↔run A (t::ts) r:=by
 rcases h with h|⟨d,y,hd,rfl,h⟩
 ·rw[←zv5 (q:=R) (by simp),h]
 ·rw[←zv5 (q:=R) (by simp),h]
  constructor
  ·rintro⟨c,q,h1,h2,h3⟩
   rw[ZQ rfl]at h1
   rw[←h1]at h2 h3
   exact⟨48,46::d::y,ZQ rfl,by rw[zfq d y hd];exact h2,by rw[zfq d y hd];exact h3⟩
  ·rintro⟨c,q,h1,h2,h3⟩
   rw[ZQ rfl]at h1
   rw[←h1,zfq d y hd]at h2 h3
   exact⟨46,d::y,ZQ rfl,h2,h3⟩
theorem zu8{R A:Str}(h:Lk R A):qw R=qw A:=by
 rcases h with h|⟨d,y,hd,rfl,h⟩
 ·rw[←zjj R,h]
 ·rw[←zjj R,h,zak (ZQ rfl),zak (l:=48::46::d::y) (ZQ rfl),zfq d y hd]
inductive Syn:Str→List zb→List (List zb×Str)→Prop
 |nil:Syn [] [] []
 |cmt (b s:Str) (ts P:List zb) (st:List (List zb×Str)) (h:Syn b ts st) (hb:b≠[]) (hp:PcT s P):Syn (b++cmtW++s) (ts++P) (st++[(ts,b++cmtW)])
 |no (b s:Str) (ts P:List zb) (st:List (List zb×Str)) (h:Syn b ts st) (hp:PcT s P) (ht:qw (b++s)=ts++P):Syn (b++s) (ts++P) (st++[(ts,b)])
def Bd(b:Str)(ts L:List zb)(B:Str)(m:Nat):Prop:= ∃A R us,b=B++A∧A≠[]∧ts=L++us∧us≠[]∧run b L R∧Lk R A∧m≤R.length∧m≤A.length
structure zAv (b:Str) (ts:List zb) (st:List (List zb×Str)):Prop where
 tok:qw b=ts
 bd: ∀k (h:k<st.length),Bd b ts st[k].1 st[k].2 (st.length - k)
 last:(st=[]∧b=[]∧ts=[])∨ ∃L B u p R,PcT u p∧b=B++u∧ts=L++p∧run b L R∧Lk R u
theorem pc_P{s:Str}{P:List zb}(h:PcT s P): ∃t us,P=t::us:=by cases h<;>exact⟨_,_,rfl⟩
theorem zys {b x:Str} {ts P L:List zb} {B:Str} {m:Nat} (h:Bd b ts L B m) (hx:x≠[])
  (hrun: ∀R,R≠[]→run b L R→(∃A,A≠[]∧Lk R A∧b=B++A)→run (b++x) L (R++x)∧(∀A,A≠[]→Lk R A→b=B++A→Lk (R++x) (A++x))):Bd (b++x) (ts++P) L B (m+1):=by
 obtain⟨A,R,us,h1,h2,h3,h4,h5,h6,h7,h8⟩:=h
 have hR:R≠[]:=by
  intro e
  have:=zzB h6 h2
  rw[e]at this
  exact this (ZQ rfl)
 obtain⟨g1,g2⟩:=hrun R hR h5 ⟨A,h2,h6,h1⟩
 refine⟨A++x,R++x,us++P,by rw[h1,List.append_assoc],by simp[h2],by rw[h3,List.append_assoc],by simp[h4],g1,g2 A h2 h6 h1,?_⟩
 have:=List.length_pos_iff.2 hx
 rw[List.length_append,List.length_append];omega
theorem zyw{q:Str}(h:cmtS q=[47]):cmtS (q++[42])=[]:=by
 rw[zbz q]at h
 cases hp:([47,42]:Str).isPrefixOf q with
 |true=>
  have hl:=zeR hp
  rw[show([47,42]:Str).length=2 from rfl]at hl
  rw[hp,if_pos rfl]at h
  cases hc:clsS (q.drop 2)with
  |none=>rw[hc]at h;cases h
  |some p=>
   rw[hc]at h
   have h2:p.length<q.length:=by
    have h2:=(zdC _ hc).2
    rw[List.length_drop]at h2
    omega
   rw[zbz,zia [42] (by exact hl),hp,if_pos rfl,zdE hl,zqw [42] hc]
   exact zyw h
 |false=>
  rw[hp,if_neg (by decide)]at h
  subst h
  rw[zbz];rfl
termination_by q.length
end Go.Lv.VT

namespace Go.Lv.VT
set_option maxRecDepth 100000
theorem zz2{q s:Str}{P us:List zb}(hs:PcT s P)(h:zAt q s us)(hus:us≠[]):False:=by
 obtain⟨c,r,_,⟨⟨e,fl,hee,hw⟩,h43,hk,hds⟩,hsame,hT⟩:=h
 have hbr:=zef c (r++s)
 rw[hsame,hk]at hbr
 have hbr':brS c (r++s)=3:=hbr.symm
 have hnx:Zp (c::(r++s))=zz ((c::r)++s):=by rw[qh,hbr',zlo];rfl
 have hq2:q2S (c::r)≠[]:=by
  intro e2
  rw[e2]at hw
  cases congrArg Prod.fst hw
 have e2:q2S ((c::r)++s)=q2S (c::r)++s:=by
  unfold q2S
  rw[(zaD s (by simp)).1]
  exact zbT s hq2
 have hw2:=(zqd (q:=q2S (c::r)) (x:=s) (by rw[hw];simp) (fun e3=>by
  rw[e3]at hw
  have:=congrArg Prod.fst hw
  cases this)).1
 have hexp:expS ([e,43]++s)=some (past digB s):=by
  unfold expS
  have h1:(atS ([e,43]++s) 0==101||atS ([e,43]++s) 0==69)=true:=by rcases hee with rfl|rfl<;>rfl
  have h2:unsign (([e,43]++s).drop 1)=s:=rfl
  rw[h1,if_pos rfl,h2,hds,if_pos rfl]
 have hend:zA ((c::r)++s)=(past digB s,false):=by
  rw[Qn,e2,hw2,hw]
  simp only[hexp]
 have hk2:(zz ((c::r)++s)).1.kind=12:=by rw[←hnx,hsame,hk]
 rw[hnx]at hT
 unfold zz at hk2 hT
 rw[hend]at hk2 hT
 simp only at hk2 hT
 have hun:unsign s=s:=by
  unfold unsign zaE
  rw[beq_eq_false_iff_ne.2 (QC hds).1,beq_eq_false_iff_ne.2 (QC hds).2.1];rfl
 cases hn:nmS (past digB s)with
 |false=>
  rw[hn,if_neg (by decide)]at hk2
  split at hk2<;>cases hk2
 |true=>
  rw[hn,if_pos rfl]at hT
  obtain⟨n2,p2,U,t2,_,rfl,_,hU⟩:=zxQ hs (by rw[hun];exact hds)
  obtain⟨u1,_,u3⟩:=znc hU
  rw[←hun]at hn hT
  cases hp:(partT (n2.natAbs%1000) p2).isEmpty with
  |true=>
   rw[zrd U hp,u1]at hn hT
   rcases u3 with rfl|rfl|⟨_,hu⟩
   ·cases hn
   ·cases hn
   ·rw[hu,Q0 (ZQ rfl)]at hT;exact hus hT.symm
  |false=>rw[zre U hp,zA5]at hn;cases hn
theorem zAZ{R A:Str}(h:Lk R A)(hA:A≠[])(y:Str):Lk (R++47::42::y) (A++47::42::y):=by
 rcases h with h|⟨d,z,hd,rfl,h⟩
 ·left;rw[zui y (by rw[h];exact hA),h]
 ·right;exact⟨d,z++47::42::y,hd,rfl,by rw[zui y (by rw[h];simp),h];rfl⟩
theorem zwU{s:Str}{P:List zb}(h:PcT s P):cmtS (47::42::42::47::s)=s:=by
 rw[zbz]
 exact zsh h
theorem zrg{s:Str}{P:List zb}(h:PcT s P):qw s=P:=by
 have:=zfp (zyI h (x:=[]) (.inl rfl))
 rw[List.append_nil,Q0 (ZQ rfl),List.append_nil]at this
 exact this
theorem ztU{α:Type}{l a:List α}(h:l++a=l):a=[]:=by
 have:=congrArg List.length h
 rw[List.length_append]at this
 exact List.length_eq_zero_iff.1 (by omega)
theorem zwe{b:Str}{ts:List zb}{st:List (List zb×Str)}(h:Syn b ts st):zAv b ts st:=by
 induction h with
 |nil=>exact⟨Q0 (ZQ rfl),fun k h=>(by cases h), .inl ⟨rfl,rfl,rfl⟩⟩
 |cmt b s ts P st h hb hp ih=>
  obtain⟨ht,hbd,hl⟩:=ih
  have hx:b++cmtW++s=b++47::42::(42::47::s):=by rw[List.append_assoc];rfl
  obtain⟨t0,us0,hP0⟩:=pc_P hp
  have hrun:run (b++47::42::(42::47::s)) ts (47::42::(42::47::s)):=by
   rcases hl with⟨_,e,_⟩|⟨L,B,u,p,R,g1,g2,g3,g4,g5⟩
   ·exact absurd e hb
   ·have hR:R≠[]:=by
     intro e
     have:=zzB g5 (zkD g1)
     rw[e]at this
     exact this (ZQ rfl)
    obtain⟨t1,us1,hp1⟩:=pc_P g1
    rw[g3]
    refine znK (zv9 (42::47::s) g4 hR) ?_
    have h1:=zyI g1 (x:=47::42::(42::47::s)) (.inr ⟨_,rfl⟩)
    rw[hp1]at h1 ⊢
    exact(zyD (zAZ g5 (zkD g1) (42::47::s)) (zvK g1 _ (by show(47:UInt8)≠42;decide))).2 h1
  have hlk:Lk (47::42::(42::47::s)) s:= .inl (zwU hp)
  rw[hx]
  refine⟨?_,?_, .inr ⟨ts,b++cmtW,s,P,_,hp,by rw[List.append_assoc];rfl,rfl,hrun,hlk⟩⟩
  ·rw[zfp hrun,zu8 hlk,zrg hp]
  ·intro k hk
   rw[List.length_append,List.length_singleton]at hk
   by_cases hk2:k<st.length
   ·rw[List.getElem_append_left hk2]
    have:=zys (P:=P) (x:=47::42::(42::47::s)) (hbd k hk2) (by simp) (fun R hR h5 _=>⟨zv9 _ h5 hR,fun A hA h6 _=>zAZ h6 hA _⟩)
    rw[show st.length - k+1=(st++[(ts,b++cmtW)]).length - k by rw[List.length_append,List.length_singleton];omega]at this
    exact this
   ·have hke:k=st.length:=by omega
    subst hke
    rw[List.getElem_append_right (by omega)]
    simp only[Nat.sub_self,List.getElem_cons_zero]
    refine⟨s,_,P,by rw[List.append_assoc];rfl,zkD hp,rfl,by rw[hP0];simp,hrun,hlk,?_⟩
    have:=List.length_pos_iff.2 (zkD hp)
    rw[List.length_append,List.length_singleton]
    simp only[List.length_cons];omega
 |no b s ts P st h hp ht0 ih=>
  obtain⟨ht,hbd,hl⟩:=ih
  obtain⟨t0,us0,hP0⟩:=pc_P hp
  have hPne:P≠[]:=by rw[hP0];simp
  have hsne:=zkD hp
  -- what is ahead stays
  have keep: ∀(L us:List zb) (R:Str),ts=L++us→R≠[]→run b L R→run (b++s) L (R++s):=by
   intro L us R hts hR hrun
   rcases zsr (us:=us++P) hrun hR hsne (by rw[ht0,hts,List.append_assoc])with h1|⟨_,q,_,h1⟩
   ·exact h1
   ·exact(zz2 hp h1 (by simp[hPne])).elim
  have keepLk: ∀(L us:List zb) (R A:Str),ts=L++us→run (b++s) L (R++s)→A≠[]→Lk R A→Lk (R++s) (A++s):=by
   intro L us R A hts hrun hA hlk
   cases hpre:([47,42]:Str).isPrefixOf (A++s)with
   |false=>exact zyC hlk hA hpre
   |true=>
    exfalso
    rcases hlk with h1|⟨d,y,_,rfl,_⟩
    ·cases A with
     |nil=>exact hA rfl
     |cons c r=>
      cases r with
      |cons d t=>
       have:=zjN R
       rw[h1,←znE t s,hpre]at this
       cases this
      |nil=>
       have hc:c=47:=by
        cases hcc:(47:UInt8)==c with
        |true=>exact(beq_iff_eq.1 hcc).symm
        |false=>
         have:([47,42]:Str).isPrefixOf ([c]++s)=false:=by
          show(((47:UInt8)==c)&&_)=false
          rw[hcc];rfl
         rw[this]at hpre;cases hpre
       subst hc
       have h42:s=[42]:=by
        refine znC hp (.inr rfl) ?_
        cases s with
        |nil=>exact absurd rfl hsne
        |cons d t=>
         have h':(((47:UInt8)==47)&&(((42:UInt8)==d)&&true))=true:=hpre
         have:((42:UInt8)==d)=true:=by simpa using h'
         exact(beq_iff_eq.1 this).symm
       have h3:=zfp hrun
       rw[ht0,hts,h42,Q0 (zyw h1),List.append_nil,List.append_assoc]at h3
       have:=ztU h3
       exact hPne (List.append_eq_nil_iff.1 this).2
    ·cases hpre
  rcases hl with⟨e1,e2,e3⟩|⟨L,B,u,p,R,g1,g2,g3,g4,g5⟩
  ·subst e1 e2 e3
   refine⟨ht0,?_, .inr ⟨[],[],s,P,s,hp,rfl,rfl,rfl, .inl (zsh hp)⟩⟩
   intro k hk
   have hke:k=0:=by
    rw[List.length_append,List.length_singleton,List.length_nil]at hk;omega
   subst hke
   exact⟨s,s,P,rfl,hsne,rfl,hPne,rfl, .inl (zsh hp),List.length_pos_iff.2 hsne,List.length_pos_iff.2 hsne⟩
  ·have hR:R≠[]:=by
    intro e
    have:=zzB g5 (zkD g1)
    rw[e]at this
    exact this (ZQ rfl)
   have h1:=keep L p R g3 hR g4
   have h2:=keepLk L p R u g3 h1 (zkD g1) g5
   have h3:=zfp h1
   rw[ht0,g3,List.append_assoc]at h3
   have h4:=List.append_cancel_left h3
   obtain⟨r,h5,h6⟩:=zsx h4.symm
   have hsh:ShS s r:=by
    obtain⟨t1,us1,hp1⟩:=pc_P g1
    refine zzU g1 hp ?_ h6
    have hpre:([47,42]:Str).isPrefixOf (u++s)=false∨cmtS (R++s)=[]:=by
     rcases h2 with h2|⟨d,y,hd,h2,_⟩
     ·left;rw[←h2];exact zjN _
     ·left;rw[h2];rfl
    rcases hpre with hpre|hpre
    ·rw[hp1]at h5 ⊢
     exact(zyD h2 hpre).1 h5
    ·rw[hp1]at h5
     obtain⟨c,q,e,_⟩:=h5
     rw[hpre]at e;cases e
   have hrun:run (b++s) ts r:=by rw[g3];exact znK h1 h5
   have hlk:Lk r s:=by
    rcases hsh with rfl|⟨d,y,hd,e1,e2⟩
    ·exact .inl (zsh hp)
    ·right;exact⟨d,y,hd,e1,by rw[e2];exact ZQ rfl⟩
   have hrl:1≤r.length:=by
    rcases hsh with rfl|⟨d,y,_,_,e2⟩
    ·exact List.length_pos_iff.2 hsne
    ·rw[e2];simp
   refine⟨ht0,?_, .inr ⟨ts,b,s,P,r,hp,rfl,rfl,hrun,hlk⟩⟩
   intro k hk
   rw[List.length_append,List.length_singleton]at hk
   by_cases hk2:k<st.length
   ·rw[List.getElem_append_left hk2]
    obtain⟨A0,R0,us,f1,f2,f3,f4,f5,f6,f7,f8⟩:=hbd k hk2
    have:=zys (P:=P) (x:=s) ⟨A0,R0,us,f1,f2,f3,f4,f5,f6,f7,f8⟩ hsne (fun R hR h5 _=>⟨keep _ us R f3 hR h5,fun A hA h6 _=>keepLk _ us R A f3 (keep _ us R f3 hR h5) hA h6⟩)
    rw[show st.length - k+1=(st++[(ts,b)]).length - k by rw[List.length_append,List.length_singleton];omega]at this
    exact this
   ·have hke:k=st.length:=by omega
    subst hke
    rw[List.getElem_append_right (by omega)]
    simp only[Nat.sub_self,List.getElem_cons_zero]
    refine⟨s,r,P,rfl,hsne,rfl,hPne,hrun,hlk,?_⟩
    have:=List.length_pos_iff.2 hsne
    rw[List.length_append,List.length_singleton];omega
end Go.Lv.VT

namespace Go.Lv.VT
set_option maxRecDepth 100000
def pcN:List zb→Nat
 |[]=>0
 |t::r=>if t.kind==9&&t.text==[92]then 2 else if zdd t then(if zcG r then 3 else 2)else 1
def catT:List zb→Str
 |[]=>[]
 |t::r=>txS t++catT r
def pcS:List zb→Str
 |[]=>[]
 |t::r=>if t.kind==9&&t.text==[92]then [92,10]else catT (t::r)
theorem zuM{t:zb}(h:zbA t=true)(hk:(t.kind==13)=true):t=tkSp:=by
 rw[beq_iff_eq]at hk
 cases zlZ h with
 |cId|cFn|cAt|cHash|cStr|cUrl|cDel|cNum|cPct|cDim=>simp at hk
 |cMark k h1 h2=>have hk':k=13:=hk;rw[hk']
theorem zyA{t:zb}(h:zbA t=true)(hk:(t.kind==5)=true): ∃m,Zh m=true∧t=⟨5,m,0,[],false⟩:=by
 rw[beq_iff_eq]at hk
 cases zlZ h with
 |cStr l h'=>exact⟨l,h',rfl⟩
 |cId|cFn|cAt|cHash|cUrl|cDel|cNum|cPct|cDim=>simp at hk
 |cMark k h1 h2=>have hk':k=5:=hk;omega
theorem zAN{t:zb}(h:zbA t=true)(hk:(t.kind==9&&t.text==[92])=true):t=⟨9,[92],0,[],false⟩:=by
 rw[Bool.and_eq_true,beq_iff_eq,beq_iff_eq]at hk
 cases zlZ h with
 |cDel c h=>have:=hk.2;rw[show c=92 by injection this]
 |cId|cFn|cAt|cHash|cStr|cUrl|cNum|cPct|cDim=>simp at hk
 |cMark k h1 h2=>have hk':k=9:=hk.1;omega
theorem zxc{t:zb}(h:zbA t=true)(hk:zdd t=true): ∃l,Zh l=true∧lowS l=[117,114,108]∧t=⟨2,l,0,[],false⟩:=by
 unfold zdd at hk
 rw[Bool.and_eq_true,beq_iff_eq,beq_iff_eq]at hk
 cases zlZ h with
 |cFn l h0 h'=>exact⟨l,h',hk.2,rfl⟩
 |cId|cAt|cHash|cStr|cUrl|cDel|cNum|cPct|cDim=>simp at hk
 |cMark k h1 h2=>have hk':k=2:=hk.1;omega
theorem zBL{t:zb}(h:(t.kind==9&&t.text==[92])=false): ¬(t.kind=9∧t.text=[92]):=by
 rintro⟨h1,h2⟩
 rw[h1,h2]at h
 exact absurd h (by decide)
theorem zhm(t:zb)(r:List zb):pcN (t::r)=if t.kind==9&&t.text==[92]then 2 else if zdd t then(if zcG r then 3 else 2)else 1:=rfl
theorem zpp(t:zb)(r:List zb):okAt (t::r)=((!(t.kind==9&&t.text==[92])||zcG r)&&(!(zdd t)||zn4 r)):=rfl
theorem zft(s:zb)(r:List zb):zn4 (s::r)=(bif s.kind==13 then(match r with|u::_=>u.kind==5|[]=>false)else s.kind==5):=rfl
theorem zBO{t:zb}{r:List zb}(hf: ∀u∈t::r,zbA u=true)(ho:okAt (t::r)=true): ∃P Q,t::r=P++Q∧P.length=pcN (t::r)∧PcT (pcS P) P:=by
 have hft:=hf t (List.mem_cons_self ..)
 rw[zpp,Bool.and_eq_true]at ho
 rw[zhm]
 cases h9:t.kind==9&&t.text==[92]with
 |true=>
  rw[h9,Bool.not_true,Bool.false_or]at ho
  rw[if_pos rfl]
  cases r with
  |nil=>cases ho.1
  |cons s r=>
   have hs:=zuM (hf s (by simp)) ho.1
   have ht:=zAN hft h9
   subst hs ht
   exact⟨[⟨9,[92],0,[],false⟩,tkSp],r,rfl,rfl, .back⟩
 |false=>
  rw[if_neg (by decide)]
  cases hu:zdd t with
  |false=>
   rw[if_neg (by decide)]
   have hp:pcS [t]=txS t:=by
    show(if(t.kind==9&&t.text==[92])=true then [92,10]else txS t++[])=_
    rw[h9,if_neg (by decide),List.append_nil]
   exact⟨[t],r,rfl,rfl,by rw[hp];exact .one t (zlZ hft) (zBL h9) hu⟩
  |true=>
   rw[if_pos rfl]
   rw[hu,Bool.not_true,Bool.false_or]at ho
   obtain⟨l,h1,h2,rfl⟩:=zxc hft hu
   have ho2:=ho.2
   have catS: ∀m:Str,txS ⟨5,m,0,[],false⟩++[]=34::(encB quoB m++[34]):=fun m=>by rw[zkZ,List.append_nil]
   cases r with
   |nil=>cases ho2
   |cons s r=>
    cases hs:s.kind==13 with
    |false=>
     rw[zft,hs,cond_false]at ho2
     obtain⟨m,hm,rfl⟩:=zyA (hf s (by simp)) ho2
     rw[show zcG (⟨5,m,0,[],false⟩::r)=false from rfl,if_neg (by decide)]
     refine⟨[⟨2,l,0,[],false⟩,⟨5,m,0,[],false⟩],r,rfl,rfl,?_⟩
     have hp:pcS [⟨2,l,0,[],false⟩,⟨5,m,0,[],false⟩]=Z9 l++40::((if false then [32]else [])++34::(encB quoB m++[34])):=by
      show txS ⟨2,l,0,[],false⟩++(txS ⟨5,m,0,[],false⟩++[])=_
      rw[catS,zp4,List.append_assoc];rfl
     rw[hp]
     exact .url l m false h1 h2 hm
    |true=>
     have hs':=zuM (hf s (by simp)) hs
     subst hs'
     cases r with
     |nil=>cases ho2
     |cons u r=>
      obtain⟨m,hm,rfl⟩:=zyA (hf u (by simp)) ho2
      rw[show zcG (tkSp::⟨5,m,0,[],false⟩::r)=true from rfl,if_pos rfl]
      refine⟨[⟨2,l,0,[],false⟩,tkSp,⟨5,m,0,[],false⟩],r,rfl,rfl,?_⟩
      have hp:pcS [⟨2,l,0,[],false⟩,tkSp,⟨5,m,0,[],false⟩]=Z9 l++40::((if true then [32]else [])++34::(encB quoB m++[34])):=by
       show txS ⟨2,l,0,[],false⟩++(txS tkSp++(txS ⟨5,m,0,[],false⟩++[]))=_
       rw[catS,zp4,show txS tkSp=[32]from rfl,List.append_assoc];rfl
      rw[hp]
      exact .url l m true h1 h2 hm
theorem zvN{t:zb}{r:List zb}(h:t.text.length≤big)(ho:okAt (t::r)=true):Qs (t::r)=some ((pcN (t::r):Nat):Int):=by
 have e0:geti (t::r) 0=some t:=rfl
 have p1:=zh9 (t::r) 1 13
 have p15:=zh9 (t::r) 1 5
 have p25:=zh9 (t::r) 2 5
 unfold Qs
 simp only[e0,ze,Option.bind_some,zib h (show([117,114,108]:Str).length≤big by decide),zkl,QS]
 simp only[Int.natCast_one]at p1 p15
 replace p25:ZB ((2,5),t::r)=_:=p25
 have hp1:ZB ((1,13),t::r)=some (zcG r):=by rw[p1];cases r<;>rfl
 rw[hp1]
 rw[zpp]at ho
 unfold zdd at ho
 rw[zhm]
 unfold zdd
 cases hd:(t.kind==9&&t.text==[92])with
 |true=>
  have hk:t.kind=9:=by rw[Bool.and_eq_true,beq_iff_eq]at hd;exact hd.1
  have ht:(t.text==[92])=true:=by rw[Bool.and_eq_true]at hd;exact hd.2
  simp only[hk,ht,Int.reduceBEq,cond_true,cond_false,Option.bind_some]
  rw[hd,Bool.not_true,Bool.false_or,Bool.and_eq_true]at ho
  cases r with
  |nil=>cases ho.1
  |cons s r=>
   show(bif !(s.kind==13)then some 0 else some 2)=some 2
   rw[show(s.kind==13)=true from ho.1];rfl
 |false=>
  have hc:(bif t.kind==9 then t.text==[92]else false)=false:=by
   cases h9:t.kind==9
   ·rfl
   ·rw[h9]at hd;exact hd
  simp only[hc,hd,cond_false,Bool.not_false,Bool.true_or,Bool.true_and]
  rw[hd,Bool.not_false,Bool.true_or,Bool.true_and]at ho
  cases hu:(t.kind==2&&lowS t.text==[117,114,108])with
  |false=>
   have:(bif t.kind==2 then bif t.kind==2 then lowS t.text==[117,114,108]else default else false)=false:=by
    cases h2:t.kind==2
    ·rfl
    ·rw[h2]at hu;exact hu
   rw[this]
   rfl
  |true=>
   rw[hu,Bool.not_true,Bool.false_or]at ho
   rw[Bool.and_eq_true]at hu
   rw[hu.1,hu.2]
   simp only[cond_true,Option.bind_some]
   cases r with
   |nil=>cases ho
   |cons s r=>
    cases hs:s.kind==13 with
    |false=>
     have e1:zcG (s::r)=false:=hs
     have e5:ZB ((1,5),t::s::r)=some (s.kind==5):=p15
     have ho5:(s.kind==5)=true:=by rw[zft,hs]at ho;exact ho
     simp only[e1,cond_false,zg,e5,Option.bind_some,ho5,Bool.not_true]
     rfl
    |true=>
     have e1:zcG (s::r)=true:=hs
     simp only[e1,cond_true,zg,p25,Option.bind_some]
     cases r with
     |nil=>rw[zft,hs]at ho;cases ho
     |cons u r=>
      have ho5:(u.kind==5)=true:=by rw[zft,hs]at ho;exact ho
      show(bif !(u.kind==5)then some 0 else some (w64 (2+1)))=some 3
      rw[ho5];rfl
def clB(l:Str):Bool:=l.all fun c=> !(c==0||c==12||c==13)
theorem qZ(a b:Str):clB (a++b)=(clB a&&clB b):=by unfold clB;rw[List.all_append]
theorem zmP: ∀l:Str,clB l=true→Proofs.Cl.cleanS l=l
 |[],_=>by rw[Proofs.Cl.cleanS]
 |c::r,h=>by
  unfold clB at h
  rw[List.all_cons,Bool.and_eq_true]at h
  have e:=zmP r h.2
  have h':(c==0||c==12||c==13)=false:=by simpa using h.1
  rw[Bool.or_eq_false_iff,Bool.or_eq_false_iff]at h'
  obtain⟨⟨h0,h12⟩,h13⟩:=h'
  rw[Proofs.Cl.cleanS,h0,h12,h13,e]
  ·rfl
  ·rintro t rfl;exact absurd h13 (by decide)
theorem zeo(c:UInt8):clB (escC c)=true∧(letB c=true→clB [c]=true)∧(c≠0→quoB c=false→clB [c]=true)∧(c≠0→urB c=false→clB [c]=true)∧(zci c.toNat=true→clB [c]=true)∧(digB c=true→clB [c]=true):=by
 have: ∀n:Nat,n<256→clB (escC (UInt8.ofNat n))=true∧(letB (UInt8.ofNat n)=true→clB [UInt8.ofNat n]=true)∧(UInt8.ofNat n≠0→quoB (UInt8.ofNat n)=false→clB [UInt8.ofNat n]=true)∧(UInt8.ofNat n≠0→urB (UInt8.ofNat n)=false→clB [UInt8.ofNat n]=true)∧(zci (UInt8.ofNat n).toNat=true→clB [UInt8.ofNat n]=true)∧(digB (UInt8.ofNat n)=true→clB [UInt8.ofNat n]=true):=by decide+kernel
 have:=this c.toNat (UInt8.toNat_lt c)
 rwa [UInt8.ofNat_toNat]at this
theorem zep(dash:Bool): ∀(k:Nat) (l:Str),clB (encW dash k l)=true
 |_,[]=>by rw[encW];rfl
 |k,c::r=>by
  obtain⟨h1,h2,_⟩:=zeo c
  rw[encW,qZ,zep dash (k - 1) r,Bool.and_true]
  unfold pcW
  cases hg:letB c&&(k==0|| !digB c)&& !dash with
  |true=>
   rw[Bool.and_eq_true,Bool.and_eq_true]at hg
   exact h2 hg.1.1
  |false=>exact h1
theorem zmO{p:UInt8→Bool}(hp: ∀c,c≠0→p c=false→clB [c]=true): ∀l:Str,Zh l=true→clB (encB p l)=true
 |[],_=>by rw[encB];rfl
 |c::r,h=>by
  obtain⟨h1,h2⟩:=Qt h
  rw[encB,qZ,zmO hp r h2,Bool.and_true]
  cases hc:p c with
  |true=>exact(zeo c).1
  |false=>exact hp c h1 hc
theorem zyu{l:Str}(h:l.all digB=true):clB l=true:=by
 induction l with
 |nil=>rfl
 |cons c r ih=>
  rw[List.all_cons,Bool.and_eq_true]at h
  rw[show c::r=[c]++r from rfl,qZ,(zeo c).2.2.2.2.2 h.1,ih h.2];rfl
theorem cl_T(n:Int)(p:Bool):clB (numT n p)=true:=by
 obtain⟨d1,_,_⟩:=zhN (n.natAbs / 1000)
 have hp:=znB (n:=n) (p:=p)
 rw[zob,qZ,qZ,zyu d1]
 have h1:clB (sgT n)=true:=by unfold sgT;split<;>rfl
 rw[h1]
 cases (partT (n.natAbs%1000) p).isEmpty with
 |true=>rfl
 |false=>
  show clB (46::partT (n.natAbs%1000) p)=true
  rw[show 46::partT (n.natAbs%1000) p=[46]++partT (n.natAbs%1000) p from rfl,qZ,zyu hp];rfl
theorem zy7(w:Str):clB (zbF w)=true:=by
 cases w with
 |nil=>rfl
 |cons c r=>
  rw[zb7]
  cases zlj (c::r)with
  |true=>rw[cond_true,qZ,(zeo c).1,zep];rfl
  |false=>exact zep _ _ _
theorem zy6{s:Str}{P:List zb}(h:PcT s P):clB s=true:=by
 cases h with
 |one t h hb hu=>
  cases h with
  |cId l h0 h=>rw[ztG];exact zep _ _ _
  |cFn l h0 h=>rw[zp4,qZ];rw[show clB (Z9 l)=true from zep _ _ _];rfl
  |cAt l h0 h=>rw[ztF,show 64::Z9 l=[64]++Z9 l from rfl,qZ,show clB (Z9 l)=true from zep _ _ _];rfl
  |cHash l f h0 h hbb=>
   rw[zid,show 35::zfx f l=[35]++zfx f l from rfl,qZ]
   have:clB (zfx f l)=true:=by cases f<;>exact zep _ _ _
   rw[this];rfl
  |cStr l h=>rw[zkZ,show 34::(encB quoB l++[34])=[34]++(encB quoB l++[34])from rfl,qZ,qZ,zmO (fun c h0 hc=>(zeo c).2.2.1 h0 hc) l h];rfl
  |cUrl l h=>rw[zmo,qZ,qZ,zmO (fun c h0 hc=>(zeo c).2.2.2.1 h0 hc) l h];rfl
  |cDel c h=>rw[zmk];exact(zeo c).2.2.2.2.1 h
  |cNum n f h1 h2 hf=>rw[zmm];exact cl_T _ _
  |cPct n h1 h2=>rw[zmn,qZ,cl_T];rfl
  |cDim n u f h1 h2 hf h0 h=>rw[zml,qZ,cl_T,zy7];rfl
  |cMark k h1 h2=>
   rw[zie h1 h2]
   rcases zhW h1 h2 with rfl|rfl|rfl|rfl|rfl|rfl|rfl|rfl|rfl|rfl|rfl|rfl<;>rfl
 |back=>rfl
 |url l m b h hl hm=>
  rw[qZ,show clB (Z9 l)=true from zep _ _ _,show∀z:Str,40::z=[40]++z from fun _=>rfl,qZ,qZ,show∀z:Str,34::z=[34]++z from fun _=>rfl,qZ,qZ,zmO (fun c h0 hc=>(zeo c).2.2.1 h0 hc) m hm]
  cases b<;>rfl
theorem zyv{b:Str}{ts:List zb}{st:List (List zb×Str)}(h:Syn b ts st):clB b=true:=by
 induction h with
 |nil=>rfl
 |cmt b s ts P st h hb hp ih=>rw[qZ,qZ,ih,zy6 hp];rfl
 |no b s ts P st h hp ht ih=>rw[qZ,ih,zy6 hp];rfl
def tokB(x y:zb):Bool:=x.kind==y.kind&&(x.text==y.text&&(x.num==y.num&&(x.unit==y.unit&&(x.flag==y.flag&&true))))
def zbW:List zb→List zb→Bool
 |[],[]=>true
 |x::l,y::m=>tokB x y&&zbW l m
 |_,_=>false
theorem ztu(x y:zb)(l m:List zb):zbW (x::l) (y::m)=(tokB x y&&zbW l m):=rfl
theorem zx7{x y:zb}:tokB x y=true↔x=y:=by
 obtain⟨a,b,c,d,e⟩:=x
 obtain⟨a',b',c',d',e'⟩:=y
 unfold tokB
 simp only[Bool.and_eq_true,beq_iff_eq,Bool.and_true,zb.mk.injEq]
theorem za0: ∀{l m:List zb},zbW l m=true↔l=m
 |[],[]=>by simp[zbW]
 |x::l,y::m=>by rw[zbW,Bool.and_eq_true,zx7,za0,List.cons.injEq]
 |[],y::m=>by simp[zbW]
 |x::l,[]=>by simp[zbW]
theorem zkR{l m:List zb}(h:l.length≠m.length):zbW l m=false:=by
 cases hs:zbW l m with
 |false=>rfl
 |true=>rw[za0.1 hs]at h;exact absurd rfl h
theorem zpV {l m:List zb} (hl:l.length=m.length) (hn:l.length≤big) {step:Int→Option (LO Int Unit Bool)}
  (h1: ∀(i:Nat) (h:i<l.length),step (i:Int)=bif !(tokB l[i] (m[i]'(hl▸h)))then some (.ret false)else some (.again (w64 ((i:Int)+1))))
  (h2:step (l.length:Int)=some (.out ())):ZF step 0 (fun _=>some true)=some (zbW l m):=by
 have hb:big=4194304:=rfl
 refine zha (fun s=> ∃i:Nat,i≤l.length∧s=(i:Int)∧zbW (l.drop i) (m.drop i)=zbW l m) (fun s=>l.length - s.toNat) _ ?_ ⟨0,by omega,rfl,rfl⟩
 rintro _ ⟨i,hi,rfl,he⟩
 rcases Nat.lt_or_ge i l.length with h|h
 ·rw[h1 i h]
  have hm:i<m.length:=hl▸h
  rw[show l.drop i=l[i]::l.drop (i+1)from List.drop_eq_getElem_cons h,show m.drop i=m[i]::m.drop (i+1)from List.drop_eq_getElem_cons hm,ztu]at he
  cases ht:tokB l[i] (m[i]'(hl▸h))with
  |true=>
   rw[ht,Bool.true_and]at he
   rw[Bool.not_true,cond_false,zV (by omega) (by omega)]
   exact .inl ⟨_,rfl,⟨i+1,by omega,by omega,he⟩,by omega⟩
  |false=>
   rw[ht,Bool.false_and]at he
   rw[Bool.not_false,cond_true,←he]
   exact .inr (.inr rfl)
 ·have:i=l.length:=by omega
  subst this
  rw[List.drop_eq_nil_of_le (Nat.le_refl _),List.drop_eq_nil_of_le (by omega)]at he
  exact .inr (.inl ⟨(),h2,by rw[←he];rfl⟩)
theorem zrU{α:Type}{l:List α}{i:Nat}(h:i<l.length):geti l (i:Int)=some l[i]:=zbB h
theorem int_ne{n m:Nat}:(((n:Int) != (m:Int)):Bool)= !(n==m):=by
 unfold bne
 congr 1
 by_cases h:n=m
 ·subst h;simp
 ·rw[beq_eq_false_iff_ne.2 h,beq_eq_false_iff_ne];omega
theorem zw7{l m:List zb}(hn:l.length≤big):ZX (l,m)=some (zbW l m):=by
 unfold ZX
 rw[int_ne]
 cases he:l.length==m.length with
 |false=>rw[Bool.not_false,cond_true,zkR (beq_eq_false_iff_ne.1 he)]
 |true=>
  rw[Bool.not_true,cond_false]
  have hl:=beq_iff_eq.1 he
  refine zpV hl hn (fun i h=> ?_) ?_
  ·have hm:i<m.length:=hl▸h
   have d1:decide ((i:Int)<(l.length:Int))=true:=decide_eq_true (by omega)
   simp only[d1,cond_true,zrU h,zrU hm,ze,Option.bind_some]
   rfl
  ·simp only
   rw[decide_eq_false (by omega),cond_false]
theorem same_eq{l m:List zb}(hn:l.length≤big):zdk (l,m)=some (zbW l m):=by
 unfold zdk
 rw[int_ne]
 cases he:l.length==m.length with
 |false=>rw[Bool.not_false,cond_true,zkR (beq_eq_false_iff_ne.1 he)]
 |true=>
  rw[Bool.not_true,cond_false]
  have hl:=beq_iff_eq.1 he
  refine zpV hl hn (fun i h=> ?_) ?_
  ·have hm:i<m.length:=hl▸h
   have d1:decide ((i:Int)<(l.length:Int))=true:=decide_eq_true (by omega)
   have d2:decide ((0:Int)≤(i:Int))=true:=decide_eq_true (by omega)
   have d3:decide ((i:Int)<(m.length:Int))=true:=decide_eq_true (by omega)
   simp only[d1,d2,d3,cond_true,zrU h,zrU hm,ze,Option.bind_some,Int.toNat_natCast,List.getElem?_eq_getElem h,List.getElem?_eq_getElem hm]
   rfl
  ·simp only
   rw[decide_eq_false (by omega),cond_false]
end Go.Lv.VT

namespace Go.Lv.VT
set_option maxRecDepth 100000
def wrF:Nat→List zb→Str→List zb→Str
 |0,_,b,_=>b
 |_+1,_,b,[]=>b
 |n+1,ts,b,t::r=>
  wrF n (ts++(t::r).take (pcN (t::r))) ((if zbW (qw (b++pcS ((t::r).take (pcN (t::r))))) (ts++(t::r).take (pcN (t::r)))then b else b++cmtW)++pcS ((t::r).take (pcN (t::r)))) ((t::r).drop (pcN (t::r)))
def wrS(l:List zb):Str:=wrF l.length [] [] l
theorem zwC: ∀(n:Nat) (ts:List zb) (b:Str) (r:List zb),b.length≤(wrF n ts b r).length
 |0,_,_,_=>Nat.le_refl _
 |_+1,_,_,[]=>Nat.le_refl _
 |n+1,ts,b,t::r=>by
  rw[wrF]
  refine Nat.le_trans ?_ (zwC n _ _ _)
  split
  ·rw[List.length_append];omega
  ·rw[List.length_append,List.length_append];omega
def zkM(l:List zb):Prop:=(∀t∈l,zbA t=true∧t.text.length≤5000∧t.unit.length≤5000)∧ ∀k,k<l.length→okAt (l.drop k)=true
theorem zpP{l:List zb}(h:zkM l)(n:Nat):zkM (l.drop n):=by
 refine⟨fun t ht=>h.1 t (List.mem_of_mem_drop ht),fun k hk=> ?_⟩
 rw[List.length_drop]at hk
 rw[List.drop_drop]
 exact h.2 (n+k) (by omega)
theorem zrf{t:zb}{r:List zb}:1≤pcN (t::r):=by
 rw[zhm];repeat' split
 all_goals omega
theorem zzT{t:zb}{r:List zb}:pcN (t::r)≤3:=by
 rw[zhm];repeat' split
 all_goals omega
theorem zv2{t:zb}{r:List zb}(h:zkM (t::r)):pcN (t::r)≤(t::r).length∧PcT (pcS ((t::r).take (pcN (t::r)))) ((t::r).take (pcN (t::r))):=by
 obtain⟨P,Q,h1,h2,h3⟩:=zBO (fun u hu=>(h.1 u hu).1) (h.2 0 (by simp))
 have ht:(t::r).take (pcN (t::r))=P:=by rw[←h2,h1,List.take_left]
 rw[ht]
 refine⟨?_,h3⟩
 rw[←h2,h1,List.length_append];omega
theorem zBz{t:zb}(hf:zbA t=true)(h1:t.text.length≤5000)(h2:t.unit.length≤5000):(txS t).length≤20100:=by
 have hn: ∀l:Str,l.length≤5000→(Z9 l).length≤20000:=fun l hl=>by have:=zgP (l==[45]) (QD l) l;unfold Z9;omega
 cases zlZ hf with
 |cId l h0 h=>rw[ztG];have:=hn l h1;omega
 |cFn l h0 h=>rw[zp4,List.length_append];have:=hn l h1;simp only[List.length_singleton];omega
 |cAt l h0 h=>rw[ztF,List.length_cons];have:=hn l h1;omega
 |cHash l f h0 h hbb=>
  rw[zid,List.length_cons]
  have h3:=hn l h1
  have h4:=zgP false 0 l
  have h5:l.length≤5000:=h1
  cases f with
  |true=>rw[show zfx true l=Z9 l from rfl];omega
  |false=>rw[show zfx false l=encW false 0 l from rfl];omega
 |cStr l h=>rw[zkZ];have:=zgO quoB l;have h5:l.length≤5000:=h1;simp only[List.length_cons,List.length_append,List.length_nil];omega
 |cUrl l h=>rw[zmo];have:=zgO urB l;have h5:l.length≤5000:=h1;simp only[List.length_cons,List.length_append,List.length_nil];omega
 |cDel c h=>rw[zmk];simp
 |cNum n f g1 g2 hf=>rw[zmm];have:=(zwG g1 g2 (!f)).1;omega
 |cPct n g1 g2=>rw[zmn,List.length_append,List.length_singleton];have:=(zwG g1 g2 false).1;omega
 |cDim n u f g1 g2 hf h0 h=>
  rw[zml,List.length_append]
  have:=(zwG g1 g2 (!f)).1
  have h5:u.length≤5000:=h2
  have hu:(zbF u).length≤20004:=by
   cases u with
   |nil=>exact Nat.zero_le _
   |cons c r=>
    rw[zb7]
    cases zlj (c::r)with
    |true=>
     rw[cond_true,List.length_append]
     have:=zgT c
     have:=zgP false 0 r
     rw[List.length_cons]at h5;omega
    |false=>have:=hn _ h5;rw[cond_false];omega
  omega
 |cMark k g1 g2=>rw[zie g1 g2];have:=zpc k;omega
theorem zqt: ∀{l:List zb},(∀t∈l,zbA t=true∧t.text.length≤5000∧t.unit.length≤5000)→(catT l).length≤20100*l.length
 |[],_=>Nat.zero_le _
 |t::r,h=>by
  obtain⟨a,b,c⟩:=h t (List.mem_cons_self ..)
  have:=zBz a b c
  have:=zqt (l:=r) (fun u hu=>h u (List.mem_cons_of_mem _ hu))
  rw[catT,List.length_append,List.length_cons];omega
theorem zuf: ∀(l m:List zb),catT (l++m)=catT l++catT m
 |[],m=>rfl
 |t::l,m=>by rw[List.cons_append,catT,catT,zuf l m,List.append_assoc]
theorem zwS {R:Type} {step:Int×List UInt8→Option (LO (Int×List UInt8) (List UInt8) R)} {l:List zb} (hl:l.length≤3) (hf: ∀t∈l,zbA t=true∧t.text.length≤5000∧t.unit.length≤5000)
  (h1: ∀(i:Nat) (a:Str) (hi:i<l.length),step ((i:Int),a)=(zba (l[i],a)).bind fun y6=>some (LO.again (w64 ((i:Int)+1),y6)))
  (h2: ∀a,step ((l.length:Int),a)=some (.out a)):zdM step (0,[])=some (.out (catT l)):=by
 refine qN (fun z=> ∃(i:Nat),i≤l.length∧z=((i:Int),catT (l.take i))) (fun z=>l.length - z.1.toNat) _ ?_ ⟨0,by omega,rfl⟩
 rintro _ ⟨i,hi,rfl⟩
 rcases Nat.lt_or_ge i l.length with h|h
 ·obtain⟨a,b,c⟩:=hf l[i] (List.getElem_mem h)
  have hc:=zqt (l:=l.take i) (fun t ht=>hf t (List.mem_of_mem_take ht))
  rw[List.length_take]at hc
  have hc2:min i l.length≤2:=by omega
  have ht:=zx5 (acc:=catT (l.take i)) a b c (by
   have:20100*min i l.length≤20100*2:=Nat.mul_le_mul_left _ hc2
   omega)
  rw[h1 i _ h,ht,Option.bind_some]
  refine .inl ⟨_,rfl,⟨i+1,by omega,?_⟩,by simp only;rw[zV (by omega) (by omega)];omega⟩
  rw[zV (by omega) (by omega),List.take_succ_eq_append_getElem h,zuf]
  refine Prod.ext (by show(i:Int)+1=((i+1:Nat):Int);omega) ?_
  show _=catT (l.take i)++(txS l[i]++[])
  rw[List.append_nil]
 ·have:i=l.length:=by omega
  subst this
  exact .inr (.inl ⟨_,h2 _,by rw[List.take_length]⟩)
def stO(x:List zb×Str):zx:=⟨(x.1.length:Int),(x.2.length:Int)⟩
theorem zwA{b s A B:Str}{ts L us P:List zb}{m:Nat}(h:b=B++A∧A≠[]∧ts=L++us∧us≠[]∧ ∃R,run b L R∧Lk R A∧4≤R.length∧4≤A.length):zbW (qw (A++s)) (us++P)=zbW (qw (b++s)) (ts++P):=by
 obtain⟨h1,h2,h3,h4,R,h5,h6,h7,h7'⟩:=h
 have h8:=zfp (zv7 s h5 h7)
 have hlk:Lk (R++s) (A++s):=by
  refine zyC h6 h2 ?_
  rcases h6 with h6|⟨d,y,_,rfl,_⟩
  ·cases A with
   |nil=>exact absurd rfl h2
   |cons c t=>
    cases t with
    |cons d u=>rw[znE,←h6];exact zjN R
    |nil=>simp at h7'
  ·rfl
 rw[zu8 hlk]at h8
 rw[h8,h3,Bool.eq_iff_iff,za0,za0,List.append_assoc,List.append_cancel_left_eq]
end Go.Lv.VT

namespace Go.Lv.VT
set_option maxRecDepth 100000
theorem zm1{x:List zb}(h:gluS x=0):x.length≤1500∧(∀t∈x,zbA t=true)∧ ∀k,k<x.length→okAt (x.drop k)=true:=by
 unfold gluS at h
 cases hl:decide (x.length≤1500)with
 |false=>rw[hl]at h;cases h
 |true=>
  rw[hl,cond_true]at h
  cases ha:(List.range x.length).all (znq x)with
  |false=>rw[ha]at h;cases h
  |true=>
   rw[List.all_eq_true]at ha
   have key: ∀k,k<x.length→zbA (x.getD k default)=true∧okAt (x.drop k)=true:=by
    intro k hk
    have:=ha k (List.mem_range.2 hk)
    unfold znq at this
    rw[Bool.and_eq_true]at this
    exact this
   refine⟨of_decide_eq_true hl,fun t ht=> ?_,fun k hk=>(key k hk).2⟩
   obtain⟨k,hk,rfl⟩:=List.mem_iff_getElem.1 ht
   have:=(key k hk).1
   rwa [List.getD_eq_getElem?_getD,List.getElem?_eq_getElem hk]at this
theorem zAz{t:zb}{r:List zb}:(bif t.kind==9 then((pcN (t::r):Nat):Int)==2 else false)=(t.kind==9&&t.text==[92]):=by
 cases hk:t.kind==9 with
 |false=>rfl
 |true=>
  have hu:zdd t=false:=by unfold zdd;rw[beq_iff_eq.1 hk];rfl
  rw[zhm,hk,cond_true,hu]
  cases t.text==[92]<;>rfl
theorem zxP{t:zb}{r:List zb}:pcS ((t::r).take (pcN (t::r)))=bif (t.kind==9&&t.text==[92])then [92,10]else catT ((t::r).take (pcN (t::r))):=by
 obtain⟨k,hk⟩: ∃k,pcN (t::r)=k+1:=⟨pcN (t::r) - 1,by have:=zrf (t:=t) (r:=r);omega⟩
 rw[hk,List.take_succ_cons,pcS]
 cases t.kind==9&&t.text==[92]<;>rfl
theorem zsI{n:Nat}{ts:List zb}{b:Str}{t:zb}{r:List zb}{s:Str}{P:List zb}(hP:(t::r).take (pcN (t::r))=P)(hs:pcS P=s):
  wrF (n+1) ts b (t::r)=wrF n (ts++P) ((if zbW (qw (b++s)) (ts++P)then b else b++cmtW)++s) ((t::r).drop (pcN (t::r))):=by
 subst hs hP
 rw[wrF]
theorem ap16{n:Nat}(h:n≤99999):Ze n 1 16=true:=zmA (by omega) (by omega)
theorem zyr{n m:Nat}(h:n+m≤200000):Ze n m 1=true:=by
 unfold Ze
 exact decide_eq_true (by omega)
theorem zzo{R:Type}{i:Int}{b:Str}{ts:List zb}{st:List (List zb×Str)}(h:zAv b ts st)(hst:st.length≤100000): ∃L B A us,
  (bif decide (w64 (((st.map stO).length:Int) - 4)≥0)then
        need (decide (0≤w64 (((st.map stO).length:Int) - 4))&&decide (w64 (((st.map stO).length:Int) - 4)<((st.map stO).length:Int)))<|
        ((st.map stO)[(w64 (((st.map stO).length:Int) - 4)).toNat]?).bind fun y10=>
        some (LX.out (i,b,st.map stO,y10))
       else
        some (LX.out (i,b,st.map stO,(⟨0,0⟩:zx))))=(some (LX.out (i,b,st.map stO,stO (L,B))):Option (LX (Int×List UInt8×List zx×zx) R))∧
  b=B++A∧ts=L++us∧ ∀s P,zbW (qw (A++s)) (us++P)=zbW (qw (b++s)) (ts++P):=by
 rw[List.length_map]
 by_cases h4:4≤st.length
 ·obtain⟨A,R,us,h1,h2,h3,h4',h5,h6,h7,h8⟩:=h.bd (st.length - 4) (by omega)
  refine⟨st[st.length - 4].1,st[st.length - 4].2,A,us,?_,h1,h3,fun s P=>zwA (m:=0) ⟨h1,h2,h3,h4',R,h5,h6,by omega,by omega⟩⟩
  rw[zV (by omega) (by omega),decide_eq_true (by omega),cond_true,decide_eq_true (by omega),Bool.and_self,ZR,show((st.length:Int) - 4).toNat=st.length - 4 by omega,List.getElem?_map,List.getElem?_eq_getElem (by omega)]
  rfl
 ·refine⟨[],[],b,ts,?_,rfl,rfl,fun s P=>rfl⟩
  rw[zV (by omega) (by omega),decide_eq_false (by omega),cond_false]
  rfl
theorem zry{x:List zb}(hx: ∀t∈x,t.text.length≤5000∧t.unit.length≤5000):
  zay x=some (if gluS x=0 then(if 4000<(wrS x).length then([],28)else(wrS x,0))else([],gluS x)):=by
 unfold zay
 have hbig:big=4194304:=rfl
 rw[zm2 (fun t ht=>by have:=hx t ht;omega)]
 simp only[ze,Option.bind_some]
 by_cases hg:gluS x=0
 ·rw[if_pos hg,hg,show((0:Int) != 0)=false from rfl,cond_false]
  obtain⟨hlen,hfine,hok⟩:=zm1 hg
  have hrest:zkM x:=⟨fun t ht=>⟨hfine t ht,hx t ht⟩,hok⟩
  refine zha (fun z=> ∃(i:Nat) (b:Str) (st:List (List zb×Str)) (n:Nat),z=((i:Int),b,st.map stO)∧i≤x.length∧Syn b (x.take i) st∧b.length≤4000∧x.length - i≤n∧wrF n (x.take i) b (x.drop i)=wrS x∧st.length≤i) (fun z=>x.length - z.1.toNat) _ ?_
   ⟨0,[],[],x.length,rfl,Nat.zero_le _, .nil,Nat.zero_le _,Nat.le_refl _,rfl,Nat.le_refl _⟩
  rintro _ ⟨i,b,st,n,rfl,hi,hsyn,hbl,hn,hW,hst⟩
  simp only
  rcases Nat.lt_or_ge i x.length with h|h
  ·have hro:=zpP hrest i
   have hdr:x.drop i=x[i]::x.drop (i+1):=List.drop_eq_getElem_cons h
   obtain⟨t,ht⟩: ∃t,t=x[i]:=⟨_,rfl⟩
   obtain⟨r,hr⟩: ∃r,r=x.drop (i+1):=⟨_,rfl⟩
   rw[←ht,←hr]at hdr
   rw[hdr]at hro hW
   have hlr:(t::r).length=x.length - i:=by rw[←hdr,List.length_drop]
   obtain⟨hk1,hpc⟩:=zv2 hro
   have hk0:=zrf (t:=t) (r:=r)
   have hk3:=zzT (t:=t) (r:=r)
   obtain⟨k,hk⟩: ∃k,pcN (t::r)=k:=⟨_,rfl⟩
   obtain⟨P,hP⟩: ∃P,(t::r).take k=P:=⟨_,rfl⟩
   obtain⟨s,hs⟩: ∃s,pcS P=s:=⟨_,rfl⟩
   have hst':=zxP (t:=t) (r:=r)
   have hstep:=fun m=>zsI (n:=m) (ts:=x.take i) (b:=b) (t:=t) (r:=r) (s:=s) (P:=P) (by rw[hk];exact hP) hs
   have e3:Qs (List.drop i x)=some ((k:Nat):Int):=by
    rw[hdr,←hk]
    exact zvN (by have:=(hro.1 t (List.mem_cons_self ..)).2.1;omega) (hro.2 0 (by simp))
   have hb2:=zAz (t:=t) (r:=r)
   rw[hk]at hk0 hk1 hk3 hpc hst' hb2 hstep
   rw[hP]at hpc hst'
   rw[hs]at hpc hst'
   rw[hlr]at hk1
   have e1:decide ((i:Int)<(x.length:Int))=true:=decide_eq_true (by omega)
   have e2:(decide ((0:Int)≤(i:Int))&&decide ((i:Int)≤(x.length:Int)))=true:=by rw[decide_eq_true (by omega),decide_eq_true (by omega)];rfl
   have e4:w64 ((i:Int)+((k:Nat):Int))=((i+k:Nat):Int):=by rw[zV (by omega) (by omega)];omega
   have e5:(decide ((0:Int)≤(i:Int))&&(decide ((i:Int)≤((i+k:Nat):Int))&&decide (((i+k:Nat):Int)≤(x.length:Int))))=true:=by rw[decide_eq_true (by omega),decide_eq_true (by omega),decide_eq_true (by omega)];rfl
   have e6:geti x (i:Int)=some t:=by rw[zbB h,ht]
   have e7:List.drop i (List.take (i+k) x)=P:=by rw[List.drop_take,hdr,show i+k - i=k by omega,hP]
   simp only[e1,e2,e3,e4,e5,e6,cond_true,ZR,Option.bind_some,Int.toNat_natCast,e7]
   have hPl:P.length≤3:=by rw[←hP,List.length_take];omega
   have hPf: ∀u∈P,zbA u=true∧u.text.length≤5000∧u.unit.length≤5000:=fun u hu=>hro.1 u (by rw[←hP]at hu;exact List.mem_of_mem_take hu)
   have hsl:s.length≤60400:=by
    have:=zqt hPf
    rw[hst']
    cases t.kind==9&&t.text==[92]with
    |true=>rw[cond_true];simp
    |false=>rw[cond_false];have:20100*P.length≤20100*3:=Nat.mul_le_mul_left _ hPl;omega
   rw[qO (zwS (l:=P) hPl hPf (fun j a hj=> ?_) (fun a=> ?_))]
   ·rw[hb2]
    have hj9:(bif (t.kind==9&&t.text==[92])then some (LX.out ((i:Int),b,st.map stO,[(92:UInt8),(10:UInt8)]))else some (LX.out ((i:Int),b,st.map stO,catT P)))=(some (LX.out ((i:Int),b,st.map stO,s)):Option (LX (Int×List UInt8×List zx×List UInt8) (LO (Int×List UInt8×List zx) (List UInt8) (Str×Int)))):=by
     rw[hst'];cases t.kind==9&&t.text==[92]<;>rfl
    rw[hj9,zg]
    simp only
    have hsok:=zwe hsyn
    obtain⟨L,B,A,us,hfrom,hbA,hts,hwin⟩:=zzo (R:=LO (Int×List UInt8×List zx) (List UInt8) (Str×Int)) (i:=(i:Int)) hsok (by omega)
    rw[hfrom,zg]
    have hBl:B.length≤b.length:=by rw[hbA,List.length_append];omega
    have hAl:A.length≤b.length:=by rw[hbA,List.length_append];omega
    have f1:(decide ((0:Int)≤(stO (L,B)).at_)&&decide ((stO (L,B)).at_≤(b.length:Int)))=true:=by
     show(decide ((0:Int)≤(B.length:Int))&&decide ((B.length:Int)≤(b.length:Int)))=true
     rw[decide_eq_true (by omega),decide_eq_true (by omega)];rfl
    have f2:(stO (L,B)).at_.toNat=B.length:=Int.toNat_natCast _
    have f3:decide (B.length+(b.length - B.length)≤b.length)=true:=decide_eq_true (by omega)
    have f4:List.take (b.length - B.length) (List.drop B.length b)=A:=by
     rw[hbA,List.drop_left,List.length_append,show B.length+A.length - B.length=A.length by omega,List.take_length]
    have f5:zbY A.length s.length=true:=ze3.2 (by omega)
    simp only[f1,f2,f3,f4,f5,ZR,zoc,Option.bind_some,e4,Int.toNat_natCast]
    have htl:(stO (L,B)).token=(L.length:Int):=rfl
    have hLl:L.length≤i:=by
     have:=congrArg List.length hts
     rw[List.length_take,List.length_append]at this;omega
    have htk:List.drop L.length (List.take (i+k) x)=us++P:=by
     have:List.take (i+k) x=L++(us++P):=by
      rw[List.take_add,hdr,hP,hts,List.append_assoc]
     rw[this,List.drop_left]
    have hPlen:P.length=k:=by rw[←hP,List.length_take];omega
    have husP:(us++P).length≤1500:=by
     have h1:=congrArg List.length hts
     rw[List.length_take,List.length_append]at h1
     rw[List.length_append,hPlen];omega
    have hcl:clB (A++s)=true:=by
     have h1:=zyv hsyn
     rw[hbA,qZ,Bool.and_eq_true]at h1
     rw[qZ,h1.2,zy6 hpc];rfl
    obtain⟨c,hc⟩: ∃c,c=zbW (qw (b++s)) (x.take i++P):=⟨_,rfl⟩
    have hwinc:zbW (qw (A++s)) (us++P)=c:=by rw[hc];exact hwin s P
    obtain⟨c',hc'⟩: ∃c',c'=(decide ((A++s).length≤4000)&&c):=⟨_,rfl⟩
    have hneed:(decide ((0:Int)≤(stO (L,B)).token)&&(decide ((stO (L,B)).token≤((i+k:Nat):Int))&&decide (((i+k:Nat):Int)≤(x.length:Int))))=true:=by
     rw[htl,decide_eq_true (by omega),decide_eq_true (by omega),decide_eq_true (by omega)];rfl
    have hcat: ∀(E:Option (LX (Int×List zx×List UInt8) (LO (Int×List UInt8×List zx) (List UInt8) (Str×Int)))),
      E=(need (decide ((0:Int)≤(stO (L,B)).token)&&(decide ((stO (L,B)).token≤((i+k:Nat):Int))&&decide (((i+k:Nat):Int)≤(x.length:Int)))|| !(!((zd1 (A++s)).2 != 0)))<|
       (zn (!((zd1 (A++s)).2 != 0)) (ZX ((zd1 (A++s)).1,List.drop (stO (L,B)).token.toNat (List.take (i+k) x))) (default:Bool)).bind fun y13=>
       bif bif (zd1 (A++s)).2 != 0 then true else !y13 then
        need (Ze b.length ([47,42,42,47]:Str).length 1)<|
        some (LX.out ((i:Int),st.map stO,b++([47,42,42,47]:Str)))
       else
        some (LX.out ((i:Int),st.map stO,b)))→E=some (LX.out ((i:Int),st.map stO,if c' then b else b++cmtW)):=by
     rintro E rfl
     rw[hneed,Bool.true_or,ZR,show(stO (L,B)).token.toNat=L.length from Int.toNat_natCast _,htk]
     have happ:Ze b.length ([47,42,42,47]:Str).length 1=true:=zyr (by show b.length+4≤_;omega)
     unfold zd1
     by_cases hlong:4000<(A++s).length
     ·rw[if_pos hlong]
      have:c'=false:=by rw[hc',decide_eq_false (by omega)];rfl
      rw[this]
      simp only[show((28:Int) != 0)=true from rfl,Bool.not_true,Zu,Option.bind_some,cond_true,happ,ZR]
      rfl
     ·rw[if_neg hlong,zmP _ hcl]
      have hcc:c'=c:=by rw[hc',decide_eq_true (by omega)];rfl
      by_cases hmany:1500<(qw (A++s)).length
      ·rw[if_pos hmany]
       have:c'=false:=by rw[hcc,←hwinc];exact zkR (by omega)
       rw[this]
       simp only[show((4:Int) != 0)=true from rfl,Bool.not_true,Zu,Option.bind_some,cond_true,happ,ZR]
       rfl
      ·rw[if_neg hmany]
       simp only[show((0:Int) != 0)=false from rfl,Bool.not_false,zT,cond_false,zw7 (show(qw (A++s)).length≤big by omega),hwinc,Option.bind_some,happ,ZR]
       rw[hcc]
       cases c<;>rfl
    rw[hcat _ rfl,zg]
    simp only
    obtain⟨m,hm⟩: ∃m,n=m+1:=⟨n - 1,by omega⟩
    subst hm
    rw[hstep m,←hc]at hW
    have hWl:=zwC m (x.take i++P) ((if c then b else b++cmtW)++s) ((t::r).drop k)
    rw[hW]at hWl
    have hcw:cmtW.length=4:=rfl
    have hb1:(if c' then b else b++cmtW).length≤4004:=by
     split
     ·omega
     ·rw[List.length_append];omega
    rw[zw (ap16 (by rw[List.length_map];omega)),zw (zyr (by omega))]
    have hbs:b.length+s.length≤(wrS x).length:=by
     refine Nat.le_trans ?_ hWl
     rw[List.length_append]
     split
     ·omega
     ·rw[List.length_append];omega
    by_cases hbig2:4000<((if c' then b else b++cmtW)++s).length
    ·rw[decide_eq_true (by omega),cond_true]
     refine .inr (.inr ?_)
     have:4000<(wrS x).length:=by
      by_cases hcc:c'=c
      ·rw[hcc]at hbig2;omega
      ·have: ¬(A++s).length≤4000:=by
        intro hle
        rw[hc',decide_eq_true hle]at hcc
        exact hcc rfl
       rw[List.length_append]at this
       omega
     rw[if_pos this]
    ·rw[decide_eq_false (by omega),cond_false]
     have hcc:c'=c:=by
      have:(A++s).length≤4000:=by
       rw[List.length_append]at hbig2 ⊢
       have:b.length≤(if c' then b else b++cmtW).length:=by
        split
        ·exact Nat.le_refl _
        ·rw[List.length_append];omega
       omega
      rw[hc',decide_eq_true this];rfl
     rw[hcc]at hbig2 ⊢
     have hxt:x.take (i+k)=x.take i++P:=by rw[List.take_add,hdr,hP]
     refine .inl ⟨_,rfl,⟨i+k,(if c then b else b++cmtW)++s,st++[(x.take i,if c then b else b++cmtW)],m,?_,by omega,?_,by omega,by omega,?_,?_⟩,?_⟩
     ·refine Prod.ext e4 (Prod.ext rfl ?_)
      rw[List.map_append]
      show st.map stO++[_]=st.map stO++[stO (x.take i,if c then b else b++cmtW)]
      unfold stO
      simp only[List.length_take,show min i x.length=i by omega]
     ·rw[hxt]
      cases hcb:c with
      |true=>
       rw[if_pos rfl]
       exact .no b s _ P st hsyn hpc (za0.1 (by rw[←hc,hcb]))
      |false=>
       rw[if_neg (by decide)]
       refine .cmt b s _ P st hsyn ?_ hpc
       rintro rfl
       have h0:=hsok.tok
       rw[Q0 (ZQ rfl)]at h0
       rw[←h0,List.nil_append,List.nil_append,zrg hpc]at hc
       rw[hcb,za0.2 rfl]at hc
       cases hc
     ·rw[hxt,←hW,←List.drop_drop,hdr]
     ·rw[List.length_append,List.length_singleton];omega
     ·simp only
      rw[e4];omega
   ·have d1:decide ((j:Int)<(P.length:Int))=true:=decide_eq_true (by omega)
    simp only[d1,cond_true,zbB hj,Option.bind_some]
   ·simp only
    rw[decide_eq_false (by omega),cond_false]
  ·have:i=x.length:=by omega
   subst this
   have e1:decide ((x.length:Int)<(x.length:Int))=false:=decide_eq_false (by omega)
   simp only[e1,cond_false]
   refine .inr (.inl ⟨_,rfl,?_⟩)
   rw[List.drop_eq_nil_of_le (Nat.le_refl _)]at hW
   have hWb:b=wrS x:=by
    cases n with
    |zero=>rw[wrF]at hW;exact hW
    |succ n=>rw[wrF]at hW;exact hW
   rw[←hWb,if_neg (by omega)]
 ·rw[if_neg hg]
  have:(gluS x != 0)=true:=by rw[bne_iff_ne];exact hg
  rw[this,cond_true]
end Go.Lv.VT

namespace Go.Lv.VT
set_option maxRecDepth 100000
theorem zdu{w:Str}{l:List zb}(h:(l.all fun t=>decide (t.text.length≤5000)&&decide (t.unit.length≤5000))=true)(hg:gluS l=0)(hw:wrS l=w)(hn:w.length≤4000):qa (w,l)=some true:=by
 unfold qa
 have hx: ∀t∈l,t.text.length≤5000∧t.unit.length≤5000:=fun t ht=>by
  have:=List.all_eq_true.1 h t ht
  rw[Bool.and_eq_true,decide_eq_true_eq,decide_eq_true_eq]at this
  exact this
 simp only[ze]
 rw[zry hx,if_pos hg,hw,if_neg (by omega)]
 simp only[Option.bind_some,beq_self_eq_true,cond_true]
theorem ziV:zar ()=some true:=by
 unfold zar zas
 simp only[ze,Option.bind_some]
 rw[zdu (by decide+kernel) (by decide+kernel) (by decide+kernel) (by decide)]
 simp only[Option.bind_some,zT,cond_true]
 rw[zdu (by decide+kernel) (by decide+kernel) (by decide+kernel) (by decide)]
 simp only[Option.bind_some,zT,cond_true]
 rw[zdu (by decide+kernel) (by decide+kernel) (by decide+kernel) (by decide)]
 simp only[Option.bind_some,zT,cond_true]
 rw[zdu (by decide+kernel) (by decide+kernel) (by decide+kernel) (by decide)]
 simp only[Option.bind_some,zT,cond_true]
 rw[zdu (by decide+kernel) (by decide+kernel) (by decide+kernel) (by decide)]
 simp only[Option.bind_some,zT,cond_true]
 rw[zdu (by decide+kernel) (by decide+kernel) (by decide+kernel) (by decide)]
 simp only[Option.bind_some,zT,cond_true]
end Go.Lv.VT

namespace Go.Lv.VT
set_option maxRecDepth 100000
theorem zwD: ∀(n:Nat) {ts r:List zb} {b:Str} {st:List (List zb×Str)},zkM r→Syn b ts st→r.length≤n→ ∃st',Syn (wrF n ts b r) (ts++r) st'
 |0,ts,r,b,st,_,hs,hn=>by
  have:r=[]:=List.length_eq_zero_iff.1 (by omega)
  subst this
  rw[wrF,List.append_nil]
  exact⟨st,hs⟩
 |n+1,ts,[],b,st,_,hs,_=>by
  rw[wrF,List.append_nil]
  exact⟨st,hs⟩
 |n+1,ts,t::r,b,st,hr,hs,hn=>by
  obtain⟨hk,hpc⟩:=zv2 hr
  have hk0:=zrf (t:=t) (r:=r)
  rw[zsI rfl rfl]
  have hd:(t::r)=(t::r).take (pcN (t::r))++(t::r).drop (pcN (t::r)):=(List.take_append_drop _ _).symm
  have hl:((t::r).drop (pcN (t::r))).length≤n:=by rw[List.length_drop];omega
  have hro:=zpP hr (pcN (t::r))
  generalize (t::r).take (pcN (t::r))=P at*
  generalize (t::r).drop (pcN (t::r))=Q at*
  cases hc:zbW (qw (b++pcS P)) (ts++P)with
  |true=>
   rw[if_pos rfl]
   obtain⟨st',h'⟩:=zwD n hro (.no b (pcS P) ts P st hs hpc (za0.1 hc)) hl
   exact⟨st',by rw[hd,←List.append_assoc];exact h'⟩
  |false=>
   rw[if_neg (by decide)]
   have hb:b≠[]:=by
    rintro rfl
    have h0:=(zwe hs).tok
    rw[Q0 (ZQ rfl)]at h0
    rw[←h0,List.nil_append,List.nil_append,zrg hpc,za0.2 rfl]at hc
    cases hc
   obtain⟨st',h'⟩:=zwD n hro (.cmt b (pcS P) ts P st hs hb hpc) hl
   exact⟨st',by rw[hd,←List.append_assoc];exact h'⟩
theorem ztX{x:List zb}(h:zkM x):qw (wrS x)=x∧clB (wrS x)=true:=by
 obtain⟨st,hs⟩:=zwD x.length h .nil (Nat.le_refl _)
 rw[List.nil_append]at hs
 exact⟨(zwe hs).tok,zyv hs⟩
theorem ztm {S X R:Type} {step:S→Option (LO S X R)} {k:X→Option R} (Inv:S→Prop) (μ:S→Nat) (Q:R→Prop)
  (h: ∀s,Inv s→(∃s',step s=some (.again s')∧Inv s'∧μ s'<μ s)∨(∃x y,step s=some (.out x)∧k x=some y∧Q y)∨(∃y,step s=some (.ret y)∧Q y)) {s:S} (hs:Inv s): ∃y,ZF step s k=some y∧Q y:=by
 have key: ∀(m:Nat) (s:S),μ s<m→Inv s→ ∃(r:LX X R) (y:R),Q6 step m s=some r∧r.go k=some y∧Q y:=by
  intro m
  induction m with
  |zero=>intro s h;omega
  |succ m ih=>
   intro s hm hs
   simp only[Q6]
   rcases h s hs with⟨s',h1,h2,h3⟩|⟨x,y,h1,h2,h3⟩|⟨y,h1,h2⟩
   ·rw[h1];exact ih s' (by omega) h2
   ·rw[h1];exact⟨_,y,rfl,h2,h3⟩
   ·rw[h1];exact⟨_,y,rfl,rfl,h2⟩
 obtain⟨r,y,h1,h2,h3⟩:=key (μ s+1) s (by omega) hs
 exact⟨y,by rw[zdO (zdN h1)];exact h2,h3⟩
def zlC(x:List zb)(n:Nat):Prop:= ∀t∈x,t.text.length+t.unit.length≤n
theorem zxg{x:List zb}(h:zlC x 1000000000)(hl:x.length≤big): ∃g,zcu x=some g∧(g=false→zlC x 1000∧x.length≤1510):=by
 have hbig:big=4194304:=rfl
 unfold zcu
 by_cases h1:(x.length>100∧x.length≤1500)∨x.length>1510
 ·have:(bif bif decide ((x.length:Int)>100)then decide ((x.length:Int)≤1500)else false then true else decide ((x.length:Int)>1510))=true:=by
   rcases h1 with⟨a,b⟩|a
   ·rw[decide_eq_true (by omega),decide_eq_true (show(x.length:Int)≤1500 by omega)];rfl
   ·rw[decide_eq_true (show(x.length:Int)>1510 by omega)]
    cases (bif decide ((x.length:Int)>100)then decide ((x.length:Int)≤1500)else false)<;>rfl
  rw[this,cond_true]
  exact⟨true,rfl,fun e=>by cases e⟩
 ·have:(bif bif decide ((x.length:Int)>100)then decide ((x.length:Int)≤1500)else false then true else decide ((x.length:Int)>1510))=false:=by
   rw[decide_eq_false (show¬(x.length:Int)>1510 by omega)]
   by_cases a:x.length>100
   ·rw[decide_eq_false (show¬(x.length:Int)≤1500 by omega)]
    cases decide ((x.length:Int)>100)<;>rfl
   ·rw[decide_eq_false (show¬(x.length:Int)>100 by omega)];rfl
  rw[this,cond_false]
  refine ztm (fun s=> ∃(i n:Nat),s=((n:Int),(i:Int))∧i≤x.length∧n≤1000∧zlC (x.take i) 1000) (fun s=>x.length - s.2.toNat) (fun g=>g=false→zlC x 1000∧x.length≤1510) ?_ ⟨0,0,rfl,by omega,by omega,fun t ht=>by cases ht⟩
  rintro _ ⟨i,n,rfl,hi,hn,hlt⟩
  simp only[ze]
  rcases Nat.lt_or_ge i x.length with hh|hh
  ·have hb:=h x[i] (List.getElem_mem hh)
   have e1:decide ((i:Int)<(x.length:Int))=true:=decide_eq_true (by omega)
   have e2:w64 ((n:Int)+w64 ((x[i].text.length:Int)+(x[i].unit.length:Int)))=((n+(x[i].text.length+x[i].unit.length):Nat):Int):=by
    rw[zV (n:=(x[i].text.length:Int)+(x[i].unit.length:Int)) (by omega) (by omega),zV (by omega) (by omega)];omega
   simp only[e1,cond_true,zbB hh,Option.bind_some,e2]
   by_cases hbig2:n+(x[i].text.length+x[i].unit.length)>1000
   ·rw[decide_eq_true (by omega),cond_true]
    exact .inr (.inr ⟨true,rfl,fun e=>by cases e⟩)
   ·rw[decide_eq_false (by omega),cond_false]
    refine .inl ⟨_,rfl,⟨i+1,n+(x[i].text.length+x[i].unit.length),by rw[zV (by omega) (by omega)];rfl,by omega,by omega,?_⟩,by simp only;rw[zV (by omega) (by omega)];omega⟩
    rw[List.take_succ_eq_append_getElem hh]
    intro t ht
    rcases List.mem_append.1 ht with ht|ht
    ·exact hlt t ht
    ·rw[List.mem_singleton]at ht
     subst ht;omega
  ·have:i=x.length:=by omega
   subst this
   have e1:decide ((x.length:Int)<(x.length:Int))=false:=decide_eq_false (by omega)
   simp only[e1,cond_false]
   rw[List.take_length]at hlt
   exact .inr (.inl ⟨(),false,(by first|rfl|trivial),rfl,fun _=>⟨hlt,by omega⟩⟩)
theorem rest_of{x:List zb}(hg:gluS x=0)(h:zlC x 1000):zkM x:=by
 obtain⟨_,h1,h2⟩:=zm1 hg
 exact⟨fun t ht=>⟨h1 t ht,by have:=h t ht;omega,by have:=h t ht;omega⟩,h2⟩
theorem zqp{x:List zb}(hg:gluS x=0)(h:zlC x 1000)(hl:(wrS x).length≤4000):zd1 (wrS x)=(x,0):=by
 obtain⟨h1,h2⟩:=ztX (rest_of hg h)
 have h3:=(zm1 hg).1
 unfold zd1
 rw[if_neg (by omega),zmP _ h2,h1,if_neg (by omega)]
theorem zyl{x:List zb}(hg:gluS x=0)(h:zlC x 1000):zay x=some (if 4000<(wrS x).length then([],28)else(wrS x,0)):=by
 rw[zry (fun t ht=>by have:=h t ht;omega),if_pos hg]
theorem zAf{x:List zb}{n:Nat}(h:zlC x n)(hn:n≤big): ∀t∈x,t.text.length≤big∧t.unit.length≤big:=fun t ht=>by have:=h t ht;omega
theorem zqg{x:List zb}(h:zlC x big)(hl:x.length≤big):zbl x=some true:=by
 have hbig:big=4194304:=rfl
 unfold zbl
 obtain⟨g,hg1,hg2⟩:=zxg (fun t ht=>by have:=h t ht;omega) hl
 simp only[ze,hg1,Option.bind_some]
 cases g with
 |true=>
  simp only[Bool.not_true,Zu,Option.bind_some,cond_true,ziV]
 |false=>
  have h1:=(hg2 rfl).1
  simp only[Bool.not_false,zT,zlz (zAf h (Nat.le_refl _)),Option.bind_some,cond_false]
  by_cases hz:gluS x=0
  ·rw[hz,show((0:Int) != 0)=false from rfl,cond_false,zyl hz h1]
   simp only[Option.bind_some]
   by_cases hlong:4000<(wrS x).length
   ·rw[if_pos hlong]
    simp only[show((28:Int) != 0)=true from rfl,show((28:Int)==28)=true from rfl,cond_true,zT,ziV,Option.bind_some]
   ·rw[if_neg hlong]
    simp only[show((0:Int) != 0)=false from rfl,cond_false,zoc,zqp hz h1 (by omega),Option.bind_some,show((0:Int)==0)=true from rfl,zT,same_eq hl,za0.2 (rfl:x=x),cond_true,
     decide_eq_true (show((wrS x).length:Int)≤4000 by omega),ziV]
  ·have:(gluS x != 0)=true:=by rw[bne_iff_ne];exact hz
   rw[this,cond_true]
   simp only[ziV,Option.bind_some]
end Go.Lv.VT
