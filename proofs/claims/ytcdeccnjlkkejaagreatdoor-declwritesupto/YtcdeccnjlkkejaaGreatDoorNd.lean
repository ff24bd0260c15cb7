/- Pieces: what is written at once; how they begin. -/
import Derived.Test.YtcdeccnjlkkejaaGreatDoorNc
import Derived.Test.YtcdeccnjlkkejaaGreatDoorNam
set_option linter.unusedSimpArgs false
set_option linter.unusedVariables false
namespace Go.Lv.VT
set_option maxRecDepth 100000
abbrev tkSp:ze:=⟨13,[],0,[],false⟩
inductive PcT:Str->List ze->Prop
 |one (t:ze) (h:zgg t) (hb: ¬(t.kind=9/\t.text=[92])) (hu:rf t=false):PcT (txS t) [t]
 |back:PcT [92,10] [⟨9,[92],0,[],false⟩,tkSp]
 |url (l m:Str) (s:Bool) (h:Zm l=true) (hl:lowS l=[117,114,108]) (hm:Zm m=true):
   PcT (Zx l++40::((if s then [32]else [])++34::(encB quoB m++[34]))) (⟨2,l,0,[],false⟩::((if s then [tkSp]else [])++[⟨5,m,0,[],false⟩]))
theorem DL{l:Str}(h:lowS l=[117,114,108]): ∃a r,l=a::r/\(a=117\/a=85):=by
 cases l with
 |nil=>cases h
 |cons a r=>
  have h1:Ti a=117:=by unfold lowS at h;rw[Uc]at h;injection h
  have: ∀n:Nat,n<256->Ti (UInt8.ofNat n)=117->UInt8.ofNat n=117\/UInt8.ofNat n=85:=by decide+kernel
  have:=this a.toNat (Bb a);simp_all
theorem Mx{l:Str}(a:l≠[])(z:Str):nmS (Zx l++40::z)=true:=UK (sj a) (by show(40:UInt8)≠10;decide)
theorem Xp{k:Int}(a:13<=k)(h2:k<=24):k=13\/k=14\/k=15\/k=16\/k=17\/k=18\/k=19\/k=20\/k=21\/k=22\/k=23\/k=24:=by omega
theorem Sz{s:Str}{P:List ze}(h:PcT s P):nmS s=true\/(∃n p U t,P=[t]/\s=numT n p++U/\t.num=n/\(U=[]/\t.kind=10\/U=[37]\/ ∃u,u≠[]/\Zm u=true/\U=Vf u))\/
  (∃c r,s=c::r/\(c=64\/c=35\/c=34)/\nbS s=false)\/(∃c,s=[c]/\Dh c.toNat=true)\/(∃k,13<=k/\k<=24/\s=Vk k)\/s=[92,10]:=by
 cases h with
 |one t h q v=>
  cases h with
  |cId l b h=>left;rw[Am];exact sj b
  |cFn l b h=>left;rw[Lj];exact Mx b []
  |cAt l b h=>right;right;left;rw[Cm];exact⟨64,_,rfl, .inl rfl,rfl⟩
  |cHash l f b h j=>right;right;left;rw[Ym];exact⟨35,_,rfl, .inr (.inl rfl),rfl⟩
  |cStr l h=>right;right;left;rw[Yk];exact⟨34,_,rfl, .inr (.inr rfl),rfl⟩
  |cUrl l h=>left;rw[Km];rfl
  |cDel c h=>right;right;right;left;rw[Pm];grind
  |cNum n f d e g=>right;left;exact⟨n, !f,[],_,rfl,by rw[Mm,ja],rfl, .inl ⟨rfl,rfl⟩⟩
  |cPct n d e=>right;left;exact⟨n,false,[37],_,rfl,Lm n,rfl, .inr (.inl rfl)⟩
  |cDim n u f d e g b h=>right;left;exact⟨n, !f,Vf u,_,rfl,Om n u f,rfl, .inr (.inr ⟨u,b,h,rfl⟩)⟩
  |cMark k d e=>right;right;right;right;left;exact⟨k,d,e,Xm d e⟩
 |back=>grind
 |url l m s h i o=> left;obtain⟨a,r,rfl,_⟩:=DL i;exact Mx (by simp) _
theorem uF(c:UInt8)(h:Dh c.toNat=true):spB c=false/\nbS [c]=false/\c≠101/\c≠69:=by
 have: ∀n:Nat,n<256->Dh (UInt8.ofNat n).toNat=true->spB (UInt8.ofNat n)=false/\nbS [UInt8.ofNat n]=false/\UInt8.ofNat n≠101/\UInt8.ofNat n≠69:=by decide+kernel
 have:=this c.toNat (Bb c);simp_all
theorem xW{s:Str}(h:digB (atS (unsign s) 0)=true):nbS s=true:=by
 unfold nbS undot;have:(atS (unsign s) 0==46)=false:=Ha.2 (Qt h).2.2.1
 grind
theorem jw{s:Str}{P:List ze}(h:PcT s P)(d:digB (atS (unsign s) 0)=true): ∃n p U t,P=[t]/\s=numT n p++U/\t.num=n/\(U=[]/\t.kind=10\/U=[37]\/ ∃u,u≠[]/\Zm u=true/\U=Vf u):=by
 have a:=xW d;rcases Sz h with h|h|⟨c,r,e,_,h⟩|⟨c,rfl,f⟩|⟨k,b,g,rfl⟩|rfl
 ·rw[FU h]at a;cases a
 ·exact h
 ·grind
 ·rw[(uF c f).2.1]at a;cases a
 ·rcases Xp b g with rfl|rfl|rfl|rfl|rfl|rfl|rfl|rfl|rfl|rfl|rfl|rfl<;>cases a
 ·cases a
theorem zCX{s:Str}{P:List ze}(h:PcT s P)(a:spB (atS s 0)=true):s=[32]:=by
 rcases Sz h with h|⟨n,p,U,t,_,rfl,_⟩|⟨c,r,rfl,g,_⟩|⟨c,rfl,f⟩|⟨k,d,b,rfl⟩|rfl
 ·rw[(Jt (Mo h)).1]at a;cases a
 ·obtain⟨c,r,e,_,b,_⟩:=Wm n p U;rw[e]at a;rw[show atS (c::r) 0=c from rfl,b]at a;cases a
 ·rcases g with rfl|rfl|rfl<;>cases a
 ·rw[show atS [c] 0=c from rfl,(uF c f).1]at a;cases a
 ·rcases Xp d b with rfl|rfl|rfl|rfl|rfl|rfl|rfl|rfl|rfl|rfl|rfl|rfl<;>first|rfl|cases a
 ·cases a
theorem Ry{s:Str}{P:List ze}(h:PcT s P){b:UInt8}(f:b=47\/b=42)(d:atS s 0=b):s=[b]:=by
 rcases Sz h with h|⟨n,p,U,t,_,rfl,_⟩|⟨c,r,rfl,g,_⟩|⟨c,rfl,j⟩|⟨k,a,i,rfl⟩|rfl
 ·have a:=Mo h;rw[d]at a;rcases f with rfl|rfl<;>cases a
 ·obtain⟨c,r,e,a,_⟩:=Wm n p U;rw[e]at d;rw[show c=b from d]at a;rcases f with rfl|rfl<;>cases a
 ·rw[show c=b from d]at g
  grind
 ·rw[show c=b from d]
 ·rcases Xp a i with rfl|rfl|rfl|rfl|rfl|rfl|rfl|rfl|rfl|rfl|rfl|rfl<;>rcases f with rfl|rfl<;>cases d
 ·rcases f with rfl|rfl<;>cases d
theorem Gi{s:Str}{P:List ze}(h:PcT s P):s≠[]:=by
 rcases Sz h with h|⟨n,p,U,t,_,rfl,_⟩|⟨c,r,rfl,d,_⟩|⟨c,rfl,f⟩|⟨k,b,a,rfl⟩|rfl
 ·exact Nj h
 ·obtain⟨c,r,e,_⟩:=Wm n p U;rw[e];simp
 ·simp
 ·simp
 ·rcases Xp b a with rfl|rfl|rfl|rfl|rfl|rfl|rfl|rfl|rfl|rfl|rfl|rfl<;>decide
 ·simp
theorem BX{l:Str}{c:UInt8}{r:Str}(b:c=101\/c=69)(h:Zx l=c::r): ∃t,l=c::t:=by
 cases l with
 |nil=>unfold Zx at h;rw[encW]at h;cases h
 |cons a t=>
  have g:Zx (a::t)=pcW ((a::t:Str)==[45]) (ZN (a::t)) a++encW ((a::t:Str)==[45]) (ZN (a::t) - 1) t:=rfl;obtain⟨d,u,e,f⟩:=Tz (dash:=(a::t:Str)==[45]) (k:=ZN (a::t)) (by unfold ZN;split<;>omega) a (encW ((a::t:Str)==[45]) (ZN (a::t) - 1) t)
  grind
theorem zCd{s:Str}{P:List ze}(h:PcT s P)(b:atS s 0=101\/atS s 0=69): ∃l t z,Zm l=true/\P=[t]/\(t.kind=1\/t.kind=2)/\t.text=l/\s=Zx l++z/\(z=[]\/z=[40]):=by
 cases h with
 |one t h B C=>
  cases h with
  |cId l i h=>exact⟨l,_,[],h,rfl, .inl rfl,rfl,by rw[Am,ja], .inl rfl⟩
  |cFn l i h=>exact⟨l,_,[40],h,rfl, .inr rfl,rfl,Lj l, .inr rfl⟩
  |cAt l i h=>rw[Cm]at b;rcases b with b|b<;>cases b
  |cHash l f i h v=>rw[Ym]at b;rcases b with b|b<;>cases b
  |cStr l h=>rw[Yk]at b;rcases b with b|b<;>cases b
  |cUrl l h=>rw[Km]at b;rcases b with b|b<;>cases b
  |cDel c h=>
   rw[Pm]at b;obtain⟨_,_,p,q⟩:=uF c h;rcases b with b|b
   ·exact absurd b p
   ·exact absurd b q
  |cNum n f d g w=>
   rw[Mm]at b;obtain⟨c,r,e,d,_⟩:=Wm n (!f) [];rw[ja]at e;rw[e]at b;rcases b with b|b<;>(rw[show c=_ from b]at d;cases d)
  |cPct n d g=>
   rw[Lm]at b;obtain⟨c,r,e,d,_⟩:=Wm n false [37];rw[e]at b;rcases b with b|b<;>(rw[show c=_ from b]at d;cases d)
  |cDim n u f d g w i h=>
   rw[Om]at b;obtain⟨c,r,e,d,_⟩:=Wm n (!f) (Vf u);rw[e]at b;rcases b with b|b<;>(rw[show c=_ from b]at d;cases d)
  |cMark k d g=> rw[Xm d g]at b;rcases Xp d g with rfl|rfl|rfl|rfl|rfl|rfl|rfl|rfl|rfl|rfl|rfl|rfl<;>rcases b with b|b<;>cases b
 |back=>rcases b with b|b<;>cases b
 |url l m s h o y=>
  exfalso;obtain⟨a,r,rfl,D⟩:=DL o;obtain⟨c,A,e⟩:=Nh (Nj (sj (l:=a::r) (by simp)));have j:c=101\/c=69:=by rw[e]at b;exact b
  obtain⟨t,x⟩:=BX j e;injection x with e3 _
  grind
def ShS(s r:Str):Prop:=r=s\/ ∃d y,digB d=true/\s=48::46::d::y/\r=46::d::y
theorem YM(cap:Nat)(l:Str):capF cap 0 (48::l)=capF cap 0 l:=by show capF cap (min cap (decN 0 48)) l=_;rw[show decN 0 48=0 from rfl,Nat.min_zero]
theorem WV(A:Str)(p:Int):thoV (48::A) p=thoV A p:=by
 unfold thoV;by_cases a:p<0
 ·rw[Ka a,Ka a];by_cases c:(A.length:Int)+p<0
  ·have b:(((48::A:Str).length:Int)+p).toNat=0:=by rw[Ia];omega
   grind
  ·have b:(((48::A:Str).length:Int)+p).toNat=((A.length:Int)+p).toNat+1:=by rw[Ia];omega
   rw[b,He,YM]
 ·rw[Ja a,Ja a,YM]
theorem RA(d:UInt8)(y:Str)(e:digB d=true):Zu (48::46::d::y)=Zu (46::d::y):=by
 have j:Lf 48=false/\Lf 46=false:=by decide
 have b:Ef (48::46::d::y)=46::d::y:=rfl;have a:Ef (46::d::y)=46::d::y:=rfl;have h:zC (48::46::d::y)=zC (46::d::y):=by rw[Qw,Qw,b,a]
 have g:(numP (48::46::d::y)).val=(numP (46::d::y)).val:=by have c:numP (48::46::d::y)=⟨[],[48],dotP (46::d::y),expP (zV (46::d::y)).1⟩:=rfl;have i:numP (46::d::y)=⟨[],[],dotP (46::d::y),expP (zV (46::d::y)).1⟩:=rfl;rw[c,i];unfold NumP.val;simp only[ic,Ub,WV]
 have f:nbS (46::d::y)=true:=e;rw[uq,Ja (by decide),Ja (by decide),show((48:UInt8)==35)=false from rfl,Pb,Ja (by decide),show nbS (48::46::d::y)=true from rfl,Ka rfl,
  uq,Ja (by decide),Ja (by decide),show((46:UInt8)==35)=false from rfl,Pb,Ja (by decide),f,Ka rfl]
 unfold zG;rw[h,g]
theorem capG(cap:Nat): ∀(l:Str) (n:Nat),valG n l<=cap->capF cap n l=valG n l
 |[],n,_=>rfl
 |c::l,n,h=>by
  have b:valG n (c::l)=valG (decN n c) l:=rfl;rw[b]at h ⊢;have a:decN n c<=valG (decN n c) l:=by rw[yt l (decN n c)];have:=Od (decN n c) (Mf (n:=l.length) (show 0<10 by omega));omega
  rw[capF,Nat.min_eq_right (Ic a h)];exact capG cap l (decN n c) h
theorem iI: ∀(k n:Nat),n*10 ^ k<=1000->Ig k n=n*10 ^ k
 |0,n,_=>by rw[Ig,Nat.pow_zero,xe]
 |k+1,n,h=>by
  have c:Tf=1000000000000:=rfl;rw[Ig];have a:0<10 ^ k:=Mf (by omega);have e:n*10 ^ (k+1)=10*n*10 ^ k:=by rw[Nat.pow_succ,Kg 10 n,jf,Kg (10 ^ k) 10]
  have d:10*n<=10*n*10 ^ k:=Od _ a;by_cases b:n=0
  ·subst b;simp
  ·rw[Ja (by omega),Nat.min_eq_right (by omega),iI k (10*n) (by omega),e]
theorem rW{n:Int}{p:Bool}(hp:(partT (n.natAbs%1000) p).isEmpty=false){U:Str}(hU:past digB U=U)(hx:expS U=none):
  (numP (46::(partT (n.natAbs%1000) p++U))).val=((n.natAbs%1000:Nat):Int):=by
 obtain⟨k1,k2,k3,_,_⟩:=aj (r:=n.natAbs%1000) (by omega) p;generalize partT (n.natAbs%1000) p=F at*;obtain⟨c,r,rfl⟩:=Nh (show F≠[] by grind);have hc:digB c=true:=by rw[Rc,Fa]at k1;exact k1.1
 have hq:Ef (46::(c::r++U))=46::(c::r++U):=rfl;have hpast:past digB (c::r++U)=U:=by rw[ou _ _ k1,hU]
 have hw:zV (46::(c::r++U))=(U,false):=by unfold zV;rw[show atS (46::(c::r++U)) 1=c from rfl,hc,show(atS (46::(c::r++U)) 0==46&&true)=true from rfl,Ka rfl,show(46::(c::r++U)).drop 1=c::r++U from rfl,hpast]
 have hrun:List.takeWhile digB (c::r++U)=c::r:=by have:=Wq digB (c::r++U);rw[hpast]at this;exact List.append_cancel_right this
 have hd:dotP (46::(c::r++U))=some (c::r):=by unfold dotP;rw[show atS (46::(c::r++U)) 1=c from rfl,hc,show(atS (46::(c::r++U)) 0==46&&true)=true from rfl,Ka rfl,show(46::(c::r++U)).drop 1=c::r++U from rfl,hrun]
 have he:expP U=none:=by unfold expP;rw[Jl]at hx;rw[hx,Ja (by decide)]
 have hP:numP (46::(c::r++U))=⟨[],[],some (c::r),none⟩:=by show(⟨sgOf (46::(c::r++U)),_,dotP (46::(c::r++U)),expP (zV (46::(c::r++U))).1⟩:NumP)=_;rw[hd,hw,he];rfl
 rw[hP];unfold NumP.val;show(((thoV ([]++(c::r)) (3+0 - ((c::r:Str).length:Int))):Nat):Int)=_;unfold thoV;rw[Ub,Ja (by omega),show(3+0 - ((c::r:Str).length:Int)).toNat=3 - (c::r:Str).length by omega];have hle:valG 0 (c::r)<=1000:=by have:=Od (valG 0 (c::r)) (Mf (n:=3 - (c::r:Str).length) (show 0<10 by omega));omega
 rw[capG _ _ _ (by unfold Tf;omega),iI _ _ (by omega),k3]
theorem sV{m:Nat}(h:m=0):Lib.decDigits m=[48]:=by subst h;decide+kernel
theorem Gz{t:ze}{U:Str}(f:U=[]/\t.kind=10\/U=[37]\/ ∃u,u≠[]/\Zm u=true/\U=Vf u):past digB U=U/\expS U=none/\(U=[]\/U=[37]\/(nmS U=true/\(zo U).2=[])):=by
 rcases f with⟨rfl,_⟩|rfl|⟨u,a,h,rfl⟩
 ·exact⟨rfl,rfl, .inl rfl⟩
 ·exact⟨rfl,rfl, .inr (.inl rfl)⟩
 ·have c:=jD a h;have e:=(rD c []).1;have d:=gP a h (x:=[]) (.inl rfl);have b:=dG a h [];rw[ja]at e d b;exact⟨e,d, .inr (.inr ⟨c,by rw[b,qR]⟩)⟩
theorem YC(n:Int)(p:Bool)(U:Str):past digB (unsign (numT n p++U))=past digB (dotS (if(partT (n.natAbs%1000) p).isEmpty then none else some (partT (n.natAbs%1000) p))++U):=q2_T n p U
theorem XD{n:Int}{p:Bool}(U:Str)(a:(partT (n.natAbs%1000) p).isEmpty=true):past digB (unsign (numT n p++U))=past digB U:=by rw[YC,a];rfl
theorem VD{n:Int}{p:Bool}(U:Str)(a:(partT (n.natAbs%1000) p).isEmpty=false):past digB (unsign (numT n p++U))=46::(partT (n.natAbs%1000) p++U):=by rw[YC,a];rfl
theorem zBI(z:Str):expS (46::z)=none:=rfl
theorem GU(z:Str):nmS (46::z)=false:=rfl
theorem YW{s r:Str}{P:List ze}(h:PcT s P)(x:digB (atS s 0)=true)(f:r=past digB s)(F:nmS r=false)(m:(atS r 0==37)=false)(d:qz r=P):ShS s r:=by
 have u:unsign s=s:=by unfold unsign Lf;rw[Ha.2 (Qt x).1,Ha.2 (Qt x).2.1];rfl
 obtain⟨n,p,U,t,rfl,rfl,g,z⟩:=jw h (by grind);obtain⟨w,D,A⟩:=Gz z;rw[<-u,YC]at f;cases j:(partT (n.natAbs%1000) p).isEmpty with
 |true=>
  rw[j]at f;have a:r=U:=by rw[f];exact w
  subst a;rcases A with rfl|rfl|⟨G,_⟩
  ·rw[Q4 (qg rfl)]at d;cases d
  ·cases m
  grind
 |false=>
  rw[j]at f;have a:r=46::(partT (n.natAbs%1000) p++U):=by rw[f];rfl
  have B:=rW j w D;obtain⟨c,q,i⟩:=Nh (show partT (n.natAbs%1000) p≠[] by grind);have b:=YE (n:=n) (p:=p);have v:digB c=true:=by rw[i,Rc,Fa]at b;exact b.1
  have k:cmtS r=46::(partT (n.natAbs%1000) p++U):=by rw[a];exact qg rfl
  rw[QP k]at d;injection d with d _;have l:Zu (46::(partT (n.natAbs%1000) p++U))=zG (46::(partT (n.natAbs%1000) p++U)):=by
   have o:nbS (46::(partT (n.natAbs%1000) p++U))=true:=by rw[i];exact v
   rw[uq,Ja (by decide),Ja (by decide),show((46:UInt8)==35)=false from rfl,Pb,Ja (by decide),o,Ka rfl]
  have e: ∀q:Str,(zG q).1.num=(numP q).val:=by
   intro q;unfold zG;split
   ·rfl
   ·split<;>rfl
  rw[l]at d;have y:=e (46::(partT (n.natAbs%1000) p++U));rw[d,B,g]at y;have E:n.natAbs / 1000=0:=by omega
  have C:numT n p++U=48::46::c::(q++U):=by rw[Vt,j,sV E,i];unfold sgT;rw[Ja (by omega)];rfl
  right;exact⟨c,q++U,v,C,by rw[a,i];rfl⟩
theorem tN: ∀(y r:Str),y.all letB=true->zo (y++r)=(y++(zo r).1,(zo r).2)
 |[],r,_=>rfl
 |c::y,r,h=>by rw[Rc,Fa]at h;rw[Xa,zQ,Ka h.1,tN y r h.2];rfl
theorem lU{l:Str}(h:l.all digB=true):l.all letB=true:=by
 rw[Rb]at h ⊢;intro b a;unfold letB
 grind
theorem aW{s r:Str}{P:List ze}(h:PcT s P)(he:atS s 0=101\/atS s 0=69)(hd:digB (atS (unsign (s.drop 1)) 0)=true)(hr:r=past digB (unsign (s.drop 1)))(hT:qz r=P):False:=by
 obtain⟨l,t,z,hl,rfl,hk,ht,rfl,hz⟩:=zCd h he;obtain⟨c,q,e⟩:=Nh (Gi h);have hnz:zo z=([],z):=by rcases hz with rfl|rfl;exact qR;exact LF []
 have hname:zo (Zx l++z)=(l,z):=by rw[Ol z hl,hnz,ja]
 rw[e]at he hd hr hname;rw[show(c::q).drop 1=q from rfl]at hd hr;have hc:letB c=true:=by rcases he with h|h<;>(rw[show c=_ from h];rfl)
 -- the sign is a dash, or none
 have hsg:(sgOf q).all letB=true:=by
  unfold sgOf;cases hs:Lf (atS q 0)with
  |false=>rfl
  |true=>
   rw[Ka rfl];unfold Lf at hs;rw[Jc,Cb,Cb]at hs;rcases hs with hs|hs
   ·exfalso;cases q with
    |nil=>cases hs
    |cons d q'=>
     rw[show d=43 from hs,zQ,Ka hc,zQ,Ja (by decide),Ja (by unfold escS;rw[show atS (43::q') 0=43 from rfl];simp)]at hname
     grind
   ·rw[hs];rfl
 have hsplit:c::q=(c::(sgOf q++(unsign q).takeWhile digB))++r:=by rw[hr,Xa,Oa,Wq,XI]
 have hall:(c::(sgOf q++(unsign q).takeWhile digB)).all letB=true:=by rw[Rc,hc,Cg,hsg,lU (Iy digB _)];rfl
 rw[hsplit,tN _ _ hall]at hname;injection hname with hn1 hn2;have hcm:cmtS r=r:=by
  refine qg ?_;cases r with
  |nil=>rfl
  |cons d u=>
   refine VC (Ha.2 ?_);rintro rfl;rw[zQ,Ja (by decide),Ja (by unfold escS;rw[show atS (47::u) 0=47 from rfl];simp)]at hn2
   grind
 cases r with
 |nil=>rw[Q4 hcm]at hT;cases hT
 |cons d u=>
  rw[QP hcm]at hT;injection hT with hT _;have hbr:=Hl d u;rw[hT]at hbr;have hbr':brS d u=7:=by rcases hk with hk|hk<;>(rw[hk]at hbr;exact hbr.symm)
  have hx:t.text=(zo (d::u)).1:=by
   rw[<-hT,qL,hbr',wh];have hk':(qG (d::u)).1.kind=1\/(qG (d::u)).1.kind=2:=by
    have:(qG (d::u)).1=t:=by rw[<-hT,qL,hbr',wh]
    rw[this];exact hk
   unfold qG at hk' ⊢;split
   ·rename_i h40;rw[Ka h40]at hk';split
    ·rename_i h2;rw[Ka h2]at hk';rcases bE (urlS (past spB ((zo (d::u)).2.drop 1))).1 with hh|hh<;>rcases hk' with hk'|hk'<;>rw[show(og (urlS (past spB ((zo (d::u)).2.drop 1))).1).kind=_ from hk']at hh<;>cases hh
    ·rfl
   ·rfl
  rw[<-hx,ht]at hn1;have:=congrArg List.length hn1
  grind
theorem RZ{z r:Str}(h:zV z=(r,true)):r=z:=by
 unfold zV at h
 grind
theorem EW{z r:Str}(h:(match expS (zV z).1 with|some r=>(r,false)|none=>zV z)=(r,true)):r=z:=by
 cases a:expS (zV z).1 with
 |some y=>grind
 |none=>rw[a]at h;exact RZ h
theorem NU{z r:Str}{b:Bool}(h:(match expS z with|some r=>(r,false)|none=>(z,false))=(r,b)):r=z\/expS z=some r:=by
 grind
theorem yN{t:ze}{s r:Str}{P:List ze}(N:zgg t)(h:PcT s P)(b:tT t s r)(v:qz r=P):ShS s r:=by
 have M:P≠[]:=by cases h<;>simp
 have p:r≠[]:=by rintro rfl;rw[Q4 (qg rfl)]at v;exact M v.symm
 have j:digB (atS s 0)=false->past digB s=s:=by
  intro i;cases s with
  |nil=>rfl
  |cons c q=>rw[past,show digB c=false from i];rfl
 rcases b with b|⟨_,b⟩|⟨R,Q,g,G⟩|⟨_,K,y,i,g,b⟩
 ·exact .inl b
 ·cases u:spB (atS s 0)with
  |true=> rw[zCX h u]at b;exact absurd b p
  |false=>
   left;rw[b];cases s with
   |nil=>rfl
   |cons c q=>rw[past,show spB c=false from u];rfl
 ·cases N with
  |cNum n f w E S=>
   have e:zC (numT n (!f)++s)=(r,f):=Q;have a:r=past digB s\/expS (past digB s)=some r:=by
    cases d:(partT (n.natAbs%1000) (!f)).isEmpty with
    |true=> left;rw[wD d]at e;rw[OG S]at d;subst d;exact EW e
    |false=> rw[wC d]at e;exact NU e
   cases i:digB (atS s 0)with
   |true=>
    rcases a with b|l
    ·exact YW h i b g G v
    ·exfalso;have o:unsign s=s:=by unfold unsign Lf;rw[Ha.2 (Qt i).1,Ha.2 (Qt i).2.1];rfl
     obtain⟨A,B,U,J,rfl,rfl,_,x⟩:=jw h (by grind);obtain⟨z,O,_⟩:=Gz x;rw[<-o]at l;cases d:(partT (A.natAbs%1000) B).isEmpty with
     |true=>rw[XD U d,z,O]at l;cases l
     |false=>rw[VD U d,zBI]at l;cases l
   |false=>
    rw[j i]at a;rcases a with b|l
    ·exact .inl b
    ·obtain⟨w,E,L⟩:=XL l;exact(aW h w E L v).elim
  |cId|cFn|cAt|cHash|cStr|cUrl|cDel|cPct|cDim=>simp at R
  |cMark k w E=>grind
 ·exfalso;have D:digB (atS (unsign s) 0)=true/\past digB (unsign (K++s))=past digB (unsign s):=by
   rcases y with rfl|rfl
   ·grind
   ·have m:digB (atS s 0)=true:=i;have o:unsign s=s:=by unfold unsign Lf;rw[Ha.2 (Qt m).1,Ha.2 (Qt m).2.1];rfl
    rw[o];exact⟨m,rfl⟩
  obtain⟨C,F⟩:=D;rw[F]at g b;obtain⟨A,B,U,J,rfl,rfl,_,x⟩:=jw h C;obtain⟨z,_,H⟩:=Gz x;cases d:(partT (A.natAbs%1000) B).isEmpty with
  |true=>
   rw[XD U d,z]at g b;rcases H with rfl|rfl|⟨_,T⟩
   ·cases g
   ·cases g
   grind
  |false=>rw[VD U d,GU]at g;cases g
abbrev cmtW:Str:=[47,42,42,47]
theorem XC{s:Str}{P:List ze}(h:PcT s P)(x:Str)(hx:atS x 0≠42):([47,42]:Str).isPrefixOf (s++x)=false:=by
 obtain⟨c,r,rfl⟩:=Nh (Gi h);by_cases hc:c=47
 ·have:=Ry h (.inl rfl) hc;rw[this];cases x with
  |nil=>rfl
  |cons d t=>
   show((47==(47:UInt8))&&((42==d)&&_))=false;have:((42:UInt8)==d)=false:=Ha.2 (fun e=>hx e.symm)
   grind
 grind
theorem yx{s:Str}{P:List ze}(h:PcT s P):cmtS s=s:=by
 refine qg ?_;have:=XC h [] (by decide)
 grind
theorem vC(x:Str):Zu (92::10::x)=(⟨9,[92],0,[],false⟩,10::x):=rfl
theorem FZ{l:Str}(g:l≠[])(h:Zm l=true)(f:lowS l=[117,114,108])(b:Bool)(w:Str):
  Zu (Zx l++40::((if b then [32]else [])++34::w))=(⟨2,l,0,[],false⟩,(if b then [32]else [])++34::w):=by
 have d:=Mx g ((if b then [32]else [])++34::w);have a:=xJ h ((if b then [32]else [])++34::w);obtain⟨c,r,e⟩:=Nh (Nj d);rw[e]at d a ⊢;rw[qL,ry d (by grind),wh];unfold qG;rw[a];simp only;have i:atS (past spB ((40::((if b then [32]else [])++34::w)).drop 1)) 0=34:=by cases b<;>rfl
 rw[Ka (by rfl),f,i,Ja (by decide)];rfl
theorem AJ{l:Str}(h:lowS l=[117,114,108]):l≠[]:=by rintro rfl;cases h
theorem OV(l m x:Str)(b:Bool):(Zx l++40::((if b then [32]else [])++34::(encB quoB m++[34])))++x=Zx l++40::((if b then [32]else [])++34::((encB quoB m++[34])++x)):=by
 grind
theorem pJ{l m:Str}{b:Bool}(h:Zm l=true)(hl:lowS l=[117,114,108])(hm:Zm m=true)(x:Str):
  run ((Zx l++40::((if b then [32]else [])++34::(encB quoB m++[34])))++x) (⟨2,l,0,[],false⟩::((if b then [tkSp]else [])++[⟨5,m,0,[],false⟩])) x:=by
 rw[OV];have hf:=FZ (AJ hl) h hl b ((encB quoB m++[34])++x);have hn:=Mx (AJ hl) ((if b then [32]else [])++34::((encB quoB m++[34])++x));have hs: ∀q:Str,q=34::((encB quoB m++[34])++x)->run q [⟨5,m,0,[],false⟩] x:=by rintro q rfl;have:=jE hm x;rw[Xa]at this;exact⟨34,_,qg rfl,by rw[this],by rw[this];rfl⟩
 obtain⟨c,r,e⟩:=Nh (Nj hn);rw[e]at hf hn ⊢;have hc:c≠47:=by rintro rfl;exact absurd (show hdB 47=true from Mo hn) (by decide)
 refine⟨c,r,qg (VC (Ha.2 hc)),by rw[hf],?_⟩;rw[hf];cases b with
 |false=>exact hs _ rfl
 |true=> exact⟨32,34::((encB quoB m++[34])++x),qg rfl,rfl,hs _ rfl⟩
theorem vI{s:Str}{P:List ze}(h:PcT s P){x:Str}(a:neu x):run (s++x) P x:=by
 cases h with
 |one t h d f=>
  have g:=OU h d f a;have i:=XC (.one t h d f) x (by rcases a with rfl|⟨y,rfl⟩;exact(show(0:UInt8)≠42 by decide);exact(show(47:UInt8)≠42 by decide));obtain⟨c,r,e⟩:=Nh (Gi (.one t h d f));rw[e]at g i ⊢;exact⟨c,r++x,qg i,by grind,by rw[show c::(r++x)=(c::r)++x from rfl,g];rfl⟩
 |back=> refine⟨92,10::x,qg rfl,by rw[vC],?_⟩;rw[vC];refine⟨10,x,qg rfl,rfl,?_⟩;show past spB x=x;exact JM rfl a
 |url l m b h j k=>exact pJ h j k x
theorem zAN{u s r:Str}{p P:List ze}(hu:PcT u p)(hs:PcT s P)(hr:run (u++s) p r)(hT:qz r=P):ShS s r:=by
 cases hu with
 |one t h hb hu=>
  obtain⟨c,q,h1,h2,h3⟩:=hr;have hpu:PcT (txS t) [t]:= .one t h hb hu;rw[run]at h3;cases hp:([47,42]:Str).isPrefixOf (txS t++s)with
  |true=>
   exfalso;obtain⟨c0,r0,e⟩:=Nh (Gi hpu);by_cases hc:c0=47
   ·have e2:=Ry hpu (.inl rfl) (by rw[e];exact hc);rw[e2]at hp h1;have h42:atS s 0=42:=by
     cases s with
     |nil=>cases hp
     |cons d t'=>
      have:((42:UInt8)==d)=true:=by have h':((47==(47:UInt8))&&((42==d)&&true))=true:=hp;simpa using h'
      exact(Cb.1 this).symm
    rw[Ry hs (.inr rfl) h42]at h1;have:cmtS ([47]++[42])=[]:=by rw[Yh];rfl
    grind
   grind
  |false=> rw[qg hp]at h1;rw[<-h1]at h2 h3;have:=IW h hu h2;rw[h3]at this;exact yN h hs this hT
 |back=> obtain⟨c,q,h1,h2,h3⟩:=hr;rw[show cmtS ([92,10]++s)=92::10::s from qg rfl]at h1;injection h1 with e1 e2;subst e1 e2;rw[vC]at h3;obtain⟨c',q',g1,g2,g3⟩:=h3;rw[show cmtS (10::s)=10::s from qg rfl]at g1;injection g1 with e1 e2;subst e1 e2;rw[run]at g3;have g3':past spB s=r:=g3;exact yN (t:=tkSp) (.cMark 13 (by omega) (by omega)) hs (.inr (.inl ⟨rfl,g3'.symm⟩)) hT
 |url l m b h hl hm=>exact .inl (gJ hr (pJ h hl hm s))
def Lk(R A:Str):Prop:=cmtS R=A\/ ∃d y,digB d=true/\A=48::46::d::y/\cmtS R=46::d::y
theorem Oo{R A:Str}(h:Lk R A)(a:A≠[]):cmtS R≠[]:=by
 rcases h with h|⟨d,y,_,_,h⟩
 ·rw[h];exact a
 ·rw[h];simp
theorem DJ{R A x:Str}(h:Lk R A)(b:A≠[])(c:([47,42]:Str).isPrefixOf (A++x)=false):Lk (R++x) (A++x):=by
 rcases h with h|⟨d,y,a,rfl,h⟩
 ·left;rw[Iu (by rw[h];exact b) (by rw[h];exact c),h]
 ·right;exact⟨d,y++x,a,rfl,by rw[Iu (by rw[h];simp) (by rw[h];rfl),h];rfl⟩
theorem BJ{R A:Str}(h:Lk R A)(g:([47,42]:Str).isPrefixOf A=false){t:ze}{ts:List ze}{r:Str}:run R (t::ts) r↔run A (t::ts) r:=by
 rcases h with h|⟨d,y,f,rfl,h⟩
 ·rw[<-iJ (q:=R) (by simp),h]
 ·rw[<-iJ (q:=R) (by simp),h];constructor
  ·rintro⟨c,q,a,e,b⟩;rw[qg rfl]at a;rw[<-a]at e b;exact⟨48,46::d::y,qg rfl,by rw[RA d y f];exact e,by rw[RA d y f];exact b⟩
  ·rintro⟨c,q,a,e,b⟩;rw[qg rfl]at a;rw[<-a,RA d y f]at e b;exact⟨46,d::y,qg rfl,e,b⟩
theorem CK{R A:Str}(h:Lk R A):qz R=qz A:=by
 rcases h with h|⟨d,y,a,rfl,h⟩
 ·rw[<-Mq R,h]
 ·rw[<-Mq R,h,QP (qg rfl),QP (l:=48::46::d::y) (qg rfl),RA d y a]
inductive Syn:Str->List ze->List (List ze×Str)->Prop
 |nil:Syn [] [] []
 |cmt (b s:Str) (ts P:List ze) (st:List (List ze×Str)) (h:Syn b ts st) (hb:b≠[]) (hp:PcT s P):Syn (b++cmtW++s) (ts++P) (st++[(ts,b++cmtW)])
 |no (b s:Str) (ts P:List ze) (st:List (List ze×Str)) (h:Syn b ts st) (hp:PcT s P) (ht:qz (b++s)=ts++P):Syn (b++s) (ts++P) (st++[(ts,b)])
def Bd(b:Str)(ts L:List ze)(B:Str)(m:Nat):Prop:= ∃A R a,b=B++A/\A≠[]/\ts=L++a/\a≠[]/\run b L R/\Lk R A/\m<=R.length/\m<=A.length
structure zBq (b:Str) (ts:List ze) (st:List (List ze×Str)):Prop where
 tok:qz b=ts
 bd: ∀k (h:k<st.length),Bd b ts st[k].1 st[k].2 (st.length - k)
 last:(st=[]/\b=[]/\ts=[])\/ ∃L B u p R,PcT u p/\b=B++u/\ts=L++p/\run b L R/\Lk R u
theorem pc_P{s:Str}{P:List ze}(h:PcT s P): ∃t us,P=t::us:=by cases h<;>exact⟨_,_,rfl⟩
theorem KJ {b x:Str} {ts P L:List ze} {B:Str} {m:Nat} (h:Bd b ts L B m) (hx:x≠[])
  (hrun: ∀R,R≠[]->run b L R->(∃A,A≠[]/\Lk R A/\b=B++A)->run (b++x) L (R++x)/\(∀A,A≠[]->Lk R A->b=B++A->Lk (R++x) (A++x))):Bd (b++x) (ts++P) L B (m+1):=by
 obtain⟨A,R,us,h1,h2,h3,h4,h5,h6,h7,h8⟩:=h;have hR:R≠[]:=by intro e;have:=Oo h6 h2;rw[e]at this;exact this (qg rfl)
 obtain⟨g1,g2⟩:=hrun R hR h5 ⟨A,h2,h6,h1⟩;refine⟨A++x,R++x,us++P,by grind,by simp[h2],by grind,by simp[h4],g1,g2 A h2 h6 h1,?_⟩;have:=Ie.2 hx
 grind
theorem WJ{q:Str}(h:cmtS q=[47]):cmtS (q++[42])=[]:=by
 rw[Yh q]at h;cases a:([47,42]:Str).isPrefixOf q with
 |true=>
  have b:=Ai a;rw[show([47,42]:Str).length=2 from rfl]at b;rw[a,Ka rfl]at h;cases c:clsS (q.drop 2)with
  |none=>grind
  |some p=>
   rw[c]at h;have d:p.length<q.length:=by have d:=(Xj _ c).2;rw[Ec]at d;omega
   rw[Yh,Iq [42] (by exact b),a,Ka rfl,Sq b,EE [42] c];exact WJ h
 |false=> rw[a,Ja (by decide)]at h;subst h;rw[Yh];rfl
termination_by q.length
theorem zAW{q s:Str}{P us:List ze}(hs:PcT s P)(h:uT q s us)(hus:us≠[]):False:=by
 obtain⟨c,r,_,⟨⟨e,fl,hee,hw⟩,h43,hk,hds⟩,hsame,hT⟩:=h;have hbr:=Hl c (r++s);rw[hsame,hk]at hbr;have hbr':brS c (r++s)=3:=hbr.symm;have hnx:Zu (c::(r++s))=zG ((c::r)++s):=by rw[qL,hbr',Ni];rfl
 have hq2:Ef (c::r)≠[]:=by intro e2;rw[e2]at hw;cases congrArg Prod.fst hw
 have e2:Ef ((c::r)++s)=Ef (c::r)++s:=by unfold Ef;rw[(Ml s (by simp)).1];exact Ak s hq2
 have hw2:=(vM (q:=Ef (c::r)) (x:=s) (by rw[hw];simp) (fun e3=>by
  rw[e3]at hw;have:=congrArg Prod.fst hw;cases this)).1
 have hexp:expS ([e,43]++s)=some (past digB s):=by
  unfold expS;have h1:(atS ([e,43]++s) 0==101||atS ([e,43]++s) 0==69)=true:=by rcases hee with rfl|rfl<;>rfl
  have h2:unsign (([e,43]++s).drop 1)=s:=rfl;rw[h1,Ka rfl,h2,hds,Ka rfl]
 have hend:zC ((c::r)++s)=(past digB s,false):=by rw[Qw,e2,hw2,hw];simp only[hexp]
 have hk2:(zG ((c::r)++s)).1.kind=12:=by rw[<-hnx,hsame,hk]
 rw[hnx]at hT;unfold zG at hk2 hT;rw[hend]at hk2 hT;simp only at hk2 hT;have hun:unsign s=s:=by unfold unsign Lf;rw[Ha.2 (Qt hds).1,Ha.2 (Qt hds).2.1];rfl
 cases hn:nmS (past digB s)with
 |false=>
  grind
 |true=>
  rw[hn,Ka rfl]at hT;obtain⟨n2,p2,U,t2,_,rfl,_,hU⟩:=jw hs (by grind);obtain⟨u1,_,u3⟩:=Gz hU;rw[<-hun]at hn hT;cases hp:(partT (n2.natAbs%1000) p2).isEmpty with
  |true=>
   rw[XD U hp,u1]at hn hT;rcases u3 with rfl|rfl|⟨_,hu⟩
   ·cases hn
   ·cases hn
   ·rw[hu,Q4 (qg rfl)]at hT;exact hus hT.symm
  |false=>rw[VD U hp,GU]at hn;cases hn
theorem yT{R A:Str}(h:Lk R A)(b:A≠[])(y:Str):Lk (R++47::42::y) (A++47::42::y):=by
 rcases h with h|⟨d,z,a,rfl,h⟩
 ·left;rw[lC y (by rw[h];exact b),h]
 ·right;exact⟨d,z++47::42::y,a,rfl,by rw[lC y (by rw[h];simp),h];rfl⟩
theorem yV{s:Str}{P:List ze}(h:PcT s P):cmtS (47::42::42::47::s)=s:=by rw[Yh];exact yx h
theorem MK{s:Str}{P:List ze}(h:PcT s P):qz s=P:=by have:=Vq (vI h (x:=[]) (.inl rfl));rw[ja,Q4 (qg rfl),ja]at this;exact this
theorem mZ{α:Type}{l a:List α}(h:l++a=l):a=[]:=by simp_all
theorem zCC{b:Str}{ts:List ze}{st:List (List ze×Str)}(h:Syn b ts st):zBq b ts st:=by
 induction h with
 |nil=>exact⟨Q4 (qg rfl),fun k h=>(by cases h), .inl ⟨rfl,rfl,rfl⟩⟩
 |cmt b s ts P st h hb hp ih=>
  obtain⟨ht,hbd,hl⟩:=ih;have hx:b++cmtW++s=b++47::42::(42::47::s):=by rw[Oa];rfl
  obtain⟨t0,us0,hP0⟩:=pc_P hp;have hrun:run (b++47::42::(42::47::s)) ts (47::42::(42::47::s)):=by
   rcases hl with⟨_,e,_⟩|⟨L,B,u,p,R,g1,g2,g3,g4,g5⟩
   ·exact absurd e hb
   ·have hR:R≠[]:=by intro e;have:=Oo g5 (Gi g1);rw[e]at this;exact this (qg rfl)
    obtain⟨t1,us1,hp1⟩:=pc_P g1;rw[g3];refine UE (DC (42::47::s) g4 hR) ?_;have h1:=vI g1 (x:=47::42::(42::47::s)) (.inr ⟨_,rfl⟩);rw[hp1]at h1 ⊢;exact(BJ (yT g5 (Gi g1) (42::47::s)) (XC g1 _ (by show(47:UInt8)≠42;decide))).2 h1
  have hlk:Lk (47::42::(42::47::s)) s:= .inl (yV hp);rw[hx];refine⟨?_,?_, .inr ⟨ts,b++cmtW,s,P,_,hp,by grind,rfl,hrun,hlk⟩⟩
  ·rw[Vq hrun,CK hlk,MK hp]
  ·intro k hk;rw[Ga,Ib]at hk;by_cases hk2:k<st.length
   ·rw[List.getElem_append_left hk2];have:=KJ (P:=P) (x:=47::42::(42::47::s)) (hbd k hk2) (by simp) (fun R hR h5 _=>⟨DC _ h5 hR,fun A hA h6 _=>yT h6 hA _⟩)
    grind
   ·have hke:k=st.length:=by omega
    subst hke;rw[List.getElem_append_right (by omega)];simp only[Nat.sub_self,List.getElem_cons_zero];refine⟨s,_,P,by grind,Gi hp,rfl,by rw[hP0];simp,hrun,hlk,?_⟩;have:=Ie.2 (Gi hp)
    grind
 |no b s ts P st h hp ht0 ih=>
  obtain⟨ht,hbd,hl⟩:=ih;obtain⟨t0,us0,hP0⟩:=pc_P hp;have hPne:P≠[]:=by rw[hP0];simp
  have hsne:=Gi hp
  -- what is ahead stays
  have keep: ∀(L us:List ze) (R:Str),ts=L++us->R≠[]->run b L R->run (b++s) L (R++s):=by
   intro L us R hts hR hrun;rcases oL (us:=us++P) hrun hR hsne (by grind)with h1|⟨_,q,_,h1⟩
   ·exact h1
   ·exact(zAW hp h1 (by simp[hPne])).elim
  have keepLk: ∀(L us:List ze) (R A:Str),ts=L++us->run (b++s) L (R++s)->A≠[]->Lk R A->Lk (R++s) (A++s):=by
   intro L us R A hts hrun hA hlk;cases hpre:([47,42]:Str).isPrefixOf (A++s)with
   |false=>exact DJ hlk hA hpre
   |true=>
    exfalso;rcases hlk with h1|⟨d,y,_,rfl,_⟩
    ·cases A with
     |nil=>exact hA rfl
     |cons c r=>
      cases r with
      |cons d t=>
       have:=Hu R
       grind
      |nil=>
       have hc:c=47:=by
        cases hcc:(47:UInt8)==c with
        |true=>grind
        |false=>
         grind
       subst hc;have h42:s=[42]:=by
        refine Ry hp (.inr rfl) ?_;cases s with
        |nil=>grind
        |cons d t=>
         have h':(((47:UInt8)==47)&&(((42:UInt8)==d)&&true))=true:=hpre;have:((42:UInt8)==d)=true:=by simpa using h'
         exact(Cb.1 this).symm
       have h3:=Vq hrun;rw[ht0,hts,h42,Q4 (WJ h1),ja,Oa]at h3;have:=mZ h3;simp_all
    ·cases hpre
  rcases hl with⟨e1,e2,e3⟩|⟨L,B,u,p,R,g1,g2,g3,g4,g5⟩
  ·subst e1 e2 e3;refine⟨ht0,?_, .inr ⟨[],[],s,P,s,hp,rfl,rfl,rfl, .inl (yx hp)⟩⟩;intro k hk;have hke:k=0:=by rw[Ga,Ib,Eb]at hk;omega
   subst hke;exact⟨s,s,P,rfl,hsne,rfl,hPne,rfl, .inl (yx hp),Ie.2 hsne,Ie.2 hsne⟩
  ·have hR:R≠[]:=by intro e;have:=Oo g5 (Gi g1);rw[e]at this;exact this (qg rfl)
   have h1:=keep L p R g3 hR g4;have h2:=keepLk L p R u g3 h1 (Gi g1) g5;have h3:=Vq h1;rw[ht0,g3,Oa]at h3;have h4:=List.append_cancel_left h3;obtain⟨r,h5,h6⟩:=aL h4.symm;have hsh:ShS s r:=by
    obtain⟨t1,us1,hp1⟩:=pc_P g1;refine zAN g1 hp ?_ h6;have hpre:([47,42]:Str).isPrefixOf (u++s)=false\/cmtS (R++s)=[]:=by
     rcases h2 with h2|⟨d,y,hd,h2,_⟩
     ·left;rw[<-h2];exact Hu _
     ·grind
    rcases hpre with hpre|hpre
    ·rw[hp1]at h5 ⊢;exact(BJ h2 hpre).1 h5
    ·rw[hp1]at h5;obtain⟨c,q,e,_⟩:=h5
     grind
   have hrun:run (b++s) ts r:=by rw[g3];exact UE h1 h5
   have hlk:Lk r s:=by
    rcases hsh with rfl|⟨d,y,hd,e1,e2⟩
    ·exact .inl (yx hp)
    ·right;exact⟨d,y,hd,e1,by rw[e2];exact qg rfl⟩
   have hrl:1<=r.length:=by
    rcases hsh with rfl|⟨d,y,_,_,e2⟩
    ·grind
    ·rw[e2];simp
   refine⟨ht0,?_, .inr ⟨ts,b,s,P,r,hp,rfl,rfl,hrun,hlk⟩⟩;intro k hk;rw[Ga,Ib]at hk;by_cases hk2:k<st.length
   ·rw[List.getElem_append_left hk2];obtain⟨A0,R0,us,f1,f2,f3,f4,f5,f6,f7,f8⟩:=hbd k hk2;have:=KJ (P:=P) (x:=s) ⟨A0,R0,us,f1,f2,f3,f4,f5,f6,f7,f8⟩ hsne (fun R hR h5 _=>⟨keep _ us R f3 hR h5,fun A hA h6 _=>keepLk _ us R A f3 (keep _ us R f3 hR h5) hA h6⟩)
    grind
   ·have hke:k=st.length:=by omega
    subst hke;rw[List.getElem_append_right (by omega)];simp only[Nat.sub_self,List.getElem_cons_zero];refine⟨s,r,P,rfl,hsne,rfl,hPne,hrun,hlk,?_⟩;have:=Ie.2 hsne
    grind
def pcN:List ze->Nat
 |[]=>0
 |t::r=>if t.kind==9&&t.text==[92]then 2 else if rf t then(if Ah r then 3 else 2)else 1
def catT:List ze->Str
 |[]=>[]
 |t::r=>txS t++catT r
def pcS:List ze->Str
 |[]=>[]
 |t::r=>if t.kind==9&&t.text==[92]then [92,10]else catT (t::r)
theorem kK{t:ze}(h:Pf t=true)(a:(t.kind==13)=true):t=tkSp:=by
 rw[Cb]at a;cases Vm h with
 |cId|cFn|cAt|cHash|cStr|cUrl|cDel|cNum|cPct|cDim=>simp at a
 |cMark k c b=>grind
theorem OJ{t:ze}(h:Pf t=true)(a:(t.kind==5)=true): ∃m,Zm m=true/\t=⟨5,m,0,[],false⟩:=by
 rw[Cb]at a;cases Vm h with
 |cStr l b=>grind
 |cId|cFn|cAt|cHash|cUrl|cDel|cNum|cPct|cDim=>simp at a
 |cMark k d c=>grind
theorem zBK{t:ze}(h:Pf t=true)(a:(t.kind==9&&t.text==[92])=true):t=⟨9,[92],0,[],false⟩:=by
 rw[Fa,Cb,Cb]at a;cases Vm h with
 |cDel c h=>grind
 |cId|cFn|cAt|cHash|cStr|cUrl|cNum|cPct|cDim=>simp at a
 |cMark k d b=>grind
theorem iV{t:ze}(h:Pf t=true)(a:rf t=true): ∃l,Zm l=true/\lowS l=[117,114,108]/\t=⟨2,l,0,[],false⟩:=by
 unfold rf at a;rw[Fa,Cb,Cb]at a;cases Vm h with
 |cFn l d c=>grind
 |cId|cAt|cHash|cStr|cUrl|cDel|cNum|cPct|cDim=>simp at a
 |cMark k b e=>grind
theorem zCV{t:ze}(h:(t.kind==9&&t.text==[92])=false): ¬(t.kind=9/\t.text=[92]):=by
 grind
theorem Yq(t:ze)(r:List ze):pcN (t::r)=if t.kind==9&&t.text==[92]then 2 else if rf t then(if Ah r then 3 else 2)else 1:=rfl
theorem RG(t:ze)(r:List ze):okAt (t::r)=((!(t.kind==9&&t.text==[92])||Ah r)&&(!(rf t)||Kj r)):=rfl
theorem oq(s:ze)(r:List ze):Kj (s::r)=(bif s.kind==13 then(match r with|u::_=>u.kind==5|[]=>false)else s.kind==5):=rfl
theorem zCW{t:ze}{r:List ze}(e: ∀u∈t::r,Pf u=true)(d:okAt (t::r)=true): ∃P Q,t::r=P++Q/\P.length=pcN (t::r)/\PcT (pcS P) P:=by
 have c:=e t (jb ..);rw[RG,Fa]at d;rw[Yq];cases h:t.kind==9&&t.text==[92]with
 |true=>
  rw[h,Ya,Gc]at d;rw[Ka rfl];cases r with
  |nil=>cases d.1
  |cons s r=> have g:=kK (e s (by simp)) d.1;have p:=zBK c h;subst g p;exact⟨[⟨9,[92],0,[],false⟩,tkSp],r,rfl,rfl, .back⟩
 |false=>
  rw[Ja (by decide)];cases j:rf t with
  |false=>
   rw[Ja (by decide)];have f:pcS [t]=txS t:=by show(if(t.kind==9&&t.text==[92])=true then [92,10]else txS t++[])=_;rw[h,Ja (by decide),ja]
   exact⟨[t],r,rfl,rfl,by rw[f];exact .one t (Vm c) (zCV h) j⟩
  |true=>
   rw[Ka rfl];rw[j,Ya,Gc]at d;obtain⟨l,n,o,rfl⟩:=iV c j;have a:=d.2;have b: ∀m:Str,txS ⟨5,m,0,[],false⟩++[]=34::(encB quoB m++[34]):=fun m=>by rw[Yk,ja]
   cases r with
   |nil=>cases a
   |cons s r=>
    cases g:s.kind==13 with
    |false=>
     rw[oq,g,Ba]at a;obtain⟨m,i,rfl⟩:=OJ (e s (by simp)) a;rw[show Ah (⟨5,m,0,[],false⟩::r)=false from rfl,Ja (by decide)];refine⟨[⟨2,l,0,[],false⟩,⟨5,m,0,[],false⟩],r,rfl,rfl,?_⟩;have f:pcS [⟨2,l,0,[],false⟩,⟨5,m,0,[],false⟩]=Zx l++40::((if false then [32]else [])++34::(encB quoB m++[34])):=by show txS ⟨2,l,0,[],false⟩++(txS ⟨5,m,0,[],false⟩++[])=_;rw[b,Lj,Oa];rfl
     rw[f];exact .url l m false n o i
    |true=>
     have k:=kK (e s (by simp)) g;subst k;cases r with
     |nil=>cases a
     |cons u r=>
      obtain⟨m,i,rfl⟩:=OJ (e u (by simp)) a;rw[show Ah (tkSp::⟨5,m,0,[],false⟩::r)=true from rfl,Ka rfl];refine⟨[⟨2,l,0,[],false⟩,tkSp,⟨5,m,0,[],false⟩],r,rfl,rfl,?_⟩;have f:pcS [⟨2,l,0,[],false⟩,tkSp,⟨5,m,0,[],false⟩]=Zx l++40::((if true then [32]else [])++34::(encB quoB m++[34])):=by show txS ⟨2,l,0,[],false⟩++(txS tkSp++(txS ⟨5,m,0,[],false⟩++[]))=_;rw[b,Lj,show txS tkSp=[32]from rfl,Oa];rfl
      rw[f];exact .url l m true n o i
theorem yX{t:ze}{r:List ze}(h:t.text.length<=big)(a:okAt (t::r)=true):QV (t::r)=some ((pcN (t::r):Nat):Int):=by
 have m:geti (t::r) 0=some t:=rfl;have k:=Jq (t::r) 1 13;have e:=Jq (t::r) 1 5;have b:=Jq (t::r) 2 5;unfold QV;simp only[m,zb,Aa,iG h (show([117,114,108]:Str).length<=big by decide),Yp,ZY];simp only[Int.natCast_one]at k e;replace b:ZZ ((2,5),t::r)=_:=b;have g:ZZ ((1,13),t::r)=some (Ah r):=by rw[k];cases r<;>rfl
 rw[g];rw[RG]at a;unfold rf at a;rw[Yq];unfold rf;cases j:(t.kind==9&&t.text==[92])with
 |true=>
  grind
 |false=>
  have n:(bif t.kind==9 then t.text==[92]else false)=false:=by
   cases o:t.kind==9
   ·rfl
   ·grind
  simp only[n,j,Ba,Va,Wd,ma];rw[j,Va,Wd,ma]at a;cases f:(t.kind==2&&lowS t.text==[117,114,108])with
  |false=>
   grind
  |true=>
   rw[f,Ya,Gc]at a;rw[Fa]at f;rw[f.1,f.2];simp only[Ca,Aa];cases r with
   |nil=>cases a
   |cons s r=>
    cases d:s.kind==13 with
    |false=>
     have i:Ah (s::r)=false:=d;have l:ZZ ((1,5),t::s::r)=some (s.kind==5):=e;have c:(s.kind==5)=true:=by rw[oq,d]at a;exact a
     simp only[i,Ba,zh,l,Aa,c,Ya];rfl
    |true=>
     have i:Ah (s::r)=true:=d;simp only[i,Ca,zh,b,Aa];cases r with
     |nil=>rw[oq,d]at a;cases a
     |cons u r=>
      have c:(u.kind==5)=true:=by rw[oq,d]at a;exact a
      show(bif !(u.kind==5)then some 0 else some (w64 (2+1)))=some 3;rw[c];rfl
def clB(l:Str):Bool:=l.all fun c=> !(c==0||c==12||c==13)
theorem Qz(a b:Str):clB (a++b)=(clB a&&clB b):=by unfold clB;grind
theorem WM: ∀l:Str,clB l=true->Proofs.Cl.cleanS l=l
 |[],_=>by rw[Proofs.Cl.cleanS]
 |c::r,h=>by
  unfold clB at h;rw[Rc,Fa]at h;have e:=WM r h.2;have d:(c==0||c==12||c==13)=false:=by simpa using h.1
  rw[Ye,Ye]at d;obtain⟨⟨f,a⟩,b⟩:=d;rw[Proofs.Cl.cleanS,f,a,b,e]
  ·rfl
  grind
theorem Al(c:UInt8):clB (escC c)=true/\(letB c=true->clB [c]=true)/\(c≠0->quoB c=false->clB [c]=true)/\(c≠0->urB c=false->clB [c]=true)/\(Dh c.toNat=true->clB [c]=true)/\(digB c=true->clB [c]=true):=by
 have: ∀n:Nat,n<256->clB (escC (UInt8.ofNat n))=true/\(letB (UInt8.ofNat n)=true->clB [UInt8.ofNat n]=true)/\(UInt8.ofNat n≠0->quoB (UInt8.ofNat n)=false->clB [UInt8.ofNat n]=true)/\(UInt8.ofNat n≠0->urB (UInt8.ofNat n)=false->clB [UInt8.ofNat n]=true)/\(Dh (UInt8.ofNat n).toNat=true->clB [UInt8.ofNat n]=true)/\(digB (UInt8.ofNat n)=true->clB [UInt8.ofNat n]=true):=by decide+kernel
 have:=this c.toNat (Bb c);simp_all
theorem vk(dash:Bool): ∀(k:Nat) (l:Str),clB (encW dash k l)=true
 |_,[]=>by rw[encW];rfl
 |k,c::r=>by
  obtain⟨b,a,_⟩:=Al c;rw[encW,Qz,vk dash (k - 1) r,Lb];unfold pcW
  grind
theorem ky{p:UInt8->Bool}(a: ∀c,c≠0->p c=false->clB [c]=true): ∀l:Str,Zm l=true->clB (encB p l)=true
 |[],_=>by rw[encB];rfl
 |c::r,h=>by
  obtain⟨e,d⟩:=QW h;rw[encB,Qz,ky a r d,Lb];cases b:p c with
  |true=>exact(Al c).1
  |false=>exact a c e b
theorem XJ{l:Str}(h:l.all digB=true):clB l=true:=by
 induction l with
 |nil=>rfl
 |cons c r a=> rw[Rc,Fa]at h;rw[show c::r=[c]++r from rfl,Qz,(Al c).2.2.2.2.2 h.1,a h.2];rfl
theorem cl_T(n:Int)(p:Bool):clB (numT n p)=true:=by
 obtain⟨a,_,_⟩:=gp (n.natAbs / 1000);have c:=YE (n:=n) (p:=p);rw[Vt,Qz,Qz,XJ a];have b:clB (sgT n)=true:=by unfold sgT;split<;>rfl
 rw[b];cases (partT (n.natAbs%1000) p).isEmpty with
 |true=>rfl
 |false=> show clB (46::partT (n.natAbs%1000) p)=true;rw[show 46::partT (n.natAbs%1000) p=[46]++partT (n.natAbs%1000) p from rfl,Qz,XJ c];rfl
theorem MU(w:Str):clB (Vf w)=true:=by
 cases w with
 |nil=>rfl
 |cons c r=>
  rw[Mk];cases Rh (c::r)with
  |true=>rw[Ca,Qz,(Al c).1,vk];rfl
  |false=>exact vk _ _ _
theorem fB{s:Str}{P:List ze}(h:PcT s P):clB s=true:=by
 cases h with
 |one t h hb hu=>
  cases h with
  |cId l h0 h=>rw[Am];exact vk _ _ _
  |cFn l h0 h=>rw[Lj,Qz];rw[show clB (Zx l)=true from vk _ _ _];rfl
  |cAt l h0 h=>rw[Cm,show 64::Zx l=[64]++Zx l from rfl,Qz,show clB (Zx l)=true from vk _ _ _];rfl
  |cHash l f h0 h hbb=>
   rw[Ym,show 35::Sg f l=[35]++Sg f l from rfl,Qz];have:clB (Sg f l)=true:=by cases f<;>exact vk _ _ _
   rw[this];rfl
  |cStr l h=>rw[Yk,show 34::(encB quoB l++[34])=[34]++(encB quoB l++[34])from rfl,Qz,Qz,ky (fun c h0 hc=>(Al c).2.2.1 h0 hc) l h];rfl
  |cUrl l h=>rw[Km,Qz,Qz,ky (fun c h0 hc=>(Al c).2.2.2.1 h0 hc) l h];rfl
  |cDel c h=>rw[Pm];exact(Al c).2.2.2.2.1 h
  |cNum n f h1 h2 hf=>rw[Mm];exact cl_T _ _
  |cPct n h1 h2=>rw[Lm,Qz,cl_T];rfl
  |cDim n u f h1 h2 hf h0 h=>rw[Om,Qz,cl_T,MU];rfl
  |cMark k h1 h2=> rw[Xm h1 h2];rcases Xp h1 h2 with rfl|rfl|rfl|rfl|rfl|rfl|rfl|rfl|rfl|rfl|rfl|rfl<;>rfl
 |back=>rfl
 |url l m b h hl hm=> rw[Qz,show clB (Zx l)=true from vk _ _ _,show∀z:Str,40::z=[40]++z from fun _=>rfl,Qz,Qz,show∀z:Str,34::z=[34]++z from fun _=>rfl,Qz,Qz,ky (fun c h0 hc=>(Al c).2.2.1 h0 hc) m hm];cases b<;>rfl
theorem zBD{b:Str}{ts:List ze}{st:List (List ze×Str)}(h:Syn b ts st):clB b=true:=by
 induction h with
 |nil=>rfl
 |cmt b s ts P st h e c a=>rw[Qz,Qz,a,fB c];rfl
 |no b s ts P st h c d a=>rw[Qz,a,fB c];rfl
def tokB(x y:ze):Bool:=x.kind==y.kind&&(x.text==y.text&&(x.num==y.num&&(x.unit==y.unit&&(x.flag==y.flag&&true))))
def af:List ze->List ze->Bool
 |[],[]=>true
 |x::l,y::m=>tokB x y&&af l m
 |_,_=>false
theorem aZ(x y:ze)(l m:List ze):af (x::l) (y::m)=(tokB x y&&af l m):=rfl
theorem VV{x y:ze}:tokB x y=true↔x=y:=by
 obtain⟨a,b,c,d,e⟩:=x;obtain⟨j,f,g,i,h⟩:=y;unfold tokB
 grind
theorem fq: ∀{l m:List ze},af l m=true↔l=m
 |[],[]=>by simp[af]
 |x::l,y::m=>by rw[af,Fa,VV,fq,List.cons.injEq]
 |[],y::m=>by simp[af]
 |x::l,[]=>by simp[af]
theorem fF{l m:List ze}(h:l.length≠m.length):af l m=false:=by
 cases a:af l m with
 |false=>rfl
 |true=>rw[fq.1 a]at h;grind
theorem FN {l m:List ze} (hl:l.length=m.length) (hn:l.length<=big) {step:Int->Option (LO Int Unit Bool)}
  (h1: ∀(i:Nat) (h:i<l.length),step (i:Int)=bif !(tokB l[i] (m[i]'(hl▸h)))then some (.ret false)else some (.again (w64 ((i:Int)+1))))
  (h2:step (l.length:Int)=some (.out ())):Za step 0 (fun _=>some true)=some (af l m):=by
 have hb:big=4194304:=rfl;refine Qv (fun s=> ∃i:Nat,i<=l.length/\s=(i:Int)/\af (l.drop i) (m.drop i)=af l m) (fun s=>l.length - s.toNat) _ ?_ ⟨0,by omega,rfl,rfl⟩;rintro _ ⟨i,hi,rfl,he⟩;rcases Lc i l.length with h|h
 ·rw[h1 i h];have hm:i<m.length:=hl▸h;rw[show l.drop i=l[i]::l.drop (i+1)from Ab h,show m.drop i=m[i]::m.drop (i+1)from Ab hm,aZ]at he;cases ht:tokB l[i] (m[i]'(hl▸h))with
  |true=> rw[ht,ma]at he;rw[Ya,Ba,zJ (by omega) (by omega)];exact .inl ⟨_,rfl,⟨i+1,by omega,by omega,he⟩,by omega⟩
  |false=>
   grind
 ·have:i=l.length:=by omega
  subst this;rw[De (aa _),De (by omega)]at he;exact .inr (.inl ⟨(),h2,by rw[<-he];rfl⟩)
theorem ax{α:Type}{l:List α}{i:Nat}(h:i<l.length):geti l (i:Int)=some l[i]:=Zo h
theorem int_ne{n m:Nat}:(((n:Int) != (m:Int)):Bool)= !(n==m):=by
 grind
theorem mV{l m:List ze}(d:l.length<=big):qA (l,m)=some (af l m):=by
 unfold qA;rw[int_ne];cases b:l.length==m.length with
 |false=>rw[Va,Ca,fF (Ha.1 b)]
 |true=>
  rw[Ya,Ba];have a:=Cb.1 b;refine FN a d (fun i h=> ?_) ?_
  ·have c:i<m.length:=a▸h;have e:decide ((i:Int)<(l.length:Int))=true:=Ea (by omega);simp only[e,Ca,ax h,ax c,zb,Aa];rfl
  grind
theorem same_eq{l m:List ze}(e:l.length<=big):Ov (l,m)=some (af l m):=by
 unfold Ov;rw[int_ne];cases c:l.length==m.length with
 |false=>rw[Va,Ca,fF (Ha.1 c)]
 |true=>
  rw[Ya,Ba];have a:=Cb.1 c;refine FN a e (fun i h=> ?_) ?_
  ·have b:i<m.length:=a▸h;have f:decide ((i:Int)<(l.length:Int))=true:=Ea (by omega);have d:decide ((0:Int)<=(i:Int))=true:=Ea (by omega);have g:decide ((i:Int)<(m.length:Int))=true:=Ea (by omega);simp only[f,d,g,Ca,ax h,ax b,zb,Aa,Sa,Ta h,Ta b];rfl
  grind
def wrF:Nat->List ze->Str->List ze->Str
 |0,_,b,_=>b
 |_+1,_,b,[]=>b
 |n+1,a,b,t::r=>
  wrF n (a++(t::r).take (pcN (t::r))) ((if af (qz (b++pcS ((t::r).take (pcN (t::r))))) (a++(t::r).take (pcN (t::r)))then b else b++cmtW)++pcS ((t::r).take (pcN (t::r)))) ((t::r).drop (pcN (t::r)))
def wrS(l:List ze):Str:=wrF l.length [] [] l
theorem oJ: ∀(n:Nat) (ts:List ze) (b:Str) (r:List ze),b.length<=(wrF n ts b r).length
 |0,_,_,_=>aa _
 |_+1,_,_,[]=>aa _
 |n+1,ts,b,t::r=>by
  rw[wrF];refine Ic ?_ (oJ n _ _ _)
  grind
def ik(l:List ze):Prop:=(∀t∈l,Pf t=true/\t.text.length<=5000/\t.unit.length<=5000)/\ ∀k,k<l.length->okAt (l.drop k)=true
theorem KN{l:List ze}(h:ik l)(n:Nat):ik (l.drop n):=by refine⟨fun t b=>h.1 t (List.mem_of_mem_drop b),fun k a=> ?_⟩;rw[Ec]at a;rw[Ee];exact h.2 (n+k) (by omega)
theorem Sy{t:ze}{r:List ze}:1<=pcN (t::r):=by rw[Yq];grind
theorem NK{t:ze}{r:List ze}:pcN (t::r)<=3:=by rw[Yq];grind
theorem kJ{t:ze}{r:List ze}(h:ik (t::r)):pcN (t::r)<=(t::r).length/\PcT (pcS ((t::r).take (pcN (t::r)))) ((t::r).take (pcN (t::r))):=by
 obtain⟨P,Q,d,c,b⟩:=zCW (fun u a=>(h.1 u a).1) (h.2 0 (by simp))
 grind
theorem zCI{t:ze}(e:Pf t=true)(g:t.text.length<=5000)(h2:t.unit.length<=5000):(txS t).length<=20100:=by
 have i: ∀l:Str,l.length<=5000->(Zx l).length<=20000:=fun l p=>by have:=uh (l==[45]) (ZN l) l;unfold Zx;omega
 cases Vm e with
 |cId l d h=>rw[Am];grind
 |cFn l d h=>rw[Lj,Ga];grind
 |cAt l d h=>rw[Cm,Ia];grind
 |cHash l f d h j=>
  rw[Ym,Ia];have s:=i l g;have o:=uh false 0 l;have m:l.length<=5000:=g;cases f with
  |true=>rw[show Sg true l=Zx l from rfl];omega
  |false=>rw[show Sg false l=encW false 0 l from rfl];omega
 |cStr l h=>rw[Yk];have:=Dk quoB l;grind
 |cUrl l h=>rw[Km];have:=Dk urB l;grind
 |cDel c h=>rw[Pm];simp
 |cNum n f a b e=>rw[Mm];have:=(Xk a b (!f)).1;omega
 |cPct n a b=>rw[Lm,Ga,Ib];have:=(Xk a b false).1;omega
 |cDim n u f a b e d h=>
  rw[Om,Ga];have:=(Xk a b (!f)).1;have m:u.length<=5000:=h2;have q:(Vf u).length<=20004:=by
   cases u with
   |nil=>grind
   |cons c r=>
    rw[Mk];cases Rh (c::r)with
    |true=>
     rw[Ca,Ga];have:=oh c;have:=uh false 0 r
     grind
    |false=>grind
  omega
 |cMark k a b=>rw[Xm a b];have:=IG k;omega
theorem IE: ∀{l:List ze},(∀t∈l,Pf t=true/\t.text.length<=5000/\t.unit.length<=5000)->(catT l).length<=20100*l.length
 |[],_=>Cc _
 |t::r,h=>by obtain⟨a,b,c⟩:=h t (jb ..);have:=zCI a b c;have:=IE (l:=r) (fun u d=>h u (Xb _ d));rw[catT,Ga,Ia];omega
theorem cK: ∀(l m:List ze),catT (l++m)=catT l++catT m
 |[],m=>rfl
 |t::l,m=>by rw[Xa,catT,catT,cK l m,Oa]
theorem DW {R:Type} {step:Int×List UInt8->Option (LO (Int×List UInt8) (List UInt8) R)} {l:List ze} (m:l.length<=3) (e: ∀t∈l,Pf t=true/\t.text.length<=5000/\t.unit.length<=5000)
  (f: ∀(i:Nat) (a:Str) (hi:i<l.length),step ((i:Int),a)=(Er (l[i],a)).bind fun j=>some (LO.again (w64 ((i:Int)+1),j)))
  (h2: ∀a,step ((l.length:Int),a)=some (.out a)):Nf step (0,[])=some (.out (catT l)):=by
 refine Zv (fun z=> ∃(i:Nat),i<=l.length/\z=((i:Int),catT (l.take i))) (fun z=>l.length - z.1.toNat) _ ?_ ⟨0,by omega,rfl⟩;rintro _ ⟨i,hi,rfl⟩;rcases Lc i l.length with h|h
 ·obtain⟨a,b,c⟩:=e l[i] (Ac h);have g:=IE (l:=l.take i) (fun t d=>e t (Me d));rw[Oc]at g;have k:min i l.length<=2:=by omega
  have d:=YV (acc:=catT (l.take i)) a b c (by
   grind)
  rw[f i _ h,d,Aa];refine .inl ⟨_,rfl,⟨i+1,by omega,?_⟩,by simp only;rw[zJ (by omega) (by omega)];omega⟩;rw[zJ (by omega) (by omega),Kc h,cK];refine Prod.ext (by grind) ?_;show _=catT (l.take i)++(txS l[i]++[])
  grind
 grind
def stO(x:List ze×Str):zH:=⟨(x.1.length:Int),(x.2.length:Int)⟩
theorem OX{b s A B:Str}{ts L us P:List ze}{m:Nat}(h:b=B++A/\A≠[]/\ts=L++us/\us≠[]/\ ∃R,run b L R/\Lk R A/\4<=R.length/\4<=A.length):af (qz (A++s)) (us++P)=af (qz (b++s)) (ts++P):=by
 obtain⟨o,k,i,n,R,j,a,l,e⟩:=h;have g:=Vq (fJ s j l);have f:Lk (R++s) (A++s):=by
  refine DJ a k ?_;rcases a with a|⟨d,y,_,rfl,_⟩
  ·cases A with
   |nil=>grind
   |cons c t=>
    cases t with
    |cons d u=>rw[FV,<-a];exact Hu R
    |nil=>simp at e
  ·rfl
 rw[CK f]at g;rw[g,i,Gf,fq,fq,Oa,List.append_cancel_left_eq]
theorem pE{x:List ze}(h:gluS x=0):x.length<=1500/\(∀t∈x,Pf t=true)/\ ∀k,k<x.length->okAt (x.drop k)=true:=by
 unfold gluS at h;cases hl:decide (x.length<=1500)with
 |false=>grind
 |true=>
  rw[hl,Ca]at h;cases ha:(List.range x.length).all (ll x)with
  |false=>grind
  |true=>
   rw[Rb]at ha;have key: ∀k,k<x.length->Pf (x.getD k default)=true/\okAt (x.drop k)=true:=by intro k hk;have:=ha k (jc.2 hk);unfold ll at this;rw[Fa]at this;exact this
   refine⟨Ob hl,fun t ht=> ?_,fun k hk=>(key k hk).2⟩;obtain⟨k,hk,rfl⟩:=List.mem_iff_getElem.1 ht
   grind
theorem zBu{t:ze}{r:List ze}:(bif t.kind==9 then((pcN (t::r):Nat):Int)==2 else false)=(t.kind==9&&t.text==[92]):=by
 cases a:t.kind==9 with
 |false=>rfl
 |true=>
  have b:rf t=false:=by unfold rf;rw[Cb.1 a];rfl
  rw[Yq,a,Ca,b]
  grind
theorem XE{t:ze}{r:List ze}:pcS ((t::r).take (pcN (t::r)))=bif (t.kind==9&&t.text==[92])then [92,10]else catT ((t::r).take (pcN (t::r))):=by
 obtain⟨k,a⟩: ∃k,pcN (t::r)=k+1:=⟨pcN (t::r) - 1,by have:=Sy (t:=t) (r:=r);omega⟩;rw[a,He,pcS]
 grind
theorem MM{n:Nat}{ts:List ze}{b:Str}{t:ze}{r:List ze}{s:Str}{P:List ze}(a:(t::r).take (pcN (t::r))=P)(c:pcS P=s):
  wrF (n+1) ts b (t::r)=wrF n (ts++P) ((if af (qz (b++s)) (ts++P)then b else b++cmtW)++s) ((t::r).drop (pcN (t::r))):=by
 subst c a;rw[wrF]
theorem ap16{n:Nat}(h:n<=99999):Zc n 1 16=true:=Mj (by omega) (by omega)
theorem LJ{n m:Nat}(h:n+m<=200000):Zc n m 1=true:=by
 unfold Zc
 grind
theorem zAj{R:Type}{i:Int}{b:Str}{ts:List ze}{st:List (List ze×Str)}(h:zBq b ts st)(g:st.length<=100000): ∃L B A us,
  (bif decide (w64 (((st.map stO).length:Int) - 4)>=0)then
        need (decide (0<=w64 (((st.map stO).length:Int) - 4))&&decide (w64 (((st.map stO).length:Int) - 4)<((st.map stO).length:Int)))<|
        ((st.map stO)[(w64 (((st.map stO).length:Int) - 4)).toNat]?).bind fun c=>
        some (LX.out (i,b,st.map stO,c))
       else
        some (LX.out (i,b,st.map stO,(⟨0,0⟩:zH))))=(some (LX.out (i,b,st.map stO,stO (L,B))):Option (LX (Int×List UInt8×List zH×zH) R))/\
  b=B++A/\ts=L++us/\ ∀s P,af (qz (A++s)) (us++P)=af (qz (b++s)) (ts++P):=by
 rw[Fb];by_cases l:4<=st.length
 ·obtain⟨A,R,us,d,k,e,a,j,f,o,n⟩:=h.bd (st.length - 4) (by omega);refine⟨st[st.length - 4].1,st[st.length - 4].2,A,us,?_,d,e,fun s P=>OX (m:=0) ⟨d,k,e,a,R,j,f,by omega,by omega⟩⟩;rw[zJ (by omega) (by omega),Ea (by omega),Ca,Ea (by omega),Bool.and_self,Zi,show((st.length:Int) - 4).toNat=st.length - 4 by omega,La,Ta (by omega)];rfl
 ·refine⟨[],[],b,ts,?_,rfl,rfl,fun s P=>rfl⟩;rw[zJ (by omega) (by omega),Ra (by omega),Ba];rfl
theorem lX{x:List ze}(hx: ∀t∈x,t.text.length<=5000/\t.unit.length<=5000):
  jv x=some (if gluS x=0 then(if 4000<(wrS x).length then([],28)else(wrS x,0))else([],gluS x)):=by
 unfold jv;have hbig:big=4194304:=rfl;rw[nQ (fun t ht=>by grind)];simp only[zb,Aa];by_cases hg:gluS x=0
 ·rw[Ka hg,hg,show((0:Int) != 0)=false from rfl,Ba];obtain⟨hlen,hfine,hok⟩:=pE hg;have hrest:ik x:=⟨fun t ht=>⟨hfine t ht,hx t ht⟩,hok⟩;refine Qv (fun z=> ∃(i:Nat) (b:Str) (st:List (List ze×Str)) (n:Nat),z=((i:Int),b,st.map stO)/\i<=x.length/\Syn b (x.take i) st/\b.length<=4000/\x.length - i<=n/\wrF n (x.take i) b (x.drop i)=wrS x/\st.length<=i) (fun z=>x.length - z.1.toNat) _ ?_
   ⟨0,[],[],x.length,rfl,Cc _, .nil,Cc _,aa _,rfl,aa _⟩
  rintro _ ⟨i,b,st,n,rfl,hi,hsyn,hbl,hn,hW,hst⟩;simp only;rcases Lc i x.length with h|h
  ·have hro:=KN hrest i;have hdr:x.drop i=x[i]::x.drop (i+1):=Ab h;obtain⟨t,ht⟩: ∃t,t=x[i]:=⟨_,rfl⟩;obtain⟨r,hr⟩: ∃r,r=x.drop (i+1):=⟨_,rfl⟩;rw[<-ht,<-hr]at hdr;rw[hdr]at hro hW;have hlr:(t::r).length=x.length - i:=by rw[<-hdr,Ec]
   obtain⟨hk1,hpc⟩:=kJ hro;have hk0:=Sy (t:=t) (r:=r);have hk3:=NK (t:=t) (r:=r);obtain⟨k,hk⟩: ∃k,pcN (t::r)=k:=⟨_,rfl⟩;obtain⟨P,hP⟩: ∃P,(t::r).take k=P:=⟨_,rfl⟩;obtain⟨s,hs⟩: ∃s,pcS P=s:=⟨_,rfl⟩;have hst':=XE (t:=t) (r:=r);have hstep:=fun m=>MM (n:=m) (ts:=x.take i) (b:=b) (t:=t) (r:=r) (s:=s) (P:=P) (by rw[hk];exact hP) hs;have e3:QV (List.drop i x)=some ((k:Nat):Int):=by rw[hdr,<-hk];exact yX (by grind) (hro.2 0 (by simp))
   have hb2:=zBu (t:=t) (r:=r);rw[hk]at hk0 hk1 hk3 hpc hst' hb2 hstep;rw[hP]at hpc hst';rw[hs]at hpc hst';rw[hlr]at hk1;have e1:decide ((i:Int)<(x.length:Int))=true:=Ea (by omega);have e2:(decide ((0:Int)<=(i:Int))&&decide ((i:Int)<=(x.length:Int)))=true:=by rw[Ea (by omega),Ea (by omega)];rfl
   have e4:w64 ((i:Int)+((k:Nat):Int))=((i+k:Nat):Int):=by rw[zJ (by omega) (by omega)];omega
   have e5:(decide ((0:Int)<=(i:Int))&&(decide ((i:Int)<=((i+k:Nat):Int))&&decide (((i+k:Nat):Int)<=(x.length:Int))))=true:=by rw[Ea (by omega),Ea (by omega),Ea (by omega)];rfl
   have e6:geti x (i:Int)=some t:=by rw[Zo h,ht]
   have e7:List.drop i (List.take (i+k) x)=P:=by rw[List.drop_take,hdr,show i+k - i=k by omega,hP]
   simp only[e1,e2,e3,e4,e5,e6,Ca,Zi,Aa,Sa,e7];have hPl:P.length<=3:=by rw[<-hP,Oc];omega
   have hPf: ∀u∈P,Pf u=true/\u.text.length<=5000/\u.unit.length<=5000:=fun u hu=>hro.1 u (by grind);have hsl:s.length<=60400:=by
    have:=IE hPf;rw[hst'];cases t.kind==9&&t.text==[92]with
    |true=>grind
    |false=>grind
   rw[Ze (DW (l:=P) hPl hPf (fun j a hj=> ?_) (fun a=> ?_))]
   ·rw[hb2];have hj9:(bif (t.kind==9&&t.text==[92])then some (LX.out ((i:Int),b,st.map stO,[(92:UInt8),(10:UInt8)]))else some (LX.out ((i:Int),b,st.map stO,catT P)))=(some (LX.out ((i:Int),b,st.map stO,s)):Option (LX (Int×List UInt8×List zH×List UInt8) (LO (Int×List UInt8×List zH) (List UInt8) (Str×Int)))):=by rw[hst'];cases t.kind==9&&t.text==[92]<;>rfl
    rw[hj9,zh];simp only;have hsok:=zCC hsyn;obtain⟨L,B,A,us,hfrom,hbA,hts,hwin⟩:=zAj (R:=LO (Int×List UInt8×List zH) (List UInt8) (Str×Int)) (i:=(i:Int)) hsok (by omega);rw[hfrom,zh];have hBl:B.length<=b.length:=by rw[hbA,Ga];omega
    have hAl:A.length<=b.length:=by rw[hbA,Ga];omega
    have f1:(decide ((0:Int)<=(stO (L,B)).at_)&&decide ((stO (L,B)).at_<=(b.length:Int)))=true:=by show(decide ((0:Int)<=(B.length:Int))&&decide ((B.length:Int)<=(b.length:Int)))=true;rw[Ea (by omega),Ea (by omega)];rfl
    have f2:(stO (L,B)).at_.toNat=B.length:=Sa _;have f3:decide (B.length+(b.length - B.length)<=b.length)=true:=Ea (by omega);have f4:List.take (b.length - B.length) (List.drop B.length b)=A:=by rw[hbA,List.drop_left,Ga,show B.length+A.length - B.length=A.length by omega,Ue]
    have f5:Zf A.length s.length=true:=zO.2 (by omega);simp only[f1,f2,f3,f4,f5,Zi,PZ,Aa,e4,Sa];have htl:(stO (L,B)).token=(L.length:Int):=rfl;have hLl:L.length<=i:=by have:=congrArg List.length hts;rw[Oc,Ga]at this;omega
    have htk:List.drop L.length (List.take (i+k) x)=us++P:=by
     have:List.take (i+k) x=L++(us++P):=by rw[List.take_add,hdr,hP,hts,Oa]
     rw[this,List.drop_left]
    have hPlen:P.length=k:=by rw[<-hP,Oc];omega
    have husP:(us++P).length<=1500:=by have h1:=congrArg List.length hts;rw[Oc,Ga]at h1;rw[Ga,hPlen];omega
    have hcl:clB (A++s)=true:=by have h1:=zBD hsyn;rw[hbA,Qz,Fa]at h1;rw[Qz,h1.2,fB hpc];rfl
    obtain⟨c,hc⟩: ∃c,c=af (qz (b++s)) (x.take i++P):=⟨_,rfl⟩;have hwinc:af (qz (A++s)) (us++P)=c:=by rw[hc];exact hwin s P
    obtain⟨c',hc'⟩: ∃c',c'=(decide ((A++s).length<=4000)&&c):=⟨_,rfl⟩;have hneed:(decide ((0:Int)<=(stO (L,B)).token)&&(decide ((stO (L,B)).token<=((i+k:Nat):Int))&&decide (((i+k:Nat):Int)<=(x.length:Int))))=true:=by rw[htl,Ea (by omega),Ea (by omega),Ea (by omega)];rfl
    have hcat: ∀(E:Option (LX (Int×List zH×List UInt8) (LO (Int×List UInt8×List zH) (List UInt8) (Str×Int)))),
      E=(need (decide ((0:Int)<=(stO (L,B)).token)&&(decide ((stO (L,B)).token<=((i+k:Nat):Int))&&decide (((i+k:Nat):Int)<=(x.length:Int)))|| !(!((dm (A++s)).2 != 0)))<|
       (zq (!((dm (A++s)).2 != 0)) (qA ((dm (A++s)).1,List.drop (stO (L,B)).token.toNat (List.take (i+k) x))) (default:Bool)).bind fun y13=>
       bif bif (dm (A++s)).2 != 0 then true else !y13 then
        need (Zc b.length ([47,42,42,47]:Str).length 1)<|
        some (LX.out ((i:Int),st.map stO,b++([47,42,42,47]:Str)))
       else
        some (LX.out ((i:Int),st.map stO,b)))->E=some (LX.out ((i:Int),st.map stO,if c' then b else b++cmtW)):=by
     rintro E rfl;rw[hneed,Wd,Zi,show(stO (L,B)).token.toNat=L.length from Sa _,htk];have happ:Zc b.length ([47,42,42,47]:Str).length 1=true:=LJ (by grind);unfold dm;by_cases hlong:4000<(A++s).length
     ·rw[Ka hlong];have:c'=false:=by rw[hc',Ra (by omega)];rfl
      rw[this];simp only[show((28:Int) != 0)=true from rfl,Ya,zP,Aa,Ca,happ,Zi];rfl
     ·rw[Ja hlong,WM _ hcl];have hcc:c'=c:=by rw[hc',Ea (by omega)];rfl
      by_cases hmany:1500<(qz (A++s)).length
      ·rw[Ka hmany];have:c'=false:=by rw[hcc,<-hwinc];exact fF (by omega)
       rw[this];simp only[show((4:Int) != 0)=true from rfl,Ya,zP,Aa,Ca,happ,Zi];rfl
      ·rw[Ja hmany];simp only[show((0:Int) != 0)=false from rfl,Va,zx,Ba,mV (show(qz (A++s)).length<=big by omega),hwinc,Aa,happ,Zi]
       grind
    rw[hcat _ rfl,zh];simp only;obtain⟨m,hm⟩: ∃m,n=m+1:=⟨n - 1,by omega⟩;subst hm;rw[hstep m,<-hc]at hW;have hWl:=oJ m (x.take i++P) ((if c then b else b++cmtW)++s) ((t::r).drop k);rw[hW]at hWl;have hcw:cmtW.length=4:=rfl;have hb1:(if c' then b else b++cmtW).length<=4004:=by
     split
     ·omega
     ·grind
    rw[zm (ap16 (by grind)),zm (LJ (by omega))];have hbs:b.length+s.length<=(wrS x).length:=by
     refine Ic ?_ hWl;rw[Ga];split
     ·omega
     ·grind
    by_cases hbig2:4000<((if c' then b else b++cmtW)++s).length
    ·grind
    ·rw[Ra (by omega),Ba];have hcc:c'=c:=by
      have:(A++s).length<=4000:=by
       rw[Ga]at hbig2 ⊢;have:b.length<=(if c' then b else b++cmtW).length:=by
        split
        ·grind
        ·grind
       omega
      rw[hc',Ea this];rfl
     rw[hcc]at hbig2 ⊢;have hxt:x.take (i+k)=x.take i++P:=by rw[List.take_add,hdr,hP]
     refine .inl ⟨_,rfl,⟨i+k,(if c then b else b++cmtW)++s,st++[(x.take i,if c then b else b++cmtW)],m,?_,by omega,?_,by omega,by omega,?_,?_⟩,?_⟩
     ·refine Prod.ext e4 (Prod.ext rfl ?_);rw[Re];show st.map stO++[_]=st.map stO++[stO (x.take i,if c then b else b++cmtW)];unfold stO
      grind
     ·rw[hxt];cases hcb:c with
      |true=> rw[Ka rfl];exact .no b s _ P st hsyn hpc (fq.1 (by rw[<-hc,hcb]))
      |false=> rw[Ja (by decide)];refine .cmt b s _ P st hsyn ?_ hpc;rintro rfl;have h0:=hsok.tok;rw[Q4 (qg rfl)]at h0;rw[<-h0,Ub,Ub,MK hpc]at hc;rw[hcb,fq.2 rfl]at hc;cases hc
     ·rw[hxt,<-hW,<-Ee,hdr]
     ·rw[Ga,Ib];omega
     ·simp only;rw[e4];omega
   ·have d1:decide ((j:Int)<(P.length:Int))=true:=Ea (by omega);simp only[d1,Ca,Zo hj,Aa]
   ·simp only;rw[Ra (by omega),Ba]
  ·have:i=x.length:=by omega
   subst this;have e1:decide ((x.length:Int)<(x.length:Int))=false:=Ra (by omega);simp only[e1,Ba];refine .inr (.inl ⟨_,rfl,?_⟩);rw[De (aa _)]at hW;have hWb:b=wrS x:=by
    cases n with
    |zero=>rw[wrF]at hW;exact hW
    |succ n=>rw[wrF]at hW;exact hW
   rw[<-hWb,Ja (by omega)]
 grind
theorem xO {S X R:Type} {step:S->Option (LO S X R)} {k:X->Option R} (Inv:S->Prop) (c:S->Nat) (Q:R->Prop)
  (h: ∀s,Inv s->(∃s',step s=some (.again s')/\Inv s'/\c s'<c s)\/(∃x y,step s=some (.out x)/\k x=some y/\Q y)\/(∃y,step s=some (.ret y)/\Q y)) {s:S} (e:Inv s): ∃y,Za step s k=some y/\Q y:=by
 have d: ∀(m:Nat) (s:S),c s<m->Inv s-> ∃(r:LX X R) (y:R),qy step m s=some r/\r.go k=some y/\Q y:=by
  intro m
  induction m with
  |zero=>intro s h;omega
  |succ m i=>
   intro s g e;simp only[qy];rcases h s e with⟨s',a,b,f⟩|⟨x,y,a,b,f⟩|⟨y,a,b⟩
   ·grind
   ·simp_all
   simp_all
 obtain⟨r,y,a,b,f⟩:=d (c s+1) s (by omega) e;exact⟨y,by rw[Ci (mh a)];exact b,f⟩
end Go.Lv.VT
