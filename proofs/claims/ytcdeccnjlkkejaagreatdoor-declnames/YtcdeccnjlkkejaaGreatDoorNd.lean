/- Pieces: what is written at once; how they begin. -/
import Derived.Test.YtcdeccnjlkkejaaGreatDoorNc
import Derived.Test.YtcdeccnjlkkejaaGreatDoorNam
set_option linter.unusedSimpArgs false
set_option linter.unusedVariables false
namespace Go.Lv.VT
set_option maxRecDepth 100000
abbrev tkSp:ze:=⟨13,[],0,[],false⟩
inductive PcT:Str->List ze->Prop
 |one (t:ze) (h:ze5 t) (hb: ¬(t.kind=9/\t.text=[92])) (hu:Og t=false):PcT (txS t) [t]
 |back:PcT [92,10] [⟨9,[92],0,[],false⟩,tkSp]
 |url (l m:Str) (s:Bool) (h:Zt l=true) (hl:lowS l=[117,114,108]) (hm:Zt m=true):
   PcT (ZQ l++40::((if s then [32]else [])++34::(encB quoB m++[34]))) (⟨2,l,0,[],false⟩::((if s then [tkSp]else [])++[⟨5,m,0,[],false⟩]))
theorem SK{l:Str}(h:lowS l=[117,114,108]): ∃a r,l=a::r/\(a=117\/a=85):=by
 cases l with
 |nil=>cases h
 |cons a r=>
  have h1:Yj a=117:=by unfold lowS at h;rw[Oc]at h;injection h
  have: ∀n:Nat,n<256->Yj (UInt8.ofNat n)=117->UInt8.ofNat n=117\/UInt8.ofNat n=85:=by decide+kernel
  have:=this a.toNat (Bb a);simp_all
theorem Ju{l:Str}(a:l≠[])(z:Str):nmS (ZQ l++40::z)=true:=VI (Bj a) (by show(40:UInt8)≠10;decide)
theorem Ho{k:Int}(a:13<=k)(h2:k<=24):k=13\/k=14\/k=15\/k=16\/k=17\/k=18\/k=19\/k=20\/k=21\/k=22\/k=23\/k=24:=by omega
theorem jw{s:Str}{P:List ze}(h:PcT s P):nmS s=true\/(∃n p U t,P=[t]/\s=numT n p++U/\t.num=n/\(U=[]/\t.kind=10\/U=[37]\/ ∃u,u≠[]/\Zt u=true/\U=Uf u))\/
  (∃c r,s=c::r/\(c=64\/c=35\/c=34)/\nbS s=false)\/(∃c,s=[c]/\Wh c.toNat=true)\/(∃k,13<=k/\k<=24/\s=ek k)\/s=[92,10]:=by
 cases h with
 |one t h q v=>
  cases h with
  |cId l b h=>left;rw[nk];exact Bj b
  |cFn l b h=>left;rw[Mj];exact Ju b []
  |cAt l b h=>right;right;left;rw[om];exact⟨64,_,rfl, .inl rfl,rfl⟩
  |cHash l f b h j=>right;right;left;rw[dn];exact⟨35,_,rfl, .inr (.inl rfl),rfl⟩
  |cStr l h=>right;right;left;rw[Jl];exact⟨34,_,rfl, .inr (.inr rfl),rfl⟩
  |cUrl l h=>left;rw[Un];rfl
  |cDel c h=>right;right;right;left;rw[Bn];grind
  |cNum n f d e g=>right;left;exact⟨n, !f,[],_,rfl,by rw[Wn,Cb],rfl, .inl ⟨rfl,rfl⟩⟩
  |cPct n d e=>right;left;exact⟨n,false,[37],_,rfl,Vn n,rfl, .inr (.inl rfl)⟩
  |cDim n u f d e g b h=>right;left;exact⟨n, !f,Uf u,_,rfl,ym n u f,rfl, .inr (.inr ⟨u,b,h,rfl⟩)⟩
  |cMark k d e=>right;right;right;right;left;exact⟨k,d,e,bn d e⟩
 |back=>grind
 |url l m s h i o=> left;obtain⟨a,r,rfl,_⟩:=SK i;exact Ju (by simp) _
theorem VD(c:UInt8)(h:Wh c.toNat=true):spB c=false/\nbS [c]=false/\c≠101/\c≠69:=by
 have: ∀n:Nat,n<256->Wh (UInt8.ofNat n).toNat=true->spB (UInt8.ofNat n)=false/\nbS [UInt8.ofNat n]=false/\UInt8.ofNat n≠101/\UInt8.ofNat n≠69:=by decide+kernel
 have:=this c.toNat (Bb c);simp_all
theorem FU{s:Str}(h:digB (atS (unsign s) 0)=true):nbS s=true:=by
 unfold nbS undot;have:(atS (unsign s) 0==46)=false:=Ja.2 (QP h).2.2.1
 grind
theorem Tu{s:Str}{P:List ze}(h:PcT s P)(d:digB (atS (unsign s) 0)=true): ∃n p U t,P=[t]/\s=numT n p++U/\t.num=n/\(U=[]/\t.kind=10\/U=[37]\/ ∃u,u≠[]/\Zt u=true/\U=Uf u):=by
 have a:=FU d;rcases jw h with h|h|⟨c,r,e,_,h⟩|⟨c,rfl,f⟩|⟨k,b,g,rfl⟩|rfl
 ·rw[uF h]at a;cases a
 ·exact h
 ·grind
 ·rw[(VD c f).2.1]at a;cases a
 ·rcases Ho b g with rfl|rfl|rfl|rfl|rfl|rfl|rfl|rfl|rfl|rfl|rfl|rfl<;>cases a
 ·cases a
theorem H9{s:Str}{P:List ze}(h:PcT s P)(a:spB (atS s 0)=true):s=[32]:=by
 rcases jw h with h|⟨n,p,U,t,_,rfl,_⟩|⟨c,r,rfl,g,_⟩|⟨c,rfl,f⟩|⟨k,d,b,rfl⟩|rfl
 ·rw[(oq (dm h)).1]at a;cases a
 ·obtain⟨c,r,e,_,b,_⟩:=Ll n p U;rw[e]at a;rw[show atS (c::r) 0=c from rfl,b]at a;cases a
 ·rcases g with rfl|rfl|rfl<;>cases a
 ·rw[show atS [c] 0=c from rfl,(VD c f).1]at a;cases a
 ·rcases Ho d b with rfl|rfl|rfl|rfl|rfl|rfl|rfl|rfl|rfl|rfl|rfl|rfl<;>first|rfl|cases a
 ·cases a
theorem Xv{s:Str}{P:List ze}(h:PcT s P){b:UInt8}(f:b=47\/b=42)(d:atS s 0=b):s=[b]:=by
 rcases jw h with h|⟨n,p,U,t,_,rfl,_⟩|⟨c,r,rfl,g,_⟩|⟨c,rfl,j⟩|⟨k,a,i,rfl⟩|rfl
 ·have a:=dm h;rw[d]at a;rcases f with rfl|rfl<;>cases a
 ·obtain⟨c,r,e,a,_⟩:=Ll n p U;rw[e]at d;rw[show c=b from d]at a;rcases f with rfl|rfl<;>cases a
 ·rw[show c=b from d]at g
  grind
 ·rw[show c=b from d]
 ·rcases Ho a i with rfl|rfl|rfl|rfl|rfl|rfl|rfl|rfl|rfl|rfl|rfl|rfl<;>rcases f with rfl|rfl<;>cases d
 ·rcases f with rfl|rfl<;>cases d
theorem jh{s:Str}{P:List ze}(h:PcT s P):s≠[]:=by
 rcases jw h with h|⟨n,p,U,t,_,rfl,_⟩|⟨c,r,rfl,d,_⟩|⟨c,rfl,f⟩|⟨k,b,a,rfl⟩|rfl
 ·exact Ui h
 ·obtain⟨c,r,e,_⟩:=Ll n p U;rw[e];simp
 ·simp
 ·simp
 ·rcases Ho b a with rfl|rfl|rfl|rfl|rfl|rfl|rfl|rfl|rfl|rfl|rfl|rfl<;>decide
 ·simp
theorem IU{l:Str}{c:UInt8}{r:Str}(b:c=101\/c=69)(h:ZQ l=c::r): ∃t,l=c::t:=by
 cases l with
 |nil=>unfold ZQ at h;rw[encW]at h;cases h
 |cons a t=>
  have g:ZQ (a::t)=pcW ((a::t:Str)==[45]) (Qi (a::t)) a++encW ((a::t:Str)==[45]) (Qi (a::t) - 1) t:=rfl;obtain⟨d,u,e,f⟩:=kw (dash:=(a::t:Str)==[45]) (k:=Qi (a::t)) (by unfold Qi;split<;>omega) a (encW ((a::t:Str)==[45]) (Qi (a::t) - 1) t)
  grind
theorem SQ{s:Str}{P:List ze}(h:PcT s P)(b:atS s 0=101\/atS s 0=69): ∃l t z,Zt l=true/\P=[t]/\(t.kind=1\/t.kind=2)/\t.text=l/\s=ZQ l++z/\(z=[]\/z=[40]):=by
 cases h with
 |one t h B C=>
  cases h with
  |cId l i h=>exact⟨l,_,[],h,rfl, .inl rfl,rfl,by rw[nk,Cb], .inl rfl⟩
  |cFn l i h=>exact⟨l,_,[40],h,rfl, .inr rfl,rfl,Mj l, .inr rfl⟩
  |cAt l i h=>rw[om]at b;rcases b with b|b<;>cases b
  |cHash l f i h v=>rw[dn]at b;rcases b with b|b<;>cases b
  |cStr l h=>rw[Jl]at b;rcases b with b|b<;>cases b
  |cUrl l h=>rw[Un]at b;rcases b with b|b<;>cases b
  |cDel c h=>
   rw[Bn]at b;obtain⟨_,_,p,q⟩:=VD c h;rcases b with b|b
   ·exact absurd b p
   ·exact absurd b q
  |cNum n f d g w=>
   rw[Wn]at b;obtain⟨c,r,e,d,_⟩:=Ll n (!f) [];rw[Cb]at e;rw[e]at b;rcases b with b|b<;>(rw[show c=_ from b]at d;cases d)
  |cPct n d g=>
   rw[Vn]at b;obtain⟨c,r,e,d,_⟩:=Ll n false [37];rw[e]at b;rcases b with b|b<;>(rw[show c=_ from b]at d;cases d)
  |cDim n u f d g w i h=>
   rw[ym]at b;obtain⟨c,r,e,d,_⟩:=Ll n (!f) (Uf u);rw[e]at b;rcases b with b|b<;>(rw[show c=_ from b]at d;cases d)
  |cMark k d g=> rw[bn d g]at b;rcases Ho d g with rfl|rfl|rfl|rfl|rfl|rfl|rfl|rfl|rfl|rfl|rfl|rfl<;>rcases b with b|b<;>cases b
 |back=>rcases b with b|b<;>cases b
 |url l m s h o y=>
  exfalso;obtain⟨a,r,rfl,D⟩:=SK o;obtain⟨c,A,e⟩:=Lh (Ui (Bj (l:=a::r) (by simp)));have j:c=101\/c=69:=by rw[e]at b;exact b
  obtain⟨t,x⟩:=IU j e;injection x with e3 _
  grind
def ShS(s r:Str):Prop:=r=s\/ ∃d y,digB d=true/\s=48::46::d::y/\r=46::d::y
theorem rJ(cap:Nat)(l:Str):capF cap 0 (48::l)=capF cap 0 l:=by show capF cap (min cap (decN 0 48)) l=_;rw[show decN 0 48=0 from rfl,Nat.min_zero]
theorem FV(A:Str)(p:Int):thoV (48::A) p=thoV A p:=by
 unfold thoV;by_cases a:p<0
 ·rw[Ia a,Ia a];by_cases c:(A.length:Int)+p<0
  ·have b:(((48::A:Str).length:Int)+p).toNat=0:=by rw[Ka];omega
   grind
  ·have b:(((48::A:Str).length:Int)+p).toNat=((A.length:Int)+p).toNat+1:=by rw[Ka];omega
   rw[b,Bg,rJ]
 ·rw[Fa a,Fa a,rJ]
theorem Xx(d:UInt8)(y:Str)(e:digB d=true):Zy (48::46::d::y)=Zy (46::d::y):=by
 have j:Jf 48=false/\Jf 46=false:=by decide
 have b:Cf (48::46::d::y)=46::d::y:=rfl;have a:Cf (46::d::y)=46::d::y:=rfl;have h:zI (48::46::d::y)=zI (46::d::y):=by rw[Qy,Qy,b,a]
 have g:(numP (48::46::d::y)).val=(numP (46::d::y)).val:=by have c:numP (48::46::d::y)=⟨[],[48],dotP (46::d::y),expP (Za (46::d::y)).1⟩:=rfl;have i:numP (46::d::y)=⟨[],[],dotP (46::d::y),expP (Za (46::d::y)).1⟩:=rfl;rw[c,i];unfold NumP.val;simp only[Uc,Xb,FV]
 have f:nbS (46::d::y)=true:=e;rw[Om,Fa (by decide),Fa (by decide),show((48:UInt8)==35)=false from rfl,Nb,Fa (by decide),show nbS (48::46::d::y)=true from rfl,Ia rfl,
  Om,Fa (by decide),Fa (by decide),show((46:UInt8)==35)=false from rfl,Nb,Fa (by decide),f,Ia rfl]
 unfold zG;rw[h,g]
theorem capG(cap:Nat): ∀(l:Str) (n:Nat),valG n l<=cap->capF cap n l=valG n l
 |[],n,_=>rfl
 |c::l,n,h=>by
  have b:valG n (c::l)=valG (decN n c) l:=rfl;rw[b]at h ⊢;have a:decN n c<=valG (decN n c) l:=by rw[Dr l (decN n c)];have:=Xd (decN n c) (Yf (n:=l.length) (show 0<10 by omega));omega
  rw[capF,Nat.min_eq_right (Ub a h)];exact capG cap l (decN n c) h
theorem PH: ∀(k n:Nat),n*10 ^ k<=1000->Jh k n=n*10 ^ k
 |0,n,_=>by rw[Jh,Nat.pow_zero,ve]
 |k+1,n,h=>by
  have c:mg=1000000000000:=rfl;rw[Jh];have a:0<10 ^ k:=Yf (by omega);have e:n*10 ^ (k+1)=10*n*10 ^ k:=by rw[Nat.pow_succ,Nat.mul_comm 10 n,Nat.mul_assoc,Nat.mul_comm (10 ^ k) 10]
  have d:10*n<=10*n*10 ^ k:=Xd _ a;by_cases b:n=0
  ·subst b;simp
  ·rw[Fa (by omega),Nat.min_eq_right (by omega),PH k (10*n) (by omega),e]
theorem aV{n:Int}{p:Bool}(hp:(partT (n.natAbs%1000) p).isEmpty=false){U:Str}(hU:past digB U=U)(hx:expS U=none):
  (numP (46::(partT (n.natAbs%1000) p++U))).val=((n.natAbs%1000:Nat):Int):=by
 obtain⟨k1,k2,k3,_,_⟩:=Aj (r:=n.natAbs%1000) (by omega) p;generalize partT (n.natAbs%1000) p=F at*;obtain⟨c,r,rfl⟩:=Lh (show F≠[] by grind);have hc:digB c=true:=by rw[Nc,Ca]at k1;exact k1.1
 have hq:Cf (46::(c::r++U))=46::(c::r++U):=rfl;have hpast:past digB (c::r++U)=U:=by rw[lw _ _ k1,hU]
 have hw:Za (46::(c::r++U))=(U,false):=by unfold Za;rw[show atS (46::(c::r++U)) 1=c from rfl,hc,show(atS (46::(c::r++U)) 0==46&&true)=true from rfl,Ia rfl,show(46::(c::r++U)).drop 1=c::r++U from rfl,hpast]
 have hrun:List.takeWhile digB (c::r++U)=c::r:=by have:=Ps digB (c::r++U);rw[hpast]at this;exact List.append_cancel_right this
 have hd:dotP (46::(c::r++U))=some (c::r):=by unfold dotP;rw[show atS (46::(c::r++U)) 1=c from rfl,hc,show(atS (46::(c::r++U)) 0==46&&true)=true from rfl,Ia rfl,show(46::(c::r++U)).drop 1=c::r++U from rfl,hrun]
 have he:expP U=none:=by unfold expP;rw[Rk]at hx;rw[hx,Fa (by decide)]
 have hP:numP (46::(c::r++U))=⟨[],[],some (c::r),none⟩:=by show(⟨sgOf (46::(c::r++U)),_,dotP (46::(c::r++U)),expP (Za (46::(c::r++U))).1⟩:NumP)=_;rw[hd,hw,he];rfl
 rw[hP];unfold NumP.val;show(((thoV ([]++(c::r)) (3+0 - ((c::r:Str).length:Int))):Nat):Int)=_;unfold thoV;rw[Xb,Fa (by omega),show(3+0 - ((c::r:Str).length:Int)).toNat=3 - (c::r:Str).length by omega];have hle:valG 0 (c::r)<=1000:=by have:=Xd (valG 0 (c::r)) (Yf (n:=3 - (c::r:Str).length) (show 0<10 by omega));omega
 rw[capG _ _ _ (by unfold mg;omega),PH _ _ (by omega),k3]
theorem nV{m:Nat}(h:m=0):Lib.decDigits m=[48]:=by subst h;decide+kernel
theorem Nv{t:ze}{U:Str}(f:U=[]/\t.kind=10\/U=[37]\/ ∃u,u≠[]/\Zt u=true/\U=Uf u):past digB U=U/\expS U=none/\(U=[]\/U=[37]\/(nmS U=true/\(zm U).2=[])):=by
 rcases f with⟨rfl,_⟩|rfl|⟨u,a,h,rfl⟩
 ·exact⟨rfl,rfl, .inl rfl⟩
 ·exact⟨rfl,rfl, .inr (.inl rfl)⟩
 ·have c:=MB a h;have e:=(FB c []).1;have d:=bN a h (x:=[]) (.inl rfl);have b:=lD a h [];rw[Cb]at e d b;exact⟨e,d, .inr (.inr ⟨c,by rw[b,qA]⟩)⟩
theorem oz(n:Int)(p:Bool)(U:Str):past digB (unsign (numT n p++U))=past digB (dotS (if(partT (n.natAbs%1000) p).isEmpty then none else some (partT (n.natAbs%1000) p))++U):=q2_T n p U
theorem WB{n:Int}{p:Bool}(U:Str)(a:(partT (n.natAbs%1000) p).isEmpty=true):past digB (unsign (numT n p++U))=past digB U:=by rw[oz,a];rfl
theorem VB{n:Int}{p:Bool}(U:Str)(a:(partT (n.natAbs%1000) p).isEmpty=false):past digB (unsign (numT n p++U))=46::(partT (n.natAbs%1000) p++U):=by rw[oz,a];rfl
theorem aR(z:Str):expS (46::z)=none:=rfl
theorem vF(z:Str):nmS (46::z)=false:=rfl
theorem TU{s r:Str}{P:List ze}(h:PcT s P)(x:digB (atS s 0)=true)(f:r=past digB s)(F:nmS r=false)(m:(atS r 0==37)=false)(d:qB r=P):ShS s r:=by
 have u:unsign s=s:=by unfold unsign Jf;rw[Ja.2 (QP x).1,Ja.2 (QP x).2.1];rfl
 obtain⟨n,p,U,t,rfl,rfl,g,z⟩:=Tu h (by grind);obtain⟨w,D,A⟩:=Nv z;rw[<-u,oz]at f;cases j:(partT (n.natAbs%1000) p).isEmpty with
 |true=>
  rw[j]at f;have a:r=U:=by rw[f];exact w
  subst a;rcases A with rfl|rfl|⟨G,_⟩
  ·rw[Q6 (qg rfl)]at d;cases d
  ·cases m
  grind
 |false=>
  rw[j]at f;have a:r=46::(partT (n.natAbs%1000) p++U):=by rw[f];rfl
  have B:=aV j w D;obtain⟨c,q,i⟩:=Lh (show partT (n.natAbs%1000) p≠[] by grind);have b:=XC (n:=n) (p:=p);have v:digB c=true:=by rw[i,Nc,Ca]at b;exact b.1
  have k:cmtS r=46::(partT (n.natAbs%1000) p++U):=by rw[a];exact qg rfl
  rw[QV k]at d;injection d with d _;have l:Zy (46::(partT (n.natAbs%1000) p++U))=zG (46::(partT (n.natAbs%1000) p++U)):=by
   have o:nbS (46::(partT (n.natAbs%1000) p++U))=true:=by rw[i];exact v
   rw[Om,Fa (by decide),Fa (by decide),show((46:UInt8)==35)=false from rfl,Nb,Fa (by decide),o,Ia rfl]
  have e: ∀q:Str,(zG q).1.num=(numP q).val:=by
   intro q;unfold zG;split
   ·rfl
   ·split<;>rfl
  rw[l]at d;have y:=e (46::(partT (n.natAbs%1000) p++U));rw[d,B,g]at y;have E:n.natAbs / 1000=0:=by omega
  have C:numT n p++U=48::46::c::(q++U):=by rw[uq,j,nV E,i];unfold sgT;rw[Fa (by omega)];rfl
  right;exact⟨c,q++U,v,C,by rw[a,i];rfl⟩
theorem OM: ∀(y r:Str),y.all letB=true->zm (y++r)=(y++(zm r).1,(zm r).2)
 |[],r,_=>rfl
 |c::y,r,h=>by rw[Nc,Ca]at h;rw[Ta,zP,Ia h.1,OM y r h.2];rfl
theorem SS{l:Str}(h:l.all digB=true):l.all letB=true:=by
 rw[Rb]at h ⊢;intro b a;unfold letB
 grind
theorem UU{s r:Str}{P:List ze}(h:PcT s P)(he:atS s 0=101\/atS s 0=69)(hd:digB (atS (unsign (s.drop 1)) 0)=true)(hr:r=past digB (unsign (s.drop 1)))(hT:qB r=P):False:=by
 obtain⟨l,t,z,hl,rfl,hk,ht,rfl,hz⟩:=SQ h he;obtain⟨c,q,e⟩:=Lh (jh h);have hnz:zm z=([],z):=by rcases hz with rfl|rfl;exact qA;exact yB []
 have hname:zm (ZQ l++z)=(l,z):=by rw[Xk z hl,hnz,Cb]
 rw[e]at he hd hr hname;rw[show(c::q).drop 1=q from rfl]at hd hr;have hc:letB c=true:=by rcases he with h|h<;>(rw[show c=_ from h];rfl)
 -- the sign is a dash, or none
 have hsg:(sgOf q).all letB=true:=by
  unfold sgOf;cases hs:Jf (atS q 0)with
  |false=>rfl
  |true=>
   rw[Ia rfl];unfold Jf at hs;rw[Jc,Db,Db]at hs;rcases hs with hs|hs
   ·exfalso;cases q with
    |nil=>cases hs
    |cons d q'=>
     rw[show d=43 from hs,zP,Ia hc,zP,Fa (by decide),Fa (by unfold escS;rw[show atS (43::q') 0=43 from rfl];simp)]at hname
     grind
   ·rw[hs];rfl
 have hsplit:c::q=(c::(sgOf q++(unsign q).takeWhile digB))++r:=by rw[hr,Ta,Oa,Ps,ny]
 have hall:(c::(sgOf q++(unsign q).takeWhile digB)).all letB=true:=by rw[Nc,hc,List.all_append,hsg,SS (Uv digB _)];rfl
 rw[hsplit,OM _ _ hall]at hname;injection hname with hn1 hn2;have hcm:cmtS r=r:=by
  refine qg ?_;cases r with
  |nil=>rfl
  |cons d u=>
   refine gz (Ja.2 ?_);rintro rfl;rw[zP,Fa (by decide),Fa (by unfold escS;rw[show atS (47::u) 0=47 from rfl];simp)]at hn2
   grind
 cases r with
 |nil=>rw[Q6 hcm]at hT;cases hT
 |cons d u=>
  rw[QV hcm]at hT;injection hT with hT _;have hbr:=Nk d u;rw[hT]at hbr;have hbr':brS d u=7:=by rcases hk with hk|hk<;>(rw[hk]at hbr;exact hbr.symm)
  have hx:t.text=(zm (d::u)).1:=by
   rw[<-hT,qE,hbr',mh];have hk':(qC (d::u)).1.kind=1\/(qC (d::u)).1.kind=2:=by
    have:(qC (d::u)).1=t:=by rw[<-hT,qE,hbr',mh]
    rw[this];exact hk
   unfold qC at hk' ⊢;split
   ·rename_i h40;rw[Ia h40]at hk';split
    ·rename_i h2;rw[Ia h2]at hk';rcases aC (urlS (past spB ((zm (d::u)).2.drop 1))).1 with hh|hh<;>rcases hk' with hk'|hk'<;>rw[show(Gi (urlS (past spB ((zm (d::u)).2.drop 1))).1).kind=_ from hk']at hh<;>cases hh
    ·rfl
   ·rfl
  rw[<-hx,ht]at hn1;have:=congrArg List.length hn1
  grind
theorem nX{z r:Str}(h:Za z=(r,true)):r=z:=by
 unfold Za at h
 grind
theorem DW{z r:Str}(h:(match expS (Za z).1 with|some r=>(r,false)|none=>Za z)=(r,true)):r=z:=by
 cases a:expS (Za z).1 with
 |some y=>grind
 |none=>rw[a]at h;exact nX h
theorem vT{z r:Str}{b:Bool}(h:(match expS z with|some r=>(r,false)|none=>(z,false))=(r,b)):r=z\/expS z=some r:=by
 grind
theorem EM{t:ze}{s r:Str}{P:List ze}(N:ze5 t)(h:PcT s P)(b:dG t s r)(v:qB r=P):ShS s r:=by
 have M:P≠[]:=by cases h<;>simp
 have p:r≠[]:=by rintro rfl;rw[Q6 (qg rfl)]at v;exact M v.symm
 have j:digB (atS s 0)=false->past digB s=s:=by
  intro i;cases s with
  |nil=>rfl
  |cons c q=>rw[past,show digB c=false from i];rfl
 rcases b with b|⟨_,b⟩|⟨R,Q,g,G⟩|⟨_,K,y,i,g,b⟩
 ·exact .inl b
 ·cases u:spB (atS s 0)with
  |true=> rw[H9 h u]at b;exact absurd b p
  |false=>
   left;rw[b];cases s with
   |nil=>rfl
   |cons c q=>rw[past,show spB c=false from u];rfl
 ·cases N with
  |cNum n f w E S=>
   have e:zI (numT n (!f)++s)=(r,f):=Q;have a:r=past digB s\/expS (past digB s)=some r:=by
    cases d:(partT (n.natAbs%1000) (!f)).isEmpty with
    |true=> left;rw[vB d]at e;rw[PD S]at d;subst d;exact DW e
    |false=> rw[iA d]at e;exact vT e
   cases i:digB (atS s 0)with
   |true=>
    rcases a with b|l
    ·exact TU h i b g G v
    ·exfalso;have o:unsign s=s:=by unfold unsign Jf;rw[Ja.2 (QP i).1,Ja.2 (QP i).2.1];rfl
     obtain⟨A,B,U,J,rfl,rfl,_,x⟩:=Tu h (by grind);obtain⟨z,O,_⟩:=Nv x;rw[<-o]at l;cases d:(partT (A.natAbs%1000) B).isEmpty with
     |true=>rw[WB U d,z,O]at l;cases l
     |false=>rw[VB U d,aR]at l;cases l
   |false=>
    rw[j i]at a;rcases a with b|l
    ·exact .inl b
    ·obtain⟨w,E,L⟩:=jJ l;exact(UU h w E L v).elim
  |cId|cFn|cAt|cHash|cStr|cUrl|cDel|cPct|cDim=>simp at R
  |cMark k w E=>grind
 ·exfalso;have D:digB (atS (unsign s) 0)=true/\past digB (unsign (K++s))=past digB (unsign s):=by
   rcases y with rfl|rfl
   ·grind
   ·have m:digB (atS s 0)=true:=i;have o:unsign s=s:=by unfold unsign Jf;rw[Ja.2 (QP m).1,Ja.2 (QP m).2.1];rfl
    rw[o];exact⟨m,rfl⟩
  obtain⟨C,F⟩:=D;rw[F]at g b;obtain⟨A,B,U,J,rfl,rfl,_,x⟩:=Tu h C;obtain⟨z,_,H⟩:=Nv x;cases d:(partT (A.natAbs%1000) B).isEmpty with
  |true=>
   rw[WB U d,z]at g b;rcases H with rfl|rfl|⟨_,T⟩
   ·cases g
   ·cases g
   grind
  |false=>rw[VB U d,vF]at g;cases g
abbrev cmtW:Str:=[47,42,42,47]
theorem nz{s:Str}{P:List ze}(h:PcT s P)(x:Str)(hx:atS x 0≠42):([47,42]:Str).isPrefixOf (s++x)=false:=by
 obtain⟨c,r,rfl⟩:=Lh (jh h);by_cases hc:c=47
 ·have:=Xv h (.inl rfl) hc;rw[this];cases x with
  |nil=>rfl
  |cons d t=>
   show((47==(47:UInt8))&&((42==d)&&_))=false;have:((42:UInt8)==d)=false:=Ja.2 (fun e=>hx e.symm)
   grind
 grind
theorem xu{s:Str}{P:List ze}(h:PcT s P):cmtS s=s:=by
 refine qg ?_;have:=nz h [] (by decide)
 grind
theorem fA(x:Str):Zy (92::10::x)=(⟨9,[92],0,[],false⟩,10::x):=rfl
theorem uY{l:Str}(g:l≠[])(h:Zt l=true)(f:lowS l=[117,114,108])(b:Bool)(w:Str):
  Zy (ZQ l++40::((if b then [32]else [])++34::w))=(⟨2,l,0,[],false⟩,(if b then [32]else [])++34::w):=by
 have d:=Ju g ((if b then [32]else [])++34::w);have a:=XI h ((if b then [32]else [])++34::w);obtain⟨c,r,e⟩:=Lh (Ui d);rw[e]at d a ⊢;rw[qE,Dw d (by grind),mh];unfold qC;rw[a];simp only;have i:atS (past spB ((40::((if b then [32]else [])++34::w)).drop 1)) 0=34:=by cases b<;>rfl
 rw[Ia (by rfl),f,i,Fa (by decide)];rfl
theorem lG{l:Str}(h:lowS l=[117,114,108]):l≠[]:=by rintro rfl;cases h
theorem wU(l m x:Str)(b:Bool):(ZQ l++40::((if b then [32]else [])++34::(encB quoB m++[34])))++x=ZQ l++40::((if b then [32]else [])++34::((encB quoB m++[34])++x)):=by
 grind
theorem gH{l m:Str}{b:Bool}(h:Zt l=true)(hl:lowS l=[117,114,108])(hm:Zt m=true)(x:Str):
  run ((ZQ l++40::((if b then [32]else [])++34::(encB quoB m++[34])))++x) (⟨2,l,0,[],false⟩::((if b then [tkSp]else [])++[⟨5,m,0,[],false⟩])) x:=by
 rw[wU];have hf:=uY (lG hl) h hl b ((encB quoB m++[34])++x);have hn:=Ju (lG hl) ((if b then [32]else [])++34::((encB quoB m++[34])++x));have hs: ∀q:Str,q=34::((encB quoB m++[34])++x)->run q [⟨5,m,0,[],false⟩] x:=by rintro q rfl;have:=UC hm x;rw[Ta]at this;exact⟨34,_,qg rfl,by rw[this],by rw[this];rfl⟩
 obtain⟨c,r,e⟩:=Lh (Ui hn);rw[e]at hf hn ⊢;have hc:c≠47:=by rintro rfl;exact absurd (show hdB 47=true from dm hn) (by decide)
 refine⟨c,r,qg (gz (Ja.2 hc)),by rw[hf],?_⟩;rw[hf];cases b with
 |false=>exact hs _ rfl
 |true=> exact⟨32,34::((encB quoB m++[34])++x),qg rfl,rfl,hs _ rfl⟩
theorem aH{s:Str}{P:List ze}(h:PcT s P){x:Str}(a:neu x):run (s++x) P x:=by
 cases h with
 |one t h d f=>
  have g:=wT h d f a;have i:=nz (.one t h d f) x (by rcases a with rfl|⟨y,rfl⟩;exact(show(0:UInt8)≠42 by decide);exact(show(47:UInt8)≠42 by decide));obtain⟨c,r,e⟩:=Lh (jh (.one t h d f));rw[e]at g i ⊢;exact⟨c,r++x,qg i,by grind,by rw[show c::(r++x)=(c::r)++x from rfl,g];rfl⟩
 |back=> refine⟨92,10::x,qg rfl,by rw[fA],?_⟩;rw[fA];refine⟨10,x,qg rfl,rfl,?_⟩;show past spB x=x;exact CK rfl a
 |url l m b h j k=>exact gH h j k x
theorem NT{u s r:Str}{p P:List ze}(hu:PcT u p)(hs:PcT s P)(hr:run (u++s) p r)(hT:qB r=P):ShS s r:=by
 cases hu with
 |one t h hb hu=>
  obtain⟨c,q,h1,h2,h3⟩:=hr;have hpu:PcT (txS t) [t]:= .one t h hb hu;rw[run]at h3;cases hp:([47,42]:Str).isPrefixOf (txS t++s)with
  |true=>
   exfalso;obtain⟨c0,r0,e⟩:=Lh (jh hpu);by_cases hc:c0=47
   ·have e2:=Xv hpu (.inl rfl) (by rw[e];exact hc);rw[e2]at hp h1;have h42:atS s 0=42:=by
     cases s with
     |nil=>cases hp
     |cons d t'=>
      have:((42:UInt8)==d)=true:=by have h':((47==(47:UInt8))&&((42==d)&&true))=true:=hp;simpa using h'
      exact(Db.1 this).symm
    rw[Xv hs (.inr rfl) h42]at h1;have:cmtS ([47]++[42])=[]:=by rw[Xh];rfl
    grind
   grind
  |false=> rw[qg hp]at h1;rw[<-h1]at h2 h3;have:=GV h hu h2;rw[h3]at this;exact EM h hs this hT
 |back=> obtain⟨c,q,h1,h2,h3⟩:=hr;rw[show cmtS ([92,10]++s)=92::10::s from qg rfl]at h1;injection h1 with e1 e2;subst e1 e2;rw[fA]at h3;obtain⟨c',q',g1,g2,g3⟩:=h3;rw[show cmtS (10::s)=10::s from qg rfl]at g1;injection g1 with e1 e2;subst e1 e2;rw[run]at g3;have g3':past spB s=r:=g3;exact EM (t:=tkSp) (.cMark 13 (by omega) (by omega)) hs (.inr (.inl ⟨rfl,g3'.symm⟩)) hT
 |url l m b h hl hm=>exact .inl (EI hr (gH h hl hm s))
def Lk(R A:Str):Prop:=cmtS R=A\/ ∃d y,digB d=true/\A=48::46::d::y/\cmtS R=46::d::y
theorem gm{R A:Str}(h:Lk R A)(a:A≠[]):cmtS R≠[]:=by
 rcases h with h|⟨d,y,_,_,h⟩
 ·rw[h];exact a
 ·rw[h];simp
theorem oG{R A x:Str}(h:Lk R A)(b:A≠[])(c:([47,42]:Str).isPrefixOf (A++x)=false):Lk (R++x) (A++x):=by
 rcases h with h|⟨d,y,a,rfl,h⟩
 ·left;rw[Vr (by rw[h];exact b) (by rw[h];exact c),h]
 ·right;exact⟨d,y++x,a,rfl,by rw[Vr (by rw[h];simp) (by rw[h];rfl),h];rfl⟩
theorem mG{R A:Str}(h:Lk R A)(g:([47,42]:Str).isPrefixOf A=false){t:ze}{ts:List ze}{r:Str}:run R (t::ts) r↔run A (t::ts) r:=by
 rcases h with h|⟨d,y,f,rfl,h⟩
 ·rw[<-FI (q:=R) (by simp),h]
 ·rw[<-FI (q:=R) (by simp),h];constructor
  ·rintro⟨c,q,a,e,b⟩;rw[qg rfl]at a;rw[<-a]at e b;exact⟨48,46::d::y,qg rfl,by rw[Xx d y f];exact e,by rw[Xx d y f];exact b⟩
  ·rintro⟨c,q,a,e,b⟩;rw[qg rfl]at a;rw[<-a,Xx d y f]at e b;exact⟨46,d::y,qg rfl,e,b⟩
theorem dI{R A:Str}(h:Lk R A):qB R=qB A:=by
 rcases h with h|⟨d,y,a,rfl,h⟩
 ·rw[<-Sw R,h]
 ·rw[<-Sw R,h,QV (qg rfl),QV (l:=48::46::d::y) (qg rfl),Xx d y a]
inductive Syn:Str->List ze->List (List ze×Str)->Prop
 |nil:Syn [] [] []
 |cmt (b s:Str) (ts P:List ze) (st:List (List ze×Str)) (h:Syn b ts st) (hb:b≠[]) (hp:PcT s P):Syn (b++cmtW++s) (ts++P) (st++[(ts,b++cmtW)])
 |no (b s:Str) (ts P:List ze) (st:List (List ze×Str)) (h:Syn b ts st) (hp:PcT s P) (ht:qB (b++s)=ts++P):Syn (b++s) (ts++P) (st++[(ts,b)])
def Bd(b:Str)(ts L:List ze)(B:Str)(m:Nat):Prop:= ∃A R a,b=B++A/\A≠[]/\ts=L++a/\a≠[]/\run b L R/\Lk R A/\m<=R.length/\m<=A.length
structure zyH (b:Str) (ts:List ze) (st:List (List ze×Str)):Prop where
 tok:qB b=ts
 bd: ∀k (h:k<st.length),Bd b ts st[k].1 st[k].2 (st.length - k)
 last:(st=[]/\b=[]/\ts=[])\/ ∃L B u p R,PcT u p/\b=B++u/\ts=L++p/\run b L R/\Lk R u
theorem pc_P{s:Str}{P:List ze}(h:PcT s P): ∃t us,P=t::us:=by cases h<;>exact⟨_,_,rfl⟩
theorem KH {b x:Str} {ts P L:List ze} {B:Str} {m:Nat} (h:Bd b ts L B m) (hx:x≠[])
  (hrun: ∀R,R≠[]->run b L R->(∃A,A≠[]/\Lk R A/\b=B++A)->run (b++x) L (R++x)/\(∀A,A≠[]->Lk R A->b=B++A->Lk (R++x) (A++x))):Bd (b++x) (ts++P) L B (m+1):=by
 obtain⟨A,R,us,h1,h2,h3,h4,h5,h6,h7,h8⟩:=h;have hR:R≠[]:=by intro e;have:=gm h6 h2;rw[e]at this;exact this (qg rfl)
 obtain⟨g1,g2⟩:=hrun R hR h5 ⟨A,h2,h6,h1⟩;refine⟨A++x,R++x,us++P,by grind,by simp[h2],by grind,by simp[h4],g1,g2 A h2 h6 h1,?_⟩;have:=Ce.2 hx
 grind
theorem FH{q:Str}(h:cmtS q=[47]):cmtS (q++[42])=[]:=by
 rw[Xh q]at h;cases a:([47,42]:Str).isPrefixOf q with
 |true=>
  have b:=Kk a;rw[show([47,42]:Str).length=2 from rfl]at b;rw[a,Ia rfl]at h;cases c:clsS (q.drop 2)with
  |none=>grind
  |some p=>
   rw[c]at h;have d:p.length<q.length:=by have d:=(ni _ c).2;rw[Pb]at d;omega
   rw[Xh,Bo [42] (by exact b),a,Ia rfl,Wo b,cB [42] c];exact FH h
 |false=> rw[a,Fa (by decide)]at h;subst h;rw[Xh];rfl
termination_by q.length
theorem wQ{q s:Str}{P us:List ze}(hs:PcT s P)(h:eG q s us)(hus:us≠[]):False:=by
 obtain⟨c,r,_,⟨⟨e,fl,hee,hw⟩,h43,hk,hds⟩,hsame,hT⟩:=h;have hbr:=Nk c (r++s);rw[hsame,hk]at hbr;have hbr':brS c (r++s)=3:=hbr.symm;have hnx:Zy (c::(r++s))=zG ((c::r)++s):=by rw[qE,hbr',Ci];rfl
 have hq2:Cf (c::r)≠[]:=by intro e2;rw[e2]at hw;cases congrArg Prod.fst hw
 have e2:Cf ((c::r)++s)=Cf (c::r)++s:=by unfold Cf;rw[(Vk s (by simp)).1];exact Ej s hq2
 have hw2:=(FL (q:=Cf (c::r)) (x:=s) (by rw[hw];simp) (fun e3=>by
  rw[e3]at hw;have:=congrArg Prod.fst hw;cases this)).1
 have hexp:expS ([e,43]++s)=some (past digB s):=by
  unfold expS;have h1:(atS ([e,43]++s) 0==101||atS ([e,43]++s) 0==69)=true:=by rcases hee with rfl|rfl<;>rfl
  have h2:unsign (([e,43]++s).drop 1)=s:=rfl;rw[h1,Ia rfl,h2,hds,Ia rfl]
 have hend:zI ((c::r)++s)=(past digB s,false):=by rw[Qy,e2,hw2,hw];simp only[hexp]
 have hk2:(zG ((c::r)++s)).1.kind=12:=by rw[<-hnx,hsame,hk]
 rw[hnx]at hT;unfold zG at hk2 hT;rw[hend]at hk2 hT;simp only at hk2 hT;have hun:unsign s=s:=by unfold unsign Jf;rw[Ja.2 (QP hds).1,Ja.2 (QP hds).2.1];rfl
 cases hn:nmS (past digB s)with
 |false=>
  grind
 |true=>
  rw[hn,Ia rfl]at hT;obtain⟨n2,p2,U,t2,_,rfl,_,hU⟩:=Tu hs (by grind);obtain⟨u1,_,u3⟩:=Nv hU;rw[<-hun]at hn hT;cases hp:(partT (n2.natAbs%1000) p2).isEmpty with
  |true=>
   rw[WB U hp,u1]at hn hT;rcases u3 with rfl|rfl|⟨_,hu⟩
   ·cases hn
   ·cases hn
   ·rw[hu,Q6 (qg rfl)]at hT;exact hus hT.symm
  |false=>rw[VB U hp,vF]at hn;cases hn
theorem CG{R A:Str}(h:Lk R A)(b:A≠[])(y:Str):Lk (R++47::42::y) (A++47::42::y):=by
 rcases h with h|⟨d,z,a,rfl,h⟩
 ·left;rw[bA y (by rw[h];exact b),h]
 ·right;exact⟨d,z++47::42::y,a,rfl,by rw[bA y (by rw[h];simp),h];rfl⟩
theorem wV{s:Str}{P:List ze}(h:PcT s P):cmtS (47::42::42::47::s)=s:=by rw[Xh];exact xu h
theorem Br{s:Str}{P:List ze}(h:PcT s P):qB s=P:=by have:=Mo (aH h (x:=[]) (.inl rfl));rw[Cb,Q6 (qg rfl),Cb]at this;exact this
theorem mX{α:Type}{l a:List α}(h:l++a=l):a=[]:=by simp_all
theorem RH{b:Str}{ts:List ze}{st:List (List ze×Str)}(h:Syn b ts st):zyH b ts st:=by
 induction h with
 |nil=>exact⟨Q6 (qg rfl),fun k h=>(by cases h), .inl ⟨rfl,rfl,rfl⟩⟩
 |cmt b s ts P st h hb hp ih=>
  obtain⟨ht,hbd,hl⟩:=ih;have hx:b++cmtW++s=b++47::42::(42::47::s):=by rw[Oa];rfl
  obtain⟨t0,us0,hP0⟩:=pc_P hp;have hrun:run (b++47::42::(42::47::s)) ts (47::42::(42::47::s)):=by
   rcases hl with⟨_,e,_⟩|⟨L,B,u,p,R,g1,g2,g3,g4,g5⟩
   ·exact absurd e hb
   ·have hR:R≠[]:=by intro e;have:=gm g5 (jh g1);rw[e]at this;exact this (qg rfl)
    obtain⟨t1,us1,hp1⟩:=pc_P g1;rw[g3];refine WC (xz (42::47::s) g4 hR) ?_;have h1:=aH g1 (x:=47::42::(42::47::s)) (.inr ⟨_,rfl⟩);rw[hp1]at h1 ⊢;exact(mG (CG g5 (jh g1) (42::47::s)) (nz g1 _ (by show(47:UInt8)≠42;decide))).2 h1
  have hlk:Lk (47::42::(42::47::s)) s:= .inl (wV hp);rw[hx];refine⟨?_,?_, .inr ⟨ts,b++cmtW,s,P,_,hp,by grind,rfl,hrun,hlk⟩⟩
  ·rw[Mo hrun,dI hlk,Br hp]
  ·intro k hk;rw[Ha,Kc]at hk;by_cases hk2:k<st.length
   ·rw[List.getElem_append_left hk2];have:=KH (P:=P) (x:=47::42::(42::47::s)) (hbd k hk2) (by simp) (fun R hR h5 _=>⟨xz _ h5 hR,fun A hA h6 _=>CG h6 hA _⟩)
    grind
   ·have hke:k=st.length:=by omega
    subst hke;rw[List.getElem_append_right (by omega)];simp only[Nat.sub_self,List.getElem_cons_zero];refine⟨s,_,P,by grind,jh hp,rfl,by rw[hP0];simp,hrun,hlk,?_⟩;have:=Ce.2 (jh hp)
    grind
 |no b s ts P st h hp ht0 ih=>
  obtain⟨ht,hbd,hl⟩:=ih;obtain⟨t0,us0,hP0⟩:=pc_P hp;have hPne:P≠[]:=by rw[hP0];simp
  have hsne:=jh hp
  -- what is ahead stays
  have keep: ∀(L us:List ze) (R:Str),ts=L++us->R≠[]->run b L R->run (b++s) L (R++s):=by
   intro L us R hts hR hrun;rcases bK (us:=us++P) hrun hR hsne (by grind)with h1|⟨_,q,_,h1⟩
   ·exact h1
   ·exact(wQ hp h1 (by simp[hPne])).elim
  have keepLk: ∀(L us:List ze) (R A:Str),ts=L++us->run (b++s) L (R++s)->A≠[]->Lk R A->Lk (R++s) (A++s):=by
   intro L us R A hts hrun hA hlk;cases hpre:([47,42]:Str).isPrefixOf (A++s)with
   |false=>exact oG hlk hA hpre
   |true=>
    exfalso;rcases hlk with h1|⟨d,y,_,rfl,_⟩
    ·cases A with
     |nil=>exact hA rfl
     |cons c r=>
      cases r with
      |cons d t=>
       have:=Ur R
       grind
      |nil=>
       have hc:c=47:=by
        cases hcc:(47:UInt8)==c with
        |true=>grind
        |false=>
         grind
       subst hc;have h42:s=[42]:=by
        refine Xv hp (.inr rfl) ?_;cases s with
        |nil=>grind
        |cons d t=>
         have h':(((47:UInt8)==47)&&(((42:UInt8)==d)&&true))=true:=hpre;have:((42:UInt8)==d)=true:=by simpa using h'
         exact(Db.1 this).symm
       have h3:=Mo hrun;rw[ht0,hts,h42,Q6 (FH h1),Cb,Oa]at h3;have:=mX h3;simp_all
    ·cases hpre
  rcases hl with⟨e1,e2,e3⟩|⟨L,B,u,p,R,g1,g2,g3,g4,g5⟩
  ·subst e1 e2 e3;refine⟨ht0,?_, .inr ⟨[],[],s,P,s,hp,rfl,rfl,rfl, .inl (xu hp)⟩⟩;intro k hk;have hke:k=0:=by rw[Ha,Kc,Jb]at hk;omega
   subst hke;exact⟨s,s,P,rfl,hsne,rfl,hPne,rfl, .inl (xu hp),Ce.2 hsne,Ce.2 hsne⟩
  ·have hR:R≠[]:=by intro e;have:=gm g5 (jh g1);rw[e]at this;exact this (qg rfl)
   have h1:=keep L p R g3 hR g4;have h2:=keepLk L p R u g3 h1 (jh g1) g5;have h3:=Mo h1;rw[ht0,g3,Oa]at h3;have h4:=List.append_cancel_left h3;obtain⟨r,h5,h6⟩:=JJ h4.symm;have hsh:ShS s r:=by
    obtain⟨t1,us1,hp1⟩:=pc_P g1;refine NT g1 hp ?_ h6;have hpre:([47,42]:Str).isPrefixOf (u++s)=false\/cmtS (R++s)=[]:=by
     rcases h2 with h2|⟨d,y,hd,h2,_⟩
     ·left;rw[<-h2];exact Ur _
     ·grind
    rcases hpre with hpre|hpre
    ·rw[hp1]at h5 ⊢;exact(mG h2 hpre).1 h5
    ·rw[hp1]at h5;obtain⟨c,q,e,_⟩:=h5
     grind
   have hrun:run (b++s) ts r:=by rw[g3];exact WC h1 h5
   have hlk:Lk r s:=by
    rcases hsh with rfl|⟨d,y,hd,e1,e2⟩
    ·exact .inl (xu hp)
    ·right;exact⟨d,y,hd,e1,by rw[e2];exact qg rfl⟩
   have hrl:1<=r.length:=by
    rcases hsh with rfl|⟨d,y,_,_,e2⟩
    ·grind
    ·rw[e2];simp
   refine⟨ht0,?_, .inr ⟨ts,b,s,P,r,hp,rfl,rfl,hrun,hlk⟩⟩;intro k hk;rw[Ha,Kc]at hk;by_cases hk2:k<st.length
   ·rw[List.getElem_append_left hk2];obtain⟨A0,R0,us,f1,f2,f3,f4,f5,f6,f7,f8⟩:=hbd k hk2;have:=KH (P:=P) (x:=s) ⟨A0,R0,us,f1,f2,f3,f4,f5,f6,f7,f8⟩ hsne (fun R hR h5 _=>⟨keep _ us R f3 hR h5,fun A hA h6 _=>keepLk _ us R A f3 (keep _ us R f3 hR h5) hA h6⟩)
    grind
   ·have hke:k=st.length:=by omega
    subst hke;rw[List.getElem_append_right (by omega)];simp only[Nat.sub_self,List.getElem_cons_zero];refine⟨s,r,P,rfl,hsne,rfl,hPne,hrun,hlk,?_⟩;have:=Ce.2 hsne
    grind
def pcN:List ze->Nat
 |[]=>0
 |t::r=>if t.kind==9&&t.text==[92]then 2 else if Og t then(if bi r then 3 else 2)else 1
def catT:List ze->Str
 |[]=>[]
 |t::r=>txS t++catT r
def pcS:List ze->Str
 |[]=>[]
 |t::r=>if t.kind==9&&t.text==[92]then [92,10]else catT (t::r)
theorem AJ{t:ze}(h:yf t=true)(a:(t.kind==13)=true):t=tkSp:=by
 rw[Db]at a;cases Pn h with
 |cId|cFn|cAt|cHash|cStr|cUrl|cDel|cNum|cPct|cDim=>simp at a
 |cMark k c b=>grind
theorem vG{t:ze}(h:yf t=true)(a:(t.kind==5)=true): ∃m,Zt m=true/\t=⟨5,m,0,[],false⟩:=by
 rw[Db]at a;cases Pn h with
 |cStr l b=>grind
 |cId|cFn|cAt|cHash|cUrl|cDel|cNum|cPct|cDim=>simp at a
 |cMark k d c=>grind
theorem XR{t:ze}(h:yf t=true)(a:(t.kind==9&&t.text==[92])=true):t=⟨9,[92],0,[],false⟩:=by
 rw[Ca,Db,Db]at a;cases Pn h with
 |cDel c h=>grind
 |cId|cFn|cAt|cHash|cStr|cUrl|cNum|cPct|cDim=>simp at a
 |cMark k d b=>grind
theorem dV{t:ze}(h:yf t=true)(a:Og t=true): ∃l,Zt l=true/\lowS l=[117,114,108]/\t=⟨2,l,0,[],false⟩:=by
 unfold Og at a;rw[Ca,Db,Db]at a;cases Pn h with
 |cFn l d c=>grind
 |cId|cAt|cHash|cStr|cUrl|cDel|cNum|cPct|cDim=>simp at a
 |cMark k b e=>grind
theorem J9{t:ze}(h:(t.kind==9&&t.text==[92])=false): ¬(t.kind=9/\t.text=[92]):=by
 grind
theorem Po(t:ze)(r:List ze):pcN (t::r)=if t.kind==9&&t.text==[92]then 2 else if Og t then(if bi r then 3 else 2)else 1:=rfl
theorem FD(t:ze)(r:List ze):okAt (t::r)=((!(t.kind==9&&t.text==[92])||bi r)&&(!(Og t)||Aq r)):=rfl
theorem Dy(s:ze)(r:List ze):Aq (s::r)=(bif s.kind==13 then(match r with|u::_=>u.kind==5|[]=>false)else s.kind==5):=rfl
theorem I9{t:ze}{r:List ze}(e: ∀u∈t::r,yf u=true)(d:okAt (t::r)=true): ∃P Q,t::r=P++Q/\P.length=pcN (t::r)/\PcT (pcS P) P:=by
 have c:=e t (ib ..);rw[FD,Ca]at d;rw[Po];cases h:t.kind==9&&t.text==[92]with
 |true=>
  rw[h,Ib,xc]at d;rw[Ia rfl];cases r with
  |nil=>cases d.1
  |cons s r=> have g:=AJ (e s (by simp)) d.1;have p:=XR c h;subst g p;exact⟨[⟨9,[92],0,[],false⟩,tkSp],r,rfl,rfl, .back⟩
 |false=>
  rw[Fa (by decide)];cases j:Og t with
  |false=>
   rw[Fa (by decide)];have f:pcS [t]=txS t:=by show(if(t.kind==9&&t.text==[92])=true then [92,10]else txS t++[])=_;rw[h,Fa (by decide),Cb]
   exact⟨[t],r,rfl,rfl,by rw[f];exact .one t (Pn c) (J9 h) j⟩
  |true=>
   rw[Ia rfl];rw[j,Ib,xc]at d;obtain⟨l,n,o,rfl⟩:=dV c j;have a:=d.2;have b: ∀m:Str,txS ⟨5,m,0,[],false⟩++[]=34::(encB quoB m++[34]):=fun m=>by rw[Jl,Cb]
   cases r with
   |nil=>cases a
   |cons s r=>
    cases g:s.kind==13 with
    |false=>
     rw[Dy,g,Da]at a;obtain⟨m,i,rfl⟩:=vG (e s (by simp)) a;rw[show bi (⟨5,m,0,[],false⟩::r)=false from rfl,Fa (by decide)];refine⟨[⟨2,l,0,[],false⟩,⟨5,m,0,[],false⟩],r,rfl,rfl,?_⟩;have f:pcS [⟨2,l,0,[],false⟩,⟨5,m,0,[],false⟩]=ZQ l++40::((if false then [32]else [])++34::(encB quoB m++[34])):=by show txS ⟨2,l,0,[],false⟩++(txS ⟨5,m,0,[],false⟩++[])=_;rw[b,Mj,Oa];rfl
     rw[f];exact .url l m false n o i
    |true=>
     have k:=AJ (e s (by simp)) g;subst k;cases r with
     |nil=>cases a
     |cons u r=>
      obtain⟨m,i,rfl⟩:=vG (e u (by simp)) a;rw[show bi (tkSp::⟨5,m,0,[],false⟩::r)=true from rfl,Ia rfl];refine⟨[⟨2,l,0,[],false⟩,tkSp,⟨5,m,0,[],false⟩],r,rfl,rfl,?_⟩;have f:pcS [⟨2,l,0,[],false⟩,tkSp,⟨5,m,0,[],false⟩]=ZQ l++40::((if true then [32]else [])++34::(encB quoB m++[34])):=by show txS ⟨2,l,0,[],false⟩++(txS tkSp++(txS ⟨5,m,0,[],false⟩++[]))=_;rw[b,Mj,show txS tkSp=[32]from rfl,Oa];rfl
      rw[f];exact .url l m true n o i
theorem aW{t:ze}{r:List ze}(h:t.text.length<=big)(a:okAt (t::r)=true):qN (t::r)=some ((pcN (t::r):Nat):Int):=by
 have m:geti (t::r) 0=some t:=rfl;have k:=Co (t::r) 1 13;have e:=Co (t::r) 1 5;have b:=Co (t::r) 2 5;unfold qN;simp only[m,zg,Aa,dx h (show([117,114,108]:Str).length<=big by decide),Kv,QB];simp only[Int.natCast_one]at k e;replace b:Zo ((2,5),t::r)=_:=b;have g:Zo ((1,13),t::r)=some (bi r):=by rw[k];cases r<;>rfl
 rw[g];rw[FD]at a;unfold Og at a;rw[Po];unfold Og;cases j:(t.kind==9&&t.text==[92])with
 |true=>
  grind
 |false=>
  have n:(bif t.kind==9 then t.text==[92]else false)=false:=by
   cases o:t.kind==9
   ·rfl
   ·grind
  simp only[n,j,Da,Xa,Ae,Ab];rw[j,Xa,Ae,Ab]at a;cases f:(t.kind==2&&lowS t.text==[117,114,108])with
  |false=>
   grind
  |true=>
   rw[f,Ib,xc]at a;rw[Ca]at f;rw[f.1,f.2];simp only[Ea,Aa];cases r with
   |nil=>cases a
   |cons s r=>
    cases d:s.kind==13 with
    |false=>
     have i:bi (s::r)=false:=d;have l:Zo ((1,5),t::s::r)=some (s.kind==5):=e;have c:(s.kind==5)=true:=by rw[Dy,d]at a;exact a
     simp only[i,Da,zh,l,Aa,c,Ib];rfl
    |true=>
     have i:bi (s::r)=true:=d;simp only[i,Ea,zh,b,Aa];cases r with
     |nil=>rw[Dy,d]at a;cases a
     |cons u r=>
      have c:(u.kind==5)=true:=by rw[Dy,d]at a;exact a
      show(bif !(u.kind==5)then some 0 else some (w64 (2+1)))=some 3;rw[c];rfl
def clB(l:Str):Bool:=l.all fun c=> !(c==0||c==12||c==13)
theorem Qh(a b:Str):clB (a++b)=(clB a&&clB b):=by unfold clB;grind
theorem oJ: ∀l:Str,clB l=true->Proofs.Cl.cleanS l=l
 |[],_=>by rw[Proofs.Cl.cleanS]
 |c::r,h=>by
  unfold clB at h;rw[Nc,Ca]at h;have e:=oJ r h.2;have d:(c==0||c==12||c==13)=false:=by simpa using h.1
  rw[Je,Je]at d;obtain⟨⟨f,a⟩,b⟩:=d;rw[Proofs.Cl.cleanS,f,a,b,e]
  ·rfl
  grind
theorem Ck(c:UInt8):clB (escC c)=true/\(letB c=true->clB [c]=true)/\(c≠0->quoB c=false->clB [c]=true)/\(c≠0->urB c=false->clB [c]=true)/\(Wh c.toNat=true->clB [c]=true)/\(digB c=true->clB [c]=true):=by
 have: ∀n:Nat,n<256->clB (escC (UInt8.ofNat n))=true/\(letB (UInt8.ofNat n)=true->clB [UInt8.ofNat n]=true)/\(UInt8.ofNat n≠0->quoB (UInt8.ofNat n)=false->clB [UInt8.ofNat n]=true)/\(UInt8.ofNat n≠0->urB (UInt8.ofNat n)=false->clB [UInt8.ofNat n]=true)/\(Wh (UInt8.ofNat n).toNat=true->clB [UInt8.ofNat n]=true)/\(digB (UInt8.ofNat n)=true->clB [UInt8.ofNat n]=true):=by decide+kernel
 have:=this c.toNat (Bb c);simp_all
theorem Ak(dash:Bool): ∀(k:Nat) (l:Str),clB (encW dash k l)=true
 |_,[]=>by rw[encW];rfl
 |k,c::r=>by
  obtain⟨b,a,_⟩:=Ck c;rw[encW,Qh,Ak dash (k - 1) r,Sb];unfold pcW
  grind
theorem Bw{p:UInt8->Bool}(a: ∀c,c≠0->p c=false->clB [c]=true): ∀l:Str,Zt l=true->clB (encB p l)=true
 |[],_=>by rw[encB];rfl
 |c::r,h=>by
  obtain⟨e,d⟩:=QG h;rw[encB,Qh,Bw a r d,Sb];cases b:p c with
  |true=>exact(Ck c).1
  |false=>exact a c e b
theorem GH{l:Str}(h:l.all digB=true):clB l=true:=by
 induction l with
 |nil=>rfl
 |cons c r a=> rw[Nc,Ca]at h;rw[show c::r=[c]++r from rfl,Qh,(Ck c).2.2.2.2.2 h.1,a h.2];rfl
theorem cl_T(n:Int)(p:Bool):clB (numT n p)=true:=by
 obtain⟨a,_,_⟩:=Jo (n.natAbs / 1000);have c:=XC (n:=n) (p:=p);rw[uq,Qh,Qh,GH a];have b:clB (sgT n)=true:=by unfold sgT;split<;>rfl
 rw[b];cases (partT (n.natAbs%1000) p).isEmpty with
 |true=>rfl
 |false=> show clB (46::partT (n.natAbs%1000) p)=true;rw[show 46::partT (n.natAbs%1000) p=[46]++partT (n.natAbs%1000) p from rfl,Qh,GH c];rfl
theorem uT(w:Str):clB (Uf w)=true:=by
 cases w with
 |nil=>rfl
 |cons c r=>
  rw[Rp];cases Di (c::r)with
  |true=>rw[Ea,Qh,(Ck c).1,Ak];rfl
  |false=>exact Ak _ _ _
theorem Xz{s:Str}{P:List ze}(h:PcT s P):clB s=true:=by
 cases h with
 |one t h hb hu=>
  cases h with
  |cId l h0 h=>rw[nk];exact Ak _ _ _
  |cFn l h0 h=>rw[Mj,Qh];rw[show clB (ZQ l)=true from Ak _ _ _];rfl
  |cAt l h0 h=>rw[om,show 64::ZQ l=[64]++ZQ l from rfl,Qh,show clB (ZQ l)=true from Ak _ _ _];rfl
  |cHash l f h0 h hbb=>
   rw[dn,show 35::Vg f l=[35]++Vg f l from rfl,Qh];have:clB (Vg f l)=true:=by cases f<;>exact Ak _ _ _
   rw[this];rfl
  |cStr l h=>rw[Jl,show 34::(encB quoB l++[34])=[34]++(encB quoB l++[34])from rfl,Qh,Qh,Bw (fun c h0 hc=>(Ck c).2.2.1 h0 hc) l h];rfl
  |cUrl l h=>rw[Un,Qh,Qh,Bw (fun c h0 hc=>(Ck c).2.2.2.1 h0 hc) l h];rfl
  |cDel c h=>rw[Bn];exact(Ck c).2.2.2.2.1 h
  |cNum n f h1 h2 hf=>rw[Wn];exact cl_T _ _
  |cPct n h1 h2=>rw[Vn,Qh,cl_T];rfl
  |cDim n u f h1 h2 hf h0 h=>rw[ym,Qh,cl_T,uT];rfl
  |cMark k h1 h2=> rw[bn h1 h2];rcases Ho h1 h2 with rfl|rfl|rfl|rfl|rfl|rfl|rfl|rfl|rfl|rfl|rfl|rfl<;>rfl
 |back=>rfl
 |url l m b h hl hm=> rw[Qh,show clB (ZQ l)=true from Ak _ _ _,show∀z:Str,40::z=[40]++z from fun _=>rfl,Qh,Qh,show∀z:Str,34::z=[34]++z from fun _=>rfl,Qh,Qh,Bw (fun c h0 hc=>(Ck c).2.2.1 h0 hc) m hm];cases b<;>rfl
theorem BR{b:Str}{ts:List ze}{st:List (List ze×Str)}(h:Syn b ts st):clB b=true:=by
 induction h with
 |nil=>rfl
 |cmt b s ts P st h e c a=>rw[Qh,Qh,a,Xz c];rfl
 |no b s ts P st h c d a=>rw[Qh,a,Xz c];rfl
def tokB(x y:ze):Bool:=x.kind==y.kind&&(x.text==y.text&&(x.num==y.num&&(x.unit==y.unit&&(x.flag==y.flag&&true))))
def Vf:List ze->List ze->Bool
 |[],[]=>true
 |x::l,y::m=>tokB x y&&Vf l m
 |_,_=>false
theorem BZ(x y:ze)(l m:List ze):Vf (x::l) (y::m)=(tokB x y&&Vf l m):=rfl
theorem DV{x y:ze}:tokB x y=true↔x=y:=by
 obtain⟨a,b,c,d,e⟩:=x;obtain⟨j,f,g,i,h⟩:=y;unfold tokB
 grind
theorem Dm: ∀{l m:List ze},Vf l m=true↔l=m
 |[],[]=>by simp[Vf]
 |x::l,y::m=>by rw[Vf,Ca,DV,Dm,List.cons.injEq]
 |[],y::m=>by simp[Vf]
 |x::l,[]=>by simp[Vf]
theorem BD{l m:List ze}(h:l.length≠m.length):Vf l m=false:=by
 cases a:Vf l m with
 |false=>rfl
 |true=>rw[Dm.1 a]at h;grind
theorem kW {l m:List ze} (hl:l.length=m.length) (hn:l.length<=big) {step:Int->Option (LO Int Unit Bool)}
  (h1: ∀(i:Nat) (h:i<l.length),step (i:Int)=bif !(tokB l[i] (m[i]'(hl▸h)))then some (.ret false)else some (.again (w64 ((i:Int)+1))))
  (h2:step (l.length:Int)=some (.out ())):ZR step 0 (fun _=>some true)=some (Vf l m):=by
 have hb:big=4194304:=rfl;refine Sk (fun s=> ∃i:Nat,i<=l.length/\s=(i:Int)/\Vf (l.drop i) (m.drop i)=Vf l m) (fun s=>l.length - s.toNat) _ ?_ ⟨0,by omega,rfl,rfl⟩;rintro _ ⟨i,hi,rfl,he⟩;rcases Yc i l.length with h|h
 ·rw[h1 i h];have hm:i<m.length:=hl▸h;rw[show l.drop i=l[i]::l.drop (i+1)from ma h,show m.drop i=m[i]::m.drop (i+1)from ma hm,BZ]at he;cases ht:tokB l[i] (m[i]'(hl▸h))with
  |true=> rw[ht,Ab]at he;rw[Ib,Da,Zd (by omega) (by omega)];exact .inl ⟨_,rfl,⟨i+1,by omega,by omega,he⟩,by omega⟩
  |false=>
   grind
 ·have:i=l.length:=by omega
  subst this;rw[We (Ua _),We (by omega)]at he;exact .inr (.inl ⟨(),h2,by rw[<-he];rfl⟩)
theorem sG{α:Type}{l:List α}{i:Nat}(h:i<l.length):geti l (i:Int)=some l[i]:=qI h
theorem int_ne{n m:Nat}:(((n:Int) != (m:Int)):Bool)= !(n==m):=by
 grind
theorem jV{l m:List ze}(d:l.length<=big):ZB (l,m)=some (Vf l m):=by
 unfold ZB;rw[int_ne];cases b:l.length==m.length with
 |false=>rw[Xa,Ea,BD (Ja.1 b)]
 |true=>
  rw[Ib,Da];have a:=Db.1 b;refine kW a d (fun i h=> ?_) ?_
  ·have c:i<m.length:=a▸h;have e:decide ((i:Int)<(l.length:Int))=true:=Ga (by omega);simp only[e,Ea,sG h,sG c,zg,Aa];rfl
  grind
def wrF:Nat->List ze->Str->List ze->Str
 |0,_,b,_=>b
 |_+1,_,b,[]=>b
 |n+1,a,b,t::r=>
  wrF n (a++(t::r).take (pcN (t::r))) ((if Vf (qB (b++pcS ((t::r).take (pcN (t::r))))) (a++(t::r).take (pcN (t::r)))then b else b++cmtW)++pcS ((t::r).take (pcN (t::r)))) ((t::r).drop (pcN (t::r)))
def wrS(l:List ze):Str:=wrF l.length [] [] l
theorem fH: ∀(n:Nat) (ts:List ze) (b:Str) (r:List ze),b.length<=(wrF n ts b r).length
 |0,_,_,_=>Ua _
 |_+1,_,_,[]=>Ua _
 |n+1,ts,b,t::r=>by
  rw[wrF];refine Ub ?_ (fH n _ _ _)
  grind
def Vq(l:List ze):Prop:=(∀t∈l,yf t=true/\t.text.length<=5000/\t.unit.length<=5000)/\ ∀k,k<l.length->okAt (l.drop k)=true
theorem OW{l:List ze}(h:Vq l)(n:Nat):Vq (l.drop n):=by refine⟨fun t b=>h.1 t (List.mem_of_mem_drop b),fun k a=> ?_⟩;rw[Pb]at a;rw[Ve];exact h.2 (n+k) (by omega)
theorem rH{t:ze}{r:List ze}:1<=pcN (t::r):=by rw[Po];grind
theorem OT{t:ze}{r:List ze}:pcN (t::r)<=3:=by rw[Po];grind
theorem pQ{t:ze}{r:List ze}(h:Vq (t::r)):pcN (t::r)<=(t::r).length/\PcT (pcS ((t::r).take (pcN (t::r)))) ((t::r).take (pcN (t::r))):=by
 obtain⟨P,Q,d,c,b⟩:=I9 (fun u a=>(h.1 u a).1) (h.2 0 (by simp))
 grind
theorem CQ{t:ze}(e:yf t=true)(g:t.text.length<=5000)(h2:t.unit.length<=5000):(txS t).length<=20100:=by
 have i: ∀l:Str,l.length<=5000->(ZQ l).length<=20000:=fun l p=>by have:=Xl (l==[45]) (Qi l) l;unfold ZQ;omega
 cases Pn e with
 |cId l d h=>rw[nk];grind
 |cFn l d h=>rw[Mj,Ha];grind
 |cAt l d h=>rw[om,Ka];grind
 |cHash l f d h j=>
  rw[dn,Ka];have s:=i l g;have o:=Xl false 0 l;have m:l.length<=5000:=g;cases f with
  |true=>rw[show Vg true l=ZQ l from rfl];omega
  |false=>rw[show Vg false l=encW false 0 l from rfl];omega
 |cStr l h=>rw[Jl];have:=Fs quoB l;grind
 |cUrl l h=>rw[Un];have:=Fs urB l;grind
 |cDel c h=>rw[Bn];simp
 |cNum n f a b e=>rw[Wn];have:=(cu a b (!f)).1;omega
 |cPct n a b=>rw[Vn,Ha,Kc];have:=(cu a b false).1;omega
 |cDim n u f a b e d h=>
  rw[ym,Ha];have:=(cu a b (!f)).1;have m:u.length<=5000:=h2;have q:(Uf u).length<=20004:=by
   cases u with
   |nil=>grind
   |cons c r=>
    rw[Rp];cases Di (c::r)with
    |true=>
     rw[Ea,Ha];have:=Cs c;have:=Xl false 0 r
     grind
    |false=>grind
  omega
 |cMark k a b=>rw[bn a b];have:=xL k;omega
theorem eB: ∀{l:List ze},(∀t∈l,yf t=true/\t.text.length<=5000/\t.unit.length<=5000)->(catT l).length<=20100*l.length
 |[],_=>Vb _
 |t::r,h=>by obtain⟨a,b,c⟩:=h t (ib ..);have:=CQ a b c;have:=eB (l:=r) (fun u d=>h u (Lb _ d));rw[catT,Ha,Ka];omega
theorem wI: ∀(l m:List ze),catT (l++m)=catT l++catT m
 |[],m=>rfl
 |t::l,m=>by rw[Ta,catT,catT,wI l m,Oa]
theorem CW {R:Type} {step:Int×List UInt8->Option (LO (Int×List UInt8) (List UInt8) R)} {l:List ze} (m:l.length<=3) (e: ∀t∈l,yf t=true/\t.text.length<=5000/\t.unit.length<=5000)
  (f: ∀(i:Nat) (a:Str) (hi:i<l.length),step ((i:Int),a)=(QQ (l[i],a)).bind fun j=>some (LO.again (w64 ((i:Int)+1),j)))
  (h2: ∀a,step ((l.length:Int),a)=some (.out a)):Dg step (0,[])=some (.out (catT l)):=by
 refine ZT (fun z=> ∃(i:Nat),i<=l.length/\z=((i:Int),catT (l.take i))) (fun z=>l.length - z.1.toNat) _ ?_ ⟨0,by omega,rfl⟩;rintro _ ⟨i,hi,rfl⟩;rcases Yc i l.length with h|h
 ·obtain⟨a,b,c⟩:=e l[i] (Gd h);have g:=eB (l:=l.take i) (fun t d=>e t (List.mem_of_mem_take d));rw[Lc]at g;have k:min i l.length<=2:=by omega
  have d:=aU (acc:=catT (l.take i)) a b c (by
   grind)
  rw[f i _ h,d,Aa];refine .inl ⟨_,rfl,⟨i+1,by omega,?_⟩,by simp only;rw[Zd (by omega) (by omega)];omega⟩;rw[Zd (by omega) (by omega),Gc h,wI];refine Prod.ext (by grind) ?_;show _=catT (l.take i)++(txS l[i]++[])
  grind
 grind
def stO(x:List ze×Str):zu:=⟨(x.1.length:Int),(x.2.length:Int)⟩
theorem VV{b s A B:Str}{ts L us P:List ze}{m:Nat}(h:b=B++A/\A≠[]/\ts=L++us/\us≠[]/\ ∃R,run b L R/\Lk R A/\4<=R.length/\4<=A.length):Vf (qB (A++s)) (us++P)=Vf (qB (b++s)) (ts++P):=by
 obtain⟨o,k,i,n,R,j,a,l,e⟩:=h;have g:=Mo (DI s j l);have f:Lk (R++s) (A++s):=by
  refine oG a k ?_;rcases a with a|⟨d,y,_,rfl,_⟩
  ·cases A with
   |nil=>grind
   |cons c t=>
    cases t with
    |cons d u=>rw[nU,<-a];exact Ur R
    |nil=>simp at e
  ·rfl
 rw[dI f]at g;rw[g,i,Bool.eq_iff_iff,Dm,Dm,Oa,List.append_cancel_left_eq]
theorem LW{x:List ze}(h:gluS x=0):x.length<=1500/\(∀t∈x,yf t=true)/\ ∀k,k<x.length->okAt (x.drop k)=true:=by
 unfold gluS at h;cases hl:decide (x.length<=1500)with
 |false=>grind
 |true=>
  rw[hl,Ea]at h;cases ha:(List.range x.length).all (Al x)with
  |false=>grind
  |true=>
   rw[Rb]at ha;have key: ∀k,k<x.length->yf (x.getD k default)=true/\okAt (x.drop k)=true:=by intro k hk;have:=ha k (Mc.2 hk);unfold Al at this;rw[Ca]at this;exact this
   refine⟨Ec hl,fun t ht=> ?_,fun k hk=>(key k hk).2⟩;obtain⟨k,hk,rfl⟩:=List.mem_iff_getElem.1 ht
   grind
theorem JR{t:ze}{r:List ze}:(bif t.kind==9 then((pcN (t::r):Nat):Int)==2 else false)=(t.kind==9&&t.text==[92]):=by
 cases a:t.kind==9 with
 |false=>rfl
 |true=>
  have b:Og t=false:=by unfold Og;rw[Db.1 a];rfl
  rw[Po,a,Ea,b]
  grind
theorem pU{t:ze}{r:List ze}:pcS ((t::r).take (pcN (t::r)))=bif (t.kind==9&&t.text==[92])then [92,10]else catT ((t::r).take (pcN (t::r))):=by
 obtain⟨k,a⟩: ∃k,pcN (t::r)=k+1:=⟨pcN (t::r) - 1,by have:=rH (t:=t) (r:=r);omega⟩;rw[a,Bg,pcS]
 grind
theorem YC{n:Nat}{ts:List ze}{b:Str}{t:ze}{r:List ze}{s:Str}{P:List ze}(a:(t::r).take (pcN (t::r))=P)(c:pcS P=s):
  wrF (n+1) ts b (t::r)=wrF n (ts++P) ((if Vf (qB (b++s)) (ts++P)then b else b++cmtW)++s) ((t::r).drop (pcN (t::r))):=by
 subst c a;rw[wrF]
theorem ap16{n:Nat}(h:n<=99999):zD n 1 16=true:=Vi (by omega) (by omega)
theorem LH{n m:Nat}(h:n+m<=200000):zD n m 1=true:=by
 unfold zD
 grind
theorem xR{R:Type}{i:Int}{b:Str}{ts:List ze}{st:List (List ze×Str)}(h:zyH b ts st)(g:st.length<=100000): ∃L B A us,
  (bif decide (w64 (((st.map stO).length:Int) - 4)>=0)then
        need (decide (0<=w64 (((st.map stO).length:Int) - 4))&&decide (w64 (((st.map stO).length:Int) - 4)<((st.map stO).length:Int)))<|
        ((st.map stO)[(w64 (((st.map stO).length:Int) - 4)).toNat]?).bind fun c=>
        some (LX.out (i,b,st.map stO,c))
       else
        some (LX.out (i,b,st.map stO,(⟨0,0⟩:zu))))=(some (LX.out (i,b,st.map stO,stO (L,B))):Option (LX (Int×List UInt8×List zu×zu) R))/\
  b=B++A/\ts=L++us/\ ∀s P,Vf (qB (A++s)) (us++P)=Vf (qB (b++s)) (ts++P):=by
 rw[ja];by_cases l:4<=st.length
 ·obtain⟨A,R,us,d,k,e,a,j,f,o,n⟩:=h.bd (st.length - 4) (by omega);refine⟨st[st.length - 4].1,st[st.length - 4].2,A,us,?_,d,e,fun s P=>VV (m:=0) ⟨d,k,e,a,R,j,f,by omega,by omega⟩⟩;rw[Zd (by omega) (by omega),Ga (by omega),Ea,Ga (by omega),Bool.and_self,zR,show((st.length:Int) - 4).toNat=st.length - 4 by omega,Na,Sa (by omega)];rfl
 ·refine⟨[],[],b,ts,?_,rfl,rfl,fun s P=>rfl⟩;rw[Zd (by omega) (by omega),aa (by omega),Da];rfl
theorem SV{x:List ze}(hx: ∀t∈x,t.text.length<=5000/\t.unit.length<=5000):
  Pm x=some (if gluS x=0 then(if 4000<(wrS x).length then([],28)else(wrS x,0))else([],gluS x)):=by
 unfold Pm;have hbig:big=4194304:=rfl;rw[BO (fun t ht=>by grind)];simp only[zg,Aa];by_cases hg:gluS x=0
 ·rw[Ia hg,hg,show((0:Int) != 0)=false from rfl,Da];obtain⟨hlen,hfine,hok⟩:=LW hg;have hrest:Vq x:=⟨fun t ht=>⟨hfine t ht,hx t ht⟩,hok⟩;refine Sk (fun z=> ∃(i:Nat) (b:Str) (st:List (List ze×Str)) (n:Nat),z=((i:Int),b,st.map stO)/\i<=x.length/\Syn b (x.take i) st/\b.length<=4000/\x.length - i<=n/\wrF n (x.take i) b (x.drop i)=wrS x/\st.length<=i) (fun z=>x.length - z.1.toNat) _ ?_
   ⟨0,[],[],x.length,rfl,Vb _, .nil,Vb _,Ua _,rfl,Ua _⟩
  rintro _ ⟨i,b,st,n,rfl,hi,hsyn,hbl,hn,hW,hst⟩;simp only;rcases Yc i x.length with h|h
  ·have hro:=OW hrest i;have hdr:x.drop i=x[i]::x.drop (i+1):=ma h;obtain⟨t,ht⟩: ∃t,t=x[i]:=⟨_,rfl⟩;obtain⟨r,hr⟩: ∃r,r=x.drop (i+1):=⟨_,rfl⟩;rw[<-ht,<-hr]at hdr;rw[hdr]at hro hW;have hlr:(t::r).length=x.length - i:=by rw[<-hdr,Pb]
   obtain⟨hk1,hpc⟩:=pQ hro;have hk0:=rH (t:=t) (r:=r);have hk3:=OT (t:=t) (r:=r);obtain⟨k,hk⟩: ∃k,pcN (t::r)=k:=⟨_,rfl⟩;obtain⟨P,hP⟩: ∃P,(t::r).take k=P:=⟨_,rfl⟩;obtain⟨s,hs⟩: ∃s,pcS P=s:=⟨_,rfl⟩;have hst':=pU (t:=t) (r:=r);have hstep:=fun m=>YC (n:=m) (ts:=x.take i) (b:=b) (t:=t) (r:=r) (s:=s) (P:=P) (by rw[hk];exact hP) hs;have e3:qN (List.drop i x)=some ((k:Nat):Int):=by rw[hdr,<-hk];exact aW (by grind) (hro.2 0 (by simp))
   have hb2:=JR (t:=t) (r:=r);rw[hk]at hk0 hk1 hk3 hpc hst' hb2 hstep;rw[hP]at hpc hst';rw[hs]at hpc hst';rw[hlr]at hk1;have e1:decide ((i:Int)<(x.length:Int))=true:=Ga (by omega);have e2:(decide ((0:Int)<=(i:Int))&&decide ((i:Int)<=(x.length:Int)))=true:=by rw[Ga (by omega),Ga (by omega)];rfl
   have e4:w64 ((i:Int)+((k:Nat):Int))=((i+k:Nat):Int):=by rw[Zd (by omega) (by omega)];omega
   have e5:(decide ((0:Int)<=(i:Int))&&(decide ((i:Int)<=((i+k:Nat):Int))&&decide (((i+k:Nat):Int)<=(x.length:Int))))=true:=by rw[Ga (by omega),Ga (by omega),Ga (by omega)];rfl
   have e6:geti x (i:Int)=some t:=by rw[qI h,ht]
   have e7:List.drop i (List.take (i+k) x)=P:=by rw[List.drop_take,hdr,show i+k - i=k by omega,hP]
   simp only[e1,e2,e3,e4,e5,e6,Ea,zR,Aa,Va,e7];have hPl:P.length<=3:=by rw[<-hP,Lc];omega
   have hPf: ∀u∈P,yf u=true/\u.text.length<=5000/\u.unit.length<=5000:=fun u hu=>hro.1 u (by grind);have hsl:s.length<=60400:=by
    have:=eB hPf;rw[hst'];cases t.kind==9&&t.text==[92]with
    |true=>grind
    |false=>grind
   rw[qD (CW (l:=P) hPl hPf (fun j a hj=> ?_) (fun a=> ?_))]
   ·rw[hb2];have hj9:(bif (t.kind==9&&t.text==[92])then some (LX.out ((i:Int),b,st.map stO,[(92:UInt8),(10:UInt8)]))else some (LX.out ((i:Int),b,st.map stO,catT P)))=(some (LX.out ((i:Int),b,st.map stO,s)):Option (LX (Int×List UInt8×List zu×List UInt8) (LO (Int×List UInt8×List zu) (List UInt8) (Str×Int)))):=by rw[hst'];cases t.kind==9&&t.text==[92]<;>rfl
    rw[hj9,zh];simp only;have hsok:=RH hsyn;obtain⟨L,B,A,us,hfrom,hbA,hts,hwin⟩:=xR (R:=LO (Int×List UInt8×List zu) (List UInt8) (Str×Int)) (i:=(i:Int)) hsok (by omega);rw[hfrom,zh];have hBl:B.length<=b.length:=by rw[hbA,Ha];omega
    have hAl:A.length<=b.length:=by rw[hbA,Ha];omega
    have f1:(decide ((0:Int)<=(stO (L,B)).at_)&&decide ((stO (L,B)).at_<=(b.length:Int)))=true:=by show(decide ((0:Int)<=(B.length:Int))&&decide ((B.length:Int)<=(b.length:Int)))=true;rw[Ga (by omega),Ga (by omega)];rfl
    have f2:(stO (L,B)).at_.toNat=B.length:=Va _;have f3:decide (B.length+(b.length - B.length)<=b.length)=true:=Ga (by omega);have f4:List.take (b.length - B.length) (List.drop B.length b)=A:=by rw[hbA,List.drop_left,Ha,show B.length+A.length - B.length=A.length by omega,List.take_length]
    have f5:df A.length s.length=true:=Kj.2 (by omega);simp only[f1,f2,f3,f4,f5,zR,wL,Aa,e4,Va];have htl:(stO (L,B)).token=(L.length:Int):=rfl;have hLl:L.length<=i:=by have:=congrArg List.length hts;rw[Lc,Ha]at this;omega
    have htk:List.drop L.length (List.take (i+k) x)=us++P:=by
     have:List.take (i+k) x=L++(us++P):=by rw[List.take_add,hdr,hP,hts,Oa]
     rw[this,List.drop_left]
    have hPlen:P.length=k:=by rw[<-hP,Lc];omega
    have husP:(us++P).length<=1500:=by have h1:=congrArg List.length hts;rw[Lc,Ha]at h1;rw[Ha,hPlen];omega
    have hcl:clB (A++s)=true:=by have h1:=BR hsyn;rw[hbA,Qh,Ca]at h1;rw[Qh,h1.2,Xz hpc];rfl
    obtain⟨c,hc⟩: ∃c,c=Vf (qB (b++s)) (x.take i++P):=⟨_,rfl⟩;have hwinc:Vf (qB (A++s)) (us++P)=c:=by rw[hc];exact hwin s P
    obtain⟨c',hc'⟩: ∃c',c'=(decide ((A++s).length<=4000)&&c):=⟨_,rfl⟩;have hneed:(decide ((0:Int)<=(stO (L,B)).token)&&(decide ((stO (L,B)).token<=((i+k:Nat):Int))&&decide (((i+k:Nat):Int)<=(x.length:Int))))=true:=by rw[htl,Ga (by omega),Ga (by omega),Ga (by omega)];rfl
    have hcat: ∀(E:Option (LX (Int×List zu×List UInt8) (LO (Int×List UInt8×List zu) (List UInt8) (Str×Int)))),
      E=(need (decide ((0:Int)<=(stO (L,B)).token)&&(decide ((stO (L,B)).token<=((i+k:Nat):Int))&&decide (((i+k:Nat):Int)<=(x.length:Int)))|| !(!((Qf (A++s)).2 != 0)))<|
       (zx (!((Qf (A++s)).2 != 0)) (ZB ((Qf (A++s)).1,List.drop (stO (L,B)).token.toNat (List.take (i+k) x))) (default:Bool)).bind fun y13=>
       bif bif (Qf (A++s)).2 != 0 then true else !y13 then
        need (zD b.length ([47,42,42,47]:Str).length 1)<|
        some (LX.out ((i:Int),st.map stO,b++([47,42,42,47]:Str)))
       else
        some (LX.out ((i:Int),st.map stO,b)))->E=some (LX.out ((i:Int),st.map stO,if c' then b else b++cmtW)):=by
     rintro E rfl;rw[hneed,Ae,zR,show(stO (L,B)).token.toNat=L.length from Va _,htk];have happ:zD b.length ([47,42,42,47]:Str).length 1=true:=LH (by grind);unfold Qf;by_cases hlong:4000<(A++s).length
     ·rw[Ia hlong];have:c'=false:=by rw[hc',aa (by omega)];rfl
      rw[this];simp only[show((28:Int) != 0)=true from rfl,Ib,ZH,Aa,Ea,happ,zR];rfl
     ·rw[Fa hlong,oJ _ hcl];have hcc:c'=c:=by rw[hc',Ga (by omega)];rfl
      by_cases hmany:1500<(qB (A++s)).length
      ·rw[Ia hmany];have:c'=false:=by rw[hcc,<-hwinc];exact BD (by omega)
       rw[this];simp only[show((4:Int) != 0)=true from rfl,Ib,ZH,Aa,Ea,happ,zR];rfl
      ·rw[Fa hmany];simp only[show((0:Int) != 0)=false from rfl,Xa,zS,Da,jV (show(qB (A++s)).length<=big by omega),hwinc,Aa,happ,zR]
       grind
    rw[hcat _ rfl,zh];simp only;obtain⟨m,hm⟩: ∃m,n=m+1:=⟨n - 1,by omega⟩;subst hm;rw[hstep m,<-hc]at hW;have hWl:=fH m (x.take i++P) ((if c then b else b++cmtW)++s) ((t::r).drop k);rw[hW]at hWl;have hcw:cmtW.length=4:=rfl;have hb1:(if c' then b else b++cmtW).length<=4004:=by
     split
     ·omega
     ·grind
    rw[zA (ap16 (by grind)),zA (LH (by omega))];have hbs:b.length+s.length<=(wrS x).length:=by
     refine Ub ?_ hWl;rw[Ha];split
     ·omega
     ·grind
    by_cases hbig2:4000<((if c' then b else b++cmtW)++s).length
    ·grind
    ·rw[aa (by omega),Da];have hcc:c'=c:=by
      have:(A++s).length<=4000:=by
       rw[Ha]at hbig2 ⊢;have:b.length<=(if c' then b else b++cmtW).length:=by
        split
        ·grind
        ·grind
       omega
      rw[hc',Ga this];rfl
     rw[hcc]at hbig2 ⊢;have hxt:x.take (i+k)=x.take i++P:=by rw[List.take_add,hdr,hP]
     refine .inl ⟨_,rfl,⟨i+k,(if c then b else b++cmtW)++s,st++[(x.take i,if c then b else b++cmtW)],m,?_,by omega,?_,by omega,by omega,?_,?_⟩,?_⟩
     ·refine Prod.ext e4 (Prod.ext rfl ?_);rw[Me];show st.map stO++[_]=st.map stO++[stO (x.take i,if c then b else b++cmtW)];unfold stO
      grind
     ·rw[hxt];cases hcb:c with
      |true=> rw[Ia rfl];exact .no b s _ P st hsyn hpc (Dm.1 (by rw[<-hc,hcb]))
      |false=> rw[Fa (by decide)];refine .cmt b s _ P st hsyn ?_ hpc;rintro rfl;have h0:=hsok.tok;rw[Q6 (qg rfl)]at h0;rw[<-h0,Xb,Xb,Br hpc]at hc;rw[hcb,Dm.2 rfl]at hc;cases hc
     ·rw[hxt,<-hW,<-Ve,hdr]
     ·rw[Ha,Kc];omega
     ·simp only;rw[e4];omega
   ·have d1:decide ((j:Int)<(P.length:Int))=true:=Ga (by omega);simp only[d1,Ea,qI hj,Aa]
   ·simp only;rw[aa (by omega),Da]
  ·have:i=x.length:=by omega
   subst this;have e1:decide ((x.length:Int)<(x.length:Int))=false:=aa (by omega);simp only[e1,Da];refine .inr (.inl ⟨_,rfl,?_⟩);rw[We (Ua _)]at hW;have hWb:b=wrS x:=by
    cases n with
    |zero=>rw[wrF]at hW;exact hW
    |succ n=>rw[wrF]at hW;exact hW
   rw[<-hWb,Fa (by omega)]
 grind
end Go.Lv.VT
