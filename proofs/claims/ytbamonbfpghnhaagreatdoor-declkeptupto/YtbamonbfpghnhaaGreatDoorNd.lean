/- Pieces: what is written at once; how they begin. -/
import Derived.Test.YtbamonbfpghnhaaGreatDoorNc
import Derived.Test.YtbamonbfpghnhaaGreatDoorNam
set_option linter.unusedSimpArgs false
set_option linter.unusedVariables false
namespace Go.Lv.VT
set_option maxRecDepth 100000
abbrev tkSp:ze:=⟨13,[],0,[],false⟩
inductive PcT:Str->List ze->Prop
 |one (t:ze) (h:zeB t) (hb: ¬(t.kind=9/\t.text=[92])) (hu:ig t=false):PcT (txS t) [t]
 |back:PcT [92,10] [⟨9,[92],0,[],false⟩,tkSp]
 |url (l m:Str) (s:Bool) (h:Zv l=true) (hl:lowS l=[117,114,108]) (hm:Zv m=true):
   PcT (ZF l++40::((if s then [32]else [])++34::(encB quoB m++[34]))) (⟨2,l,0,[],false⟩::((if s then [tkSp]else [])++[⟨5,m,0,[],false⟩]))
theorem kK{l:Str}(h:lowS l=[117,114,108]): ∃a r,l=a::r/\(a=117\/a=85):=by
 cases l with
 |nil=>cases h
 |cons a r=>
  have h1:vk a=117:=by unfold lowS at h;rw[Gc]at h;injection h
  have: ∀n:Nat,n<256->vk (UInt8.ofNat n)=117->UInt8.ofNat n=117\/UInt8.ofNat n=85:=by decide+kernel
  have:=this a.toNat (Jb a);simp_all
theorem Ow{l:Str}(a:l≠[])(z:Str):nmS (ZF l++40::z)=true:=nJ (Ki a) (by show(40:UInt8)≠10;decide)
theorem Jq{k:Int}(a:13<=k)(h2:k<=24):k=13\/k=14\/k=15\/k=16\/k=17\/k=18\/k=19\/k=20\/k=21\/k=22\/k=23\/k=24:=by omega
theorem ny{s:Str}{P:List ze}(h:PcT s P):nmS s=true\/(∃n p U t,P=[t]/\s=numT n p++U/\t.num=n/\(U=[]/\t.kind=10\/U=[37]\/ ∃u,u≠[]/\Zv u=true/\U=jf u))\/
  (∃c r,s=c::r/\(c=64\/c=35\/c=34)/\nbS s=false)\/(∃c,s=[c]/\Ii c.toNat=true)\/(∃k,13<=k/\k<=24/\s=Uk k)\/s=[92,10]:=by
 cases h with
 |one t h q v=>
  cases h with
  |cId l b h=>left;rw[Pk];exact Ki b
  |cFn l b h=>left;rw[Fj];exact Ow b []
  |cAt l b h=>right;right;left;rw[Im];exact⟨64,_,rfl, .inl rfl,rfl⟩
  |cHash l f b h j=>right;right;left;rw[ym];exact⟨35,_,rfl, .inr (.inl rfl),rfl⟩
  |cStr l h=>right;right;left;rw[Il];exact⟨34,_,rfl, .inr (.inr rfl),rfl⟩
  |cUrl l h=>left;rw[Um];rfl
  |cDel c h=>right;right;right;left;rw[Ym];grind
  |cNum n f d e g=>right;left;exact⟨n, !f,[],_,rfl,by rw[Wm,Ua],rfl, .inl ⟨rfl,rfl⟩⟩
  |cPct n d e=>right;left;exact⟨n,false,[37],_,rfl,Vm n,rfl, .inr (.inl rfl)⟩
  |cDim n u f d e g b h=>right;left;exact⟨n, !f,jf u,_,rfl,Xm n u f,rfl, .inr (.inr ⟨u,b,h,rfl⟩)⟩
  |cMark k d e=>right;right;right;right;left;exact⟨k,d,e,wm d e⟩
 |back=>grind
 |url l m s h i o=> left;obtain⟨a,r,rfl,_⟩:=kK i;exact Ow (by simp) _
theorem aF(c:UInt8)(h:Ii c.toNat=true):spB c=false/\nbS [c]=false/\c≠101/\c≠69:=by
 have: ∀n:Nat,n<256->Ii (UInt8.ofNat n).toNat=true->spB (UInt8.ofNat n)=false/\nbS [UInt8.ofNat n]=false/\UInt8.ofNat n≠101/\UInt8.ofNat n≠69:=by decide+kernel
 have:=this c.toNat (Jb c);simp_all
theorem xV{s:Str}(h:digB (atS (unsign s) 0)=true):nbS s=true:=by
 unfold nbS undot;have:(atS (unsign s) 0==46)=false:=Ha.2 (Q4 h).2.2.1
 grind
theorem Iw{s:Str}{P:List ze}(h:PcT s P)(d:digB (atS (unsign s) 0)=true): ∃n p U t,P=[t]/\s=numT n p++U/\t.num=n/\(U=[]/\t.kind=10\/U=[37]\/ ∃u,u≠[]/\Zv u=true/\U=jf u):=by
 have a:=xV d;rcases ny h with h|h|⟨c,r,e,_,h⟩|⟨c,rfl,f⟩|⟨k,b,g,rfl⟩|rfl
 ·rw[aS h]at a;cases a
 ·exact h
 ·grind
 ·rw[(aF c f).2.1]at a;cases a
 ·rcases Jq b g with rfl|rfl|rfl|rfl|rfl|rfl|rfl|rfl|rfl|rfl|rfl|rfl<;>cases a
 ·cases a
theorem zCU{s:Str}{P:List ze}(h:PcT s P)(a:spB (atS s 0)=true):s=[32]:=by
 rcases ny h with h|⟨n,p,U,t,_,rfl,_⟩|⟨c,r,rfl,g,_⟩|⟨c,rfl,f⟩|⟨k,d,b,rfl⟩|rfl
 ·rw[(Ep (Dm h)).1]at a;cases a
 ·obtain⟨c,r,e,_,b,_⟩:=dm n p U;rw[e]at a;rw[show atS (c::r) 0=c from rfl,b]at a;cases a
 ·rcases g with rfl|rfl|rfl<;>cases a
 ·rw[show atS [c] 0=c from rfl,(aF c f).1]at a;cases a
 ·rcases Jq d b with rfl|rfl|rfl|rfl|rfl|rfl|rfl|rfl|rfl|rfl|rfl|rfl<;>first|rfl|cases a
 ·cases a
theorem Ty{s:Str}{P:List ze}(h:PcT s P){b:UInt8}(f:b=47\/b=42)(d:atS s 0=b):s=[b]:=by
 rcases ny h with h|⟨n,p,U,t,_,rfl,_⟩|⟨c,r,rfl,g,_⟩|⟨c,rfl,j⟩|⟨k,a,i,rfl⟩|rfl
 ·have a:=Dm h;rw[d]at a;rcases f with rfl|rfl<;>cases a
 ·obtain⟨c,r,e,a,_⟩:=dm n p U;rw[e]at d;rw[show c=b from d]at a;rcases f with rfl|rfl<;>cases a
 ·rw[show c=b from d]at g
  grind
 ·rw[show c=b from d]
 ·rcases Jq a i with rfl|rfl|rfl|rfl|rfl|rfl|rfl|rfl|rfl|rfl|rfl|rfl<;>rcases f with rfl|rfl<;>cases d
 ·rcases f with rfl|rfl<;>cases d
theorem Uh{s:Str}{P:List ze}(h:PcT s P):s≠[]:=by
 rcases ny h with h|⟨n,p,U,t,_,rfl,_⟩|⟨c,r,rfl,d,_⟩|⟨c,rfl,f⟩|⟨k,b,a,rfl⟩|rfl
 ·exact Pi h
 ·obtain⟨c,r,e,_⟩:=dm n p U;rw[e];simp
 ·simp
 ·simp
 ·rcases Jq b a with rfl|rfl|rfl|rfl|rfl|rfl|rfl|rfl|rfl|rfl|rfl|rfl<;>decide
 ·simp
theorem CW{l:Str}{c:UInt8}{r:Str}(b:c=101\/c=69)(h:ZF l=c::r): ∃t,l=c::t:=by
 cases l with
 |nil=>unfold ZF at h;rw[encW]at h;cases h
 |cons a t=>
  have g:ZF (a::t)=pcW ((a::t:Str)==[45]) (Qr (a::t)) a++encW ((a::t:Str)==[45]) (Qr (a::t) - 1) t:=rfl;obtain⟨d,u,e,f⟩:=ry (dash:=(a::t:Str)==[45]) (k:=Qr (a::t)) (by unfold Qr;split<;>omega) a (encW ((a::t:Str)==[45]) (Qr (a::t) - 1) t)
  grind
theorem zB8{s:Str}{P:List ze}(h:PcT s P)(b:atS s 0=101\/atS s 0=69): ∃l t z,Zv l=true/\P=[t]/\(t.kind=1\/t.kind=2)/\t.text=l/\s=ZF l++z/\(z=[]\/z=[40]):=by
 cases h with
 |one t h B C=>
  cases h with
  |cId l i h=>exact⟨l,_,[],h,rfl, .inl rfl,rfl,by rw[Pk,Ua], .inl rfl⟩
  |cFn l i h=>exact⟨l,_,[40],h,rfl, .inr rfl,rfl,Fj l, .inr rfl⟩
  |cAt l i h=>rw[Im]at b;rcases b with b|b<;>cases b
  |cHash l f i h v=>rw[ym]at b;rcases b with b|b<;>cases b
  |cStr l h=>rw[Il]at b;rcases b with b|b<;>cases b
  |cUrl l h=>rw[Um]at b;rcases b with b|b<;>cases b
  |cDel c h=>
   rw[Ym]at b;obtain⟨_,_,p,q⟩:=aF c h;rcases b with b|b
   ·exact absurd b p
   ·exact absurd b q
  |cNum n f d g w=>
   rw[Wm]at b;obtain⟨c,r,e,d,_⟩:=dm n (!f) [];rw[Ua]at e;rw[e]at b;rcases b with b|b<;>(rw[show c=_ from b]at d;cases d)
  |cPct n d g=>
   rw[Vm]at b;obtain⟨c,r,e,d,_⟩:=dm n false [37];rw[e]at b;rcases b with b|b<;>(rw[show c=_ from b]at d;cases d)
  |cDim n u f d g w i h=>
   rw[Xm]at b;obtain⟨c,r,e,d,_⟩:=dm n (!f) (jf u);rw[e]at b;rcases b with b|b<;>(rw[show c=_ from b]at d;cases d)
  |cMark k d g=> rw[wm d g]at b;rcases Jq d g with rfl|rfl|rfl|rfl|rfl|rfl|rfl|rfl|rfl|rfl|rfl|rfl<;>rcases b with b|b<;>cases b
 |back=>rcases b with b|b<;>cases b
 |url l m s h o y=>
  exfalso;obtain⟨a,r,rfl,D⟩:=kK o;obtain⟨c,A,e⟩:=Eh (Pi (Ki (l:=a::r) (by simp)));have j:c=101\/c=69:=by rw[e]at b;exact b
  obtain⟨t,x⟩:=CW j e;injection x with e3 _
  grind
def ShS(s r:Str):Prop:=r=s\/ ∃d y,digB d=true/\s=48::46::d::y/\r=46::d::y
theorem YM(cap:Nat)(l:Str):capF cap 0 (48::l)=capF cap 0 l:=by show capF cap (min cap (decN 0 48)) l=_;rw[show decN 0 48=0 from rfl,Nat.min_zero]
theorem vU(A:Str)(p:Int):thoV (48::A) p=thoV A p:=by
 unfold thoV;by_cases a:p<0
 ·rw[Ga a,Ga a];by_cases c:(A.length:Int)+p<0
  ·have b:(((48::A:Str).length:Int)+p).toNat=0:=by rw[Ka];omega
   grind
  ·have b:(((48::A:Str).length:Int)+p).toNat=((A.length:Int)+p).toNat+1:=by rw[Ka];omega
   rw[b,Ye,YM]
 ·rw[Fa a,Fa a,YM]
theorem LA(d:UInt8)(y:Str)(e:digB d=true):Zk (48::46::d::y)=Zk (46::d::y):=by
 have j:Rf 48=false/\Rf 46=false:=by decide
 have b:Hf (48::46::d::y)=46::d::y:=rfl;have a:Hf (46::d::y)=46::d::y:=rfl;have h:zK (48::46::d::y)=zK (46::d::y):=by rw[QF,QF,b,a]
 have g:(numP (48::46::d::y)).val=(numP (46::d::y)).val:=by have c:numP (48::46::d::y)=⟨[],[48],dotP (46::d::y),expP (zY (46::d::y)).1⟩:=rfl;have i:numP (46::d::y)=⟨[],[],dotP (46::d::y),expP (zY (46::d::y)).1⟩:=rfl;rw[c,i];unfold NumP.val;simp only[Oc,Nb,vU]
 have f:nbS (46::d::y)=true:=e;rw[Jo,Fa (by decide),Fa (by decide),show((48:UInt8)==35)=false from rfl,Rb,Fa (by decide),show nbS (48::46::d::y)=true from rfl,Ga rfl,
  Jo,Fa (by decide),Fa (by decide),show((46:UInt8)==35)=false from rfl,Rb,Fa (by decide),f,Ga rfl]
 unfold zG;rw[h,g]
theorem capG(cap:Nat): ∀(l:Str) (n:Nat),valG n l<=cap->capF cap n l=valG n l
 |[],n,_=>rfl
 |c::l,n,h=>by
  have b:valG n (c::l)=valG (decN n c) l:=rfl;rw[b]at h ⊢;have a:decN n c<=valG (decN n c) l:=by rw[Gu l (decN n c)];have:=Ae (decN n c) (uf (n:=l.length) (show 0<10 by omega));omega
  rw[capF,Nat.min_eq_right (Yb a h)];exact capG cap l (decN n c) h
theorem gI: ∀(k n:Nat),n*10 ^ k<=1000->mh k n=n*10 ^ k
 |0,n,_=>by rw[mh,Nat.pow_zero,Df]
 |k+1,n,h=>by
  have c:Jh=1000000000000:=rfl;rw[mh];have a:0<10 ^ k:=uf (by omega);have e:n*10 ^ (k+1)=10*n*10 ^ k:=by rw[Nat.pow_succ,Nat.mul_comm 10 n,Nat.mul_assoc,Nat.mul_comm (10 ^ k) 10]
  have d:10*n<=10*n*10 ^ k:=Ae _ a;by_cases b:n=0
  ·subst b;simp
  ·rw[Fa (by omega),Nat.min_eq_right (by omega),gI k (10*n) (by omega),e]
theorem PX{n:Int}{p:Bool}(hp:(partT (n.natAbs%1000) p).isEmpty=false){U:Str}(hU:past digB U=U)(hx:expS U=none):
  (numP (46::(partT (n.natAbs%1000) p++U))).val=((n.natAbs%1000:Nat):Int):=by
 obtain⟨k1,k2,k3,_,_⟩:=Uj (r:=n.natAbs%1000) (by omega) p;generalize partT (n.natAbs%1000) p=F at*;obtain⟨c,r,rfl⟩:=Eh (show F≠[] by grind);have hc:digB c=true:=by rw[Rc,Da]at k1;exact k1.1
 have hq:Hf (46::(c::r++U))=46::(c::r++U):=rfl;have hpast:past digB (c::r++U)=U:=by rw[uy _ _ k1,hU]
 have hw:zY (46::(c::r++U))=(U,false):=by unfold zY;rw[show atS (46::(c::r++U)) 1=c from rfl,hc,show(atS (46::(c::r++U)) 0==46&&true)=true from rfl,Ga rfl,show(46::(c::r++U)).drop 1=c::r++U from rfl,hpast]
 have hrun:List.takeWhile digB (c::r++U)=c::r:=by have:=Yu digB (c::r++U);rw[hpast]at this;exact List.append_cancel_right this
 have hd:dotP (46::(c::r++U))=some (c::r):=by unfold dotP;rw[show atS (46::(c::r++U)) 1=c from rfl,hc,show(atS (46::(c::r++U)) 0==46&&true)=true from rfl,Ga rfl,show(46::(c::r++U)).drop 1=c::r++U from rfl,hrun]
 have he:expP U=none:=by unfold expP;rw[Ui]at hx;rw[hx,Fa (by decide)]
 have hP:numP (46::(c::r++U))=⟨[],[],some (c::r),none⟩:=by show(⟨sgOf (46::(c::r++U)),_,dotP (46::(c::r++U)),expP (zY (46::(c::r++U))).1⟩:NumP)=_;rw[hd,hw,he];rfl
 rw[hP];unfold NumP.val;show(((thoV ([]++(c::r)) (3+0 - ((c::r:Str).length:Int))):Nat):Int)=_;unfold thoV;rw[Nb,Fa (by omega),show(3+0 - ((c::r:Str).length:Int)).toNat=3 - (c::r:Str).length by omega];have hle:valG 0 (c::r)<=1000:=by have:=Ae (valG 0 (c::r)) (uf (n:=3 - (c::r:Str).length) (show 0<10 by omega));omega
 rw[capG _ _ _ (by unfold Jh;omega),gI _ _ (by omega),k3]
theorem nW{m:Nat}(h:m=0):Lib.decDigits m=[48]:=by subst h;decide+kernel
theorem Oy{t:ze}{U:Str}(f:U=[]/\t.kind=10\/U=[37]\/ ∃u,u≠[]/\Zv u=true/\U=jf u):past digB U=U/\expS U=none/\(U=[]\/U=[37]\/(nmS U=true/\(zm U).2=[])):=by
 rcases f with⟨rfl,_⟩|rfl|⟨u,a,h,rfl⟩
 ·exact⟨rfl,rfl, .inl rfl⟩
 ·exact⟨rfl,rfl, .inr (.inl rfl)⟩
 ·have c:=Tx a h;have e:=(yx c []).1;have d:=wP a h (x:=[]) (.inl rfl);have b:=KA a h [];rw[Ua]at e d b;exact⟨e,d, .inr (.inr ⟨c,by rw[b,qH]⟩)⟩
theorem XB(n:Int)(p:Bool)(U:Str):past digB (unsign (numT n p++U))=past digB (dotS (if(partT (n.natAbs%1000) p).isEmpty then none else some (partT (n.natAbs%1000) p))++U):=q2_T n p U
theorem rC{n:Int}{p:Bool}(U:Str)(a:(partT (n.natAbs%1000) p).isEmpty=true):past digB (unsign (numT n p++U))=past digB U:=by rw[XB,a];rfl
theorem oC{n:Int}{p:Bool}(U:Str)(a:(partT (n.natAbs%1000) p).isEmpty=false):past digB (unsign (numT n p++U))=46::(partT (n.natAbs%1000) p++U):=by rw[XB,a];rfl
theorem zBt(z:Str):expS (46::z)=none:=rfl
theorem bS(z:Str):nmS (46::z)=false:=rfl
theorem NV{s r:Str}{P:List ze}(h:PcT s P)(x:digB (atS s 0)=true)(f:r=past digB s)(F:nmS r=false)(m:(atS r 0==37)=false)(d:Ze r=P):ShS s r:=by
 have u:unsign s=s:=by unfold unsign Rf;rw[Ha.2 (Q4 x).1,Ha.2 (Q4 x).2.1];rfl
 obtain⟨n,p,U,t,rfl,rfl,g,z⟩:=Iw h (by grind);obtain⟨w,D,A⟩:=Oy z;rw[<-u,XB]at f;cases j:(partT (n.natAbs%1000) p).isEmpty with
 |true=>
  rw[j]at f;have a:r=U:=by rw[f];exact w
  subst a;rcases A with rfl|rfl|⟨G,_⟩
  ·rw[Ql (Zr rfl)]at d;cases d
  ·cases m
  grind
 |false=>
  rw[j]at f;have a:r=46::(partT (n.natAbs%1000) p++U):=by rw[f];rfl
  have B:=PX j w D;obtain⟨c,q,i⟩:=Eh (show partT (n.natAbs%1000) p≠[] by grind);have b:=pE (n:=n) (p:=p);have v:digB c=true:=by rw[i,Rc,Da]at b;exact b.1
  have k:cmtS r=46::(partT (n.natAbs%1000) p++U):=by rw[a];exact Zr rfl
  rw[qj k]at d;injection d with d _;have l:Zk (46::(partT (n.natAbs%1000) p++U))=zG (46::(partT (n.natAbs%1000) p++U)):=by
   have o:nbS (46::(partT (n.natAbs%1000) p++U))=true:=by rw[i];exact v
   rw[Jo,Fa (by decide),Fa (by decide),show((46:UInt8)==35)=false from rfl,Rb,Fa (by decide),o,Ga rfl]
  have e: ∀q:Str,(zG q).1.num=(numP q).val:=by
   intro q;unfold zG;split
   ·rfl
   ·split<;>rfl
  rw[l]at d;have y:=e (46::(partT (n.natAbs%1000) p++U));rw[d,B,g]at y;have E:n.natAbs / 1000=0:=by omega
  have C:numT n p++U=48::46::c::(q++U):=by rw[Yt,j,nW E,i];unfold sgT;rw[Fa (by omega)];rfl
  right;exact⟨c,q++U,v,C,by rw[a,i];rfl⟩
theorem nM: ∀(y r:Str),y.all letB=true->zm (y++r)=(y++(zm r).1,(zm r).2)
 |[],r,_=>rfl
 |c::y,r,h=>by rw[Rc,Da]at h;rw[Ra,zN,Ga h.1,nM y r h.2];rfl
theorem OU{l:Str}(h:l.all digB=true):l.all letB=true:=by
 rw[Pb]at h ⊢;intro b a;unfold letB
 grind
theorem OV{s r:Str}{P:List ze}(h:PcT s P)(he:atS s 0=101\/atS s 0=69)(hd:digB (atS (unsign (s.drop 1)) 0)=true)(hr:r=past digB (unsign (s.drop 1)))(hT:Ze r=P):False:=by
 obtain⟨l,t,z,hl,rfl,hk,ht,rfl,hz⟩:=zB8 h he;obtain⟨c,q,e⟩:=Eh (Uh h);have hnz:zm z=([],z):=by rcases hz with rfl|rfl;exact qH;exact XE []
 have hname:zm (ZF l++z)=(l,z):=by rw[QP z hl,hnz,Ua]
 rw[e]at he hd hr hname;rw[show(c::q).drop 1=q from rfl]at hd hr;have hc:letB c=true:=by rcases he with h|h<;>(rw[show c=_ from h];rfl)
 -- the sign is a dash, or none
 have hsg:(sgOf q).all letB=true:=by
  unfold sgOf;cases hs:Rf (atS q 0)with
  |false=>rfl
  |true=>
   rw[Ga rfl];unfold Rf at hs;rw[Kc,Fb,Fb]at hs;rcases hs with hs|hs
   ·exfalso;cases q with
    |nil=>cases hs
    |cons d q'=>
     rw[show d=43 from hs,zN,Ga hc,zN,Fa (by decide),Fa (by unfold escS;rw[show atS (43::q') 0=43 from rfl];simp)]at hname
     grind
   ·rw[hs];rfl
 have hsplit:c::q=(c::(sgOf q++(unsign q).takeWhile digB))++r:=by rw[hr,Ra,La,Yu,eH]
 have hall:(c::(sgOf q++(unsign q).takeWhile digB)).all letB=true:=by rw[Rc,hc,List.all_append,hsg,OU (ax digB _)];rfl
 rw[hsplit,nM _ _ hall]at hname;injection hname with hn1 hn2;have hcm:cmtS r=r:=by
  refine Zr ?_;cases r with
  |nil=>rfl
  |cons d u=>
   refine Dq (Ha.2 ?_);rintro rfl;rw[zN,Fa (by decide),Fa (by unfold escS;rw[show atS (47::u) 0=47 from rfl];simp)]at hn2
   grind
 cases r with
 |nil=>rw[Ql hcm]at hT;cases hT
 |cons d u=>
  rw[qj hcm]at hT;injection hT with hT _;have hbr:=Vl d u;rw[hT]at hbr;have hbr':brS d u=7:=by rcases hk with hk|hk<;>(rw[hk]at hbr;exact hbr.symm)
  have hx:t.text=(zm (d::u)).1:=by
   rw[<-hT,ZW,hbr',Ci];have hk':(qE (d::u)).1.kind=1\/(qE (d::u)).1.kind=2:=by
    have:(qE (d::u)).1=t:=by rw[<-hT,ZW,hbr',Ci]
    rw[this];exact hk
   unfold qE at hk' ⊢;split
   ·rename_i h40;rw[Ga h40]at hk';split
    ·rename_i h2;rw[Ga h2]at hk';rcases uD (urlS (past spB ((zm (d::u)).2.drop 1))).1 with hh|hh<;>rcases hk' with hk'|hk'<;>rw[show(mi (urlS (past spB ((zm (d::u)).2.drop 1))).1).kind=_ from hk']at hh<;>cases hh
    ·rfl
   ·rfl
  rw[<-hx,ht]at hn1;have:=congrArg List.length hn1
  grind
theorem uY{z r:Str}(h:zY z=(r,true)):r=z:=by
 unfold zY at h
 grind
theorem EX{z r:Str}(h:(match expS (zY z).1 with|some r=>(r,false)|none=>zY z)=(r,true)):r=z:=by
 cases a:expS (zY z).1 with
 |some y=>grind
 |none=>rw[a]at h;exact uY h
theorem XT{z r:Str}{b:Bool}(h:(match expS z with|some r=>(r,false)|none=>(z,false))=(r,b)):r=z\/expS z=some r:=by
 grind
theorem uM{t:ze}{s r:Str}{P:List ze}(N:zeB t)(h:PcT s P)(b:KT t s r)(v:Ze r=P):ShS s r:=by
 have M:P≠[]:=by cases h<;>simp
 have p:r≠[]:=by rintro rfl;rw[Ql (Zr rfl)]at v;exact M v.symm
 have j:digB (atS s 0)=false->past digB s=s:=by
  intro i;cases s with
  |nil=>rfl
  |cons c q=>rw[past,show digB c=false from i];rfl
 rcases b with b|⟨_,b⟩|⟨R,Q,g,G⟩|⟨_,K,y,i,g,b⟩
 ·exact .inl b
 ·cases u:spB (atS s 0)with
  |true=> rw[zCU h u]at b;exact absurd b p
  |false=>
   left;rw[b];cases s with
   |nil=>rfl
   |cons c q=>rw[past,show spB c=false from u];rfl
 ·cases N with
  |cNum n f w E S=>
   have e:zK (numT n (!f)++s)=(r,f):=Q;have a:r=past digB s\/expS (past digB s)=some r:=by
    cases d:(partT (n.natAbs%1000) (!f)).isEmpty with
    |true=> left;rw[dD d]at e;rw[Bv S]at d;subst d;exact EX e
    |false=> rw[VC d]at e;exact XT e
   cases i:digB (atS s 0)with
   |true=>
    rcases a with b|l
    ·exact NV h i b g G v
    ·exfalso;have o:unsign s=s:=by unfold unsign Rf;rw[Ha.2 (Q4 i).1,Ha.2 (Q4 i).2.1];rfl
     obtain⟨A,B,U,J,rfl,rfl,_,x⟩:=Iw h (by grind);obtain⟨z,O,_⟩:=Oy x;rw[<-o]at l;cases d:(partT (A.natAbs%1000) B).isEmpty with
     |true=>rw[rC U d,z,O]at l;cases l
     |false=>rw[oC U d,zBt]at l;cases l
   |false=>
    rw[j i]at a;rcases a with b|l
    ·exact .inl b
    ·obtain⟨w,E,L⟩:=DL l;exact(OV h w E L v).elim
  |cId|cFn|cAt|cHash|cStr|cUrl|cDel|cPct|cDim=>simp at R
  |cMark k w E=>grind
 ·exfalso;have D:digB (atS (unsign s) 0)=true/\past digB (unsign (K++s))=past digB (unsign s):=by
   rcases y with rfl|rfl
   ·grind
   ·have m:digB (atS s 0)=true:=i;have o:unsign s=s:=by unfold unsign Rf;rw[Ha.2 (Q4 m).1,Ha.2 (Q4 m).2.1];rfl
    rw[o];exact⟨m,rfl⟩
  obtain⟨C,F⟩:=D;rw[F]at g b;obtain⟨A,B,U,J,rfl,rfl,_,x⟩:=Iw h C;obtain⟨z,_,H⟩:=Oy x;cases d:(partT (A.natAbs%1000) B).isEmpty with
  |true=>
   rw[rC U d,z]at g b;rcases H with rfl|rfl|⟨_,T⟩
   ·cases g
   ·cases g
   grind
  |false=>rw[oC U d,bS]at g;cases g
abbrev cmtW:Str:=[47,42,42,47]
theorem Tt{s:Str}{P:List ze}(h:PcT s P)(x:Str)(hx:atS x 0≠42):([47,42]:Str).isPrefixOf (s++x)=false:=by
 obtain⟨c,r,rfl⟩:=Eh (Uh h);by_cases hc:c=47
 ·have:=Ty h (.inl rfl) hc;rw[this];cases x with
  |nil=>rfl
  |cons d t=>
   show((47==(47:UInt8))&&((42==d)&&_))=false;have:((42:UInt8)==d)=false:=Ha.2 (fun e=>hx e.symm)
   grind
 grind
theorem Ex{s:Str}{P:List ze}(h:PcT s P):cmtS s=s:=by
 refine Zr ?_;have:=Tt h [] (by decide)
 grind
theorem yt(x:Str):Zk (92::10::x)=(⟨9,[92],0,[],false⟩,10::x):=rfl
theorem TZ{l:Str}(g:l≠[])(h:Zv l=true)(f:lowS l=[117,114,108])(b:Bool)(w:Str):
  Zk (ZF l++40::((if b then [32]else [])++34::w))=(⟨2,l,0,[],false⟩,(if b then [32]else [])++34::w):=by
 have d:=Ow g ((if b then [32]else [])++34::w);have a:=pJ h ((if b then [32]else [])++34::w);obtain⟨c,r,e⟩:=Eh (Pi d);rw[e]at d a ⊢;rw[ZW,Lu d (by grind),Ci];unfold qE;rw[a];simp only;have i:atS (past spB ((40::((if b then [32]else [])++34::w)).drop 1)) 0=34:=by cases b<;>rfl
 rw[Ga (by rfl),f,i,Fa (by decide)];rfl
theorem JI{l:Str}(h:lowS l=[117,114,108]):l≠[]:=by rintro rfl;cases h
theorem lU(l m x:Str)(b:Bool):(ZF l++40::((if b then [32]else [])++34::(encB quoB m++[34])))++x=ZF l++40::((if b then [32]else [])++34::((encB quoB m++[34])++x)):=by
 grind
theorem ED{l m:Str}{b:Bool}(h:Zv l=true)(hl:lowS l=[117,114,108])(hm:Zv m=true)(x:Str):
  run ((ZF l++40::((if b then [32]else [])++34::(encB quoB m++[34])))++x) (⟨2,l,0,[],false⟩::((if b then [tkSp]else [])++[⟨5,m,0,[],false⟩])) x:=by
 rw[lU];have hf:=TZ (JI hl) h hl b ((encB quoB m++[34])++x);have hn:=Ow (JI hl) ((if b then [32]else [])++34::((encB quoB m++[34])++x));have hs: ∀q:Str,q=34::((encB quoB m++[34])++x)->run q [⟨5,m,0,[],false⟩] x:=by rintro q rfl;have:=Uz hm x;rw[Ra]at this;exact⟨34,_,Zr rfl,by rw[this],by rw[this];rfl⟩
 obtain⟨c,r,e⟩:=Eh (Pi hn);rw[e]at hf hn ⊢;have hc:c≠47:=by rintro rfl;exact absurd (show hdB 47=true from Dm hn) (by decide)
 refine⟨c,r,Zr (Dq (Ha.2 hc)),by rw[hf],?_⟩;rw[hf];cases b with
 |false=>exact hs _ rfl
 |true=> exact⟨32,34::((encB quoB m++[34])++x),Zr rfl,rfl,hs _ rfl⟩
theorem xH{s:Str}{P:List ze}(h:PcT s P){x:Str}(a:neu x):run (s++x) P x:=by
 cases h with
 |one t h d f=>
  have g:=YT h d f a;have i:=Tt (.one t h d f) x (by rcases a with rfl|⟨y,rfl⟩;exact(show(0:UInt8)≠42 by decide);exact(show(47:UInt8)≠42 by decide));obtain⟨c,r,e⟩:=Eh (Uh (.one t h d f));rw[e]at g i ⊢;exact⟨c,r++x,Zr i,by grind,by rw[show c::(r++x)=(c::r)++x from rfl,g];rfl⟩
 |back=> refine⟨92,10::x,Zr rfl,by rw[yt],?_⟩;rw[yt];refine⟨10,x,Zr rfl,rfl,?_⟩;show past spB x=x;exact aL rfl a
 |url l m b h j k=>exact ED h j k x
theorem zAv{u s r:Str}{p P:List ze}(hu:PcT u p)(hs:PcT s P)(hr:run (u++s) p r)(hT:Ze r=P):ShS s r:=by
 cases hu with
 |one t h hb hu=>
  obtain⟨c,q,h1,h2,h3⟩:=hr;have hpu:PcT (txS t) [t]:= .one t h hb hu;rw[run]at h3;cases hp:([47,42]:Str).isPrefixOf (txS t++s)with
  |true=>
   exfalso;obtain⟨c0,r0,e⟩:=Eh (Uh hpu);by_cases hc:c0=47
   ·have e2:=Ty hpu (.inl rfl) (by rw[e];exact hc);rw[e2]at hp h1;have h42:atS s 0=42:=by
     cases s with
     |nil=>cases hp
     |cons d t'=>
      have:((42:UInt8)==d)=true:=by have h':((47==(47:UInt8))&&((42==d)&&true))=true:=hp;simpa using h'
      exact(Fb.1 this).symm
    rw[Ty hs (.inr rfl) h42]at h1;have:cmtS ([47]++[42])=[]:=by rw[Ji];rfl
    grind
   grind
  |false=> rw[Zr hp]at h1;rw[<-h1]at h2 h3;have:=FX h hu h2;rw[h3]at this;exact uM h hs this hT
 |back=> obtain⟨c,q,h1,h2,h3⟩:=hr;rw[show cmtS ([92,10]++s)=92::10::s from Zr rfl]at h1;injection h1 with e1 e2;subst e1 e2;rw[yt]at h3;obtain⟨c',q',g1,g2,g3⟩:=h3;rw[show cmtS (10::s)=10::s from Zr rfl]at g1;injection g1 with e1 e2;subst e1 e2;rw[run]at g3;have g3':past spB s=r:=g3;exact uM (t:=tkSp) (.cMark 13 (by omega) (by omega)) hs (.inr (.inl ⟨rfl,g3'.symm⟩)) hT
 |url l m b h hl hm=>exact .inl (OJ hr (ED h hl hm s))
def Lk(R A:Str):Prop:=cmtS R=A\/ ∃d y,digB d=true/\A=48::46::d::y/\cmtS R=46::d::y
theorem Rm{R A:Str}(h:Lk R A)(a:A≠[]):cmtS R≠[]:=by
 rcases h with h|⟨d,y,_,_,h⟩
 ·rw[h];exact a
 ·rw[h];simp
theorem EC{R A x:Str}(h:Lk R A)(b:A≠[])(c:([47,42]:Str).isPrefixOf (A++x)=false):Lk (R++x) (A++x):=by
 rcases h with h|⟨d,y,a,rfl,h⟩
 ·left;rw[Oq (by rw[h];exact b) (by rw[h];exact c),h]
 ·right;exact⟨d,y++x,a,rfl,by rw[Oq (by rw[h];simp) (by rw[h];rfl),h];rfl⟩
theorem BC{R A:Str}(h:Lk R A)(g:([47,42]:Str).isPrefixOf A=false){t:ze}{ts:List ze}{r:Str}:run R (t::ts) r↔run A (t::ts) r:=by
 rcases h with h|⟨d,y,f,rfl,h⟩
 ·rw[<-RJ (q:=R) (by simp),h]
 ·rw[<-RJ (q:=R) (by simp),h];constructor
  ·rintro⟨c,q,a,e,b⟩;rw[Zr rfl]at a;rw[<-a]at e b;exact⟨48,46::d::y,Zr rfl,by rw[LA d y f];exact e,by rw[LA d y f];exact b⟩
  ·rintro⟨c,q,a,e,b⟩;rw[Zr rfl]at a;rw[<-a,LA d y f]at e b;exact⟨46,d::y,Zr rfl,e,b⟩
theorem uJ{R A:Str}(h:Lk R A):Ze R=Ze A:=by
 rcases h with h|⟨d,y,a,rfl,h⟩
 ·rw[<-Oz R,h]
 ·rw[<-Oz R,h,qj (Zr rfl),qj (l:=48::46::d::y) (Zr rfl),LA d y a]
inductive Syn:Str->List ze->List (List ze×Str)->Prop
 |nil:Syn [] [] []
 |cmt (b s:Str) (ts P:List ze) (st:List (List ze×Str)) (h:Syn b ts st) (hb:b≠[]) (hp:PcT s P):Syn (b++cmtW++s) (ts++P) (st++[(ts,b++cmtW)])
 |no (b s:Str) (ts P:List ze) (st:List (List ze×Str)) (h:Syn b ts st) (hp:PcT s P) (ht:Ze (b++s)=ts++P):Syn (b++s) (ts++P) (st++[(ts,b)])
def Bd(b:Str)(ts L:List ze)(B:Str)(m:Nat):Prop:= ∃A R a,b=B++A/\A≠[]/\ts=L++a/\a≠[]/\run b L R/\Lk R A/\m<=R.length/\m<=A.length
structure zA7 (b:Str) (ts:List ze) (st:List (List ze×Str)):Prop where
 tok:Ze b=ts
 bd: ∀k (h:k<st.length),Bd b ts st[k].1 st[k].2 (st.length - k)
 last:(st=[]/\b=[]/\ts=[])\/ ∃L B u p R,PcT u p/\b=B++u/\ts=L++p/\run b L R/\Lk R u
theorem pc_P{s:Str}{P:List ze}(h:PcT s P): ∃t us,P=t::us:=by cases h<;>exact⟨_,_,rfl⟩
theorem sH {b x:Str} {ts P L:List ze} {B:Str} {m:Nat} (h:Bd b ts L B m) (hx:x≠[])
  (hrun: ∀R,R≠[]->run b L R->(∃A,A≠[]/\Lk R A/\b=B++A)->run (b++x) L (R++x)/\(∀A,A≠[]->Lk R A->b=B++A->Lk (R++x) (A++x))):Bd (b++x) (ts++P) L B (m+1):=by
 obtain⟨A,R,us,h1,h2,h3,h4,h5,h6,h7,h8⟩:=h;have hR:R≠[]:=by intro e;have:=Rm h6 h2;rw[e]at this;exact this (Zr rfl)
 obtain⟨g1,g2⟩:=hrun R hR h5 ⟨A,h2,h6,h1⟩;refine⟨A++x,R++x,us++P,by grind,by simp[h2],by grind,by simp[h4],g1,g2 A h2 h6 h1,?_⟩;have:=Fe.2 hx
 grind
theorem aI{q:Str}(h:cmtS q=[47]):cmtS (q++[42])=[]:=by
 rw[Ji q]at h;cases a:([47,42]:Str).isPrefixOf q with
 |true=>
  have b:=Ol a;rw[show([47,42]:Str).length=2 from rfl]at b;rw[a,Ga rfl]at h;cases c:clsS (q.drop 2)with
  |none=>grind
  |some p=>
   rw[c]at h;have d:p.length<q.length:=by have d:=(Xj _ c).2;rw[Ub]at d;omega
   rw[Ji,Vq [42] (by exact b),a,Ga rfl,gq b,gD [42] c];exact aI h
 |false=> rw[a,Fa (by decide)]at h;subst h;rw[Ji];rfl
termination_by q.length
theorem zAE{q s:Str}{P us:List ze}(hs:PcT s P)(h:NT q s us)(hus:us≠[]):False:=by
 obtain⟨c,r,_,⟨⟨e,fl,hee,hw⟩,h43,hk,hds⟩,hsame,hT⟩:=h;have hbr:=Vl c (r++s);rw[hsame,hk]at hbr;have hbr':brS c (r++s)=3:=hbr.symm;have hnx:Zk (c::(r++s))=zG ((c::r)++s):=by rw[ZW,hbr',Mi];rfl
 have hq2:Hf (c::r)≠[]:=by intro e2;rw[e2]at hw;cases congrArg Prod.fst hw
 have e2:Hf ((c::r)++s)=Hf (c::r)++s:=by unfold Hf;rw[(Jk s (by simp)).1];exact Ak s hq2
 have hw2:=(bM (q:=Hf (c::r)) (x:=s) (by rw[hw];simp) (fun e3=>by
  rw[e3]at hw;have:=congrArg Prod.fst hw;cases this)).1
 have hexp:expS ([e,43]++s)=some (past digB s):=by
  unfold expS;have h1:(atS ([e,43]++s) 0==101||atS ([e,43]++s) 0==69)=true:=by rcases hee with rfl|rfl<;>rfl
  have h2:unsign (([e,43]++s).drop 1)=s:=rfl;rw[h1,Ga rfl,h2,hds,Ga rfl]
 have hend:zK ((c::r)++s)=(past digB s,false):=by rw[QF,e2,hw2,hw];simp only[hexp]
 have hk2:(zG ((c::r)++s)).1.kind=12:=by rw[<-hnx,hsame,hk]
 rw[hnx]at hT;unfold zG at hk2 hT;rw[hend]at hk2 hT;simp only at hk2 hT;have hun:unsign s=s:=by unfold unsign Rf;rw[Ha.2 (Q4 hds).1,Ha.2 (Q4 hds).2.1];rfl
 cases hn:nmS (past digB s)with
 |false=>
  grind
 |true=>
  rw[hn,Ga rfl]at hT;obtain⟨n2,p2,U,t2,_,rfl,_,hU⟩:=Iw hs (by grind);obtain⟨u1,_,u3⟩:=Oy hU;rw[<-hun]at hn hT;cases hp:(partT (n2.natAbs%1000) p2).isEmpty with
  |true=>
   rw[rC U hp,u1]at hn hT;rcases u3 with rfl|rfl|⟨_,hu⟩
   ·cases hn
   ·cases hn
   ·rw[hu,Ql (Zr rfl)]at hT;exact hus hT.symm
  |false=>rw[oC U hp,bS]at hn;cases hn
theorem lS{R A:Str}(h:Lk R A)(b:A≠[])(y:Str):Lk (R++47::42::y) (A++47::42::y):=by
 rcases h with h|⟨d,z,a,rfl,h⟩
 ·left;rw[SC y (by rw[h];exact b),h]
 ·right;exact⟨d,z++47::42::y,a,rfl,by rw[SC y (by rw[h];simp),h];rfl⟩
theorem AX{s:Str}{P:List ze}(h:PcT s P):cmtS (47::42::42::47::s)=s:=by rw[Ji];exact Ex h
theorem Sy{s:Str}{P:List ze}(h:PcT s P):Ze s=P:=by have:=Xl (xH h (x:=[]) (.inl rfl));rw[Ua,Ql (Zr rfl),Ua]at this;exact this
theorem rY{α:Type}{l a:List α}(h:l++a=l):a=[]:=by simp_all
theorem Lx{b:Str}{ts:List ze}{st:List (List ze×Str)}(h:Syn b ts st):zA7 b ts st:=by
 induction h with
 |nil=>exact⟨Ql (Zr rfl),fun k h=>(by cases h), .inl ⟨rfl,rfl,rfl⟩⟩
 |cmt b s ts P st h hb hp ih=>
  obtain⟨ht,hbd,hl⟩:=ih;have hx:b++cmtW++s=b++47::42::(42::47::s):=by rw[La];rfl
  obtain⟨t0,us0,hP0⟩:=pc_P hp;have hrun:run (b++47::42::(42::47::s)) ts (47::42::(42::47::s)):=by
   rcases hl with⟨_,e,_⟩|⟨L,B,u,p,R,g1,g2,g3,g4,g5⟩
   ·exact absurd e hb
   ·have hR:R≠[]:=by intro e;have:=Rm g5 (Uh g1);rw[e]at this;exact this (Zr rfl)
    obtain⟨t1,us1,hp1⟩:=pc_P g1;rw[g3];refine Xz (dB (42::47::s) g4 hR) ?_;have h1:=xH g1 (x:=47::42::(42::47::s)) (.inr ⟨_,rfl⟩);rw[hp1]at h1 ⊢;exact(BC (lS g5 (Uh g1) (42::47::s)) (Tt g1 _ (by show(47:UInt8)≠42;decide))).2 h1
  have hlk:Lk (47::42::(42::47::s)) s:= .inl (AX hp);rw[hx];refine⟨?_,?_, .inr ⟨ts,b++cmtW,s,P,_,hp,by grind,rfl,hrun,hlk⟩⟩
  ·rw[Xl hrun,uJ hlk,Sy hp]
  ·intro k hk;rw[Ja,Ic]at hk;by_cases hk2:k<st.length
   ·rw[List.getElem_append_left hk2];have:=sH (P:=P) (x:=47::42::(42::47::s)) (hbd k hk2) (by simp) (fun R hR h5 _=>⟨dB _ h5 hR,fun A hA h6 _=>lS h6 hA _⟩)
    grind
   ·have hke:k=st.length:=by omega
    subst hke;rw[List.getElem_append_right (by omega)];simp only[Nat.sub_self,List.getElem_cons_zero];refine⟨s,_,P,by grind,Uh hp,rfl,by rw[hP0];simp,hrun,hlk,?_⟩;have:=Fe.2 (Uh hp)
    grind
 |no b s ts P st h hp ht0 ih=>
  obtain⟨ht,hbd,hl⟩:=ih;obtain⟨t0,us0,hP0⟩:=pc_P hp;have hPne:P≠[]:=by rw[hP0];simp
  have hsne:=Uh hp
  -- what is ahead stays
  have keep: ∀(L us:List ze) (R:Str),ts=L++us->R≠[]->run b L R->run (b++s) L (R++s):=by
   intro L us R hts hR hrun;rcases KL (us:=us++P) hrun hR hsne (by grind)with h1|⟨_,q,_,h1⟩
   ·exact h1
   ·exact(zAE hp h1 (by simp[hPne])).elim
  have keepLk: ∀(L us:List ze) (R A:Str),ts=L++us->run (b++s) L (R++s)->A≠[]->Lk R A->Lk (R++s) (A++s):=by
   intro L us R A hts hrun hA hlk;cases hpre:([47,42]:Str).isPrefixOf (A++s)with
   |false=>exact EC hlk hA hpre
   |true=>
    exfalso;rcases hlk with h1|⟨d,y,_,rfl,_⟩
    ·cases A with
     |nil=>exact hA rfl
     |cons c r=>
      cases r with
      |cons d t=>
       have:=Nq R
       grind
      |nil=>
       have hc:c=47:=by
        cases hcc:(47:UInt8)==c with
        |true=>grind
        |false=>
         grind
       subst hc;have h42:s=[42]:=by
        refine Ty hp (.inr rfl) ?_;cases s with
        |nil=>grind
        |cons d t=>
         have h':(((47:UInt8)==47)&&(((42:UInt8)==d)&&true))=true:=hpre;have:((42:UInt8)==d)=true:=by simpa using h'
         exact(Fb.1 this).symm
       have h3:=Xl hrun;rw[ht0,hts,h42,Ql (aI h1),Ua,La]at h3;have:=rY h3;simp_all
    ·cases hpre
  rcases hl with⟨e1,e2,e3⟩|⟨L,B,u,p,R,g1,g2,g3,g4,g5⟩
  ·subst e1 e2 e3;refine⟨ht0,?_, .inr ⟨[],[],s,P,s,hp,rfl,rfl,rfl, .inl (Ex hp)⟩⟩;intro k hk;have hke:k=0:=by rw[Ja,Ic,Ob]at hk;omega
   subst hke;exact⟨s,s,P,rfl,hsne,rfl,hPne,rfl, .inl (Ex hp),Fe.2 hsne,Fe.2 hsne⟩
  ·have hR:R≠[]:=by intro e;have:=Rm g5 (Uh g1);rw[e]at this;exact this (Zr rfl)
   have h1:=keep L p R g3 hR g4;have h2:=keepLk L p R u g3 h1 (Uh g1) g5;have h3:=Xl h1;rw[ht0,g3,La]at h3;have h4:=List.append_cancel_left h3;obtain⟨r,h5,h6⟩:=fK h4.symm;have hsh:ShS s r:=by
    obtain⟨t1,us1,hp1⟩:=pc_P g1;refine zAv g1 hp ?_ h6;have hpre:([47,42]:Str).isPrefixOf (u++s)=false\/cmtS (R++s)=[]:=by
     rcases h2 with h2|⟨d,y,hd,h2,_⟩
     ·left;rw[<-h2];exact Nq _
     ·grind
    rcases hpre with hpre|hpre
    ·rw[hp1]at h5 ⊢;exact(BC h2 hpre).1 h5
    ·rw[hp1]at h5;obtain⟨c,q,e,_⟩:=h5
     grind
   have hrun:run (b++s) ts r:=by rw[g3];exact Xz h1 h5
   have hlk:Lk r s:=by
    rcases hsh with rfl|⟨d,y,hd,e1,e2⟩
    ·exact .inl (Ex hp)
    ·right;exact⟨d,y,hd,e1,by rw[e2];exact Zr rfl⟩
   have hrl:1<=r.length:=by
    rcases hsh with rfl|⟨d,y,_,_,e2⟩
    ·grind
    ·rw[e2];simp
   refine⟨ht0,?_, .inr ⟨ts,b,s,P,r,hp,rfl,rfl,hrun,hlk⟩⟩;intro k hk;rw[Ja,Ic]at hk;by_cases hk2:k<st.length
   ·rw[List.getElem_append_left hk2];obtain⟨A0,R0,us,f1,f2,f3,f4,f5,f6,f7,f8⟩:=hbd k hk2;have:=sH (P:=P) (x:=s) ⟨A0,R0,us,f1,f2,f3,f4,f5,f6,f7,f8⟩ hsne (fun R hR h5 _=>⟨keep _ us R f3 hR h5,fun A hA h6 _=>keepLk _ us R A f3 (keep _ us R f3 hR h5) hA h6⟩)
    grind
   ·have hke:k=st.length:=by omega
    subst hke;rw[List.getElem_append_right (by omega)];simp only[Nat.sub_self,List.getElem_cons_zero];refine⟨s,r,P,rfl,hsne,rfl,hPne,hrun,hlk,?_⟩;have:=Fe.2 hsne
    grind
def pcN:List ze->Nat
 |[]=>0
 |t::r=>if t.kind==9&&t.text==[92]then 2 else if ig t then(if Lj r then 3 else 2)else 1
def catT:List ze->Str
 |[]=>[]
 |t::r=>txS t++catT r
def pcS:List ze->Str
 |[]=>[]
 |t::r=>if t.kind==9&&t.text==[92]then [92,10]else catT (t::r)
theorem mJ{t:ze}(h:Ng t=true)(a:(t.kind==13)=true):t=tkSp:=by
 rw[Fb]at a;cases Gp h with
 |cId|cFn|cAt|cHash|cStr|cUrl|cDel|cNum|cPct|cDim=>simp at a
 |cMark k c b=>grind
theorem RI{t:ze}(h:Ng t=true)(a:(t.kind==5)=true): ∃m,Zv m=true/\t=⟨5,m,0,[],false⟩:=by
 rw[Fb]at a;cases Gp h with
 |cStr l b=>grind
 |cId|cFn|cAt|cHash|cUrl|cDel|cNum|cPct|cDim=>simp at a
 |cMark k d c=>grind
theorem zBv{t:ze}(h:Ng t=true)(a:(t.kind==9&&t.text==[92])=true):t=⟨9,[92],0,[],false⟩:=by
 rw[Da,Fb,Fb]at a;cases Gp h with
 |cDel c h=>grind
 |cId|cFn|cAt|cHash|cStr|cUrl|cNum|cPct|cDim=>simp at a
 |cMark k d b=>grind
theorem SX{t:ze}(h:Ng t=true)(a:ig t=true): ∃l,Zv l=true/\lowS l=[117,114,108]/\t=⟨2,l,0,[],false⟩:=by
 unfold ig at a;rw[Da,Fb,Fb]at a;cases Gp h with
 |cFn l d c=>grind
 |cId|cAt|cHash|cStr|cUrl|cDel|cNum|cPct|cDim=>simp at a
 |cMark k b e=>grind
theorem zCS{t:ze}(h:(t.kind==9&&t.text==[92])=false): ¬(t.kind=9/\t.text=[92]):=by
 grind
theorem au(t:ze)(r:List ze):pcN (t::r)=if t.kind==9&&t.text==[92]then 2 else if ig t then(if Lj r then 3 else 2)else 1:=rfl
theorem FN(t:ze)(r:List ze):okAt (t::r)=((!(t.kind==9&&t.text==[92])||Lj r)&&(!(ig t)||Cs r)):=rfl
theorem JA(s:ze)(r:List ze):Cs (s::r)=(bif s.kind==13 then(match r with|u::_=>u.kind==5|[]=>false)else s.kind==5):=rfl
theorem zCT{t:ze}{r:List ze}(e: ∀u∈t::r,Ng u=true)(d:okAt (t::r)=true): ∃P Q,t::r=P++Q/\P.length=pcN (t::r)/\PcT (pcS P) P:=by
 have c:=e t (aa ..);rw[FN,Da]at d;rw[au];cases h:t.kind==9&&t.text==[92]with
 |true=>
  rw[h,Lb,Ld]at d;rw[Ga rfl];cases r with
  |nil=>cases d.1
  |cons s r=> have g:=mJ (e s (by simp)) d.1;have p:=zBv c h;subst g p;exact⟨[⟨9,[92],0,[],false⟩,tkSp],r,rfl,rfl, .back⟩
 |false=>
  rw[Fa (by decide)];cases j:ig t with
  |false=>
   rw[Fa (by decide)];have f:pcS [t]=txS t:=by show(if(t.kind==9&&t.text==[92])=true then [92,10]else txS t++[])=_;rw[h,Fa (by decide),Ua]
   exact⟨[t],r,rfl,rfl,by rw[f];exact .one t (Gp c) (zCS h) j⟩
  |true=>
   rw[Ga rfl];rw[j,Lb,Ld]at d;obtain⟨l,n,o,rfl⟩:=SX c j;have a:=d.2;have b: ∀m:Str,txS ⟨5,m,0,[],false⟩++[]=34::(encB quoB m++[34]):=fun m=>by rw[Il,Ua]
   cases r with
   |nil=>cases a
   |cons s r=>
    cases g:s.kind==13 with
    |false=>
     rw[JA,g,Ca]at a;obtain⟨m,i,rfl⟩:=RI (e s (by simp)) a;rw[show Lj (⟨5,m,0,[],false⟩::r)=false from rfl,Fa (by decide)];refine⟨[⟨2,l,0,[],false⟩,⟨5,m,0,[],false⟩],r,rfl,rfl,?_⟩;have f:pcS [⟨2,l,0,[],false⟩,⟨5,m,0,[],false⟩]=ZF l++40::((if false then [32]else [])++34::(encB quoB m++[34])):=by show txS ⟨2,l,0,[],false⟩++(txS ⟨5,m,0,[],false⟩++[])=_;rw[b,Fj,La];rfl
     rw[f];exact .url l m false n o i
    |true=>
     have k:=mJ (e s (by simp)) g;subst k;cases r with
     |nil=>cases a
     |cons u r=>
      obtain⟨m,i,rfl⟩:=RI (e u (by simp)) a;rw[show Lj (tkSp::⟨5,m,0,[],false⟩::r)=true from rfl,Ga rfl];refine⟨[⟨2,l,0,[],false⟩,tkSp,⟨5,m,0,[],false⟩],r,rfl,rfl,?_⟩;have f:pcS [⟨2,l,0,[],false⟩,tkSp,⟨5,m,0,[],false⟩]=ZF l++40::((if true then [32]else [])++34::(encB quoB m++[34])):=by show txS ⟨2,l,0,[],false⟩++(txS tkSp++(txS ⟨5,m,0,[],false⟩++[]))=_;rw[b,Fj,show txS tkSp=[32]from rfl,La];rfl
      rw[f];exact .url l m true n o i
theorem eX{t:ze}{r:List ze}(h:t.text.length<=big)(a:okAt (t::r)=true):qW (t::r)=some ((pcN (t::r):Nat):Int):=by
 have m:geti (t::r) 0=some t:=rfl;have k:=Wq (t::r) 1 13;have e:=Wq (t::r) 1 5;have b:=Wq (t::r) 2 5;unfold qW;simp only[m,zg,Aa,yz h (show([117,114,108]:Str).length<=big by decide),Ky,QK];simp only[Int.natCast_one]at k e;replace b:Zu ((2,5),t::r)=_:=b;have g:Zu ((1,13),t::r)=some (Lj r):=by rw[k];cases r<;>rfl
 rw[g];rw[FN]at a;unfold ig at a;rw[au];unfold ig;cases j:(t.kind==9&&t.text==[92])with
 |true=>
  grind
 |false=>
  have n:(bif t.kind==9 then t.text==[92]else false)=false:=by
   cases o:t.kind==9
   ·rfl
   ·grind
  simp only[n,j,Ca,ja,Je,Cb];rw[j,ja,Je,Cb]at a;cases f:(t.kind==2&&lowS t.text==[117,114,108])with
  |false=>
   grind
  |true=>
   rw[f,Lb,Ld]at a;rw[Da]at f;rw[f.1,f.2];simp only[Ea,Aa];cases r with
   |nil=>cases a
   |cons s r=>
    cases d:s.kind==13 with
    |false=>
     have i:Lj (s::r)=false:=d;have l:Zu ((1,5),t::s::r)=some (s.kind==5):=e;have c:(s.kind==5)=true:=by rw[JA,d]at a;exact a
     simp only[i,Ca,zh,l,Aa,c,Lb];rfl
    |true=>
     have i:Lj (s::r)=true:=d;simp only[i,Ea,zh,b,Aa];cases r with
     |nil=>rw[JA,d]at a;cases a
     |cons u r=>
      have c:(u.kind==5)=true:=by rw[JA,d]at a;exact a
      show(bif !(u.kind==5)then some 0 else some (w64 (2+1)))=some 3;rw[c];rfl
def clB(l:Str):Bool:=l.all fun c=> !(c==0||c==12||c==13)
theorem qm(a b:Str):clB (a++b)=(clB a&&clB b):=by unfold clB;grind
theorem vE: ∀l:Str,clB l=true->Proofs.Cl.cleanS l=l
 |[],_=>by rw[Proofs.Cl.cleanS]
 |c::r,h=>by
  unfold clB at h;rw[Rc,Da]at h;have e:=vE r h.2;have d:(c==0||c==12||c==13)=false:=by simpa using h.1
  rw[Mc,Mc]at d;obtain⟨⟨f,a⟩,b⟩:=d;rw[Proofs.Cl.cleanS,f,a,b,e]
  ·rfl
  grind
theorem Ul(c:UInt8):clB (escC c)=true/\(letB c=true->clB [c]=true)/\(c≠0->quoB c=false->clB [c]=true)/\(c≠0->urB c=false->clB [c]=true)/\(Ii c.toNat=true->clB [c]=true)/\(digB c=true->clB [c]=true):=by
 have: ∀n:Nat,n<256->clB (escC (UInt8.ofNat n))=true/\(letB (UInt8.ofNat n)=true->clB [UInt8.ofNat n]=true)/\(UInt8.ofNat n≠0->quoB (UInt8.ofNat n)=false->clB [UInt8.ofNat n]=true)/\(UInt8.ofNat n≠0->urB (UInt8.ofNat n)=false->clB [UInt8.ofNat n]=true)/\(Ii (UInt8.ofNat n).toNat=true->clB [UInt8.ofNat n]=true)/\(digB (UInt8.ofNat n)=true->clB [UInt8.ofNat n]=true):=by decide+kernel
 have:=this c.toNat (Jb c);simp_all
theorem Yj(dash:Bool): ∀(k:Nat) (l:Str),clB (encW dash k l)=true
 |_,[]=>by rw[encW];rfl
 |k,c::r=>by
  obtain⟨b,a,_⟩:=Ul c;rw[encW,qm,Yj dash (k - 1) r,Vb];unfold pcW
  grind
theorem Xy{p:UInt8->Bool}(a: ∀c,c≠0->p c=false->clB [c]=true): ∀l:Str,Zv l=true->clB (encB p l)=true
 |[],_=>by rw[encB];rfl
 |c::r,h=>by
  obtain⟨e,d⟩:=QO h;rw[encB,qm,Xy a r d,Vb];cases b:p c with
  |true=>exact(Ul c).1
  |false=>exact a c e b
theorem dI{l:Str}(h:l.all digB=true):clB l=true:=by
 induction l with
 |nil=>rfl
 |cons c r a=> rw[Rc,Da]at h;rw[show c::r=[c]++r from rfl,qm,(Ul c).2.2.2.2.2 h.1,a h.2];rfl
theorem cl_T(n:Int)(p:Bool):clB (numT n p)=true:=by
 obtain⟨a,_,_⟩:=Kq (n.natAbs / 1000);have c:=pE (n:=n) (p:=p);rw[Yt,qm,qm,dI a];have b:clB (sgT n)=true:=by unfold sgT;split<;>rfl
 rw[b];cases (partT (n.natAbs%1000) p).isEmpty with
 |true=>rfl
 |false=> show clB (46::partT (n.natAbs%1000) p)=true;rw[show 46::partT (n.natAbs%1000) p=[46]++partT (n.natAbs%1000) p from rfl,qm,dI c];rfl
theorem UT(w:Str):clB (jf w)=true:=by
 cases w with
 |nil=>rfl
 |cons c r=>
  rw[Cr];cases Yi (c::r)with
  |true=>rw[Ea,qm,(Ul c).1,Yj];rfl
  |false=>exact Yj _ _ _
theorem CB{s:Str}{P:List ze}(h:PcT s P):clB s=true:=by
 cases h with
 |one t h hb hu=>
  cases h with
  |cId l h0 h=>rw[Pk];exact Yj _ _ _
  |cFn l h0 h=>rw[Fj,qm];rw[show clB (ZF l)=true from Yj _ _ _];rfl
  |cAt l h0 h=>rw[Im,show 64::ZF l=[64]++ZF l from rfl,qm,show clB (ZF l)=true from Yj _ _ _];rfl
  |cHash l f h0 h hbb=>
   rw[ym,show 35::lg f l=[35]++lg f l from rfl,qm];have:clB (lg f l)=true:=by cases f<;>exact Yj _ _ _
   rw[this];rfl
  |cStr l h=>rw[Il,show 34::(encB quoB l++[34])=[34]++(encB quoB l++[34])from rfl,qm,qm,Xy (fun c h0 hc=>(Ul c).2.2.1 h0 hc) l h];rfl
  |cUrl l h=>rw[Um,qm,qm,Xy (fun c h0 hc=>(Ul c).2.2.2.1 h0 hc) l h];rfl
  |cDel c h=>rw[Ym];exact(Ul c).2.2.2.2.1 h
  |cNum n f h1 h2 hf=>rw[Wm];exact cl_T _ _
  |cPct n h1 h2=>rw[Vm,qm,cl_T];rfl
  |cDim n u f h1 h2 hf h0 h=>rw[Xm,qm,cl_T,UT];rfl
  |cMark k h1 h2=> rw[wm h1 h2];rcases Jq h1 h2 with rfl|rfl|rfl|rfl|rfl|rfl|rfl|rfl|rfl|rfl|rfl|rfl<;>rfl
 |back=>rfl
 |url l m b h hl hm=> rw[qm,show clB (ZF l)=true from Yj _ _ _,show∀z:Str,40::z=[40]++z from fun _=>rfl,qm,qm,show∀z:Str,34::z=[34]++z from fun _=>rfl,qm,qm,Xy (fun c h0 hc=>(Ul c).2.2.1 h0 hc) m hm];cases b<;>rfl
theorem bI{b:Str}{ts:List ze}{st:List (List ze×Str)}(h:Syn b ts st):clB b=true:=by
 induction h with
 |nil=>rfl
 |cmt b s ts P st h e c a=>rw[qm,qm,a,CB c];rfl
 |no b s ts P st h c d a=>rw[qm,a,CB c];rfl
def tokB(x y:ze):Bool:=x.kind==y.kind&&(x.text==y.text&&(x.num==y.num&&(x.unit==y.unit&&(x.flag==y.flag&&true))))
def Gg:List ze->List ze->Bool
 |[],[]=>true
 |x::l,y::m=>tokB x y&&Gg l m
 |_,_=>false
theorem I1(x y:ze)(l m:List ze):Gg (x::l) (y::m)=(tokB x y&&Gg l m):=rfl
theorem uU{x y:ze}:tokB x y=true↔x=y:=by
 obtain⟨a,b,c,d,e⟩:=x;obtain⟨j,f,g,i,h⟩:=y;unfold tokB
 grind
theorem il: ∀{l m:List ze},Gg l m=true↔l=m
 |[],[]=>by simp[Gg]
 |x::l,y::m=>by rw[Gg,Da,uU,il,List.cons.injEq]
 |[],y::m=>by simp[Gg]
 |x::l,[]=>by simp[Gg]
theorem MN{l m:List ze}(h:l.length≠m.length):Gg l m=false:=by
 cases a:Gg l m with
 |false=>rfl
 |true=>rw[il.1 a]at h;grind
theorem rX {l m:List ze} (hl:l.length=m.length) (hn:l.length<=big) {step:Int->Option (LO Int Unit Bool)}
  (h1: ∀(i:Nat) (h:i<l.length),step (i:Int)=bif !(tokB l[i] (m[i]'(hl▸h)))then some (.ret false)else some (.again (w64 ((i:Int)+1))))
  (h2:step (l.length:Int)=some (.out ())):ZE step 0 (fun _=>some true)=some (Gg l m):=by
 have hb:big=4194304:=rfl;refine mq (fun s=> ∃i:Nat,i<=l.length/\s=(i:Int)/\Gg (l.drop i) (m.drop i)=Gg l m) (fun s=>l.length - s.toNat) _ ?_ ⟨0,by omega,rfl,rfl⟩;rintro _ ⟨i,hi,rfl,he⟩;rcases Gd i l.length with h|h
 ·rw[h1 i h];have hm:i<m.length:=hl▸h;rw[show l.drop i=l[i]::l.drop (i+1)from Db h,show m.drop i=m[i]::m.drop (i+1)from Db hm,I1]at he;cases ht:tokB l[i] (m[i]'(hl▸h))with
  |true=> rw[ht,Cb]at he;rw[Lb,Ca,Zd (by omega) (by omega)];exact .inl ⟨_,rfl,⟨i+1,by omega,by omega,he⟩,by omega⟩
  |false=>
   grind
 ·have:i=l.length:=by omega
  subst this;rw[xe (Xa _),xe (by omega)]at he;exact .inr (.inl ⟨(),h2,by rw[<-he];rfl⟩)
theorem PI{α:Type}{l:List α}{i:Nat}(h:i<l.length):geti l (i:Int)=some l[i]:=Z8 h
theorem int_ne{n m:Nat}:(((n:Int) != (m:Int)):Bool)= !(n==m):=by
 grind
theorem XX{l m:List ze}(d:l.length<=big):ZI (l,m)=some (Gg l m):=by
 unfold ZI;rw[int_ne];cases b:l.length==m.length with
 |false=>rw[ja,Ea,MN (Ha.1 b)]
 |true=>
  rw[Lb,Ca];have a:=Fb.1 b;refine rX a d (fun i h=> ?_) ?_
  ·have c:i<m.length:=a▸h;have e:decide ((i:Int)<(l.length:Int))=true:=Ia (by omega);simp only[e,Ea,PI h,PI c,zg,Aa];rfl
  grind
def wrF:Nat->List ze->Str->List ze->Str
 |0,_,b,_=>b
 |_+1,_,b,[]=>b
 |n+1,a,b,t::r=>
  wrF n (a++(t::r).take (pcN (t::r))) ((if Gg (Ze (b++pcS ((t::r).take (pcN (t::r))))) (a++(t::r).take (pcN (t::r)))then b else b++cmtW)++pcS ((t::r).take (pcN (t::r)))) ((t::r).drop (pcN (t::r)))
def wrS(l:List ze):Str:=wrF l.length [] [] l
theorem uI: ∀(n:Nat) (ts:List ze) (b:Str) (r:List ze),b.length<=(wrF n ts b r).length
 |0,_,_,_=>Xa _
 |_+1,_,_,[]=>Xa _
 |n+1,ts,b,t::r=>by
  rw[wrF];refine Yb ?_ (uI n _ _ _)
  grind
def Ri(l:List ze):Prop:=(∀t∈l,Ng t=true/\t.text.length<=5000/\t.unit.length<=5000)/\ ∀k,k<l.length->okAt (l.drop k)=true
theorem RN{l:List ze}(h:Ri l)(n:Nat):Ri (l.drop n):=by refine⟨fun t b=>h.1 t (List.mem_of_mem_drop b),fun k a=> ?_⟩;rw[Ub]at a;rw[Te];exact h.2 (n+k) (by omega)
theorem nC{t:ze}{r:List ze}:1<=pcN (t::r):=by rw[au];grind
theorem zAu{t:ze}{r:List ze}:pcN (t::r)<=3:=by rw[au];grind
theorem UJ{t:ze}{r:List ze}(h:Ri (t::r)):pcN (t::r)<=(t::r).length/\PcT (pcS ((t::r).take (pcN (t::r)))) ((t::r).take (pcN (t::r))):=by
 obtain⟨P,Q,d,c,b⟩:=zCT (fun u a=>(h.1 u a).1) (h.2 0 (by simp))
 grind
theorem zCB{t:ze}(e:Ng t=true)(g:t.text.length<=5000)(h2:t.unit.length<=5000):(txS t).length<=20100:=by
 have i: ∀l:Str,l.length<=5000->(ZF l).length<=20000:=fun l p=>by have:=Wn (l==[45]) (Qr l) l;unfold ZF;omega
 cases Gp e with
 |cId l d h=>rw[Pk];grind
 |cFn l d h=>rw[Fj,Ja];grind
 |cAt l d h=>rw[Im,Ka];grind
 |cHash l f d h j=>
  rw[ym,Ka];have s:=i l g;have o:=Wn false 0 l;have m:l.length<=5000:=g;cases f with
  |true=>rw[show lg true l=ZF l from rfl];omega
  |false=>rw[show lg false l=encW false 0 l from rfl];omega
 |cStr l h=>rw[Il];have:=gu quoB l;grind
 |cUrl l h=>rw[Um];have:=gu urB l;grind
 |cDel c h=>rw[Ym];simp
 |cNum n f a b e=>rw[Wm];have:=(Uw a b (!f)).1;omega
 |cPct n a b=>rw[Vm,Ja,Ic];have:=(Uw a b false).1;omega
 |cDim n u f a b e d h=>
  rw[Xm,Ja];have:=(Uw a b (!f)).1;have m:u.length<=5000:=h2;have q:(jf u).length<=20004:=by
   cases u with
   |nil=>grind
   |cons c r=>
    rw[Cr];cases Yi (c::r)with
    |true=>
     rw[Ea,Ja];have:=uu c;have:=Wn false 0 r
     grind
    |false=>grind
  omega
 |cMark k a b=>rw[wm a b];have:=pM k;omega
theorem jD: ∀{l:List ze},(∀t∈l,Ng t=true/\t.text.length<=5000/\t.unit.length<=5000)->(catT l).length<=20100*l.length
 |[],_=>ib _
 |t::r,h=>by obtain⟨a,b,c⟩:=h t (aa ..);have:=zCB a b c;have:=jD (l:=r) (fun u d=>h u (Va _ d));rw[catT,Ja,Ka];omega
theorem SK: ∀(l m:List ze),catT (l++m)=catT l++catT m
 |[],m=>rfl
 |t::l,m=>by rw[Ra,catT,catT,SK l m,La]
theorem DX {R:Type} {step:Int×List UInt8->Option (LO (Int×List UInt8) (List UInt8) R)} {l:List ze} (m:l.length<=3) (e: ∀t∈l,Ng t=true/\t.text.length<=5000/\t.unit.length<=5000)
  (f: ∀(i:Nat) (a:Str) (hi:i<l.length),step ((i:Int),a)=(Q5 (l[i],a)).bind fun j=>some (LO.again (w64 ((i:Int)+1),j)))
  (h2: ∀a,step ((l.length:Int),a)=some (.out a)):Lg step (0,[])=some (.out (catT l)):=by
 refine ZV (fun z=> ∃(i:Nat),i<=l.length/\z=((i:Int),catT (l.take i))) (fun z=>l.length - z.1.toNat) _ ?_ ⟨0,by omega,rfl⟩;rintro _ ⟨i,hi,rfl⟩;rcases Gd i l.length with h|h
 ·obtain⟨a,b,c⟩:=e l[i] (Jc h);have g:=jD (l:=l.take i) (fun t d=>e t (Ag d));rw[Nc]at g;have k:min i l.length<=2:=by omega
  have d:=wU (acc:=catT (l.take i)) a b c (by
   grind)
  rw[f i _ h,d,Aa];refine .inl ⟨_,rfl,⟨i+1,by omega,?_⟩,by simp only;rw[Zd (by omega) (by omega)];omega⟩;rw[Zd (by omega) (by omega),Dc h,SK];refine Prod.ext (by grind) ?_;show _=catT (l.take i)++(txS l[i]++[])
  grind
 grind
def stO(x:List ze×Str):zu:=⟨(x.1.length:Int),(x.2.length:Int)⟩
theorem XW{b s A B:Str}{ts L us P:List ze}{m:Nat}(h:b=B++A/\A≠[]/\ts=L++us/\us≠[]/\ ∃R,run b L R/\Lk R A/\4<=R.length/\4<=A.length):Gg (Ze (A++s)) (us++P)=Gg (Ze (b++s)) (ts++P):=by
 obtain⟨o,k,i,n,R,j,a,l,e⟩:=h;have g:=Xl (NJ s j l);have f:Lk (R++s) (A++s):=by
  refine EC a k ?_;rcases a with a|⟨d,y,_,rfl,_⟩
  ·cases A with
   |nil=>grind
   |cons c t=>
    cases t with
    |cons d u=>rw[XL,<-a];exact Nq R
    |nil=>simp at e
  ·rfl
 rw[uJ f]at g;rw[g,i,Bool.eq_iff_iff,il,il,La,List.append_cancel_left_eq]
theorem uK{x:List ze}(h:gluS x=0):x.length<=1500/\(∀t∈x,Ng t=true)/\ ∀k,k<x.length->okAt (x.drop k)=true:=by
 unfold gluS at h;cases hl:decide (x.length<=1500)with
 |false=>grind
 |true=>
  rw[hl,Ea]at h;cases ha:(List.range x.length).all (Us x)with
  |false=>grind
  |true=>
   rw[Pb]at ha;have key: ∀k,k<x.length->Ng (x.getD k default)=true/\okAt (x.drop k)=true:=by intro k hk;have:=ha k (yc.2 hk);unfold Us at this;rw[Da]at this;exact this
   refine⟨Ac hl,fun t ht=> ?_,fun k hk=>(key k hk).2⟩;obtain⟨k,hk,rfl⟩:=List.mem_iff_getElem.1 ht
   grind
theorem zBc{t:ze}{r:List ze}:(bif t.kind==9 then((pcN (t::r):Nat):Int)==2 else false)=(t.kind==9&&t.text==[92]):=by
 cases a:t.kind==9 with
 |false=>rfl
 |true=>
  have b:ig t=false:=by unfold ig;rw[Fb.1 a];rfl
  rw[au,a,Ea,b]
  grind
theorem lV{t:ze}{r:List ze}:pcS ((t::r).take (pcN (t::r)))=bif (t.kind==9&&t.text==[92])then [92,10]else catT ((t::r).take (pcN (t::r))):=by
 obtain⟨k,a⟩: ∃k,pcN (t::r)=k+1:=⟨pcN (t::r) - 1,by have:=nC (t:=t) (r:=r);omega⟩;rw[a,Ye,pcS]
 grind
theorem XK{n:Nat}{ts:List ze}{b:Str}{t:ze}{r:List ze}{s:Str}{P:List ze}(a:(t::r).take (pcN (t::r))=P)(c:pcS P=s):
  wrF (n+1) ts b (t::r)=wrF n (ts++P) ((if Gg (Ze (b++s)) (ts++P)then b else b++cmtW)++s) ((t::r).drop (pcN (t::r))):=by
 subst c a;rw[wrF]
theorem ap16{n:Nat}(h:n<=99999):zF n 1 16=true:=Ij (by omega) (by omega)
theorem tH{n m:Nat}(h:n+m<=200000):zF n m 1=true:=by
 unfold zF
 grind
theorem BU{R:Type}{i:Int}{b:Str}{ts:List ze}{st:List (List ze×Str)}(h:zA7 b ts st)(g:st.length<=100000): ∃L B A us,
  (bif decide (w64 (((st.map stO).length:Int) - 4)>=0)then
        need (decide (0<=w64 (((st.map stO).length:Int) - 4))&&decide (w64 (((st.map stO).length:Int) - 4)<((st.map stO).length:Int)))<|
        ((st.map stO)[(w64 (((st.map stO).length:Int) - 4)).toNat]?).bind fun c=>
        some (LX.out (i,b,st.map stO,c))
       else
        some (LX.out (i,b,st.map stO,(⟨0,0⟩:zu))))=(some (LX.out (i,b,st.map stO,stO (L,B))):Option (LX (Int×List UInt8×List zu×zu) R))/\
  b=B++A/\ts=L++us/\ ∀s P,Gg (Ze (A++s)) (us++P)=Gg (Ze (b++s)) (ts++P):=by
 rw[Kb];by_cases l:4<=st.length
 ·obtain⟨A,R,us,d,k,e,a,j,f,o,n⟩:=h.bd (st.length - 4) (by omega);refine⟨st[st.length - 4].1,st[st.length - 4].2,A,us,?_,d,e,fun s P=>XW (m:=0) ⟨d,k,e,a,R,j,f,by omega,by omega⟩⟩;rw[Zd (by omega) (by omega),Ia (by omega),Ea,Ia (by omega),Bool.and_self,zU,show((st.length:Int) - 4).toNat=st.length - 4 by omega,Ma,Sa (by omega)];rfl
 ·refine⟨[],[],b,ts,?_,rfl,rfl,fun s P=>rfl⟩;rw[Zd (by omega) (by omega),Ya (by omega),Ca];rfl
theorem PW{x:List ze}(hx: ∀t∈x,t.text.length<=5000/\t.unit.length<=5000):
  Ko x=some (if gluS x=0 then(if 4000<(wrS x).length then([],28)else(wrS x,0))else([],gluS x)):=by
 unfold Ko;have hbig:big=4194304:=rfl;rw[aQ (fun t ht=>by grind)];simp only[zg,Aa];by_cases hg:gluS x=0
 ·rw[Ga hg,hg,show((0:Int) != 0)=false from rfl,Ca];obtain⟨hlen,hfine,hok⟩:=uK hg;have hrest:Ri x:=⟨fun t ht=>⟨hfine t ht,hx t ht⟩,hok⟩;refine mq (fun z=> ∃(i:Nat) (b:Str) (st:List (List ze×Str)) (n:Nat),z=((i:Int),b,st.map stO)/\i<=x.length/\Syn b (x.take i) st/\b.length<=4000/\x.length - i<=n/\wrF n (x.take i) b (x.drop i)=wrS x/\st.length<=i) (fun z=>x.length - z.1.toNat) _ ?_
   ⟨0,[],[],x.length,rfl,ib _, .nil,ib _,Xa _,rfl,Xa _⟩
  rintro _ ⟨i,b,st,n,rfl,hi,hsyn,hbl,hn,hW,hst⟩;simp only;rcases Gd i x.length with h|h
  ·have hro:=RN hrest i;have hdr:x.drop i=x[i]::x.drop (i+1):=Db h;obtain⟨t,ht⟩: ∃t,t=x[i]:=⟨_,rfl⟩;obtain⟨r,hr⟩: ∃r,r=x.drop (i+1):=⟨_,rfl⟩;rw[<-ht,<-hr]at hdr;rw[hdr]at hro hW;have hlr:(t::r).length=x.length - i:=by rw[<-hdr,Ub]
   obtain⟨hk1,hpc⟩:=UJ hro;have hk0:=nC (t:=t) (r:=r);have hk3:=zAu (t:=t) (r:=r);obtain⟨k,hk⟩: ∃k,pcN (t::r)=k:=⟨_,rfl⟩;obtain⟨P,hP⟩: ∃P,(t::r).take k=P:=⟨_,rfl⟩;obtain⟨s,hs⟩: ∃s,pcS P=s:=⟨_,rfl⟩;have hst':=lV (t:=t) (r:=r);have hstep:=fun m=>XK (n:=m) (ts:=x.take i) (b:=b) (t:=t) (r:=r) (s:=s) (P:=P) (by rw[hk];exact hP) hs;have e3:qW (List.drop i x)=some ((k:Nat):Int):=by rw[hdr,<-hk];exact eX (by grind) (hro.2 0 (by simp))
   have hb2:=zBc (t:=t) (r:=r);rw[hk]at hk0 hk1 hk3 hpc hst' hb2 hstep;rw[hP]at hpc hst';rw[hs]at hpc hst';rw[hlr]at hk1;have e1:decide ((i:Int)<(x.length:Int))=true:=Ia (by omega);have e2:(decide ((0:Int)<=(i:Int))&&decide ((i:Int)<=(x.length:Int)))=true:=by rw[Ia (by omega),Ia (by omega)];rfl
   have e4:w64 ((i:Int)+((k:Nat):Int))=((i+k:Nat):Int):=by rw[Zd (by omega) (by omega)];omega
   have e5:(decide ((0:Int)<=(i:Int))&&(decide ((i:Int)<=((i+k:Nat):Int))&&decide (((i+k:Nat):Int)<=(x.length:Int))))=true:=by rw[Ia (by omega),Ia (by omega),Ia (by omega)];rfl
   have e6:geti x (i:Int)=some t:=by rw[Z8 h,ht]
   have e7:List.drop i (List.take (i+k) x)=P:=by rw[List.drop_take,hdr,show i+k - i=k by omega,hP]
   simp only[e1,e2,e3,e4,e5,e6,Ea,zU,Aa,Bb,e7];have hPl:P.length<=3:=by rw[<-hP,Nc];omega
   have hPf: ∀u∈P,Ng u=true/\u.text.length<=5000/\u.unit.length<=5000:=fun u hu=>hro.1 u (by grind);have hsl:s.length<=60400:=by
    have:=jD hPf;rw[hst'];cases t.kind==9&&t.text==[92]with
    |true=>grind
    |false=>grind
   rw[qM (DX (l:=P) hPl hPf (fun j a hj=> ?_) (fun a=> ?_))]
   ·rw[hb2];have hj9:(bif (t.kind==9&&t.text==[92])then some (LX.out ((i:Int),b,st.map stO,[(92:UInt8),(10:UInt8)]))else some (LX.out ((i:Int),b,st.map stO,catT P)))=(some (LX.out ((i:Int),b,st.map stO,s)):Option (LX (Int×List UInt8×List zu×List UInt8) (LO (Int×List UInt8×List zu) (List UInt8) (Str×Int)))):=by rw[hst'];cases t.kind==9&&t.text==[92]<;>rfl
    rw[hj9,zh];simp only;have hsok:=Lx hsyn;obtain⟨L,B,A,us,hfrom,hbA,hts,hwin⟩:=BU (R:=LO (Int×List UInt8×List zu) (List UInt8) (Str×Int)) (i:=(i:Int)) hsok (by omega);rw[hfrom,zh];have hBl:B.length<=b.length:=by rw[hbA,Ja];omega
    have hAl:A.length<=b.length:=by rw[hbA,Ja];omega
    have f1:(decide ((0:Int)<=(stO (L,B)).at_)&&decide ((stO (L,B)).at_<=(b.length:Int)))=true:=by show(decide ((0:Int)<=(B.length:Int))&&decide ((B.length:Int)<=(b.length:Int)))=true;rw[Ia (by omega),Ia (by omega)];rfl
    have f2:(stO (L,B)).at_.toNat=B.length:=Bb _;have f3:decide (B.length+(b.length - B.length)<=b.length)=true:=Ia (by omega);have f4:List.take (b.length - B.length) (List.drop B.length b)=A:=by rw[hbA,List.drop_left,Ja,show B.length+A.length - B.length=A.length by omega,Ff]
    have f5:df A.length s.length=true:=QH.2 (by omega);simp only[f1,f2,f3,f4,f5,zU,VN,Aa,e4,Bb];have htl:(stO (L,B)).token=(L.length:Int):=rfl;have hLl:L.length<=i:=by have:=congrArg List.length hts;rw[Nc,Ja]at this;omega
    have htk:List.drop L.length (List.take (i+k) x)=us++P:=by
     have:List.take (i+k) x=L++(us++P):=by rw[List.take_add,hdr,hP,hts,La]
     rw[this,List.drop_left]
    have hPlen:P.length=k:=by rw[<-hP,Nc];omega
    have husP:(us++P).length<=1500:=by have h1:=congrArg List.length hts;rw[Nc,Ja]at h1;rw[Ja,hPlen];omega
    have hcl:clB (A++s)=true:=by have h1:=bI hsyn;rw[hbA,qm,Da]at h1;rw[qm,h1.2,CB hpc];rfl
    obtain⟨c,hc⟩: ∃c,c=Gg (Ze (b++s)) (x.take i++P):=⟨_,rfl⟩;have hwinc:Gg (Ze (A++s)) (us++P)=c:=by rw[hc];exact hwin s P
    obtain⟨c',hc'⟩: ∃c',c'=(decide ((A++s).length<=4000)&&c):=⟨_,rfl⟩;have hneed:(decide ((0:Int)<=(stO (L,B)).token)&&(decide ((stO (L,B)).token<=((i+k:Nat):Int))&&decide (((i+k:Nat):Int)<=(x.length:Int))))=true:=by rw[htl,Ia (by omega),Ia (by omega),Ia (by omega)];rfl
    have hcat: ∀(E:Option (LX (Int×List zu×List UInt8) (LO (Int×List UInt8×List zu) (List UInt8) (Str×Int)))),
      E=(need (decide ((0:Int)<=(stO (L,B)).token)&&(decide ((stO (L,B)).token<=((i+k:Nat):Int))&&decide (((i+k:Nat):Int)<=(x.length:Int)))|| !(!((Qq (A++s)).2 != 0)))<|
       (zA (!((Qq (A++s)).2 != 0)) (ZI ((Qq (A++s)).1,List.drop (stO (L,B)).token.toNat (List.take (i+k) x))) (default:Bool)).bind fun y13=>
       bif bif (Qq (A++s)).2 != 0 then true else !y13 then
        need (zF b.length ([47,42,42,47]:Str).length 1)<|
        some (LX.out ((i:Int),st.map stO,b++([47,42,42,47]:Str)))
       else
        some (LX.out ((i:Int),st.map stO,b)))->E=some (LX.out ((i:Int),st.map stO,if c' then b else b++cmtW)):=by
     rintro E rfl;rw[hneed,Je,zU,show(stO (L,B)).token.toNat=L.length from Bb _,htk];have happ:zF b.length ([47,42,42,47]:Str).length 1=true:=tH (by grind);unfold Qq;by_cases hlong:4000<(A++s).length
     ·rw[Ga hlong];have:c'=false:=by rw[hc',Ya (by omega)];rfl
      rw[this];simp only[show((28:Int) != 0)=true from rfl,Lb,Zt,Aa,Ea,happ,zU];rfl
     ·rw[Fa hlong,vE _ hcl];have hcc:c'=c:=by rw[hc',Ia (by omega)];rfl
      by_cases hmany:1500<(Ze (A++s)).length
      ·rw[Ga hmany];have:c'=false:=by rw[hcc,<-hwinc];exact MN (by omega)
       rw[this];simp only[show((4:Int) != 0)=true from rfl,Lb,Zt,Aa,Ea,happ,zU];rfl
      ·rw[Fa hmany];simp only[show((0:Int) != 0)=false from rfl,ja,zQ,Ca,XX (show(Ze (A++s)).length<=big by omega),hwinc,Aa,happ,zU]
       grind
    rw[hcat _ rfl,zh];simp only;obtain⟨m,hm⟩: ∃m,n=m+1:=⟨n - 1,by omega⟩;subst hm;rw[hstep m,<-hc]at hW;have hWl:=uI m (x.take i++P) ((if c then b else b++cmtW)++s) ((t::r).drop k);rw[hW]at hWl;have hcw:cmtW.length=4:=rfl;have hb1:(if c' then b else b++cmtW).length<=4004:=by
     split
     ·omega
     ·grind
    rw[zB (ap16 (by grind)),zB (tH (by omega))];have hbs:b.length+s.length<=(wrS x).length:=by
     refine Yb ?_ hWl;rw[Ja];split
     ·omega
     ·grind
    by_cases hbig2:4000<((if c' then b else b++cmtW)++s).length
    ·grind
    ·rw[Ya (by omega),Ca];have hcc:c'=c:=by
      have:(A++s).length<=4000:=by
       rw[Ja]at hbig2 ⊢;have:b.length<=(if c' then b else b++cmtW).length:=by
        split
        ·grind
        ·grind
       omega
      rw[hc',Ia this];rfl
     rw[hcc]at hbig2 ⊢;have hxt:x.take (i+k)=x.take i++P:=by rw[List.take_add,hdr,hP]
     refine .inl ⟨_,rfl,⟨i+k,(if c then b else b++cmtW)++s,st++[(x.take i,if c then b else b++cmtW)],m,?_,by omega,?_,by omega,by omega,?_,?_⟩,?_⟩
     ·refine Prod.ext e4 (Prod.ext rfl ?_);rw[Ve];show st.map stO++[_]=st.map stO++[stO (x.take i,if c then b else b++cmtW)];unfold stO
      grind
     ·rw[hxt];cases hcb:c with
      |true=> rw[Ga rfl];exact .no b s _ P st hsyn hpc (il.1 (by rw[<-hc,hcb]))
      |false=> rw[Fa (by decide)];refine .cmt b s _ P st hsyn ?_ hpc;rintro rfl;have h0:=hsok.tok;rw[Ql (Zr rfl)]at h0;rw[<-h0,Nb,Nb,Sy hpc]at hc;rw[hcb,il.2 rfl]at hc;cases hc
     ·rw[hxt,<-hW,<-Te,hdr]
     ·rw[Ja,Ic];omega
     ·simp only;rw[e4];omega
   ·have d1:decide ((j:Int)<(P.length:Int))=true:=Ia (by omega);simp only[d1,Ea,Z8 hj,Aa]
   ·simp only;rw[Ya (by omega),Ca]
  ·have:i=x.length:=by omega
   subst this;have e1:decide ((x.length:Int)<(x.length:Int))=false:=Ya (by omega);simp only[e1,Ca];refine .inr (.inl ⟨_,rfl,?_⟩);rw[xe (Xa _)]at hW;have hWb:b=wrS x:=by
    cases n with
    |zero=>rw[wrF]at hW;exact hW
    |succ n=>rw[wrF]at hW;exact hW
   rw[<-hWb,Fa (by omega)]
 grind
theorem iw: ∀(n:Nat) {ts r:List ze} {b:Str} {st:List (List ze×Str)},Ri r->Syn b ts st->r.length<=n-> ∃st',Syn (wrF n ts b r) (ts++r) st'
 |0,ts,r,b,st,_,hs,hn=>by
  have:r=[]:=ae.1 (by omega);subst this;rw[wrF,Ua]
  grind
 |n+1,ts,[],b,st,_,hs,_=>by
  rw[wrF,Ua]
  grind
 |n+1,ts,t::r,b,st,hr,hs,hn=>by
  obtain⟨hk,hpc⟩:=UJ hr;have hk0:=nC (t:=t) (r:=r);rw[XK rfl rfl];have hd:(t::r)=(t::r).take (pcN (t::r))++(t::r).drop (pcN (t::r)):=(List.take_append_drop _ _).symm;have hl:((t::r).drop (pcN (t::r))).length<=n:=by rw[Ub];omega
  have hro:=RN hr (pcN (t::r));generalize (t::r).take (pcN (t::r))=P at*;generalize (t::r).drop (pcN (t::r))=Q at*;cases hc:Gg (Ze (b++pcS P)) (ts++P)with
  |true=>
   rw[Ga rfl];obtain⟨st',h'⟩:=iw n hro (.no b (pcS P) ts P st hs hpc (il.1 hc)) hl
   grind
  |false=>
   rw[Fa (by decide)];have hb:b≠[]:=by rintro rfl;have h0:=(Lx hs).tok;rw[Ql (Zr rfl)]at h0;rw[<-h0,Nb,Nb,Sy hpc,il.2 rfl]at hc;cases hc
   obtain⟨st',h'⟩:=iw n hro (.cmt b (pcS P) ts P st hs hb hpc) hl
   grind
theorem RF{x:List ze}(h:Ri x):Ze (wrS x)=x/\clB (wrS x)=true:=by obtain⟨b,a⟩:=iw x.length h .nil (Xa _);rw[Nb]at a;exact⟨(Lx a).tok,bI a⟩
theorem sZ {S X R:Type} {step:S->Option (LO S X R)} {k:X->Option R} (Inv:S->Prop) (c:S->Nat) (Q:R->Prop)
  (h: ∀s,Inv s->(∃s',step s=some (.again s')/\Inv s'/\c s'<c s)\/(∃x y,step s=some (.out x)/\k x=some y/\Q y)\/(∃y,step s=some (.ret y)/\Q y)) {s:S} (e:Inv s): ∃y,ZE step s k=some y/\Q y:=by
 have d: ∀(m:Nat) (s:S),c s<m->Inv s-> ∃(r:LX X R) (y:R),qL step m s=some r/\r.go k=some y/\Q y:=by
  intro m
  induction m with
  |zero=>intro s h;omega
  |succ m i=>
   intro s g e;simp only[qL];rcases h s e with⟨s',a,b,f⟩|⟨x,y,a,b,f⟩|⟨y,a,b⟩
   ·grind
   ·simp_all
   simp_all
 obtain⟨r,y,a,b,f⟩:=d (c s+1) s (by omega) e;exact⟨y,by rw[QW (Aj a)];exact b,f⟩
end Go.Lv.VT
