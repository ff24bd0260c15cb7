/- Pieces: what is written at once; how they begin. -/
import Derived.Test.YtcdeccnjlkkejaaGreatDoorNc
import Derived.Test.YtcdeccnjlkkejaaGreatDoorNam
set_option linter.unusedSimpArgs false
set_option linter.unusedVariables false
namespace Go.Lv.VT
set_option maxRecDepth 100000
abbrev tkSp:zb:=⟨13,[],0,[],false⟩
inductive PcT:Str->List zb->Prop
 |one (t:zb) (h:zfq t) (hb: ¬(t.kind=9/\t.text=[92])) (hu:df t=false):PcT (txS t) [t]
 |back:PcT [92,10] [⟨9,[92],0,[],false⟩,tkSp]
 |url (l m:Str) (s:Bool) (h:Zp l=true) (hl:lowS l=[117,114,108]) (hm:Zp m=true):
   PcT (ZR l++40::((if s then [32]else [])++34::(encB quoB m++[34]))) (⟨2,l,0,[],false⟩::((if s then [tkSp]else [])++[⟨5,m,0,[],false⟩]))
theorem bK{l:Str}(h:lowS l=[117,114,108]): ∃a r,l=a::r/\(a=117\/a=85):=by
 cases l with
 |nil=>cases h
 |cons a r=>
  have h1:wh a=117:=by unfold lowS at h;rw[Mc]at h;injection h
  have: ∀n:Nat,n<256->wh (UInt8.ofNat n)=117->UInt8.ofNat n=117\/UInt8.ofNat n=85:=by decide+kernel
  have:=this a.toNat (aa a);simp_all
theorem Nw{l:Str}(a:l≠[])(z:Str):nmS (ZR l++40::z)=true:=KJ (Bj a) (by show(40:UInt8)≠10;decide)
theorem Wo{k:Int}(a:13<=k)(h2:k<=24):k=13\/k=14\/k=15\/k=16\/k=17\/k=18\/k=19\/k=20\/k=21\/k=22\/k=23\/k=24:=by omega
theorem Cz{s:Str}{P:List zb}(h:PcT s P):nmS s=true\/(∃n p U t,P=[t]/\s=numT n p++U/\t.num=n/\(U=[]/\t.kind=10\/U=[37]\/ ∃u,u≠[]/\Zp u=true/\U=Tf u))\/
  (∃c r,s=c::r/\(c=64\/c=35\/c=34)/\nbS s=false)\/(∃c,s=[c]/\vg c.toNat=true)\/(∃k,13<=k/\k<=24/\s=Tj k)\/s=[92,10]:=by
 cases h with
 |one t h q v=>
  cases h with
  |cId l b h=>left;rw[Al];exact Bj b
  |cFn l b h=>left;rw[Xi];exact Nw b []
  |cAt l b h=>right;right;left;rw[Bl];exact⟨64,_,rfl, .inl rfl,rfl⟩
  |cHash l f b h j=>right;right;left;rw[Am];exact⟨35,_,rfl, .inr (.inl rfl),rfl⟩
  |cStr l h=>right;right;left;rw[aj];exact⟨34,_,rfl, .inr (.inr rfl),rfl⟩
  |cUrl l h=>left;rw[Ml];rfl
  |cDel c h=>right;right;right;left;rw[Sl];grind
  |cNum n f d e g=>right;left;exact⟨n, !f,[],_,rfl,by rw[Ol,Xa],rfl, .inl ⟨rfl,rfl⟩⟩
  |cPct n d e=>right;left;exact⟨n,false,[37],_,rfl,Nl n,rfl, .inr (.inl rfl)⟩
  |cDim n u f d e g b h=>right;left;exact⟨n, !f,Tf u,_,rfl,Rl n u f,rfl, .inr (.inr ⟨u,b,h,rfl⟩)⟩
  |cMark k d e=>right;right;right;right;left;exact⟨k,d,e,yl d e⟩
 |back=>grind
 |url l m s h i o=> left;obtain⟨a,r,rfl,_⟩:=bK i;exact Nw (by simp) _
theorem iF(c:UInt8)(h:vg c.toNat=true):spB c=false/\nbS [c]=false/\c≠101/\c≠69:=by
 have: ∀n:Nat,n<256->vg (UInt8.ofNat n).toNat=true->spB (UInt8.ofNat n)=false/\nbS [UInt8.ofNat n]=false/\UInt8.ofNat n≠101/\UInt8.ofNat n≠69:=by decide+kernel
 have:=this c.toNat (aa c);simp_all
theorem BV{s:Str}(h:digB (atS (unsign s) 0)=true):nbS s=true:=by
 unfold nbS undot;have:(atS (unsign s) 0==46)=false:=Ga.2 (Qc h).2.2.1
 grind
theorem Gw{s:Str}{P:List zb}(h:PcT s P)(d:digB (atS (unsign s) 0)=true): ∃n p U t,P=[t]/\s=numT n p++U/\t.num=n/\(U=[]/\t.kind=10\/U=[37]\/ ∃u,u≠[]/\Zp u=true/\U=Tf u):=by
 have a:=BV d;rcases Cz h with h|h|⟨c,r,e,_,h⟩|⟨c,rfl,f⟩|⟨k,b,g,rfl⟩|rfl
 ·rw[pQ h]at a;cases a
 ·exact h
 ·grind
 ·rw[(iF c f).2.1]at a;cases a
 ·rcases Wo b g with rfl|rfl|rfl|rfl|rfl|rfl|rfl|rfl|rfl|rfl|rfl|rfl<;>cases a
 ·cases a
theorem zBm{s:Str}{P:List zb}(h:PcT s P)(a:spB (atS s 0)=true):s=[32]:=by
 rcases Cz h with h|⟨n,p,U,t,_,rfl,_⟩|⟨c,r,rfl,g,_⟩|⟨c,rfl,f⟩|⟨k,d,b,rfl⟩|rfl
 ·rw[(Gs (Yn h)).1]at a;cases a
 ·obtain⟨c,r,e,_,b,_⟩:=ol n p U;rw[e]at a;rw[show atS (c::r) 0=c from rfl,b]at a;cases a
 ·rcases g with rfl|rfl|rfl<;>cases a
 ·rw[show atS [c] 0=c from rfl,(iF c f).1]at a;cases a
 ·rcases Wo d b with rfl|rfl|rfl|rfl|rfl|rfl|rfl|rfl|rfl|rfl|rfl|rfl<;>first|rfl|cases a
 ·cases a
theorem Yx{s:Str}{P:List zb}(h:PcT s P){b:UInt8}(f:b=47\/b=42)(d:atS s 0=b):s=[b]:=by
 rcases Cz h with h|⟨n,p,U,t,_,rfl,_⟩|⟨c,r,rfl,g,_⟩|⟨c,rfl,j⟩|⟨k,a,i,rfl⟩|rfl
 ·have a:=Yn h;rw[d]at a;rcases f with rfl|rfl<;>cases a
 ·obtain⟨c,r,e,a,_⟩:=ol n p U;rw[e]at d;rw[show c=b from d]at a;rcases f with rfl|rfl<;>cases a
 ·rw[show c=b from d]at g
  grind
 ·rw[show c=b from d]
 ·rcases Wo a i with rfl|rfl|rfl|rfl|rfl|rfl|rfl|rfl|rfl|rfl|rfl|rfl<;>rcases f with rfl|rfl<;>cases d
 ·rcases f with rfl|rfl<;>cases d
theorem mh{s:Str}{P:List zb}(h:PcT s P):s≠[]:=by
 rcases Cz h with h|⟨n,p,U,t,_,rfl,_⟩|⟨c,r,rfl,d,_⟩|⟨c,rfl,f⟩|⟨k,b,a,rfl⟩|rfl
 ·exact Yi h
 ·obtain⟨c,r,e,_⟩:=ol n p U;rw[e];simp
 ·simp
 ·simp
 ·rcases Wo b a with rfl|rfl|rfl|rfl|rfl|rfl|rfl|rfl|rfl|rfl|rfl|rfl<;>decide
 ·simp
theorem DV{l:Str}{c:UInt8}{r:Str}(b:c=101\/c=69)(h:ZR l=c::r): ∃t,l=c::t:=by
 cases l with
 |nil=>unfold ZR at h;rw[encW]at h;cases h
 |cons a t=>
  have g:ZR (a::t)=pcW ((a::t:Str)==[45]) (ZP (a::t)) a++encW ((a::t:Str)==[45]) (ZP (a::t) - 1) t:=rfl;obtain⟨d,u,e,f⟩:=Dz (dash:=(a::t:Str)==[45]) (k:=ZP (a::t)) (by unfold ZP;split<;>omega) a (encW ((a::t:Str)==[45]) (ZP (a::t) - 1) t)
  grind
theorem zAG{s:Str}{P:List zb}(h:PcT s P)(b:atS s 0=101\/atS s 0=69): ∃l t z,Zp l=true/\P=[t]/\(t.kind=1\/t.kind=2)/\t.text=l/\s=ZR l++z/\(z=[]\/z=[40]):=by
 cases h with
 |one t h B C=>
  cases h with
  |cId l i h=>exact⟨l,_,[],h,rfl, .inl rfl,rfl,by rw[Al,Xa], .inl rfl⟩
  |cFn l i h=>exact⟨l,_,[40],h,rfl, .inr rfl,rfl,Xi l, .inr rfl⟩
  |cAt l i h=>rw[Bl]at b;rcases b with b|b<;>cases b
  |cHash l f i h v=>rw[Am]at b;rcases b with b|b<;>cases b
  |cStr l h=>rw[aj]at b;rcases b with b|b<;>cases b
  |cUrl l h=>rw[Ml]at b;rcases b with b|b<;>cases b
  |cDel c h=>
   rw[Sl]at b;obtain⟨_,_,p,q⟩:=iF c h;rcases b with b|b
   ·exact absurd b p
   ·exact absurd b q
  |cNum n f d g w=>
   rw[Ol]at b;obtain⟨c,r,e,d,_⟩:=ol n (!f) [];rw[Xa]at e;rw[e]at b;rcases b with b|b<;>(rw[show c=_ from b]at d;cases d)
  |cPct n d g=>
   rw[Nl]at b;obtain⟨c,r,e,d,_⟩:=ol n false [37];rw[e]at b;rcases b with b|b<;>(rw[show c=_ from b]at d;cases d)
  |cDim n u f d g w i h=>
   rw[Rl]at b;obtain⟨c,r,e,d,_⟩:=ol n (!f) (Tf u);rw[e]at b;rcases b with b|b<;>(rw[show c=_ from b]at d;cases d)
  |cMark k d g=> rw[yl d g]at b;rcases Wo d g with rfl|rfl|rfl|rfl|rfl|rfl|rfl|rfl|rfl|rfl|rfl|rfl<;>rcases b with b|b<;>cases b
 |back=>rcases b with b|b<;>cases b
 |url l m s h o y=>
  exfalso;obtain⟨a,r,rfl,D⟩:=bK o;obtain⟨c,A,e⟩:=Gh (Yi (Bj (l:=a::r) (by simp)));have j:c=101\/c=69:=by rw[e]at b;exact b
  obtain⟨t,x⟩:=DV j e;injection x with e3 _
  grind
def ShS(s r:Str):Prop:=r=s\/ ∃d y,digB d=true/\s=48::46::d::y/\r=46::d::y
theorem JK(cap:Nat)(l:Str):capF cap 0 (48::l)=capF cap 0 l:=by show capF cap (min cap (decN 0 48)) l=_;rw[show decN 0 48=0 from rfl,Nat.min_zero]
theorem lU(A:Str)(p:Int):thoV (48::A) p=thoV A p:=by
 unfold thoV;by_cases a:p<0
 ·rw[Ka a,Ka a];by_cases c:(A.length:Int)+p<0
  ·have b:(((48::A:Str).length:Int)+p).toNat=0:=by rw[Ia];omega
   grind
  ·have b:(((48::A:Str).length:Int)+p).toNat=((A.length:Int)+p).toNat+1:=by rw[Ia];omega
   rw[b,Ie,JK]
 ·rw[Ja a,Ja a,JK]
theorem bz(d:UInt8)(y:Str)(e:digB d=true):Zm (48::46::d::y)=Zm (46::d::y):=by
 have j:Jf 48=false/\Jf 46=false:=by decide
 have b:Ff (48::46::d::y)=46::d::y:=rfl;have a:Ff (46::d::y)=46::d::y:=rfl;have h:zy (48::46::d::y)=zy (46::d::y):=by rw[Qd,Qd,b,a]
 have g:(numP (48::46::d::y)).val=(numP (46::d::y)).val:=by have c:numP (48::46::d::y)=⟨[],[48],dotP (46::d::y),expP (zT (46::d::y)).1⟩:=rfl;have i:numP (46::d::y)=⟨[],[],dotP (46::d::y),expP (zT (46::d::y)).1⟩:=rfl;rw[c,i];unfold NumP.val;simp only[Lc,Yb,lU]
 have f:nbS (46::d::y)=true:=e;rw[Mq,Ja (by decide),Ja (by decide),show((48:UInt8)==35)=false from rfl,Ac,Ja (by decide),show nbS (48::46::d::y)=true from rfl,Ka rfl,
  Mq,Ja (by decide),Ja (by decide),show((46:UInt8)==35)=false from rfl,Ac,Ja (by decide),f,Ka rfl]
 unfold zB;rw[h,g]
theorem capG(cap:Nat): ∀(l:Str) (n:Nat),valG n l<=cap->capF cap n l=valG n l
 |[],n,_=>rfl
 |c::l,n,h=>by
  have b:valG n (c::l)=valG (decN n c) l:=rfl;rw[b]at h ⊢;have a:decN n c<=valG (decN n c) l:=by rw[Us l (decN n c)];have:=Gd (decN n c) (Hf (n:=l.length) (show 0<10 by omega));omega
  rw[capF,Nat.min_eq_right (Ic a h)];exact capG cap l (decN n c) h
theorem gH: ∀(k n:Nat),n*10 ^ k<=1000->Fg k n=n*10 ^ k
 |0,n,_=>by rw[Fg,Nat.pow_zero,Af]
 |k+1,n,h=>by
  have c:Mf=1000000000000:=rfl;rw[Fg];have a:0<10 ^ k:=Hf (by omega);have e:n*10 ^ (k+1)=10*n*10 ^ k:=by rw[Nat.pow_succ,Gg 10 n,af,Gg (10 ^ k) 10]
  have d:10*n<=10*n*10 ^ k:=Gd _ a;by_cases b:n=0
  ·subst b;simp
  ·rw[Ja (by omega),Nat.min_eq_right (by omega),gH k (10*n) (by omega),e]
theorem GX{n:Int}{p:Bool}(hp:(partT (n.natAbs%1000) p).isEmpty=false){U:Str}(hU:past digB U=U)(hx:expS U=none):
  (numP (46::(partT (n.natAbs%1000) p++U))).val=((n.natAbs%1000:Nat):Int):=by
 obtain⟨k1,k2,k3,_,_⟩:=Fj (r:=n.natAbs%1000) (by omega) p;generalize partT (n.natAbs%1000) p=F at*;obtain⟨c,r,rfl⟩:=Gh (show F≠[] by grind);have hc:digB c=true:=by rw[Uc,Ea]at k1;exact k1.1
 have hq:Ff (46::(c::r++U))=46::(c::r++U):=rfl;have hpast:past digB (c::r++U)=U:=by rw[Eu _ _ k1,hU]
 have hw:zT (46::(c::r++U))=(U,false):=by unfold zT;rw[show atS (46::(c::r++U)) 1=c from rfl,hc,show(atS (46::(c::r++U)) 0==46&&true)=true from rfl,Ka rfl,show(46::(c::r++U)).drop 1=c::r++U from rfl,hpast]
 have hrun:List.takeWhile digB (c::r++U)=c::r:=by have:=Rp digB (c::r++U);rw[hpast]at this;exact List.append_cancel_right this
 have hd:dotP (46::(c::r++U))=some (c::r):=by unfold dotP;rw[show atS (46::(c::r++U)) 1=c from rfl,hc,show(atS (46::(c::r++U)) 0==46&&true)=true from rfl,Ka rfl,show(46::(c::r++U)).drop 1=c::r++U from rfl,hrun]
 have he:expP U=none:=by unfold expP;rw[Uk]at hx;rw[hx,Ja (by decide)]
 have hP:numP (46::(c::r++U))=⟨[],[],some (c::r),none⟩:=by show(⟨sgOf (46::(c::r++U)),_,dotP (46::(c::r++U)),expP (zT (46::(c::r++U))).1⟩:NumP)=_;rw[hd,hw,he];rfl
 rw[hP];unfold NumP.val;show(((thoV ([]++(c::r)) (3+0 - ((c::r:Str).length:Int))):Nat):Int)=_;unfold thoV;rw[Yb,Ja (by omega),show(3+0 - ((c::r:Str).length:Int)).toNat=3 - (c::r:Str).length by omega];have hle:valG 0 (c::r)<=1000:=by have:=Gd (valG 0 (c::r)) (Hf (n:=3 - (c::r:Str).length) (show 0<10 by omega));omega
 rw[capG _ _ _ (by unfold Mf;omega),gH _ _ (by omega),k3]
theorem jW{m:Nat}(h:m=0):Lib.decDigits m=[48]:=by subst h;decide+kernel
theorem Vx{t:zb}{U:Str}(f:U=[]/\t.kind=10\/U=[37]\/ ∃u,u≠[]/\Zp u=true/\U=Tf u):past digB U=U/\expS U=none/\(U=[]\/U=[37]\/(nmS U=true/\(zo U).2=[])):=by
 rcases f with⟨rfl,_⟩|rfl|⟨u,a,h,rfl⟩
 ·exact⟨rfl,rfl, .inl rfl⟩
 ·exact⟨rfl,rfl, .inr (.inl rfl)⟩
 ·have c:=xC a h;have e:=(yC c []).1;have d:=sN a h (x:=[]) (.inl rfl);have b:=NG a h [];rw[Xa]at e d b;exact⟨e,d, .inr (.inr ⟨c,by rw[b,qB]⟩)⟩
theorem fB(n:Int)(p:Bool)(U:Str):past digB (unsign (numT n p++U))=past digB (dotS (if(partT (n.natAbs%1000) p).isEmpty then none else some (partT (n.natAbs%1000) p))++U):=q2_T n p U
theorem bD{n:Int}{p:Bool}(U:Str)(a:(partT (n.natAbs%1000) p).isEmpty=true):past digB (unsign (numT n p++U))=past digB U:=by rw[fB,a];rfl
theorem aD{n:Int}{p:Bool}(U:Str)(a:(partT (n.natAbs%1000) p).isEmpty=false):past digB (unsign (numT n p++U))=46::(partT (n.natAbs%1000) p++U):=by rw[fB,a];rfl
theorem lS(z:Str):expS (46::z)=none:=rfl
theorem rQ(z:Str):nmS (46::z)=false:=rfl
theorem RV{s r:Str}{P:List zb}(h:PcT s P)(x:digB (atS s 0)=true)(f:r=past digB s)(F:nmS r=false)(m:(atS r 0==37)=false)(d:ql r=P):ShS s r:=by
 have u:unsign s=s:=by unfold unsign Jf;rw[Ga.2 (Qc x).1,Ga.2 (Qc x).2.1];rfl
 obtain⟨n,p,U,t,rfl,rfl,g,z⟩:=Gw h (by grind);obtain⟨w,D,A⟩:=Vx z;rw[<-u,fB]at f;cases j:(partT (n.natAbs%1000) p).isEmpty with
 |true=>
  rw[j]at f;have a:r=U:=by rw[f];exact w
  subst a;rcases A with rfl|rfl|⟨G,_⟩
  ·rw[QG (ZX rfl)]at d;cases d
  ·cases m
  grind
 |false=>
  rw[j]at f;have a:r=46::(partT (n.natAbs%1000) p++U):=by rw[f];rfl
  have B:=GX j w D;obtain⟨c,q,i⟩:=Gh (show partT (n.natAbs%1000) p≠[] by grind);have b:=wE (n:=n) (p:=p);have v:digB c=true:=by rw[i,Uc,Ea]at b;exact b.1
  have k:cmtS r=46::(partT (n.natAbs%1000) p++U):=by rw[a];exact ZX rfl
  rw[Qu k]at d;injection d with d _;have l:Zm (46::(partT (n.natAbs%1000) p++U))=zB (46::(partT (n.natAbs%1000) p++U)):=by
   have o:nbS (46::(partT (n.natAbs%1000) p++U))=true:=by rw[i];exact v
   rw[Mq,Ja (by decide),Ja (by decide),show((46:UInt8)==35)=false from rfl,Ac,Ja (by decide),o,Ka rfl]
  have e: ∀q:Str,(zB q).1.num=(numP q).val:=by
   intro q;unfold zB;split
   ·rfl
   ·split<;>rfl
  rw[l]at d;have y:=e (46::(partT (n.natAbs%1000) p++U));rw[d,B,g]at y;have E:n.natAbs / 1000=0:=by omega
  have C:numT n p++U=48::46::c::(q++U):=by rw[Xr,j,jW E,i];unfold sgT;rw[Ja (by omega)];rfl
  right;exact⟨c,q++U,v,C,by rw[a,i];rfl⟩
theorem PL: ∀(y r:Str),y.all letB=true->zo (y++r)=(y++(zo r).1,(zo r).2)
 |[],r,_=>rfl
 |c::y,r,h=>by rw[Uc,Ea]at h;rw[Ya,zO,Ka h.1,PL y r h.2];rfl
theorem YT{l:Str}(h:l.all digB=true):l.all letB=true:=by
 rw[Sb]at h ⊢;intro b a;unfold letB
 grind
theorem SV{s r:Str}{P:List zb}(h:PcT s P)(he:atS s 0=101\/atS s 0=69)(hd:digB (atS (unsign (s.drop 1)) 0)=true)(hr:r=past digB (unsign (s.drop 1)))(hT:ql r=P):False:=by
 obtain⟨l,t,z,hl,rfl,hk,ht,rfl,hz⟩:=zAG h he;obtain⟨c,q,e⟩:=Gh (mh h);have hnz:zo z=([],z):=by rcases hz with rfl|rfl;exact qB;exact PE []
 have hname:zo (ZR l++z)=(l,z):=by rw[ek z hl,hnz,Xa]
 rw[e]at he hd hr hname;rw[show(c::q).drop 1=q from rfl]at hd hr;have hc:letB c=true:=by rcases he with h|h<;>(rw[show c=_ from h];rfl)
 -- the sign is a dash, or none
 have hsg:(sgOf q).all letB=true:=by
  unfold sgOf;cases hs:Jf (atS q 0)with
  |false=>rfl
  |true=>
   rw[Ka rfl];unfold Jf at hs;rw[Gc,Ab,Ab]at hs;rcases hs with hs|hs
   ·exfalso;cases q with
    |nil=>cases hs
    |cons d q'=>
     rw[show d=43 from hs,zO,Ka hc,zO,Ja (by decide),Ja (by unfold escS;rw[show atS (43::q') 0=43 from rfl];simp)]at hname
     grind
   ·rw[hs];rfl
 have hsplit:c::q=(c::(sgOf q++(unsign q).takeWhile digB))++r:=by rw[hr,Ya,Oa,Rp,iA]
 have hall:(c::(sgOf q++(unsign q).takeWhile digB)).all letB=true:=by rw[Uc,hc,List.all_append,hsg,YT (yx digB _)];rfl
 rw[hsplit,PL _ _ hall]at hname;injection hname with hn1 hn2;have hcm:cmtS r=r:=by
  refine ZX ?_;cases r with
  |nil=>rfl
  |cons d u=>
   refine cB (Ga.2 ?_);rintro rfl;rw[zO,Ja (by decide),Ja (by unfold escS;rw[show atS (47::u) 0=47 from rfl];simp)]at hn2
   grind
 cases r with
 |nil=>rw[QG hcm]at hT;cases hT
 |cons d u=>
  rw[Qu hcm]at hT;injection hT with hT _;have hbr:=Kk d u;rw[hT]at hbr;have hbr':brS d u=7:=by rcases hk with hk|hk<;>(rw[hk]at hbr;exact hbr.symm)
  have hx:t.text=(zo (d::u)).1:=by
   rw[<-hT,qo,hbr',Oh];have hk':(qh (d::u)).1.kind=1\/(qh (d::u)).1.kind=2:=by
    have:(qh (d::u)).1=t:=by rw[<-hT,qo,hbr',Oh]
    rw[this];exact hk
   unfold qh at hk' ⊢;split
   ·rename_i h40;rw[Ka h40]at hk';split
    ·rename_i h2;rw[Ka h2]at hk';rcases CE (urlS (past spB ((zo (d::u)).2.drop 1))).1 with hh|hh<;>rcases hk' with hk'|hk'<;>rw[show(ig (urlS (past spB ((zo (d::u)).2.drop 1))).1).kind=_ from hk']at hh<;>cases hh
    ·rfl
   ·rfl
  rw[<-hx,ht]at hn1;have:=congrArg List.length hn1
  grind
theorem XY{z r:Str}(h:zT z=(r,true)):r=z:=by
 unfold zT at h
 grind
theorem uW{z r:Str}(h:(match expS (zT z).1 with|some r=>(r,false)|none=>zT z)=(r,true)):r=z:=by
 cases a:expS (zT z).1 with
 |some y=>grind
 |none=>rw[a]at h;exact XY h
theorem iT{z r:Str}{b:Bool}(h:(match expS z with|some r=>(r,false)|none=>(z,false))=(r,b)):r=z\/expS z=some r:=by
 grind
theorem XL{t:zb}{s r:Str}{P:List zb}(N:zfq t)(h:PcT s P)(b:MH t s r)(v:ql r=P):ShS s r:=by
 have M:P≠[]:=by cases h<;>simp
 have p:r≠[]:=by rintro rfl;rw[QG (ZX rfl)]at v;exact M v.symm
 have j:digB (atS s 0)=false->past digB s=s:=by
  intro i;cases s with
  |nil=>rfl
  |cons c q=>rw[past,show digB c=false from i];rfl
 rcases b with b|⟨_,b⟩|⟨R,Q,g,G⟩|⟨_,K,y,i,g,b⟩
 ·exact .inl b
 ·cases u:spB (atS s 0)with
  |true=> rw[zBm h u]at b;exact absurd b p
  |false=>
   left;rw[b];cases s with
   |nil=>rfl
   |cons c q=>rw[past,show spB c=false from u];rfl
 ·cases N with
  |cNum n f w E S=>
   have e:zy (numT n (!f)++s)=(r,f):=Q;have a:r=past digB s\/expS (past digB s)=some r:=by
    cases d:(partT (n.natAbs%1000) (!f)).isEmpty with
    |true=> left;rw[ED d]at e;rw[bF S]at d;subst d;exact uW e
    |false=> rw[KC d]at e;exact iT e
   cases i:digB (atS s 0)with
   |true=>
    rcases a with b|l
    ·exact RV h i b g G v
    ·exfalso;have o:unsign s=s:=by unfold unsign Jf;rw[Ga.2 (Qc i).1,Ga.2 (Qc i).2.1];rfl
     obtain⟨A,B,U,J,rfl,rfl,_,x⟩:=Gw h (by grind);obtain⟨z,O,_⟩:=Vx x;rw[<-o]at l;cases d:(partT (A.natAbs%1000) B).isEmpty with
     |true=>rw[bD U d,z,O]at l;cases l
     |false=>rw[aD U d,lS]at l;cases l
   |false=>
    rw[j i]at a;rcases a with b|l
    ·exact .inl b
    ·obtain⟨w,E,L⟩:=nK l;exact(SV h w E L v).elim
  |cId|cFn|cAt|cHash|cStr|cUrl|cDel|cPct|cDim=>simp at R
  |cMark k w E=>grind
 ·exfalso;have D:digB (atS (unsign s) 0)=true/\past digB (unsign (K++s))=past digB (unsign s):=by
   rcases y with rfl|rfl
   ·grind
   ·have m:digB (atS s 0)=true:=i;have o:unsign s=s:=by unfold unsign Jf;rw[Ga.2 (Qc m).1,Ga.2 (Qc m).2.1];rfl
    rw[o];exact⟨m,rfl⟩
  obtain⟨C,F⟩:=D;rw[F]at g b;obtain⟨A,B,U,J,rfl,rfl,_,x⟩:=Gw h C;obtain⟨z,_,H⟩:=Vx x;cases d:(partT (A.natAbs%1000) B).isEmpty with
  |true=>
   rw[bD U d,z]at g b;rcases H with rfl|rfl|⟨_,T⟩
   ·cases g
   ·cases g
   grind
  |false=>rw[aD U d,rQ]at g;cases g
abbrev cmtW:Str:=[47,42,42,47]
theorem eB{s:Str}{P:List zb}(h:PcT s P)(x:Str)(hx:atS x 0≠42):([47,42]:Str).isPrefixOf (s++x)=false:=by
 obtain⟨c,r,rfl⟩:=Gh (mh h);by_cases hc:c=47
 ·have:=Yx h (.inl rfl) hc;rw[this];cases x with
  |nil=>rfl
  |cons d t=>
   show((47==(47:UInt8))&&((42==d)&&_))=false;have:((42:UInt8)==d)=false:=Ga.2 (fun e=>hx e.symm)
   grind
 grind
theorem fw{s:Str}{P:List zb}(h:PcT s P):cmtS s=s:=by
 refine ZX ?_;have:=eB h [] (by decide)
 grind
theorem JC(x:Str):Zm (92::10::x)=(⟨9,[92],0,[],false⟩,10::x):=rfl
theorem VZ{l:Str}(g:l≠[])(h:Zp l=true)(f:lowS l=[117,114,108])(b:Bool)(w:Str):
  Zm (ZR l++40::((if b then [32]else [])++34::w))=(⟨2,l,0,[],false⟩,(if b then [32]else [])++34::w):=by
 have d:=Nw g ((if b then [32]else [])++34::w);have a:=yI h ((if b then [32]else [])++34::w);obtain⟨c,r,e⟩:=Gh (Yi d);rw[e]at d a ⊢;rw[qo,Gy d (by grind),Oh];unfold qh;rw[a];simp only;have i:atS (past spB ((40::((if b then [32]else [])++34::w)).drop 1)) 0=34:=by cases b<;>rfl
 rw[Ka (by rfl),f,i,Ja (by decide)];rfl
theorem yH{l:Str}(h:lowS l=[117,114,108]):l≠[]:=by rintro rfl;cases h
theorem fU(l m x:Str)(b:Bool):(ZR l++40::((if b then [32]else [])++34::(encB quoB m++[34])))++x=ZR l++40::((if b then [32]else [])++34::((encB quoB m++[34])++x)):=by
 grind
theorem NI{l m:Str}{b:Bool}(h:Zp l=true)(hl:lowS l=[117,114,108])(hm:Zp m=true)(x:Str):
  run ((ZR l++40::((if b then [32]else [])++34::(encB quoB m++[34])))++x) (⟨2,l,0,[],false⟩::((if b then [tkSp]else [])++[⟨5,m,0,[],false⟩])) x:=by
 rw[fU];have hf:=VZ (yH hl) h hl b ((encB quoB m++[34])++x);have hn:=Nw (yH hl) ((if b then [32]else [])++34::((encB quoB m++[34])++x));have hs: ∀q:Str,q=34::((encB quoB m++[34])++x)->run q [⟨5,m,0,[],false⟩] x:=by rintro q rfl;have:=KE hm x;rw[Ya]at this;exact⟨34,_,ZX rfl,by rw[this],by rw[this];rfl⟩
 obtain⟨c,r,e⟩:=Gh (Yi hn);rw[e]at hf hn ⊢;have hc:c≠47:=by rintro rfl;exact absurd (show hdB 47=true from Yn hn) (by decide)
 refine⟨c,r,ZX (cB (Ga.2 hc)),by rw[hf],?_⟩;rw[hf];cases b with
 |false=>exact hs _ rfl
 |true=> exact⟨32,34::((encB quoB m++[34])++x),ZX rfl,rfl,hs _ rfl⟩
theorem tH{s:Str}{P:List zb}(h:PcT s P){x:Str}(a:neu x):run (s++x) P x:=by
 cases h with
 |one t h d f=>
  have g:=jT h d f a;have i:=eB (.one t h d f) x (by rcases a with rfl|⟨y,rfl⟩;exact(show(0:UInt8)≠42 by decide);exact(show(47:UInt8)≠42 by decide));obtain⟨c,r,e⟩:=Gh (mh (.one t h d f));rw[e]at g i ⊢;exact⟨c,r++x,ZX i,by grind,by rw[show c::(r++x)=(c::r)++x from rfl,g];rfl⟩
 |back=> refine⟨92,10::x,ZX rfl,by rw[JC],?_⟩;rw[JC];refine⟨10,x,ZX rfl,rfl,?_⟩;show past spB x=x;exact yJ rfl a
 |url l m b h j k=>exact NI h j k x
theorem CS{u s r:Str}{p P:List zb}(hu:PcT u p)(hs:PcT s P)(hr:run (u++s) p r)(hT:ql r=P):ShS s r:=by
 cases hu with
 |one t h hb hu=>
  obtain⟨c,q,h1,h2,h3⟩:=hr;have hpu:PcT (txS t) [t]:= .one t h hb hu;rw[run]at h3;cases hp:([47,42]:Str).isPrefixOf (txS t++s)with
  |true=>
   exfalso;obtain⟨c0,r0,e⟩:=Gh (mh hpu);by_cases hc:c0=47
   ·have e2:=Yx hpu (.inl rfl) (by rw[e];exact hc);rw[e2]at hp h1;have h42:atS s 0=42:=by
     cases s with
     |nil=>cases hp
     |cons d t'=>
      have:((42:UInt8)==d)=true:=by have h':((47==(47:UInt8))&&((42==d)&&true))=true:=hp;simpa using h'
      exact(Ab.1 this).symm
    rw[Yx hs (.inr rfl) h42]at h1;have:cmtS ([47]++[42])=[]:=by rw[Mh];rfl
    grind
   grind
  |false=> rw[ZX hp]at h1;rw[<-h1]at h2 h3;have:=wW h hu h2;rw[h3]at this;exact XL h hs this hT
 |back=> obtain⟨c,q,h1,h2,h3⟩:=hr;rw[show cmtS ([92,10]++s)=92::10::s from ZX rfl]at h1;injection h1 with e1 e2;subst e1 e2;rw[JC]at h3;obtain⟨c',q',g1,g2,g3⟩:=h3;rw[show cmtS (10::s)=10::s from ZX rfl]at g1;injection g1 with e1 e2;subst e1 e2;rw[run]at g3;have g3':past spB s=r:=g3;exact XL (t:=tkSp) (.cMark 13 (by omega) (by omega)) hs (.inr (.inl ⟨rfl,g3'.symm⟩)) hT
 |url l m b h hl hm=>exact .inl (fI hr (NI h hl hm s))
def Lk(R A:Str):Prop:=cmtS R=A\/ ∃d y,digB d=true/\A=48::46::d::y/\cmtS R=46::d::y
theorem bn{R A:Str}(h:Lk R A)(a:A≠[]):cmtS R≠[]:=by
 rcases h with h|⟨d,y,_,_,h⟩
 ·rw[h];exact a
 ·rw[h];simp
theorem EI{R A x:Str}(h:Lk R A)(b:A≠[])(c:([47,42]:Str).isPrefixOf (A++x)=false):Lk (R++x) (A++x):=by
 rcases h with h|⟨d,y,a,rfl,h⟩
 ·left;rw[Rt (by rw[h];exact b) (by rw[h];exact c),h]
 ·right;exact⟨d,y++x,a,rfl,by rw[Rt (by rw[h];simp) (by rw[h];rfl),h];rfl⟩
theorem BI{R A:Str}(h:Lk R A)(g:([47,42]:Str).isPrefixOf A=false){t:zb}{ts:List zb}{r:Str}:run R (t::ts) r↔run A (t::ts) r:=by
 rcases h with h|⟨d,y,f,rfl,h⟩
 ·rw[<-gI (q:=R) (by simp),h]
 ·rw[<-gI (q:=R) (by simp),h];constructor
  ·rintro⟨c,q,a,e,b⟩;rw[ZX rfl]at a;rw[<-a]at e b;exact⟨48,46::d::y,ZX rfl,by rw[bz d y f];exact e,by rw[bz d y f];exact b⟩
  ·rintro⟨c,q,a,e,b⟩;rw[ZX rfl]at a;rw[<-a,bz d y f]at e b;exact⟨46,d::y,ZX rfl,e,b⟩
theorem CJ{R A:Str}(h:Lk R A):ql R=ql A:=by
 rcases h with h|⟨d,y,a,rfl,h⟩
 ·rw[<-Jp R,h]
 ·rw[<-Jp R,h,Qu (ZX rfl),Qu (l:=48::46::d::y) (ZX rfl),bz d y a]
inductive Syn:Str->List zb->List (List zb×Str)->Prop
 |nil:Syn [] [] []
 |cmt (b s:Str) (ts P:List zb) (st:List (List zb×Str)) (h:Syn b ts st) (hb:b≠[]) (hp:PcT s P):Syn (b++cmtW++s) (ts++P) (st++[(ts,b++cmtW)])
 |no (b s:Str) (ts P:List zb) (st:List (List zb×Str)) (h:Syn b ts st) (hp:PcT s P) (ht:ql (b++s)=ts++P):Syn (b++s) (ts++P) (st++[(ts,b)])
def Bd(b:Str)(ts L:List zb)(B:Str)(m:Nat):Prop:= ∃A R a,b=B++A/\A≠[]/\ts=L++a/\a≠[]/\run b L R/\Lk R A/\m<=R.length/\m<=A.length
structure zzQ (b:Str) (ts:List zb) (st:List (List zb×Str)):Prop where
 tok:ql b=ts
 bd: ∀k (h:k<st.length),Bd b ts st[k].1 st[k].2 (st.length - k)
 last:(st=[]/\b=[]/\ts=[])\/ ∃L B u p R,PcT u p/\b=B++u/\ts=L++p/\run b L R/\Lk R u
theorem pc_P{s:Str}{P:List zb}(h:PcT s P): ∃t us,P=t::us:=by cases h<;>exact⟨_,_,rfl⟩
theorem YH {b x:Str} {ts P L:List zb} {B:Str} {m:Nat} (h:Bd b ts L B m) (hx:x≠[])
  (hrun: ∀R,R≠[]->run b L R->(∃A,A≠[]/\Lk R A/\b=B++A)->run (b++x) L (R++x)/\(∀A,A≠[]->Lk R A->b=B++A->Lk (R++x) (A++x))):Bd (b++x) (ts++P) L B (m+1):=by
 obtain⟨A,R,us,h1,h2,h3,h4,h5,h6,h7,h8⟩:=h;have hR:R≠[]:=by intro e;have:=bn h6 h2;rw[e]at this;exact this (ZX rfl)
 obtain⟨g1,g2⟩:=hrun R hR h5 ⟨A,h2,h6,h1⟩;refine⟨A++x,R++x,us++P,by grind,by simp[h2],by grind,by simp[h4],g1,g2 A h2 h6 h1,?_⟩;have:=Ce.2 hx
 grind
theorem UH{q:Str}(h:cmtS q=[47]):cmtS (q++[42])=[]:=by
 rw[Mh q]at h;cases a:([47,42]:Str).isPrefixOf q with
 |true=>
  have b:=Vh a;rw[show([47,42]:Str).length=2 from rfl]at b;rw[a,Ka rfl]at h;cases c:clsS (q.drop 2)with
  |none=>grind
  |some p=>
   rw[c]at h;have d:p.length<q.length:=by have d:=(Cj _ c).2;rw[ib]at d;omega
   rw[Mh,Ep [42] (by exact b),a,Ka rfl,Yp b,KD [42] c];exact UH h
 |false=> rw[a,Ja (by decide)]at h;subst h;rw[Mh];rfl
termination_by q.length
theorem yR{q s:Str}{P us:List zb}(hs:PcT s P)(h:NH q s us)(hus:us≠[]):False:=by
 obtain⟨c,r,_,⟨⟨e,fl,hee,hw⟩,h43,hk,hds⟩,hsame,hT⟩:=h;have hbr:=Kk c (r++s);rw[hsame,hk]at hbr;have hbr':brS c (r++s)=3:=hbr.symm;have hnx:Zm (c::(r++s))=zB ((c::r)++s):=by rw[qo,hbr',jh];rfl
 have hq2:Ff (c::r)≠[]:=by intro e2;rw[e2]at hw;cases congrArg Prod.fst hw
 have e2:Ff ((c::r)++s)=Ff (c::r)++s:=by unfold Ff;rw[(ak s (by simp)).1];exact Ij s hq2
 have hw2:=(wL (q:=Ff (c::r)) (x:=s) (by rw[hw];simp) (fun e3=>by
  rw[e3]at hw;have:=congrArg Prod.fst hw;cases this)).1
 have hexp:expS ([e,43]++s)=some (past digB s):=by
  unfold expS;have h1:(atS ([e,43]++s) 0==101||atS ([e,43]++s) 0==69)=true:=by rcases hee with rfl|rfl<;>rfl
  have h2:unsign (([e,43]++s).drop 1)=s:=rfl;rw[h1,Ka rfl,h2,hds,Ka rfl]
 have hend:zy ((c::r)++s)=(past digB s,false):=by rw[Qd,e2,hw2,hw];simp only[hexp]
 have hk2:(zB ((c::r)++s)).1.kind=12:=by rw[<-hnx,hsame,hk]
 rw[hnx]at hT;unfold zB at hk2 hT;rw[hend]at hk2 hT;simp only at hk2 hT;have hun:unsign s=s:=by unfold unsign Jf;rw[Ga.2 (Qc hds).1,Ga.2 (Qc hds).2.1];rfl
 cases hn:nmS (past digB s)with
 |false=>
  grind
 |true=>
  rw[hn,Ka rfl]at hT;obtain⟨n2,p2,U,t2,_,rfl,_,hU⟩:=Gw hs (by grind);obtain⟨u1,_,u3⟩:=Vx hU;rw[<-hun]at hn hT;cases hp:(partT (n2.natAbs%1000) p2).isEmpty with
  |true=>
   rw[bD U hp,u1]at hn hT;rcases u3 with rfl|rfl|⟨_,hu⟩
   ·cases hn
   ·cases hn
   ·rw[hu,QG (ZX rfl)]at hT;exact hus hT.symm
  |false=>rw[aD U hp,rQ]at hn;cases hn
theorem wQ{R A:Str}(h:Lk R A)(b:A≠[])(y:Str):Lk (R++47::42::y) (A++47::42::y):=by
 rcases h with h|⟨d,z,a,rfl,h⟩
 ·left;rw[aC y (by rw[h];exact b),h]
 ·right;exact⟨d,z++47::42::y,a,rfl,by rw[aC y (by rw[h];simp),h];rfl⟩
theorem pW{s:Str}{P:List zb}(h:PcT s P):cmtS (47::42::42::47::s)=s:=by rw[Mh];exact fw h
theorem WI{s:Str}{P:List zb}(h:PcT s P):ql s=P:=by have:=Pp (tH h (x:=[]) (.inl rfl));rw[Xa,QG (ZX rfl),Xa]at this;exact this
theorem GZ{α:Type}{l a:List α}(h:l++a=l):a=[]:=by simp_all
theorem zA5{b:Str}{ts:List zb}{st:List (List zb×Str)}(h:Syn b ts st):zzQ b ts st:=by
 induction h with
 |nil=>exact⟨QG (ZX rfl),fun k h=>(by cases h), .inl ⟨rfl,rfl,rfl⟩⟩
 |cmt b s ts P st h hb hp ih=>
  obtain⟨ht,hbd,hl⟩:=ih;have hx:b++cmtW++s=b++47::42::(42::47::s):=by rw[Oa];rfl
  obtain⟨t0,us0,hP0⟩:=pc_P hp;have hrun:run (b++47::42::(42::47::s)) ts (47::42::(42::47::s)):=by
   rcases hl with⟨_,e,_⟩|⟨L,B,u,p,R,g1,g2,g3,g4,g5⟩
   ·exact absurd e hb
   ·have hR:R≠[]:=by intro e;have:=bn g5 (mh g1);rw[e]at this;exact this (ZX rfl)
    obtain⟨t1,us1,hp1⟩:=pc_P g1;rw[g3];refine yE (DC (42::47::s) g4 hR) ?_;have h1:=tH g1 (x:=47::42::(42::47::s)) (.inr ⟨_,rfl⟩);rw[hp1]at h1 ⊢;exact(BI (wQ g5 (mh g1) (42::47::s)) (eB g1 _ (by show(47:UInt8)≠42;decide))).2 h1
  have hlk:Lk (47::42::(42::47::s)) s:= .inl (pW hp);rw[hx];refine⟨?_,?_, .inr ⟨ts,b++cmtW,s,P,_,hp,by grind,rfl,hrun,hlk⟩⟩
  ·rw[Pp hrun,CJ hlk,WI hp]
  ·intro k hk;rw[Ha,Bb]at hk;by_cases hk2:k<st.length
   ·rw[List.getElem_append_left hk2];have:=YH (P:=P) (x:=47::42::(42::47::s)) (hbd k hk2) (by simp) (fun R hR h5 _=>⟨DC _ h5 hR,fun A hA h6 _=>wQ h6 hA _⟩)
    grind
   ·have hke:k=st.length:=by omega
    subst hke;rw[List.getElem_append_right (by omega)];simp only[Nat.sub_self,List.getElem_cons_zero];refine⟨s,_,P,by grind,mh hp,rfl,by rw[hP0];simp,hrun,hlk,?_⟩;have:=Ce.2 (mh hp)
    grind
 |no b s ts P st h hp ht0 ih=>
  obtain⟨ht,hbd,hl⟩:=ih;obtain⟨t0,us0,hP0⟩:=pc_P hp;have hPne:P≠[]:=by rw[hP0];simp
  have hsne:=mh hp
  -- what is ahead stays
  have keep: ∀(L us:List zb) (R:Str),ts=L++us->R≠[]->run b L R->run (b++s) L (R++s):=by
   intro L us R hts hR hrun;rcases mJ (us:=us++P) hrun hR hsne (by grind)with h1|⟨_,q,_,h1⟩
   ·exact h1
   ·exact(yR hp h1 (by simp[hPne])).elim
  have keepLk: ∀(L us:List zb) (R A:Str),ts=L++us->run (b++s) L (R++s)->A≠[]->Lk R A->Lk (R++s) (A++s):=by
   intro L us R A hts hrun hA hlk;cases hpre:([47,42]:Str).isPrefixOf (A++s)with
   |false=>exact EI hlk hA hpre
   |true=>
    exfalso;rcases hlk with h1|⟨d,y,_,rfl,_⟩
    ·cases A with
     |nil=>exact hA rfl
     |cons c r=>
      cases r with
      |cons d t=>
       have:=Jt R
       grind
      |nil=>
       have hc:c=47:=by
        cases hcc:(47:UInt8)==c with
        |true=>grind
        |false=>
         grind
       subst hc;have h42:s=[42]:=by
        refine Yx hp (.inr rfl) ?_;cases s with
        |nil=>grind
        |cons d t=>
         have h':(((47:UInt8)==47)&&(((42:UInt8)==d)&&true))=true:=hpre;have:((42:UInt8)==d)=true:=by simpa using h'
         exact(Ab.1 this).symm
       have h3:=Pp hrun;rw[ht0,hts,h42,QG (UH h1),Xa,Oa]at h3;have:=GZ h3;simp_all
    ·cases hpre
  rcases hl with⟨e1,e2,e3⟩|⟨L,B,u,p,R,g1,g2,g3,g4,g5⟩
  ·subst e1 e2 e3;refine⟨ht0,?_, .inr ⟨[],[],s,P,s,hp,rfl,rfl,rfl, .inl (fw hp)⟩⟩;intro k hk;have hke:k=0:=by rw[Ha,Bb,Kb]at hk;omega
   subst hke;exact⟨s,s,P,rfl,hsne,rfl,hPne,rfl, .inl (fw hp),Ce.2 hsne,Ce.2 hsne⟩
  ·have hR:R≠[]:=by intro e;have:=bn g5 (mh g1);rw[e]at this;exact this (ZX rfl)
   have h1:=keep L p R g3 hR g4;have h2:=keepLk L p R u g3 h1 (mh g1) g5;have h3:=Pp h1;rw[ht0,g3,Oa]at h3;have h4:=List.append_cancel_left h3;obtain⟨r,h5,h6⟩:=bJ h4.symm;have hsh:ShS s r:=by
    obtain⟨t1,us1,hp1⟩:=pc_P g1;refine CS g1 hp ?_ h6;have hpre:([47,42]:Str).isPrefixOf (u++s)=false\/cmtS (R++s)=[]:=by
     rcases h2 with h2|⟨d,y,hd,h2,_⟩
     ·left;rw[<-h2];exact Jt _
     ·grind
    rcases hpre with hpre|hpre
    ·rw[hp1]at h5 ⊢;exact(BI h2 hpre).1 h5
    ·rw[hp1]at h5;obtain⟨c,q,e,_⟩:=h5
     grind
   have hrun:run (b++s) ts r:=by rw[g3];exact yE h1 h5
   have hlk:Lk r s:=by
    rcases hsh with rfl|⟨d,y,hd,e1,e2⟩
    ·exact .inl (fw hp)
    ·right;exact⟨d,y,hd,e1,by rw[e2];exact ZX rfl⟩
   have hrl:1<=r.length:=by
    rcases hsh with rfl|⟨d,y,_,_,e2⟩
    ·grind
    ·rw[e2];simp
   refine⟨ht0,?_, .inr ⟨ts,b,s,P,r,hp,rfl,rfl,hrun,hlk⟩⟩;intro k hk;rw[Ha,Bb]at hk;by_cases hk2:k<st.length
   ·rw[List.getElem_append_left hk2];obtain⟨A0,R0,us,f1,f2,f3,f4,f5,f6,f7,f8⟩:=hbd k hk2;have:=YH (P:=P) (x:=s) ⟨A0,R0,us,f1,f2,f3,f4,f5,f6,f7,f8⟩ hsne (fun R hR h5 _=>⟨keep _ us R f3 hR h5,fun A hA h6 _=>keepLk _ us R A f3 (keep _ us R f3 hR h5) hA h6⟩)
    grind
   ·have hke:k=st.length:=by omega
    subst hke;rw[List.getElem_append_right (by omega)];simp only[Nat.sub_self,List.getElem_cons_zero];refine⟨s,r,P,rfl,hsne,rfl,hPne,hrun,hlk,?_⟩;have:=Ce.2 hsne
    grind
def pcN:List zb->Nat
 |[]=>0
 |t::r=>if t.kind==9&&t.text==[92]then 2 else if df t then(if pg r then 3 else 2)else 1
def catT:List zb->Str
 |[]=>[]
 |t::r=>txS t++catT r
def pcS:List zb->Str
 |[]=>[]
 |t::r=>if t.kind==9&&t.text==[92]then [92,10]else catT (t::r)
theorem vI{t:zb}(h:Nf t=true)(a:(t.kind==13)=true):t=tkSp:=by
 rw[Ab]at a;cases Yl h with
 |cId|cFn|cAt|cHash|cStr|cUrl|cDel|cNum|cPct|cDim=>simp at a
 |cMark k c b=>grind
theorem GI{t:zb}(h:Nf t=true)(a:(t.kind==5)=true): ∃m,Zp m=true/\t=⟨5,m,0,[],false⟩:=by
 rw[Ab]at a;cases Yl h with
 |cStr l b=>grind
 |cId|cFn|cAt|cHash|cUrl|cDel|cNum|cPct|cDim=>simp at a
 |cMark k d c=>grind
theorem zAb{t:zb}(h:Nf t=true)(a:(t.kind==9&&t.text==[92])=true):t=⟨9,[92],0,[],false⟩:=by
 rw[Ea,Ab,Ab]at a;cases Yl h with
 |cDel c h=>grind
 |cId|cFn|cAt|cHash|cStr|cUrl|cNum|cPct|cDim=>simp at a
 |cMark k d b=>grind
theorem JX{t:zb}(h:Nf t=true)(a:df t=true): ∃l,Zp l=true/\lowS l=[117,114,108]/\t=⟨2,l,0,[],false⟩:=by
 unfold df at a;rw[Ea,Ab,Ab]at a;cases Yl h with
 |cFn l d c=>grind
 |cId|cAt|cHash|cStr|cUrl|cDel|cNum|cPct|cDim=>simp at a
 |cMark k b e=>grind
theorem zBk{t:zb}(h:(t.kind==9&&t.text==[92])=false): ¬(t.kind=9/\t.text=[92]):=by
 grind
theorem Vp(t:zb)(r:List zb):pcN (t::r)=if t.kind==9&&t.text==[92]then 2 else if df t then(if pg r then 3 else 2)else 1:=rfl
theorem lF(t:zb)(r:List zb):okAt (t::r)=((!(t.kind==9&&t.text==[92])||pg r)&&(!(df t)||Wi r)):=rfl
theorem Jq(s:zb)(r:List zb):Wi (s::r)=(bif s.kind==13 then(match r with|u::_=>u.kind==5|[]=>false)else s.kind==5):=rfl
theorem zBl{t:zb}{r:List zb}(e: ∀u∈t::r,Nf u=true)(d:okAt (t::r)=true): ∃P Q,t::r=P++Q/\P.length=pcN (t::r)/\PcT (pcS P) P:=by
 have c:=e t (Vb ..);rw[lF,Ea]at d;rw[Vp];cases h:t.kind==9&&t.text==[92]with
 |true=>
  rw[h,Db,Jc]at d;rw[Ka rfl];cases r with
  |nil=>cases d.1
  |cons s r=> have g:=vI (e s (by simp)) d.1;have p:=zAb c h;subst g p;exact⟨[⟨9,[92],0,[],false⟩,tkSp],r,rfl,rfl, .back⟩
 |false=>
  rw[Ja (by decide)];cases j:df t with
  |false=>
   rw[Ja (by decide)];have f:pcS [t]=txS t:=by show(if(t.kind==9&&t.text==[92])=true then [92,10]else txS t++[])=_;rw[h,Ja (by decide),Xa]
   exact⟨[t],r,rfl,rfl,by rw[f];exact .one t (Yl c) (zBk h) j⟩
  |true=>
   rw[Ka rfl];rw[j,Db,Jc]at d;obtain⟨l,n,o,rfl⟩:=JX c j;have a:=d.2;have b: ∀m:Str,txS ⟨5,m,0,[],false⟩++[]=34::(encB quoB m++[34]):=fun m=>by rw[aj,Xa]
   cases r with
   |nil=>cases a
   |cons s r=>
    cases g:s.kind==13 with
    |false=>
     rw[Jq,g,Ba]at a;obtain⟨m,i,rfl⟩:=GI (e s (by simp)) a;rw[show pg (⟨5,m,0,[],false⟩::r)=false from rfl,Ja (by decide)];refine⟨[⟨2,l,0,[],false⟩,⟨5,m,0,[],false⟩],r,rfl,rfl,?_⟩;have f:pcS [⟨2,l,0,[],false⟩,⟨5,m,0,[],false⟩]=ZR l++40::((if false then [32]else [])++34::(encB quoB m++[34])):=by show txS ⟨2,l,0,[],false⟩++(txS ⟨5,m,0,[],false⟩++[])=_;rw[b,Xi,Oa];rfl
     rw[f];exact .url l m false n o i
    |true=>
     have k:=vI (e s (by simp)) g;subst k;cases r with
     |nil=>cases a
     |cons u r=>
      obtain⟨m,i,rfl⟩:=GI (e u (by simp)) a;rw[show pg (tkSp::⟨5,m,0,[],false⟩::r)=true from rfl,Ka rfl];refine⟨[⟨2,l,0,[],false⟩,tkSp,⟨5,m,0,[],false⟩],r,rfl,rfl,?_⟩;have f:pcS [⟨2,l,0,[],false⟩,tkSp,⟨5,m,0,[],false⟩]=ZR l++40::((if true then [32]else [])++34::(encB quoB m++[34])):=by show txS ⟨2,l,0,[],false⟩++(txS tkSp++(txS ⟨5,m,0,[],false⟩++[]))=_;rw[b,Xi,show txS tkSp=[32]from rfl,Oa];rfl
      rw[f];exact .url l m true n o i
theorem SX{t:zb}{r:List zb}(h:t.text.length<=big)(a:okAt (t::r)=true):QA (t::r)=some ((pcN (t::r):Nat):Int):=by
 have m:geti (t::r) 0=some t:=rfl;have k:=Gp (t::r) 1 13;have e:=Gp (t::r) 1 5;have b:=Gp (t::r) 2 5;unfold QA;simp only[m,ze,Aa,OG h (show([117,114,108]:Str).length<=big by decide),Xo,Qy];simp only[Int.natCast_one]at k e;replace b:ZJ ((2,5),t::r)=_:=b;have g:ZJ ((1,13),t::r)=some (pg r):=by rw[k];cases r<;>rfl
 rw[g];rw[lF]at a;unfold df at a;rw[Vp];unfold df;cases j:(t.kind==9&&t.text==[92])with
 |true=>
  grind
 |false=>
  have n:(bif t.kind==9 then t.text==[92]else false)=false:=by
   cases o:t.kind==9
   ·rfl
   ·grind
  simp only[n,j,Ba,ma,Wd,Eb];rw[j,ma,Wd,Eb]at a;cases f:(t.kind==2&&lowS t.text==[117,114,108])with
  |false=>
   grind
  |true=>
   rw[f,Db,Jc]at a;rw[Ea]at f;rw[f.1,f.2];simp only[Ca,Aa];cases r with
   |nil=>cases a
   |cons s r=>
    cases d:s.kind==13 with
    |false=>
     have i:pg (s::r)=false:=d;have l:ZJ ((1,5),t::s::r)=some (s.kind==5):=e;have c:(s.kind==5)=true:=by rw[Jq,d]at a;exact a
     simp only[i,Ba,zh,l,Aa,c,Db];rfl
    |true=>
     have i:pg (s::r)=true:=d;simp only[i,Ca,zh,b,Aa];cases r with
     |nil=>rw[Jq,d]at a;cases a
     |cons u r=>
      have c:(u.kind==5)=true:=by rw[Jq,d]at a;exact a
      show(bif !(u.kind==5)then some 0 else some (w64 (2+1)))=some 3;rw[c];rfl
def clB(l:Str):Bool:=l.all fun c=> !(c==0||c==12||c==13)
theorem Qi(a b:Str):clB (a++b)=(clB a&&clB b):=by unfold clB;grind
theorem AL: ∀l:Str,clB l=true->Proofs.Cl.cleanS l=l
 |[],_=>by rw[Proofs.Cl.cleanS]
 |c::r,h=>by
  unfold clB at h;rw[Uc,Ea]at h;have e:=AL r h.2;have d:(c==0||c==12||c==13)=false:=by simpa using h.1
  rw[Re,Re]at d;obtain⟨⟨f,a⟩,b⟩:=d;rw[Proofs.Cl.cleanS,f,a,b,e]
  ·rfl
  grind
theorem Jk(c:UInt8):clB (escC c)=true/\(letB c=true->clB [c]=true)/\(c≠0->quoB c=false->clB [c]=true)/\(c≠0->urB c=false->clB [c]=true)/\(vg c.toNat=true->clB [c]=true)/\(digB c=true->clB [c]=true):=by
 have: ∀n:Nat,n<256->clB (escC (UInt8.ofNat n))=true/\(letB (UInt8.ofNat n)=true->clB [UInt8.ofNat n]=true)/\(UInt8.ofNat n≠0->quoB (UInt8.ofNat n)=false->clB [UInt8.ofNat n]=true)/\(UInt8.ofNat n≠0->urB (UInt8.ofNat n)=false->clB [UInt8.ofNat n]=true)/\(vg (UInt8.ofNat n).toNat=true->clB [UInt8.ofNat n]=true)/\(digB (UInt8.ofNat n)=true->clB [UInt8.ofNat n]=true):=by decide+kernel
 have:=this c.toNat (aa c);simp_all
theorem Ik(dash:Bool): ∀(k:Nat) (l:Str),clB (encW dash k l)=true
 |_,[]=>by rw[encW];rfl
 |k,c::r=>by
  obtain⟨b,a,_⟩:=Jk c;rw[encW,Qi,Ik dash (k - 1) r,Ib];unfold pcW
  grind
theorem Ey{p:UInt8->Bool}(a: ∀c,c≠0->p c=false->clB [c]=true): ∀l:Str,Zp l=true->clB (encB p l)=true
 |[],_=>by rw[encB];rfl
 |c::r,h=>by
  obtain⟨e,d⟩:=QB h;rw[encB,Qi,Ey a r d,Ib];cases b:p c with
  |true=>exact(Jk c).1
  |false=>exact a c e b
theorem VH{l:Str}(h:l.all digB=true):clB l=true:=by
 induction l with
 |nil=>rfl
 |cons c r a=> rw[Uc,Ea]at h;rw[show c::r=[c]++r from rfl,Qi,(Jk c).2.2.2.2.2 h.1,a h.2];rfl
theorem cl_T(n:Int)(p:Bool):clB (numT n p)=true:=by
 obtain⟨a,_,_⟩:=Yo (n.natAbs / 1000);have c:=wE (n:=n) (p:=p);rw[Xr,Qi,Qi,VH a];have b:clB (sgT n)=true:=by unfold sgT;split<;>rfl
 rw[b];cases (partT (n.natAbs%1000) p).isEmpty with
 |true=>rfl
 |false=> show clB (46::partT (n.natAbs%1000) p)=true;rw[show 46::partT (n.natAbs%1000) p=[46]++partT (n.natAbs%1000) p from rfl,Qi,VH c];rfl
theorem gT(w:Str):clB (Tf w)=true:=by
 cases w with
 |nil=>rfl
 |cons c r=>
  rw[Q5];cases Jh (c::r)with
  |true=>rw[Ca,Qi,(Jk c).1,Ik];rfl
  |false=>exact Ik _ _ _
theorem LB{s:Str}{P:List zb}(h:PcT s P):clB s=true:=by
 cases h with
 |one t h hb hu=>
  cases h with
  |cId l h0 h=>rw[Al];exact Ik _ _ _
  |cFn l h0 h=>rw[Xi,Qi];rw[show clB (ZR l)=true from Ik _ _ _];rfl
  |cAt l h0 h=>rw[Bl,show 64::ZR l=[64]++ZR l from rfl,Qi,show clB (ZR l)=true from Ik _ _ _];rfl
  |cHash l f h0 h hbb=>
   rw[Am,show 35::Og f l=[35]++Og f l from rfl,Qi];have:clB (Og f l)=true:=by cases f<;>exact Ik _ _ _
   rw[this];rfl
  |cStr l h=>rw[aj,show 34::(encB quoB l++[34])=[34]++(encB quoB l++[34])from rfl,Qi,Qi,Ey (fun c h0 hc=>(Jk c).2.2.1 h0 hc) l h];rfl
  |cUrl l h=>rw[Ml,Qi,Qi,Ey (fun c h0 hc=>(Jk c).2.2.2.1 h0 hc) l h];rfl
  |cDel c h=>rw[Sl];exact(Jk c).2.2.2.2.1 h
  |cNum n f h1 h2 hf=>rw[Ol];exact cl_T _ _
  |cPct n h1 h2=>rw[Nl,Qi,cl_T];rfl
  |cDim n u f h1 h2 hf h0 h=>rw[Rl,Qi,cl_T,gT];rfl
  |cMark k h1 h2=> rw[yl h1 h2];rcases Wo h1 h2 with rfl|rfl|rfl|rfl|rfl|rfl|rfl|rfl|rfl|rfl|rfl|rfl<;>rfl
 |back=>rfl
 |url l m b h hl hm=> rw[Qi,show clB (ZR l)=true from Ik _ _ _,show∀z:Str,40::z=[40]++z from fun _=>rfl,Qi,Qi,show∀z:Str,34::z=[34]++z from fun _=>rfl,Qi,Qi,Ey (fun c h0 hc=>(Jk c).2.2.1 h0 hc) m hm];cases b<;>rfl
theorem wS{b:Str}{ts:List zb}{st:List (List zb×Str)}(h:Syn b ts st):clB b=true:=by
 induction h with
 |nil=>rfl
 |cmt b s ts P st h e c a=>rw[Qi,Qi,a,LB c];rfl
 |no b s ts P st h c d a=>rw[Qi,a,LB c];rfl
def tokB(x y:zb):Bool:=x.kind==y.kind&&(x.text==y.text&&(x.num==y.num&&(x.unit==y.unit&&(x.flag==y.flag&&true))))
def Yf:List zb->List zb->Bool
 |[],[]=>true
 |x::l,y::m=>tokB x y&&Yf l m
 |_,_=>false
theorem gY(x y:zb)(l m:List zb):Yf (x::l) (y::m)=(tokB x y&&Yf l m):=rfl
theorem kU{x y:zb}:tokB x y=true↔x=y:=by
 obtain⟨a,b,c,d,e⟩:=x;obtain⟨j,f,g,i,h⟩:=y;unfold tokB
 grind
theorem Vm: ∀{l m:List zb},Yf l m=true↔l=m
 |[],[]=>by simp[Yf]
 |x::l,y::m=>by rw[Yf,Ea,kU,Vm,List.cons.injEq]
 |[],y::m=>by simp[Yf]
 |x::l,[]=>by simp[Yf]
theorem Kz{l m:List zb}(h:l.length≠m.length):Yf l m=false:=by
 cases a:Yf l m with
 |false=>rfl
 |true=>rw[Vm.1 a]at h;grind
theorem TF {l m:List zb} (hl:l.length=m.length) (hn:l.length<=big) {step:Int->Option (LO Int Unit Bool)}
  (h1: ∀(i:Nat) (h:i<l.length),step (i:Int)=bif !(tokB l[i] (m[i]'(hl▸h)))then some (.ret false)else some (.again (w64 ((i:Int)+1))))
  (h2:step (l.length:Int)=some (.out ())):Zg step 0 (fun _=>some true)=some (Yf l m):=by
 have hb:big=4194304:=rfl;refine QM (fun s=> ∃i:Nat,i<=l.length/\s=(i:Int)/\Yf (l.drop i) (m.drop i)=Yf l m) (fun s=>l.length - s.toNat) _ ?_ ⟨0,by omega,rfl,rfl⟩;rintro _ ⟨i,hi,rfl,he⟩;rcases Yc i l.length with h|h
 ·rw[h1 i h];have hm:i<m.length:=hl▸h;rw[show l.drop i=l[i]::l.drop (i+1)from ja h,show m.drop i=m[i]::m.drop (i+1)from ja hm,gY]at he;cases ht:tokB l[i] (m[i]'(hl▸h))with
  |true=> rw[ht,Eb]at he;rw[Db,Ba,zK (by omega) (by omega)];exact .inl ⟨_,rfl,⟨i+1,by omega,by omega,he⟩,by omega⟩
  |false=>
   grind
 ·have:i=l.length:=by omega
  subst this;rw[jd (Va _),jd (by omega)]at he;exact .inr (.inl ⟨(),h2,by rw[<-he];rfl⟩)
theorem jr{α:Type}{l:List α}{i:Nat}(h:i<l.length):geti l (i:Int)=some l[i]:=Z8 h
theorem int_ne{n m:Nat}:(((n:Int) != (m:Int)):Bool)= !(n==m):=by
 grind
theorem PX{l m:List zb}(d:l.length<=big):qd (l,m)=some (Yf l m):=by
 unfold qd;rw[int_ne];cases b:l.length==m.length with
 |false=>rw[ma,Ca,Kz (Ga.1 b)]
 |true=>
  rw[Db,Ba];have a:=Ab.1 b;refine TF a d (fun i h=> ?_) ?_
  ·have c:i<m.length:=a▸h;have e:decide ((i:Int)<(l.length:Int))=true:=Fa (by omega);simp only[e,Ca,jr h,jr c,ze,Aa];rfl
  grind
theorem same_eq{l m:List zb}(e:l.length<=big):um (l,m)=some (Yf l m):=by
 unfold um;rw[int_ne];cases c:l.length==m.length with
 |false=>rw[ma,Ca,Kz (Ga.1 c)]
 |true=>
  rw[Db,Ba];have a:=Ab.1 c;refine TF a e (fun i h=> ?_) ?_
  ·have b:i<m.length:=a▸h;have f:decide ((i:Int)<(l.length:Int))=true:=Fa (by omega);have d:decide ((0:Int)<=(i:Int))=true:=Fa (by omega);have g:decide ((i:Int)<(m.length:Int))=true:=Fa (by omega);simp only[f,d,g,Ca,jr h,jr b,ze,Aa,Ra,Sa h,Sa b];rfl
  grind
def wrF:Nat->List zb->Str->List zb->Str
 |0,_,b,_=>b
 |_+1,_,b,[]=>b
 |n+1,a,b,t::r=>
  wrF n (a++(t::r).take (pcN (t::r))) ((if Yf (ql (b++pcS ((t::r).take (pcN (t::r))))) (a++(t::r).take (pcN (t::r)))then b else b++cmtW)++pcS ((t::r).take (pcN (t::r)))) ((t::r).drop (pcN (t::r)))
def wrS(l:List zb):Str:=wrF l.length [] [] l
theorem MI: ∀(n:Nat) (ts:List zb) (b:Str) (r:List zb),b.length<=(wrF n ts b r).length
 |0,_,_,_=>Va _
 |_+1,_,_,[]=>Va _
 |n+1,ts,b,t::r=>by
  rw[wrF];refine Ic ?_ (MI n _ _ _)
  grind
def Vl(l:List zb):Prop:=(∀t∈l,Nf t=true/\t.text.length<=5000/\t.unit.length<=5000)/\ ∀k,k<l.length->okAt (l.drop k)=true
theorem dL{l:List zb}(h:Vl l)(n:Nat):Vl (l.drop n):=by refine⟨fun t b=>h.1 t (List.mem_of_mem_drop b),fun k a=> ?_⟩;rw[ib]at a;rw[Ae];exact h.2 (n+k) (by omega)
theorem YD{t:zb}{r:List zb}:1<=pcN (t::r):=by rw[Vp];grind
theorem XI{t:zb}{r:List zb}:pcN (t::r)<=3:=by rw[Vp];grind
theorem jI{t:zb}{r:List zb}(h:Vl (t::r)):pcN (t::r)<=(t::r).length/\PcT (pcS ((t::r).take (pcN (t::r)))) ((t::r).take (pcN (t::r))):=by
 obtain⟨P,Q,d,c,b⟩:=zBl (fun u a=>(h.1 u a).1) (h.2 0 (by simp))
 grind
theorem zBa{t:zb}(e:Nf t=true)(g:t.text.length<=5000)(h2:t.unit.length<=5000):(txS t).length<=20100:=by
 have i: ∀l:Str,l.length<=5000->(ZR l).length<=20000:=fun l p=>by have:=Gi (l==[45]) (ZP l) l;unfold ZR;omega
 cases Yl e with
 |cId l d h=>rw[Al];grind
 |cFn l d h=>rw[Xi,Ha];grind
 |cAt l d h=>rw[Bl,Ia];grind
 |cHash l f d h j=>
  rw[Am,Ia];have s:=i l g;have o:=Gi false 0 l;have m:l.length<=5000:=g;cases f with
  |true=>rw[show Og true l=ZR l from rfl];omega
  |false=>rw[show Og false l=encW false 0 l from rfl];omega
 |cStr l h=>rw[aj];have:=Mj quoB l;grind
 |cUrl l h=>rw[Ml];have:=Mj urB l;grind
 |cDel c h=>rw[Sl];simp
 |cNum n f a b e=>rw[Ol];have:=(Wj a b (!f)).1;omega
 |cPct n a b=>rw[Nl,Ha,Bb];have:=(Wj a b false).1;omega
 |cDim n u f a b e d h=>
  rw[Rl,Ha];have:=(Wj a b (!f)).1;have m:u.length<=5000:=h2;have q:(Tf u).length<=20004:=by
   cases u with
   |nil=>grind
   |cons c r=>
    rw[Q5];cases Jh (c::r)with
    |true=>
     rw[Ca,Ha];have:=QY c;have:=Gi false 0 r
     grind
    |false=>grind
  omega
 |cMark k a b=>rw[yl a b];have:=oF k;omega
theorem ND: ∀{l:List zb},(∀t∈l,Nf t=true/\t.text.length<=5000/\t.unit.length<=5000)->(catT l).length<=20100*l.length
 |[],_=>Ub _
 |t::r,h=>by obtain⟨a,b,c⟩:=h t (Vb ..);have:=zBa a b c;have:=ND (l:=r) (fun u d=>h u (Rb _ d));rw[catT,Ha,Ia];omega
theorem RJ: ∀(l m:List zb),catT (l++m)=catT l++catT m
 |[],m=>rfl
 |t::l,m=>by rw[Ya,catT,catT,RJ l m,Oa]
theorem sW {R:Type} {step:Int×List UInt8->Option (LO (Int×List UInt8) (List UInt8) R)} {l:List zb} (m:l.length<=3) (e: ∀t∈l,Nf t=true/\t.text.length<=5000/\t.unit.length<=5000)
  (f: ∀(i:Nat) (a:Str) (hi:i<l.length),step ((i:Int),a)=(Sq (l[i],a)).bind fun j=>some (LO.again (w64 ((i:Int)+1),j)))
  (h2: ∀a,step ((l.length:Int),a)=some (.out a)):Lf step (0,[])=some (.out (catT l)):=by
 refine Zw (fun z=> ∃(i:Nat),i<=l.length/\z=((i:Int),catT (l.take i))) (fun z=>l.length - z.1.toNat) _ ?_ ⟨0,by omega,rfl⟩;rintro _ ⟨i,hi,rfl⟩;rcases Yc i l.length with h|h
 ·obtain⟨a,b,c⟩:=e l[i] (Xc h);have g:=ND (l:=l.take i) (fun t d=>e t (Bf d));rw[xc]at g;have k:min i l.length<=2:=by omega
  have d:=nU (acc:=catT (l.take i)) a b c (by
   grind)
  rw[f i _ h,d,Aa];refine .inl ⟨_,rfl,⟨i+1,by omega,?_⟩,by simp only;rw[zK (by omega) (by omega)];omega⟩;rw[zK (by omega) (by omega),Pe h,RJ];refine Prod.ext (by grind) ?_;show _=catT (l.take i)++(txS l[i]++[])
  grind
 grind
def stO(x:List zb×Str):zC:=⟨(x.1.length:Int),(x.2.length:Int)⟩
theorem MW{b s A B:Str}{ts L us P:List zb}{m:Nat}(h:b=B++A/\A≠[]/\ts=L++us/\us≠[]/\ ∃R,run b L R/\Lk R A/\4<=R.length/\4<=A.length):Yf (ql (A++s)) (us++P)=Yf (ql (b++s)) (ts++P):=by
 obtain⟨o,k,i,n,R,j,a,l,e⟩:=h;have g:=Pp (dI s j l);have f:Lk (R++s) (A++s):=by
  refine EI a k ?_;rcases a with a|⟨d,y,_,rfl,_⟩
  ·cases A with
   |nil=>grind
   |cons c t=>
    cases t with
    |cons d u=>rw[nV,<-a];exact Jt R
    |nil=>simp at e
  ·rfl
 rw[CJ f]at g;rw[g,i,yf,Vm,Vm,Oa,List.append_cancel_left_eq]
theorem nE{x:List zb}(h:gluS x=0):x.length<=1500/\(∀t∈x,Nf t=true)/\ ∀k,k<x.length->okAt (x.drop k)=true:=by
 unfold gluS at h;cases hl:decide (x.length<=1500)with
 |false=>grind
 |true=>
  rw[hl,Ca]at h;cases ha:(List.range x.length).all (Jl x)with
  |false=>grind
  |true=>
   rw[Sb]at ha;have key: ∀k,k<x.length->Nf (x.getD k default)=true/\okAt (x.drop k)=true:=by intro k hk;have:=ha k (ic.2 hk);unfold Jl at this;rw[Ea]at this;exact this
   refine⟨Pb hl,fun t ht=> ?_,fun k hk=>(key k hk).2⟩;obtain⟨k,hk,rfl⟩:=List.mem_iff_getElem.1 ht
   grind
theorem NS{t:zb}{r:List zb}:(bif t.kind==9 then((pcN (t::r):Nat):Int)==2 else false)=(t.kind==9&&t.text==[92]):=by
 cases a:t.kind==9 with
 |false=>rfl
 |true=>
  have b:df t=false:=by unfold df;rw[Ab.1 a];rfl
  rw[Vp,a,Ca,b]
  grind
theorem xJ{t:zb}{r:List zb}:pcS ((t::r).take (pcN (t::r)))=bif (t.kind==9&&t.text==[92])then [92,10]else catT ((t::r).take (pcN (t::r))):=by
 obtain⟨k,a⟩: ∃k,pcN (t::r)=k+1:=⟨pcN (t::r) - 1,by have:=YD (t:=t) (r:=r);omega⟩;rw[a,Ie,pcS]
 grind
theorem DK{n:Nat}{ts:List zb}{b:Str}{t:zb}{r:List zb}{s:Str}{P:List zb}(a:(t::r).take (pcN (t::r))=P)(c:pcS P=s):
  wrF (n+1) ts b (t::r)=wrF n (ts++P) ((if Yf (ql (b++s)) (ts++P)then b else b++cmtW)++s) ((t::r).drop (pcN (t::r))):=by
 subst c a;rw[wrF]
theorem ap16{n:Nat}(h:n<=99999):zQ n 1 16=true:=ai (by omega) (by omega)
theorem aH{n m:Nat}(h:n+m<=200000):zQ n m 1=true:=by
 unfold zQ
 grind
theorem KU{R:Type}{i:Int}{b:Str}{ts:List zb}{st:List (List zb×Str)}(h:zzQ b ts st)(g:st.length<=100000): ∃L B A us,
  (bif decide (w64 (((st.map stO).length:Int) - 4)>=0)then
        need (decide (0<=w64 (((st.map stO).length:Int) - 4))&&decide (w64 (((st.map stO).length:Int) - 4)<((st.map stO).length:Int)))<|
        ((st.map stO)[(w64 (((st.map stO).length:Int) - 4)).toNat]?).bind fun c=>
        some (LX.out (i,b,st.map stO,c))
       else
        some (LX.out (i,b,st.map stO,(⟨0,0⟩:zC))))=(some (LX.out (i,b,st.map stO,stO (L,B))):Option (LX (Int×List UInt8×List zC×zC) R))/\
  b=B++A/\ts=L++us/\ ∀s P,Yf (ql (A++s)) (us++P)=Yf (ql (b++s)) (ts++P):=by
 rw[Nb];by_cases l:4<=st.length
 ·obtain⟨A,R,us,d,k,e,a,j,f,o,n⟩:=h.bd (st.length - 4) (by omega);refine⟨st[st.length - 4].1,st[st.length - 4].2,A,us,?_,d,e,fun s P=>MW (m:=0) ⟨d,k,e,a,R,j,f,by omega,by omega⟩⟩;rw[zK (by omega) (by omega),Fa (by omega),Ca,Fa (by omega),Bool.and_self,Zd,show((st.length:Int) - 4).toNat=st.length - 4 by omega,Na,Sa (by omega)];rfl
 ·refine⟨[],[],b,ts,?_,rfl,rfl,fun s P=>rfl⟩;rw[zK (by omega) (by omega),Ua (by omega),Ba];rfl
theorem IW{x:List zb}(hx: ∀t∈x,t.text.length<=5000/\t.unit.length<=5000):
  Yu x=some (if gluS x=0 then(if 4000<(wrS x).length then([],28)else(wrS x,0))else([],gluS x)):=by
 unfold Yu;have hbig:big=4194304:=rfl;rw[J5 (fun t ht=>by grind)];simp only[ze,Aa];by_cases hg:gluS x=0
 ·rw[Ka hg,hg,show((0:Int) != 0)=false from rfl,Ba];obtain⟨hlen,hfine,hok⟩:=nE hg;have hrest:Vl x:=⟨fun t ht=>⟨hfine t ht,hx t ht⟩,hok⟩;refine QM (fun z=> ∃(i:Nat) (b:Str) (st:List (List zb×Str)) (n:Nat),z=((i:Int),b,st.map stO)/\i<=x.length/\Syn b (x.take i) st/\b.length<=4000/\x.length - i<=n/\wrF n (x.take i) b (x.drop i)=wrS x/\st.length<=i) (fun z=>x.length - z.1.toNat) _ ?_
   ⟨0,[],[],x.length,rfl,Ub _, .nil,Ub _,Va _,rfl,Va _⟩
  rintro _ ⟨i,b,st,n,rfl,hi,hsyn,hbl,hn,hW,hst⟩;simp only;rcases Yc i x.length with h|h
  ·have hro:=dL hrest i;have hdr:x.drop i=x[i]::x.drop (i+1):=ja h;obtain⟨t,ht⟩: ∃t,t=x[i]:=⟨_,rfl⟩;obtain⟨r,hr⟩: ∃r,r=x.drop (i+1):=⟨_,rfl⟩;rw[<-ht,<-hr]at hdr;rw[hdr]at hro hW;have hlr:(t::r).length=x.length - i:=by rw[<-hdr,ib]
   obtain⟨hk1,hpc⟩:=jI hro;have hk0:=YD (t:=t) (r:=r);have hk3:=XI (t:=t) (r:=r);obtain⟨k,hk⟩: ∃k,pcN (t::r)=k:=⟨_,rfl⟩;obtain⟨P,hP⟩: ∃P,(t::r).take k=P:=⟨_,rfl⟩;obtain⟨s,hs⟩: ∃s,pcS P=s:=⟨_,rfl⟩;have hst':=xJ (t:=t) (r:=r);have hstep:=fun m=>DK (n:=m) (ts:=x.take i) (b:=b) (t:=t) (r:=r) (s:=s) (P:=P) (by rw[hk];exact hP) hs;have e3:QA (List.drop i x)=some ((k:Nat):Int):=by rw[hdr,<-hk];exact SX (by grind) (hro.2 0 (by simp))
   have hb2:=NS (t:=t) (r:=r);rw[hk]at hk0 hk1 hk3 hpc hst' hb2 hstep;rw[hP]at hpc hst';rw[hs]at hpc hst';rw[hlr]at hk1;have e1:decide ((i:Int)<(x.length:Int))=true:=Fa (by omega);have e2:(decide ((0:Int)<=(i:Int))&&decide ((i:Int)<=(x.length:Int)))=true:=by rw[Fa (by omega),Fa (by omega)];rfl
   have e4:w64 ((i:Int)+((k:Nat):Int))=((i+k:Nat):Int):=by rw[zK (by omega) (by omega)];omega
   have e5:(decide ((0:Int)<=(i:Int))&&(decide ((i:Int)<=((i+k:Nat):Int))&&decide (((i+k:Nat):Int)<=(x.length:Int))))=true:=by rw[Fa (by omega),Fa (by omega),Fa (by omega)];rfl
   have e6:geti x (i:Int)=some t:=by rw[Z8 h,ht]
   have e7:List.drop i (List.take (i+k) x)=P:=by rw[List.drop_take,hdr,show i+k - i=k by omega,hP]
   simp only[e1,e2,e3,e4,e5,e6,Ca,Zd,Aa,Ra,e7];have hPl:P.length<=3:=by rw[<-hP,xc];omega
   have hPf: ∀u∈P,Nf u=true/\u.text.length<=5000/\u.unit.length<=5000:=fun u hu=>hro.1 u (by grind);have hsl:s.length<=60400:=by
    have:=ND hPf;rw[hst'];cases t.kind==9&&t.text==[92]with
    |true=>grind
    |false=>grind
   rw[Za (sW (l:=P) hPl hPf (fun j a hj=> ?_) (fun a=> ?_))]
   ·rw[hb2];have hj9:(bif (t.kind==9&&t.text==[92])then some (LX.out ((i:Int),b,st.map stO,[(92:UInt8),(10:UInt8)]))else some (LX.out ((i:Int),b,st.map stO,catT P)))=(some (LX.out ((i:Int),b,st.map stO,s)):Option (LX (Int×List UInt8×List zC×List UInt8) (LO (Int×List UInt8×List zC) (List UInt8) (Str×Int)))):=by rw[hst'];cases t.kind==9&&t.text==[92]<;>rfl
    rw[hj9,zh];simp only;have hsok:=zA5 hsyn;obtain⟨L,B,A,us,hfrom,hbA,hts,hwin⟩:=KU (R:=LO (Int×List UInt8×List zC) (List UInt8) (Str×Int)) (i:=(i:Int)) hsok (by omega);rw[hfrom,zh];have hBl:B.length<=b.length:=by rw[hbA,Ha];omega
    have hAl:A.length<=b.length:=by rw[hbA,Ha];omega
    have f1:(decide ((0:Int)<=(stO (L,B)).at_)&&decide ((stO (L,B)).at_<=(b.length:Int)))=true:=by show(decide ((0:Int)<=(B.length:Int))&&decide ((B.length:Int)<=(b.length:Int)))=true;rw[Fa (by omega),Fa (by omega)];rfl
    have f2:(stO (L,B)).at_.toNat=B.length:=Ra _;have f3:decide (B.length+(b.length - B.length)<=b.length)=true:=Fa (by omega);have f4:List.take (b.length - B.length) (List.drop B.length b)=A:=by rw[hbA,List.drop_left,Ha,show B.length+A.length - B.length=A.length by omega,List.take_length]
    have f5:Zt A.length s.length=true:=Ze.2 (by omega);simp only[f1,f2,f3,f4,f5,Zd,WY,Aa,e4,Ra];have htl:(stO (L,B)).token=(L.length:Int):=rfl;have hLl:L.length<=i:=by have:=congrArg List.length hts;rw[xc,Ha]at this;omega
    have htk:List.drop L.length (List.take (i+k) x)=us++P:=by
     have:List.take (i+k) x=L++(us++P):=by rw[List.take_add,hdr,hP,hts,Oa]
     rw[this,List.drop_left]
    have hPlen:P.length=k:=by rw[<-hP,xc];omega
    have husP:(us++P).length<=1500:=by have h1:=congrArg List.length hts;rw[xc,Ha]at h1;rw[Ha,hPlen];omega
    have hcl:clB (A++s)=true:=by have h1:=wS hsyn;rw[hbA,Qi,Ea]at h1;rw[Qi,h1.2,LB hpc];rfl
    obtain⟨c,hc⟩: ∃c,c=Yf (ql (b++s)) (x.take i++P):=⟨_,rfl⟩;have hwinc:Yf (ql (A++s)) (us++P)=c:=by rw[hc];exact hwin s P
    obtain⟨c',hc'⟩: ∃c',c'=(decide ((A++s).length<=4000)&&c):=⟨_,rfl⟩;have hneed:(decide ((0:Int)<=(stO (L,B)).token)&&(decide ((stO (L,B)).token<=((i+k:Nat):Int))&&decide (((i+k:Nat):Int)<=(x.length:Int))))=true:=by rw[htl,Fa (by omega),Fa (by omega),Fa (by omega)];rfl
    have hcat: ∀(E:Option (LX (Int×List zC×List UInt8) (LO (Int×List UInt8×List zC) (List UInt8) (Str×Int)))),
      E=(need (decide ((0:Int)<=(stO (L,B)).token)&&(decide ((stO (L,B)).token<=((i+k:Nat):Int))&&decide (((i+k:Nat):Int)<=(x.length:Int)))|| !(!((Cm (A++s)).2 != 0)))<|
       (zt (!((Cm (A++s)).2 != 0)) (qd ((Cm (A++s)).1,List.drop (stO (L,B)).token.toNat (List.take (i+k) x))) (default:Bool)).bind fun y13=>
       bif bif (Cm (A++s)).2 != 0 then true else !y13 then
        need (zQ b.length ([47,42,42,47]:Str).length 1)<|
        some (LX.out ((i:Int),st.map stO,b++([47,42,42,47]:Str)))
       else
        some (LX.out ((i:Int),st.map stO,b)))->E=some (LX.out ((i:Int),st.map stO,if c' then b else b++cmtW)):=by
     rintro E rfl;rw[hneed,Wd,Zd,show(stO (L,B)).token.toNat=L.length from Ra _,htk];have happ:zQ b.length ([47,42,42,47]:Str).length 1=true:=aH (by grind);unfold Cm;by_cases hlong:4000<(A++s).length
     ·rw[Ka hlong];have:c'=false:=by rw[hc',Ua (by omega)];rfl
      rw[this];simp only[show((28:Int) != 0)=true from rfl,Db,Zb,Aa,Ca,happ,Zd];rfl
     ·rw[Ja hlong,AL _ hcl];have hcc:c'=c:=by rw[hc',Fa (by omega)];rfl
      by_cases hmany:1500<(ql (A++s)).length
      ·rw[Ka hmany];have:c'=false:=by rw[hcc,<-hwinc];exact Kz (by omega)
       rw[this];simp only[show((4:Int) != 0)=true from rfl,Db,Zb,Aa,Ca,happ,Zd];rfl
      ·rw[Ja hmany];simp only[show((0:Int) != 0)=false from rfl,ma,zH,Ba,PX (show(ql (A++s)).length<=big by omega),hwinc,Aa,happ,Zd]
       grind
    rw[hcat _ rfl,zh];simp only;obtain⟨m,hm⟩: ∃m,n=m+1:=⟨n - 1,by omega⟩;subst hm;rw[hstep m,<-hc]at hW;have hWl:=MI m (x.take i++P) ((if c then b else b++cmtW)++s) ((t::r).drop k);rw[hW]at hWl;have hcw:cmtW.length=4:=rfl;have hb1:(if c' then b else b++cmtW).length<=4004:=by
     split
     ·omega
     ·grind
    rw[zm (ap16 (by grind)),zm (aH (by omega))];have hbs:b.length+s.length<=(wrS x).length:=by
     refine Ic ?_ hWl;rw[Ha];split
     ·omega
     ·grind
    by_cases hbig2:4000<((if c' then b else b++cmtW)++s).length
    ·grind
    ·rw[Ua (by omega),Ba];have hcc:c'=c:=by
      have:(A++s).length<=4000:=by
       rw[Ha]at hbig2 ⊢;have:b.length<=(if c' then b else b++cmtW).length:=by
        split
        ·grind
        ·grind
       omega
      rw[hc',Fa this];rfl
     rw[hcc]at hbig2 ⊢;have hxt:x.take (i+k)=x.take i++P:=by rw[List.take_add,hdr,hP]
     refine .inl ⟨_,rfl,⟨i+k,(if c then b else b++cmtW)++s,st++[(x.take i,if c then b else b++cmtW)],m,?_,by omega,?_,by omega,by omega,?_,?_⟩,?_⟩
     ·refine Prod.ext e4 (Prod.ext rfl ?_);rw[je];show st.map stO++[_]=st.map stO++[stO (x.take i,if c then b else b++cmtW)];unfold stO
      grind
     ·rw[hxt];cases hcb:c with
      |true=> rw[Ka rfl];exact .no b s _ P st hsyn hpc (Vm.1 (by rw[<-hc,hcb]))
      |false=> rw[Ja (by decide)];refine .cmt b s _ P st hsyn ?_ hpc;rintro rfl;have h0:=hsok.tok;rw[QG (ZX rfl)]at h0;rw[<-h0,Yb,Yb,WI hpc]at hc;rw[hcb,Vm.2 rfl]at hc;cases hc
     ·rw[hxt,<-hW,<-Ae,hdr]
     ·rw[Ha,Bb];omega
     ·simp only;rw[e4];omega
   ·have d1:decide ((j:Int)<(P.length:Int))=true:=Fa (by omega);simp only[d1,Ca,Z8 hj,Aa]
   ·simp only;rw[Ua (by omega),Ba]
  ·have:i=x.length:=by omega
   subst this;have e1:decide ((x.length:Int)<(x.length:Int))=false:=Ua (by omega);simp only[e1,Ba];refine .inr (.inl ⟨_,rfl,?_⟩);rw[jd (Va _)]at hW;have hWb:b=wrS x:=by
    cases n with
    |zero=>rw[wrF]at hW;exact hW
    |succ n=>rw[wrF]at hW;exact hW
   rw[<-hWb,Ja (by omega)]
 grind
theorem lZ {S X R:Type} {step:S->Option (LO S X R)} {k:X->Option R} (Inv:S->Prop) (c:S->Nat) (Q:R->Prop)
  (h: ∀s,Inv s->(∃s',step s=some (.again s')/\Inv s'/\c s'<c s)\/(∃x y,step s=some (.out x)/\k x=some y/\Q y)\/(∃y,step s=some (.ret y)/\Q y)) {s:S} (e:Inv s): ∃y,Zg step s k=some y/\Q y:=by
 have d: ∀(m:Nat) (s:S),c s<m->Inv s-> ∃(r:LX X R) (y:R),qE step m s=some r/\r.go k=some y/\Q y:=by
  intro m
  induction m with
  |zero=>intro s h;omega
  |succ m i=>
   intro s g e;simp only[qE];rcases h s e with⟨s',a,b,f⟩|⟨x,y,a,b,f⟩|⟨y,a,b⟩
   ·grind
   ·simp_all
   simp_all
 obtain⟨r,y,a,b,f⟩:=d (c s+1) s (by omega) e;exact⟨y,by rw[Jj (Wh a)];exact b,f⟩
def iq(x:List zb)(n:Nat):Prop:= ∀t∈x,t.text.length+t.unit.length<=n
theorem rest_of{x:List zb}(c:gluS x=0)(h:iq x 1000):Vl x:=by obtain⟨_,d,b⟩:=nE c;exact⟨fun t a=>⟨d t a,by have:=h t a;omega,by have:=h t a;omega⟩,b⟩
theorem YR{x:List zb}{n:Nat}(h:iq x n)(b:n<=big): ∀t∈x,t.text.length<=big/\t.unit.length<=big:=fun t a=>by have:=h t a;omega
end Go.Lv.VT
