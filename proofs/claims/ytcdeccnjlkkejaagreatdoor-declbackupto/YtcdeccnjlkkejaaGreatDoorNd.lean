/- Pieces: what is written at once; how they begin. -/
import Derived.Test.YtcdeccnjlkkejaaGreatDoorNc
import Derived.Test.YtcdeccnjlkkejaaGreatDoorNam
set_option linter.unusedSimpArgs false
set_option linter.unusedVariables false
namespace Go.Lv.VT
set_option maxRecDepth 100000
abbrev tkSp:ze:=⟨13,[],0,[],false⟩
inductive PcT:Str->List ze->Prop
 |one (t:ze) (h:zf3 t) (hb: ¬(t.kind=9/\t.text=[92])) (hu:Hg t=false):PcT (txS t) [t]
 |back:PcT [92,10] [⟨9,[92],0,[],false⟩,tkSp]
 |url (l m:Str) (s:Bool) (h:Zp l=true) (hl:lowS l=[117,114,108]) (hm:Zp m=true):
   PcT (ZT l++40::((if s then [32]else [])++34::(encB quoB m++[34]))) (⟨2,l,0,[],false⟩::((if s then [tkSp]else [])++[⟨5,m,0,[],false⟩]))
theorem SN{l:Str}(h:lowS l=[117,114,108]): ∃a r,l=a::r/\(a=117\/a=85):=by
 cases l with
 |nil=>cases h
 |cons a r=>
  have h1:bi a=117:=by unfold lowS at h;rw[Jc]at h;injection h
  have: ∀n:Nat,n<256->bi (UInt8.ofNat n)=117->UInt8.ofNat n=117\/UInt8.ofNat n=85:=by decide+kernel
  have:=this a.toNat (Eb a);simp_all
theorem yC{l:Str}(a:l≠[])(z:Str):nmS (ZT l++40::z)=true:=gK (Oi a) (by show(40:UInt8)≠10;decide)
theorem Ar{k:Int}(a:13<=k)(h2:k<=24):k=13\/k=14\/k=15\/k=16\/k=17\/k=18\/k=19\/k=20\/k=21\/k=22\/k=23\/k=24:=by omega
theorem BA{s:Str}{P:List ze}(h:PcT s P):nmS s=true\/(∃n p U t,P=[t]/\s=numT n p++U/\t.num=n/\(U=[]/\t.kind=10\/U=[37]\/ ∃u,u≠[]/\Zp u=true/\U=jf u))\/
  (∃c r,s=c::r/\(c=64\/c=35\/c=34)/\nbS s=false)\/(∃c,s=[c]/\Lh c.toNat=true)\/(∃k,13<=k/\k<=24/\s=Dl k)\/s=[92,10]:=by
 cases h with
 |one t h q v=>
  cases h with
  |cId l b h=>left;rw[vk];exact Oi b
  |cFn l b h=>left;rw[aj];exact yC b []
  |cAt l b h=>right;right;left;rw[om];exact⟨64,_,rfl, .inl rfl,rfl⟩
  |cHash l f b h j=>right;right;left;rw[dn];exact⟨35,_,rfl, .inr (.inl rfl),rfl⟩
  |cStr l h=>right;right;left;rw[Ol];exact⟨34,_,rfl, .inr (.inr rfl),rfl⟩
  |cUrl l h=>left;rw[Gn];rfl
  |cDel c h=>right;right;right;left;rw[Pn];grind
  |cNum n f d e g=>right;left;exact⟨n, !f,[],_,rfl,by rw[Kn,Va],rfl, .inl ⟨rfl,rfl⟩⟩
  |cPct n d e=>right;left;exact⟨n,false,[37],_,rfl,Jn n,rfl, .inr (.inl rfl)⟩
  |cDim n u f d e g b h=>right;left;exact⟨n, !f,jf u,_,rfl,Nn n u f,rfl, .inr (.inr ⟨u,b,h,rfl⟩)⟩
  |cMark k d e=>right;right;right;right;left;exact⟨k,d,e,bn d e⟩
 |back=>grind
 |url l m s h i o=> left;obtain⟨a,r,rfl,_⟩:=SN i;exact yC (by simp) _
theorem FH(c:UInt8)(h:Lh c.toNat=true):spB c=false/\nbS [c]=false/\c≠101/\c≠69:=by
 have: ∀n:Nat,n<256->Lh (UInt8.ofNat n).toNat=true->spB (UInt8.ofNat n)=false/\nbS [UInt8.ofNat n]=false/\UInt8.ofNat n≠101/\UInt8.ofNat n≠69:=by decide+kernel
 have:=this c.toNat (Eb c);simp_all
theorem zAU{s:Str}(h:digB (atS (unsign s) 0)=true):nbS s=true:=by
 unfold nbS undot;have:(atS (unsign s) 0==46)=false:=Fa.2 (pg h).2.2.1
 grind
theorem oC{s:Str}{P:List ze}(h:PcT s P)(d:digB (atS (unsign s) 0)=true): ∃n p U t,P=[t]/\s=numT n p++U/\t.num=n/\(U=[]/\t.kind=10\/U=[37]\/ ∃u,u≠[]/\Zp u=true/\U=jf u):=by
 have a:=zAU d;rcases BA h with h|h|⟨c,r,e,_,h⟩|⟨c,rfl,f⟩|⟨k,b,g,rfl⟩|rfl
 ·rw[NV h]at a;cases a
 ·exact h
 ·grind
 ·rw[(FH c f).2.1]at a;cases a
 ·rcases Ar b g with rfl|rfl|rfl|rfl|rfl|rfl|rfl|rfl|rfl|rfl|rfl|rfl<;>cases a
 ·cases a
theorem zGf{s:Str}{P:List ze}(h:PcT s P)(a:spB (atS s 0)=true):s=[32]:=by
 rcases BA h with h|⟨n,p,U,t,_,rfl,_⟩|⟨c,r,rfl,g,_⟩|⟨c,rfl,f⟩|⟨k,d,b,rfl⟩|rfl
 ·rw[(Oq (Ym h)).1]at a;cases a
 ·obtain⟨c,r,e,_,b,_⟩:=Yn n p U;rw[e]at a;rw[show atS (c::r) 0=c from rfl,b]at a;cases a
 ·rcases g with rfl|rfl|rfl<;>cases a
 ·rw[show atS [c] 0=c from rfl,(FH c f).1]at a;cases a
 ·rcases Ar d b with rfl|rfl|rfl|rfl|rfl|rfl|rfl|rfl|rfl|rfl|rfl|rfl<;>first|rfl|cases a
 ·cases a
theorem Sz{s:Str}{P:List ze}(h:PcT s P){b:UInt8}(f:b=47\/b=42)(d:atS s 0=b):s=[b]:=by
 rcases BA h with h|⟨n,p,U,t,_,rfl,_⟩|⟨c,r,rfl,g,_⟩|⟨c,rfl,j⟩|⟨k,a,i,rfl⟩|rfl
 ·have a:=Ym h;rw[d]at a;rcases f with rfl|rfl<;>cases a
 ·obtain⟨c,r,e,a,_⟩:=Yn n p U;rw[e]at d;rw[show c=b from d]at a;rcases f with rfl|rfl<;>cases a
 ·rw[show c=b from d]at g
  grind
 ·rw[show c=b from d]
 ·rcases Ar a i with rfl|rfl|rfl|rfl|rfl|rfl|rfl|rfl|rfl|rfl|rfl|rfl<;>rcases f with rfl|rfl<;>cases d
 ·rcases f with rfl|rfl<;>cases d
theorem Xh{s:Str}{P:List ze}(h:PcT s P):s≠[]:=by
 rcases BA h with h|⟨n,p,U,t,_,rfl,_⟩|⟨c,r,rfl,d,_⟩|⟨c,rfl,f⟩|⟨k,b,a,rfl⟩|rfl
 ·exact Xi h
 ·obtain⟨c,r,e,_⟩:=Yn n p U;rw[e];simp
 ·simp
 ·simp
 ·rcases Ar b a with rfl|rfl|rfl|rfl|rfl|rfl|rfl|rfl|rfl|rfl|rfl|rfl<;>decide
 ·simp
theorem zAS{l:Str}{c:UInt8}{r:Str}(b:c=101\/c=69)(h:ZT l=c::r): ∃t,l=c::t:=by
 cases l with
 |nil=>unfold ZT at h;rw[encW]at h;cases h
 |cons a t=>
  have g:ZT (a::t)=pcW ((a::t:Str)==[45]) (QT (a::t)) a++encW ((a::t:Str)==[45]) (QT (a::t) - 1) t:=rfl;obtain⟨d,u,e,f⟩:=EA (dash:=(a::t:Str)==[45]) (k:=QT (a::t)) (by unfold QT;split<;>omega) a (encW ((a::t:Str)==[45]) (QT (a::t) - 1) t)
  grind
theorem zFu{s:Str}{P:List ze}(h:PcT s P)(b:atS s 0=101\/atS s 0=69): ∃l t z,Zp l=true/\P=[t]/\(t.kind=1\/t.kind=2)/\t.text=l/\s=ZT l++z/\(z=[]\/z=[40]):=by
 cases h with
 |one t h B C=>
  cases h with
  |cId l i h=>exact⟨l,_,[],h,rfl, .inl rfl,rfl,by rw[vk,Va], .inl rfl⟩
  |cFn l i h=>exact⟨l,_,[40],h,rfl, .inr rfl,rfl,aj l, .inr rfl⟩
  |cAt l i h=>rw[om]at b;rcases b with b|b<;>cases b
  |cHash l f i h v=>rw[dn]at b;rcases b with b|b<;>cases b
  |cStr l h=>rw[Ol]at b;rcases b with b|b<;>cases b
  |cUrl l h=>rw[Gn]at b;rcases b with b|b<;>cases b
  |cDel c h=>
   rw[Pn]at b;obtain⟨_,_,p,q⟩:=FH c h;rcases b with b|b
   ·exact absurd b p
   ·exact absurd b q
  |cNum n f d g w=>
   rw[Kn]at b;obtain⟨c,r,e,d,_⟩:=Yn n (!f) [];rw[Va]at e;rw[e]at b;rcases b with b|b<;>(rw[show c=_ from b]at d;cases d)
  |cPct n d g=>
   rw[Jn]at b;obtain⟨c,r,e,d,_⟩:=Yn n false [37];rw[e]at b;rcases b with b|b<;>(rw[show c=_ from b]at d;cases d)
  |cDim n u f d g w i h=>
   rw[Nn]at b;obtain⟨c,r,e,d,_⟩:=Yn n (!f) (jf u);rw[e]at b;rcases b with b|b<;>(rw[show c=_ from b]at d;cases d)
  |cMark k d g=> rw[bn d g]at b;rcases Ar d g with rfl|rfl|rfl|rfl|rfl|rfl|rfl|rfl|rfl|rfl|rfl|rfl<;>rcases b with b|b<;>cases b
 |back=>rcases b with b|b<;>cases b
 |url l m s h o y=>
  exfalso;obtain⟨a,r,rfl,D⟩:=SN o;obtain⟨c,A,e⟩:=Bh (Xi (Oi (l:=a::r) (by simp)));have j:c=101\/c=69:=by rw[e]at b;exact b
  obtain⟨t,x⟩:=zAS j e;injection x with e3 _
  grind
def ShS(s r:Str):Prop:=r=s\/ ∃d y,digB d=true/\s=48::46::d::y/\r=46::d::y
theorem sM(cap:Nat)(l:Str):capF cap 0 (48::l)=capF cap 0 l:=by show capF cap (min cap (decN 0 48)) l=_;rw[show decN 0 48=0 from rfl,Nat.min_zero]
theorem zBx(A:Str)(p:Int):thoV (48::A) p=thoV A p:=by
 unfold thoV;by_cases a:p<0
 ·rw[Ha a,Ha a];by_cases c:(A.length:Int)+p<0
  ·have b:(((48::A:Str).length:Int)+p).toNat=0:=by rw[Ja];omega
   grind
  ·have b:(((48::A:Str).length:Int)+p).toNat=((A.length:Int)+p).toNat+1:=by rw[Ja];omega
   rw[b,Ye,sM]
 ·rw[Ga a,Ga a,sM]
theorem JB(d:UInt8)(y:Str)(e:digB d=true):Zo (48::46::d::y)=Zo (46::d::y):=by
 have j:Xf 48=false/\Xf 46=false:=by decide
 have b:Jf (48::46::d::y)=46::d::y:=rfl;have a:Jf (46::d::y)=46::d::y:=rfl;have h:zP (48::46::d::y)=zP (46::d::y):=by rw[Ui,Ui,b,a]
 have g:(numP (48::46::d::y)).val=(numP (46::d::y)).val:=by have c:numP (48::46::d::y)=⟨[],[48],dotP (46::d::y),expP (z8 (46::d::y)).1⟩:=rfl;have i:numP (46::d::y)=⟨[],[],dotP (46::d::y),expP (z8 (46::d::y)).1⟩:=rfl;rw[c,i];unfold NumP.val;simp only[Tc,Ob,zBx]
 have f:nbS (46::d::y)=true:=e;rw[wo,Ga (by decide),Ga (by decide),show((48:UInt8)==35)=false from rfl,Nb,Ga (by decide),show nbS (48::46::d::y)=true from rfl,Ha rfl,
  wo,Ga (by decide),Ga (by decide),show((46:UInt8)==35)=false from rfl,Nb,Ga (by decide),f,Ha rfl]
 unfold zI;rw[h,g]
theorem capG(cap:Nat): ∀(l:Str) (n:Nat),valG n l<=cap->capF cap n l=valG n l
 |[],n,_=>rfl
 |c::l,n,h=>by
  have b:valG n (c::l)=valG (decN n c) l:=rfl;rw[b]at h ⊢;have a:decN n c<=valG (decN n c) l:=by rw[pu l (decN n c)];have:=Ee (decN n c) (Cg (n:=l.length) (show 0<10 by omega));omega
  rw[capF,Nat.min_eq_right (Xb a h)];exact capG cap l (decN n c) h
theorem IW: ∀(k n:Nat),n*10 ^ k<=1000->Bi k n=n*10 ^ k
 |0,n,_=>by rw[Bi,Nat.pow_zero,Df]
 |k+1,n,h=>by
  have c:Jh=1000000000000:=rfl;rw[Bi];have a:0<10 ^ k:=Cg (by omega);have e:n*10 ^ (k+1)=10*n*10 ^ k:=by rw[Nat.pow_succ,Nat.mul_comm 10 n,Nat.mul_assoc,Nat.mul_comm (10 ^ k) 10]
  have d:10*n<=10*n*10 ^ k:=Ee _ a;by_cases b:n=0
  ·subst b;simp
  ·rw[Ga (by omega),Nat.min_eq_right (by omega),IW k (10*n) (by omega),e]
theorem zAq{n:Int}{p:Bool}(hp:(partT (n.natAbs%1000) p).isEmpty=false){U:Str}(hU:past digB U=U)(hx:expS U=none):
  (numP (46::(partT (n.natAbs%1000) p++U))).val=((n.natAbs%1000:Nat):Int):=by
 obtain⟨k1,k2,k3,_,_⟩:=Nk (r:=n.natAbs%1000) (by omega) p;generalize partT (n.natAbs%1000) p=F at*;obtain⟨c,r,rfl⟩:=Bh (show F≠[] by grind);have hc:digB c=true:=by rw[xc,Ea]at k1;exact k1.1
 have hq:Jf (46::(c::r++U))=46::(c::r++U):=rfl;have hpast:past digB (c::r++U)=U:=by rw[GA _ _ k1,hU]
 have hw:z8 (46::(c::r++U))=(U,false):=by unfold z8;rw[show atS (46::(c::r++U)) 1=c from rfl,hc,show(atS (46::(c::r++U)) 0==46&&true)=true from rfl,Ha rfl,show(46::(c::r++U)).drop 1=c::r++U from rfl,hpast]
 have hrun:List.takeWhile digB (c::r++U)=c::r:=by have:=Rv digB (c::r++U);rw[hpast]at this;exact List.append_cancel_right this
 have hd:dotP (46::(c::r++U))=some (c::r):=by unfold dotP;rw[show atS (46::(c::r++U)) 1=c from rfl,hc,show(atS (46::(c::r++U)) 0==46&&true)=true from rfl,Ha rfl,show(46::(c::r++U)).drop 1=c::r++U from rfl,hrun]
 have he:expP U=none:=by unfold expP;rw[si]at hx;rw[hx,Ga (by decide)]
 have hP:numP (46::(c::r++U))=⟨[],[],some (c::r),none⟩:=by show(⟨sgOf (46::(c::r++U)),_,dotP (46::(c::r++U)),expP (z8 (46::(c::r++U))).1⟩:NumP)=_;rw[hd,hw,he];rfl
 rw[hP];unfold NumP.val;show(((thoV ([]++(c::r)) (3+0 - ((c::r:Str).length:Int))):Nat):Int)=_;unfold thoV;rw[Ob,Ga (by omega),show(3+0 - ((c::r:Str).length:Int)).toNat=3 - (c::r:Str).length by omega];have hle:valG 0 (c::r)<=1000:=by have:=Ee (valG 0 (c::r)) (Cg (n:=3 - (c::r:Str).length) (show 0<10 by omega));omega
 rw[capG _ _ _ (by unfold Jh;omega),IW _ _ (by omega),k3]
theorem zAc{m:Nat}(h:m=0):Lib.decDigits m=[48]:=by subst h;decide+kernel
theorem wy{t:ze}{U:Str}(f:U=[]/\t.kind=10\/U=[37]\/ ∃u,u≠[]/\Zp u=true/\U=jf u):past digB U=U/\expS U=none/\(U=[]\/U=[37]\/(nmS U=true/\(zq U).2=[])):=by
 rcases f with⟨rfl,_⟩|rfl|⟨u,a,h,rfl⟩
 ·exact⟨rfl,rfl, .inl rfl⟩
 ·exact⟨rfl,rfl, .inr (.inl rfl)⟩
 ·have c:=ny a h;have e:=(Az c []).1;have d:=dR a h (x:=[]) (.inl rfl);have b:=IB a h [];rw[Va]at e d b;exact⟨e,d, .inr (.inr ⟨c,by rw[b,qV]⟩)⟩
theorem TD(n:Int)(p:Bool)(U:Str):past digB (unsign (numT n p++U))=past digB (dotS (if(partT (n.natAbs%1000) p).isEmpty then none else some (partT (n.natAbs%1000) p))++U):=q2_T n p U
theorem DF{n:Int}{p:Bool}(U:Str)(a:(partT (n.natAbs%1000) p).isEmpty=true):past digB (unsign (numT n p++U))=past digB U:=by rw[TD,a];rfl
theorem CF{n:Int}{p:Bool}(U:Str)(a:(partT (n.natAbs%1000) p).isEmpty=false):past digB (unsign (numT n p++U))=46::(partT (n.natAbs%1000) p++U):=by rw[TD,a];rfl
theorem zEQ(z:Str):expS (46::z)=none:=rfl
theorem OV(z:Str):nmS (46::z)=false:=rfl
theorem zAG{s r:Str}{P:List ze}(h:PcT s P)(x:digB (atS s 0)=true)(f:r=past digB s)(F:nmS r=false)(m:(atS r 0==37)=false)(d:Zy r=P):ShS s r:=by
 have u:unsign s=s:=by unfold unsign Xf;rw[Fa.2 (pg x).1,Fa.2 (pg x).2.1];rfl
 obtain⟨n,p,U,t,rfl,rfl,g,z⟩:=oC h (by grind);obtain⟨w,D,A⟩:=wy z;rw[<-u,TD]at f;cases j:(partT (n.natAbs%1000) p).isEmpty with
 |true=>
  rw[j]at f;have a:r=U:=by rw[f];exact w
  subst a;rcases A with rfl|rfl|⟨G,_⟩
  ·rw[Qy (ZI rfl)]at d;cases d
  ·cases m
  grind
 |false=>
  rw[j]at f;have a:r=46::(partT (n.natAbs%1000) p++U):=by rw[f];rfl
  have B:=zAq j w D;obtain⟨c,q,i⟩:=Bh (show partT (n.natAbs%1000) p≠[] by grind);have b:=IG (n:=n) (p:=p);have v:digB c=true:=by rw[i,xc,Ea]at b;exact b.1
  have k:cmtS r=46::(partT (n.natAbs%1000) p++U):=by rw[a];exact ZI rfl
  rw[qL k]at d;injection d with d _;have l:Zo (46::(partT (n.natAbs%1000) p++U))=zI (46::(partT (n.natAbs%1000) p++U)):=by
   have o:nbS (46::(partT (n.natAbs%1000) p++U))=true:=by rw[i];exact v
   rw[wo,Ga (by decide),Ga (by decide),show((46:UInt8)==35)=false from rfl,Nb,Ga (by decide),o,Ha rfl]
  have e: ∀q:Str,(zI q).1.num=(numP q).val:=by
   intro q;unfold zI;split
   ·rfl
   ·split<;>rfl
  rw[l]at d;have y:=e (46::(partT (n.natAbs%1000) p++U));rw[d,B,g]at y;have E:n.natAbs / 1000=0:=by omega
  have C:numT n p++U=48::46::c::(q++U):=by rw[eu,j,zAc E,i];unfold sgT;rw[Ga (by omega)];rfl
  right;exact⟨c,q++U,v,C,by rw[a,i];rfl⟩
theorem AP: ∀(y r:Str),y.all letB=true->zq (y++r)=(y++(zq r).1,(zq r).2)
 |[],r,_=>rfl
 |c::y,r,h=>by rw[xc,Ea]at h;rw[Ra,zR,Ha h.1,AP y r h.2];rfl
theorem zC4{l:Str}(h:l.all digB=true):l.all letB=true:=by
 rw[Vb]at h ⊢;intro b a;unfold letB
 grind
theorem zAF{s r:Str}{P:List ze}(h:PcT s P)(he:atS s 0=101\/atS s 0=69)(hd:digB (atS (unsign (s.drop 1)) 0)=true)(hr:r=past digB (unsign (s.drop 1)))(hT:Zy r=P):False:=by
 obtain⟨l,t,z,hl,rfl,hk,ht,rfl,hz⟩:=zFu h he;obtain⟨c,q,e⟩:=Bh (Xh h);have hnz:zq z=([],z):=by rcases hz with rfl|rfl;exact qV;exact KG []
 have hname:zq (ZT l++z)=(l,z):=by rw[Vj z hl,hnz,Va]
 rw[e]at he hd hr hname;rw[show(c::q).drop 1=q from rfl]at hd hr;have hc:letB c=true:=by rcases he with h|h<;>(rw[show c=_ from h];rfl)
 -- the sign is a dash, or none
 have hsg:(sgOf q).all letB=true:=by
  unfold sgOf;cases hs:Xf (atS q 0)with
  |false=>rfl
  |true=>
   rw[Ha rfl];unfold Xf at hs;rw[Lc,Jb,Jb]at hs;rcases hs with hs|hs
   ·exfalso;cases q with
    |nil=>cases hs
    |cons d q'=>
     rw[show d=43 from hs,zR,Ha hc,zR,Ga (by decide),Ga (by unfold escS;rw[show atS (43::q') 0=43 from rfl];simp)]at hname
     grind
   ·rw[hs];rfl
 have hsplit:c::q=(c::(sgOf q++(unsign q).takeWhile digB))++r:=by rw[hr,Ra,La,Rv,sJ]
 have hall:(c::(sgOf q++(unsign q).takeWhile digB)).all letB=true:=by rw[xc,hc,List.all_append,hsg,zC4 (Kz digB _)];rfl
 rw[hsplit,AP _ _ hall]at hname;injection hname with hn1 hn2;have hcm:cmtS r=r:=by
  refine ZI ?_;cases r with
  |nil=>rfl
  |cons d u=>
   refine Jq (Fa.2 ?_);rintro rfl;rw[zR,Ga (by decide),Ga (by unfold escS;rw[show atS (47::u) 0=47 from rfl];simp)]at hn2
   grind
 cases r with
 |nil=>rw[Qy hcm]at hT;cases hT
 |cons d u=>
  rw[qL hcm]at hT;injection hT with hT _;have hbr:=Dm d u;rw[hT]at hbr;have hbr':brS d u=7:=by rcases hk with hk|hk<;>(rw[hk]at hbr;exact hbr.symm)
  have hx:t.text=(zq (d::u)).1:=by
   rw[<-hT,qf,hbr',Gi];have hk':(qQ (d::u)).1.kind=1\/(qQ (d::u)).1.kind=2:=by
    have:(qQ (d::u)).1=t:=by rw[<-hT,qf,hbr',Gi]
    rw[this];exact hk
   unfold qQ at hk' ⊢;split
   ·rename_i h40;rw[Ha h40]at hk';split
    ·rename_i h2;rw[Ha h2]at hk';rcases iF (urlS (past spB ((zq (d::u)).2.drop 1))).1 with hh|hh<;>rcases hk' with hk'|hk'<;>rw[show(Ij (urlS (past spB ((zq (d::u)).2.drop 1))).1).kind=_ from hk']at hh<;>cases hh
    ·rfl
   ·rfl
  rw[<-hx,ht]at hn1;have:=congrArg List.length hn1
  grind
theorem OZ{z r:Str}(h:z8 z=(r,true)):r=z:=by
 unfold z8 at h
 grind
theorem VX{z r:Str}(h:(match expS (z8 z).1 with|some r=>(r,false)|none=>z8 z)=(r,true)):r=z:=by
 cases a:expS (z8 z).1 with
 |some y=>grind
 |none=>rw[a]at h;exact OZ h
theorem zCP{z r:Str}{b:Bool}(h:(match expS z with|some r=>(r,false)|none=>(z,false))=(r,b)):r=z\/expS z=some r:=by
 grind
theorem nO{t:ze}{s r:Str}{P:List ze}(N:zf3 t)(h:PcT s P)(b:kV t s r)(v:Zy r=P):ShS s r:=by
 have M:P≠[]:=by cases h<;>simp
 have p:r≠[]:=by rintro rfl;rw[Qy (ZI rfl)]at v;exact M v.symm
 have j:digB (atS s 0)=false->past digB s=s:=by
  intro i;cases s with
  |nil=>rfl
  |cons c q=>rw[past,show digB c=false from i];rfl
 rcases b with b|⟨_,b⟩|⟨R,Q,g,G⟩|⟨_,K,y,i,g,b⟩
 ·exact .inl b
 ·cases u:spB (atS s 0)with
  |true=> rw[zGf h u]at b;exact absurd b p
  |false=>
   left;rw[b];cases s with
   |nil=>rfl
   |cons c q=>rw[past,show spB c=false from u];rfl
 ·cases N with
  |cNum n f w E S=>
   have e:zP (numT n (!f)++s)=(r,f):=Q;have a:r=past digB s\/expS (past digB s)=some r:=by
    cases d:(partT (n.natAbs%1000) (!f)).isEmpty with
    |true=> left;rw[fF d]at e;rw[Hw S]at d;subst d;exact VX e
    |false=> rw[nD d]at e;exact zCP e
   cases i:digB (atS s 0)with
   |true=>
    rcases a with b|l
    ·exact zAG h i b g G v
    ·exfalso;have o:unsign s=s:=by unfold unsign Xf;rw[Fa.2 (pg i).1,Fa.2 (pg i).2.1];rfl
     obtain⟨A,B,U,J,rfl,rfl,_,x⟩:=oC h (by grind);obtain⟨z,O,_⟩:=wy x;rw[<-o]at l;cases d:(partT (A.natAbs%1000) B).isEmpty with
     |true=>rw[DF U d,z,O]at l;cases l
     |false=>rw[CF U d,zEQ]at l;cases l
   |false=>
    rw[j i]at a;rcases a with b|l
    ·exact .inl b
    ·obtain⟨w,E,L⟩:=jM l;exact(zAF h w E L v).elim
  |cId|cFn|cAt|cHash|cStr|cUrl|cDel|cPct|cDim=>simp at R
  |cMark k w E=>grind
 ·exfalso;have D:digB (atS (unsign s) 0)=true/\past digB (unsign (K++s))=past digB (unsign s):=by
   rcases y with rfl|rfl
   ·grind
   ·have m:digB (atS s 0)=true:=i;have o:unsign s=s:=by unfold unsign Xf;rw[Fa.2 (pg m).1,Fa.2 (pg m).2.1];rfl
    rw[o];exact⟨m,rfl⟩
  obtain⟨C,F⟩:=D;rw[F]at g b;obtain⟨A,B,U,J,rfl,rfl,_,x⟩:=oC h C;obtain⟨z,_,H⟩:=wy x;cases d:(partT (A.natAbs%1000) B).isEmpty with
  |true=>
   rw[DF U d,z]at g b;rcases H with rfl|rfl|⟨_,T⟩
   ·cases g
   ·cases g
   grind
  |false=>rw[CF U d,OV]at g;cases g
abbrev cmtW:Str:=[47,42,42,47]
theorem Vu{s:Str}{P:List ze}(h:PcT s P)(x:Str)(hx:atS x 0≠42):([47,42]:Str).isPrefixOf (s++x)=false:=by
 obtain⟨c,r,rfl⟩:=Bh (Xh h);by_cases hc:c=47
 ·have:=Sz h (.inl rfl) hc;rw[this];cases x with
  |nil=>rfl
  |cons d t=>
   show((47==(47:UInt8))&&((42==d)&&_))=false;have:((42:UInt8)==d)=false:=Fa.2 (fun e=>hx e.symm)
   grind
 grind
theorem Wy{s:Str}{P:List ze}(h:PcT s P):cmtS s=s:=by
 refine ZI ?_;have:=Vu h [] (by decide)
 grind
theorem gu(x:Str):Zo (92::10::x)=(⟨9,[92],0,[],false⟩,10::x):=rfl
theorem Y2{l:Str}(g:l≠[])(h:Zp l=true)(f:lowS l=[117,114,108])(b:Bool)(w:Str):
  Zo (ZT l++40::((if b then [32]else [])++34::w))=(⟨2,l,0,[],false⟩,(if b then [32]else [])++34::w):=by
 have d:=yC g ((if b then [32]else [])++34::w);have a:=TL h ((if b then [32]else [])++34::w);obtain⟨c,r,e⟩:=Bh (Xi d);rw[e]at d a ⊢;rw[qf,Jv d (by grind),Gi];unfold qQ;rw[a];simp only;have i:atS (past spB ((40::((if b then [32]else [])++34::w)).drop 1)) 0=34:=by cases b<;>rfl
 rw[Ha (by rfl),f,i,Ga (by decide)];rfl
theorem iW{l:Str}(h:lowS l=[117,114,108]):l≠[]:=by rintro rfl;cases h
theorem zBG(l m x:Str)(b:Bool):(ZT l++40::((if b then [32]else [])++34::(encB quoB m++[34])))++x=ZT l++40::((if b then [32]else [])++34::((encB quoB m++[34])++x)):=by
 grind
theorem fE{l m:Str}{b:Bool}(h:Zp l=true)(hl:lowS l=[117,114,108])(hm:Zp m=true)(x:Str):
  run ((ZT l++40::((if b then [32]else [])++34::(encB quoB m++[34])))++x) (⟨2,l,0,[],false⟩::((if b then [tkSp]else [])++[⟨5,m,0,[],false⟩])) x:=by
 rw[zBG];have hf:=Y2 (iW hl) h hl b ((encB quoB m++[34])++x);have hn:=yC (iW hl) ((if b then [32]else [])++34::((encB quoB m++[34])++x));have hs: ∀q:Str,q=34::((encB quoB m++[34])++x)->run q [⟨5,m,0,[],false⟩] x:=by rintro q rfl;have:=vz hm x;rw[Ra]at this;exact⟨34,_,ZI rfl,by rw[this],by rw[this];rfl⟩
 obtain⟨c,r,e⟩:=Bh (Xi hn);rw[e]at hf hn ⊢;have hc:c≠47:=by rintro rfl;exact absurd (show hdB 47=true from Ym hn) (by decide)
 refine⟨c,r,ZI (Jq (Fa.2 hc)),by rw[hf],?_⟩;rw[hf];cases b with
 |false=>exact hs _ rfl
 |true=> exact⟨32,34::((encB quoB m++[34])++x),ZI rfl,rfl,hs _ rfl⟩
theorem WW{s:Str}{P:List ze}(h:PcT s P){x:Str}(a:neu x):run (s++x) P x:=by
 cases h with
 |one t h d f=>
  have g:=zCO h d f a;have i:=Vu (.one t h d f) x (by rcases a with rfl|⟨y,rfl⟩;exact(show(0:UInt8)≠42 by decide);exact(show(47:UInt8)≠42 by decide));obtain⟨c,r,e⟩:=Bh (Xh (.one t h d f));rw[e]at g i ⊢;exact⟨c,r++x,ZI i,by grind,by rw[show c::(r++x)=(c::r)++x from rfl,g];rfl⟩
 |back=> refine⟨92,10::x,ZI rfl,by rw[gu],?_⟩;rw[gu];refine⟨10,x,ZI rfl,rfl,?_⟩;show past spB x=x;exact BN rfl a
 |url l m b h j k=>exact fE h j k x
theorem zDQ{u s r:Str}{p P:List ze}(hu:PcT u p)(hs:PcT s P)(hr:run (u++s) p r)(hT:Zy r=P):ShS s r:=by
 cases hu with
 |one t h hb hu=>
  obtain⟨c,q,h1,h2,h3⟩:=hr;have hpu:PcT (txS t) [t]:= .one t h hb hu;rw[run]at h3;cases hp:([47,42]:Str).isPrefixOf (txS t++s)with
  |true=>
   exfalso;obtain⟨c0,r0,e⟩:=Bh (Xh hpu);by_cases hc:c0=47
   ·have e2:=Sz hpu (.inl rfl) (by rw[e];exact hc);rw[e2]at hp h1;have h42:atS s 0=42:=by
     cases s with
     |nil=>cases hp
     |cons d t'=>
      have:((42:UInt8)==d)=true:=by have h':((47==(47:UInt8))&&((42==d)&&true))=true:=hp;simpa using h'
      exact(Jb.1 this).symm
    rw[Sz hs (.inr rfl) h42]at h1;have:cmtS ([47]++[42])=[]:=by rw[Pi];rfl
    grind
   grind
  |false=> rw[ZI hp]at h1;rw[<-h1]at h2 h3;have:=WX h hu h2;rw[h3]at this;exact nO h hs this hT
 |back=> obtain⟨c,q,h1,h2,h3⟩:=hr;rw[show cmtS ([92,10]++s)=92::10::s from ZI rfl]at h1;injection h1 with e1 e2;subst e1 e2;rw[gu]at h3;obtain⟨c',q',g1,g2,g3⟩:=h3;rw[show cmtS (10::s)=10::s from ZI rfl]at g1;injection g1 with e1 e2;subst e1 e2;rw[run]at g3;have g3':past spB s=r:=g3;exact nO (t:=tkSp) (.cMark 13 (by omega) (by omega)) hs (.inr (.inl ⟨rfl,g3'.symm⟩)) hT
 |url l m b h hl hm=>exact .inl (uK hr (fE h hl hm s))
def Lk(R A:Str):Prop:=cmtS R=A\/ ∃d y,digB d=true/\A=48::46::d::y/\cmtS R=46::d::y
theorem dm{R A:Str}(h:Lk R A)(a:A≠[]):cmtS R≠[]:=by
 rcases h with h|⟨d,y,_,_,h⟩
 ·rw[h];exact a
 ·rw[h];simp
theorem xD{R A x:Str}(h:Lk R A)(b:A≠[])(c:([47,42]:Str).isPrefixOf (A++x)=false):Lk (R++x) (A++x):=by
 rcases h with h|⟨d,y,a,rfl,h⟩
 ·left;rw[Er (by rw[h];exact b) (by rw[h];exact c),h]
 ·right;exact⟨d,y++x,a,rfl,by rw[Er (by rw[h];simp) (by rw[h];rfl),h];rfl⟩
theorem vD{R A:Str}(h:Lk R A)(g:([47,42]:Str).isPrefixOf A=false){t:ze}{ts:List ze}{r:Str}:run R (t::ts) r↔run A (t::ts) r:=by
 rcases h with h|⟨d,y,f,rfl,h⟩
 ·rw[<-vK (q:=R) (by simp),h]
 ·rw[<-vK (q:=R) (by simp),h];constructor
  ·rintro⟨c,q,a,e,b⟩;rw[ZI rfl]at a;rw[<-a]at e b;exact⟨48,46::d::y,ZI rfl,by rw[JB d y f];exact e,by rw[JB d y f];exact b⟩
  ·rintro⟨c,q,a,e,b⟩;rw[ZI rfl]at a;rw[<-a,JB d y f]at e b;exact⟨46,d::y,ZI rfl,e,b⟩
theorem IL{R A:Str}(h:Lk R A):Zy R=Zy A:=by
 rcases h with h|⟨d,y,a,rfl,h⟩
 ·rw[<-rz R,h]
 ·rw[<-rz R,h,qL (ZI rfl),qL (l:=48::46::d::y) (ZI rfl),JB d y a]
inductive Syn:Str->List ze->List (List ze×Str)->Prop
 |nil:Syn [] [] []
 |cmt (b s:Str) (ts P:List ze) (st:List (List ze×Str)) (h:Syn b ts st) (hb:b≠[]) (hp:PcT s P):Syn (b++cmtW++s) (ts++P) (st++[(ts,b++cmtW)])
 |no (b s:Str) (ts P:List ze) (st:List (List ze×Str)) (h:Syn b ts st) (hp:PcT s P) (ht:Zy (b++s)=ts++P):Syn (b++s) (ts++P) (st++[(ts,b)])
def Bd(b:Str)(ts L:List ze)(B:Str)(m:Nat):Prop:= ∃A R a,b=B++A/\A≠[]/\ts=L++a/\a≠[]/\run b L R/\Lk R A/\m<=R.length/\m<=A.length
structure zEu (b:Str) (ts:List ze) (st:List (List ze×Str)):Prop where
 tok:Zy b=ts
 bd: ∀k (h:k<st.length),Bd b ts st[k].1 st[k].2 (st.length - k)
 last:(st=[]/\b=[]/\ts=[])\/ ∃L B u p R,PcT u p/\b=B++u/\ts=L++p/\run b L R/\Lk R u
theorem pc_P{s:Str}{P:List ze}(h:PcT s P): ∃t us,P=t::us:=by cases h<;>exact⟨_,_,rfl⟩
theorem rW {b x:Str} {ts P L:List ze} {B:Str} {m:Nat} (h:Bd b ts L B m) (hx:x≠[])
  (hrun: ∀R,R≠[]->run b L R->(∃A,A≠[]/\Lk R A/\b=B++A)->run (b++x) L (R++x)/\(∀A,A≠[]->Lk R A->b=B++A->Lk (R++x) (A++x))):Bd (b++x) (ts++P) L B (m+1):=by
 obtain⟨A,R,us,h1,h2,h3,h4,h5,h6,h7,h8⟩:=h;have hR:R≠[]:=by intro e;have:=dm h6 h2;rw[e]at this;exact this (ZI rfl)
 obtain⟨g1,g2⟩:=hrun R hR h5 ⟨A,h2,h6,h1⟩;refine⟨A++x,R++x,us++P,by grind,by simp[h2],by grind,by simp[h4],g1,g2 A h2 h6 h1,?_⟩;have:=Ie.2 hx
 grind
theorem jW{q:Str}(h:cmtS q=[47]):cmtS (q++[42])=[]:=by
 rw[Pi q]at h;cases a:([47,42]:Str).isPrefixOf q with
 |true=>
  have b:=yl a;rw[show([47,42]:Str).length=2 from rfl]at b;rw[a,Ha rfl]at h;cases c:clsS (q.drop 2)with
  |none=>grind
  |some p=>
   rw[c]at h;have d:p.length<q.length:=by have d:=(Jk _ c).2;rw[Yb]at d;omega
   rw[Pi,Jr [42] (by exact b),a,Ha rfl,Vr b,RF [42] c];exact jW h
 |false=> rw[a,Ga (by decide)]at h;subst h;rw[Pi];rfl
termination_by q.length
theorem zDZ{q s:Str}{P us:List ze}(hs:PcT s P)(h:lV q s us)(hus:us≠[]):False:=by
 obtain⟨c,r,_,⟨⟨e,fl,hee,hw⟩,h43,hk,hds⟩,hsame,hT⟩:=h;have hbr:=Dm c (r++s);rw[hsame,hk]at hbr;have hbr':brS c (r++s)=3:=hbr.symm;have hnx:Zo (c::(r++s))=zI ((c::r)++s):=by rw[qf,hbr',Wi];rfl
 have hq2:Jf (c::r)≠[]:=by intro e2;rw[e2]at hw;cases congrArg Prod.fst hw
 have e2:Jf ((c::r)++s)=Jf (c::r)++s:=by unfold Jf;rw[(jk s (by simp)).1];exact Tk s hq2
 have hw2:=(aO (q:=Jf (c::r)) (x:=s) (by rw[hw];simp) (fun e3=>by
  rw[e3]at hw;have:=congrArg Prod.fst hw;cases this)).1
 have hexp:expS ([e,43]++s)=some (past digB s):=by
  unfold expS;have h1:(atS ([e,43]++s) 0==101||atS ([e,43]++s) 0==69)=true:=by rcases hee with rfl|rfl<;>rfl
  have h2:unsign (([e,43]++s).drop 1)=s:=rfl;rw[h1,Ha rfl,h2,hds,Ha rfl]
 have hend:zP ((c::r)++s)=(past digB s,false):=by rw[Ui,e2,hw2,hw];simp only[hexp]
 have hk2:(zI ((c::r)++s)).1.kind=12:=by rw[<-hnx,hsame,hk]
 rw[hnx]at hT;unfold zI at hk2 hT;rw[hend]at hk2 hT;simp only at hk2 hT;have hun:unsign s=s:=by unfold unsign Xf;rw[Fa.2 (pg hds).1,Fa.2 (pg hds).2.1];rfl
 cases hn:nmS (past digB s)with
 |false=>
  grind
 |true=>
  rw[hn,Ha rfl]at hT;obtain⟨n2,p2,U,t2,_,rfl,_,hU⟩:=oC hs (by grind);obtain⟨u1,_,u3⟩:=wy hU;rw[<-hun]at hn hT;cases hp:(partT (n2.natAbs%1000) p2).isEmpty with
  |true=>
   rw[DF U hp,u1]at hn hT;rcases u3 with rfl|rfl|⟨_,hu⟩
   ·cases hn
   ·cases hn
   ·rw[hu,Qy (ZI rfl)]at hT;exact hus hT.symm
  |false=>rw[CF U hp,OV]at hn;cases hn
theorem vV{R A:Str}(h:Lk R A)(b:A≠[])(y:Str):Lk (R++47::42::y) (A++47::42::y):=by
 rcases h with h|⟨d,z,a,rfl,h⟩
 ·left;rw[EE y (by rw[h];exact b),h]
 ·right;exact⟨d,z++47::42::y,a,rfl,by rw[EE y (by rw[h];simp),h];rfl⟩
theorem CY{s:Str}{P:List ze}(h:PcT s P):cmtS (47::42::42::47::s)=s:=by rw[Pi];exact Wy h
theorem Pz{s:Str}{P:List ze}(h:PcT s P):Zy s=P:=by have:=Hm (WW h (x:=[]) (.inl rfl));rw[Va,Qy (ZI rfl),Va]at this;exact this
theorem MZ{α:Type}{l a:List α}(h:l++a=l):a=[]:=by simp_all
theorem Ry{b:Str}{ts:List ze}{st:List (List ze×Str)}(h:Syn b ts st):zEu b ts st:=by
 induction h with
 |nil=>exact⟨Qy (ZI rfl),fun k h=>(by cases h), .inl ⟨rfl,rfl,rfl⟩⟩
 |cmt b s ts P st h hb hp ih=>
  obtain⟨ht,hbd,hl⟩:=ih;have hx:b++cmtW++s=b++47::42::(42::47::s):=by rw[La];rfl
  obtain⟨t0,us0,hP0⟩:=pc_P hp;have hrun:run (b++47::42::(42::47::s)) ts (47::42::(42::47::s)):=by
   rcases hl with⟨_,e,_⟩|⟨L,B,u,p,R,g1,g2,g3,g4,g5⟩
   ·exact absurd e hb
   ·have hR:R≠[]:=by intro e;have:=dm g5 (Xh g1);rw[e]at this;exact this (ZI rfl)
    obtain⟨t1,us1,hp1⟩:=pc_P g1;rw[g3];refine yz (gD (42::47::s) g4 hR) ?_;have h1:=WW g1 (x:=47::42::(42::47::s)) (.inr ⟨_,rfl⟩);rw[hp1]at h1 ⊢;exact(vD (vV g5 (Xh g1) (42::47::s)) (Vu g1 _ (by show(47:UInt8)≠42;decide))).2 h1
  have hlk:Lk (47::42::(42::47::s)) s:= .inl (CY hp);rw[hx];refine⟨?_,?_, .inr ⟨ts,b++cmtW,s,P,_,hp,by grind,rfl,hrun,hlk⟩⟩
  ·rw[Hm hrun,IL hlk,Pz hp]
  ·intro k hk;rw[Ka,Ic]at hk;by_cases hk2:k<st.length
   ·rw[List.getElem_append_left hk2];have:=rW (P:=P) (x:=47::42::(42::47::s)) (hbd k hk2) (by simp) (fun R hR h5 _=>⟨gD _ h5 hR,fun A hA h6 _=>vV h6 hA _⟩)
    grind
   ·have hke:k=st.length:=by omega
    subst hke;rw[List.getElem_append_right (by omega)];simp only[Nat.sub_self,List.getElem_cons_zero];refine⟨s,_,P,by grind,Xh hp,rfl,by rw[hP0];simp,hrun,hlk,?_⟩;have:=Ie.2 (Xh hp)
    grind
 |no b s ts P st h hp ht0 ih=>
  obtain⟨ht,hbd,hl⟩:=ih;obtain⟨t0,us0,hP0⟩:=pc_P hp;have hPne:P≠[]:=by rw[hP0];simp
  have hsne:=Xh hp
  -- what is ahead stays
  have keep: ∀(L us:List ze) (R:Str),ts=L++us->R≠[]->run b L R->run (b++s) L (R++s):=by
   intro L us R hts hR hrun;rcases PM (us:=us++P) hrun hR hsne (by grind)with h1|⟨_,q,_,h1⟩
   ·exact h1
   ·exact(zDZ hp h1 (by simp[hPne])).elim
  have keepLk: ∀(L us:List ze) (R A:Str),ts=L++us->run (b++s) L (R++s)->A≠[]->Lk R A->Lk (R++s) (A++s):=by
   intro L us R A hts hrun hA hlk;cases hpre:([47,42]:Str).isPrefixOf (A++s)with
   |false=>exact xD hlk hA hpre
   |true=>
    exfalso;rcases hlk with h1|⟨d,y,_,rfl,_⟩
    ·cases A with
     |nil=>exact hA rfl
     |cons c r=>
      cases r with
      |cons d t=>
       have:=Dr R
       grind
      |nil=>
       have hc:c=47:=by
        cases hcc:(47:UInt8)==c with
        |true=>grind
        |false=>
         grind
       subst hc;have h42:s=[42]:=by
        refine Sz hp (.inr rfl) ?_;cases s with
        |nil=>grind
        |cons d t=>
         have h':(((47:UInt8)==47)&&(((42:UInt8)==d)&&true))=true:=hpre;have:((42:UInt8)==d)=true:=by simpa using h'
         exact(Jb.1 this).symm
       have h3:=Hm hrun;rw[ht0,hts,h42,Qy (jW h1),Va,La]at h3;have:=MZ h3;simp_all
    ·cases hpre
  rcases hl with⟨e1,e2,e3⟩|⟨L,B,u,p,R,g1,g2,g3,g4,g5⟩
  ·subst e1 e2 e3;refine⟨ht0,?_, .inr ⟨[],[],s,P,s,hp,rfl,rfl,rfl, .inl (Wy hp)⟩⟩;intro k hk;have hke:k=0:=by rw[Ka,Ic,Sb]at hk;omega
   subst hke;exact⟨s,s,P,rfl,hsne,rfl,hPne,rfl, .inl (Wy hp),Ie.2 hsne,Ie.2 hsne⟩
  ·have hR:R≠[]:=by intro e;have:=dm g5 (Xh g1);rw[e]at this;exact this (ZI rfl)
   have h1:=keep L p R g3 hR g4;have h2:=keepLk L p R u g3 h1 (Xh g1) g5;have h3:=Hm h1;rw[ht0,g3,La]at h3;have h4:=List.append_cancel_left h3;obtain⟨r,h5,h6⟩:=EM h4.symm;have hsh:ShS s r:=by
    obtain⟨t1,us1,hp1⟩:=pc_P g1;refine zDQ g1 hp ?_ h6;have hpre:([47,42]:Str).isPrefixOf (u++s)=false\/cmtS (R++s)=[]:=by
     rcases h2 with h2|⟨d,y,hd,h2,_⟩
     ·left;rw[<-h2];exact Dr _
     ·grind
    rcases hpre with hpre|hpre
    ·rw[hp1]at h5 ⊢;exact(vD h2 hpre).1 h5
    ·rw[hp1]at h5;obtain⟨c,q,e,_⟩:=h5
     grind
   have hrun:run (b++s) ts r:=by rw[g3];exact yz h1 h5
   have hlk:Lk r s:=by
    rcases hsh with rfl|⟨d,y,hd,e1,e2⟩
    ·exact .inl (Wy hp)
    ·right;exact⟨d,y,hd,e1,by rw[e2];exact ZI rfl⟩
   have hrl:1<=r.length:=by
    rcases hsh with rfl|⟨d,y,_,_,e2⟩
    ·grind
    ·rw[e2];simp
   refine⟨ht0,?_, .inr ⟨ts,b,s,P,r,hp,rfl,rfl,hrun,hlk⟩⟩;intro k hk;rw[Ka,Ic]at hk;by_cases hk2:k<st.length
   ·rw[List.getElem_append_left hk2];obtain⟨A0,R0,us,f1,f2,f3,f4,f5,f6,f7,f8⟩:=hbd k hk2;have:=rW (P:=P) (x:=s) ⟨A0,R0,us,f1,f2,f3,f4,f5,f6,f7,f8⟩ hsne (fun R hR h5 _=>⟨keep _ us R f3 hR h5,fun A hA h6 _=>keepLk _ us R A f3 (keep _ us R f3 hR h5) hA h6⟩)
    grind
   ·have hke:k=st.length:=by omega
    subst hke;rw[List.getElem_append_right (by omega)];simp only[Nat.sub_self,List.getElem_cons_zero];refine⟨s,r,P,rfl,hsne,rfl,hPne,hrun,hlk,?_⟩;have:=Ie.2 hsne
    grind
def pcN:List ze->Nat
 |[]=>0
 |t::r=>if t.kind==9&&t.text==[92]then 2 else if Hg t then(if Ki r then 3 else 2)else 1
def catT:List ze->Str
 |[]=>[]
 |t::r=>txS t++catT r
def pcS:List ze->Str
 |[]=>[]
 |t::r=>if t.kind==9&&t.text==[92]then [92,10]else catT (t::r)
theorem BL{t:ze}(h:yf t=true)(a:(t.kind==13)=true):t=tkSp:=by
 rw[Jb]at a;cases Pq h with
 |cId|cFn|cAt|cHash|cStr|cUrl|cDel|cNum|cPct|cDim=>simp at a
 |cMark k c b=>grind
theorem AX{t:ze}(h:yf t=true)(a:(t.kind==5)=true): ∃m,Zp m=true/\t=⟨5,m,0,[],false⟩:=by
 rw[Jb]at a;cases Pq h with
 |cStr l b=>grind
 |cId|cFn|cAt|cHash|cUrl|cDel|cNum|cPct|cDim=>simp at a
 |cMark k d c=>grind
theorem zES{t:ze}(h:yf t=true)(a:(t.kind==9&&t.text==[92])=true):t=⟨9,[92],0,[],false⟩:=by
 rw[Ea,Jb,Jb]at a;cases Pq h with
 |cDel c h=>grind
 |cId|cFn|cAt|cHash|cStr|cUrl|cNum|cPct|cDim=>simp at a
 |cMark k d b=>grind
theorem zAn{t:ze}(h:yf t=true)(a:Hg t=true): ∃l,Zp l=true/\lowS l=[117,114,108]/\t=⟨2,l,0,[],false⟩:=by
 unfold Hg at a;rw[Ea,Jb,Jb]at a;cases Pq h with
 |cFn l d c=>grind
 |cId|cAt|cHash|cStr|cUrl|cDel|cNum|cPct|cDim=>simp at a
 |cMark k b e=>grind
theorem zGd{t:ze}(h:(t.kind==9&&t.text==[92])=false): ¬(t.kind=9/\t.text=[92]):=by
 grind
theorem Sv(t:ze)(r:List ze):pcN (t::r)=if t.kind==9&&t.text==[92]then 2 else if Hg t then(if Ki r then 3 else 2)else 1:=rfl
theorem vO(t:ze)(r:List ze):okAt (t::r)=((!(t.kind==9&&t.text==[92])||Ki r)&&(!(Hg t)||Yj r)):=rfl
theorem FB(s:ze)(r:List ze):Yj (s::r)=(bif s.kind==13 then(match r with|u::_=>u.kind==5|[]=>false)else s.kind==5):=rfl
theorem zGe{t:ze}{r:List ze}(e: ∀u∈t::r,yf u=true)(d:okAt (t::r)=true): ∃P Q,t::r=P++Q/\P.length=pcN (t::r)/\PcT (pcS P) P:=by
 have c:=e t (Ab ..);rw[vO,Ea]at d;rw[Sv];cases h:t.kind==9&&t.text==[92]with
 |true=>
  rw[h,ja,Uc]at d;rw[Ha rfl];cases r with
  |nil=>cases d.1
  |cons s r=> have g:=BL (e s (by simp)) d.1;have p:=zES c h;subst g p;exact⟨[⟨9,[92],0,[],false⟩,tkSp],r,rfl,rfl, .back⟩
 |false=>
  rw[Ga (by decide)];cases j:Hg t with
  |false=>
   rw[Ga (by decide)];have f:pcS [t]=txS t:=by show(if(t.kind==9&&t.text==[92])=true then [92,10]else txS t++[])=_;rw[h,Ga (by decide),Va]
   exact⟨[t],r,rfl,rfl,by rw[f];exact .one t (Pq c) (zGd h) j⟩
  |true=>
   rw[Ha rfl];rw[j,ja,Uc]at d;obtain⟨l,n,o,rfl⟩:=zAn c j;have a:=d.2;have b: ∀m:Str,txS ⟨5,m,0,[],false⟩++[]=34::(encB quoB m++[34]):=fun m=>by rw[Ol,Va]
   cases r with
   |nil=>cases a
   |cons s r=>
    cases g:s.kind==13 with
    |false=>
     rw[FB,g,Ba]at a;obtain⟨m,i,rfl⟩:=AX (e s (by simp)) a;rw[show Ki (⟨5,m,0,[],false⟩::r)=false from rfl,Ga (by decide)];refine⟨[⟨2,l,0,[],false⟩,⟨5,m,0,[],false⟩],r,rfl,rfl,?_⟩;have f:pcS [⟨2,l,0,[],false⟩,⟨5,m,0,[],false⟩]=ZT l++40::((if false then [32]else [])++34::(encB quoB m++[34])):=by show txS ⟨2,l,0,[],false⟩++(txS ⟨5,m,0,[],false⟩++[])=_;rw[b,aj,La];rfl
     rw[f];exact .url l m false n o i
    |true=>
     have k:=BL (e s (by simp)) g;subst k;cases r with
     |nil=>cases a
     |cons u r=>
      obtain⟨m,i,rfl⟩:=AX (e u (by simp)) a;rw[show Ki (tkSp::⟨5,m,0,[],false⟩::r)=true from rfl,Ha rfl];refine⟨[⟨2,l,0,[],false⟩,tkSp,⟨5,m,0,[],false⟩],r,rfl,rfl,?_⟩;have f:pcS [⟨2,l,0,[],false⟩,tkSp,⟨5,m,0,[],false⟩]=ZT l++40::((if true then [32]else [])++34::(encB quoB m++[34])):=by show txS ⟨2,l,0,[],false⟩++(txS tkSp++(txS ⟨5,m,0,[],false⟩++[]))=_;rw[b,aj,show txS tkSp=[32]from rfl,La];rfl
      rw[f];exact .url l m true n o i
theorem dY{t:ze}{r:List ze}(h:t.text.length<=big)(a:okAt (t::r)=true):Qk (t::r)=some ((pcN (t::r):Nat):Int):=by
 have m:geti (t::r) 0=some t:=rfl;have k:=Lr (t::r) 1 13;have e:=Lr (t::r) 1 5;have b:=Lr (t::r) 2 5;unfold Qk;simp only[m,zb,Aa,OB h (show([117,114,108]:Str).length<=big by decide),wu,qb];simp only[Int.natCast_one]at k e;replace b:ZA ((2,5),t::r)=_:=b;have g:ZA ((1,13),t::r)=some (Ki r):=by rw[k];cases r<;>rfl
 rw[g];rw[vO]at a;unfold Hg at a;rw[Sv];unfold Hg;cases j:(t.kind==9&&t.text==[92])with
 |true=>
  grind
 |false=>
  have n:(bif t.kind==9 then t.text==[92]else false)=false:=by
   cases o:t.kind==9
   ·rfl
   ·grind
  simp only[n,j,Ba,Ua,Yd,ma];rw[j,Ua,Yd,ma]at a;cases f:(t.kind==2&&lowS t.text==[117,114,108])with
  |false=>
   grind
  |true=>
   rw[f,ja,Uc]at a;rw[Ea]at f;rw[f.1,f.2];simp only[Ca,Aa];cases r with
   |nil=>cases a
   |cons s r=>
    cases d:s.kind==13 with
    |false=>
     have i:Ki (s::r)=false:=d;have l:ZA ((1,5),t::s::r)=some (s.kind==5):=e;have c:(s.kind==5)=true:=by rw[FB,d]at a;exact a
     simp only[i,Ba,zh,l,Aa,c,ja];rfl
    |true=>
     have i:Ki (s::r)=true:=d;simp only[i,Ca,zh,b,Aa];cases r with
     |nil=>rw[FB,d]at a;cases a
     |cons u r=>
      have c:(u.kind==5)=true:=by rw[FB,d]at a;exact a
      show(bif !(u.kind==5)then some 0 else some (w64 (2+1)))=some 3;rw[c];rfl
def clB(l:Str):Bool:=l.all fun c=> !(c==0||c==12||c==13)
theorem qO(a b:Str):clB (a++b)=(clB a&&clB b):=by unfold clB;grind
theorem SG: ∀l:Str,clB l=true->Proofs.Cl.cleanS l=l
 |[],_=>by rw[Proofs.Cl.cleanS]
 |c::r,h=>by
  unfold clB at h;rw[xc,Ea]at h;have e:=SG r h.2;have d:(c==0||c==12||c==13)=false:=by simpa using h.1
  rw[Oc,Oc]at d;obtain⟨⟨f,a⟩,b⟩:=d;rw[Proofs.Cl.cleanS,f,a,b,e]
  ·rfl
  grind
theorem ll(c:UInt8):clB (escC c)=true/\(letB c=true->clB [c]=true)/\(c≠0->quoB c=false->clB [c]=true)/\(c≠0->urB c=false->clB [c]=true)/\(Lh c.toNat=true->clB [c]=true)/\(digB c=true->clB [c]=true):=by
 have: ∀n:Nat,n<256->clB (escC (UInt8.ofNat n))=true/\(letB (UInt8.ofNat n)=true->clB [UInt8.ofNat n]=true)/\(UInt8.ofNat n≠0->quoB (UInt8.ofNat n)=false->clB [UInt8.ofNat n]=true)/\(UInt8.ofNat n≠0->urB (UInt8.ofNat n)=false->clB [UInt8.ofNat n]=true)/\(Lh (UInt8.ofNat n).toNat=true->clB [UInt8.ofNat n]=true)/\(digB (UInt8.ofNat n)=true->clB [UInt8.ofNat n]=true):=by decide+kernel
 have:=this c.toNat (Eb c);simp_all
theorem Kk(dash:Bool): ∀(k:Nat) (l:Str),clB (encW dash k l)=true
 |_,[]=>by rw[encW];rfl
 |k,c::r=>by
  obtain⟨b,a,_⟩:=ll c;rw[encW,qO,Kk dash (k - 1) r,Pb];unfold pcW
  grind
theorem Uz{p:UInt8->Bool}(a: ∀c,c≠0->p c=false->clB [c]=true): ∀l:Str,Zp l=true->clB (encB p l)=true
 |[],_=>by rw[encB];rfl
 |c::r,h=>by
  obtain⟨e,d⟩:=Wj h;rw[encB,qO,Uz a r d,Pb];cases b:p c with
  |true=>exact(ll c).1
  |false=>exact a c e b
theorem lW{l:Str}(h:l.all digB=true):clB l=true:=by
 induction l with
 |nil=>rfl
 |cons c r a=> rw[xc,Ea]at h;rw[show c::r=[c]++r from rfl,qO,(ll c).2.2.2.2.2 h.1,a h.2];rfl
theorem cl_T(n:Int)(p:Bool):clB (numT n p)=true:=by
 obtain⟨a,_,_⟩:=Br (n.natAbs / 1000);have c:=IG (n:=n) (p:=p);rw[eu,qO,qO,lW a];have b:clB (sgT n)=true:=by unfold sgT;split<;>rfl
 rw[b];cases (partT (n.natAbs%1000) p).isEmpty with
 |true=>rfl
 |false=> show clB (46::partT (n.natAbs%1000) p)=true;rw[show 46::partT (n.natAbs%1000) p=[46]++partT (n.natAbs%1000) p from rfl,qO,lW c];rfl
theorem zCU(w:Str):clB (jf w)=true:=by
 cases w with
 |nil=>rfl
 |cons c r=>
  rw[Js];cases Bj (c::r)with
  |true=>rw[Ca,qO,(ll c).1,Kk];rfl
  |false=>exact Kk _ _ _
theorem vJ{s:Str}{P:List ze}(h:PcT s P):clB s=true:=by
 cases h with
 |one t h hb hu=>
  cases h with
  |cId l h0 h=>rw[vk];exact Kk _ _ _
  |cFn l h0 h=>rw[aj,qO];rw[show clB (ZT l)=true from Kk _ _ _];rfl
  |cAt l h0 h=>rw[om,show 64::ZT l=[64]++ZT l from rfl,qO,show clB (ZT l)=true from Kk _ _ _];rfl
  |cHash l f h0 h hbb=>
   rw[dn,show 35::ag f l=[35]++ag f l from rfl,qO];have:clB (ag f l)=true:=by cases f<;>exact Kk _ _ _
   rw[this];rfl
  |cStr l h=>rw[Ol,show 34::(encB quoB l++[34])=[34]++(encB quoB l++[34])from rfl,qO,qO,Uz (fun c h0 hc=>(ll c).2.2.1 h0 hc) l h];rfl
  |cUrl l h=>rw[Gn,qO,qO,Uz (fun c h0 hc=>(ll c).2.2.2.1 h0 hc) l h];rfl
  |cDel c h=>rw[Pn];exact(ll c).2.2.2.2.1 h
  |cNum n f h1 h2 hf=>rw[Kn];exact cl_T _ _
  |cPct n h1 h2=>rw[Jn,qO,cl_T];rfl
  |cDim n u f h1 h2 hf h0 h=>rw[Nn,qO,cl_T,zCU];rfl
  |cMark k h1 h2=> rw[bn h1 h2];rcases Ar h1 h2 with rfl|rfl|rfl|rfl|rfl|rfl|rfl|rfl|rfl|rfl|rfl|rfl<;>rfl
 |back=>rfl
 |url l m b h hl hm=> rw[qO,show clB (ZT l)=true from Kk _ _ _,show∀z:Str,40::z=[40]++z from fun _=>rfl,qO,qO,show∀z:Str,34::z=[34]++z from fun _=>rfl,qO,qO,Uz (fun c h0 hc=>(ll c).2.2.1 h0 hc) m hm];cases b<;>rfl
theorem kW{b:Str}{ts:List ze}{st:List (List ze×Str)}(h:Syn b ts st):clB b=true:=by
 induction h with
 |nil=>rfl
 |cmt b s ts P st h e c a=>rw[qO,qO,a,vJ c];rfl
 |no b s ts P st h c d a=>rw[qO,a,vJ c];rfl
def tokB(x y:ze):Bool:=x.kind==y.kind&&(x.text==y.text&&(x.num==y.num&&(x.unit==y.unit&&(x.flag==y.flag&&true))))
def Fg:List ze->List ze->Bool
 |[],[]=>true
 |x::l,y::m=>tokB x y&&Fg l m
 |_,_=>false
theorem YZ(x y:ze)(l m:List ze):Fg (x::l) (y::m)=(tokB x y&&Fg l m):=rfl
theorem zBy{x y:ze}:tokB x y=true↔x=y:=by
 obtain⟨a,b,c,d,e⟩:=x;obtain⟨j,f,g,i,h⟩:=y;unfold tokB
 grind
theorem Km: ∀{l m:List ze},Fg l m=true↔l=m
 |[],[]=>by simp[Fg]
 |x::l,y::m=>by rw[Fg,Ea,zBy,Km,List.cons.injEq]
 |[],y::m=>by simp[Fg]
 |x::l,[]=>by simp[Fg]
theorem OO{l m:List ze}(h:l.length≠m.length):Fg l m=false:=by
 cases a:Fg l m with
 |false=>rfl
 |true=>rw[Km.1 a]at h;grind
theorem eY {l m:List ze} (hl:l.length=m.length) (hn:l.length<=big) {step:Int->Option (LO Int Unit Bool)}
  (h1: ∀(i:Nat) (h:i<l.length),step (i:Int)=bif !(tokB l[i] (m[i]'(hl▸h)))then some (.ret false)else some (.again (w64 ((i:Int)+1))))
  (h2:step (l.length:Int)=some (.out ())):Ze step 0 (fun _=>some true)=some (Fg l m):=by
 have hb:big=4194304:=rfl;refine Mm (fun s=> ∃i:Nat,i<=l.length/\s=(i:Int)/\Fg (l.drop i) (m.drop i)=Fg l m) (fun s=>l.length - s.toNat) _ ?_ ⟨0,by omega,rfl,rfl⟩;rintro _ ⟨i,hi,rfl,he⟩;rcases Xc i l.length with h|h
 ·rw[h1 i h];have hm:i<m.length:=hl▸h;rw[show l.drop i=l[i]::l.drop (i+1)from Bb h,show m.drop i=m[i]::m.drop (i+1)from Bb hm,YZ]at he;cases ht:tokB l[i] (m[i]'(hl▸h))with
  |true=> rw[ht,ma]at he;rw[ja,Ba,Zh (by omega) (by omega)];exact .inl ⟨_,rfl,⟨i+1,by omega,by omega,he⟩,by omega⟩
  |false=>
   grind
 ·have:i=l.length:=by omega
  subst this;rw[Pe (Xa _),Pe (by omega)]at he;exact .inr (.inl ⟨(),h2,by rw[<-he];rfl⟩)
theorem xW{α:Type}{l:List α}{i:Nat}(h:i<l.length):geti l (i:Int)=some l[i]:=Zq h
theorem int_ne{n m:Nat}:(((n:Int) != (m:Int)):Bool)= !(n==m):=by
 grind
theorem zAj{l m:List ze}(d:l.length<=big):ZN (l,m)=some (Fg l m):=by
 unfold ZN;rw[int_ne];cases b:l.length==m.length with
 |false=>rw[Ua,Ca,OO (Fa.1 b)]
 |true=>
  rw[ja,Ba];have a:=Jb.1 b;refine eY a d (fun i h=> ?_) ?_
  ·have c:i<m.length:=a▸h;have e:decide ((i:Int)<(l.length:Int))=true:=Ia (by omega);simp only[e,Ca,xW h,xW c,zb,Aa];rfl
  grind
def wrF:Nat->List ze->Str->List ze->Str
 |0,_,b,_=>b
 |_+1,_,b,[]=>b
 |n+1,a,b,t::r=>
  wrF n (a++(t::r).take (pcN (t::r))) ((if Fg (Zy (b++pcS ((t::r).take (pcN (t::r))))) (a++(t::r).take (pcN (t::r)))then b else b++cmtW)++pcS ((t::r).take (pcN (t::r)))) ((t::r).drop (pcN (t::r)))
def wrS(l:List ze):Str:=wrF l.length [] [] l
theorem XK: ∀(n:Nat) (ts:List ze) (b:Str) (r:List ze),b.length<=(wrF n ts b r).length
 |0,_,_,_=>Xa _
 |_+1,_,_,[]=>Xa _
 |n+1,ts,b,t::r=>by
  rw[wrF];refine Xb ?_ (XK n _ _ _)
  grind
def di(l:List ze):Prop:=(∀t∈l,yf t=true/\t.text.length<=5000/\t.unit.length<=5000)/\ ∀k,k<l.length->okAt (l.drop k)=true
theorem UO{l:List ze}(h:di l)(n:Nat):di (l.drop n):=by refine⟨fun t b=>h.1 t (List.mem_of_mem_drop b),fun k a=> ?_⟩;rw[Yb]at a;rw[Ve];exact h.2 (n+k) (by omega)
theorem BF{t:ze}{r:List ze}:1<=pcN (t::r):=by rw[Sv];grind
theorem zDP{t:ze}{r:List ze}:pcN (t::r)<=3:=by rw[Sv];grind
theorem iK{t:ze}{r:List ze}(h:di (t::r)):pcN (t::r)<=(t::r).length/\PcT (pcS ((t::r).take (pcN (t::r)))) ((t::r).take (pcN (t::r))):=by
 obtain⟨P,Q,d,c,b⟩:=zGe (fun u a=>(h.1 u a).1) (h.2 0 (by simp))
 grind
theorem zFY{t:ze}(e:yf t=true)(g:t.text.length<=5000)(h2:t.unit.length<=5000):(txS t).length<=20100:=by
 have i: ∀l:Str,l.length<=5000->(ZT l).length<=20000:=fun l p=>by have:=Io (l==[45]) (QT l) l;unfold ZT;omega
 cases Pq e with
 |cId l d h=>rw[vk];grind
 |cFn l d h=>rw[aj,Ka];grind
 |cAt l d h=>rw[om,Ja];grind
 |cHash l f d h j=>
  rw[dn,Ja];have s:=i l g;have o:=Io false 0 l;have m:l.length<=5000:=g;cases f with
  |true=>rw[show ag true l=ZT l from rfl];omega
  |false=>rw[show ag false l=encW false 0 l from rfl];omega
 |cStr l h=>rw[Ol];have:=kv quoB l;grind
 |cUrl l h=>rw[Gn];have:=kv urB l;grind
 |cDel c h=>rw[Pn];simp
 |cNum n f a b e=>rw[Kn];have:=(Iy a b (!f)).1;omega
 |cPct n a b=>rw[Jn,Ka,Ic];have:=(Iy a b false).1;omega
 |cDim n u f a b e d h=>
  rw[Nn,Ka];have:=(Iy a b (!f)).1;have m:u.length<=5000:=h2;have q:(jf u).length<=20004:=by
   cases u with
   |nil=>grind
   |cons c r=>
    rw[Js];cases Bj (c::r)with
    |true=>
     rw[Ca,Ka];have:=Dw c;have:=Io false 0 r
     grind
    |false=>grind
  omega
 |cMark k a b=>rw[bn a b];have:=iO k;omega
theorem TF: ∀{l:List ze},(∀t∈l,yf t=true/\t.text.length<=5000/\t.unit.length<=5000)->(catT l).length<=20100*l.length
 |[],_=>Ub _
 |t::r,h=>by obtain⟨a,b,c⟩:=h t (Ab ..);have:=zFY a b c;have:=TF (l:=r) (fun u d=>h u (aa _ d));rw[catT,Ka,Ja];omega
theorem kL: ∀(l m:List ze),catT (l++m)=catT l++catT m
 |[],m=>rfl
 |t::l,m=>by rw[Ra,catT,catT,kL l m,La]
theorem UX {R:Type} {step:Int×List UInt8->Option (LO (Int×List UInt8) (List UInt8) R)} {l:List ze} (m:l.length<=3) (e: ∀t∈l,yf t=true/\t.text.length<=5000/\t.unit.length<=5000)
  (f: ∀(i:Nat) (a:Str) (hi:i<l.length),step ((i:Int),a)=(Wm (l[i],a)).bind fun j=>some (LO.again (w64 ((i:Int)+1),j)))
  (h2: ∀a,step ((l.length:Int),a)=some (.out a)):Mg step (0,[])=some (.out (catT l)):=by
 refine ZR (fun z=> ∃(i:Nat),i<=l.length/\z=((i:Int),catT (l.take i))) (fun z=>l.length - z.1.toNat) _ ?_ ⟨0,by omega,rfl⟩;rintro _ ⟨i,hi,rfl⟩;rcases Xc i l.length with h|h
 ·obtain⟨a,b,c⟩:=e l[i] (Ac h);have g:=TF (l:=l.take i) (fun t d=>e t (List.mem_of_mem_take d));rw[ic]at g;have k:min i l.length<=2:=by omega
  have d:=zBw (acc:=catT (l.take i)) a b c (by
   grind)
  rw[f i _ h,d,Aa];refine .inl ⟨_,rfl,⟨i+1,by omega,?_⟩,by simp only;rw[Zh (by omega) (by omega)];omega⟩;rw[Zh (by omega) (by omega),Bc h,kL];refine Prod.ext (by grind) ?_;show _=catT (l.take i)++(txS l[i]++[])
  grind
 grind
def stO(x:List ze×Str):zw:=⟨(x.1.length:Int),(x.2.length:Int)⟩
theorem mX{b s A B:Str}{ts L us P:List ze}{m:Nat}(h:b=B++A/\A≠[]/\ts=L++us/\us≠[]/\ ∃R,run b L R/\Lk R A/\4<=R.length/\4<=A.length):Fg (Zy (A++s)) (us++P)=Fg (Zy (b++s)) (ts++P):=by
 obtain⟨o,k,i,n,R,j,a,l,e⟩:=h;have g:=Hm (tK s j l);have f:Lk (R++s) (A++s):=by
  refine xD a k ?_;rcases a with a|⟨d,y,_,rfl,_⟩
  ·cases A with
   |nil=>grind
   |cons c t=>
    cases t with
    |cons d u=>rw[nN,<-a];exact Dr R
    |nil=>simp at e
  ·rfl
 rw[IL f]at g;rw[g,i,Bool.eq_iff_iff,Km,Km,La,List.append_cancel_left_eq]
theorem YM{x:List ze}(h:gluS x=0):x.length<=1500/\(∀t∈x,yf t=true)/\ ∀k,k<x.length->okAt (x.drop k)=true:=by
 unfold gluS at h;cases hl:decide (x.length<=1500)with
 |false=>grind
 |true=>
  rw[hl,Ca]at h;cases ha:(List.range x.length).all (Xm x)with
  |false=>grind
  |true=>
   rw[Vb]at ha;have key: ∀k,k<x.length->yf (x.getD k default)=true/\okAt (x.drop k)=true:=by intro k hk;have:=ha k (Gd.2 hk);unfold Xm at this;rw[Ea]at this;exact this
   refine⟨ib hl,fun t ht=> ?_,fun k hk=>(key k hk).2⟩;obtain⟨k,hk,rfl⟩:=List.mem_iff_getElem.1 ht
   grind
theorem zEA{t:ze}{r:List ze}:(bif t.kind==9 then((pcN (t::r):Nat):Int)==2 else false)=(t.kind==9&&t.text==[92]):=by
 cases a:t.kind==9 with
 |false=>rfl
 |true=>
  have b:Hg t=false:=by unfold Hg;rw[Jb.1 a];rfl
  rw[Sv,a,Ca,b]
  grind
theorem zBd{t:ze}{r:List ze}:pcS ((t::r).take (pcN (t::r)))=bif (t.kind==9&&t.text==[92])then [92,10]else catT ((t::r).take (pcN (t::r))):=by
 obtain⟨k,a⟩: ∃k,pcN (t::r)=k+1:=⟨pcN (t::r) - 1,by have:=BF (t:=t) (r:=r);omega⟩;rw[a,Ye,pcS]
 grind
theorem vL{n:Nat}{ts:List ze}{b:Str}{t:ze}{r:List ze}{s:Str}{P:List ze}(a:(t::r).take (pcN (t::r))=P)(c:pcS P=s):
  wrF (n+1) ts b (t::r)=wrF n (ts++P) ((if Fg (Zy (b++s)) (ts++P)then b else b++cmtW)++s) ((t::r).drop (pcN (t::r))):=by
 subst c a;rw[wrF]
theorem ap16{n:Nat}(h:n<=99999):zH n 1 16=true:=uj (by omega) (by omega)
theorem sW{n m:Nat}(h:n+m<=200000):zH n m 1=true:=by
 unfold zH
 grind
theorem zDh{R:Type}{i:Int}{b:Str}{ts:List ze}{st:List (List ze×Str)}(h:zEu b ts st)(g:st.length<=100000): ∃L B A us,
  (bif decide (w64 (((st.map stO).length:Int) - 4)>=0)then
        need (decide (0<=w64 (((st.map stO).length:Int) - 4))&&decide (w64 (((st.map stO).length:Int) - 4)<((st.map stO).length:Int)))<|
        ((st.map stO)[(w64 (((st.map stO).length:Int) - 4)).toNat]?).bind fun c=>
        some (LX.out (i,b,st.map stO,c))
       else
        some (LX.out (i,b,st.map stO,(⟨0,0⟩:zw))))=(some (LX.out (i,b,st.map stO,stO (L,B))):Option (LX (Int×List UInt8×List zw×zw) R))/\
  b=B++A/\ts=L++us/\ ∀s P,Fg (Zy (A++s)) (us++P)=Fg (Zy (b++s)) (ts++P):=by
 rw[Kb];by_cases l:4<=st.length
 ·obtain⟨A,R,us,d,k,e,a,j,f,o,n⟩:=h.bd (st.length - 4) (by omega);refine⟨st[st.length - 4].1,st[st.length - 4].2,A,us,?_,d,e,fun s P=>mX (m:=0) ⟨d,k,e,a,R,j,f,by omega,by omega⟩⟩;rw[Zh (by omega) (by omega),Ia (by omega),Ca,Ia (by omega),Bool.and_self,zX,show((st.length:Int) - 4).toNat=st.length - 4 by omega,Na,Ta (by omega)];rfl
 ·refine⟨[],[],b,ts,?_,rfl,rfl,fun s P=>rfl⟩;rw[Zh (by omega) (by omega),Ya (by omega),Ba];rfl
theorem jX{x:List ze}(hx: ∀t∈x,t.text.length<=5000/\t.unit.length<=5000):
  Bp x=some (if gluS x=0 then(if 4000<(wrS x).length then([],28)else(wrS x,0))else([],gluS x)):=by
 unfold Bp;have hbig:big=4194304:=rfl;rw[DT (fun t ht=>by grind)];simp only[zb,Aa];by_cases hg:gluS x=0
 ·rw[Ha hg,hg,show((0:Int) != 0)=false from rfl,Ba];obtain⟨hlen,hfine,hok⟩:=YM hg;have hrest:di x:=⟨fun t ht=>⟨hfine t ht,hx t ht⟩,hok⟩;refine Mm (fun z=> ∃(i:Nat) (b:Str) (st:List (List ze×Str)) (n:Nat),z=((i:Int),b,st.map stO)/\i<=x.length/\Syn b (x.take i) st/\b.length<=4000/\x.length - i<=n/\wrF n (x.take i) b (x.drop i)=wrS x/\st.length<=i) (fun z=>x.length - z.1.toNat) _ ?_
   ⟨0,[],[],x.length,rfl,Ub _, .nil,Ub _,Xa _,rfl,Xa _⟩
  rintro _ ⟨i,b,st,n,rfl,hi,hsyn,hbl,hn,hW,hst⟩;simp only;rcases Xc i x.length with h|h
  ·have hro:=UO hrest i;have hdr:x.drop i=x[i]::x.drop (i+1):=Bb h;obtain⟨t,ht⟩: ∃t,t=x[i]:=⟨_,rfl⟩;obtain⟨r,hr⟩: ∃r,r=x.drop (i+1):=⟨_,rfl⟩;rw[<-ht,<-hr]at hdr;rw[hdr]at hro hW;have hlr:(t::r).length=x.length - i:=by rw[<-hdr,Yb]
   obtain⟨hk1,hpc⟩:=iK hro;have hk0:=BF (t:=t) (r:=r);have hk3:=zDP (t:=t) (r:=r);obtain⟨k,hk⟩: ∃k,pcN (t::r)=k:=⟨_,rfl⟩;obtain⟨P,hP⟩: ∃P,(t::r).take k=P:=⟨_,rfl⟩;obtain⟨s,hs⟩: ∃s,pcS P=s:=⟨_,rfl⟩;have hst':=zBd (t:=t) (r:=r);have hstep:=fun m=>vL (n:=m) (ts:=x.take i) (b:=b) (t:=t) (r:=r) (s:=s) (P:=P) (by rw[hk];exact hP) hs;have e3:Qk (List.drop i x)=some ((k:Nat):Int):=by rw[hdr,<-hk];exact dY (by grind) (hro.2 0 (by simp))
   have hb2:=zEA (t:=t) (r:=r);rw[hk]at hk0 hk1 hk3 hpc hst' hb2 hstep;rw[hP]at hpc hst';rw[hs]at hpc hst';rw[hlr]at hk1;have e1:decide ((i:Int)<(x.length:Int))=true:=Ia (by omega);have e2:(decide ((0:Int)<=(i:Int))&&decide ((i:Int)<=(x.length:Int)))=true:=by rw[Ia (by omega),Ia (by omega)];rfl
   have e4:w64 ((i:Int)+((k:Nat):Int))=((i+k:Nat):Int):=by rw[Zh (by omega) (by omega)];omega
   have e5:(decide ((0:Int)<=(i:Int))&&(decide ((i:Int)<=((i+k:Nat):Int))&&decide (((i+k:Nat):Int)<=(x.length:Int))))=true:=by rw[Ia (by omega),Ia (by omega),Ia (by omega)];rfl
   have e6:geti x (i:Int)=some t:=by rw[Zq h,ht]
   have e7:List.drop i (List.take (i+k) x)=P:=by rw[List.drop_take,hdr,show i+k - i=k by omega,hP]
   simp only[e1,e2,e3,e4,e5,e6,Ca,zX,Aa,Db,e7];have hPl:P.length<=3:=by rw[<-hP,ic];omega
   have hPf: ∀u∈P,yf u=true/\u.text.length<=5000/\u.unit.length<=5000:=fun u hu=>hro.1 u (by grind);have hsl:s.length<=60400:=by
    have:=TF hPf;rw[hst'];cases t.kind==9&&t.text==[92]with
    |true=>grind
    |false=>grind
   rw[qY (UX (l:=P) hPl hPf (fun j a hj=> ?_) (fun a=> ?_))]
   ·rw[hb2];have hj9:(bif (t.kind==9&&t.text==[92])then some (LX.out ((i:Int),b,st.map stO,[(92:UInt8),(10:UInt8)]))else some (LX.out ((i:Int),b,st.map stO,catT P)))=(some (LX.out ((i:Int),b,st.map stO,s)):Option (LX (Int×List UInt8×List zw×List UInt8) (LO (Int×List UInt8×List zw) (List UInt8) (Str×Int)))):=by rw[hst'];cases t.kind==9&&t.text==[92]<;>rfl
    rw[hj9,zh];simp only;have hsok:=Ry hsyn;obtain⟨L,B,A,us,hfrom,hbA,hts,hwin⟩:=zDh (R:=LO (Int×List UInt8×List zw) (List UInt8) (Str×Int)) (i:=(i:Int)) hsok (by omega);rw[hfrom,zh];have hBl:B.length<=b.length:=by rw[hbA,Ka];omega
    have hAl:A.length<=b.length:=by rw[hbA,Ka];omega
    have f1:(decide ((0:Int)<=(stO (L,B)).at_)&&decide ((stO (L,B)).at_<=(b.length:Int)))=true:=by show(decide ((0:Int)<=(B.length:Int))&&decide ((B.length:Int)<=(b.length:Int)))=true;rw[Ia (by omega),Ia (by omega)];rfl
    have f2:(stO (L,B)).at_.toNat=B.length:=Db _;have f3:decide (B.length+(b.length - B.length)<=b.length)=true:=Ia (by omega);have f4:List.take (b.length - B.length) (List.drop B.length b)=A:=by rw[hbA,List.drop_left,Ka,show B.length+A.length - B.length=A.length by omega,ae]
    have f5:Rf A.length s.length=true:=Jm.2 (by omega);simp only[f1,f2,f3,f4,f5,zX,MP,Aa,e4,Db];have htl:(stO (L,B)).token=(L.length:Int):=rfl;have hLl:L.length<=i:=by have:=congrArg List.length hts;rw[ic,Ka]at this;omega
    have htk:List.drop L.length (List.take (i+k) x)=us++P:=by
     have:List.take (i+k) x=L++(us++P):=by rw[List.take_add,hdr,hP,hts,La]
     rw[this,List.drop_left]
    have hPlen:P.length=k:=by rw[<-hP,ic];omega
    have husP:(us++P).length<=1500:=by have h1:=congrArg List.length hts;rw[ic,Ka]at h1;rw[Ka,hPlen];omega
    have hcl:clB (A++s)=true:=by have h1:=kW hsyn;rw[hbA,qO,Ea]at h1;rw[qO,h1.2,vJ hpc];rfl
    obtain⟨c,hc⟩: ∃c,c=Fg (Zy (b++s)) (x.take i++P):=⟨_,rfl⟩;have hwinc:Fg (Zy (A++s)) (us++P)=c:=by rw[hc];exact hwin s P
    obtain⟨c',hc'⟩: ∃c',c'=(decide ((A++s).length<=4000)&&c):=⟨_,rfl⟩;have hneed:(decide ((0:Int)<=(stO (L,B)).token)&&(decide ((stO (L,B)).token<=((i+k:Nat):Int))&&decide (((i+k:Nat):Int)<=(x.length:Int))))=true:=by rw[htl,Ia (by omega),Ia (by omega),Ia (by omega)];rfl
    have hcat: ∀(E:Option (LX (Int×List zw×List UInt8) (LO (Int×List UInt8×List zw) (List UInt8) (Str×Int)))),
      E=(need (decide ((0:Int)<=(stO (L,B)).token)&&(decide ((stO (L,B)).token<=((i+k:Nat):Int))&&decide (((i+k:Nat):Int)<=(x.length:Int)))|| !(!((qH (A++s)).2 != 0)))<|
       (zo (!((qH (A++s)).2 != 0)) (ZN ((qH (A++s)).1,List.drop (stO (L,B)).token.toNat (List.take (i+k) x))) (default:Bool)).bind fun y13=>
       bif bif (qH (A++s)).2 != 0 then true else !y13 then
        need (zH b.length ([47,42,42,47]:Str).length 1)<|
        some (LX.out ((i:Int),st.map stO,b++([47,42,42,47]:Str)))
       else
        some (LX.out ((i:Int),st.map stO,b)))->E=some (LX.out ((i:Int),st.map stO,if c' then b else b++cmtW)):=by
     rintro E rfl;rw[hneed,Yd,zX,show(stO (L,B)).token.toNat=L.length from Db _,htk];have happ:zH b.length ([47,42,42,47]:Str).length 1=true:=sW (by grind);unfold qH;by_cases hlong:4000<(A++s).length
     ·rw[Ha hlong];have:c'=false:=by rw[hc',Ya (by omega)];rfl
      rw[this];simp only[show((28:Int) != 0)=true from rfl,ja,Zb,Aa,Ca,happ,zX];rfl
     ·rw[Ga hlong,SG _ hcl];have hcc:c'=c:=by rw[hc',Ia (by omega)];rfl
      by_cases hmany:1500<(Zy (A++s)).length
      ·rw[Ha hmany];have:c'=false:=by rw[hcc,<-hwinc];exact OO (by omega)
       rw[this];simp only[show((4:Int) != 0)=true from rfl,ja,Zb,Aa,Ca,happ,zX];rfl
      ·rw[Ga hmany];simp only[show((0:Int) != 0)=false from rfl,Ua,zx,Ba,zAj (show(Zy (A++s)).length<=big by omega),hwinc,Aa,happ,zX]
       grind
    rw[hcat _ rfl,zh];simp only;obtain⟨m,hm⟩: ∃m,n=m+1:=⟨n - 1,by omega⟩;subst hm;rw[hstep m,<-hc]at hW;have hWl:=XK m (x.take i++P) ((if c then b else b++cmtW)++s) ((t::r).drop k);rw[hW]at hWl;have hcw:cmtW.length=4:=rfl;have hb1:(if c' then b else b++cmtW).length<=4004:=by
     split
     ·omega
     ·grind
    rw[zB (ap16 (by grind)),zB (sW (by omega))];have hbs:b.length+s.length<=(wrS x).length:=by
     refine Xb ?_ hWl;rw[Ka];split
     ·omega
     ·grind
    by_cases hbig2:4000<((if c' then b else b++cmtW)++s).length
    ·grind
    ·rw[Ya (by omega),Ba];have hcc:c'=c:=by
      have:(A++s).length<=4000:=by
       rw[Ka]at hbig2 ⊢;have:b.length<=(if c' then b else b++cmtW).length:=by
        split
        ·grind
        ·grind
       omega
      rw[hc',Ia this];rfl
     rw[hcc]at hbig2 ⊢;have hxt:x.take (i+k)=x.take i++P:=by rw[List.take_add,hdr,hP]
     refine .inl ⟨_,rfl,⟨i+k,(if c then b else b++cmtW)++s,st++[(x.take i,if c then b else b++cmtW)],m,?_,by omega,?_,by omega,by omega,?_,?_⟩,?_⟩
     ·refine Prod.ext e4 (Prod.ext rfl ?_);rw[We];show st.map stO++[_]=st.map stO++[stO (x.take i,if c then b else b++cmtW)];unfold stO
      grind
     ·rw[hxt];cases hcb:c with
      |true=> rw[Ha rfl];exact .no b s _ P st hsyn hpc (Km.1 (by rw[<-hc,hcb]))
      |false=> rw[Ga (by decide)];refine .cmt b s _ P st hsyn ?_ hpc;rintro rfl;have h0:=hsok.tok;rw[Qy (ZI rfl)]at h0;rw[<-h0,Ob,Ob,Pz hpc]at hc;rw[hcb,Km.2 rfl]at hc;cases hc
     ·rw[hxt,<-hW,<-Ve,hdr]
     ·rw[Ka,Ic];omega
     ·simp only;rw[e4];omega
   ·have d1:decide ((j:Int)<(P.length:Int))=true:=Ia (by omega);simp only[d1,Ca,Zq hj,Aa]
   ·simp only;rw[Ya (by omega),Ba]
  ·have:i=x.length:=by omega
   subst this;have e1:decide ((x.length:Int)<(x.length:Int))=false:=Ya (by omega);simp only[e1,Ba];refine .inr (.inl ⟨_,rfl,?_⟩);rw[Pe (Xa _)]at hW;have hWb:b=wrS x:=by
    cases n with
    |zero=>rw[wrF]at hW;exact hW
    |succ n=>rw[wrF]at hW;exact hW
   rw[<-hWb,Ga (by omega)]
 grind
theorem Jy: ∀(n:Nat) {ts r:List ze} {b:Str} {st:List (List ze×Str)},di r->Syn b ts st->r.length<=n-> ∃st',Syn (wrF n ts b r) (ts++r) st'
 |0,ts,r,b,st,_,hs,hn=>by
  have:r=[]:=je.1 (by omega);subst this;rw[wrF,Va]
  grind
 |n+1,ts,[],b,st,_,hs,_=>by
  rw[wrF,Va]
  grind
 |n+1,ts,t::r,b,st,hr,hs,hn=>by
  obtain⟨hk,hpc⟩:=iK hr;have hk0:=BF (t:=t) (r:=r);rw[vL rfl rfl];have hd:(t::r)=(t::r).take (pcN (t::r))++(t::r).drop (pcN (t::r)):=(List.take_append_drop _ _).symm;have hl:((t::r).drop (pcN (t::r))).length<=n:=by rw[Yb];omega
  have hro:=UO hr (pcN (t::r));generalize (t::r).take (pcN (t::r))=P at*;generalize (t::r).drop (pcN (t::r))=Q at*;cases hc:Fg (Zy (b++pcS P)) (ts++P)with
  |true=>
   rw[Ha rfl];obtain⟨st',h'⟩:=Jy n hro (.no b (pcS P) ts P st hs hpc (Km.1 hc)) hl
   grind
  |false=>
   rw[Ga (by decide)];have hb:b≠[]:=by rintro rfl;have h0:=(Ry hs).tok;rw[Qy (ZI rfl)]at h0;rw[<-h0,Ob,Ob,Pz hpc,Km.2 rfl]at hc;cases hc
   obtain⟨st',h'⟩:=Jy n hro (.cmt b (pcS P) ts P st hs hb hpc) hl
   grind
theorem BH{x:List ze}(h:di x):Zy (wrS x)=x/\clB (wrS x)=true:=by obtain⟨b,a⟩:=Jy x.length h .nil (Xa _);rw[Ob]at a;exact⟨(Ry a).tok,kW a⟩
theorem X0 {S X R:Type} {step:S->Option (LO S X R)} {k:X->Option R} (Inv:S->Prop) (c:S->Nat) (Q:R->Prop)
  (h: ∀s,Inv s->(∃s',step s=some (.again s')/\Inv s'/\c s'<c s)\/(∃x y,step s=some (.out x)/\k x=some y/\Q y)\/(∃y,step s=some (.ret y)/\Q y)) {s:S} (e:Inv s): ∃y,Ze step s k=some y/\Q y:=by
 have d: ∀(m:Nat) (s:S),c s<m->Inv s-> ∃(r:LX X R) (y:R),qI step m s=some r/\r.go k=some y/\Q y:=by
  intro m
  induction m with
  |zero=>intro s h;omega
  |succ m i=>
   intro s g e;simp only[qI];rcases h s e with⟨s',a,b,f⟩|⟨x,y,a,b,f⟩|⟨y,a,b⟩
   ·grind
   ·simp_all
   simp_all
 obtain⟨r,y,a,b,f⟩:=d (c s+1) s (by omega) e;exact⟨y,by rw[Qt (ni a)];exact b,f⟩
end Go.Lv.VT
