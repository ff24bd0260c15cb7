/- Pieces: what is written at once; how they begin. -/
import Derived.Test.YtcdeccnjlkkejaaGreatDoorNc
import Derived.Test.YtcdeccnjlkkejaaGreatDoorNam
set_option linter.unusedSimpArgs false
set_option linter.unusedVariables false
namespace Go.Lv.VT
set_option maxRecDepth 100000
abbrev tkSp:ze:=⟨13,[],0,[],false⟩
inductive PcT:Str->List ze->Prop
 |one (t:ze) (h:zf3 t) (hb: ¬(t.kind=9/\t.text=[92])) (hu:Fg t=false):PcT (txS t) [t]
 |back:PcT [92,10] [⟨9,[92],0,[],false⟩,tkSp]
 |url (l m:Str) (s:Bool) (h:Zi l=true) (hl:lowS l=[117,114,108]) (hm:Zi m=true):
   PcT (Zx l++40::((if s then [32]else [])++34::(encB quoB m++[34]))) (⟨2,l,0,[],false⟩::((if s then [tkSp]else [])++[⟨5,m,0,[],false⟩]))
theorem NN{l:Str}(h:lowS l=[117,114,108]): ∃a r,l=a::r/\(a=117\/a=85):=by
 cases l with
 |nil=>cases h
 |cons a r=>
  have h1:Jh a=117:=by unfold lowS at h;rw[Jc]at h;injection h
  have: ∀n:Nat,n<256->Jh (UInt8.ofNat n)=117->UInt8.ofNat n=117\/UInt8.ofNat n=85:=by decide+kernel
  have:=this a.toNat (Ab a);simp_all
theorem xC{l:Str}(a:l≠[])(z:Str):nmS (Zx l++40::z)=true:=iK (xh a) (by show(40:UInt8)≠10;decide)
theorem Er{k:Int}(a:13<=k)(h2:k<=24):k=13\/k=14\/k=15\/k=16\/k=17\/k=18\/k=19\/k=20\/k=21\/k=22\/k=23\/k=24:=by omega
theorem rz{s:Str}{P:List ze}(h:PcT s P):nmS s=true\/(∃n p U t,P=[t]/\s=numT n p++U/\t.num=n/\(U=[]/\t.kind=10\/U=[37]\/ ∃u,u≠[]/\Zi u=true/\U=Yf u))\/
  (∃c r,s=c::r/\(c=64\/c=35\/c=34)/\nbS s=false)\/(∃c,s=[c]/\Ih c.toNat=true)\/(∃k,13<=k/\k<=24/\s=El k)\/s=[92,10]:=by
 cases h with
 |one t h q v=>
  cases h with
  |cId l b h=>left;rw[nk];exact xh b
  |cFn l b h=>left;rw[Wj];exact xC b []
  |cAt l b h=>right;right;left;rw[lm];exact⟨64,_,rfl, .inl rfl,rfl⟩
  |cHash l f b h j=>right;right;left;rw[Xn];exact⟨35,_,rfl, .inr (.inl rfl),rfl⟩
  |cStr l h=>right;right;left;rw[Jl];exact⟨34,_,rfl, .inr (.inr rfl),rfl⟩
  |cUrl l h=>left;rw[ym];rfl
  |cDel c h=>right;right;right;left;rw[Gn];grind
  |cNum n f d e g=>right;left;exact⟨n, !f,[],_,rfl,by rw[Dn,Ra],rfl, .inl ⟨rfl,rfl⟩⟩
  |cPct n d e=>right;left;exact⟨n,false,[37],_,rfl,Bn n,rfl, .inr (.inl rfl)⟩
  |cDim n u f d e g b h=>right;left;exact⟨n, !f,Yf u,_,rfl,En n u f,rfl, .inr (.inr ⟨u,b,h,rfl⟩)⟩
  |cMark k d e=>right;right;right;right;left;exact⟨k,d,e,Wn d e⟩
 |back=>grind
 |url l m s h i o=> left;obtain⟨a,r,rfl,_⟩:=NN i;exact xC (by simp) _
theorem oG(c:UInt8)(h:Ih c.toNat=true):spB c=false/\nbS [c]=false/\c≠101/\c≠69:=by
 have: ∀n:Nat,n<256->Ih (UInt8.ofNat n).toNat=true->spB (UInt8.ofNat n)=false/\nbS [UInt8.ofNat n]=false/\UInt8.ofNat n≠101/\UInt8.ofNat n≠69:=by decide+kernel
 have:=this c.toNat (Ab c);simp_all
theorem zAV{s:Str}(h:digB (atS (unsign s) 0)=true):nbS s=true:=by
 unfold nbS undot;have:(atS (unsign s) 0==46)=false:=Fa.2 (ug h).2.2.1
 grind
theorem nC{s:Str}{P:List ze}(h:PcT s P)(d:digB (atS (unsign s) 0)=true): ∃n p U t,P=[t]/\s=numT n p++U/\t.num=n/\(U=[]/\t.kind=10\/U=[37]\/ ∃u,u≠[]/\Zi u=true/\U=Yf u):=by
 have a:=zAV d;rcases rz h with h|h|⟨c,r,e,_,h⟩|⟨c,rfl,f⟩|⟨k,b,g,rfl⟩|rfl
 ·rw[OV h]at a;cases a
 ·exact h
 ·grind
 ·rw[(oG c f).2.1]at a;cases a
 ·rcases Er b g with rfl|rfl|rfl|rfl|rfl|rfl|rfl|rfl|rfl|rfl|rfl|rfl<;>cases a
 ·cases a
theorem zF8{s:Str}{P:List ze}(h:PcT s P)(a:spB (atS s 0)=true):s=[32]:=by
 rcases rz h with h|⟨n,p,U,t,_,rfl,_⟩|⟨c,r,rfl,g,_⟩|⟨c,rfl,f⟩|⟨k,d,b,rfl⟩|rfl
 ·rw[(Fq (Um h)).1]at a;cases a
 ·obtain⟨c,r,e,_,b,_⟩:=Vn n p U;rw[e]at a;rw[show atS (c::r) 0=c from rfl,b]at a;cases a
 ·rcases g with rfl|rfl|rfl<;>cases a
 ·rw[show atS [c] 0=c from rfl,(oG c f).1]at a;cases a
 ·rcases Er d b with rfl|rfl|rfl|rfl|rfl|rfl|rfl|rfl|rfl|rfl|rfl|rfl<;>first|rfl|cases a
 ·cases a
theorem Pz{s:Str}{P:List ze}(h:PcT s P){b:UInt8}(f:b=47\/b=42)(d:atS s 0=b):s=[b]:=by
 rcases rz h with h|⟨n,p,U,t,_,rfl,_⟩|⟨c,r,rfl,g,_⟩|⟨c,rfl,j⟩|⟨k,a,i,rfl⟩|rfl
 ·have a:=Um h;rw[d]at a;rcases f with rfl|rfl<;>cases a
 ·obtain⟨c,r,e,a,_⟩:=Vn n p U;rw[e]at d;rw[show c=b from d]at a;rcases f with rfl|rfl<;>cases a
 ·rw[show c=b from d]at g
  grind
 ·rw[show c=b from d]
 ·rcases Er a i with rfl|rfl|rfl|rfl|rfl|rfl|rfl|rfl|rfl|rfl|rfl|rfl<;>rcases f with rfl|rfl<;>cases d
 ·rcases f with rfl|rfl<;>cases d
theorem Ph{s:Str}{P:List ze}(h:PcT s P):s≠[]:=by
 rcases rz h with h|⟨n,p,U,t,_,rfl,_⟩|⟨c,r,rfl,d,_⟩|⟨c,rfl,f⟩|⟨k,b,a,rfl⟩|rfl
 ·exact Ei h
 ·obtain⟨c,r,e,_⟩:=Vn n p U;rw[e];simp
 ·simp
 ·simp
 ·rcases Er b a with rfl|rfl|rfl|rfl|rfl|rfl|rfl|rfl|rfl|rfl|rfl|rfl<;>decide
 ·simp
theorem zAT{l:Str}{c:UInt8}{r:Str}(b:c=101\/c=69)(h:Zx l=c::r): ∃t,l=c::t:=by
 cases l with
 |nil=>unfold Zx at h;rw[encW]at h;cases h
 |cons a t=>
  have g:Zx (a::t)=pcW ((a::t:Str)==[45]) (Qp (a::t)) a++encW ((a::t:Str)==[45]) (Qp (a::t) - 1) t:=rfl;obtain⟨d,u,e,f⟩:=uz (dash:=(a::t:Str)==[45]) (k:=Qp (a::t)) (by unfold Qp;split<;>omega) a (encW ((a::t:Str)==[45]) (Qp (a::t) - 1) t)
  grind
theorem zFo{s:Str}{P:List ze}(h:PcT s P)(b:atS s 0=101\/atS s 0=69): ∃l t z,Zi l=true/\P=[t]/\(t.kind=1\/t.kind=2)/\t.text=l/\s=Zx l++z/\(z=[]\/z=[40]):=by
 cases h with
 |one t h B C=>
  cases h with
  |cId l i h=>exact⟨l,_,[],h,rfl, .inl rfl,rfl,by rw[nk,Ra], .inl rfl⟩
  |cFn l i h=>exact⟨l,_,[40],h,rfl, .inr rfl,rfl,Wj l, .inr rfl⟩
  |cAt l i h=>rw[lm]at b;rcases b with b|b<;>cases b
  |cHash l f i h v=>rw[Xn]at b;rcases b with b|b<;>cases b
  |cStr l h=>rw[Jl]at b;rcases b with b|b<;>cases b
  |cUrl l h=>rw[ym]at b;rcases b with b|b<;>cases b
  |cDel c h=>
   rw[Gn]at b;obtain⟨_,_,p,q⟩:=oG c h;rcases b with b|b
   ·exact absurd b p
   ·exact absurd b q
  |cNum n f d g w=>
   rw[Dn]at b;obtain⟨c,r,e,d,_⟩:=Vn n (!f) [];rw[Ra]at e;rw[e]at b;rcases b with b|b<;>(rw[show c=_ from b]at d;cases d)
  |cPct n d g=>
   rw[Bn]at b;obtain⟨c,r,e,d,_⟩:=Vn n false [37];rw[e]at b;rcases b with b|b<;>(rw[show c=_ from b]at d;cases d)
  |cDim n u f d g w i h=>
   rw[En]at b;obtain⟨c,r,e,d,_⟩:=Vn n (!f) (Yf u);rw[e]at b;rcases b with b|b<;>(rw[show c=_ from b]at d;cases d)
  |cMark k d g=> rw[Wn d g]at b;rcases Er d g with rfl|rfl|rfl|rfl|rfl|rfl|rfl|rfl|rfl|rfl|rfl|rfl<;>rcases b with b|b<;>cases b
 |back=>rcases b with b|b<;>cases b
 |url l m s h o y=>
  exfalso;obtain⟨a,r,rfl,D⟩:=NN o;obtain⟨c,A,e⟩:=lg (Ei (xh (l:=a::r) (by simp)));have j:c=101\/c=69:=by rw[e]at b;exact b
  obtain⟨t,x⟩:=zAT j e;injection x with e3 _
  grind
def ShS(s r:Str):Prop:=r=s\/ ∃d y,digB d=true/\s=48::46::d::y/\r=46::d::y
theorem pM(cap:Nat)(l:Str):capF cap 0 (48::l)=capF cap 0 l:=by show capF cap (min cap (decN 0 48)) l=_;rw[show decN 0 48=0 from rfl,Nat.min_zero]
theorem zBx(A:Str)(p:Int):thoV (48::A) p=thoV A p:=by
 unfold thoV;by_cases a:p<0
 ·rw[Ha a,Ha a];by_cases c:(A.length:Int)+p<0
  ·have b:(((48::A:Str).length:Int)+p).toNat=0:=by rw[Ja];omega
   grind
  ·have b:(((48::A:Str).length:Int)+p).toNat=((A.length:Int)+p).toNat+1:=by rw[Ja];omega
   rw[b,Xe,pM]
 ·rw[Ga a,Ga a,pM]
theorem JB(d:UInt8)(y:Str)(e:digB d=true):Zq (48::46::d::y)=Zq (46::d::y):=by
 have j:Pf 48=false/\Pf 46=false:=by decide
 have b:Gf (48::46::d::y)=46::d::y:=rfl;have a:Gf (46::d::y)=46::d::y:=rfl;have h:zP (48::46::d::y)=zP (46::d::y):=by rw[Ri,Ri,b,a]
 have g:(numP (48::46::d::y)).val=(numP (46::d::y)).val:=by have c:numP (48::46::d::y)=⟨[],[48],dotP (46::d::y),expP (z8 (46::d::y)).1⟩:=rfl;have i:numP (46::d::y)=⟨[],[],dotP (46::d::y),expP (z8 (46::d::y)).1⟩:=rfl;rw[c,i];unfold NumP.val;simp only[Uc,Ob,zBx]
 have f:nbS (46::d::y)=true:=e;rw[uo,Ga (by decide),Ga (by decide),show((48:UInt8)==35)=false from rfl,Lb,Ga (by decide),show nbS (48::46::d::y)=true from rfl,Ha rfl,
  uo,Ga (by decide),Ga (by decide),show((46:UInt8)==35)=false from rfl,Lb,Ga (by decide),f,Ha rfl]
 unfold zI;rw[h,g]
theorem capG(cap:Nat): ∀(l:Str) (n:Nat),valG n l<=cap->capF cap n l=valG n l
 |[],n,_=>rfl
 |c::l,n,h=>by
  have b:valG n (c::l)=valG (decN n c) l:=rfl;rw[b]at h ⊢;have a:decN n c<=valG (decN n c) l:=by rw[nu l (decN n c)];have:=Ee (decN n c) (yf (n:=l.length) (show 0<10 by omega));omega
  rw[capF,Nat.min_eq_right (Yb a h)];exact capG cap l (decN n c) h
theorem wV: ∀(k n:Nat),n*10 ^ k<=1000->oh k n=n*10 ^ k
 |0,n,_=>by rw[oh,Nat.pow_zero,Bf]
 |k+1,n,h=>by
  have c:Fh=1000000000000:=rfl;rw[oh];have a:0<10 ^ k:=yf (by omega);have e:n*10 ^ (k+1)=10*n*10 ^ k:=by rw[Nat.pow_succ,Nat.mul_comm 10 n,Nat.mul_assoc,Nat.mul_comm (10 ^ k) 10]
  have d:10*n<=10*n*10 ^ k:=Ee _ a;by_cases b:n=0
  ·subst b;simp
  ·rw[Ga (by omega),Nat.min_eq_right (by omega),wV k (10*n) (by omega),e]
theorem zAu{n:Int}{p:Bool}(hp:(partT (n.natAbs%1000) p).isEmpty=false){U:Str}(hU:past digB U=U)(hx:expS U=none):
  (numP (46::(partT (n.natAbs%1000) p++U))).val=((n.natAbs%1000:Nat):Int):=by
 obtain⟨k1,k2,k3,_,_⟩:=Jk (r:=n.natAbs%1000) (by omega) p;generalize partT (n.natAbs%1000) p=F at*;obtain⟨c,r,rfl⟩:=lg (show F≠[] by grind);have hc:digB c=true:=by rw[Jd,Ea]at k1;exact k1.1
 have hq:Gf (46::(c::r++U))=46::(c::r++U):=rfl;have hpast:past digB (c::r++U)=U:=by rw[vz _ _ k1,hU]
 have hw:z8 (46::(c::r++U))=(U,false):=by unfold z8;rw[show atS (46::(c::r++U)) 1=c from rfl,hc,show(atS (46::(c::r++U)) 0==46&&true)=true from rfl,Ha rfl,show(46::(c::r++U)).drop 1=c::r++U from rfl,hpast]
 have hrun:List.takeWhile digB (c::r++U)=c::r:=by have:=Vv digB (c::r++U);rw[hpast]at this;exact List.append_cancel_right this
 have hd:dotP (46::(c::r++U))=some (c::r):=by unfold dotP;rw[show atS (46::(c::r++U)) 1=c from rfl,hc,show(atS (46::(c::r++U)) 0==46&&true)=true from rfl,Ha rfl,show(46::(c::r++U)).drop 1=c::r++U from rfl,hrun]
 have he:expP U=none:=by unfold expP;rw[ji]at hx;rw[hx,Ga (by decide)]
 have hP:numP (46::(c::r++U))=⟨[],[],some (c::r),none⟩:=by show(⟨sgOf (46::(c::r++U)),_,dotP (46::(c::r++U)),expP (z8 (46::(c::r++U))).1⟩:NumP)=_;rw[hd,hw,he];rfl
 rw[hP];unfold NumP.val;show(((thoV ([]++(c::r)) (3+0 - ((c::r:Str).length:Int))):Nat):Int)=_;unfold thoV;rw[Ob,Ga (by omega),show(3+0 - ((c::r:Str).length:Int)).toNat=3 - (c::r:Str).length by omega];have hle:valG 0 (c::r)<=1000:=by have:=Ee (valG 0 (c::r)) (yf (n:=3 - (c::r:Str).length) (show 0<10 by omega));omega
 rw[capG _ _ _ (by unfold Fh;omega),wV _ _ (by omega),k3]
theorem zAh{m:Nat}(h:m=0):Lib.decDigits m=[48]:=by subst h;decide+kernel
theorem Nz{t:ze}{U:Str}(f:U=[]/\t.kind=10\/U=[37]\/ ∃u,u≠[]/\Zi u=true/\U=Yf u):past digB U=U/\expS U=none/\(U=[]\/U=[37]\/(nmS U=true/\(zq U).2=[])):=by
 rcases f with⟨rfl,_⟩|rfl|⟨u,a,h,rfl⟩
 ·exact⟨rfl,rfl, .inl rfl⟩
 ·exact⟨rfl,rfl, .inr (.inl rfl)⟩
 ·have c:=iy a h;have e:=(Az c []).1;have d:=PR a h (x:=[]) (.inl rfl);have b:=IB a h [];rw[Ra]at e d b;exact⟨e,d, .inr (.inr ⟨c,by rw[b,qR]⟩)⟩
theorem fD(n:Int)(p:Bool)(U:Str):past digB (unsign (numT n p++U))=past digB (dotS (if(partT (n.natAbs%1000) p).isEmpty then none else some (partT (n.natAbs%1000) p))++U):=q2_T n p U
theorem CF{n:Int}{p:Bool}(U:Str)(a:(partT (n.natAbs%1000) p).isEmpty=true):past digB (unsign (numT n p++U))=past digB U:=by rw[fD,a];rfl
theorem BF{n:Int}{p:Bool}(U:Str)(a:(partT (n.natAbs%1000) p).isEmpty=false):past digB (unsign (numT n p++U))=46::(partT (n.natAbs%1000) p++U):=by rw[fD,a];rfl
theorem zEL(z:Str):expS (46::z)=none:=rfl
theorem oV(z:Str):nmS (46::z)=false:=rfl
theorem zAH{s r:Str}{P:List ze}(h:PcT s P)(x:digB (atS s 0)=true)(f:r=past digB s)(F:nmS r=false)(m:(atS r 0==37)=false)(d:Zk r=P):ShS s r:=by
 have u:unsign s=s:=by unfold unsign Pf;rw[Fa.2 (ug x).1,Fa.2 (ug x).2.1];rfl
 obtain⟨n,p,U,t,rfl,rfl,g,z⟩:=nC h (by grind);obtain⟨w,D,A⟩:=Nz z;rw[<-u,fD]at f;cases j:(partT (n.natAbs%1000) p).isEmpty with
 |true=>
  rw[j]at f;have a:r=U:=by rw[f];exact w
  subst a;rcases A with rfl|rfl|⟨G,_⟩
  ·rw[QL (ZK rfl)]at d;cases d
  ·cases m
  grind
 |false=>
  rw[j]at f;have a:r=46::(partT (n.natAbs%1000) p++U):=by rw[f];rfl
  have B:=zAu j w D;obtain⟨c,q,i⟩:=lg (show partT (n.natAbs%1000) p≠[] by grind);have b:=TG (n:=n) (p:=p);have v:digB c=true:=by rw[i,Jd,Ea]at b;exact b.1
  have k:cmtS r=46::(partT (n.natAbs%1000) p++U):=by rw[a];exact ZK rfl
  rw[Qd k]at d;injection d with d _;have l:Zq (46::(partT (n.natAbs%1000) p++U))=zI (46::(partT (n.natAbs%1000) p++U)):=by
   have o:nbS (46::(partT (n.natAbs%1000) p++U))=true:=by rw[i];exact v
   rw[uo,Ga (by decide),Ga (by decide),show((46:UInt8)==35)=false from rfl,Lb,Ga (by decide),o,Ha rfl]
  have e: ∀q:Str,(zI q).1.num=(numP q).val:=by
   intro q;unfold zI;split
   ·rfl
   ·split<;>rfl
  rw[l]at d;have y:=e (46::(partT (n.natAbs%1000) p++U));rw[d,B,g]at y;have E:n.natAbs / 1000=0:=by omega
  have C:numT n p++U=48::46::c::(q++U):=by rw[fu,j,zAh E,i];unfold sgT;rw[Ga (by omega)];rfl
  right;exact⟨c,q++U,v,C,by rw[a,i];rfl⟩
theorem vO: ∀(y r:Str),y.all letB=true->zq (y++r)=(y++(zq r).1,(zq r).2)
 |[],r,_=>rfl
 |c::y,r,h=>by rw[Jd,Ea]at h;rw[Sa,zR,Ha h.1,vO y r h.2];rfl
theorem zC0{l:Str}(h:l.all digB=true):l.all letB=true:=by
 rw[Xb]at h ⊢;intro b a;unfold letB
 grind
theorem zAG{s r:Str}{P:List ze}(h:PcT s P)(he:atS s 0=101\/atS s 0=69)(hd:digB (atS (unsign (s.drop 1)) 0)=true)(hr:r=past digB (unsign (s.drop 1)))(hT:Zk r=P):False:=by
 obtain⟨l,t,z,hl,rfl,hk,ht,rfl,hz⟩:=zFo h he;obtain⟨c,q,e⟩:=lg (Ph h);have hnz:zq z=([],z):=by rcases hz with rfl|rfl;exact qR;exact KG []
 have hname:zq (Zx l++z)=(l,z):=by rw[Tj z hl,hnz,Ra]
 rw[e]at he hd hr hname;rw[show(c::q).drop 1=q from rfl]at hd hr;have hc:letB c=true:=by rcases he with h|h<;>(rw[show c=_ from h];rfl)
 -- the sign is a dash, or none
 have hsg:(sgOf q).all letB=true:=by
  unfold sgOf;cases hs:Pf (atS q 0)with
  |false=>rfl
  |true=>
   rw[Ha rfl];unfold Pf at hs;rw[Kc,Ib,Ib]at hs;rcases hs with hs|hs
   ·exfalso;cases q with
    |nil=>cases hs
    |cons d q'=>
     rw[show d=43 from hs,zR,Ha hc,zR,Ga (by decide),Ga (by unfold escS;rw[show atS (43::q') 0=43 from rfl];simp)]at hname
     grind
   ·rw[hs];rfl
 have hsplit:c::q=(c::(sgOf q++(unsign q).takeWhile digB))++r:=by rw[hr,Sa,La,Vv,tJ]
 have hall:(c::(sgOf q++(unsign q).takeWhile digB)).all letB=true:=by rw[Jd,hc,List.all_append,hsg,zC0 (ry digB _)];rfl
 rw[hsplit,vO _ _ hall]at hname;injection hname with hn1 hn2;have hcm:cmtS r=r:=by
  refine ZK ?_;cases r with
  |nil=>rfl
  |cons d u=>
   refine Xq (Fa.2 ?_);rintro rfl;rw[zR,Ga (by decide),Ga (by unfold escS;rw[show atS (47::u) 0=47 from rfl];simp)]at hn2
   grind
 cases r with
 |nil=>rw[QL hcm]at hT;cases hT
 |cons d u=>
  rw[Qd hcm]at hT;injection hT with hT _;have hbr:=ol d u;rw[hT]at hbr;have hbr':brS d u=7:=by rcases hk with hk|hk<;>(rw[hk]at hbr;exact hbr.symm)
  have hx:t.text=(zq (d::u)).1:=by
   rw[<-hT,qd,hbr',Di];have hk':(qO (d::u)).1.kind=1\/(qO (d::u)).1.kind=2:=by
    have:(qO (d::u)).1=t:=by rw[<-hT,qd,hbr',Di]
    rw[this];exact hk
   unfold qO at hk' ⊢;split
   ·rename_i h40;rw[Ha h40]at hk';split
    ·rename_i h2;rw[Ha h2]at hk';rcases iF (urlS (past spB ((zq (d::u)).2.drop 1))).1 with hh|hh<;>rcases hk' with hk'|hk'<;>rw[show(Fj (urlS (past spB ((zq (d::u)).2.drop 1))).1).kind=_ from hk']at hh<;>cases hh
    ·rfl
   ·rfl
  rw[<-hx,ht]at hn1;have:=congrArg List.length hn1
  grind
theorem GZ{z r:Str}(h:z8 z=(r,true)):r=z:=by
 unfold z8 at h
 grind
theorem mX{z r:Str}(h:(match expS (z8 z).1 with|some r=>(r,false)|none=>z8 z)=(r,true)):r=z:=by
 cases a:expS (z8 z).1 with
 |some y=>grind
 |none=>rw[a]at h;exact GZ h
theorem zCM{z r:Str}{b:Bool}(h:(match expS z with|some r=>(r,false)|none=>(z,false))=(r,b)):r=z\/expS z=some r:=by
 grind
theorem dO{t:ze}{s r:Str}{P:List ze}(N:zf3 t)(h:PcT s P)(b:gV t s r)(v:Zk r=P):ShS s r:=by
 have M:P≠[]:=by cases h<;>simp
 have p:r≠[]:=by rintro rfl;rw[QL (ZK rfl)]at v;exact M v.symm
 have j:digB (atS s 0)=false->past digB s=s:=by
  intro i;cases s with
  |nil=>rfl
  |cons c q=>rw[past,show digB c=false from i];rfl
 rcases b with b|⟨_,b⟩|⟨R,Q,g,G⟩|⟨_,K,y,i,g,b⟩
 ·exact .inl b
 ·cases u:spB (atS s 0)with
  |true=> rw[zF8 h u]at b;exact absurd b p
  |false=>
   left;rw[b];cases s with
   |nil=>rfl
   |cons c q=>rw[past,show spB c=false from u];rfl
 ·cases N with
  |cNum n f w E S=>
   have e:zP (numT n (!f)++s)=(r,f):=Q;have a:r=past digB s\/expS (past digB s)=some r:=by
    cases d:(partT (n.natAbs%1000) (!f)).isEmpty with
    |true=> left;rw[eF d]at e;rw[Fw S]at d;subst d;exact mX e
    |false=> rw[oD d]at e;exact zCM e
   cases i:digB (atS s 0)with
   |true=>
    rcases a with b|l
    ·exact zAH h i b g G v
    ·exfalso;have o:unsign s=s:=by unfold unsign Pf;rw[Fa.2 (ug i).1,Fa.2 (ug i).2.1];rfl
     obtain⟨A,B,U,J,rfl,rfl,_,x⟩:=nC h (by grind);obtain⟨z,O,_⟩:=Nz x;rw[<-o]at l;cases d:(partT (A.natAbs%1000) B).isEmpty with
     |true=>rw[CF U d,z,O]at l;cases l
     |false=>rw[BF U d,zEL]at l;cases l
   |false=>
    rw[j i]at a;rcases a with b|l
    ·exact .inl b
    ·obtain⟨w,E,L⟩:=fM l;exact(zAG h w E L v).elim
  |cId|cFn|cAt|cHash|cStr|cUrl|cDel|cPct|cDim=>simp at R
  |cMark k w E=>grind
 ·exfalso;have D:digB (atS (unsign s) 0)=true/\past digB (unsign (K++s))=past digB (unsign s):=by
   rcases y with rfl|rfl
   ·grind
   ·have m:digB (atS s 0)=true:=i;have o:unsign s=s:=by unfold unsign Pf;rw[Fa.2 (ug m).1,Fa.2 (ug m).2.1];rfl
    rw[o];exact⟨m,rfl⟩
  obtain⟨C,F⟩:=D;rw[F]at g b;obtain⟨A,B,U,J,rfl,rfl,_,x⟩:=nC h C;obtain⟨z,_,H⟩:=Nz x;cases d:(partT (A.natAbs%1000) B).isEmpty with
  |true=>
   rw[CF U d,z]at g b;rcases H with rfl|rfl|⟨_,T⟩
   ·cases g
   ·cases g
   grind
  |false=>rw[BF U d,oV]at g;cases g
abbrev cmtW:Str:=[47,42,42,47]
theorem Nu{s:Str}{P:List ze}(h:PcT s P)(x:Str)(hx:atS x 0≠42):([47,42]:Str).isPrefixOf (s++x)=false:=by
 obtain⟨c,r,rfl⟩:=lg (Ph h);by_cases hc:c=47
 ·have:=Pz h (.inl rfl) hc;rw[this];cases x with
  |nil=>rfl
  |cons d t=>
   show((47==(47:UInt8))&&((42==d)&&_))=false;have:((42:UInt8)==d)=false:=Fa.2 (fun e=>hx e.symm)
   grind
 grind
theorem Yy{s:Str}{P:List ze}(h:PcT s P):cmtS s=s:=by
 refine ZK ?_;have:=Nu h [] (by decide)
 grind
theorem gu(x:Str):Zq (92::10::x)=(⟨9,[92],0,[],false⟩,10::x):=rfl
theorem X0{l:Str}(g:l≠[])(h:Zi l=true)(f:lowS l=[117,114,108])(b:Bool)(w:Str):
  Zq (Zx l++40::((if b then [32]else [])++34::w))=(⟨2,l,0,[],false⟩,(if b then [32]else [])++34::w):=by
 have d:=xC g ((if b then [32]else [])++34::w);have a:=NL h ((if b then [32]else [])++34::w);obtain⟨c,r,e⟩:=lg (Ei d);rw[e]at d a ⊢;rw[qd,Gv d (by grind),Di];unfold qO;rw[a];simp only;have i:atS (past spB ((40::((if b then [32]else [])++34::w)).drop 1)) 0=34:=by cases b<;>rfl
 rw[Ha (by rfl),f,i,Ga (by decide)];rfl
theorem WW{l:Str}(h:lowS l=[117,114,108]):l≠[]:=by rintro rfl;cases h
theorem zBG(l m x:Str)(b:Bool):(Zx l++40::((if b then [32]else [])++34::(encB quoB m++[34])))++x=Zx l++40::((if b then [32]else [])++34::((encB quoB m++[34])++x)):=by
 grind
theorem LF{l m:Str}{b:Bool}(h:Zi l=true)(hl:lowS l=[117,114,108])(hm:Zi m=true)(x:Str):
  run ((Zx l++40::((if b then [32]else [])++34::(encB quoB m++[34])))++x) (⟨2,l,0,[],false⟩::((if b then [tkSp]else [])++[⟨5,m,0,[],false⟩])) x:=by
 rw[zBG];have hf:=X0 (WW hl) h hl b ((encB quoB m++[34])++x);have hn:=xC (WW hl) ((if b then [32]else [])++34::((encB quoB m++[34])++x));have hs: ∀q:Str,q=34::((encB quoB m++[34])++x)->run q [⟨5,m,0,[],false⟩] x:=by rintro q rfl;have:=gz hm x;rw[Sa]at this;exact⟨34,_,ZK rfl,by rw[this],by rw[this];rfl⟩
 obtain⟨c,r,e⟩:=lg (Ei hn);rw[e]at hf hn ⊢;have hc:c≠47:=by rintro rfl;exact absurd (show hdB 47=true from Um hn) (by decide)
 refine⟨c,r,ZK (Xq (Fa.2 hc)),by rw[hf],?_⟩;rw[hf];cases b with
 |false=>exact hs _ rfl
 |true=> exact⟨32,34::((encB quoB m++[34])++x),ZK rfl,rfl,hs _ rfl⟩
theorem MW{s:Str}{P:List ze}(h:PcT s P){x:Str}(a:neu x):run (s++x) P x:=by
 cases h with
 |one t h d f=>
  have g:=zCL h d f a;have i:=Nu (.one t h d f) x (by rcases a with rfl|⟨y,rfl⟩;exact(show(0:UInt8)≠42 by decide);exact(show(47:UInt8)≠42 by decide));obtain⟨c,r,e⟩:=lg (Ph (.one t h d f));rw[e]at g i ⊢;exact⟨c,r++x,ZK i,by grind,by rw[show c::(r++x)=(c::r)++x from rfl,g];rfl⟩
 |back=> refine⟨92,10::x,ZK rfl,by rw[gu],?_⟩;rw[gu];refine⟨10,x,ZK rfl,rfl,?_⟩;show past spB x=x;exact kN rfl a
 |url l m b h j k=>exact LF h j k x
theorem zDN{u s r:Str}{p P:List ze}(hu:PcT u p)(hs:PcT s P)(hr:run (u++s) p r)(hT:Zk r=P):ShS s r:=by
 cases hu with
 |one t h hb hu=>
  obtain⟨c,q,h1,h2,h3⟩:=hr;have hpu:PcT (txS t) [t]:= .one t h hb hu;rw[run]at h3;cases hp:([47,42]:Str).isPrefixOf (txS t++s)with
  |true=>
   exfalso;obtain⟨c0,r0,e⟩:=lg (Ph hpu);by_cases hc:c0=47
   ·have e2:=Pz hpu (.inl rfl) (by rw[e];exact hc);rw[e2]at hp h1;have h42:atS s 0=42:=by
     cases s with
     |nil=>cases hp
     |cons d t'=>
      have:((42:UInt8)==d)=true:=by have h':((47==(47:UInt8))&&((42==d)&&true))=true:=hp;simpa using h'
      exact(Ib.1 this).symm
    rw[Pz hs (.inr rfl) h42]at h1;have:cmtS ([47]++[42])=[]:=by rw[Li];rfl
    grind
   grind
  |false=> rw[ZK hp]at h1;rw[<-h1]at h2 h3;have:=nX h hu h2;rw[h3]at this;exact dO h hs this hT
 |back=> obtain⟨c,q,h1,h2,h3⟩:=hr;rw[show cmtS ([92,10]++s)=92::10::s from ZK rfl]at h1;injection h1 with e1 e2;subst e1 e2;rw[gu]at h3;obtain⟨c',q',g1,g2,g3⟩:=h3;rw[show cmtS (10::s)=10::s from ZK rfl]at g1;injection g1 with e1 e2;subst e1 e2;rw[run]at g3;have g3':past spB s=r:=g3;exact dO (t:=tkSp) (.cMark 13 (by omega) (by omega)) hs (.inr (.inl ⟨rfl,g3'.symm⟩)) hT
 |url l m b h hl hm=>exact .inl (tK hr (LF h hl hm s))
def Lk(R A:Str):Prop:=cmtS R=A\/ ∃d y,digB d=true/\A=48::46::d::y/\cmtS R=46::d::y
theorem Vm{R A:Str}(h:Lk R A)(a:A≠[]):cmtS R≠[]:=by
 rcases h with h|⟨d,y,_,_,h⟩
 ·rw[h];exact a
 ·rw[h];simp
theorem CE{R A x:Str}(h:Lk R A)(b:A≠[])(c:([47,42]:Str).isPrefixOf (A++x)=false):Lk (R++x) (A++x):=by
 rcases h with h|⟨d,y,a,rfl,h⟩
 ·left;rw[Cr (by rw[h];exact b) (by rw[h];exact c),h]
 ·right;exact⟨d,y++x,a,rfl,by rw[Cr (by rw[h];simp) (by rw[h];rfl),h];rfl⟩
theorem xD{R A:Str}(h:Lk R A)(g:([47,42]:Str).isPrefixOf A=false){t:ze}{ts:List ze}{r:Str}:run R (t::ts) r↔run A (t::ts) r:=by
 rcases h with h|⟨d,y,f,rfl,h⟩
 ·rw[<-uK (q:=R) (by simp),h]
 ·rw[<-uK (q:=R) (by simp),h];constructor
  ·rintro⟨c,q,a,e,b⟩;rw[ZK rfl]at a;rw[<-a]at e b;exact⟨48,46::d::y,ZK rfl,by rw[JB d y f];exact e,by rw[JB d y f];exact b⟩
  ·rintro⟨c,q,a,e,b⟩;rw[ZK rfl]at a;rw[<-a,JB d y f]at e b;exact⟨46,d::y,ZK rfl,e,b⟩
theorem FL{R A:Str}(h:Lk R A):Zk R=Zk A:=by
 rcases h with h|⟨d,y,a,rfl,h⟩
 ·rw[<-cz R,h]
 ·rw[<-cz R,h,Qd (ZK rfl),Qd (l:=48::46::d::y) (ZK rfl),JB d y a]
inductive Syn:Str->List ze->List (List ze×Str)->Prop
 |nil:Syn [] [] []
 |cmt (b s:Str) (ts P:List ze) (st:List (List ze×Str)) (h:Syn b ts st) (hb:b≠[]) (hp:PcT s P):Syn (b++cmtW++s) (ts++P) (st++[(ts,b++cmtW)])
 |no (b s:Str) (ts P:List ze) (st:List (List ze×Str)) (h:Syn b ts st) (hp:PcT s P) (ht:Zk (b++s)=ts++P):Syn (b++s) (ts++P) (st++[(ts,b)])
def Bd(b:Str)(ts L:List ze)(B:Str)(m:Nat):Prop:= ∃A R a,b=B++A/\A≠[]/\ts=L++a/\a≠[]/\run b L R/\Lk R A/\m<=R.length/\m<=A.length
structure zEo (b:Str) (ts:List ze) (st:List (List ze×Str)):Prop where
 tok:Zk b=ts
 bd: ∀k (h:k<st.length),Bd b ts st[k].1 st[k].2 (st.length - k)
 last:(st=[]/\b=[]/\ts=[])\/ ∃L B u p R,PcT u p/\b=B++u/\ts=L++p/\run b L R/\Lk R u
theorem pc_P{s:Str}{P:List ze}(h:PcT s P): ∃t us,P=t::us:=by cases h<;>exact⟨_,_,rfl⟩
theorem gW {b x:Str} {ts P L:List ze} {B:Str} {m:Nat} (h:Bd b ts L B m) (hx:x≠[])
  (hrun: ∀R,R≠[]->run b L R->(∃A,A≠[]/\Lk R A/\b=B++A)->run (b++x) L (R++x)/\(∀A,A≠[]->Lk R A->b=B++A->Lk (R++x) (A++x))):Bd (b++x) (ts++P) L B (m+1):=by
 obtain⟨A,R,us,h1,h2,h3,h4,h5,h6,h7,h8⟩:=h;have hR:R≠[]:=by intro e;have:=Vm h6 h2;rw[e]at this;exact this (ZK rfl)
 obtain⟨g1,g2⟩:=hrun R hR h5 ⟨A,h2,h6,h1⟩;refine⟨A++x,R++x,us++P,by grind,by simp[h2],by grind,by simp[h4],g1,g2 A h2 h6 h1,?_⟩;have:=Ie.2 hx
 grind
theorem xW{q:Str}(h:cmtS q=[47]):cmtS (q++[42])=[]:=by
 rw[Li q]at h;cases a:([47,42]:Str).isPrefixOf q with
 |true=>
  have b:=il a;rw[show([47,42]:Str).length=2 from rfl]at b;rw[a,Ha rfl]at h;cases c:clsS (q.drop 2)with
  |none=>grind
  |some p=>
   rw[c]at h;have d:p.length<q.length:=by have d:=(Dk _ c).2;rw[Ub]at d;omega
   rw[Li,rq [42] (by exact b),a,Ha rfl,Mr b,RF [42] c];exact xW h
 |false=> rw[a,Ga (by decide)]at h;subst h;rw[Li];rfl
termination_by q.length
theorem zDW{q s:Str}{P us:List ze}(hs:PcT s P)(h:iV q s us)(hus:us≠[]):False:=by
 obtain⟨c,r,_,⟨⟨e,fl,hee,hw⟩,h43,hk,hds⟩,hsame,hT⟩:=h;have hbr:=ol c (r++s);rw[hsame,hk]at hbr;have hbr':brS c (r++s)=3:=hbr.symm;have hnx:Zq (c::(r++s))=zI ((c::r)++s):=by rw[qd,hbr',Vi];rfl
 have hq2:Gf (c::r)≠[]:=by intro e2;rw[e2]at hw;cases congrArg Prod.fst hw
 have e2:Gf ((c::r)++s)=Gf (c::r)++s:=by unfold Gf;rw[(ek s (by simp)).1];exact Nk s hq2
 have hw2:=(XO (q:=Gf (c::r)) (x:=s) (by rw[hw];simp) (fun e3=>by
  rw[e3]at hw;have:=congrArg Prod.fst hw;cases this)).1
 have hexp:expS ([e,43]++s)=some (past digB s):=by
  unfold expS;have h1:(atS ([e,43]++s) 0==101||atS ([e,43]++s) 0==69)=true:=by rcases hee with rfl|rfl<;>rfl
  have h2:unsign (([e,43]++s).drop 1)=s:=rfl;rw[h1,Ha rfl,h2,hds,Ha rfl]
 have hend:zP ((c::r)++s)=(past digB s,false):=by rw[Ri,e2,hw2,hw];simp only[hexp]
 have hk2:(zI ((c::r)++s)).1.kind=12:=by rw[<-hnx,hsame,hk]
 rw[hnx]at hT;unfold zI at hk2 hT;rw[hend]at hk2 hT;simp only at hk2 hT;have hun:unsign s=s:=by unfold unsign Pf;rw[Fa.2 (ug hds).1,Fa.2 (ug hds).2.1];rfl
 cases hn:nmS (past digB s)with
 |false=>
  grind
 |true=>
  rw[hn,Ha rfl]at hT;obtain⟨n2,p2,U,t2,_,rfl,_,hU⟩:=nC hs (by grind);obtain⟨u1,_,u3⟩:=Nz hU;rw[<-hun]at hn hT;cases hp:(partT (n2.natAbs%1000) p2).isEmpty with
  |true=>
   rw[CF U hp,u1]at hn hT;rcases u3 with rfl|rfl|⟨_,hu⟩
   ·cases hn
   ·cases hn
   ·rw[hu,QL (ZK rfl)]at hT;exact hus hT.symm
  |false=>rw[BF U hp,oV]at hn;cases hn
theorem tV{R A:Str}(h:Lk R A)(b:A≠[])(y:Str):Lk (R++47::42::y) (A++47::42::y):=by
 rcases h with h|⟨d,z,a,rfl,h⟩
 ·left;rw[KE y (by rw[h];exact b),h]
 ·right;exact⟨d,z++47::42::y,a,rfl,by rw[KE y (by rw[h];simp),h];rfl⟩
theorem iX{s:Str}{P:List ze}(h:PcT s P):cmtS (47::42::42::47::s)=s:=by rw[Li];exact Yy h
theorem Oz{s:Str}{P:List ze}(h:PcT s P):Zk s=P:=by have:=yl (MW h (x:=[]) (.inl rfl));rw[Ra,QL (ZK rfl),Ra]at this;exact this
theorem EZ{α:Type}{l a:List α}(h:l++a=l):a=[]:=by simp_all
theorem Iy{b:Str}{ts:List ze}{st:List (List ze×Str)}(h:Syn b ts st):zEo b ts st:=by
 induction h with
 |nil=>exact⟨QL (ZK rfl),fun k h=>(by cases h), .inl ⟨rfl,rfl,rfl⟩⟩
 |cmt b s ts P st h hb hp ih=>
  obtain⟨ht,hbd,hl⟩:=ih;have hx:b++cmtW++s=b++47::42::(42::47::s):=by rw[La];rfl
  obtain⟨t0,us0,hP0⟩:=pc_P hp;have hrun:run (b++47::42::(42::47::s)) ts (47::42::(42::47::s)):=by
   rcases hl with⟨_,e,_⟩|⟨L,B,u,p,R,g1,g2,g3,g4,g5⟩
   ·exact absurd e hb
   ·have hR:R≠[]:=by intro e;have:=Vm g5 (Ph g1);rw[e]at this;exact this (ZK rfl)
    obtain⟨t1,us1,hp1⟩:=pc_P g1;rw[g3];refine oz (gD (42::47::s) g4 hR) ?_;have h1:=MW g1 (x:=47::42::(42::47::s)) (.inr ⟨_,rfl⟩);rw[hp1]at h1 ⊢;exact(xD (tV g5 (Ph g1) (42::47::s)) (Nu g1 _ (by show(47:UInt8)≠42;decide))).2 h1
  have hlk:Lk (47::42::(42::47::s)) s:= .inl (iX hp);rw[hx];refine⟨?_,?_, .inr ⟨ts,b++cmtW,s,P,_,hp,by grind,rfl,hrun,hlk⟩⟩
  ·rw[yl hrun,FL hlk,Oz hp]
  ·intro k hk;rw[Ka,jb]at hk;by_cases hk2:k<st.length
   ·rw[List.getElem_append_left hk2];have:=gW (P:=P) (x:=47::42::(42::47::s)) (hbd k hk2) (by simp) (fun R hR h5 _=>⟨gD _ h5 hR,fun A hA h6 _=>tV h6 hA _⟩)
    grind
   ·have hke:k=st.length:=by omega
    subst hke;rw[List.getElem_append_right (by omega)];simp only[Nat.sub_self,List.getElem_cons_zero];refine⟨s,_,P,by grind,Ph hp,rfl,by rw[hP0];simp,hrun,hlk,?_⟩;have:=Ie.2 (Ph hp)
    grind
 |no b s ts P st h hp ht0 ih=>
  obtain⟨ht,hbd,hl⟩:=ih;obtain⟨t0,us0,hP0⟩:=pc_P hp;have hPne:P≠[]:=by rw[hP0];simp
  have hsne:=Ph hp
  -- what is ahead stays
  have keep: ∀(L us:List ze) (R:Str),ts=L++us->R≠[]->run b L R->run (b++s) L (R++s):=by
   intro L us R hts hR hrun;rcases KM (us:=us++P) hrun hR hsne (by grind)with h1|⟨_,q,_,h1⟩
   ·exact h1
   ·exact(zDW hp h1 (by simp[hPne])).elim
  have keepLk: ∀(L us:List ze) (R A:Str),ts=L++us->run (b++s) L (R++s)->A≠[]->Lk R A->Lk (R++s) (A++s):=by
   intro L us R A hts hrun hA hlk;cases hpre:([47,42]:Str).isPrefixOf (A++s)with
   |false=>exact CE hlk hA hpre
   |true=>
    exfalso;rcases hlk with h1|⟨d,y,_,rfl,_⟩
    ·cases A with
     |nil=>exact hA rfl
     |cons c r=>
      cases r with
      |cons d t=>
       have:=Br R
       grind
      |nil=>
       have hc:c=47:=by
        cases hcc:(47:UInt8)==c with
        |true=>grind
        |false=>
         grind
       subst hc;have h42:s=[42]:=by
        refine Pz hp (.inr rfl) ?_;cases s with
        |nil=>grind
        |cons d t=>
         have h':(((47:UInt8)==47)&&(((42:UInt8)==d)&&true))=true:=hpre;have:((42:UInt8)==d)=true:=by simpa using h'
         exact(Ib.1 this).symm
       have h3:=yl hrun;rw[ht0,hts,h42,QL (xW h1),Ra,La]at h3;have:=EZ h3;simp_all
    ·cases hpre
  rcases hl with⟨e1,e2,e3⟩|⟨L,B,u,p,R,g1,g2,g3,g4,g5⟩
  ·subst e1 e2 e3;refine⟨ht0,?_, .inr ⟨[],[],s,P,s,hp,rfl,rfl,rfl, .inl (Yy hp)⟩⟩;intro k hk;have hke:k=0:=by rw[Ka,jb,Pb]at hk;omega
   subst hke;exact⟨s,s,P,rfl,hsne,rfl,hPne,rfl, .inl (Yy hp),Ie.2 hsne,Ie.2 hsne⟩
  ·have hR:R≠[]:=by intro e;have:=Vm g5 (Ph g1);rw[e]at this;exact this (ZK rfl)
   have h1:=keep L p R g3 hR g4;have h2:=keepLk L p R u g3 h1 (Ph g1) g5;have h3:=yl h1;rw[ht0,g3,La]at h3;have h4:=List.append_cancel_left h3;obtain⟨r,h5,h6⟩:=xL h4.symm;have hsh:ShS s r:=by
    obtain⟨t1,us1,hp1⟩:=pc_P g1;refine zDN g1 hp ?_ h6;have hpre:([47,42]:Str).isPrefixOf (u++s)=false\/cmtS (R++s)=[]:=by
     rcases h2 with h2|⟨d,y,hd,h2,_⟩
     ·left;rw[<-h2];exact Br _
     ·grind
    rcases hpre with hpre|hpre
    ·rw[hp1]at h5 ⊢;exact(xD h2 hpre).1 h5
    ·rw[hp1]at h5;obtain⟨c,q,e,_⟩:=h5
     grind
   have hrun:run (b++s) ts r:=by rw[g3];exact oz h1 h5
   have hlk:Lk r s:=by
    rcases hsh with rfl|⟨d,y,hd,e1,e2⟩
    ·exact .inl (Yy hp)
    ·right;exact⟨d,y,hd,e1,by rw[e2];exact ZK rfl⟩
   have hrl:1<=r.length:=by
    rcases hsh with rfl|⟨d,y,_,_,e2⟩
    ·grind
    ·rw[e2];simp
   refine⟨ht0,?_, .inr ⟨ts,b,s,P,r,hp,rfl,rfl,hrun,hlk⟩⟩;intro k hk;rw[Ka,jb]at hk;by_cases hk2:k<st.length
   ·rw[List.getElem_append_left hk2];obtain⟨A0,R0,us,f1,f2,f3,f4,f5,f6,f7,f8⟩:=hbd k hk2;have:=gW (P:=P) (x:=s) ⟨A0,R0,us,f1,f2,f3,f4,f5,f6,f7,f8⟩ hsne (fun R hR h5 _=>⟨keep _ us R f3 hR h5,fun A hA h6 _=>keepLk _ us R A f3 (keep _ us R f3 hR h5) hA h6⟩)
    grind
   ·have hke:k=st.length:=by omega
    subst hke;rw[List.getElem_append_right (by omega)];simp only[Nat.sub_self,List.getElem_cons_zero];refine⟨s,r,P,rfl,hsne,rfl,hPne,hrun,hlk,?_⟩;have:=Ie.2 hsne
    grind
def pcN:List ze->Nat
 |[]=>0
 |t::r=>if t.kind==9&&t.text==[92]then 2 else if Fg t then(if Ii r then 3 else 2)else 1
def catT:List ze->Str
 |[]=>[]
 |t::r=>txS t++catT r
def pcS:List ze->Str
 |[]=>[]
 |t::r=>if t.kind==9&&t.text==[92]then [92,10]else catT (t::r)
theorem BL{t:ze}(h:mf t=true)(a:(t.kind==13)=true):t=tkSp:=by
 rw[Ib]at a;cases Gq h with
 |cId|cFn|cAt|cHash|cStr|cUrl|cDel|cNum|cPct|cDim=>simp at a
 |cMark k c b=>grind
theorem oW{t:ze}(h:mf t=true)(a:(t.kind==5)=true): ∃m,Zi m=true/\t=⟨5,m,0,[],false⟩:=by
 rw[Ib]at a;cases Gq h with
 |cStr l b=>grind
 |cId|cFn|cAt|cHash|cUrl|cDel|cNum|cPct|cDim=>simp at a
 |cMark k d c=>grind
theorem zEN{t:ze}(h:mf t=true)(a:(t.kind==9&&t.text==[92])=true):t=⟨9,[92],0,[],false⟩:=by
 rw[Ea,Ib,Ib]at a;cases Gq h with
 |cDel c h=>grind
 |cId|cFn|cAt|cHash|cStr|cUrl|cNum|cPct|cDim=>simp at a
 |cMark k d b=>grind
theorem zAr{t:ze}(h:mf t=true)(a:Fg t=true): ∃l,Zi l=true/\lowS l=[117,114,108]/\t=⟨2,l,0,[],false⟩:=by
 unfold Fg at a;rw[Ea,Ib,Ib]at a;cases Gq h with
 |cFn l d c=>grind
 |cId|cAt|cHash|cStr|cUrl|cDel|cNum|cPct|cDim=>simp at a
 |cMark k b e=>grind
theorem zF6{t:ze}(h:(t.kind==9&&t.text==[92])=false): ¬(t.kind=9/\t.text=[92]):=by
 grind
theorem Nv(t:ze)(r:List ze):pcN (t::r)=if t.kind==9&&t.text==[92]then 2 else if Fg t then(if Ii r then 3 else 2)else 1:=rfl
theorem rO(t:ze)(r:List ze):okAt (t::r)=((!(t.kind==9&&t.text==[92])||Ii r)&&(!(Fg t)||Vj r)):=rfl
theorem FB(s:ze)(r:List ze):Vj (s::r)=(bif s.kind==13 then(match r with|u::_=>u.kind==5|[]=>false)else s.kind==5):=rfl
theorem zF7{t:ze}{r:List ze}(e: ∀u∈t::r,mf u=true)(d:okAt (t::r)=true): ∃P Q,t::r=P++Q/\P.length=pcN (t::r)/\PcT (pcS P) P:=by
 have c:=e t (Db ..);rw[rO,Ea]at d;rw[Nv];cases h:t.kind==9&&t.text==[92]with
 |true=>
  rw[h,aa,Xc]at d;rw[Ha rfl];cases r with
  |nil=>cases d.1
  |cons s r=> have g:=BL (e s (by simp)) d.1;have p:=zEN c h;subst g p;exact⟨[⟨9,[92],0,[],false⟩,tkSp],r,rfl,rfl, .back⟩
 |false=>
  rw[Ga (by decide)];cases j:Fg t with
  |false=>
   rw[Ga (by decide)];have f:pcS [t]=txS t:=by show(if(t.kind==9&&t.text==[92])=true then [92,10]else txS t++[])=_;rw[h,Ga (by decide),Ra]
   exact⟨[t],r,rfl,rfl,by rw[f];exact .one t (Gq c) (zF6 h) j⟩
  |true=>
   rw[Ha rfl];rw[j,aa,Xc]at d;obtain⟨l,n,o,rfl⟩:=zAr c j;have a:=d.2;have b: ∀m:Str,txS ⟨5,m,0,[],false⟩++[]=34::(encB quoB m++[34]):=fun m=>by rw[Jl,Ra]
   cases r with
   |nil=>cases a
   |cons s r=>
    cases g:s.kind==13 with
    |false=>
     rw[FB,g,Ba]at a;obtain⟨m,i,rfl⟩:=oW (e s (by simp)) a;rw[show Ii (⟨5,m,0,[],false⟩::r)=false from rfl,Ga (by decide)];refine⟨[⟨2,l,0,[],false⟩,⟨5,m,0,[],false⟩],r,rfl,rfl,?_⟩;have f:pcS [⟨2,l,0,[],false⟩,⟨5,m,0,[],false⟩]=Zx l++40::((if false then [32]else [])++34::(encB quoB m++[34])):=by show txS ⟨2,l,0,[],false⟩++(txS ⟨5,m,0,[],false⟩++[])=_;rw[b,Wj,La];rfl
     rw[f];exact .url l m false n o i
    |true=>
     have k:=BL (e s (by simp)) g;subst k;cases r with
     |nil=>cases a
     |cons u r=>
      obtain⟨m,i,rfl⟩:=oW (e u (by simp)) a;rw[show Ii (tkSp::⟨5,m,0,[],false⟩::r)=true from rfl,Ha rfl];refine⟨[⟨2,l,0,[],false⟩,tkSp,⟨5,m,0,[],false⟩],r,rfl,rfl,?_⟩;have f:pcS [⟨2,l,0,[],false⟩,tkSp,⟨5,m,0,[],false⟩]=Zx l++40::((if true then [32]else [])++34::(encB quoB m++[34])):=by show txS ⟨2,l,0,[],false⟩++(txS tkSp++(txS ⟨5,m,0,[],false⟩++[]))=_;rw[b,Wj,show txS tkSp=[32]from rfl,La];rfl
      rw[f];exact .url l m true n o i
theorem RY{t:ze}{r:List ze}(h:t.text.length<=big)(a:okAt (t::r)=true):Qj (t::r)=some ((pcN (t::r):Nat):Int):=by
 have m:geti (t::r) 0=some t:=rfl;have k:=uq (t::r) 1 13;have e:=uq (t::r) 1 5;have b:=uq (t::r) 2 5;unfold Qj;simp only[m,zb,Aa,OB h (show([117,114,108]:Str).length<=big by decide),Dv,qa];simp only[Int.natCast_one]at k e;replace b:ZB ((2,5),t::r)=_:=b;have g:ZB ((1,13),t::r)=some (Ii r):=by rw[k];cases r<;>rfl
 rw[g];rw[rO]at a;unfold Fg at a;rw[Nv];unfold Fg;cases j:(t.kind==9&&t.text==[92])with
 |true=>
  grind
 |false=>
  have n:(bif t.kind==9 then t.text==[92]else false)=false:=by
   cases o:t.kind==9
   ·rfl
   ·grind
  simp only[n,j,Ba,Va,Td,ma];rw[j,Va,Td,ma]at a;cases f:(t.kind==2&&lowS t.text==[117,114,108])with
  |false=>
   grind
  |true=>
   rw[f,aa,Xc]at a;rw[Ea]at f;rw[f.1,f.2];simp only[Da,Aa];cases r with
   |nil=>cases a
   |cons s r=>
    cases d:s.kind==13 with
    |false=>
     have i:Ii (s::r)=false:=d;have l:ZB ((1,5),t::s::r)=some (s.kind==5):=e;have c:(s.kind==5)=true:=by rw[FB,d]at a;exact a
     simp only[i,Ba,zh,l,Aa,c,aa];rfl
    |true=>
     have i:Ii (s::r)=true:=d;simp only[i,Da,zh,b,Aa];cases r with
     |nil=>rw[FB,d]at a;cases a
     |cons u r=>
      have c:(u.kind==5)=true:=by rw[FB,d]at a;exact a
      show(bif !(u.kind==5)then some 0 else some (w64 (2+1)))=some 3;rw[c];rfl
def clB(l:Str):Bool:=l.all fun c=> !(c==0||c==12||c==13)
theorem qp(a b:Str):clB (a++b)=(clB a&&clB b):=by unfold clB;grind
theorem aG: ∀l:Str,clB l=true->Proofs.Cl.cleanS l=l
 |[],_=>by rw[Proofs.Cl.cleanS]
 |c::r,h=>by
  unfold clB at h;rw[Jd,Ea]at h;have e:=aG r h.2;have d:(c==0||c==12||c==13)=false:=by simpa using h.1
  rw[Lc,Lc]at d;obtain⟨⟨f,a⟩,b⟩:=d;rw[Proofs.Cl.cleanS,f,a,b,e]
  ·rfl
  grind
theorem Wl(c:UInt8):clB (escC c)=true/\(letB c=true->clB [c]=true)/\(c≠0->quoB c=false->clB [c]=true)/\(c≠0->urB c=false->clB [c]=true)/\(Ih c.toNat=true->clB [c]=true)/\(digB c=true->clB [c]=true):=by
 have: ∀n:Nat,n<256->clB (escC (UInt8.ofNat n))=true/\(letB (UInt8.ofNat n)=true->clB [UInt8.ofNat n]=true)/\(UInt8.ofNat n≠0->quoB (UInt8.ofNat n)=false->clB [UInt8.ofNat n]=true)/\(UInt8.ofNat n≠0->urB (UInt8.ofNat n)=false->clB [UInt8.ofNat n]=true)/\(Ih (UInt8.ofNat n).toNat=true->clB [UInt8.ofNat n]=true)/\(digB (UInt8.ofNat n)=true->clB [UInt8.ofNat n]=true):=by decide+kernel
 have:=this c.toNat (Ab c);simp_all
theorem Lj(dash:Bool): ∀(k:Nat) (l:Str),clB (encW dash k l)=true
 |_,[]=>by rw[encW];rfl
 |k,c::r=>by
  obtain⟨b,a,_⟩:=Wl c;rw[encW,qp,Lj dash (k - 1) r,Rb];unfold pcW
  grind
theorem Yz{p:UInt8->Bool}(a: ∀c,c≠0->p c=false->clB [c]=true): ∀l:Str,Zi l=true->clB (encB p l)=true
 |[],_=>by rw[encB];rfl
 |c::r,h=>by
  obtain⟨e,d⟩:=QQ h;rw[encB,qp,Yz a r d,Rb];cases b:p c with
  |true=>exact(Wl c).1
  |false=>exact a c e b
theorem aW{l:Str}(h:l.all digB=true):clB l=true:=by
 induction l with
 |nil=>rfl
 |cons c r a=> rw[Jd,Ea]at h;rw[show c::r=[c]++r from rfl,qp,(Wl c).2.2.2.2.2 h.1,a h.2];rfl
theorem cl_T(n:Int)(p:Bool):clB (numT n p)=true:=by
 obtain⟨a,_,_⟩:=xq (n.natAbs / 1000);have c:=TG (n:=n) (p:=p);rw[fu,qp,qp,aW a];have b:clB (sgT n)=true:=by unfold sgT;split<;>rfl
 rw[b];cases (partT (n.natAbs%1000) p).isEmpty with
 |true=>rfl
 |false=> show clB (46::partT (n.natAbs%1000) p)=true;rw[show 46::partT (n.natAbs%1000) p=[46]++partT (n.natAbs%1000) p from rfl,qp,aW c];rfl
theorem zCR(w:Str):clB (Yf w)=true:=by
 cases w with
 |nil=>rfl
 |cons c r=>
  rw[Cs];cases Dj (c::r)with
  |true=>rw[Da,qp,(Wl c).1,Lj];rfl
  |false=>exact Lj _ _ _
theorem BK{s:Str}{P:List ze}(h:PcT s P):clB s=true:=by
 cases h with
 |one t h hb hu=>
  cases h with
  |cId l h0 h=>rw[nk];exact Lj _ _ _
  |cFn l h0 h=>rw[Wj,qp];rw[show clB (Zx l)=true from Lj _ _ _];rfl
  |cAt l h0 h=>rw[lm,show 64::Zx l=[64]++Zx l from rfl,qp,show clB (Zx l)=true from Lj _ _ _];rfl
  |cHash l f h0 h hbb=>
   rw[Xn,show 35::ag f l=[35]++ag f l from rfl,qp];have:clB (ag f l)=true:=by cases f<;>exact Lj _ _ _
   rw[this];rfl
  |cStr l h=>rw[Jl,show 34::(encB quoB l++[34])=[34]++(encB quoB l++[34])from rfl,qp,qp,Yz (fun c h0 hc=>(Wl c).2.2.1 h0 hc) l h];rfl
  |cUrl l h=>rw[ym,qp,qp,Yz (fun c h0 hc=>(Wl c).2.2.2.1 h0 hc) l h];rfl
  |cDel c h=>rw[Gn];exact(Wl c).2.2.2.2.1 h
  |cNum n f h1 h2 hf=>rw[Dn];exact cl_T _ _
  |cPct n h1 h2=>rw[Bn,qp,cl_T];rfl
  |cDim n u f h1 h2 hf h0 h=>rw[En,qp,cl_T,zCR];rfl
  |cMark k h1 h2=> rw[Wn h1 h2];rcases Er h1 h2 with rfl|rfl|rfl|rfl|rfl|rfl|rfl|rfl|rfl|rfl|rfl|rfl<;>rfl
 |back=>rfl
 |url l m b h hl hm=> rw[qp,show clB (Zx l)=true from Lj _ _ _,show∀z:Str,40::z=[40]++z from fun _=>rfl,qp,qp,show∀z:Str,34::z=[34]++z from fun _=>rfl,qp,qp,Yz (fun c h0 hc=>(Wl c).2.2.1 h0 hc) m hm];cases b<;>rfl
theorem YW{b:Str}{ts:List ze}{st:List (List ze×Str)}(h:Syn b ts st):clB b=true:=by
 induction h with
 |nil=>rfl
 |cmt b s ts P st h e c a=>rw[qp,qp,a,BK c];rfl
 |no b s ts P st h c d a=>rw[qp,a,BK c];rfl
def tokB(x y:ze):Bool:=x.kind==y.kind&&(x.text==y.text&&(x.num==y.num&&(x.unit==y.unit&&(x.flag==y.flag&&true))))
def Cg:List ze->List ze->Bool
 |[],[]=>true
 |x::l,y::m=>tokB x y&&Cg l m
 |_,_=>false
theorem NZ(x y:ze)(l m:List ze):Cg (x::l) (y::m)=(tokB x y&&Cg l m):=rfl
theorem zBy{x y:ze}:tokB x y=true↔x=y:=by
 obtain⟨a,b,c,d,e⟩:=x;obtain⟨j,f,g,i,h⟩:=y;unfold tokB
 grind
theorem Em: ∀{l m:List ze},Cg l m=true↔l=m
 |[],[]=>by simp[Cg]
 |x::l,y::m=>by rw[Cg,Ea,zBy,Em,List.cons.injEq]
 |[],y::m=>by simp[Cg]
 |x::l,[]=>by simp[Cg]
theorem CO{l m:List ze}(h:l.length≠m.length):Cg l m=false:=by
 cases a:Cg l m with
 |false=>rfl
 |true=>rw[Em.1 a]at h;grind
theorem IX {l m:List ze} (hl:l.length=m.length) (hn:l.length<=big) {step:Int->Option (LO Int Unit Bool)}
  (h1: ∀(i:Nat) (h:i<l.length),step (i:Int)=bif !(tokB l[i] (m[i]'(hl▸h)))then some (.ret false)else some (.again (w64 ((i:Int)+1))))
  (h2:step (l.length:Int)=some (.out ())):Zf step 0 (fun _=>some true)=some (Cg l m):=by
 have hb:big=4194304:=rfl;refine Rw (fun s=> ∃i:Nat,i<=l.length/\s=(i:Int)/\Cg (l.drop i) (m.drop i)=Cg l m) (fun s=>l.length - s.toNat) _ ?_ ⟨0,by omega,rfl,rfl⟩;rintro _ ⟨i,hi,rfl,he⟩;rcases Ld i l.length with h|h
 ·rw[h1 i h];have hm:i<m.length:=hl▸h;rw[show l.drop i=l[i]::l.drop (i+1)from Bb h,show m.drop i=m[i]::m.drop (i+1)from Bb hm,NZ]at he;cases ht:tokB l[i] (m[i]'(hl▸h))with
  |true=> rw[ht,ma]at he;rw[aa,Ba,Zh (by omega) (by omega)];exact .inl ⟨_,rfl,⟨i+1,by omega,by omega,he⟩,by omega⟩
  |false=>
   grind
 ·have:i=l.length:=by omega
  subst this;rw[Pe (Xa _),Pe (by omega)]at he;exact .inr (.inl ⟨(),h2,by rw[<-he];rfl⟩)
theorem nW{α:Type}{l:List α}{i:Nat}(h:i<l.length):geti l (i:Int)=some l[i]:=ZA h
theorem int_ne{n m:Nat}:(((n:Int) != (m:Int)):Bool)= !(n==m):=by
 grind
theorem zAn{l m:List ze}(d:l.length<=big):ZO (l,m)=some (Cg l m):=by
 unfold ZO;rw[int_ne];cases b:l.length==m.length with
 |false=>rw[Va,Da,CO (Fa.1 b)]
 |true=>
  rw[aa,Ba];have a:=Ib.1 b;refine IX a d (fun i h=> ?_) ?_
  ·have c:i<m.length:=a▸h;have e:decide ((i:Int)<(l.length:Int))=true:=Ia (by omega);simp only[e,Da,nW h,nW c,zb,Aa];rfl
  grind
def wrF:Nat->List ze->Str->List ze->Str
 |0,_,b,_=>b
 |_+1,_,b,[]=>b
 |n+1,a,b,t::r=>
  wrF n (a++(t::r).take (pcN (t::r))) ((if Cg (Zk (b++pcS ((t::r).take (pcN (t::r))))) (a++(t::r).take (pcN (t::r)))then b else b++cmtW)++pcS ((t::r).take (pcN (t::r)))) ((t::r).drop (pcN (t::r)))
def wrS(l:List ze):Str:=wrF l.length [] [] l
theorem YK: ∀(n:Nat) (ts:List ze) (b:Str) (r:List ze),b.length<=(wrF n ts b r).length
 |0,_,_,_=>Xa _
 |_+1,_,_,[]=>Xa _
 |n+1,ts,b,t::r=>by
  rw[wrF];refine Yb ?_ (YK n _ _ _)
  grind
def Yi(l:List ze):Prop:=(∀t∈l,mf t=true/\t.text.length<=5000/\t.unit.length<=5000)/\ ∀k,k<l.length->okAt (l.drop k)=true
theorem KO{l:List ze}(h:Yi l)(n:Nat):Yi (l.drop n):=by refine⟨fun t b=>h.1 t (List.mem_of_mem_drop b),fun k a=> ?_⟩;rw[Ub]at a;rw[Ve];exact h.2 (n+k) (by omega)
theorem yE{t:ze}{r:List ze}:1<=pcN (t::r):=by rw[Nv];grind
theorem zDM{t:ze}{r:List ze}:pcN (t::r)<=3:=by rw[Nv];grind
theorem wK{t:ze}{r:List ze}(h:Yi (t::r)):pcN (t::r)<=(t::r).length/\PcT (pcS ((t::r).take (pcN (t::r)))) ((t::r).take (pcN (t::r))):=by
 obtain⟨P,Q,d,c,b⟩:=zF7 (fun u a=>(h.1 u a).1) (h.2 0 (by simp))
 grind
theorem zFQ{t:ze}(e:mf t=true)(g:t.text.length<=5000)(h2:t.unit.length<=5000):(txS t).length<=20100:=by
 have i: ∀l:Str,l.length<=5000->(Zx l).length<=20000:=fun l p=>by have:=Eo (l==[45]) (Qp l) l;unfold Zx;omega
 cases Gq e with
 |cId l d h=>rw[nk];grind
 |cFn l d h=>rw[Wj,Ka];grind
 |cAt l d h=>rw[lm,Ja];grind
 |cHash l f d h j=>
  rw[Xn,Ja];have s:=i l g;have o:=Eo false 0 l;have m:l.length<=5000:=g;cases f with
  |true=>rw[show ag true l=Zx l from rfl];omega
  |false=>rw[show ag false l=encW false 0 l from rfl];omega
 |cStr l h=>rw[Jl];have:=Yv quoB l;grind
 |cUrl l h=>rw[ym];have:=Yv urB l;grind
 |cDel c h=>rw[Gn];simp
 |cNum n f a b e=>rw[Dn];have:=(Fy a b (!f)).1;omega
 |cPct n a b=>rw[Bn,Ka,jb];have:=(Fy a b false).1;omega
 |cDim n u f a b e d h=>
  rw[En,Ka];have:=(Fy a b (!f)).1;have m:u.length<=5000:=h2;have q:(Yf u).length<=20004:=by
   cases u with
   |nil=>grind
   |cons c r=>
    rw[Cs];cases Dj (c::r)with
    |true=>
     rw[Da,Ka];have:=Aw c;have:=Eo false 0 r
     grind
    |false=>grind
  omega
 |cMark k a b=>rw[Wn a b];have:=AP k;omega
theorem TF: ∀{l:List ze},(∀t∈l,mf t=true/\t.text.length<=5000/\t.unit.length<=5000)->(catT l).length<=20100*l.length
 |[],_=>Dc _
 |t::r,h=>by obtain⟨a,b,c⟩:=h t (Db ..);have:=zFQ a b c;have:=TF (l:=r) (fun u d=>h u (ja _ d));rw[catT,Ka,Ja];omega
theorem aL: ∀(l m:List ze),catT (l++m)=catT l++catT m
 |[],m=>rfl
 |t::l,m=>by rw[Sa,catT,catT,aL l m,La]
theorem lX {R:Type} {step:Int×List UInt8->Option (LO (Int×List UInt8) (List UInt8) R)} {l:List ze} (m:l.length<=3) (e: ∀t∈l,mf t=true/\t.text.length<=5000/\t.unit.length<=5000)
  (f: ∀(i:Nat) (a:Str) (hi:i<l.length),step ((i:Int),a)=(Rm (l[i],a)).bind fun j=>some (LO.again (w64 ((i:Int)+1),j)))
  (h2: ∀a,step ((l.length:Int),a)=some (.out a)):Jg step (0,[])=some (.out (catT l)):=by
 refine ZT (fun z=> ∃(i:Nat),i<=l.length/\z=((i:Int),catT (l.take i))) (fun z=>l.length - z.1.toNat) _ ?_ ⟨0,by omega,rfl⟩;rintro _ ⟨i,hi,rfl⟩;rcases Ld i l.length with h|h
 ·obtain⟨a,b,c⟩:=e l[i] (Ic h);have g:=TF (l:=l.take i) (fun t d=>e t (List.mem_of_mem_take d));rw[lc]at g;have k:min i l.length<=2:=by omega
  have d:=zBv (acc:=catT (l.take i)) a b c (by
   grind)
  rw[f i _ h,d,Aa];refine .inl ⟨_,rfl,⟨i+1,by omega,?_⟩,by simp only;rw[Zh (by omega) (by omega)];omega⟩;rw[Zh (by omega) (by omega),Tc h,aL];refine Prod.ext (by grind) ?_;show _=catT (l.take i)++(txS l[i]++[])
  grind
 grind
def stO(x:List ze×Str):zw:=⟨(x.1.length:Int),(x.2.length:Int)⟩
theorem XX{b s A B:Str}{ts L us P:List ze}{m:Nat}(h:b=B++A/\A≠[]/\ts=L++us/\us≠[]/\ ∃R,run b L R/\Lk R A/\4<=R.length/\4<=A.length):Cg (Zk (A++s)) (us++P)=Cg (Zk (b++s)) (ts++P):=by
 obtain⟨o,k,i,n,R,j,a,l,e⟩:=h;have g:=yl (sK s j l);have f:Lk (R++s) (A++s):=by
  refine CE a k ?_;rcases a with a|⟨d,y,_,rfl,_⟩
  ·cases A with
   |nil=>grind
   |cons c t=>
    cases t with
    |cons d u=>rw[iN,<-a];exact Br R
    |nil=>simp at e
  ·rfl
 rw[FL f]at g;rw[g,i,Bool.eq_iff_iff,Em,Em,La,List.append_cancel_left_eq]
theorem YN{x:List ze}(h:gluS x=0):x.length<=1500/\(∀t∈x,mf t=true)/\ ∀k,k<x.length->okAt (x.drop k)=true:=by
 unfold gluS at h;cases hl:decide (x.length<=1500)with
 |false=>grind
 |true=>
  rw[hl,Da]at h;cases ha:(List.range x.length).all (Tm x)with
  |false=>grind
  |true=>
   rw[Xb]at ha;have key: ∀k,k<x.length->mf (x.getD k default)=true/\okAt (x.drop k)=true:=by intro k hk;have:=ha k (Ed.2 hk);unfold Tm at this;rw[Ea]at this;exact this
   refine⟨Vb hl,fun t ht=> ?_,fun k hk=>(key k hk).2⟩;obtain⟨k,hk,rfl⟩:=List.mem_iff_getElem.1 ht
   grind
theorem zEt{t:ze}{r:List ze}:(bif t.kind==9 then((pcN (t::r):Nat):Int)==2 else false)=(t.kind==9&&t.text==[92]):=by
 cases a:t.kind==9 with
 |false=>rfl
 |true=>
  have b:Fg t=false:=by unfold Fg;rw[Ib.1 a];rfl
  rw[Nv,a,Da,b]
  grind
theorem zBd{t:ze}{r:List ze}:pcS ((t::r).take (pcN (t::r)))=bif (t.kind==9&&t.text==[92])then [92,10]else catT ((t::r).take (pcN (t::r))):=by
 obtain⟨k,a⟩: ∃k,pcN (t::r)=k+1:=⟨pcN (t::r) - 1,by have:=yE (t:=t) (r:=r);omega⟩;rw[a,Xe,pcS]
 grind
theorem YM{n:Nat}{ts:List ze}{b:Str}{t:ze}{r:List ze}{s:Str}{P:List ze}(a:(t::r).take (pcN (t::r))=P)(c:pcS P=s):
  wrF (n+1) ts b (t::r)=wrF n (ts++P) ((if Cg (Zk (b++s)) (ts++P)then b else b++cmtW)++s) ((t::r).drop (pcN (t::r))):=by
 subst c a;rw[wrF]
theorem ap16{n:Nat}(h:n<=99999):zH n 1 16=true:=Yj (by omega) (by omega)
theorem jW{n m:Nat}(h:n+m<=200000):zH n m 1=true:=by
 unfold zH
 grind
theorem zDd{R:Type}{i:Int}{b:Str}{ts:List ze}{st:List (List ze×Str)}(h:zEo b ts st)(g:st.length<=100000): ∃L B A us,
  (bif decide (w64 (((st.map stO).length:Int) - 4)>=0)then
        need (decide (0<=w64 (((st.map stO).length:Int) - 4))&&decide (w64 (((st.map stO).length:Int) - 4)<((st.map stO).length:Int)))<|
        ((st.map stO)[(w64 (((st.map stO).length:Int) - 4)).toNat]?).bind fun c=>
        some (LX.out (i,b,st.map stO,c))
       else
        some (LX.out (i,b,st.map stO,(⟨0,0⟩:zw))))=(some (LX.out (i,b,st.map stO,stO (L,B))):Option (LX (Int×List UInt8×List zw×zw) R))/\
  b=B++A/\ts=L++us/\ ∀s P,Cg (Zk (A++s)) (us++P)=Cg (Zk (b++s)) (ts++P):=by
 rw[Nb];by_cases l:4<=st.length
 ·obtain⟨A,R,us,d,k,e,a,j,f,o,n⟩:=h.bd (st.length - 4) (by omega);refine⟨st[st.length - 4].1,st[st.length - 4].2,A,us,?_,d,e,fun s P=>XX (m:=0) ⟨d,k,e,a,R,j,f,by omega,by omega⟩⟩;rw[Zh (by omega) (by omega),Ia (by omega),Da,Ia (by omega),Bool.and_self,zV,show((st.length:Int) - 4).toNat=st.length - 4 by omega,Ma,Ua (by omega)];rfl
 ·refine⟨[],[],b,ts,?_,rfl,rfl,fun s P=>rfl⟩;rw[Zh (by omega) (by omega),Ya (by omega),Ba];rfl
theorem SX{x:List ze}(hx: ∀t∈x,t.text.length<=5000/\t.unit.length<=5000):
  vo x=some (if gluS x=0 then(if 4000<(wrS x).length then([],28)else(wrS x,0))else([],gluS x)):=by
 unfold vo;have hbig:big=4194304:=rfl;rw[wS (fun t ht=>by grind)];simp only[zb,Aa];by_cases hg:gluS x=0
 ·rw[Ha hg,hg,show((0:Int) != 0)=false from rfl,Ba];obtain⟨hlen,hfine,hok⟩:=YN hg;have hrest:Yi x:=⟨fun t ht=>⟨hfine t ht,hx t ht⟩,hok⟩;refine Rw (fun z=> ∃(i:Nat) (b:Str) (st:List (List ze×Str)) (n:Nat),z=((i:Int),b,st.map stO)/\i<=x.length/\Syn b (x.take i) st/\b.length<=4000/\x.length - i<=n/\wrF n (x.take i) b (x.drop i)=wrS x/\st.length<=i) (fun z=>x.length - z.1.toNat) _ ?_
   ⟨0,[],[],x.length,rfl,Dc _, .nil,Dc _,Xa _,rfl,Xa _⟩
  rintro _ ⟨i,b,st,n,rfl,hi,hsyn,hbl,hn,hW,hst⟩;simp only;rcases Ld i x.length with h|h
  ·have hro:=KO hrest i;have hdr:x.drop i=x[i]::x.drop (i+1):=Bb h;obtain⟨t,ht⟩: ∃t,t=x[i]:=⟨_,rfl⟩;obtain⟨r,hr⟩: ∃r,r=x.drop (i+1):=⟨_,rfl⟩;rw[<-ht,<-hr]at hdr;rw[hdr]at hro hW;have hlr:(t::r).length=x.length - i:=by rw[<-hdr,Ub]
   obtain⟨hk1,hpc⟩:=wK hro;have hk0:=yE (t:=t) (r:=r);have hk3:=zDM (t:=t) (r:=r);obtain⟨k,hk⟩: ∃k,pcN (t::r)=k:=⟨_,rfl⟩;obtain⟨P,hP⟩: ∃P,(t::r).take k=P:=⟨_,rfl⟩;obtain⟨s,hs⟩: ∃s,pcS P=s:=⟨_,rfl⟩;have hst':=zBd (t:=t) (r:=r);have hstep:=fun m=>YM (n:=m) (ts:=x.take i) (b:=b) (t:=t) (r:=r) (s:=s) (P:=P) (by rw[hk];exact hP) hs;have e3:Qj (List.drop i x)=some ((k:Nat):Int):=by rw[hdr,<-hk];exact RY (by grind) (hro.2 0 (by simp))
   have hb2:=zEt (t:=t) (r:=r);rw[hk]at hk0 hk1 hk3 hpc hst' hb2 hstep;rw[hP]at hpc hst';rw[hs]at hpc hst';rw[hlr]at hk1;have e1:decide ((i:Int)<(x.length:Int))=true:=Ia (by omega);have e2:(decide ((0:Int)<=(i:Int))&&decide ((i:Int)<=(x.length:Int)))=true:=by rw[Ia (by omega),Ia (by omega)];rfl
   have e4:w64 ((i:Int)+((k:Nat):Int))=((i+k:Nat):Int):=by rw[Zh (by omega) (by omega)];omega
   have e5:(decide ((0:Int)<=(i:Int))&&(decide ((i:Int)<=((i+k:Nat):Int))&&decide (((i+k:Nat):Int)<=(x.length:Int))))=true:=by rw[Ia (by omega),Ia (by omega),Ia (by omega)];rfl
   have e6:geti x (i:Int)=some t:=by rw[ZA h,ht]
   have e7:List.drop i (List.take (i+k) x)=P:=by rw[List.drop_take,hdr,show i+k - i=k by omega,hP]
   simp only[e1,e2,e3,e4,e5,e6,Da,zV,Aa,Eb,e7];have hPl:P.length<=3:=by rw[<-hP,lc];omega
   have hPf: ∀u∈P,mf u=true/\u.text.length<=5000/\u.unit.length<=5000:=fun u hu=>hro.1 u (by grind);have hsl:s.length<=60400:=by
    have:=TF hPf;rw[hst'];cases t.kind==9&&t.text==[92]with
    |true=>grind
    |false=>grind
   rw[qW (lX (l:=P) hPl hPf (fun j a hj=> ?_) (fun a=> ?_))]
   ·rw[hb2];have hj9:(bif (t.kind==9&&t.text==[92])then some (LX.out ((i:Int),b,st.map stO,[(92:UInt8),(10:UInt8)]))else some (LX.out ((i:Int),b,st.map stO,catT P)))=(some (LX.out ((i:Int),b,st.map stO,s)):Option (LX (Int×List UInt8×List zw×List UInt8) (LO (Int×List UInt8×List zw) (List UInt8) (Str×Int)))):=by rw[hst'];cases t.kind==9&&t.text==[92]<;>rfl
    rw[hj9,zh];simp only;have hsok:=Iy hsyn;obtain⟨L,B,A,us,hfrom,hbA,hts,hwin⟩:=zDd (R:=LO (Int×List UInt8×List zw) (List UInt8) (Str×Int)) (i:=(i:Int)) hsok (by omega);rw[hfrom,zh];have hBl:B.length<=b.length:=by rw[hbA,Ka];omega
    have hAl:A.length<=b.length:=by rw[hbA,Ka];omega
    have f1:(decide ((0:Int)<=(stO (L,B)).at_)&&decide ((stO (L,B)).at_<=(b.length:Int)))=true:=by show(decide ((0:Int)<=(B.length:Int))&&decide ((B.length:Int)<=(b.length:Int)))=true;rw[Ia (by omega),Ia (by omega)];rfl
    have f2:(stO (L,B)).at_.toNat=B.length:=Eb _;have f3:decide (B.length+(b.length - B.length)<=b.length)=true:=Ia (by omega);have f4:List.take (b.length - B.length) (List.drop B.length b)=A:=by rw[hbA,List.drop_left,Ka,show B.length+A.length - B.length=A.length by omega,bf]
    have f5:QU A.length s.length=true:=si.2 (by omega);simp only[f1,f2,f3,f4,f5,zV,fP,Aa,e4,Eb];have htl:(stO (L,B)).token=(L.length:Int):=rfl;have hLl:L.length<=i:=by have:=congrArg List.length hts;rw[lc,Ka]at this;omega
    have htk:List.drop L.length (List.take (i+k) x)=us++P:=by
     have:List.take (i+k) x=L++(us++P):=by rw[List.take_add,hdr,hP,hts,La]
     rw[this,List.drop_left]
    have hPlen:P.length=k:=by rw[<-hP,lc];omega
    have husP:(us++P).length<=1500:=by have h1:=congrArg List.length hts;rw[lc,Ka]at h1;rw[Ka,hPlen];omega
    have hcl:clB (A++s)=true:=by have h1:=YW hsyn;rw[hbA,qp,Ea]at h1;rw[qp,h1.2,BK hpc];rfl
    obtain⟨c,hc⟩: ∃c,c=Cg (Zk (b++s)) (x.take i++P):=⟨_,rfl⟩;have hwinc:Cg (Zk (A++s)) (us++P)=c:=by rw[hc];exact hwin s P
    obtain⟨c',hc'⟩: ∃c',c'=(decide ((A++s).length<=4000)&&c):=⟨_,rfl⟩;have hneed:(decide ((0:Int)<=(stO (L,B)).token)&&(decide ((stO (L,B)).token<=((i+k:Nat):Int))&&decide (((i+k:Nat):Int)<=(x.length:Int))))=true:=by rw[htl,Ia (by omega),Ia (by omega),Ia (by omega)];rfl
    have hcat: ∀(E:Option (LX (Int×List zw×List UInt8) (LO (Int×List UInt8×List zw) (List UInt8) (Str×Int)))),
      E=(need (decide ((0:Int)<=(stO (L,B)).token)&&(decide ((stO (L,B)).token<=((i+k:Nat):Int))&&decide (((i+k:Nat):Int)<=(x.length:Int)))|| !(!((QW (A++s)).2 != 0)))<|
       (zo (!((QW (A++s)).2 != 0)) (ZO ((QW (A++s)).1,List.drop (stO (L,B)).token.toNat (List.take (i+k) x))) (default:Bool)).bind fun y13=>
       bif bif (QW (A++s)).2 != 0 then true else !y13 then
        need (zH b.length ([47,42,42,47]:Str).length 1)<|
        some (LX.out ((i:Int),st.map stO,b++([47,42,42,47]:Str)))
       else
        some (LX.out ((i:Int),st.map stO,b)))->E=some (LX.out ((i:Int),st.map stO,if c' then b else b++cmtW)):=by
     rintro E rfl;rw[hneed,Td,zV,show(stO (L,B)).token.toNat=L.length from Eb _,htk];have happ:zH b.length ([47,42,42,47]:Str).length 1=true:=jW (by grind);unfold QW;by_cases hlong:4000<(A++s).length
     ·rw[Ha hlong];have:c'=false:=by rw[hc',Ya (by omega)];rfl
      rw[this];simp only[show((28:Int) != 0)=true from rfl,aa,Zb,Aa,Da,happ,zV];rfl
     ·rw[Ga hlong,aG _ hcl];have hcc:c'=c:=by rw[hc',Ia (by omega)];rfl
      by_cases hmany:1500<(Zk (A++s)).length
      ·rw[Ha hmany];have:c'=false:=by rw[hcc,<-hwinc];exact CO (by omega)
       rw[this];simp only[show((4:Int) != 0)=true from rfl,aa,Zb,Aa,Da,happ,zV];rfl
      ·rw[Ga hmany];simp only[show((0:Int) != 0)=false from rfl,Va,zA,Ba,zAn (show(Zk (A++s)).length<=big by omega),hwinc,Aa,happ,zV]
       grind
    rw[hcat _ rfl,zh];simp only;obtain⟨m,hm⟩: ∃m,n=m+1:=⟨n - 1,by omega⟩;subst hm;rw[hstep m,<-hc]at hW;have hWl:=YK m (x.take i++P) ((if c then b else b++cmtW)++s) ((t::r).drop k);rw[hW]at hWl;have hcw:cmtW.length=4:=rfl;have hb1:(if c' then b else b++cmtW).length<=4004:=by
     split
     ·omega
     ·grind
    rw[zC (ap16 (by grind)),zC (jW (by omega))];have hbs:b.length+s.length<=(wrS x).length:=by
     refine Yb ?_ hWl;rw[Ka];split
     ·omega
     ·grind
    by_cases hbig2:4000<((if c' then b else b++cmtW)++s).length
    ·grind
    ·rw[Ya (by omega),Ba];have hcc:c'=c:=by
      have:(A++s).length<=4000:=by
       rw[Ka]at hbig2 ⊢;have:b.length<=(if c' then b else b++cmtW).length:=by
        split
        ·grind
        ·grind
       omega
      rw[hc',Ia this];rfl
     rw[hcc]at hbig2 ⊢;have hxt:x.take (i+k)=x.take i++P:=by rw[List.take_add,hdr,hP]
     refine .inl ⟨_,rfl,⟨i+k,(if c then b else b++cmtW)++s,st++[(x.take i,if c then b else b++cmtW)],m,?_,by omega,?_,by omega,by omega,?_,?_⟩,?_⟩
     ·refine Prod.ext e4 (Prod.ext rfl ?_);rw[ve];show st.map stO++[_]=st.map stO++[stO (x.take i,if c then b else b++cmtW)];unfold stO
      grind
     ·rw[hxt];cases hcb:c with
      |true=> rw[Ha rfl];exact .no b s _ P st hsyn hpc (Em.1 (by rw[<-hc,hcb]))
      |false=> rw[Ga (by decide)];refine .cmt b s _ P st hsyn ?_ hpc;rintro rfl;have h0:=hsok.tok;rw[QL (ZK rfl)]at h0;rw[<-h0,Ob,Ob,Oz hpc]at hc;rw[hcb,Em.2 rfl]at hc;cases hc
     ·rw[hxt,<-hW,<-Ve,hdr]
     ·rw[Ka,jb];omega
     ·simp only;rw[e4];omega
   ·have d1:decide ((j:Int)<(P.length:Int))=true:=Ia (by omega);simp only[d1,Da,ZA hj,Aa]
   ·simp only;rw[Ya (by omega),Ba]
  ·have:i=x.length:=by omega
   subst this;have e1:decide ((x.length:Int)<(x.length:Int))=false:=Ya (by omega);simp only[e1,Ba];refine .inr (.inl ⟨_,rfl,?_⟩);rw[Pe (Xa _)]at hW;have hWb:b=wrS x:=by
    cases n with
    |zero=>rw[wrF]at hW;exact hW
    |succ n=>rw[wrF]at hW;exact hW
   rw[<-hWb,Ga (by omega)]
 grind
theorem Ny: ∀(n:Nat) {ts r:List ze} {b:Str} {st:List (List ze×Str)},Yi r->Syn b ts st->r.length<=n-> ∃st',Syn (wrF n ts b r) (ts++r) st'
 |0,ts,r,b,st,_,hs,hn=>by
  have:r=[]:=Ye.1 (by omega);subst this;rw[wrF,Ra]
  grind
 |n+1,ts,[],b,st,_,hs,_=>by
  rw[wrF,Ra]
  grind
 |n+1,ts,t::r,b,st,hr,hs,hn=>by
  obtain⟨hk,hpc⟩:=wK hr;have hk0:=yE (t:=t) (r:=r);rw[YM rfl rfl];have hd:(t::r)=(t::r).take (pcN (t::r))++(t::r).drop (pcN (t::r)):=(List.take_append_drop _ _).symm;have hl:((t::r).drop (pcN (t::r))).length<=n:=by rw[Ub];omega
  have hro:=KO hr (pcN (t::r));generalize (t::r).take (pcN (t::r))=P at*;generalize (t::r).drop (pcN (t::r))=Q at*;cases hc:Cg (Zk (b++pcS P)) (ts++P)with
  |true=>
   rw[Ha rfl];obtain⟨st',h'⟩:=Ny n hro (.no b (pcS P) ts P st hs hpc (Em.1 hc)) hl
   grind
  |false=>
   rw[Ga (by decide)];have hb:b≠[]:=by rintro rfl;have h0:=(Iy hs).tok;rw[QL (ZK rfl)]at h0;rw[<-h0,Ob,Ob,Oz hpc,Em.2 rfl]at hc;cases hc
   obtain⟨st',h'⟩:=Ny n hro (.cmt b (pcS P) ts P st hs hb hpc) hl
   grind
theorem xA{x:List ze}(h:Yi x):Zk (wrS x)=x/\clB (wrS x)=true:=by obtain⟨b,a⟩:=Ny x.length h .nil (Xa _);rw[Ob]at a;exact⟨(Iy a).tok,YW a⟩
theorem I4 {S X R:Type} {step:S->Option (LO S X R)} {k:X->Option R} (Inv:S->Prop) (c:S->Nat) (Q:R->Prop)
  (h: ∀s,Inv s->(∃s',step s=some (.again s')/\Inv s'/\c s'<c s)\/(∃x y,step s=some (.out x)/\k x=some y/\Q y)\/(∃y,step s=some (.ret y)/\Q y)) {s:S} (e:Inv s): ∃y,Zf step s k=some y/\Q y:=by
 have d: ∀(m:Nat) (s:S),c s<m->Inv s-> ∃(r:LX X R) (y:R),qI step m s=some r/\r.go k=some y/\Q y:=by
  intro m
  induction m with
  |zero=>intro s h;omega
  |succ m i=>
   intro s g e;simp only[qI];rcases h s e with⟨s',a,b,f⟩|⟨x,y,a,b,f⟩|⟨y,a,b⟩
   ·grind
   ·simp_all
   simp_all
 obtain⟨r,y,a,b,f⟩:=d (c s+1) s (by omega) e;exact⟨y,by rw[Qt (di a)];exact b,f⟩
end Go.Lv.VT
