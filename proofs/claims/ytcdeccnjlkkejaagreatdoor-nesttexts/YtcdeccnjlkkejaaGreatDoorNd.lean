/- Pieces: what is written at once; how they begin. -/
import Derived.Test.YtcdeccnjlkkejaaGreatDoorNc
import Derived.Test.YtcdeccnjlkkejaaGreatDoorNam
set_option linter.unusedSimpArgs false
set_option linter.unusedVariables false
namespace Go.Lv.VT
set_option maxRecDepth 100000
abbrev tkSp:zb:=⟨13,[],0,[],false⟩
inductive PcT:Str->List zb->Prop
 |one (t:zb) (h:zf8 t) (hb: ¬(t.kind=9/\t.text=[92])) (hu:Vg t=false):PcT (txS t) [t]
 |back:PcT [92,10] [⟨9,[92],0,[],false⟩,tkSp]
 |url (l m:Str) (s:Bool) (h:Zm l=true) (hl:lowS l=[117,114,108]) (hm:Zm m=true):
   PcT (qg l++40::((if s then [32]else [])++34::(encB quoB m++[34]))) (⟨2,l,0,[],false⟩::((if s then [tkSp]else [])++[⟨5,m,0,[],false⟩]))
theorem NM{l:Str}(h:lowS l=[117,114,108]): ∃a r,l=a::r/\(a=117\/a=85):=by
 cases l with
 |nil=>cases h
 |cons a r=>
  have h1:Jj a=117:=by unfold lowS at h;rw[ja]at h;injection h
  have: ∀n:Nat,n<256->Jj (UInt8.ofNat n)=117->UInt8.ofNat n=117\/UInt8.ofNat n=85:=by decide+kernel
  have:=this a.toNat (Fb a);simp_all
theorem Ez{l:Str}(a:l≠[])(z:Str):nmS (qg l++40::z)=true:=oL (Yk a) (by show(40:UInt8)≠10;decide)
theorem Lr{k:Int}(a:13<=k)(h2:k<=24):k=13\/k=14\/k=15\/k=16\/k=17\/k=18\/k=19\/k=20\/k=21\/k=22\/k=23\/k=24:=by omega
theorem jB{s:Str}{P:List zb}(h:PcT s P):nmS s=true\/(∃n p U t,P=[t]/\s=numT n p++U/\t.num=n/\(U=[]/\t.kind=10\/U=[37]\/ ∃u,u≠[]/\Zm u=true/\U=Bg u))\/
  (∃c r,s=c::r/\(c=64\/c=35\/c=34)/\nbS s=false)\/(∃c,s=[c]/\Vh c.toNat=true)\/(∃k,13<=k/\k<=24/\s=dm k)\/s=[92,10]:=by
 cases h with
 |one t h q v=>
  cases h with
  |cId l b h=>left;rw[Bp];exact Yk b
  |cFn l b h=>left;rw[Il];exact Ez b []
  |cAt l b h=>right;right;left;rw[Dp];exact⟨64,_,rfl, .inl rfl,rfl⟩
  |cHash l f b h j=>right;right;left;rw[uq];exact⟨35,_,rfl, .inr (.inl rfl),rfl⟩
  |cStr l h=>right;right;left;rw[Pn];exact⟨34,_,rfl, .inr (.inr rfl),rfl⟩
  |cUrl l h=>left;rw[Yq];rfl
  |cDel c h=>right;right;right;left;rw[Bq];grind
  |cNum n f d e g=>right;left;exact⟨n, !f,[],_,rfl,by rw[gq,Bb],rfl, .inl ⟨rfl,rfl⟩⟩
  |cPct n d e=>right;left;exact⟨n,false,[37],_,rfl,fq n,rfl, .inr (.inl rfl)⟩
  |cDim n u f d e g b h=>right;left;exact⟨n, !f,Bg u,_,rfl,Aq n u f,rfl, .inr (.inr ⟨u,b,h,rfl⟩)⟩
  |cMark k d e=>right;right;right;right;left;exact⟨k,d,e,tq d e⟩
 |back=>grind
 |url l m s h i o=> left;obtain⟨a,r,rfl,_⟩:=NM i;exact Ez (by simp) _
theorem bH(c:UInt8)(h:Vh c.toNat=true):spB c=false/\nbS [c]=false/\c≠101/\c≠69:=by
 have: ∀n:Nat,n<256->Vh (UInt8.ofNat n).toNat=true->spB (UInt8.ofNat n)=false/\nbS [UInt8.ofNat n]=false/\UInt8.ofNat n≠101/\UInt8.ofNat n≠69:=by decide+kernel
 have:=this c.toNat (Fb c);simp_all
theorem OX{s:Str}(h:digB (atS (unsign s) 0)=true):nbS s=true:=by
 unfold nbS undot;have:(atS (unsign s) 0==46)=false:=Fa.2 (QT h).2.2.1
 grind
theorem wy{s:Str}{P:List zb}(h:PcT s P)(d:digB (atS (unsign s) 0)=true): ∃n p U t,P=[t]/\s=numT n p++U/\t.num=n/\(U=[]/\t.kind=10\/U=[37]\/ ∃u,u≠[]/\Zm u=true/\U=Bg u):=by
 have a:=OX d;rcases jB h with h|h|⟨c,r,e,_,h⟩|⟨c,rfl,f⟩|⟨k,b,g,rfl⟩|rfl
 ·rw[rU h]at a;cases a
 ·exact h
 ·grind
 ·rw[(bH c f).2.1]at a;cases a
 ·rcases Lr b g with rfl|rfl|rfl|rfl|rfl|rfl|rfl|rfl|rfl|rfl|rfl|rfl<;>cases a
 ·cases a
theorem zEc{s:Str}{P:List zb}(h:PcT s P)(a:spB (atS s 0)=true):s=[32]:=by
 rcases jB h with h|⟨n,p,U,t,_,rfl,_⟩|⟨c,r,rfl,g,_⟩|⟨c,rfl,f⟩|⟨k,d,b,rfl⟩|rfl
 ·rw[(ou (Tp h)).1]at a;cases a
 ·obtain⟨c,r,e,_,b,_⟩:=Un n p U;rw[e]at a;rw[show atS (c::r) 0=c from rfl,b]at a;cases a
 ·rcases g with rfl|rfl|rfl<;>cases a
 ·rw[show atS [c] 0=c from rfl,(bH c f).1]at a;cases a
 ·rcases Lr d b with rfl|rfl|rfl|rfl|rfl|rfl|rfl|rfl|rfl|rfl|rfl|rfl<;>first|rfl|cases a
 ·cases a
theorem UA{s:Str}{P:List zb}(h:PcT s P){b:UInt8}(f:b=47\/b=42)(d:atS s 0=b):s=[b]:=by
 rcases jB h with h|⟨n,p,U,t,_,rfl,_⟩|⟨c,r,rfl,g,_⟩|⟨c,rfl,j⟩|⟨k,a,i,rfl⟩|rfl
 ·have a:=Tp h;rw[d]at a;rcases f with rfl|rfl<;>cases a
 ·obtain⟨c,r,e,a,_⟩:=Un n p U;rw[e]at d;rw[show c=b from d]at a;rcases f with rfl|rfl<;>cases a
 ·rw[show c=b from d]at g
  grind
 ·rw[show c=b from d]
 ·rcases Lr a i with rfl|rfl|rfl|rfl|rfl|rfl|rfl|rfl|rfl|rfl|rfl|rfl<;>rcases f with rfl|rfl<;>cases d
 ·rcases f with rfl|rfl<;>cases d
theorem Bj{s:Str}{P:List zb}(h:PcT s P):s≠[]:=by
 rcases jB h with h|⟨n,p,U,t,_,rfl,_⟩|⟨c,r,rfl,d,_⟩|⟨c,rfl,f⟩|⟨k,b,a,rfl⟩|rfl
 ·exact Mk h
 ·obtain⟨c,r,e,_⟩:=Un n p U;rw[e];simp
 ·simp
 ·simp
 ·rcases Lr b a with rfl|rfl|rfl|rfl|rfl|rfl|rfl|rfl|rfl|rfl|rfl|rfl<;>decide
 ·simp
theorem LW{l:Str}{c:UInt8}{r:Str}(b:c=101\/c=69)(h:qg l=c::r): ∃t,l=c::t:=by
 cases l with
 |nil=>unfold qg at h;rw[encW]at h;cases h
 |cons a t=>
  have g:qg (a::t)=pcW ((a::t:Str)==[45]) (QU (a::t)) a++encW ((a::t:Str)==[45]) (QU (a::t) - 1) t:=rfl;obtain⟨d,u,e,f⟩:=uB (dash:=(a::t:Str)==[45]) (k:=QU (a::t)) (by unfold QU;split<;>omega) a (encW ((a::t:Str)==[45]) (QU (a::t) - 1) t)
  grind
theorem zDv{s:Str}{P:List zb}(h:PcT s P)(b:atS s 0=101\/atS s 0=69): ∃l t z,Zm l=true/\P=[t]/\(t.kind=1\/t.kind=2)/\t.text=l/\s=qg l++z/\(z=[]\/z=[40]):=by
 cases h with
 |one t h B C=>
  cases h with
  |cId l i h=>exact⟨l,_,[],h,rfl, .inl rfl,rfl,by rw[Bp,Bb], .inl rfl⟩
  |cFn l i h=>exact⟨l,_,[40],h,rfl, .inr rfl,rfl,Il l, .inr rfl⟩
  |cAt l i h=>rw[Dp]at b;rcases b with b|b<;>cases b
  |cHash l f i h v=>rw[uq]at b;rcases b with b|b<;>cases b
  |cStr l h=>rw[Pn]at b;rcases b with b|b<;>cases b
  |cUrl l h=>rw[Yq]at b;rcases b with b|b<;>cases b
  |cDel c h=>
   rw[Bq]at b;obtain⟨_,_,p,q⟩:=bH c h;rcases b with b|b
   ·exact absurd b p
   ·exact absurd b q
  |cNum n f d g w=>
   rw[gq]at b;obtain⟨c,r,e,d,_⟩:=Un n (!f) [];rw[Bb]at e;rw[e]at b;rcases b with b|b<;>(rw[show c=_ from b]at d;cases d)
  |cPct n d g=>
   rw[fq]at b;obtain⟨c,r,e,d,_⟩:=Un n false [37];rw[e]at b;rcases b with b|b<;>(rw[show c=_ from b]at d;cases d)
  |cDim n u f d g w i h=>
   rw[Aq]at b;obtain⟨c,r,e,d,_⟩:=Un n (!f) (Bg u);rw[e]at b;rcases b with b|b<;>(rw[show c=_ from b]at d;cases d)
  |cMark k d g=> rw[tq d g]at b;rcases Lr d g with rfl|rfl|rfl|rfl|rfl|rfl|rfl|rfl|rfl|rfl|rfl|rfl<;>rcases b with b|b<;>cases b
 |back=>rcases b with b|b<;>cases b
 |url l m s h o y=>
  exfalso;obtain⟨a,r,rfl,D⟩:=NM o;obtain⟨c,A,e⟩:=Ji (Mk (Yk (l:=a::r) (by simp)));have j:c=101\/c=69:=by rw[e]at b;exact b
  obtain⟨t,x⟩:=LW j e;injection x with e3 _
  grind
def ShS(s r:Str):Prop:=r=s\/ ∃d y,digB d=true/\s=48::46::d::y/\r=46::d::y
theorem gN(cap:Nat)(l:Str):capF cap 0 (48::l)=capF cap 0 l:=by show capF cap (min cap (decN 0 48)) l=_;rw[show decN 0 48=0 from rfl,Nat.min_zero]
theorem zAd(A:Str)(p:Int):thoV (48::A) p=thoV A p:=by
 unfold thoV;by_cases a:p<0
 ·rw[La a,La a];by_cases c:(A.length:Int)+p<0
  ·have b:(((48::A:Str).length:Int)+p).toNat=0:=by rw[Sa];omega
   grind
  ·have b:(((48::A:Str).length:Int)+p).toNat=((A.length:Int)+p).toNat+1:=by rw[Sa];omega
   rw[b,xe,gN]
 ·rw[Ga a,Ga a,gN]
theorem ED(d:UInt8)(y:Str)(e:digB d=true):Zl (48::46::d::y)=Zl (46::d::y):=by
 have j:Xf 48=false/\Xf 46=false:=by decide
 have b:Mf (48::46::d::y)=46::d::y:=rfl;have a:Mf (46::d::y)=46::d::y:=rfl;have h:zB (48::46::d::y)=zB (46::d::y):=by rw[QE,QE,b,a]
 have g:(numP (48::46::d::y)).val=(numP (46::d::y)).val:=by have c:numP (48::46::d::y)=⟨[],[48],dotP (46::d::y),expP (zP (46::d::y)).1⟩:=rfl;have i:numP (46::d::y)=⟨[],[],dotP (46::d::y),expP (zP (46::d::y)).1⟩:=rfl;rw[c,i];unfold NumP.val;simp only[Yc,Mc,zAd]
 have f:nbS (46::d::y)=true:=e;rw[Gt,Ga (by decide),Ga (by decide),show((48:UInt8)==35)=false from rfl,Rc,Ga (by decide),show nbS (48::46::d::y)=true from rfl,La rfl,
  Gt,Ga (by decide),Ga (by decide),show((46:UInt8)==35)=false from rfl,Rc,Ga (by decide),f,La rfl]
 unfold zA;rw[h,g]
theorem capG(cap:Nat): ∀(l:Str) (n:Nat),valG n l<=cap->capF cap n l=valG n l
 |[],n,_=>rfl
 |c::l,n,h=>by
  have b:valG n (c::l)=valG (decN n c) l:=rfl;rw[b]at h ⊢;have a:decN n c<=valG (decN n c) l:=by rw[Gv l (decN n c)];have:=De (decN n c) (Jg (n:=l.length) (show 0<10 by omega));omega
  rw[capF,Nat.min_eq_right (Lb a h)];exact capG cap l (decN n c) h
theorem gV: ∀(k n:Nat),n*10 ^ k<=1000->Gi k n=n*10 ^ k
 |0,n,_=>by rw[Gi,Nat.pow_zero,Nat.mul_one]
 |k+1,n,h=>by
  have c:Kh=1000000000000:=rfl;rw[Gi];have a:0<10 ^ k:=Jg (by omega);have e:n*10 ^ (k+1)=10*n*10 ^ k:=by rw[Nat.pow_succ,Nat.mul_comm 10 n,Nat.mul_assoc,Nat.mul_comm (10 ^ k) 10]
  have d:10*n<=10*n*10 ^ k:=De _ a;by_cases b:n=0
  ·subst b;simp
  ·rw[Ga (by omega),Nat.min_eq_right (by omega),gV k (10*n) (by omega),e]
theorem pW{n:Int}{p:Bool}(hp:(partT (n.natAbs%1000) p).isEmpty=false){U:Str}(hU:past digB U=U)(hx:expS U=none):
  (numP (46::(partT (n.natAbs%1000) p++U))).val=((n.natAbs%1000:Nat):Int):=by
 obtain⟨k1,k2,k3,_,_⟩:=Yn (r:=n.natAbs%1000) (by omega) p;generalize partT (n.natAbs%1000) p=F at*;obtain⟨c,r,rfl⟩:=Ji (show F≠[] by grind);have hc:digB c=true:=by rw[Jd,Ca]at k1;exact k1.1
 have hq:Mf (46::(c::r++U))=46::(c::r++U):=rfl;have hpast:past digB (c::r++U)=U:=by rw[vB _ _ k1,hU]
 have hw:zP (46::(c::r++U))=(U,false):=by unfold zP;rw[show atS (46::(c::r++U)) 1=c from rfl,hc,show(atS (46::(c::r++U)) 0==46&&true)=true from rfl,La rfl,show(46::(c::r++U)).drop 1=c::r++U from rfl,hpast]
 have hrun:List.takeWhile digB (c::r++U)=c::r:=by have:=Ww digB (c::r++U);rw[hpast]at this;exact List.append_cancel_right this
 have hd:dotP (46::(c::r++U))=some (c::r):=by unfold dotP;rw[show atS (46::(c::r++U)) 1=c from rfl,hc,show(atS (46::(c::r++U)) 0==46&&true)=true from rfl,La rfl,show(46::(c::r++U)).drop 1=c::r++U from rfl,hrun]
 have he:expP U=none:=by unfold expP;rw[Pm]at hx;rw[hx,Ga (by decide)]
 have hP:numP (46::(c::r++U))=⟨[],[],some (c::r),none⟩:=by show(⟨sgOf (46::(c::r++U)),_,dotP (46::(c::r++U)),expP (zP (46::(c::r++U))).1⟩:NumP)=_;rw[hd,hw,he];rfl
 rw[hP];unfold NumP.val;show(((thoV ([]++(c::r)) (3+0 - ((c::r:Str).length:Int))):Nat):Int)=_;unfold thoV;rw[Mc,Ga (by omega),show(3+0 - ((c::r:Str).length:Int)).toNat=3 - (c::r:Str).length by omega];have hle:valG 0 (c::r)<=1000:=by have:=De (valG 0 (c::r)) (Jg (n:=3 - (c::r:Str).length) (show 0<10 by omega));omega
 rw[capG _ _ _ (by unfold Kh;omega),gV _ _ (by omega),k3]
theorem tX{m:Nat}(h:m=0):Lib.decDigits m=[48]:=by subst h;decide+kernel
theorem JA{t:zb}{U:Str}(f:U=[]/\t.kind=10\/U=[37]\/ ∃u,u≠[]/\Zm u=true/\U=Bg u):past digB U=U/\expS U=none/\(U=[]\/U=[37]\/(nmS U=true/\(zm U).2=[])):=by
 rcases f with⟨rfl,_⟩|rfl|⟨u,a,h,rfl⟩
 ·exact⟨rfl,rfl, .inl rfl⟩
 ·exact⟨rfl,rfl, .inr (.inl rfl)⟩
 ·have c:=iF a h;have e:=(eF c []).1;have d:=vR a h (x:=[]) (.inl rfl);have b:=YI a h [];rw[Bb]at e d b;exact⟨e,d, .inr (.inr ⟨c,by rw[b,qJ]⟩)⟩
theorem UE(n:Int)(p:Bool)(U:Str):past digB (unsign (numT n p++U))=past digB (dotS (if(partT (n.natAbs%1000) p).isEmpty then none else some (partT (n.natAbs%1000) p))++U):=q2_T n p U
theorem NF{n:Int}{p:Bool}(U:Str)(a:(partT (n.natAbs%1000) p).isEmpty=true):past digB (unsign (numT n p++U))=past digB U:=by rw[UE,a];rfl
theorem MF{n:Int}{p:Bool}(U:Str)(a:(partT (n.natAbs%1000) p).isEmpty=false):past digB (unsign (numT n p++U))=46::(partT (n.natAbs%1000) p++U):=by rw[UE,a];rfl
theorem zC1(z:Str):expS (46::z)=none:=rfl
theorem sU(z:Str):nmS (46::z)=false:=rfl
theorem aW{s r:Str}{P:List zb}(h:PcT s P)(x:digB (atS s 0)=true)(f:r=past digB s)(F:nmS r=false)(m:(atS r 0==37)=false)(d:qj r=P):ShS s r:=by
 have u:unsign s=s:=by unfold unsign Xf;rw[Fa.2 (QT x).1,Fa.2 (QT x).2.1];rfl
 obtain⟨n,p,U,t,rfl,rfl,g,z⟩:=wy h (by grind);obtain⟨w,D,A⟩:=JA z;rw[<-u,UE]at f;cases j:(partT (n.natAbs%1000) p).isEmpty with
 |true=>
  rw[j]at f;have a:r=U:=by rw[f];exact w
  subst a;rcases A with rfl|rfl|⟨G,_⟩
  ·rw[QB (ZZ rfl)]at d;cases d
  ·cases m
  grind
 |false=>
  rw[j]at f;have a:r=46::(partT (n.natAbs%1000) p++U):=by rw[f];rfl
  have B:=pW j w D;obtain⟨c,q,i⟩:=Ji (show partT (n.natAbs%1000) p≠[] by grind);have b:=gG (n:=n) (p:=p);have v:digB c=true:=by rw[i,Jd,Ca]at b;exact b.1
  have k:cmtS r=46::(partT (n.natAbs%1000) p++U):=by rw[a];exact ZZ rfl
  rw[QH k]at d;injection d with d _;have l:Zl (46::(partT (n.natAbs%1000) p++U))=zA (46::(partT (n.natAbs%1000) p++U)):=by
   have o:nbS (46::(partT (n.natAbs%1000) p++U))=true:=by rw[i];exact v
   rw[Gt,Ga (by decide),Ga (by decide),show((46:UInt8)==35)=false from rfl,Rc,Ga (by decide),o,La rfl]
  have e: ∀q:Str,(zA q).1.num=(numP q).val:=by
   intro q;unfold zA;split
   ·rfl
   ·split<;>rfl
  rw[l]at d;have y:=e (46::(partT (n.natAbs%1000) p++U));rw[d,B,g]at y;have E:n.natAbs / 1000=0:=by omega
  have C:numT n p++U=48::46::c::(q++U):=by rw[uu,j,tX E,i];unfold sgT;rw[Ga (by omega)];rfl
  right;exact⟨c,q++U,v,C,by rw[a,i];rfl⟩
theorem AP: ∀(y r:Str),y.all letB=true->zm (y++r)=(y++(zm r).1,(zm r).2)
 |[],r,_=>rfl
 |c::y,r,h=>by rw[Jd,Ca]at h;rw[ma,zF,La h.1,AP y r h.2];rfl
theorem zBr{l:Str}(h:l.all digB=true):l.all letB=true:=by
 rw[Ta]at h ⊢;intro b a;unfold letB
 grind
theorem bW{s r:Str}{P:List zb}(h:PcT s P)(he:atS s 0=101\/atS s 0=69)(hd:digB (atS (unsign (s.drop 1)) 0)=true)(hr:r=past digB (unsign (s.drop 1)))(hT:qj r=P):False:=by
 obtain⟨l,t,z,hl,rfl,hk,ht,rfl,hz⟩:=zDv h he;obtain⟨c,q,e⟩:=Ji (Bj h);have hnz:zm z=([],z):=by rcases hz with rfl|rfl;exact qJ;exact jG []
 have hname:zm (qg l++z)=(l,z):=by rw[Vm z hl,hnz,Bb]
 rw[e]at he hd hr hname;rw[show(c::q).drop 1=q from rfl]at hd hr;have hc:letB c=true:=by rcases he with h|h<;>(rw[show c=_ from h];rfl)
 -- the sign is a dash, or none
 have hsg:(sgOf q).all letB=true:=by
  unfold sgOf;cases hs:Xf (atS q 0)with
  |false=>rfl
  |true=>
   rw[La rfl];unfold Xf at hs;rw[Tc,Rb,Rb]at hs;rcases hs with hs|hs
   ·exfalso;cases q with
    |nil=>cases hs
    |cons d q'=>
     rw[show d=43 from hs,zF,La hc,zF,Ga (by decide),Ga (by unfold escS;rw[show atS (43::q') 0=43 from rfl];simp)]at hname
     grind
   ·rw[hs];rfl
 have hsplit:c::q=(c::(sgOf q++(unsign q).takeWhile digB))++r:=by rw[hr,ma,Ra,Ww,Iz]
 have hall:(c::(sgOf q++(unsign q).takeWhile digB)).all letB=true:=by rw[Jd,hc,List.all_append,hsg,zBr (YA digB _)];rfl
 rw[hsplit,AP _ _ hall]at hname;injection hname with hn1 hn2;have hcm:cmtS r=r:=by
  refine ZZ ?_;cases r with
  |nil=>rfl
  |cons d u=>
   refine iE (Fa.2 ?_);rintro rfl;rw[zF,Ga (by decide),Ga (by unfold escS;rw[show atS (47::u) 0=47 from rfl];simp)]at hn2
   grind
 cases r with
 |nil=>rw[QB hcm]at hT;cases hT
 |cons d u=>
  rw[QH hcm]at hT;injection hT with hT _;have hbr:=Im d u;rw[hT]at hbr;have hbr':brS d u=7:=by rcases hk with hk|hk<;>(rw[hk]at hbr;exact hbr.symm)
  have hx:t.text=(zm (d::u)).1:=by
   rw[<-hT,qh,hbr',Ri];have hk':(qz (d::u)).1.kind=1\/(qz (d::u)).1.kind=2:=by
    have:(qz (d::u)).1=t:=by rw[<-hT,qh,hbr',Ri]
    rw[this];exact hk
   unfold qz at hk' ⊢;split
   ·rename_i h40;rw[La h40]at hk';split
    ·rename_i h2;rw[La h2]at hk';rcases GG (urlS (past spB ((zm (d::u)).2.drop 1))).1 with hh|hh<;>rcases hk' with hk'|hk'<;>rw[show(Ti (urlS (past spB ((zm (d::u)).2.drop 1))).1).kind=_ from hk']at hh<;>cases hh
    ·rfl
   ·rfl
  rw[<-hx,ht]at hn1;have:=congrArg List.length hn1
  grind
theorem mZ{z r:Str}(h:zP z=(r,true)):r=z:=by
 unfold zP at h
 grind
theorem FY{z r:Str}(h:(match expS (zP z).1 with|some r=>(r,false)|none=>zP z)=(r,true)):r=z:=by
 cases a:expS (zP z).1 with
 |some y=>grind
 |none=>rw[a]at h;exact mZ h
theorem zBg{z r:Str}{b:Bool}(h:(match expS z with|some r=>(r,false)|none=>(z,false))=(r,b)):r=z\/expS z=some r:=by
 grind
theorem eO{t:zb}{s r:Str}{P:List zb}(N:zf8 t)(h:PcT s P)(b:NV t s r)(v:qj r=P):ShS s r:=by
 have M:P≠[]:=by cases h<;>simp
 have p:r≠[]:=by rintro rfl;rw[QB (ZZ rfl)]at v;exact M v.symm
 have j:digB (atS s 0)=false->past digB s=s:=by
  intro i;cases s with
  |nil=>rfl
  |cons c q=>rw[past,show digB c=false from i];rfl
 rcases b with b|⟨_,b⟩|⟨R,Q,g,G⟩|⟨_,K,y,i,g,b⟩
 ·exact .inl b
 ·cases u:spB (atS s 0)with
  |true=> rw[zEc h u]at b;exact absurd b p
  |false=>
   left;rw[b];cases s with
   |nil=>rfl
   |cons c q=>rw[past,show spB c=false from u];rfl
 ·cases N with
  |cNum n f w E S=>
   have e:zB (numT n (!f)++s)=(r,f):=Q;have a:r=past digB s\/expS (past digB s)=some r:=by
    cases d:(partT (n.natAbs%1000) (!f)).isEmpty with
    |true=> left;rw[wF d]at e;rw[oH S]at d;subst d;exact FY e
    |false=> rw[wE d]at e;exact zBg e
   cases i:digB (atS s 0)with
   |true=>
    rcases a with b|l
    ·exact aW h i b g G v
    ·exfalso;have o:unsign s=s:=by unfold unsign Xf;rw[Fa.2 (QT i).1,Fa.2 (QT i).2.1];rfl
     obtain⟨A,B,U,J,rfl,rfl,_,x⟩:=wy h (by grind);obtain⟨z,O,_⟩:=JA x;rw[<-o]at l;cases d:(partT (A.natAbs%1000) B).isEmpty with
     |true=>rw[NF U d,z,O]at l;cases l
     |false=>rw[MF U d,zC1]at l;cases l
   |false=>
    rw[j i]at a;rcases a with b|l
    ·exact .inl b
    ·obtain⟨w,E,L⟩:=gM l;exact(bW h w E L v).elim
  |cId|cFn|cAt|cHash|cStr|cUrl|cDel|cPct|cDim=>simp at R
  |cMark k w E=>grind
 ·exfalso;have D:digB (atS (unsign s) 0)=true/\past digB (unsign (K++s))=past digB (unsign s):=by
   rcases y with rfl|rfl
   ·grind
   ·have m:digB (atS s 0)=true:=i;have o:unsign s=s:=by unfold unsign Xf;rw[Fa.2 (QT m).1,Fa.2 (QT m).2.1];rfl
    rw[o];exact⟨m,rfl⟩
  obtain⟨C,F⟩:=D;rw[F]at g b;obtain⟨A,B,U,J,rfl,rfl,_,x⟩:=wy h C;obtain⟨z,_,H⟩:=JA x;cases d:(partT (A.natAbs%1000) B).isEmpty with
  |true=>
   rw[NF U d,z]at g b;rcases H with rfl|rfl|⟨_,T⟩
   ·cases g
   ·cases g
   grind
  |false=>rw[MF U d,sU]at g;cases g
abbrev cmtW:Str:=[47,42,42,47]
theorem TE{s:Str}{P:List zb}(h:PcT s P)(x:Str)(hx:atS x 0≠42):([47,42]:Str).isPrefixOf (s++x)=false:=by
 obtain⟨c,r,rfl⟩:=Ji (Bj h);by_cases hc:c=47
 ·have:=UA h (.inl rfl) hc;rw[this];cases x with
  |nil=>rfl
  |cons d t=>
   show((47==(47:UInt8))&&((42==d)&&_))=false;have:((42:UInt8)==d)=false:=Fa.2 (fun e=>hx e.symm)
   grind
 grind
theorem gz{s:Str}{P:List zb}(h:PcT s P):cmtS s=s:=by
 refine ZZ ?_;have:=TE h [] (by decide)
 grind
theorem vE(x:Str):Zl (92::10::x)=(⟨9,[92],0,[],false⟩,10::x):=rfl
theorem O4{l:Str}(g:l≠[])(h:Zm l=true)(f:lowS l=[117,114,108])(b:Bool)(w:Str):
  Zl (qg l++40::((if b then [32]else [])++34::w))=(⟨2,l,0,[],false⟩,(if b then [32]else [])++34::w):=by
 have d:=Ez g ((if b then [32]else [])++34::w);have a:=tL h ((if b then [32]else [])++34::w);obtain⟨c,r,e⟩:=Ji (Mk d);rw[e]at d a ⊢;rw[qh,dA d (by grind),Ri];unfold qz;rw[a];simp only;have i:atS (past spB ((40::((if b then [32]else [])++34::w)).drop 1)) 0=34:=by cases b<;>rfl
 rw[La (by rfl),f,i,Ga (by decide)];rfl
theorem sV{l:Str}(h:lowS l=[117,114,108]):l≠[]:=by rintro rfl;cases h
theorem zAl(l m x:Str)(b:Bool):(qg l++40::((if b then [32]else [])++34::(encB quoB m++[34])))++x=qg l++40::((if b then [32]else [])++34::((encB quoB m++[34])++x)):=by
 grind
theorem fK{l m:Str}{b:Bool}(h:Zm l=true)(hl:lowS l=[117,114,108])(hm:Zm m=true)(x:Str):
  run ((qg l++40::((if b then [32]else [])++34::(encB quoB m++[34])))++x) (⟨2,l,0,[],false⟩::((if b then [tkSp]else [])++[⟨5,m,0,[],false⟩])) x:=by
 rw[zAl];have hf:=O4 (sV hl) h hl b ((encB quoB m++[34])++x);have hn:=Ez (sV hl) ((if b then [32]else [])++34::((encB quoB m++[34])++x));have hs: ∀q:Str,q=34::((encB quoB m++[34])++x)->run q [⟨5,m,0,[],false⟩] x:=by rintro q rfl;have:=OG hm x;rw[ma]at this;exact⟨34,_,ZZ rfl,by rw[this],by rw[this];rfl⟩
 obtain⟨c,r,e⟩:=Ji (Mk hn);rw[e]at hf hn ⊢;have hc:c≠47:=by rintro rfl;exact absurd (show hdB 47=true from Tp hn) (by decide)
 refine⟨c,r,ZZ (iE (Fa.2 hc)),by rw[hf],?_⟩;rw[hf];cases b with
 |false=>exact hs _ rfl
 |true=> exact⟨32,34::((encB quoB m++[34])++x),ZZ rfl,rfl,hs _ rfl⟩
theorem mV{s:Str}{P:List zb}(h:PcT s P){x:Str}(a:neu x):run (s++x) P x:=by
 cases h with
 |one t h d f=>
  have g:=zBf h d f a;have i:=TE (.one t h d f) x (by rcases a with rfl|⟨y,rfl⟩;exact(show(0:UInt8)≠42 by decide);exact(show(47:UInt8)≠42 by decide));obtain⟨c,r,e⟩:=Ji (Bj (.one t h d f));rw[e]at g i ⊢;exact⟨c,r++x,ZZ i,by grind,by rw[show c::(r++x)=(c::r)++x from rfl,g];rfl⟩
 |back=> refine⟨92,10::x,ZZ rfl,by rw[vE],?_⟩;rw[vE];refine⟨10,x,ZZ rfl,rfl,?_⟩;show past spB x=x;exact FN rfl a
 |url l m b h j k=>exact fK h j k x
theorem zCa{u s r:Str}{p P:List zb}(hu:PcT u p)(hs:PcT s P)(hr:run (u++s) p r)(hT:qj r=P):ShS s r:=by
 cases hu with
 |one t h hb hu=>
  obtain⟨c,q,h1,h2,h3⟩:=hr;have hpu:PcT (txS t) [t]:= .one t h hb hu;rw[run]at h3;cases hp:([47,42]:Str).isPrefixOf (txS t++s)with
  |true=>
   exfalso;obtain⟨c0,r0,e⟩:=Ji (Bj hpu);by_cases hc:c0=47
   ·have e2:=UA hpu (.inl rfl) (by rw[e];exact hc);rw[e2]at hp h1;have h42:atS s 0=42:=by
     cases s with
     |nil=>cases hp
     |cons d t'=>
      have:((42:UInt8)==d)=true:=by have h':((47==(47:UInt8))&&((42==d)&&true))=true:=hp;simpa using h'
      exact(Rb.1 this).symm
    rw[UA hs (.inr rfl) h42]at h1;have:cmtS ([47]++[42])=[]:=by rw[bi];rfl
    grind
   grind
  |false=> rw[ZZ hp]at h1;rw[<-h1]at h2 h3;have:=GY h hu h2;rw[h3]at this;exact eO h hs this hT
 |back=> obtain⟨c,q,h1,h2,h3⟩:=hr;rw[show cmtS ([92,10]++s)=92::10::s from ZZ rfl]at h1;injection h1 with e1 e2;subst e1 e2;rw[vE]at h3;obtain⟨c',q',g1,g2,g3⟩:=h3;rw[show cmtS (10::s)=10::s from ZZ rfl]at g1;injection g1 with e1 e2;subst e1 e2;rw[run]at g3;have g3':past spB s=r:=g3;exact eO (t:=tkSp) (.cMark 13 (by omega) (by omega)) hs (.inr (.inl ⟨rfl,g3'.symm⟩)) hT
 |url l m b h hl hm=>exact .inl (xK hr (fK h hl hm s))
def Lk(R A:Str):Prop:=cmtS R=A\/ ∃d y,digB d=true/\A=48::46::d::y/\cmtS R=46::d::y
theorem NK{R A:Str}(h:Lk R A)(a:A≠[]):cmtS R≠[]:=by
 rcases h with h|⟨d,y,_,_,h⟩
 ·rw[h];exact a
 ·rw[h];simp
theorem uV{R A x:Str}(h:Lk R A)(b:A≠[])(c:([47,42]:Str).isPrefixOf (A++x)=false):Lk (R++x) (A++x):=by
 rcases h with h|⟨d,y,a,rfl,h⟩
 ·left;rw[Cw (by rw[h];exact b) (by rw[h];exact c),h]
 ·right;exact⟨d,y++x,a,rfl,by rw[Cw (by rw[h];simp) (by rw[h];rfl),h];rfl⟩
theorem tV{R A:Str}(h:Lk R A)(g:([47,42]:Str).isPrefixOf A=false){t:zb}{ts:List zb}{r:Str}:run R (t::ts) r↔run A (t::ts) r:=by
 rcases h with h|⟨d,y,f,rfl,h⟩
 ·rw[<-yK (q:=R) (by simp),h]
 ·rw[<-yK (q:=R) (by simp),h];constructor
  ·rintro⟨c,q,a,e,b⟩;rw[ZZ rfl]at a;rw[<-a]at e b;exact⟨48,46::d::y,ZZ rfl,by rw[ED d y f];exact e,by rw[ED d y f];exact b⟩
  ·rintro⟨c,q,a,e,b⟩;rw[ZZ rfl]at a;rw[<-a,ED d y f]at e b;exact⟨46,d::y,ZZ rfl,e,b⟩
theorem iL{R A:Str}(h:Lk R A):qj R=qj A:=by
 rcases h with h|⟨d,y,a,rfl,h⟩
 ·rw[<-EB R,h]
 ·rw[<-EB R,h,QH (ZZ rfl),QH (l:=48::46::d::y) (ZZ rfl),ED d y a]
inductive Syn:Str->List zb->List (List zb×Str)->Prop
 |nil:Syn [] [] []
 |cmt (b s:Str) (ts P:List zb) (st:List (List zb×Str)) (h:Syn b ts st) (hb:b≠[]) (hp:PcT s P):Syn (b++cmtW++s) (ts++P) (st++[(ts,b++cmtW)])
 |no (b s:Str) (ts P:List zb) (st:List (List zb×Str)) (h:Syn b ts st) (hp:PcT s P) (ht:qj (b++s)=ts++P):Syn (b++s) (ts++P) (st++[(ts,b)])
def Bd(b:Str)(ts L:List zb)(B:Str)(m:Nat):Prop:= ∃A R a,b=B++A/\A≠[]/\ts=L++a/\a≠[]/\run b L R/\Lk R A/\m<=R.length/\m<=A.length
structure zCM (b:Str) (ts:List zb) (st:List (List zb×Str)):Prop where
 tok:qj b=ts
 bd: ∀k (h:k<st.length),Bd b ts st[k].1 st[k].2 (st.length - k)
 last:(st=[]/\b=[]/\ts=[])\/ ∃L B u p R,PcT u p/\b=B++u/\ts=L++p/\run b L R/\Lk R u
theorem pc_P{s:Str}{P:List zb}(h:PcT s P): ∃t us,P=t::us:=by cases h<;>exact⟨_,_,rfl⟩
theorem JW {b x:Str} {ts P L:List zb} {B:Str} {m:Nat} (h:Bd b ts L B m) (hx:x≠[])
  (hrun: ∀R,R≠[]->run b L R->(∃A,A≠[]/\Lk R A/\b=B++A)->run (b++x) L (R++x)/\(∀A,A≠[]->Lk R A->b=B++A->Lk (R++x) (A++x))):Bd (b++x) (ts++P) L B (m+1):=by
 obtain⟨A,R,us,h1,h2,h3,h4,h5,h6,h7,h8⟩:=h;have hR:R≠[]:=by intro e;have:=NK h6 h2;rw[e]at this;exact this (ZZ rfl)
 obtain⟨g1,g2⟩:=hrun R hR h5 ⟨A,h2,h6,h1⟩;refine⟨A++x,R++x,us++P,by grind,by simp[h2],by grind,by simp[h4],g1,g2 A h2 h6 h1,?_⟩;have:=Ie.2 hx
 grind
theorem DW{q:Str}(h:cmtS q=[47]):cmtS (q++[42])=[]:=by
 rw[bi q]at h;cases a:([47,42]:Str).isPrefixOf q with
 |true=>
  have b:=Am a;rw[show([47,42]:Str).length=2 from rfl]at b;rw[a,La rfl]at h;cases c:clsS (q.drop 2)with
  |none=>grind
  |some p=>
   rw[c]at h;have d:p.length<q.length:=by have d:=(ak _ c).2;rw[Xc]at d;omega
   rw[bi,Dr [42] (by exact b),a,La rfl,Xr b,rF [42] c];exact DW h
 |false=> rw[a,Ga (by decide)]at h;subst h;rw[bi];rfl
termination_by q.length
theorem zCi{q s:Str}{P us:List zb}(hs:PcT s P)(h:OV q s us)(hus:us≠[]):False:=by
 obtain⟨c,r,_,⟨⟨e,fl,hee,hw⟩,h43,hk,hds⟩,hsame,hT⟩:=h;have hbr:=Im c (r++s);rw[hsame,hk]at hbr;have hbr':brS c (r++s)=3:=hbr.symm;have hnx:Zl (c::(r++s))=zA ((c::r)++s):=by rw[qh,hbr',si];rfl
 have hq2:Mf (c::r)≠[]:=by intro e2;rw[e2]at hw;cases congrArg Prod.fst hw
 have e2:Mf ((c::r)++s)=Mf (c::r)++s:=by unfold Mf;rw[(Um s (by simp)).1];exact nk s hq2
 have hw2:=(OO (q:=Mf (c::r)) (x:=s) (by rw[hw];simp) (fun e3=>by
  rw[e3]at hw;have:=congrArg Prod.fst hw;cases this)).1
 have hexp:expS ([e,43]++s)=some (past digB s):=by
  unfold expS;have h1:(atS ([e,43]++s) 0==101||atS ([e,43]++s) 0==69)=true:=by rcases hee with rfl|rfl<;>rfl
  have h2:unsign (([e,43]++s).drop 1)=s:=rfl;rw[h1,La rfl,h2,hds,La rfl]
 have hend:zB ((c::r)++s)=(past digB s,false):=by rw[QE,e2,hw2,hw];simp only[hexp]
 have hk2:(zA ((c::r)++s)).1.kind=12:=by rw[<-hnx,hsame,hk]
 rw[hnx]at hT;unfold zA at hk2 hT;rw[hend]at hk2 hT;simp only at hk2 hT;have hun:unsign s=s:=by unfold unsign Xf;rw[Fa.2 (QT hds).1,Fa.2 (QT hds).2.1];rfl
 cases hn:nmS (past digB s)with
 |false=>
  grind
 |true=>
  rw[hn,La rfl]at hT;obtain⟨n2,p2,U,t2,_,rfl,_,hU⟩:=wy hs (by grind);obtain⟨u1,_,u3⟩:=JA hU;rw[<-hun]at hn hT;cases hp:(partT (n2.natAbs%1000) p2).isEmpty with
  |true=>
   rw[NF U hp,u1]at hn hT;rcases u3 with rfl|rfl|⟨_,hu⟩
   ·cases hn
   ·cases hn
   ·rw[hu,QB (ZZ rfl)]at hT;exact hus hT.symm
  |false=>rw[MF U hp,sU]at hn;cases hn
theorem vU{R A:Str}(h:Lk R A)(b:A≠[])(y:Str):Lk (R++47::42::y) (A++47::42::y):=by
 rcases h with h|⟨d,z,a,rfl,h⟩
 ·left;rw[KF y (by rw[h];exact b),h]
 ·right;exact⟨d,z++47::42::y,a,rfl,by rw[KF y (by rw[h];simp),h];rfl⟩
theorem CY{s:Str}{P:List zb}(h:PcT s P):cmtS (47::42::42::47::s)=s:=by rw[bi];exact gz h
theorem mF{s:Str}{P:List zb}(h:PcT s P):qj s=P:=by have:=Es (mV h (x:=[]) (.inl rfl));rw[Bb,QB (ZZ rfl),Bb]at this;exact this
theorem O3{α:Type}{l a:List α}(h:l++a=l):a=[]:=by simp_all
theorem mE{b:Str}{ts:List zb}{st:List (List zb×Str)}(h:Syn b ts st):zCM b ts st:=by
 induction h with
 |nil=>exact⟨QB (ZZ rfl),fun k h=>(by cases h), .inl ⟨rfl,rfl,rfl⟩⟩
 |cmt b s ts P st h hb hp ih=>
  obtain⟨ht,hbd,hl⟩:=ih;have hx:b++cmtW++s=b++47::42::(42::47::s):=by rw[Ra];rfl
  obtain⟨t0,us0,hP0⟩:=pc_P hp;have hrun:run (b++47::42::(42::47::s)) ts (47::42::(42::47::s)):=by
   rcases hl with⟨_,e,_⟩|⟨L,B,u,p,R,g1,g2,g3,g4,g5⟩
   ·exact absurd e hb
   ·have hR:R≠[]:=by intro e;have:=NK g5 (Bj g1);rw[e]at this;exact this (ZZ rfl)
    obtain⟨t1,us1,hp1⟩:=pc_P g1;rw[g3];refine mG (nE (42::47::s) g4 hR) ?_;have h1:=mV g1 (x:=47::42::(42::47::s)) (.inr ⟨_,rfl⟩);rw[hp1]at h1 ⊢;exact(tV (vU g5 (Bj g1) (42::47::s)) (TE g1 _ (by show(47:UInt8)≠42;decide))).2 h1
  have hlk:Lk (47::42::(42::47::s)) s:= .inl (CY hp);rw[hx];refine⟨?_,?_, .inr ⟨ts,b++cmtW,s,P,_,hp,by grind,rfl,hrun,hlk⟩⟩
  ·rw[Es hrun,iL hlk,mF hp]
  ·intro k hk;rw[Ia,je]at hk;by_cases hk2:k<st.length
   ·rw[List.getElem_append_left hk2];have:=JW (P:=P) (x:=47::42::(42::47::s)) (hbd k hk2) (by simp) (fun R hR h5 _=>⟨nE _ h5 hR,fun A hA h6 _=>vU h6 hA _⟩)
    grind
   ·have hke:k=st.length:=by omega
    subst hke;rw[List.getElem_append_right (by omega)];simp only[Nat.sub_self,List.getElem_cons_zero];refine⟨s,_,P,by grind,Bj hp,rfl,by rw[hP0];simp,hrun,hlk,?_⟩;have:=Ie.2 (Bj hp)
    grind
 |no b s ts P st h hp ht0 ih=>
  obtain⟨ht,hbd,hl⟩:=ih;obtain⟨t0,us0,hP0⟩:=pc_P hp;have hPne:P≠[]:=by rw[hP0];simp
  have hsne:=Bj hp
  -- what is ahead stays
  have keep: ∀(L us:List zb) (R:Str),ts=L++us->R≠[]->run b L R->run (b++s) L (R++s):=by
   intro L us R hts hR hrun;rcases sM (us:=us++P) hrun hR hsne (by grind)with h1|⟨_,q,_,h1⟩
   ·exact h1
   ·exact(zCi hp h1 (by simp[hPne])).elim
  have keepLk: ∀(L us:List zb) (R A:Str),ts=L++us->run (b++s) L (R++s)->A≠[]->Lk R A->Lk (R++s) (A++s):=by
   intro L us R A hts hrun hA hlk;cases hpre:([47,42]:Str).isPrefixOf (A++s)with
   |false=>exact uV hlk hA hpre
   |true=>
    exfalso;rcases hlk with h1|⟨d,y,_,rfl,_⟩
    ·cases A with
     |nil=>exact hA rfl
     |cons c r=>
      cases r with
      |cons d t=>
       have:=Bw R
       grind
      |nil=>
       have hc:c=47:=by
        cases hcc:(47:UInt8)==c with
        |true=>grind
        |false=>
         grind
       subst hc;have h42:s=[42]:=by
        refine UA hp (.inr rfl) ?_;cases s with
        |nil=>grind
        |cons d t=>
         have h':(((47:UInt8)==47)&&(((42:UInt8)==d)&&true))=true:=hpre;have:((42:UInt8)==d)=true:=by simpa using h'
         exact(Rb.1 this).symm
       have h3:=Es hrun;rw[ht0,hts,h42,QB (DW h1),Bb,Ra]at h3;have:=O3 h3;simp_all
    ·cases hpre
  rcases hl with⟨e1,e2,e3⟩|⟨L,B,u,p,R,g1,g2,g3,g4,g5⟩
  ·subst e1 e2 e3;refine⟨ht0,?_, .inr ⟨[],[],s,P,s,hp,rfl,rfl,rfl, .inl (gz hp)⟩⟩;intro k hk;have hke:k=0:=by rw[Ia,je,lc]at hk;omega
   subst hke;exact⟨s,s,P,rfl,hsne,rfl,hPne,rfl, .inl (gz hp),Ie.2 hsne,Ie.2 hsne⟩
  ·have hR:R≠[]:=by intro e;have:=NK g5 (Bj g1);rw[e]at this;exact this (ZZ rfl)
   have h1:=keep L p R g3 hR g4;have h2:=keepLk L p R u g3 h1 (Bj g1) g5;have h3:=Es h1;rw[ht0,g3,Ra]at h3;have h4:=List.append_cancel_left h3;obtain⟨r,h5,h6⟩:=XN h4.symm;have hsh:ShS s r:=by
    obtain⟨t1,us1,hp1⟩:=pc_P g1;refine zCa g1 hp ?_ h6;have hpre:([47,42]:Str).isPrefixOf (u++s)=false\/cmtS (R++s)=[]:=by
     rcases h2 with h2|⟨d,y,hd,h2,_⟩
     ·left;rw[<-h2];exact Bw _
     ·grind
    rcases hpre with hpre|hpre
    ·rw[hp1]at h5 ⊢;exact(tV h2 hpre).1 h5
    ·rw[hp1]at h5;obtain⟨c,q,e,_⟩:=h5
     grind
   have hrun:run (b++s) ts r:=by rw[g3];exact mG h1 h5
   have hlk:Lk r s:=by
    rcases hsh with rfl|⟨d,y,hd,e1,e2⟩
    ·exact .inl (gz hp)
    ·right;exact⟨d,y,hd,e1,by rw[e2];exact ZZ rfl⟩
   have hrl:1<=r.length:=by
    rcases hsh with rfl|⟨d,y,_,_,e2⟩
    ·grind
    ·rw[e2];simp
   refine⟨ht0,?_, .inr ⟨ts,b,s,P,r,hp,rfl,rfl,hrun,hlk⟩⟩;intro k hk;rw[Ia,je]at hk;by_cases hk2:k<st.length
   ·rw[List.getElem_append_left hk2];obtain⟨A0,R0,us,f1,f2,f3,f4,f5,f6,f7,f8⟩:=hbd k hk2;have:=JW (P:=P) (x:=s) ⟨A0,R0,us,f1,f2,f3,f4,f5,f6,f7,f8⟩ hsne (fun R hR h5 _=>⟨keep _ us R f3 hR h5,fun A hA h6 _=>keepLk _ us R A f3 (keep _ us R f3 hR h5) hA h6⟩)
    grind
   ·have hke:k=st.length:=by omega
    subst hke;rw[List.getElem_append_right (by omega)];simp only[Nat.sub_self,List.getElem_cons_zero];refine⟨s,r,P,rfl,hsne,rfl,hPne,hrun,hlk,?_⟩;have:=Ie.2 hsne
    grind
def pcN:List zb->Nat
 |[]=>0
 |t::r=>if t.kind==9&&t.text==[92]then 2 else if Vg t then(if Xi r then 3 else 2)else 1
def catT:List zb->Str
 |[]=>[]
 |t::r=>txS t++catT r
def pcS:List zb->Str
 |[]=>[]
 |t::r=>if t.kind==9&&t.text==[92]then [92,10]else catT (t::r)
theorem TL{t:zb}(h:Gg t=true)(a:(t.kind==13)=true):t=tkSp:=by
 rw[Rb]at a;cases Jq h with
 |cId|cFn|cAt|cHash|cStr|cUrl|cDel|cNum|cPct|cDim=>simp at a
 |cMark k c b=>grind
theorem wV{t:zb}(h:Gg t=true)(a:(t.kind==5)=true): ∃m,Zm m=true/\t=⟨5,m,0,[],false⟩:=by
 rw[Rb]at a;cases Jq h with
 |cStr l b=>grind
 |cId|cFn|cAt|cHash|cUrl|cDel|cNum|cPct|cDim=>simp at a
 |cMark k d c=>grind
theorem zC4{t:zb}(h:Gg t=true)(a:(t.kind==9&&t.text==[92])=true):t=⟨9,[92],0,[],false⟩:=by
 rw[Ca,Rb,Rb]at a;cases Jq h with
 |cDel c h=>grind
 |cId|cFn|cAt|cHash|cStr|cUrl|cNum|cPct|cDim=>simp at a
 |cMark k d b=>grind
theorem RY{t:zb}(h:Gg t=true)(a:Vg t=true): ∃l,Zm l=true/\lowS l=[117,114,108]/\t=⟨2,l,0,[],false⟩:=by
 unfold Vg at a;rw[Ca,Rb,Rb]at a;cases Jq h with
 |cFn l d c=>grind
 |cId|cAt|cHash|cStr|cUrl|cDel|cNum|cPct|cDim=>simp at a
 |cMark k b e=>grind
theorem zD8{t:zb}(h:(t.kind==9&&t.text==[92])=false): ¬(t.kind=9/\t.text=[92]):=by
 grind
theorem Xw(t:zb)(r:List zb):pcN (t::r)=if t.kind==9&&t.text==[92]then 2 else if Vg t then(if Xi r then 3 else 2)else 1:=rfl
theorem vO(t:zb)(r:List zb):okAt (t::r)=((!(t.kind==9&&t.text==[92])||Xi r)&&(!(Vg t)||Ik r)):=rfl
theorem BD(s:zb)(r:List zb):Ik (s::r)=(bif s.kind==13 then(match r with|u::_=>u.kind==5|[]=>false)else s.kind==5):=rfl
theorem zEb{t:zb}{r:List zb}(e: ∀u∈t::r,Gg u=true)(d:okAt (t::r)=true): ∃P Q,t::r=P++Q/\P.length=pcN (t::r)/\PcT (pcS P) P:=by
 have c:=e t (Nb ..);rw[vO,Ca]at d;rw[Xw];cases h:t.kind==9&&t.text==[92]with
 |true=>
  rw[h,Ec,Ld]at d;rw[La rfl];cases r with
  |nil=>cases d.1
  |cons s r=> have g:=TL (e s (by simp)) d.1;have p:=zC4 c h;subst g p;exact⟨[⟨9,[92],0,[],false⟩,tkSp],r,rfl,rfl, .back⟩
 |false=>
  rw[Ga (by decide)];cases j:Vg t with
  |false=>
   rw[Ga (by decide)];have f:pcS [t]=txS t:=by show(if(t.kind==9&&t.text==[92])=true then [92,10]else txS t++[])=_;rw[h,Ga (by decide),Bb]
   exact⟨[t],r,rfl,rfl,by rw[f];exact .one t (Jq c) (zD8 h) j⟩
  |true=>
   rw[La rfl];rw[j,Ec,Ld]at d;obtain⟨l,n,o,rfl⟩:=RY c j;have a:=d.2;have b: ∀m:Str,txS ⟨5,m,0,[],false⟩++[]=34::(encB quoB m++[34]):=fun m=>by rw[Pn,Bb]
   cases r with
   |nil=>cases a
   |cons s r=>
    cases g:s.kind==13 with
    |false=>
     rw[BD,g,Ha]at a;obtain⟨m,i,rfl⟩:=wV (e s (by simp)) a;rw[show Xi (⟨5,m,0,[],false⟩::r)=false from rfl,Ga (by decide)];refine⟨[⟨2,l,0,[],false⟩,⟨5,m,0,[],false⟩],r,rfl,rfl,?_⟩;have f:pcS [⟨2,l,0,[],false⟩,⟨5,m,0,[],false⟩]=qg l++40::((if false then [32]else [])++34::(encB quoB m++[34])):=by show txS ⟨2,l,0,[],false⟩++(txS ⟨5,m,0,[],false⟩++[])=_;rw[b,Il,Ra];rfl
     rw[f];exact .url l m false n o i
    |true=>
     have k:=TL (e s (by simp)) g;subst k;cases r with
     |nil=>cases a
     |cons u r=>
      obtain⟨m,i,rfl⟩:=wV (e u (by simp)) a;rw[show Xi (tkSp::⟨5,m,0,[],false⟩::r)=true from rfl,La rfl];refine⟨[⟨2,l,0,[],false⟩,tkSp,⟨5,m,0,[],false⟩],r,rfl,rfl,?_⟩;have f:pcS [⟨2,l,0,[],false⟩,tkSp,⟨5,m,0,[],false⟩]=qg l++40::((if true then [32]else [])++34::(encB quoB m++[34])):=by show txS ⟨2,l,0,[],false⟩++(txS tkSp++(txS ⟨5,m,0,[],false⟩++[]))=_;rw[b,Il,show txS tkSp=[32]from rfl,Ra];rfl
      rw[f];exact .url l m true n o i
theorem dY{t:zb}{r:List zb}(h:t.text.length<=big)(a:okAt (t::r)=true):QK (t::r)=some ((pcN (t::r):Nat):Int):=by
 have m:geti (t::r) 0=some t:=rfl;have k:=Er (t::r) 1 13;have e:=Er (t::r) 1 5;have b:=Er (t::r) 2 5;unfold QK;simp only[m,ze,Aa,FI h (show([117,114,108]:Str).length<=big by decide),Pv,Hl];simp only[Int.natCast_one]at k e;replace b:ZG ((2,5),t::r)=_:=b;have g:ZG ((1,13),t::r)=some (Xi r):=by rw[k];cases r<;>rfl
 rw[g];rw[vO]at a;unfold Vg at a;rw[Xw];unfold Vg;cases j:(t.kind==9&&t.text==[92])with
 |true=>
  grind
 |false=>
  have n:(bif t.kind==9 then t.text==[92]else false)=false:=by
   cases o:t.kind==9
   ·rfl
   ·grind
  simp only[n,j,Ha,Cc,Oe,Sb];rw[j,Cc,Oe,Sb]at a;cases f:(t.kind==2&&lowS t.text==[117,114,108])with
  |false=>
   grind
  |true=>
   rw[f,Ec,Ld]at a;rw[Ca]at f;rw[f.1,f.2];simp only[Ea,Aa];cases r with
   |nil=>cases a
   |cons s r=>
    cases d:s.kind==13 with
    |false=>
     have i:Xi (s::r)=false:=d;have l:ZG ((1,5),t::s::r)=some (s.kind==5):=e;have c:(s.kind==5)=true:=by rw[BD,d]at a;exact a
     simp only[i,Ha,zh,l,Aa,c,Ec];rfl
    |true=>
     have i:Xi (s::r)=true:=d;simp only[i,Ea,zh,b,Aa];cases r with
     |nil=>rw[BD,d]at a;cases a
     |cons u r=>
      have c:(u.kind==5)=true:=by rw[BD,d]at a;exact a
      show(bif !(u.kind==5)then some 0 else some (w64 (2+1)))=some 3;rw[c];rfl
def clB(l:Str):Bool:=l.all fun c=> !(c==0||c==12||c==13)
theorem Qq(a b:Str):clB (a++b)=(clB a&&clB b):=by unfold clB;grind
theorem vG: ∀l:Str,clB l=true->Proofs.Cl.cleanS l=l
 |[],_=>by rw[Proofs.Cl.cleanS]
 |c::r,h=>by
  unfold clB at h;rw[Jd,Ca]at h;have e:=vG r h.2;have d:(c==0||c==12||c==13)=false:=by simpa using h.1
  rw[jd,jd]at d;obtain⟨⟨f,a⟩,b⟩:=d;rw[Proofs.Cl.cleanS,f,a,b,e]
  ·rfl
  grind
theorem Lm(c:UInt8):clB (escC c)=true/\(letB c=true->clB [c]=true)/\(c≠0->quoB c=false->clB [c]=true)/\(c≠0->urB c=false->clB [c]=true)/\(Vh c.toNat=true->clB [c]=true)/\(digB c=true->clB [c]=true):=by
 have: ∀n:Nat,n<256->clB (escC (UInt8.ofNat n))=true/\(letB (UInt8.ofNat n)=true->clB [UInt8.ofNat n]=true)/\(UInt8.ofNat n≠0->quoB (UInt8.ofNat n)=false->clB [UInt8.ofNat n]=true)/\(UInt8.ofNat n≠0->urB (UInt8.ofNat n)=false->clB [UInt8.ofNat n]=true)/\(Vh (UInt8.ofNat n).toNat=true->clB [UInt8.ofNat n]=true)/\(digB (UInt8.ofNat n)=true->clB [UInt8.ofNat n]=true):=by decide+kernel
 have:=this c.toNat (Fb c);simp_all
theorem Km(dash:Bool): ∀(k:Nat) (l:Str),clB (encW dash k l)=true
 |_,[]=>by rw[encW];rfl
 |k,c::r=>by
  obtain⟨b,a,_⟩:=Lm c;rw[encW,Qq,Km dash (k - 1) r,Jc];unfold pcW
  grind
theorem rA{p:UInt8->Bool}(a: ∀c,c≠0->p c=false->clB [c]=true): ∀l:Str,Zm l=true->clB (encB p l)=true
 |[],_=>by rw[encB];rfl
 |c::r,h=>by
  obtain⟨e,d⟩:=QL h;rw[encB,Qq,rA a r d,Jc];cases b:p c with
  |true=>exact(Lm c).1
  |false=>exact a c e b
theorem FW{l:Str}(h:l.all digB=true):clB l=true:=by
 induction l with
 |nil=>rfl
 |cons c r a=> rw[Jd,Ca]at h;rw[show c::r=[c]++r from rfl,Qq,(Lm c).2.2.2.2.2 h.1,a h.2];rfl
theorem cl_T(n:Int)(p:Bool):clB (numT n p)=true:=by
 obtain⟨a,_,_⟩:=oq (n.natAbs / 1000);have c:=gG (n:=n) (p:=p);rw[uu,Qq,Qq,FW a];have b:clB (sgT n)=true:=by unfold sgT;split<;>rfl
 rw[b];cases (partT (n.natAbs%1000) p).isEmpty with
 |true=>rfl
 |false=> show clB (46::partT (n.natAbs%1000) p)=true;rw[show 46::partT (n.natAbs%1000) p=[46]++partT (n.natAbs%1000) p from rfl,Qq,FW c];rfl
theorem zBj(w:Str):clB (Bg w)=true:=by
 cases w with
 |nil=>rfl
 |cons c r=>
  rw[Bt];cases Oj (c::r)with
  |true=>rw[Ea,Qq,(Lm c).1,Km];rfl
  |false=>exact Km _ _ _
theorem GK{s:Str}{P:List zb}(h:PcT s P):clB s=true:=by
 cases h with
 |one t h hb hu=>
  cases h with
  |cId l h0 h=>rw[Bp];exact Km _ _ _
  |cFn l h0 h=>rw[Il,Qq];rw[show clB (qg l)=true from Km _ _ _];rfl
  |cAt l h0 h=>rw[Dp,show 64::qg l=[64]++qg l from rfl,Qq,show clB (qg l)=true from Km _ _ _];rfl
  |cHash l f h0 h hbb=>
   rw[uq,show 35::Eh f l=[35]++Eh f l from rfl,Qq];have:clB (Eh f l)=true:=by cases f<;>exact Km _ _ _
   rw[this];rfl
  |cStr l h=>rw[Pn,show 34::(encB quoB l++[34])=[34]++(encB quoB l++[34])from rfl,Qq,Qq,rA (fun c h0 hc=>(Lm c).2.2.1 h0 hc) l h];rfl
  |cUrl l h=>rw[Yq,Qq,Qq,rA (fun c h0 hc=>(Lm c).2.2.2.1 h0 hc) l h];rfl
  |cDel c h=>rw[Bq];exact(Lm c).2.2.2.2.1 h
  |cNum n f h1 h2 hf=>rw[gq];exact cl_T _ _
  |cPct n h1 h2=>rw[fq,Qq,cl_T];rfl
  |cDim n u f h1 h2 hf h0 h=>rw[Aq,Qq,cl_T,zBj];rfl
  |cMark k h1 h2=> rw[tq h1 h2];rcases Lr h1 h2 with rfl|rfl|rfl|rfl|rfl|rfl|rfl|rfl|rfl|rfl|rfl|rfl<;>rfl
 |back=>rfl
 |url l m b h hl hm=> rw[Qq,show clB (qg l)=true from Km _ _ _,show∀z:Str,40::z=[40]++z from fun _=>rfl,Qq,Qq,show∀z:Str,34::z=[34]++z from fun _=>rfl,Qq,Qq,rA (fun c h0 hc=>(Lm c).2.2.1 h0 hc) m hm];cases b<;>rfl
theorem EW{b:Str}{ts:List zb}{st:List (List zb×Str)}(h:Syn b ts st):clB b=true:=by
 induction h with
 |nil=>rfl
 |cmt b s ts P st h e c a=>rw[Qq,Qq,a,GK c];rfl
 |no b s ts P st h c d a=>rw[Qq,a,GK c];rfl
def tokB(x y:zb):Bool:=x.kind==y.kind&&(x.text==y.text&&(x.num==y.num&&(x.unit==y.unit&&(x.flag==y.flag&&true))))
def Kg:List zb->List zb->Bool
 |[],[]=>true
 |x::l,y::m=>tokB x y&&Kg l m
 |_,_=>false
theorem O0(x y:zb)(l m:List zb):Kg (x::l) (y::m)=(tokB x y&&Kg l m):=rfl
theorem zAe{x y:zb}:tokB x y=true↔x=y:=by
 obtain⟨a,b,c,d,e⟩:=x;obtain⟨j,f,g,i,h⟩:=y;unfold tokB
 grind
theorem Tm: ∀{l m:List zb},Kg l m=true↔l=m
 |[],[]=>by simp[Kg]
 |x::l,y::m=>by rw[Kg,Ca,zAe,Tm,List.cons.injEq]
 |[],y::m=>by simp[Kg]
 |x::l,[]=>by simp[Kg]
theorem AO{l m:List zb}(h:l.length≠m.length):Kg l m=false:=by
 cases a:Kg l m with
 |false=>rfl
 |true=>rw[Tm.1 a]at h;grind
theorem CZ {l m:List zb} (hl:l.length=m.length) (hn:l.length<=big) {step:Int->Option (LO Int Unit Bool)}
  (h1: ∀(i:Nat) (h:i<l.length),step (i:Int)=bif !(tokB l[i] (m[i]'(hl▸h)))then some (.ret false)else some (.again (w64 ((i:Int)+1))))
  (h2:step (l.length:Int)=some (.out ())):Zy step 0 (fun _=>some true)=some (Kg l m):=by
 have hb:big=4194304:=rfl;refine MC (fun s=> ∃i:Nat,i<=l.length/\s=(i:Int)/\Kg (l.drop i) (m.drop i)=Kg l m) (fun s=>l.length - s.toNat) _ ?_ ⟨0,by omega,rfl,rfl⟩;rintro _ ⟨i,hi,rfl,he⟩;rcases Lc i l.length with h|h
 ·rw[h1 i h];have hm:i<m.length:=hl▸h;rw[show l.drop i=l[i]::l.drop (i+1)from Jb h,show m.drop i=m[i]::m.drop (i+1)from Jb hm,O0]at he;cases ht:tokB l[i] (m[i]'(hl▸h))with
  |true=> rw[ht,Sb]at he;rw[Ec,Ha,zW (by omega) (by omega)];exact .inl ⟨_,rfl,⟨i+1,by omega,by omega,he⟩,by omega⟩
  |false=>
   grind
 ·have:i=l.length:=by omega
  subst this;rw[Ue (Ya _),Ue (by omega)]at he;exact .inr (.inl ⟨(),h2,by rw[<-he];rfl⟩)
theorem vV{α:Type}{l:List α}{i:Nat}(h:i<l.length):geti l (i:Int)=some l[i]:=QV h
theorem int_ne{n m:Nat}:(((n:Int) != (m:Int)):Bool)= !(n==m):=by
 grind
theorem XY{l m:List zb}(d:l.length<=big):Z6 (l,m)=some (Kg l m):=by
 unfold Z6;rw[int_ne];cases b:l.length==m.length with
 |false=>rw[Cc,Ea,AO (Fa.1 b)]
 |true=>
  rw[Ec,Ha];have a:=Rb.1 b;refine CZ a d (fun i h=> ?_) ?_
  ·have c:i<m.length:=a▸h;have e:decide ((i:Int)<(l.length:Int))=true:=Ma (by omega);simp only[e,Ea,vV h,vV c,ze,Aa];rfl
  grind
def wrF:Nat->List zb->Str->List zb->Str
 |0,_,b,_=>b
 |_+1,_,b,[]=>b
 |n+1,a,b,t::r=>
  wrF n (a++(t::r).take (pcN (t::r))) ((if Kg (qj (b++pcS ((t::r).take (pcN (t::r))))) (a++(t::r).take (pcN (t::r)))then b else b++cmtW)++pcS ((t::r).take (pcN (t::r)))) ((t::r).drop (pcN (t::r)))
def wrS(l:List zb):Str:=wrF l.length [] [] l
theorem bK: ∀(n:Nat) (ts:List zb) (b:Str) (r:List zb),b.length<=(wrF n ts b r).length
 |0,_,_,_=>Ya _
 |_+1,_,_,[]=>Ya _
 |n+1,ts,b,t::r=>by
  rw[wrF];refine Lb ?_ (bK n _ _ _)
  grind
def Kn(l:List zb):Prop:=(∀t∈l,Gg t=true/\t.text.length<=5000/\t.unit.length<=5000)/\ ∀k,k<l.length->okAt (l.drop k)=true
theorem BP{l:List zb}(h:Kn l)(n:Nat):Kn (l.drop n):=by refine⟨fun t b=>h.1 t (List.mem_of_mem_drop b),fun k a=> ?_⟩;rw[Xc]at a;rw[We];exact h.2 (n+k) (by omega)
theorem oF{t:zb}{r:List zb}:1<=pcN (t::r):=by rw[Xw];grind
theorem zB9{t:zb}{r:List zb}:pcN (t::r)<=3:=by rw[Xw];grind
theorem BL{t:zb}{r:List zb}(h:Kn (t::r)):pcN (t::r)<=(t::r).length/\PcT (pcS ((t::r).take (pcN (t::r)))) ((t::r).take (pcN (t::r))):=by
 obtain⟨P,Q,d,c,b⟩:=zEb (fun u a=>(h.1 u a).1) (h.2 0 (by simp))
 grind
theorem zDU{t:zb}(e:Gg t=true)(g:t.text.length<=5000)(h2:t.unit.length<=5000):(txS t).length<=20100:=by
 have i: ∀l:Str,l.length<=5000->(qg l).length<=20000:=fun l p=>by have:=Mw (l==[45]) (QU l) l;unfold qg;omega
 cases Jq e with
 |cId l d h=>rw[Bp];grind
 |cFn l d h=>rw[Il,Ia];grind
 |cAt l d h=>rw[Dp,Sa];grind
 |cHash l f d h j=>
  rw[uq,Sa];have s:=i l g;have o:=Mw false 0 l;have m:l.length<=5000:=g;cases f with
  |true=>rw[show Eh true l=qg l from rfl];omega
  |false=>rw[show Eh false l=encW false 0 l from rfl];omega
 |cStr l h=>rw[Pn];have:=Nw quoB l;grind
 |cUrl l h=>rw[Yq];have:=Nw urB l;grind
 |cDel c h=>rw[Bq];simp
 |cNum n f a b e=>rw[gq];have:=(Jz a b (!f)).1;omega
 |cPct n a b=>rw[fq,Ia,je];have:=(Jz a b false).1;omega
 |cDim n u f a b e d h=>
  rw[Aq,Ia];have:=(Jz a b (!f)).1;have m:u.length<=5000:=h2;have q:(Bg u).length<=20004:=by
   cases u with
   |nil=>grind
   |cons c r=>
    rw[Bt];cases Oj (c::r)with
    |true=>
     rw[Ea,Ia];have:=Jw c;have:=Mw false 0 r
     grind
    |false=>grind
  omega
 |cMark k a b=>rw[tq a b];have:=XO k;omega
theorem tF: ∀{l:List zb},(∀t∈l,Gg t=true/\t.text.length<=5000/\t.unit.length<=5000)->(catT l).length<=20100*l.length
 |[],_=>Bc _
 |t::r,h=>by obtain⟨a,b,c⟩:=h t (Nb ..);have:=zDU a b c;have:=tF (l:=r) (fun u d=>h u (Eb _ d));rw[catT,Ia,Sa];omega
theorem xL: ∀(l m:List zb),catT (l++m)=catT l++catT m
 |[],m=>rfl
 |t::l,m=>by rw[ma,catT,catT,xL l m,Ra]
theorem EY {R:Type} {step:Int×List UInt8->Option (LO (Int×List UInt8) (List UInt8) R)} {l:List zb} (m:l.length<=3) (e: ∀t∈l,Gg t=true/\t.text.length<=5000/\t.unit.length<=5000)
  (f: ∀(i:Nat) (a:Str) (hi:i<l.length),step ((i:Int),a)=(Lt (l[i],a)).bind fun j=>some (LO.again (w64 ((i:Int)+1),j)))
  (h2: ∀a,step ((l.length:Int),a)=some (.out a)):Tg step (0,[])=some (.out (catT l)):=by
 refine Qf (fun z=> ∃(i:Nat),i<=l.length/\z=((i:Int),catT (l.take i))) (fun z=>l.length - z.1.toNat) _ ?_ ⟨0,by omega,rfl⟩;rintro _ ⟨i,hi,rfl⟩;rcases Lc i l.length with h|h
 ·obtain⟨a,b,c⟩:=e l[i] (Sd h);have g:=tF (l:=l.take i) (fun t d=>e t (List.mem_of_mem_take d));rw[Pd]at g;have k:min i l.length<=2:=by omega
  have d:=zAc (acc:=catT (l.take i)) a b c (by
   grind)
  rw[f i _ h,d,Aa];refine .inl ⟨_,rfl,⟨i+1,by omega,?_⟩,by simp only;rw[zW (by omega) (by omega)];omega⟩;rw[zW (by omega) (by omega),ve h,xL];refine Prod.ext (by grind) ?_;show _=catT (l.take i)++(txS l[i]++[])
  grind
 grind
def stO(x:List zb×Str):zz:=⟨(x.1.length:Int),(x.2.length:Int)⟩
theorem dX{b s A B:Str}{ts L us P:List zb}{m:Nat}(h:b=B++A/\A≠[]/\ts=L++us/\us≠[]/\ ∃R,run b L R/\Lk R A/\4<=R.length/\4<=A.length):Kg (qj (A++s)) (us++P)=Kg (qj (b++s)) (ts++P):=by
 obtain⟨o,k,i,n,R,j,a,l,e⟩:=h;have g:=Es (wK s j l);have f:Lk (R++s) (A++s):=by
  refine uV a k ?_;rcases a with a|⟨d,y,_,rfl,_⟩
  ·cases A with
   |nil=>grind
   |cons c t=>
    cases t with
    |cons d u=>rw[BX,<-a];exact Bw R
    |nil=>simp at e
  ·rfl
 rw[iL f]at g;rw[g,i,Bool.eq_iff_iff,Tm,Tm,Ra,List.append_cancel_left_eq]
theorem VG{x:List zb}(h:gluS x=0):x.length<=1500/\(∀t∈x,Gg t=true)/\ ∀k,k<x.length->okAt (x.drop k)=true:=by
 unfold gluS at h;cases hl:decide (x.length<=1500)with
 |false=>grind
 |true=>
  rw[hl,Ea]at h;cases ha:(List.range x.length).all (Ym x)with
  |false=>grind
  |true=>
   rw[Ta]at ha;have key: ∀k,k<x.length->Gg (x.getD k default)=true/\okAt (x.drop k)=true:=by intro k hk;have:=ha k (Kc.2 hk);unfold Ym at this;rw[Ca]at this;exact this
   refine⟨Gc hl,fun t ht=> ?_,fun k hk=>(key k hk).2⟩;obtain⟨k,hk,rfl⟩:=List.mem_iff_getElem.1 ht
   grind
theorem zCP{t:zb}{r:List zb}:(bif t.kind==9 then((pcN (t::r):Nat):Int)==2 else false)=(t.kind==9&&t.text==[92]):=by
 cases a:t.kind==9 with
 |false=>rfl
 |true=>
  have b:Vg t=false:=by unfold Vg;rw[Rb.1 a];rfl
  rw[Xw,a,Ea,b]
  grind
theorem CX{t:zb}{r:List zb}:pcS ((t::r).take (pcN (t::r)))=bif (t.kind==9&&t.text==[92])then [92,10]else catT ((t::r).take (pcN (t::r))):=by
 obtain⟨k,a⟩: ∃k,pcN (t::r)=k+1:=⟨pcN (t::r) - 1,by have:=oF (t:=t) (r:=r);omega⟩;rw[a,xe,pcS]
 grind
theorem JM{n:Nat}{ts:List zb}{b:Str}{t:zb}{r:List zb}{s:Str}{P:List zb}(a:(t::r).take (pcN (t::r))=P)(c:pcS P=s):
  wrF (n+1) ts b (t::r)=wrF n (ts++P) ((if Kg (qj (b++s)) (ts++P)then b else b++cmtW)++s) ((t::r).drop (pcN (t::r))):=by
 subst c a;rw[wrF]
theorem ap16{n:Nat}(h:n<=99999):zX n 1 16=true:=Nk (by omega) (by omega)
theorem WV{n m:Nat}(h:n+m<=200000):zX n m 1=true:=by
 unfold zX
 grind
theorem zBD{R:Type}{i:Int}{b:Str}{ts:List zb}{st:List (List zb×Str)}(h:zCM b ts st)(g:st.length<=100000): ∃L B A us,
  (bif decide (w64 (((st.map stO).length:Int) - 4)>=0)then
        need (decide (0<=w64 (((st.map stO).length:Int) - 4))&&decide (w64 (((st.map stO).length:Int) - 4)<((st.map stO).length:Int)))<|
        ((st.map stO)[(w64 (((st.map stO).length:Int) - 4)).toNat]?).bind fun c=>
        some (LX.out (i,b,st.map stO,c))
       else
        some (LX.out (i,b,st.map stO,(⟨0,0⟩:zz))))=(some (LX.out (i,b,st.map stO,stO (L,B))):Option (LX (Int×List UInt8×List zz×zz) R))/\
  b=B++A/\ts=L++us/\ ∀s P,Kg (qj (A++s)) (us++P)=Kg (qj (b++s)) (ts++P):=by
 rw[Xa];by_cases l:4<=st.length
 ·obtain⟨A,R,us,d,k,e,a,j,f,o,n⟩:=h.bd (st.length - 4) (by omega);refine⟨st[st.length - 4].1,st[st.length - 4].2,A,us,?_,d,e,fun s P=>dX (m:=0) ⟨d,k,e,a,R,j,f,by omega,by omega⟩⟩;rw[zW (by omega) (by omega),Ma (by omega),Ea,Ma (by omega),Bool.and_self,qA,show((st.length:Int) - 4).toNat=st.length - 4 by omega,Ua,Ja (by omega)];rfl
 ·refine⟨[],[],b,ts,?_,rfl,rfl,fun s P=>rfl⟩;rw[zW (by omega) (by omega),Dc (by omega),Ha];rfl
theorem PY{x:List zb}(hx: ∀t∈x,t.text.length<=5000/\t.unit.length<=5000):
  Vs x=some (if gluS x=0 then(if 4000<(wrS x).length then([],28)else(wrS x,0))else([],gluS x)):=by
 unfold Vs;have hbig:big=4194304:=rfl;rw[r9 (fun t ht=>by grind)];simp only[ze,Aa];by_cases hg:gluS x=0
 ·rw[La hg,hg,show((0:Int) != 0)=false from rfl,Ha];obtain⟨hlen,hfine,hok⟩:=VG hg;have hrest:Kn x:=⟨fun t ht=>⟨hfine t ht,hx t ht⟩,hok⟩;refine MC (fun z=> ∃(i:Nat) (b:Str) (st:List (List zb×Str)) (n:Nat),z=((i:Int),b,st.map stO)/\i<=x.length/\Syn b (x.take i) st/\b.length<=4000/\x.length - i<=n/\wrF n (x.take i) b (x.drop i)=wrS x/\st.length<=i) (fun z=>x.length - z.1.toNat) _ ?_
   ⟨0,[],[],x.length,rfl,Bc _, .nil,Bc _,Ya _,rfl,Ya _⟩
  rintro _ ⟨i,b,st,n,rfl,hi,hsyn,hbl,hn,hW,hst⟩;simp only;rcases Lc i x.length with h|h
  ·have hro:=BP hrest i;have hdr:x.drop i=x[i]::x.drop (i+1):=Jb h;obtain⟨t,ht⟩: ∃t,t=x[i]:=⟨_,rfl⟩;obtain⟨r,hr⟩: ∃r,r=x.drop (i+1):=⟨_,rfl⟩;rw[<-ht,<-hr]at hdr;rw[hdr]at hro hW;have hlr:(t::r).length=x.length - i:=by rw[<-hdr,Xc]
   obtain⟨hk1,hpc⟩:=BL hro;have hk0:=oF (t:=t) (r:=r);have hk3:=zB9 (t:=t) (r:=r);obtain⟨k,hk⟩: ∃k,pcN (t::r)=k:=⟨_,rfl⟩;obtain⟨P,hP⟩: ∃P,(t::r).take k=P:=⟨_,rfl⟩;obtain⟨s,hs⟩: ∃s,pcS P=s:=⟨_,rfl⟩;have hst':=CX (t:=t) (r:=r);have hstep:=fun m=>JM (n:=m) (ts:=x.take i) (b:=b) (t:=t) (r:=r) (s:=s) (P:=P) (by rw[hk];exact hP) hs;have e3:QK (List.drop i x)=some ((k:Nat):Int):=by rw[hdr,<-hk];exact dY (by grind) (hro.2 0 (by simp))
   have hb2:=zCP (t:=t) (r:=r);rw[hk]at hk0 hk1 hk3 hpc hst' hb2 hstep;rw[hP]at hpc hst';rw[hs]at hpc hst';rw[hlr]at hk1;have e1:decide ((i:Int)<(x.length:Int))=true:=Ma (by omega);have e2:(decide ((0:Int)<=(i:Int))&&decide ((i:Int)<=(x.length:Int)))=true:=by rw[Ma (by omega),Ma (by omega)];rfl
   have e4:w64 ((i:Int)+((k:Nat):Int))=((i+k:Nat):Int):=by rw[zW (by omega) (by omega)];omega
   have e5:(decide ((0:Int)<=(i:Int))&&(decide ((i:Int)<=((i+k:Nat):Int))&&decide (((i+k:Nat):Int)<=(x.length:Int))))=true:=by rw[Ma (by omega),Ma (by omega),Ma (by omega)];rfl
   have e6:geti x (i:Int)=some t:=by rw[QV h,ht]
   have e7:List.drop i (List.take (i+k) x)=P:=by rw[List.drop_take,hdr,show i+k - i=k by omega,hP]
   simp only[e1,e2,e3,e4,e5,e6,Ea,qA,Aa,Ic,e7];have hPl:P.length<=3:=by rw[<-hP,Pd];omega
   have hPf: ∀u∈P,Gg u=true/\u.text.length<=5000/\u.unit.length<=5000:=fun u hu=>hro.1 u (by grind);have hsl:s.length<=60400:=by
    have:=tF hPf;rw[hst'];cases t.kind==9&&t.text==[92]with
    |true=>grind
    |false=>grind
   rw[Qg (EY (l:=P) hPl hPf (fun j a hj=> ?_) (fun a=> ?_))]
   ·rw[hb2];have hj9:(bif (t.kind==9&&t.text==[92])then some (LX.out ((i:Int),b,st.map stO,[(92:UInt8),(10:UInt8)]))else some (LX.out ((i:Int),b,st.map stO,catT P)))=(some (LX.out ((i:Int),b,st.map stO,s)):Option (LX (Int×List UInt8×List zz×List UInt8) (LO (Int×List UInt8×List zz) (List UInt8) (Str×Int)))):=by rw[hst'];cases t.kind==9&&t.text==[92]<;>rfl
    rw[hj9,zh];simp only;have hsok:=mE hsyn;obtain⟨L,B,A,us,hfrom,hbA,hts,hwin⟩:=zBD (R:=LO (Int×List UInt8×List zz) (List UInt8) (Str×Int)) (i:=(i:Int)) hsok (by omega);rw[hfrom,zh];have hBl:B.length<=b.length:=by rw[hbA,Ia];omega
    have hAl:A.length<=b.length:=by rw[hbA,Ia];omega
    have f1:(decide ((0:Int)<=(stO (L,B)).at_)&&decide ((stO (L,B)).at_<=(b.length:Int)))=true:=by show(decide ((0:Int)<=(B.length:Int))&&decide ((B.length:Int)<=(b.length:Int)))=true;rw[Ma (by omega),Ma (by omega)];rfl
    have f2:(stO (L,B)).at_.toNat=B.length:=Ic _;have f3:decide (B.length+(b.length - B.length)<=b.length)=true:=Ma (by omega);have f4:List.take (b.length - B.length) (List.drop B.length b)=A:=by rw[hbA,List.drop_left,Ia,show B.length+A.length - B.length=A.length by omega,uf]
    have f5:Fg A.length s.length=true:=yw.2 (by omega);simp only[f1,f2,f3,f4,f5,qA,XH,Aa,e4,Ic];have htl:(stO (L,B)).token=(L.length:Int):=rfl;have hLl:L.length<=i:=by have:=congrArg List.length hts;rw[Pd,Ia]at this;omega
    have htk:List.drop L.length (List.take (i+k) x)=us++P:=by
     have:List.take (i+k) x=L++(us++P):=by rw[List.take_add,hdr,hP,hts,Ra]
     rw[this,List.drop_left]
    have hPlen:P.length=k:=by rw[<-hP,Pd];omega
    have husP:(us++P).length<=1500:=by have h1:=congrArg List.length hts;rw[Pd,Ia]at h1;rw[Ia,hPlen];omega
    have hcl:clB (A++s)=true:=by have h1:=EW hsyn;rw[hbA,Qq,Ca]at h1;rw[Qq,h1.2,GK hpc];rfl
    obtain⟨c,hc⟩: ∃c,c=Kg (qj (b++s)) (x.take i++P):=⟨_,rfl⟩;have hwinc:Kg (qj (A++s)) (us++P)=c:=by rw[hc];exact hwin s P
    obtain⟨c',hc'⟩: ∃c',c'=(decide ((A++s).length<=4000)&&c):=⟨_,rfl⟩;have hneed:(decide ((0:Int)<=(stO (L,B)).token)&&(decide ((stO (L,B)).token<=((i+k:Nat):Int))&&decide (((i+k:Nat):Int)<=(x.length:Int))))=true:=by rw[htl,Ma (by omega),Ma (by omega),Ma (by omega)];rfl
    have hcat: ∀(E:Option (LX (Int×List zz×List UInt8) (LO (Int×List UInt8×List zz) (List UInt8) (Str×Int)))),
      E=(need (decide ((0:Int)<=(stO (L,B)).token)&&(decide ((stO (L,B)).token<=((i+k:Nat):Int))&&decide (((i+k:Nat):Int)<=(x.length:Int)))|| !(!((Ih (A++s)).2 != 0)))<|
       (zu (!((Ih (A++s)).2 != 0)) (Z6 ((Ih (A++s)).1,List.drop (stO (L,B)).token.toNat (List.take (i+k) x))) (default:Bool)).bind fun y13=>
       bif bif (Ih (A++s)).2 != 0 then true else !y13 then
        need (zX b.length ([47,42,42,47]:Str).length 1)<|
        some (LX.out ((i:Int),st.map stO,b++([47,42,42,47]:Str)))
       else
        some (LX.out ((i:Int),st.map stO,b)))->E=some (LX.out ((i:Int),st.map stO,if c' then b else b++cmtW)):=by
     rintro E rfl;rw[hneed,Oe,qA,show(stO (L,B)).token.toNat=L.length from Ic _,htk];have happ:zX b.length ([47,42,42,47]:Str).length 1=true:=WV (by grind);unfold Ih;by_cases hlong:4000<(A++s).length
     ·rw[La hlong];have:c'=false:=by rw[hc',Dc (by omega)];rfl
      rw[this];simp only[show((28:Int) != 0)=true from rfl,Ec,Qx,Aa,Ea,happ,qA];rfl
     ·rw[Ga hlong,vG _ hcl];have hcc:c'=c:=by rw[hc',Ma (by omega)];rfl
      by_cases hmany:1500<(qj (A++s)).length
      ·rw[La hmany];have:c'=false:=by rw[hcc,<-hwinc];exact AO (by omega)
       rw[this];simp only[show((4:Int) != 0)=true from rfl,Ec,Qx,Aa,Ea,happ,qA];rfl
      ·rw[Ga hmany];simp only[show((0:Int) != 0)=false from rfl,Cc,Zx,Ha,XY (show(qj (A++s)).length<=big by omega),hwinc,Aa,happ,qA]
       grind
    rw[hcat _ rfl,zh];simp only;obtain⟨m,hm⟩: ∃m,n=m+1:=⟨n - 1,by omega⟩;subst hm;rw[hstep m,<-hc]at hW;have hWl:=bK m (x.take i++P) ((if c then b else b++cmtW)++s) ((t::r).drop k);rw[hW]at hWl;have hcw:cmtW.length=4:=rfl;have hb1:(if c' then b else b++cmtW).length<=4004:=by
     split
     ·omega
     ·grind
    rw[zy (ap16 (by grind)),zy (WV (by omega))];have hbs:b.length+s.length<=(wrS x).length:=by
     refine Lb ?_ hWl;rw[Ia];split
     ·omega
     ·grind
    by_cases hbig2:4000<((if c' then b else b++cmtW)++s).length
    ·grind
    ·rw[Dc (by omega),Ha];have hcc:c'=c:=by
      have:(A++s).length<=4000:=by
       rw[Ia]at hbig2 ⊢;have:b.length<=(if c' then b else b++cmtW).length:=by
        split
        ·grind
        ·grind
       omega
      rw[hc',Ma this];rfl
     rw[hcc]at hbig2 ⊢;have hxt:x.take (i+k)=x.take i++P:=by rw[List.take_add,hdr,hP]
     refine .inl ⟨_,rfl,⟨i+k,(if c then b else b++cmtW)++s,st++[(x.take i,if c then b else b++cmtW)],m,?_,by omega,?_,by omega,by omega,?_,?_⟩,?_⟩
     ·refine Prod.ext e4 (Prod.ext rfl ?_);rw[ic];show st.map stO++[_]=st.map stO++[stO (x.take i,if c then b else b++cmtW)];unfold stO
      grind
     ·rw[hxt];cases hcb:c with
      |true=> rw[La rfl];exact .no b s _ P st hsyn hpc (Tm.1 (by rw[<-hc,hcb]))
      |false=> rw[Ga (by decide)];refine .cmt b s _ P st hsyn ?_ hpc;rintro rfl;have h0:=hsok.tok;rw[QB (ZZ rfl)]at h0;rw[<-h0,Mc,Mc,mF hpc]at hc;rw[hcb,Tm.2 rfl]at hc;cases hc
     ·rw[hxt,<-hW,<-We,hdr]
     ·rw[Ia,je];omega
     ·simp only;rw[e4];omega
   ·have d1:decide ((j:Int)<(P.length:Int))=true:=Ma (by omega);simp only[d1,Ea,QV hj,Aa]
   ·simp only;rw[Dc (by omega),Ha]
  ·have:i=x.length:=by omega
   subst this;have e1:decide ((x.length:Int)<(x.length:Int))=false:=Dc (by omega);simp only[e1,Ha];refine .inr (.inl ⟨_,rfl,?_⟩);rw[Ue (Ya _)]at hW;have hWb:b=wrS x:=by
    cases n with
    |zero=>rw[wrF]at hW;exact hW
    |succ n=>rw[wrF]at hW;exact hW
   rw[<-hWb,Ga (by omega)]
 grind
theorem NE: ∀(n:Nat) {ts r:List zb} {b:Str} {st:List (List zb×Str)},Kn r->Syn b ts st->r.length<=n-> ∃st',Syn (wrF n ts b r) (ts++r) st'
 |0,ts,r,b,st,_,hs,hn=>by
  have:r=[]:=Vf.1 (by omega);subst this;rw[wrF,Bb]
  grind
 |n+1,ts,[],b,st,_,hs,_=>by
  rw[wrF,Bb]
  grind
 |n+1,ts,t::r,b,st,hr,hs,hn=>by
  obtain⟨hk,hpc⟩:=BL hr;have hk0:=oF (t:=t) (r:=r);rw[JM rfl rfl];have hd:(t::r)=(t::r).take (pcN (t::r))++(t::r).drop (pcN (t::r)):=(df _ _).symm;have hl:((t::r).drop (pcN (t::r))).length<=n:=by rw[Xc];omega
  have hro:=BP hr (pcN (t::r));generalize (t::r).take (pcN (t::r))=P at*;generalize (t::r).drop (pcN (t::r))=Q at*;cases hc:Kg (qj (b++pcS P)) (ts++P)with
  |true=>
   rw[La rfl];obtain⟨st',h'⟩:=NE n hro (.no b (pcS P) ts P st hs hpc (Tm.1 hc)) hl
   grind
  |false=>
   rw[Ga (by decide)];have hb:b≠[]:=by rintro rfl;have h0:=(mE hs).tok;rw[QB (ZZ rfl)]at h0;rw[<-h0,Mc,Mc,mF hpc,Tm.2 rfl]at hc;cases hc
   obtain⟨st',h'⟩:=NE n hro (.cmt b (pcS P) ts P st hs hb hpc) hl
   grind
theorem K3{x:List zb}(h:Kn x):qj (wrS x)=x/\clB (wrS x)=true:=by obtain⟨b,a⟩:=NE x.length h .nil (Ya _);rw[Mc]at a;exact⟨(mE a).tok,EW a⟩
theorem V5 {S X R:Type} {step:S->Option (LO S X R)} {k:X->Option R} (Inv:S->Prop) (c:S->Nat) (Q:R->Prop)
  (h: ∀s,Inv s->(∃s',step s=some (.again s')/\Inv s'/\c s'<c s)\/(∃x y,step s=some (.out x)/\k x=some y/\Q y)\/(∃y,step s=some (.ret y)/\Q y)) {s:S} (e:Inv s): ∃y,Zy step s k=some y/\Q y:=by
 have d: ∀(m:Nat) (s:S),c s<m->Inv s-> ∃(r:LX X R) (y:R),Qn step m s=some r/\r.go k=some y/\Q y:=by
  intro m
  induction m with
  |zero=>intro s h;omega
  |succ m i=>
   intro s g e;simp only[Qn];rcases h s e with⟨s',a,b,f⟩|⟨x,y,a,b,f⟩|⟨y,a,b⟩
   ·grind
   ·simp_all
   simp_all
 obtain⟨r,y,a,b,f⟩:=d (c s+1) s (by omega) e;exact⟨y,by rw[Ao (Om a)];exact b,f⟩
def jh(x:List zb)(n:Nat):Prop:= ∀t∈x,t.text.length+t.unit.length<=n
theorem mW{x:List zb}(h:jh x 1000000000)(hl:x.length<=big): ∃g,Fy x=some g/\(g=false->jh x 1000/\x.length<=1510):=by
 have hbig:big=4194304:=rfl;unfold Fy;by_cases h1:(x.length>100/\x.length<=1500)\/x.length>1510
 ·have:(bif bif decide ((x.length:Int)>100)then decide ((x.length:Int)<=1500)else false then true else decide ((x.length:Int)>1510))=true:=by
   rcases h1 with⟨a,b⟩|a
   ·grind
   ·grind
  rw[this,Ea]
  grind
 ·have:(bif bif decide ((x.length:Int)>100)then decide ((x.length:Int)<=1500)else false then true else decide ((x.length:Int)>1510))=false:=by
   rw[Dc (show¬(x.length:Int)>1510 by omega)];by_cases a:x.length>100
   ·grind
   ·grind
  rw[this,Ha];refine V5 (fun s=> ∃(i n:Nat),s=((n:Int),(i:Int))/\i<=x.length/\n<=1000/\jh (x.take i) 1000) (fun s=>x.length - s.2.toNat) (fun g=>g=false->jh x 1000/\x.length<=1510) ?_ ⟨0,0,rfl,by omega,by omega,fun t ht=>by cases ht⟩;rintro _ ⟨i,n,rfl,hi,hn,hlt⟩;simp only[ze];rcases Lc i x.length with hh|hh
  ·have hb:=h x[i] (Sd hh);have e1:decide ((i:Int)<(x.length:Int))=true:=Ma (by omega);have e2:w64 ((n:Int)+w64 ((x[i].text.length:Int)+(x[i].unit.length:Int)))=((n+(x[i].text.length+x[i].unit.length):Nat):Int):=by rw[zW (n:=(x[i].text.length:Int)+(x[i].unit.length:Int)) (by omega) (by omega),zW (by omega) (by omega)];omega
   simp only[e1,Ea,QV hh,Aa,e2];by_cases hbig2:n+(x[i].text.length+x[i].unit.length)>1000
   ·rw[Ma (by omega),Ea]
    grind
   ·rw[Dc (by omega),Ha];refine .inl ⟨_,rfl,⟨i+1,n+(x[i].text.length+x[i].unit.length),by rw[zW (by omega) (by omega)];rfl,by omega,by omega,?_⟩,by simp only;rw[zW (by omega) (by omega)];omega⟩;rw[ve hh];intro t ht;rcases Vb.1 ht with ht|ht
    ·exact hlt t ht
    grind
  ·have:i=x.length:=by omega
   simp_all
theorem rest_of{x:List zb}(c:gluS x=0)(h:jh x 1000):Kn x:=by obtain⟨_,d,b⟩:=VG c;exact⟨fun t a=>⟨d t a,by have:=h t a;omega,by have:=h t a;omega⟩,b⟩
theorem L8{x:List zb}(a:gluS x=0)(h:jh x 1000)(d:(wrS x).length<=4000):Ih (wrS x)=(x,0):=by obtain⟨b,c⟩:=K3 (rest_of a h);have e:=(VG a).1;unfold Ih;rw[Ga (by omega),vG _ c,b,Ga (by omega)]
theorem zAs{x:List zb}(b:gluS x=0)(h:jh x 1000):Vs x=some (if 4000<(wrS x).length then([],28)else(wrS x,0)):=by rw[PY (fun t a=>by have:=h t a;omega),La b]
theorem zCu{x:List zb}{n:Nat}(h:jh x n)(b:n<=big): ∀t∈x,t.text.length<=big/\t.unit.length<=big:=fun t a=>by have:=h t a;omega
theorem TB{m:UInt8}{q:Str}{t:Str}(h:(zV m q).1=some t):t.length<=4*q.length:=by
 match q with
 |[]=>rw[jo]at h;grind
 |c::r=>
  have a: ∀(u:Str) (o:Option Str) (k:Nat),o.map (u++ ·)=some t->(∀d,o=some d->d.length<=k)->t.length<=u.length+k:=by
   intro u o k e i;cases o with
   |none=>cases e
   |some d=>
    grind
  rw[qO]at h;rw[Sa];split at h
  ·grind
  ·split at h
   ·cases h
   ·split at h
    ·split at h
     ·grind
     ·split at h
      ·have j:=TB (q:=r.drop 1) h
       grind
      ·have g:=Za r;have f:=Ls r;have:=a _ _ (4*(zq r).2.length) h (fun d b=>TB b);omega
    ·have:=a [c] _ (4*r.length) h (fun d b=>TB b)
     grind
termination_by q.length
decreasing_by
 all_goals grind
theorem CK{q:Str}{t:Str}(h:(urlS q).1=some t):t.length<=4*q.length:=by
 match q with
 |[]=>rw[Jo]at h;grind
 |c::r=>
  have a: ∀(u:Str) (o:Option Str) (k:Nat),o.map (u++ ·)=some t->(∀d,o=some d->d.length<=k)->t.length<=u.length+k:=by
   intro u o k e i;cases o with
   |none=>cases e
   |some d=>
    grind
  rw[Bl]at h;rw[Sa];split at h
  ·grind
  ·split at h
   ·grind
   ·split at h
    ·cases h
    ·split at h
     ·have g:=Za r;have f:=Ls r;have:=a _ _ (4*(zq r).2.length) h (fun d b=>CK b);omega
     ·have:=a [c] _ (4*r.length) h (fun d b=>CK b)
      grind
termination_by q.length
decreasing_by
 all_goals grind
theorem zDm(c:UInt8)(r:Str):(Zl (c::r)).1.text.length+(Zl (c::r)).1.unit.length<=4*(c::r).length:=by
 rw[qh,Sa];have hq: ∀o:Option Str,(∀t,o=some t->t.length<=4*(r.length+1))->(Vi o).text.length+(Vi o).unit.length<=4*(r.length+1):=by
  intro o ho;cases o with
  |none=>show 0+0<=_;omega
  |some t=>show t.length+0<=_;grind
 have hu: ∀o:Option Str,(∀t,o=some t->t.length<=4*(r.length+1))->(Ti o).text.length+(Ti o).unit.length<=4*(r.length+1):=by
  intro o ho;cases o with
  |none=>show 0+0<=_;omega
  |some t=>show t.length+0<=_;grind
 have hnr:=Ir r;rcases LK (JK c r)with h|h|h|h|h|h|h|h|h|h
 ·rw[h,Cz];show 0+0<=_;omega
 ·rw[h,Rp];exact hq _ (fun t ht=>by have:=TB ht;omega)
 ·rw[h,Sl];grind
 ·rw[h,si];have h1:=(xV (c::r)).length_le;have h2:=(NQ (Mf (c::r))).length_le;have h3:(Mf (c::r)).length<=r.length+1:=by
   have:=(Mm digB (unsign (c::r))).length_le;have h4:(unsign (c::r)).length<=(c::r).length:=by have:=congrArg List.length (Iz (c::r));rw[Ia]at this;omega
   unfold Mf;rw[Sa]at h4;omega
  have h4:=Ir (zB (c::r)).1;unfold zA
  grind
 ·rw[h,UK];show 0+0<=_;omega
 ·rw[h,TK];show 0+0<=_;omega
 ·rw[h,Pp];grind
 ·rw[h,Ri];have h4:=Ir (c::r);rw[Sa]at h4;unfold qz;split
  ·split
   ·refine hu _ (fun t ht=> ?_);have h1:=CK ht;have h2:=(Mm spB ((zm (c::r)).2.drop 1)).length_le;have h3:=(Dk (c::r)).length_le
    grind
   grind
  grind
 ·rw[h,Du];grind
 ·rw[h,Bz];show 0+0<=_;omega
theorem fV(q:Str):jh (qj q) (4*q.length):=by
 intro t a;cases b:cmtS q with
 |nil=>rw[QB b]at a;cases a
 |cons c r=>
  have d:=(Vj q).length_le;have f:=(aj c r).length_le;rw[b,Sa]at d;rw[QH b]at a;rcases Ab.1 a with a|a
  ·rw[a];have:=zDm c r
   grind
  ·have e:(Zl (c::r)).2.length<q.length:=by omega
   have:=fV (Zl (c::r)).2 t a;omega
termination_by q.length
decreasing_by all_goals omega
end Go.Lv.VT
