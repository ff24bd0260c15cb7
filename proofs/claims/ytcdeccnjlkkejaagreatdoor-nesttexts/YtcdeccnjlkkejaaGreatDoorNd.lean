/- Pieces: what is written at once; how they begin. -/
import Derived.Test.YtcdeccnjlkkejaaGreatDoorNc
import Derived.Test.YtcdeccnjlkkejaaGreatDoorNam
set_option linter.unusedSimpArgs false
set_option linter.unusedVariables false
namespace Go.Lv.VT
set_option maxRecDepth 100000
abbrev tkSp:zb:=⟨13,[],0,[],false⟩
inductive PcT:Str->List zb->Prop
 |one (t:zb) (h:zgg t) (hb: ¬(t.kind=9/\t.text=[92])) (hu:Ph t=false):PcT (txS t) [t]
 |back:PcT [92,10] [⟨9,[92],0,[],false⟩,tkSp]
 |url (l m:Str) (s:Bool) (h:Zn l=true) (hl:lowS l=[117,114,108]) (hm:Zn m=true):
   PcT (qm l++40::((if s then [32]else [])++34::(encB quoB m++[34]))) (⟨2,l,0,[],false⟩::((if s then [tkSp]else [])++[⟨5,m,0,[],false⟩]))
theorem PP{l:Str}(h:lowS l=[117,114,108]): ∃a r,l=a::r/\(a=117\/a=85):=by
 cases l with
 |nil=>cases h
 |cons a r=>
  have h1:Xk a=117:=by unfold lowS at h;rw[aa]at h;injection h
  have: ∀n:Nat,n<256->Xk (UInt8.ofNat n)=117->UInt8.ofNat n=117\/UInt8.ofNat n=85:=by decide+d
  have:=c a.toNat (Rb a);rw[Gc]at c;exact⟨a,r,rfl,c h1⟩
theorem XA{l:Str}(h0:l≠[])(z:Str):nmS (qm l++40::z)=true:=FN (Dm h0) (by show(40:UInt8)≠10;decide)
theorem Xt{k:Int}(h1:13<=k)(h2:k<=24):k=13\/k=14\/k=15\/k=16\/k=17\/k=18\/k=19\/k=20\/k=21\/k=22\/k=23\/k=24:=by omega
theorem jC{s:Str}{P:List zb}(h:PcT s P):nmS s=true\/(∃n p U t,P=[t]/\s=numT n p++U/\t.num=n/\(U=[]/\t.kind=10\/U=[37]\/ ∃u,u≠[]/\Zn u=true/\U=ng u))\/
  (∃c r,s=c::r/\(c=64\/c=35\/c=34)/\nbS s=false)\/(∃c,s=[c]/\Vi c.toNat=true)\/(∃k,13<=k/\k<=24/\s=Wo k)\/s=[92,10]:=by
 cases h with
 |one t h hb hu=>
  cases h with
  |cId l h0 h=>left;rw[xq];exact Dm h0
  |cFn l h0 h=>left;rw[Wm];exact XA h0 []
  |cAt l h0 h=>right;right;left;rw[Ar];exact⟨64,_,rfl, .inl rfl,rfl⟩
  |cHash l f h0 h d=>right;right;left;rw[Ot];exact⟨35,_,rfl, .inr (.inl rfl),rfl⟩
  |cStr l h=>right;right;left;rw[Yo];exact⟨34,_,rfl, .inr (.inr rfl),rfl⟩
  |cUrl l h=>left;rw[Xr];rfl
  |cDel c h=>right;right;right;left;rw[mr];exact⟨c,rfl,h⟩
  |cNum n f h1 h2 hf=>right;left;exact⟨n, !f,[],_,rfl,by rw[jr,Ab],rfl, .inl ⟨rfl,rfl⟩⟩
  |cPct n h1 h2=>right;left;exact⟨n,false,[37],_,rfl,Yr n,rfl, .inr (.inl rfl)⟩
  |cDim n u f h1 h2 hf h0 h=>right;left;exact⟨n, !f,ng u,_,rfl,kr n u f,rfl, .inr (.inr ⟨u,h0,h,rfl⟩)⟩
  |cMark k h1 h2=>right;right;right;right;left;exact⟨k,h1,h2,Nt h1 h2⟩
 |back=>right;right;right;right;right;rfl
 |url l m s h hl hm=> left;obtain⟨a,r,rfl,_⟩:=PP hl;exact XA (by simp) _
theorem gI(c:UInt8)(h:Vi c.toNat=true):spB c=false/\nbS [c]=false/\c≠101/\c≠69:=by
 have: ∀n:Nat,n<256->Vi (UInt8.ofNat n).toNat=true->spB (UInt8.ofNat n)=false/\nbS [UInt8.ofNat n]=false/\UInt8.ofNat n≠101/\UInt8.ofNat n≠69:=by decide+f
 have:=d c.toNat (Rb c);rw[Gc]at d;exact d h
theorem tY{s:Str}(h:digB (atS (unsign s) 0)=true):nbS s=true:=by unfold nbS undot;have:(atS (unsign s) 0==46)=false:=Ga.2 (QV h).2.2.1;rw[c,Ha (by decide),h]
theorem XF{s:Str}{P:List zb}(h:PcT s P)(d:digB (atS (unsign s) 0)=true): ∃n p U t,P=[t]/\s=numT n p++U/\t.num=n/\(U=[]/\t.kind=10\/U=[37]\/ ∃u,u≠[]/\Zn u=true/\U=ng u):=by
 have hn:=tY d;rcases jC h with h|h|⟨c,r,e,_,h⟩|⟨c,rfl,h'⟩|⟨k,h1,h2,rfl⟩|rfl
 ·rw[VW h]at hn;cases hn
 ·exact h
 ·rw[h]at hn;cases hn
 ·rw[(gI c h').2.1]at hn;cases hn
 ·rcases Xt h1 h2 with rfl|rfl|rfl|rfl|rfl|rfl|rfl|rfl|rfl|rfl|rfl|rfl<;>cases hn
 ·cases hn
theorem zEL{s:Str}{P:List zb}(h:PcT s P)(d:spB (atS s 0)=true):s=[32]:=by
 rcases jC h with h|⟨n,p,U,t,_,rfl,_⟩|⟨c,r,rfl,hc,_⟩|⟨c,rfl,h'⟩|⟨k,h1,h2,rfl⟩|rfl
 ·rw[(Uw (gq h)).1]at d;cases d
 ·obtain⟨c,r,e,_,h2,_⟩:=Np n p U;rw[e]at d;rw[show atS (c::r) 0=c from rfl,h2]at d;cases d
 ·rcases hc with rfl|rfl|rfl<;>cases d
 ·rw[show atS [c] 0=c from rfl,(gI c h').1]at d;cases d
 ·rcases Xt h1 h2 with rfl|rfl|rfl|rfl|rfl|rfl|rfl|rfl|rfl|rfl|rfl|rfl<;>first|rfl|cases d
 ·cases d
theorem YB{s:Str}{P:List zb}(h:PcT s P){b:UInt8}(hb:b=47\/b=42)(d:atS s 0=b):s=[b]:=by
 rcases jC h with h|⟨n,p,U,t,_,rfl,_⟩|⟨c,r,rfl,hc,_⟩|⟨c,rfl,h'⟩|⟨k,h1,h2,rfl⟩|rfl
 ·have h1:=gq h;rw[d]at h1;rcases hb with rfl|rfl<;>cases h1
 ·obtain⟨c,r,e,h1,_⟩:=Np n p U;rw[e]at d;rw[show c=b from d]at h1;rcases hb with rfl|rfl<;>cases h1
 ·rw[show c=b from d]at hc;rcases hb with rfl|rfl<;>rcases hc with hc|hc|hc<;>cases hc
 ·rw[show c=b from d]
 ·rcases Xt h1 h2 with rfl|rfl|rfl|rfl|rfl|rfl|rfl|rfl|rfl|rfl|rfl|rfl<;>rcases hb with rfl|rfl<;>cases d
 ·rcases hb with rfl|rfl<;>cases d
theorem Nk{s:Str}{P:List zb}(h:PcT s P):s≠[]:=by
 rcases jC h with h|⟨n,p,U,t,_,rfl,_⟩|⟨c,r,rfl,hc,_⟩|⟨c,rfl,h'⟩|⟨k,h1,h2,rfl⟩|rfl
 ·exact jl h
 ·obtain⟨c,r,e,_⟩:=Np n p U;rw[e];simp
 ·simp
 ·simp
 ·rcases Xt h1 h2 with rfl|rfl|rfl|rfl|rfl|rfl|rfl|rfl|rfl|rfl|rfl|rfl<;>decide
 ·simp
theorem vY{l:Str}{c:UInt8}{r:Str}(f:c=101\/c=69)(h:qm l=c::r): ∃t,l=c::t:=by
 cases l with
 |nil=>unfold qm at h;rw[encW]at h;cases h
 |cons a t=>
  have hn:qm (a::t)=pcW ((a::t:Str)==[45]) (QW (a::t)) a++encW ((a::t:Str)==[45]) (QW (a::t) - 1) t:=rfl;obtain⟨d,u,e,i⟩:=kC (dash:=(a::t:Str)==[45]) (k:=QW (a::t)) (by unfold QW;split<;>omega) a (encW ((a::t:Str)==[45]) (QW (a::t) - 1) t);rw[hn,e]at h;injection h with h1 h2;rcases i with⟨rfl,_⟩|⟨rfl,_⟩
  ·rcases f with rfl|rfl<;>cases h1
  ·exact⟨t,by rw[h1]⟩
theorem zD5{s:Str}{P:List zb}(h:PcT s P)(d:atS s 0=101\/atS s 0=69): ∃l t z,Zn l=true/\P=[t]/\(t.kind=1\/t.kind=2)/\t.text=l/\s=qm l++z/\(z=[]\/z=[40]):=by
 cases h with
 |one t h hb hu=>
  cases h with
  |cId l h0 h=>exact⟨l,_,[],h,rfl, .inl rfl,rfl,by rw[xq,Ab], .inl rfl⟩
  |cFn l h0 h=>exact⟨l,_,[40],h,rfl, .inr rfl,rfl,Wm l, .inr rfl⟩
  |cAt l h0 h=>rw[Ar]at d;rcases d with d|d<;>cases d
  |cHash l f h0 h j=>rw[Ot]at d;rcases d with d|d<;>cases d
  |cStr l h=>rw[Yo]at d;rcases d with d|d<;>cases d
  |cUrl l h=>rw[Xr]at d;rcases d with d|d<;>cases d
  |cDel c h=>
   rw[mr]at d;obtain⟨_,_,k1,k2⟩:=gI c h;rcases d with d|d
   ·exact absurd d k1
   ·exact absurd d k2
  |cNum n f h1 h2 hf=>
   rw[jr]at d;obtain⟨c,r,e,h1,_⟩:=Np n (!f) [];rw[Ab]at e;rw[e]at d;rcases d with d|d<;>(rw[show c=_ from d]at h1;cases h1)
  |cPct n h1 h2=>
   rw[Yr]at d;obtain⟨c,r,e,h1,_⟩:=Np n false [37];rw[e]at d;rcases d with d|d<;>(rw[show c=_ from d]at h1;cases h1)
  |cDim n u f h1 h2 hf h0 h=>
   rw[kr]at d;obtain⟨c,r,e,h1,_⟩:=Np n (!f) (ng u);rw[e]at d;rcases d with d|d<;>(rw[show c=_ from d]at h1;cases h1)
  |cMark k h1 h2=> rw[Nt h1 h2]at d;rcases Xt h1 h2 with rfl|rfl|rfl|rfl|rfl|rfl|rfl|rfl|rfl|rfl|rfl|rfl<;>rcases d with d|d<;>cases d
 |back=>rcases d with d|d<;>cases d
 |url l m s h hl hm=>
  exfalso;obtain⟨a,r,rfl,ha⟩:=PP hl;obtain⟨c,r2,e⟩:=Jj (jl (Dm (l:=a::r) (by simp)));have i:c=101\/c=69:=by rw[e]at d;exact d
  obtain⟨t,e2⟩:=vY i e;injection e2 with e3 _;subst e3;rcases ha with rfl|rfl<;>rcases i with h|h<;>cases h
def ShS(s r:Str):Prop:=r=s\/ ∃d y,digB d=true/\s=48::46::d::y/\r=46::d::y
theorem EP(cap:Nat)(l:Str):capF cap 0 (48::l)=capF cap 0 l:=by show capF cap (min cap (decN 0 48)) l=_;rw[show decN 0 48=0 from rfl,Nat.min_zero]
theorem zAJ(A:Str)(p:Int):thoV (48::A) p=thoV A p:=by
 unfold thoV;by_cases hp:p<0
 ·rw[La hp,La hp];by_cases hl:(A.length:Int)+p<0
  ·have h1:(((48::A:Str).length:Int)+p).toNat=0:=by rw[Ea];omega
   have h2:((A.length:Int)+p).toNat=0:=by omega
   rw[h1,h2];rfl
  ·have h1:(((48::A:Str).length:Int)+p).toNat=((A.length:Int)+p).toNat+1:=by rw[Ea];omega
   rw[h1,mf,EP]
 ·rw[Ha hp,Ha hp,EP]
theorem vD(d:UInt8)(y:Str)(i:digB d=true):Zq (48::46::d::y)=Zq (46::d::y):=by
 have m:Ug 48=false/\Ug 46=false:=by decide
 have c:Jg (48::46::d::y)=46::d::y:=rfl;have f:Jg (46::d::y)=46::d::y:=rfl;have j:zC (48::46::d::y)=zC (46::d::y):=by rw[QH,QH,c,f]
 have hv:(numP (48::46::d::y)).val=(numP (46::d::y)).val:=by have h1:numP (48::46::d::y)=⟨[],[48],dotP (46::d::y),expP (zQ (46::d::y)).1⟩:=rfl;have h2:numP (46::d::y)=⟨[],[],dotP (46::d::y),expP (zQ (46::d::y)).1⟩:=rfl;rw[h1,h2];unfold NumP.val;simp only[Gd,Kc,zAJ]
 have hn:nbS (46::d::y)=true:=i;rw[bu,Ha (by decide),Ha (by decide),show((48:UInt8)==35)=false from rfl,Sc,Ha (by decide),show nbS (48::46::d::y)=true from rfl,La rfl,
  bu,Ha (by decide),Ha (by decide),show((46:UInt8)==35)=false from rfl,Sc,Ha (by decide),hn,La rfl]
 unfold zA;rw[j,hv]
theorem capG(cap:Nat): ∀(l:Str) (n:Nat),valG n l<=cap->capF cap n l=valG n l
 |[],n,_=>rfl
 |c::l,n,h=>by
  have h1:valG n (c::l)=valG (decN n c) l:=rfl;rw[h1]at h ⊢;have h2:decN n c<=valG (decN n c) l:=by rw[Ox l (decN n c)];have:=Cf (decN n c) (Bh (n:=l.length) (show 0<10 by omega));omega
  rw[capF,Nat.min_eq_right (Sb h2 h)];exact capG cap l (decN n c) h
theorem sW: ∀(k n:Nat),n*10 ^ k<=1000->Ij k n=n*10 ^ k
 |0,n,_=>by rw[Ij,Nat.pow_zero,Xi]
 |k+1,n,h=>by
  have hm:Di=1000000000000:=rfl;rw[Ij];have c:0<10 ^ k:=Bh (by omega);have e:n*10 ^ (k+1)=10*n*10 ^ k:=by rw[Nat.pow_succ,Wh 10 n,vg,Wh (10 ^ k) 10]
  have h1:10*n<=10*n*10 ^ k:=Cf _ c;by_cases h0:n=0
  ·subst h0;simp
  ·rw[Ha (by omega),Nat.min_eq_right (by omega),sW k (10*n) (by omega),e]
theorem gY{n:Int}{p:Bool}(hp:(partT (n.natAbs%1000) p).isEmpty=false){U:Str}(m:past digB U=U)(j:expS U=none):
  (numP (46::(partT (n.natAbs%1000) p++U))).val=((n.natAbs%1000:Nat):Int):=by
 obtain⟨k1,k2,k3,_,_⟩:=Xp (r:=n.natAbs%1000) (by omega) p;generalize partT (n.natAbs%1000) p=F at*;obtain⟨c,r,rfl⟩:=Jj (show F≠[] by rintro rfl;cases hp);have hc:digB c=true:=by rw[Pd,Da]at k1;exact k1.1
 have B:Jg (46::(c::r++U))=46::(c::r++U):=rfl;have d:past digB (c::r++U)=U:=by rw[lC _ _ k1,m]
 have u:zQ (46::(c::r++U))=(U,false):=by unfold zQ;rw[show atS (46::(c::r++U)) 1=c from rfl,hc,show(atS (46::(c::r++U)) 0==46&&true)=true from rfl,La rfl,show(46::(c::r++U)).drop 1=c::r++U from rfl,d]
 have f:List.takeWhile digB (c::r++U)=c::r:=by have:=Ny digB (c::r++U);rw[d]at i;exact List.append_cancel_right i
 have v:dotP (46::(c::r++U))=some (c::r):=by unfold dotP;rw[show atS (46::(c::r++U)) 1=c from rfl,hc,show(atS (46::(c::r++U)) 0==46&&true)=true from rfl,La rfl,show(46::(c::r++U)).drop 1=c::r++U from rfl,f]
 have y:expP U=none:=by unfold expP;rw[xn]at j;rw[j,Ha (by decide)]
 have z:numP (46::(c::r++U))=⟨[],[],some (c::r),none⟩:=by show(⟨sgOf (46::(c::r++U)),_,dotP (46::(c::r++U)),expP (zQ (46::(c::r++U))).1⟩:NumP)=_;rw[v,u,y];rfl
 rw[z];unfold NumP.val;show(((thoV ([]++(c::r)) (3+0 - ((c::r:Str).length:Int))):Nat):Int)=_;unfold thoV;rw[Kc,Ha (by omega),show(3+0 - ((c::r:Str).length:Int)).toNat=3 - (c::r:Str).length by omega];have A:valG 0 (c::r)<=1000:=by have:=Cf (valG 0 (c::r)) (Bh (n:=3 - (c::r:Str).length) (show 0<10 by omega));omega
 rw[capG _ _ _ (by unfold Di;omega),sW _ _ (by omega),k3]
theorem uX{m:Nat}(h:m=0):Lib.decDigits m=[48]:=by subst h;decide+c
theorem BC{t:zb}{U:Str}(c:U=[]/\t.kind=10\/U=[37]\/ ∃u,u≠[]/\Zn u=true/\U=ng u):past digB U=U/\expS U=none/\(U=[]\/U=[37]\/(nmS U=true/\(zm U).2=[])):=by
 rcases c with⟨rfl,_⟩|rfl|⟨u,h0,h,rfl⟩
 ·exact⟨rfl,rfl, .inl rfl⟩
 ·exact⟨rfl,rfl, .inr (.inl rfl)⟩
 ·have hn:=YG h0 h;have e1:=(BH hn []).1;have e2:=kT h0 h (x:=[]) (.inl rfl);have e3:=KJ h0 h [];rw[Ab]at e1 e2 e3;exact⟨e1,e2, .inr (.inr ⟨hn,by rw[e3,qN]⟩)⟩
theorem IG(n:Int)(p:Bool)(U:Str):past digB (unsign (numT n p++U))=past digB (dotS (if(partT (n.natAbs%1000) p).isEmpty then none else some (partT (n.natAbs%1000) p))++U):=q2_T n p U
theorem JH{n:Int}{p:Bool}(U:Str)(hp:(partT (n.natAbs%1000) p).isEmpty=true):past digB (unsign (numT n p++U))=past digB U:=by rw[IG,hp];rfl
theorem GH{n:Int}{p:Bool}(U:Str)(hp:(partT (n.natAbs%1000) p).isEmpty=false):past digB (unsign (numT n p++U))=46::(partT (n.natAbs%1000) p++U):=by rw[IG,hp];rfl
theorem zDB(z:Str):expS (46::z)=none:=rfl
theorem WW(z:Str):nmS (46::z)=false:=rfl
theorem TY{s r:Str}{P:List zb}(h:PcT s P)(y:digB (atS s 0)=true)(hr:r=past digB s)(hn:nmS r=false)(z:(atS r 0==37)=false)(i:qj r=P):ShS s r:=by
 have j:unsign s=s:=by unfold unsign Ug;rw[Ga.2 (QV y).1,Ga.2 (QV y).2.1];rfl
 obtain⟨n,p,U,t,rfl,rfl,m,O⟩:=XF h (by rw[j];exact y);obtain⟨L,V,W⟩:=BC O;rw[<-j,IG]at hr;cases hp:(partT (n.natAbs%1000) p).isEmpty with
 |true=>
  rw[hp]at hr;have d:r=U:=by rw[hr];exact L
  subst d;rcases W with rfl|rfl|⟨hu,_⟩
  ·rw[QE (Z4 rfl)]at i;cases i
  ·cases z
  ·rw[hu]at hn;cases hn
 |false=>
  rw[hp]at hr;have d:r=46::(partT (n.natAbs%1000) p++U):=by rw[hr];rfl
  have hv:=gY hp L V;obtain⟨c,q,v⟩:=Jj (show partT (n.natAbs%1000) p≠[] by intro e;rw[e]at hp;cases hp);have f:=TH (n:=n) (p:=p);have hc:digB c=true:=by rw[v,Pd,Da]at f;exact f.1
  have A:cmtS r=46::(partT (n.natAbs%1000) p++U):=by rw[d];exact Z4 rfl
  rw[QJ A]at i;injection i with i _;have B:Zq (46::(partT (n.natAbs%1000) p++U))=zA (46::(partT (n.natAbs%1000) p++U)):=by
   have J:nbS (46::(partT (n.natAbs%1000) p++U))=true:=by rw[v];exact hc
   rw[bu,Ha (by decide),Ha (by decide),show((46:UInt8)==35)=false from rfl,Sc,Ha (by decide),J,La rfl]
  have u: ∀q:Str,(zA q).1.num=(numP q).val:=by
   intro q;unfold zA;split
   ·rfl
   ·split<;>rfl
  rw[B]at i;have h1:=u (46::(partT (n.natAbs%1000) p++U));rw[i,hv,m]at h1;have Y:n.natAbs / 1000=0:=by omega
  have Z:numT n p++U=48::46::c::(q++U):=by rw[Yw,hp,uX Y,v];unfold sgT;rw[Ha (by omega)];rfl
  right;exact⟨c,q++U,hc,Z,by rw[d,v];rfl⟩
theorem sQ: ∀(y r:Str),y.all letB=true->zm (y++r)=(y++(zm r).1,(zm r).2)
 |[],r,_=>rfl
 |c::y,r,h=>by rw[Pd,Da]at h;rw[ja,zH,La h.1,sQ y r h.2];rfl
theorem zBZ{l:Str}(h:l.all digB=true):l.all letB=true:=by rw[Xa]at h ⊢;intro b hb;unfold letB;rw[h b hb,Jf];rfl
theorem UY{s r:Str}{P:List zb}(h:PcT s P)(U:atS s 0=101\/atS s 0=69)(hd:digB (atS (unsign (s.drop 1)) 0)=true)(hr:r=past digB (unsign (s.drop 1)))(m:qj r=P):False:=by
 obtain⟨l,t,z,hl,rfl,hk,ht,rfl,V⟩:=zD5 h U;obtain⟨c,q,e⟩:=Jj (Nk h);have W:zm z=([],z):=by rcases V with rfl|rfl;exact qN;exact vH []
 have f:zm (qm l++z)=(l,z):=by rw[Eo z hl,W,Ab]
 rw[e]at U hd hr f;rw[show(c::q).drop 1=q from rfl]at hd hr;have hc:letB c=true:=by rcases U with h|h<;>(rw[show c=_ from h];rfl)
 -- the sign is a dash, or none
 have Y:(sgOf q).all letB=true:=by
  unfold sgOf;cases p:Ug (atS q 0)with
  |false=>rfl
  |true=>
   rw[La rfl];unfold Ug at p;rw[Ld,Ib,Ib]at p;rcases p with p|p
   ·exfalso;cases q with
    |nil=>cases p
    |cons d q'=>
     rw[show d=43 from p,zH,La hc,zH,Ha (by decide),Ha (by unfold escS;rw[show atS (43::q') 0=43 from rfl];simp)]at f;injection f with _ h2;rcases V with rfl|rfl
     ·cases h2
     ·injection h2 with h3 _;cases h3
   ·rw[p];rfl
 have j:c::q=(c::(sgOf q++(unsign q).takeWhile digB))++r:=by rw[hr,ja,Na,Ny,VF]
 have B:(c::(sgOf q++(unsign q).takeWhile digB)).all letB=true:=by rw[Pd,hc,Fg,Y,zBZ (Gx digB _)];rfl
 rw[j,sQ _ _ B]at f;injection f with J y;have L:cmtS r=r:=by
  refine Z4 ?_;cases r with
  |nil=>rfl
  |cons d u=>
   refine Bw (Ga.2 ?_);rintro rfl;rw[zH,Ha (by decide),Ha (by unfold escS;rw[show atS (47::u) 0=47 from rfl];simp)]at y;rcases V with rfl|rfl
   ·cases y
   ·injection y with h3 _;cases h3
 cases r with
 |nil=>rw[QE L]at m;cases m
 |cons d u=>
  rw[QJ L]at m;injection m with m _;have A:=Xn d u;rw[m]at A;have v:brS d u=7:=by rcases hk with hk|hk<;>(rw[hk]at A;exact A.symm)
  have hx:t.text=(zm (d::u)).1:=by
   rw[<-m,qo,v,Tj];have i:(qD (d::u)).1.kind=1\/(qD (d::u)).1.kind=2:=by
    have:(qD (d::u)).1=t:=by rw[<-m,qo,v,Tj]
    rw[O];exact hk
   unfold qD at i ⊢;split
   ·rename_i Z;rw[La Z]at i;split
    ·rename_i h2;rw[La h2]at i;rcases WH (urlS (past spB ((zm (d::u)).2.drop 1))).1 with hh|hh<;>rcases i with i|i<;>rw[show(Wj (urlS (past spB ((zm (d::u)).2.drop 1))).1).kind=_ from i]at hh<;>cases hh
    ·rfl
   ·rfl
  rw[<-hx,ht]at J;have:=congrArg List.length J;rw[Ba,Ea]at O;omega
theorem A8{z r:Str}(h:zQ z=(r,true)):r=z:=by
 unfold zQ at h;split at h
 ·cases congrArg Prod.snd h
 ·exact(congrArg Prod.fst h).symm
theorem GY{z r:Str}(h:(match expS (zQ z).1 with|some r=>(r,false)|none=>zQ z)=(r,true)):r=z:=by
 cases c:expS (zQ z).1 with
 |some y=>rw[c]at h;cases congrArg Prod.snd h
 |none=>rw[c]at h;exact A8 h
theorem zBO{z r:Str}{b:Bool}(h:(match expS z with|some r=>(r,false)|none=>(z,false))=(r,b)):r=z\/expS z=some r:=by
 cases c:expS z with
 |some y=>rw[c]at h;right;exact congrArg some (congrArg Prod.fst h)
 |none=>rw[c]at h;left;exact(congrArg Prod.fst h).symm
theorem iQ{t:zb}{s r:Str}{P:List zb}(ht:zgg t)(h:PcT s P)(hr:PW t s r)(A:qj r=P):ShS s r:=by
 have hP:P≠[]:=by cases h<;>simp
 have p:r≠[]:=by rintro rfl;rw[QE (Z4 rfl)]at A;exact hP A.symm
 have u:digB (atS s 0)=false->past digB s=s:=by
  intro i;cases s with
  |nil=>rfl
  |cons c q=>rw[past,show digB c=false from i];rfl
 rcases hr with hr|⟨_,hr⟩|⟨hk,he,hn,B⟩|⟨_,sg,J,i,hn,hr⟩
 ·exact .inl hr
 ·cases z:spB (atS s 0)with
  |true=> rw[zEL h z]at hr;exact absurd hr p
  |false=>
   left;rw[hr];cases s with
   |nil=>rfl
   |cons c q=>rw[past,show spB c=false from z];rfl
 ·cases ht with
  |cNum n f h1 h2 hf=>
   have j:zC (numT n (!f)++s)=(r,f):=he;have d:r=past digB s\/expS (past digB s)=some r:=by
    cases hp:(partT (n.natAbs%1000) (!f)).isEmpty with
    |true=> left;rw[eG hp]at j;rw[aI hf]at hp;subst hp;exact GY j
    |false=> rw[NG hp]at j;exact zBO j
   cases i:digB (atS s 0)with
   |true=>
    rcases d with hr|v
    ·exact TY h i hr hn B A
    ·exfalso;have m:unsign s=s:=by unfold unsign Ug;rw[Ga.2 (QV i).1,Ga.2 (QV i).2.1];rfl
     obtain⟨L,p2,U,t2,rfl,rfl,_,O⟩:=XF h (by rw[m];exact i);obtain⟨V,u2,_⟩:=BC O;rw[<-m]at v;cases hp:(partT (L.natAbs%1000) p2).isEmpty with
     |true=>rw[JH U hp,V,u2]at v;cases v
     |false=>rw[GH U hp,zDB]at v;cases v
   |false=>
    rw[u i]at d;rcases d with hr|v
    ·exact .inl hr
    ·obtain⟨h1,h2,h3⟩:=xO v;exact(UY h h1 h2 h3 A).elim
  |cId|cFn|cAt|cHash|cStr|cUrl|cDel|cPct|cDim=>simp at hk
  |cMark k h1 h2=>have a3:k=10:=hk;omega
 ·exfalso;have W:digB (atS (unsign s) 0)=true/\past digB (unsign (sg++s))=past digB (unsign s):=by
   rcases J with rfl|rfl
   ·exact⟨i,rfl⟩
   ·have y:digB (atS s 0)=true:=i;have m:unsign s=s:=by unfold unsign Ug;rw[Ga.2 (QV y).1,Ga.2 (QV y).2.1];rfl
    rw[m];exact⟨y,rfl⟩
  obtain⟨Y,Z⟩:=W;rw[Z]at hn hr;obtain⟨L,p2,U,t2,rfl,rfl,_,O⟩:=XF h Y;obtain⟨V,_,u3⟩:=BC O;cases hp:(partT (L.natAbs%1000) p2).isEmpty with
  |true=>
   rw[JH U hp,V]at hn hr;rcases u3 with rfl|rfl|⟨_,hu⟩
   ·cases hn
   ·cases hn
   ·rw[hu]at hr;exact p hr
  |false=>rw[GH U hp,WW]at hn;cases hn
abbrev cmtW:Str:=[47,42,42,47]
theorem GG{s:Str}{P:List zb}(h:PcT s P)(x:Str)(i:atS x 0≠42):([47,42]:Str).isPrefixOf (s++x)=false:=by
 obtain⟨c,r,rfl⟩:=Jj (Nk h);by_cases hc:c=47
 ·have:=YB h (.inl rfl) hc;rw[f];cases x with
  |nil=>rfl
  |cons d t=> show((47==(47:UInt8))&&((42==d)&&_))=false;have:((42:UInt8)==d)=false:=Ga.2 (fun e=>i e.symm);rw[f,Sc,Ve]
 ·exact Bw (Ga.2 hc)
theorem rA{s:Str}{P:List zb}(h:PcT s P):cmtS s=s:=by
 refine Z4 ?_;have:=GG h [] (by decide)
 rwa [Ab]at c
theorem MG(x:Str):Zq (92::10::x)=(⟨9,[92],0,[],false⟩,10::x):=rfl
theorem P8{l:Str}(h0:l≠[])(h:Zn l=true)(hl:lowS l=[117,114,108])(b:Bool)(w:Str):
  Zq (qm l++40::((if b then [32]else [])++34::w))=(⟨2,l,0,[],false⟩,(if b then [32]else [])++34::w):=by
 have hn:=XA h0 ((if b then [32]else [])++34::w);have d:=nM h ((if b then [32]else [])++34::w);obtain⟨c,r,e⟩:=Jj (jl hn);rw[e]at hn d ⊢;rw[qo,uB hn (by rw[d];intro t e;injection e with e _;cases e),Tj];unfold qD;rw[d];simp only;have hp:atS (past spB ((40::((if b then [32]else [])++34::w)).drop 1)) 0=34:=by cases b<;>rfl
 rw[La (by rfl),hl,hp,Ha (by decide)];rfl
theorem FX{l:Str}(h:lowS l=[117,114,108]):l≠[]:=by rintro rfl;cases h
theorem zAR(l m x:Str)(b:Bool):(qm l++40::((if b then [32]else [])++34::(encB quoB m++[34])))++x=qm l++40::((if b then [32]else [])++34::((encB quoB m++[34])++x)):=by rw[Na,ja,Na];rfl
theorem aM{l m:Str}{b:Bool}(h:Zn l=true)(hl:lowS l=[117,114,108])(hm:Zn m=true)(x:Str):
  run ((qm l++40::((if b then [32]else [])++34::(encB quoB m++[34])))++x) (⟨2,l,0,[],false⟩::((if b then [tkSp]else [])++[⟨5,m,0,[],false⟩])) x:=by
 rw[zAR];have hf:=P8 (FX hl) h hl b ((encB quoB m++[34])++x);have hn:=XA (FX hl) ((if b then [32]else [])++34::((encB quoB m++[34])++x));have f: ∀q:Str,q=34::((encB quoB m++[34])++x)->run q [⟨5,m,0,[],false⟩] x:=by rintro q rfl;have:=fH hm x;rw[ja]at d;exact⟨34,_,Z4 rfl,by rw[d],by rw[d];rfl⟩
 obtain⟨c,r,e⟩:=Jj (jl hn);rw[e]at hf hn ⊢;have hc:c≠47:=by rintro rfl;exact absurd (show hdB 47=true from gq hn) (by decide)
 refine⟨c,r,Z4 (Bw (Ga.2 hc)),by rw[hf],?_⟩;rw[hf];cases b with
 |false=>exact f _ rfl
 |true=> exact⟨32,34::((encB quoB m++[34])++x),Z4 rfl,rfl,f _ rfl⟩
theorem AX{s:Str}{P:List zb}(h:PcT s P){x:Str}(d:neu x):run (s++x) P x:=by
 cases h with
 |one t h hb hu=>
  have hn:=zBN h hb hu d;have hp:=GG (.one t h hb hu) x (by rcases d with rfl|⟨y,rfl⟩;exact(show(0:UInt8)≠42 by decide);exact(show(47:UInt8)≠42 by decide));obtain⟨c,r,e⟩:=Jj (Nk (.one t h hb hu));rw[e]at hn hp ⊢;exact⟨c,r++x,Z4 hp,by rw[show c::(r++x)=(c::r)++x from rfl,hn],by rw[show c::(r++x)=(c::r)++x from rfl,hn];rfl⟩
 |back=> refine⟨92,10::x,Z4 rfl,by rw[MG],?_⟩;rw[MG];refine⟨10,x,Z4 rfl,rfl,?_⟩;show past spB x=x;exact FO rfl d
 |url l m b h hl hm=>exact aM h hl hm x
theorem zCK{u s r:Str}{p P:List zb}(hu:PcT u p)(j:PcT s P)(hr:run (u++s) p r)(z:qj r=P):ShS s r:=by
 cases hu with
 |one t h hb hu=>
  obtain⟨c,q,h1,h2,h3⟩:=hr;have i:PcT (txS t) [t]:= .one t h hb hu;rw[run]at h3;cases hp:([47,42]:Str).isPrefixOf (txS t++s)with
  |true=>
   exfalso;obtain⟨c0,r0,e⟩:=Jj (Nk i);by_cases hc:c0=47
   ·have e2:=YB i (.inl rfl) (by rw[e];exact hc);rw[e2]at hp h1;have v:atS s 0=42:=by
     cases s with
     |nil=>cases hp
     |cons d B=>
      have:((42:UInt8)==d)=true:=by have h':((47==(47:UInt8))&&((42==d)&&true))=true:=hp;simpa using h'
      exact(Ib.1 f).symm
    rw[YB j (.inr rfl) v]at h1;have:cmtS ([47]++[42])=[]:=by rw[Ak];rfl
    rw[f]at h1;cases h1
   ·rw[e,ja,Bw (Ga.2 hc)]at hp;cases hp
  |false=> rw[Z4 hp]at h1;rw[<-h1]at h2 h3;have:=HY h hu h2;rw[h3]at f;exact iQ h j f z
 |back=> obtain⟨c,q,h1,h2,h3⟩:=hr;rw[show cmtS ([92,10]++s)=92::10::s from Z4 rfl]at h1;injection h1 with e1 e2;subst e1 e2;rw[MG]at h3;obtain⟨J,L,g1,O,A⟩:=h3;rw[show cmtS (10::s)=10::s from Z4 rfl]at g1;injection g1 with e1 e2;subst e1 e2;rw[run]at A;have y:past spB s=r:=A;exact iQ (t:=tkSp) (.cMark 13 (by omega) (by omega)) j (.inr (.inl ⟨rfl,y.symm⟩)) z
 |url l m b h hl hm=>exact .inl (MM hr (aM h hl hm s))
def Lk(R A:Str):Prop:=cmtS R=A\/ ∃d y,digB d=true/\A=48::46::d::y/\cmtS R=46::d::y
theorem ML{R A:Str}(h:Lk R A)(c:A≠[]):cmtS R≠[]:=by
 rcases h with h|⟨d,y,_,_,h⟩
 ·rw[h];exact c
 ·rw[h];simp
theorem IX{R A x:Str}(h:Lk R A)(c:A≠[])(hp:([47,42]:Str).isPrefixOf (A++x)=false):Lk (R++x) (A++x):=by
 rcases h with h|⟨d,y,f,rfl,h⟩
 ·left;rw[Fy (by rw[h];exact c) (by rw[h];exact hp),h]
 ·right;exact⟨d,y++x,f,rfl,by rw[Fy (by rw[h];simp) (by rw[h];rfl),h];rfl⟩
theorem GX{R A:Str}(h:Lk R A)(hp:([47,42]:Str).isPrefixOf A=false){t:zb}{ts:List zb}{r:Str}:run R (t::ts) r↔run A (t::ts) r:=by
 rcases h with h|⟨d,y,f,rfl,h⟩
 ·rw[<-NM (q:=R) (by simp),h]
 ·rw[<-NM (q:=R) (by simp),h];constructor
  ·rintro⟨c,q,h1,h2,h3⟩;rw[Z4 rfl]at h1;rw[<-h1]at h2 h3;exact⟨48,46::d::y,Z4 rfl,by rw[vD d y f];exact h2,by rw[vD d y f];exact h3⟩
  ·rintro⟨c,q,h1,h2,h3⟩;rw[Z4 rfl]at h1;rw[<-h1,vD d y f]at h2 h3;exact⟨46,d::y,Z4 rfl,h2,h3⟩
theorem pM{R A:Str}(h:Lk R A):qj R=qj A:=by
 rcases h with h|⟨d,y,c,rfl,h⟩
 ·rw[<-OC R,h]
 ·rw[<-OC R,h,QJ (Z4 rfl),QJ (l:=48::46::d::y) (Z4 rfl),vD d y c]
inductive Syn:Str->List zb->List (List zb×Str)->Prop
 |nil:Syn [] [] []
 |cmt (b s:Str) (ts P:List zb) (st:List (List zb×Str)) (h:Syn b ts st) (hb:b≠[]) (hp:PcT s P):Syn (b++cmtW++s) (ts++P) (st++[(ts,b++cmtW)])
 |no (b s:Str) (ts P:List zb) (st:List (List zb×Str)) (h:Syn b ts st) (hp:PcT s P) (ht:qj (b++s)=ts++P):Syn (b++s) (ts++P) (st++[(ts,b)])
def Bd(b:Str)(ts L:List zb)(B:Str)(m:Nat):Prop:= ∃A R us,b=B++A/\A≠[]/\ts=L++us/\us≠[]/\run b L R/\Lk R A/\m<=R.length/\m<=A.length
structure zDm (b:Str) (ts:List zb) (st:List (List zb×Str)):Prop where
 tok:qj b=ts
 bd: ∀k (h:k<st.length),Bd b ts st[k].1 st[k].2 (st.length - k)
 last:(st=[]/\b=[]/\ts=[])\/ ∃L B u p R,PcT u p/\b=B++u/\ts=L++p/\run b L R/\Lk R u
theorem pc_P{s:Str}{P:List zb}(h:PcT s P): ∃t us,P=t::us:=by cases h<;>exact⟨_,_,rfl⟩
theorem YX {b x:Str} {ts P L:List zb} {B:Str} {m:Nat} (h:Bd b ts L B m) (i:x≠[])
  (c: ∀R,R≠[]->run b L R->(∃A,A≠[]/\Lk R A/\b=B++A)->run (b++x) L (R++x)/\(∀A,A≠[]->Lk R A->b=B++A->Lk (R++x) (A++x))):Bd (b++x) (ts++P) L B (m+1):=by
 obtain⟨A,R,us,h1,h2,h3,h4,j,f,u,v⟩:=h;have p:R≠[]:=by intro e;have:=ML f h2;rw[e]at d;exact d (Z4 rfl)
 obtain⟨g1,r⟩:=c R p j ⟨A,h2,f,h1⟩;refine⟨A++x,R++x,us++P,by rw[h1,Na],by simp[h2],by rw[h3,Na],by simp[h4],g1,r A h2 f h1,?_⟩;have:=Xe.2 i;rw[Ba,Ba];omega
theorem UX{q:Str}(h:cmtS q=[47]):cmtS (q++[42])=[]:=by
 rw[Ak q]at h;cases hp:([47,42]:Str).isPrefixOf q with
 |true=>
  have hl:=Vn hp;rw[show([47,42]:Str).length=2 from rfl]at hl;rw[hp,La rfl]at h;cases hc:clsS (q.drop 2)with
  |none=>rw[hc]at h;cases h
  |some p=>
   rw[hc]at h;have h2:p.length<q.length:=by have h2:=(Cm _ hc).2;rw[Ob]at h2;omega
   rw[Ak,Du [42] (by exact hl),hp,La rfl,Cq hl,jG [42] hc];exact UX h
 |false=> rw[hp,Ha (by decide)]at h;subst h;rw[Ak];rfl
termination_by q.length
theorem zCS{q s:Str}{P us:List zb}(W:PcT s P)(h:UW q s us)(B:us≠[]):False:=by
 obtain⟨c,r,_,⟨⟨e,fl,J,m⟩,Y,hk,i⟩,f,j⟩:=h;have p:=Xn c (r++s);rw[f,hk]at p;have u:brS c (r++s)=3:=p.symm;have v:Zq (c::(r++s))=zA ((c::r)++s):=by rw[qo,u,Kk];rfl
 have L:Jg (c::r)≠[]:=by intro e2;rw[e2]at m;cases congrArg Prod.fst m
 have e2:Jg ((c::r)++s)=Jg (c::r)++s:=by unfold Jg;rw[(Jo s (by simp)).1];exact Em s L
 have O:=(BQ (q:=Jg (c::r)) (x:=s) (by rw[m];simp) (fun e3=>by
  rw[e3]at m;have:=congrArg Prod.fst m;cases V)).1
 have y:expS ([e,43]++s)=some (past digB s):=by
  unfold expS;have h1:(atS ([e,43]++s) 0==101||atS ([e,43]++s) 0==69)=true:=by rcases J with rfl|rfl<;>rfl
  have h2:unsign (([e,43]++s).drop 1)=s:=rfl;rw[h1,La rfl,h2,i,La rfl]
 have z:zC ((c::r)++s)=(past digB s,false):=by rw[QH,e2,O,m];simp only[y]
 have d:(zA ((c::r)++s)).1.kind=12:=by rw[<-v,f,hk]
 rw[v]at j;unfold zA at d j;rw[z]at d j;simp only at d j;have A:unsign s=s:=by unfold unsign Ug;rw[Ga.2 (QV i).1,Ga.2 (QV i).2.1];rfl
 cases hn:nmS (past digB s)with
 |false=>
  rw[hn,Ha (by decide)]at d;split at d<;>cases d
 |true=>
  rw[hn,La rfl]at j;obtain⟨Z,p2,U,t2,_,rfl,_,hU⟩:=XF W (by rw[A];exact i);obtain⟨u1,_,u3⟩:=BC hU;rw[<-A]at hn j;cases hp:(partT (Z.natAbs%1000) p2).isEmpty with
  |true=>
   rw[JH U hp,u1]at hn j;rcases u3 with rfl|rfl|⟨_,hu⟩
   ·cases hn
   ·cases hn
   ·rw[hu,QE (Z4 rfl)]at j;exact B j.symm
  |false=>rw[GH U hp,WW]at hn;cases hn
theorem YW{R A:Str}(h:Lk R A)(c:A≠[])(y:Str):Lk (R++47::42::y) (A++47::42::y):=by
 rcases h with h|⟨d,z,f,rfl,h⟩
 ·left;rw[KG y (by rw[h];exact c),h]
 ·right;exact⟨d,z++47::42::y,f,rfl,by rw[KG y (by rw[h];simp),h];rfl⟩
theorem DY{s:Str}{P:List zb}(h:PcT s P):cmtS (47::42::42::47::s)=s:=by rw[Ak];exact rA h
theorem EH{s:Str}{P:List zb}(h:PcT s P):qj s=P:=by have:=Ju (AX h (x:=[]) (.inl rfl));rw[Ab,QE (Z4 rfl),Ab]at c;exact c
theorem V7{α:Type}{l a:List α}(h:l++a=l):a=[]:=by have:=congrArg List.length h;rw[Ba]at c;exact Ye.1 (by omega)
theorem tF{b:Str}{ts:List zb}{st:List (List zb×Str)}(h:Syn b ts st):zDm b ts st:=by
 induction h with
 |nil=>exact⟨QE (Z4 rfl),fun k h=>(by cases h), .inl ⟨rfl,rfl,rfl⟩⟩
 |cmt b s ts P st h hb hp ih=>
  obtain⟨ht,a3,hl⟩:=ih;have hx:b++cmtW++s=b++47::42::(42::47::s):=by rw[Na];rfl
  obtain⟨t0,a9,a5⟩:=pc_P hp;have j:run (b++47::42::(42::47::s)) ts (47::42::(42::47::s)):=by
   rcases hl with⟨_,e,_⟩|⟨L,B,u,p,R,g1,g2,g3,g4,g5⟩
   ·exact absurd e hb
   ·have W:R≠[]:=by intro e;have:=ML g5 (Nk g1);rw[e]at f;exact f (Z4 rfl)
    obtain⟨t1,ab,Z⟩:=pc_P g1;rw[g3];refine PH (kF (42::47::s) g4 W) ?_;have h1:=AX g1 (x:=47::42::(42::47::s)) (.inr ⟨_,rfl⟩);rw[Z]at h1 ⊢;exact(GX (YW g5 (Nk g1) (42::47::s)) (GG g1 _ (by show(47:UInt8)≠42;decide))).2 h1
  have v:Lk (47::42::(42::47::s)) s:= .inl (DY hp);rw[hx];refine⟨?_,?_, .inr ⟨ts,b++cmtW,s,P,_,hp,by rw[Na];rfl,rfl,j,v⟩⟩
  ·rw[Ju j,pM v,EH hp]
  ·intro k hk;rw[Ba,Cb]at hk;by_cases O:k<st.length
   ·rw[List.getElem_append_left O];have:=YX (P:=P) (x:=47::42::(42::47::s)) (a3 k O) (by simp) (fun R W Y _=>⟨kF _ Y W,fun A hA h6 _=>YW h6 hA _⟩);rw[show st.length - k+1=(st++[(ts,b++cmtW)]).length - k by rw[Ba,Cb];omega]at f;exact f
   ·have U:k=st.length:=by omega
    subst U;rw[List.getElem_append_right (by omega)];simp only[Vh,List.getElem_cons_zero];refine⟨s,_,P,by rw[Na];rfl,Nk hp,rfl,by rw[a5];simp,j,v,?_⟩;have:=Xe.2 (Nk hp);rw[Ba,Cb];simp only[Ea];omega
 |no b s ts P st h hp V ih=>
  obtain⟨ht,a3,hl⟩:=ih;obtain⟨t0,a9,a5⟩:=pc_P hp;have z:P≠[]:=by rw[a5];simp
  have m:=Nk hp
  -- what is ahead stays
  have keep: ∀(L us:List zb) (R:Str),ts=L++us->R≠[]->run b L R->run (b++s) L (R++s):=by
   intro L us R a6 W j;rcases sN (us:=us++P) j W m (by rw[V,a6,Na])with h1|⟨_,q,_,h1⟩
   ·exact h1
   ·exact(zCS hp h1 (by simp[z])).elim
  have J: ∀(L us:List zb) (R A:Str),ts=L++us->run (b++s) L (R++s)->A≠[]->Lk R A->Lk (R++s) (A++s):=by
   intro L us R A a6 j hA v;cases i:([47,42]:Str).isPrefixOf (A++s)with
   |false=>exact IX v hA i
   |true=>
    exfalso;rcases v with h1|⟨d,y,_,rfl,_⟩
    ·cases A with
     |nil=>exact hA rfl
     |cons c r=>
      cases r with
      |cons d t=>
       have:=Ey R;rw[h1,<-SH t s,i]at f;cases f
      |nil=>
       have hc:c=47:=by
        cases a7:(47:UInt8)==c with
        |true=>exact(Ib.1 a7).symm
        |false=>
         have:([47,42]:Str).isPrefixOf ([c]++s)=false:=by show(((47:UInt8)==c)&&_)=false;rw[a7];rfl
         rw[f]at i;cases i
       subst hc;have ad:s=[42]:=by
        refine YB hp (.inr rfl) ?_;cases s with
        |nil=>exact absurd rfl m
        |cons d t=>
         have h':(((47:UInt8)==47)&&(((42:UInt8)==d)&&true))=true:=i;have:((42:UInt8)==d)=true:=by simpa using h'
         exact(Ib.1 f).symm
       have h3:=Ju j;rw[V,a6,ad,QE (UX h1),Ab,Na]at h3;have:=V7 h3;exact z (List.append_eq_nil_iff.1 f).2
    ·cases i
  rcases hl with⟨e1,e2,e3⟩|⟨L,B,u,p,R,g1,g2,g3,g4,g5⟩
  ·subst e1 e2 e3;refine⟨V,?_, .inr ⟨[],[],s,P,s,hp,rfl,rfl,rfl, .inl (rA hp)⟩⟩;intro k hk;have U:k=0:=by rw[Ba,Cb,Lc]at hk;omega
   subst U;exact⟨s,s,P,rfl,m,rfl,z,rfl, .inl (rA hp),Xe.2 m,Xe.2 m⟩
  ·have W:R≠[]:=by intro e;have:=ML g5 (Nk g1);rw[e]at f;exact f (Z4 rfl)
   have h1:=keep L p R g3 W g4;have h2:=J L p R u g3 h1 (Nk g1) g5;have h3:=Ju h1;rw[V,g3,Na]at h3;have h4:=List.append_cancel_left h3;obtain⟨r,Y,h6⟩:=iN h4.symm;have a8:ShS s r:=by
    obtain⟨t1,ab,Z⟩:=pc_P g1;refine zCK g1 hp ?_ h6;have i:([47,42]:Str).isPrefixOf (u++s)=false\/cmtS (R++s)=[]:=by
     rcases h2 with h2|⟨d,y,hd,h2,_⟩
     ·left;rw[<-h2];exact Ey _
     ·left;rw[h2];rfl
    rcases i with i|i
    ·rw[Z]at Y ⊢;exact(GX h2 i).1 Y
    ·rw[Z]at Y;obtain⟨c,q,e,_⟩:=Y;rw[i]at e;cases e
   have j:run (b++s) ts r:=by rw[g3];exact PH h1 Y
   have v:Lk r s:=by
    rcases a8 with rfl|⟨d,y,hd,e1,e2⟩
    ·exact .inl (rA hp)
    ·right;exact⟨d,y,hd,e1,by rw[e2];exact Z4 rfl⟩
   have al:1<=r.length:=by
    rcases a8 with rfl|⟨d,y,_,_,e2⟩
    ·exact Xe.2 m
    ·rw[e2];simp
   refine⟨V,?_, .inr ⟨ts,b,s,P,r,hp,rfl,rfl,j,v⟩⟩;intro k hk;rw[Ba,Cb]at hk;by_cases O:k<st.length
   ·rw[List.getElem_append_left O];obtain⟨A0,R0,us,f1,f2,f3,f4,f5,f6,f7,f8⟩:=a3 k O;have:=YX (P:=P) (x:=s) ⟨A0,R0,us,f1,f2,f3,f4,f5,f6,f7,f8⟩ m (fun R W Y _=>⟨keep _ us R f3 W Y,fun A hA h6 _=>J _ us R A f3 (keep _ us R f3 W Y) hA h6⟩);rw[show st.length - k+1=(st++[(ts,b)]).length - k by rw[Ba,Cb];omega]at f;exact f
   ·have U:k=st.length:=by omega
    subst U;rw[List.getElem_append_right (by omega)];simp only[Vh,List.getElem_cons_zero];refine⟨s,r,P,rfl,m,rfl,z,j,v,?_⟩;have:=Xe.2 m;rw[Ba,Cb];omega
def pcN:List zb->Nat
 |[]=>0
 |t::r=>if t.kind==9&&t.text==[92]then 2 else if Ph t then(if Bj r then 3 else 2)else 1
def catT:List zb->Str
 |[]=>[]
 |t::r=>txS t++catT r
def pcS:List zb->Str
 |[]=>[]
 |t::r=>if t.kind==9&&t.text==[92]then [92,10]else catT (t::r)
theorem XN{t:zb}(h:ug t=true)(hk:(t.kind==13)=true):t=tkSp:=by
 rw[Ib]at hk;cases Jr h with
 |cId|cFn|cAt|cHash|cStr|cUrl|cDel|cNum|cPct|cDim=>simp at hk
 |cMark k h1 h2=>have c:k=13:=hk;rw[c]
theorem MX{t:zb}(h:ug t=true)(hk:(t.kind==5)=true): ∃m,Zn m=true/\t=⟨5,m,0,[],false⟩:=by
 rw[Ib]at hk;cases Jr h with
 |cStr l h'=>exact⟨l,h',rfl⟩
 |cId|cFn|cAt|cHash|cUrl|cDel|cNum|cPct|cDim=>simp at hk
 |cMark k h1 h2=>have c:k=5:=hk;omega
theorem zDE{t:zb}(h:ug t=true)(hk:(t.kind==9&&t.text==[92])=true):t=⟨9,[92],0,[],false⟩:=by
 rw[Da,Ib,Ib]at hk;cases Jr h with
 |cDel c h=>have:=hk.2;rw[show c=92 by injection d]
 |cId|cFn|cAt|cHash|cStr|cUrl|cNum|cPct|cDim=>simp at hk
 |cMark k h1 h2=>have f:k=9:=hk.1;omega
theorem kY{t:zb}(h:ug t=true)(hk:Ph t=true): ∃l,Zn l=true/\lowS l=[117,114,108]/\t=⟨2,l,0,[],false⟩:=by
 unfold Ph at hk;rw[Da,Ib,Ib]at hk;cases Jr h with
 |cFn l h0 h'=>exact⟨l,h',hk.2,rfl⟩
 |cId|cAt|cHash|cStr|cUrl|cDel|cNum|cPct|cDim=>simp at hk
 |cMark k h1 h2=>have c:k=2:=hk.1;omega
theorem zEH{t:zb}(h:(t.kind==9&&t.text==[92])=false): ¬(t.kind=9/\t.text=[92]):=by rintro⟨h1,h2⟩;rw[h1,h2]at h;exact absurd h (by decide)
theorem Oy(t:zb)(r:List zb):pcN (t::r)=if t.kind==9&&t.text==[92]then 2 else if Ph t then(if Bj r then 3 else 2)else 1:=rfl
theorem nQ(t:zb)(r:List zb):okAt (t::r)=((!(t.kind==9&&t.text==[92])||Bj r)&&(!(Ph t)||Wl r)):=rfl
theorem sD(s:zb)(r:List zb):Wl (s::r)=(bif s.kind==13 then(match r with|u::_=>u.kind==5|[]=>false)else s.kind==5):=rfl
theorem zEK{t:zb}{r:List zb}(hf: ∀u∈t::r,ug u=true)(ho:okAt (t::r)=true): ∃P Q,t::r=P++Q/\P.length=pcN (t::r)/\PcT (pcS P) P:=by
 have f:=hf t (Jb ..);rw[nQ,Da]at ho;rw[Oy];cases i:t.kind==9&&t.text==[92]with
 |true=>
  rw[i,Nc,Vd]at ho;rw[La rfl];cases r with
  |nil=>cases ho.1
  |cons s r=> have j:=XN (hf s (by simp)) ho.1;have ht:=zDE f i;subst j ht;exact⟨[⟨9,[92],0,[],false⟩,tkSp],r,rfl,rfl, .back⟩
 |false=>
  rw[Ha (by decide)];cases hu:Ph t with
  |false=>
   rw[Ha (by decide)];have hp:pcS [t]=txS t:=by show(if(t.kind==9&&t.text==[92])=true then [92,10]else txS t++[])=_;rw[i,Ha (by decide),Ab]
   exact⟨[t],r,rfl,rfl,by rw[hp];exact .one t (Jr f) (zEH i) hu⟩
  |true=>
   rw[La rfl];rw[hu,Nc,Vd]at ho;obtain⟨l,h1,h2,rfl⟩:=kY f hu;have c:=ho.2;have d: ∀m:Str,txS ⟨5,m,0,[],false⟩++[]=34::(encB quoB m++[34]):=fun m=>by rw[Yo,Ab]
   cases r with
   |nil=>cases c
   |cons s r=>
    cases j:s.kind==13 with
    |false=>
     rw[sD,j,Ia]at c;obtain⟨m,hm,rfl⟩:=MX (hf s (by simp)) c;rw[show Bj (⟨5,m,0,[],false⟩::r)=false from rfl,Ha (by decide)];refine⟨[⟨2,l,0,[],false⟩,⟨5,m,0,[],false⟩],r,rfl,rfl,?_⟩;have hp:pcS [⟨2,l,0,[],false⟩,⟨5,m,0,[],false⟩]=qm l++40::((if false then [32]else [])++34::(encB quoB m++[34])):=by show txS ⟨2,l,0,[],false⟩++(txS ⟨5,m,0,[],false⟩++[])=_;rw[d,Wm,Na];rfl
     rw[hp];exact .url l m false h1 h2 hm
    |true=>
     have p:=XN (hf s (by simp)) j;subst p;cases r with
     |nil=>cases c
     |cons u r=>
      obtain⟨m,hm,rfl⟩:=MX (hf u (by simp)) c;rw[show Bj (tkSp::⟨5,m,0,[],false⟩::r)=true from rfl,La rfl];refine⟨[⟨2,l,0,[],false⟩,tkSp,⟨5,m,0,[],false⟩],r,rfl,rfl,?_⟩;have hp:pcS [⟨2,l,0,[],false⟩,tkSp,⟨5,m,0,[],false⟩]=qm l++40::((if true then [32]else [])++34::(encB quoB m++[34])):=by show txS ⟨2,l,0,[],false⟩++(txS tkSp++(txS ⟨5,m,0,[],false⟩++[]))=_;rw[d,Wm,show txS tkSp=[32]from rfl,Na];rfl
      rw[hp];exact .url l m true h1 h2 hm
theorem Y0{t:zb}{r:List zb}(h:t.text.length<=big)(ho:okAt (t::r)=true):QM (t::r)=some ((pcN (t::r):Nat):Int):=by
 have e0:geti (t::r) 0=some t:=rfl;have p1:=Eu (t::r) 1 13;have i:=Eu (t::r) 1 5;have d:=Eu (t::r) 2 5;unfold QM;simp only[e0,ze,Aa,kJ h (show([117,114,108]:Str).length<=big by decide),Xx,Rm];simp only[Int.natCast_one]at p1 i;replace d:ZK ((2,5),t::r)=_:=d;have m:ZK ((1,13),t::r)=some (Bj r):=by rw[p1];cases r<;>rfl
 rw[m];rw[nQ]at ho;unfold Ph at ho;rw[Oy];unfold Ph;cases c:(t.kind==9&&t.text==[92])with
 |true=>
  have hk:t.kind=9:=by rw[Da,Ib]at c;exact c.1
  have ht:(t.text==[92])=true:=by rw[Da]at c;exact c.2
  simp only[hk,ht,Int.reduceBEq,Ka,Ia,Aa];rw[c,Nc,Vd,Da]at ho;cases r with
  |nil=>cases ho.1
  |cons s r=> show(bif !(s.kind==13)then some 0 else some 2)=some 2;rw[show(s.kind==13)=true from ho.1];rfl
 |false=>
  have hc:(bif t.kind==9 then t.text==[92]else false)=false:=by
   cases v:t.kind==9
   ·rfl
   ·rw[v]at c;exact c
  simp only[hc,c,Ia,Ec,Hf,Vb];rw[c,Ec,Hf,Vb]at ho;cases hu:(t.kind==2&&lowS t.text==[117,114,108])with
  |false=>
   have:(bif t.kind==2 then bif t.kind==2 then lowS t.text==[117,114,108]else default else false)=false:=by
    cases h2:t.kind==2
    ·rfl
    ·rw[h2]at hu;exact hu
   rw[p];rfl
  |true=>
   rw[hu,Nc,Vd]at ho;rw[Da]at hu;rw[hu.1,hu.2];simp only[Ka,Aa];cases r with
   |nil=>cases ho
   |cons s r=>
    cases j:s.kind==13 with
    |false=>
     have e1:Bj (s::r)=false:=j;have e5:ZK ((1,5),t::s::r)=some (s.kind==5):=i;have f:(s.kind==5)=true:=by rw[sD,j]at ho;exact ho
     simp only[e1,Ia,zh,e5,Aa,f,Nc];rfl
    |true=>
     have e1:Bj (s::r)=true:=j;simp only[e1,Ka,zh,d,Aa];cases r with
     |nil=>rw[sD,j]at ho;cases ho
     |cons u r=>
      have f:(u.kind==5)=true:=by rw[sD,j]at ho;exact ho
      show(bif !(u.kind==5)then some 0 else some (w64 (2+1)))=some 3;rw[f];rfl
def clB(l:Str):Bool:=l.all fun c=> !(c==0||c==12||c==13)
theorem Qu(a b:Str):clB (a++b)=(clB a&&clB b):=by unfold clB;rw[Fg]
theorem kH: ∀l:Str,clB l=true->Proofs.Cl.cleanS l=l
 |[],_=>by rw[Proofs.Cl.cleanS]
 |c::r,h=>by
  unfold clB at h;rw[Pd,Da]at h;have e:=kH r h.2;have h':(c==0||c==12||c==13)=false:=by simpa using h.1
  rw[Ke,Ke]at h';obtain⟨⟨h0,f⟩,d⟩:=h';rw[Proofs.Cl.cleanS,h0,f,d,e]
  ·rfl
  ·rintro t rfl;exact absurd d (by decide)
theorem Pn(c:UInt8):clB (escC c)=true/\(letB c=true->clB [c]=true)/\(c≠0->quoB c=false->clB [c]=true)/\(c≠0->urB c=false->clB [c]=true)/\(Vi c.toNat=true->clB [c]=true)/\(digB c=true->clB [c]=true):=by
 have: ∀n:Nat,n<256->clB (escC (UInt8.ofNat n))=true/\(letB (UInt8.ofNat n)=true->clB [UInt8.ofNat n]=true)/\(UInt8.ofNat n≠0->quoB (UInt8.ofNat n)=false->clB [UInt8.ofNat n]=true)/\(UInt8.ofNat n≠0->urB (UInt8.ofNat n)=false->clB [UInt8.ofNat n]=true)/\(Vi (UInt8.ofNat n).toNat=true->clB [UInt8.ofNat n]=true)/\(digB (UInt8.ofNat n)=true->clB [UInt8.ofNat n]=true):=by decide+f
 have:=d c.toNat (Rb c)
 rwa [Gc]at d
theorem Nn(dash:Bool): ∀(k:Nat) (l:Str),clB (encW dash k l)=true
 |_,[]=>by rw[encW];rfl
 |k,c::r=>by
  obtain⟨h1,h2,_⟩:=Pn c;rw[encW,Qu,Nn dash (k - 1) r,Uc];unfold pcW;cases d:letB c&&(k==0|| !digB c)&& !dash with
  |true=> rw[Da,Da]at d;exact h2 d.1.1
  |false=>exact h1
theorem fB{p:UInt8->Bool}(hp: ∀c,c≠0->p c=false->clB [c]=true): ∀l:Str,Zn l=true->clB (encB p l)=true
 |[],_=>by rw[encB];rfl
 |c::r,h=>by
  obtain⟨h1,h2⟩:=QN h;rw[encB,Qu,fB hp r h2,Uc];cases hc:p c with
  |true=>exact(Pn c).1
  |false=>exact hp c h1 hc
theorem WX{l:Str}(h:l.all digB=true):clB l=true:=by
 induction l with
 |nil=>rfl
 |cons c r d=> rw[Pd,Da]at h;rw[show c::r=[c]++r from rfl,Qu,(Pn c).2.2.2.2.2 h.1,d h.2];rfl
theorem cl_T(n:Int)(p:Bool):clB (numT n p)=true:=by
 obtain⟨d1,_,_⟩:=yt (n.natAbs / 1000);have hp:=TH (n:=n) (p:=p);rw[Yw,Qu,Qu,WX d1];have h1:clB (sgT n)=true:=by unfold sgT;split<;>rfl
 rw[h1];cases (partT (n.natAbs%1000) p).isEmpty with
 |true=>rfl
 |false=> show clB (46::partT (n.natAbs%1000) p)=true;rw[show 46::partT (n.natAbs%1000) p=[46]++partT (n.natAbs%1000) p from rfl,Qu,WX hp];rfl
theorem zBR(w:Str):clB (ng w)=true:=by
 cases w with
 |nil=>rfl
 |cons c r=>
  rw[Wu];cases xk (c::r)with
  |true=>rw[Ka,Qu,(Pn c).1,Nn];rfl
  |false=>exact Nn _ _ _
theorem tL{s:Str}{P:List zb}(h:PcT s P):clB s=true:=by
 cases h with
 |one t h hb hu=>
  cases h with
  |cId l h0 h=>rw[xq];exact Nn _ _ _
  |cFn l h0 h=>rw[Wm,Qu];rw[show clB (qm l)=true from Nn _ _ _];rfl
  |cAt l h0 h=>rw[Ar,show 64::qm l=[64]++qm l from rfl,Qu,show clB (qm l)=true from Nn _ _ _];rfl
  |cHash l f h0 h i=>
   rw[Ot,show 35::Ei f l=[35]++Ei f l from rfl,Qu];have:clB (Ei f l)=true:=by cases f<;>exact Nn _ _ _
   rw[d];rfl
  |cStr l h=>rw[Yo,show 34::(encB quoB l++[34])=[34]++(encB quoB l++[34])from rfl,Qu,Qu,fB (fun c h0 hc=>(Pn c).2.2.1 h0 hc) l h];rfl
  |cUrl l h=>rw[Xr,Qu,Qu,fB (fun c h0 hc=>(Pn c).2.2.2.1 h0 hc) l h];rfl
  |cDel c h=>rw[mr];exact(Pn c).2.2.2.2.1 h
  |cNum n f h1 h2 hf=>rw[jr];exact cl_T _ _
  |cPct n h1 h2=>rw[Yr,Qu,cl_T];rfl
  |cDim n u f h1 h2 hf h0 h=>rw[kr,Qu,cl_T,zBR];rfl
  |cMark k h1 h2=> rw[Nt h1 h2];rcases Xt h1 h2 with rfl|rfl|rfl|rfl|rfl|rfl|rfl|rfl|rfl|rfl|rfl|rfl<;>rfl
 |back=>rfl
 |url l m b h hl hm=> rw[Qu,show clB (qm l)=true from Nn _ _ _,show∀z:Str,40::z=[40]++z from fun _=>rfl,Qu,Qu,show∀z:Str,34::z=[34]++z from fun _=>rfl,Qu,Qu,fB (fun c h0 hc=>(Pn c).2.2.1 h0 hc) m hm];cases b<;>rfl
theorem VX{b:Str}{ts:List zb}{st:List (List zb×Str)}(h:Syn b ts st):clB b=true:=by
 induction h with
 |nil=>rfl
 |cmt b s ts P st h hb hp c=>rw[Qu,Qu,c,tL hp];rfl
 |no b s ts P st h hp ht c=>rw[Qu,c,tL hp];rfl
def tokB(x y:zb):Bool:=x.kind==y.kind&&(x.text==y.text&&(x.num==y.num&&(x.unit==y.unit&&(x.flag==y.flag&&true))))
def Dh:List zb->List zb->Bool
 |[],[]=>true
 |x::l,y::m=>tokB x y&&Dh l m
 |_,_=>false
theorem I7(x y:zb)(l m:List zb):Dh (x::l) (y::m)=(tokB x y&&Dh l m):=rfl
theorem zAK{x y:zb}:tokB x y=true↔x=y:=by obtain⟨a,b,c,d,e⟩:=x;obtain⟨f,b',i,j,e'⟩:=y;unfold tokB;simp only[Da,Ib,Uc,zb.mk.injEq]
theorem Ao: ∀{l m:List zb},Dh l m=true↔l=m
 |[],[]=>by simp[Dh]
 |x::l,y::m=>by rw[Dh,Da,zAK,Ao,List.cons.injEq]
 |[],y::m=>by simp[Dh]
 |x::l,[]=>by simp[Dh]
theorem uP{l m:List zb}(h:l.length≠m.length):Dh l m=false:=by
 cases c:Dh l m with
 |false=>rfl
 |true=>rw[Ao.1 c]at h;exact absurd rfl h
theorem BZ {l m:List zb} (hl:l.length=m.length) (hn:l.length<=big) {step:Int->Option (LO Int Unit Bool)}
  (h1: ∀(i:Nat) (h:i<l.length),step (i:Int)=bif !(tokB l[i] (m[i]'(hl▸h)))then some (.ret false)else some (.again (w64 ((i:Int)+1))))
  (h2:step (l.length:Int)=some (.out ())):ZE step 0 (fun _=>some true)=some (Dh l m):=by
 have hb:big=4194304:=rfl;refine iD (fun s=> ∃i:Nat,i<=l.length/\s=(i:Int)/\Dh (l.drop i) (m.drop i)=Dh l m) (fun s=>l.length - s.toNat) _ ?_ ⟨0,by omega,rfl,rfl⟩;rintro _ ⟨i,hi,rfl,c⟩;rcases Yc i l.length with h|h
 ·rw[h1 i h];have hm:i<m.length:=hl▸h;rw[show l.drop i=l[i]::l.drop (i+1)from Yb h,show m.drop i=m[i]::m.drop (i+1)from Yb hm,I7]at c;cases ht:tokB l[i] (m[i]'(hl▸h))with
  |true=> rw[ht,Vb]at c;rw[Nc,Ia,Za (by omega) (by omega)];exact .inl ⟨_,rfl,⟨i+1,by omega,by omega,c⟩,by omega⟩
  |false=> rw[ht,Sc]at c;rw[Ec,Ka,<-c];exact .inr (.inr rfl)
 ·have:i=l.length:=by omega
  subst d;rw[Re (Va _),Re (by omega)]at c;exact .inr (.inl ⟨(),h2,by rw[<-c];rfl⟩)
theorem KX{α:Type}{l:List α}{i:Nat}(h:i<l.length):geti l (i:Int)=some l[i]:=QX h
theorem int_ne{n m:Nat}:(((n:Int) != (m:Int)):Bool)= !(n==m):=by
 unfold bne;congr 1;by_cases h:n=m
 ·subst h;simp
 ·rw[Ga.2 h,Ga];omega
theorem jX{l m:List zb}(hn:l.length<=big):Z9 (l,m)=some (Dh l m):=by
 unfold Z9;rw[int_ne];cases c:l.length==m.length with
 |false=>rw[Ec,Ka,uP (Ga.1 c)]
 |true=>
  rw[Nc,Ia];have hl:=Ib.1 c;refine BZ hl hn (fun i h=> ?_) ?_
  ·have hm:i<m.length:=hl▸h;have d1:decide ((i:Int)<(l.length:Int))=true:=Ja (by omega);simp only[d1,Ka,KX h,KX hm,ze,Aa];rfl
  ·simp only;rw[Db (by omega),Ia]
def wrF:Nat->List zb->Str->List zb->Str
 |0,_,b,_=>b
 |_+1,_,b,[]=>b
 |n+1,ts,b,t::r=>
  wrF n (ts++(t::r).take (pcN (t::r))) ((if Dh (qj (b++pcS ((t::r).take (pcN (t::r))))) (ts++(t::r).take (pcN (t::r)))then b else b++cmtW)++pcS ((t::r).take (pcN (t::r)))) ((t::r).drop (pcN (t::r)))
def wrS(l:List zb):Str:=wrF l.length [] [] l
theorem WM: ∀(n:Nat) (ts:List zb) (b:Str) (r:List zb),b.length<=(wrF n ts b r).length
 |0,_,_,_=>Va _
 |_+1,_,_,[]=>Va _
 |n+1,ts,b,t::r=>by
  rw[wrF];refine Sb ?_ (WM n _ _ _);split
  ·rw[Ba];omega
  ·rw[Ba,Ba];omega
def uo(l:List zb):Prop:=(∀t∈l,ug t=true/\t.text.length<=5000/\t.unit.length<=5000)/\ ∀k,k<l.length->okAt (l.drop k)=true
theorem xP{l:List zb}(h:uo l)(n:Nat):uo (l.drop n):=by refine⟨fun t ht=>h.1 t (List.mem_of_mem_drop ht),fun k hk=> ?_⟩;rw[Ob]at hk;rw[Vf];exact h.2 (n+k) (by omega)
theorem FH{t:zb}{r:List zb}:1<=pcN (t::r):=by
 rw[Oy];repeat' split
 all_goals omega
theorem zCJ{t:zb}{r:List zb}:pcN (t::r)<=3:=by
 rw[Oy];repeat' split
 all_goals omega
theorem PM{t:zb}{r:List zb}(h:uo (t::r)):pcN (t::r)<=(t::r).length/\PcT (pcS ((t::r).take (pcN (t::r)))) ((t::r).take (pcN (t::r))):=by
 obtain⟨P,Q,h1,h2,h3⟩:=zEK (fun u hu=>(h.1 u hu).1) (h.2 0 (by simp));have ht:(t::r).take (pcN (t::r))=P:=by rw[<-h2,h1,xh]
 rw[ht];refine⟨?_,h3⟩;rw[<-h2,h1,Ba];omega
theorem zEt{t:zb}(hf:ug t=true)(h1:t.text.length<=5000)(h2:t.unit.length<=5000):(txS t).length<=20100:=by
 have hn: ∀l:Str,l.length<=5000->(qm l).length<=20000:=fun l hl=>by have:=iy (l==[45]) (QW l) l;unfold qm;omega
 cases Jr hf with
 |cId l h0 h=>rw[xq];have:=hn l h1;omega
 |cFn l h0 h=>rw[Wm,Ba];have:=hn l h1;simp only[Cb];omega
 |cAt l h0 h=>rw[Ar,Ea];have:=hn l h1;omega
 |cHash l f h0 h j=>
  rw[Ot,Ea];have h3:=hn l h1;have h4:=iy false 0 l;have i:l.length<=5000:=h1;cases f with
  |true=>rw[show Ei true l=qm l from rfl];omega
  |false=>rw[show Ei false l=encW false 0 l from rfl];omega
 |cStr l h=>rw[Yo];have:=jy quoB l;have i:l.length<=5000:=h1;simp only[Ea,Ba,Lc];omega
 |cUrl l h=>rw[Xr];have:=jy urB l;have i:l.length<=5000:=h1;simp only[Ea,Ba,Lc];omega
 |cDel c h=>rw[mr];simp
 |cNum n f g1 d hf=>rw[jr];have:=(aA g1 d (!f)).1;omega
 |cPct n g1 d=>rw[Yr,Ba,Cb];have:=(aA g1 d false).1;omega
 |cDim n u f g1 d hf h0 h=>
  rw[kr,Ba];have:=(aA g1 d (!f)).1;have i:u.length<=5000:=h2;have hu:(ng u).length<=20004:=by
   cases u with
   |nil=>exact Pb _
   |cons c r=>
    rw[Wu];cases xk (c::r)with
    |true=> rw[Ka,Ba];have:=gy c;have:=iy false 0 r;rw[Ea]at i;omega
    |false=>have:=hn _ i;rw[Ia];omega
  omega
 |cMark k g1 d=>rw[Nt g1 d];have:=bQ k;omega
theorem lG: ∀{l:List zb},(∀t∈l,ug t=true/\t.text.length<=5000/\t.unit.length<=5000)->(catT l).length<=20100*l.length
 |[],_=>Pb _
 |t::r,h=>by obtain⟨a,b,c⟩:=h t (Jb ..);have:=zEt a b c;have:=lG (l:=r) (fun u hu=>h u (Eb _ hu));rw[catT,Ba,Ea];omega
theorem KN: ∀(l m:List zb),catT (l++m)=catT l++catT m
 |[],m=>rfl
 |t::l,m=>by rw[ja,catT,catT,KN l m,Na]
theorem FY {R:Type} {step:Int×List UInt8->Option (LO (Int×List UInt8) (List UInt8) R)} {l:List zb} (hl:l.length<=3) (hf: ∀t∈l,ug t=true/\t.text.length<=5000/\t.unit.length<=5000)
  (h1: ∀(i:Nat) (a:Str) (hi:i<l.length),step ((i:Int),a)=(pu (l[i],a)).bind fun j=>some (LO.again (w64 ((i:Int)+1),j)))
  (h2: ∀a,step ((l.length:Int),a)=some (.out a)):Rh step (0,[])=some (.out (catT l)):=by
 refine Qj (fun z=> ∃(i:Nat),i<=l.length/\z=((i:Int),catT (l.take i))) (fun z=>l.length - z.1.toNat) _ ?_ ⟨0,by omega,rfl⟩;rintro _ ⟨i,hi,rfl⟩;rcases Yc i l.length with h|h
 ·obtain⟨a,b,c⟩:=hf l[i] (We h);have hc:=lG (l:=l.take i) (fun t ht=>hf t (bf ht));rw[Md]at hc;have d:min i l.length<=2:=by omega
  have ht:=zAI (acc:=catT (l.take i)) a b c (by
   have:20100*min i l.length<=20100*2:=Nh _ d;omega)
  rw[h1 i _ h,ht,Aa];refine .inl ⟨_,rfl,⟨i+1,by omega,?_⟩,by simp only;rw[Za (by omega) (by omega)];omega⟩;rw[Za (by omega) (by omega),af h,KN];refine Prod.ext (by show(i:Int)+1=((i+1:Nat):Int);omega) ?_;show _=catT (l.take i)++(txS l[i]++[]);rw[Ab]
 ·have:i=l.length:=by omega
  subst f;exact .inr (.inl ⟨_,h2 _,by rw[Mf]⟩)
def stO(x:List zb×Str):zz:=⟨(x.1.length:Int),(x.2.length:Int)⟩
theorem KZ{b s A B:Str}{ts L us P:List zb}{m:Nat}(h:b=B++A/\A≠[]/\ts=L++us/\us≠[]/\ ∃R,run b L R/\Lk R A/\4<=R.length/\4<=A.length):Dh (qj (A++s)) (us++P)=Dh (qj (b++s)) (ts++P):=by
 obtain⟨h1,h2,h3,h4,R,r,f,v,i⟩:=h;have p:=Ju (LM s r v);have j:Lk (R++s) (A++s):=by
  refine IX f h2 ?_;rcases f with f|⟨d,y,_,rfl,_⟩
  ·cases A with
   |nil=>exact absurd rfl h2
   |cons c t=>
    cases t with
    |cons d u=>rw[SH,<-f];exact Ey R
    |nil=>simp at i
  ·rfl
 rw[pM j]at p;rw[p,h3,Kh,Ao,Ao,Na,List.append_cancel_left_eq]
theorem DI{x:List zb}(h:gluS x=0):x.length<=1500/\(∀t∈x,ug t=true)/\ ∀k,k<x.length->okAt (x.drop k)=true:=by
 unfold gluS at h;cases hl:decide (x.length<=1500)with
 |false=>rw[hl]at h;cases h
 |true=>
  rw[hl,Ka]at h;cases ha:(List.range x.length).all (il x)with
  |false=>rw[ha]at h;cases h
  |true=>
   rw[Xa]at ha;have d: ∀k,k<x.length->ug (x.getD k default)=true/\okAt (x.drop k)=true:=by intro k hk;have:=ha k (Oc.2 hk);unfold il at c;rw[Da]at c;exact c
   refine⟨Jc hl,fun t ht=> ?_,fun k hk=>(d k hk).2⟩;obtain⟨k,hk,rfl⟩:=List.mem_iff_getElem.1 ht;have:=(d k hk).1
   rwa [jc,Ma hk]at c
theorem zDp{t:zb}{r:List zb}:(bif t.kind==9 then((pcN (t::r):Nat):Int)==2 else false)=(t.kind==9&&t.text==[92]):=by
 cases hk:t.kind==9 with
 |false=>rfl
 |true=>
  have hu:Ph t=false:=by unfold Ph;rw[Ib.1 hk];rfl
  rw[Oy,hk,Ka,hu];cases t.text==[92]<;>rfl
theorem zAm{t:zb}{r:List zb}:pcS ((t::r).take (pcN (t::r)))=bif (t.kind==9&&t.text==[92])then [92,10]else catT ((t::r).take (pcN (t::r))):=by obtain⟨k,hk⟩: ∃k,pcN (t::r)=k+1:=⟨pcN (t::r) - 1,by have:=FH (t:=t) (r:=r);omega⟩;rw[hk,mf,pcS];cases t.kind==9&&t.text==[92]<;>rfl
theorem KO{n:Nat}{ts:List zb}{b:Str}{t:zb}{r:List zb}{s:Str}{P:List zb}(c:(t::r).take (pcN (t::r))=P)(d:pcS P=s):
  wrF (n+1) ts b (t::r)=wrF n (ts++P) ((if Dh (qj (b++s)) (ts++P)then b else b++cmtW)++s) ((t::r).drop (pcN (t::r))):=by
 subst d c;rw[wrF]
theorem ap16{n:Nat}(h:n<=99999):Zb n 1 16=true:=Yl (by omega) (by omega)
theorem bX{n m:Nat}(h:n+m<=200000):Zb n m 1=true:=by unfold Zb;exact Ja (by omega)
theorem zCb{R:Type}{i:Int}{b:Str}{ts:List zb}{st:List (List zb×Str)}(h:zDm b ts st)(hst:st.length<=100000): ∃L B A us,
  (bif decide (w64 (((st.map stO).length:Int) - 4)>=0)then
        need (decide (0<=w64 (((st.map stO).length:Int) - 4))&&decide (w64 (((st.map stO).length:Int) - 4)<((st.map stO).length:Int)))<|
        ((st.map stO)[(w64 (((st.map stO).length:Int) - 4)).toNat]?).bind fun c=>
        some (LX.out (i,b,st.map stO,c))
       else
        some (LX.out (i,b,st.map stO,(⟨0,0⟩:zz))))=(some (LX.out (i,b,st.map stO,stO (L,B))):Option (LX (Int×List UInt8×List zz×zz) R))/\
  b=B++A/\ts=L++us/\ ∀s P,Dh (qj (A++s)) (us++P)=Dh (qj (b++s)) (ts++P):=by
 rw[Ra];by_cases h4:4<=st.length
 ·obtain⟨A,R,us,h1,h2,h3,d,f,j,p,r⟩:=h.bd (st.length - 4) (by omega);refine⟨st[st.length - 4].1,st[st.length - 4].2,A,us,?_,h1,h3,fun s P=>KZ (m:=0) ⟨h1,h2,h3,d,R,f,j,by omega,by omega⟩⟩;rw[Za (by omega) (by omega),Ja (by omega),Ka,Ja (by omega),Bool.and_self,Z5,show((st.length:Int) - 4).toNat=st.length - 4 by omega,Ta,Ma (by omega)];rfl
 ·refine⟨[],[],b,ts,?_,rfl,rfl,fun s P=>rfl⟩;rw[Za (by omega) (by omega),Db (by omega),Ia];rfl
theorem YZ{x:List zb}(hx: ∀t∈x,t.text.length<=5000/\t.unit.length<=5000):
  fu x=some (if gluS x=0 then(if 4000<(wrS x).length then([],28)else(wrS x,0))else([],gluS x)):=by
 unfold fu;have bl:big=4194304:=rfl;rw[zoI (fun t ht=>by have:=hx t ht;omega)];simp only[ze,Aa];by_cases hg:gluS x=0
 ·rw[La hg,hg,show((0:Int) != 0)=false from rfl,Ia];obtain⟨bm,a9,b7⟩:=DI hg;have ab:uo x:=⟨fun t ht=>⟨a9 t ht,hx t ht⟩,b7⟩;refine iD (fun z=> ∃(i:Nat) (b:Str) (st:List (List zb×Str)) (n:Nat),z=((i:Int),b,st.map stO)/\i<=x.length/\Syn b (x.take i) st/\b.length<=4000/\x.length - i<=n/\wrF n (x.take i) b (x.drop i)=wrS x/\st.length<=i) (fun z=>x.length - z.1.toNat) _ ?_
   ⟨0,[],[],x.length,rfl,Pb _, .nil,Pb _,Va _,rfl,Va _⟩
  rintro _ ⟨i,b,st,n,rfl,hi,O,bq,hn,hW,hst⟩;simp only;rcases Yc i x.length with h|h
  ·have U:=xP ab i;have f:x.drop i=x[i]::x.drop (i+1):=Yb h;obtain⟨t,ht⟩: ∃t,t=x[i]:=⟨_,rfl⟩;obtain⟨r,hr⟩: ∃r,r=x.drop (i+1):=⟨_,rfl⟩;rw[<-ht,<-hr]at f;rw[f]at U hW;have b8:(t::r).length=x.length - i:=by rw[<-f,Ob]
   obtain⟨ao,y⟩:=PM U;have b9:=FH (t:=t) (r:=r);have ba:=zCJ (t:=t) (r:=r);obtain⟨k,hk⟩: ∃k,pcN (t::r)=k:=⟨_,rfl⟩;obtain⟨P,hP⟩: ∃P,(t::r).take k=P:=⟨_,rfl⟩;obtain⟨s,hs⟩: ∃s,pcS P=s:=⟨_,rfl⟩;have p:=zAm (t:=t) (r:=r);have V:=fun m=>KO (n:=m) (ts:=x.take i) (b:=b) (t:=t) (r:=r) (s:=s) (P:=P) (by rw[hk];exact hP) hs;have e3:QM (List.drop i x)=some ((k:Nat):Int):=by rw[f,<-hk];exact Y0 (by have:=(U.1 t (Jb ..)).2.1;omega) (U.2 0 (by simp))
   have ap:=zDp (t:=t) (r:=r);rw[hk]at b9 ao ba y p ap V;rw[hP]at y p;rw[hs]at y p;rw[b8]at ao;have e1:decide ((i:Int)<(x.length:Int))=true:=Ja (by omega);have e2:(decide ((0:Int)<=(i:Int))&&decide ((i:Int)<=(x.length:Int)))=true:=by rw[Ja (by omega),Ja (by omega)];rfl
   have e4:w64 ((i:Int)+((k:Nat):Int))=((i+k:Nat):Int):=by rw[Za (by omega) (by omega)];omega
   have e5:(decide ((0:Int)<=(i:Int))&&(decide ((i:Int)<=((i+k:Nat):Int))&&decide (((i+k:Nat):Int)<=(x.length:Int))))=true:=by rw[Ja (by omega),Ja (by omega),Ja (by omega)];rfl
   have e6:geti x (i:Int)=some t:=by rw[QX h,ht]
   have e7:List.drop i (List.take (i+k) x)=P:=by rw[List.drop_take,f,show i+k - i=k by omega,hP]
   simp only[e1,e2,e3,e4,e5,e6,Ka,Z5,Aa,jb,e7];have aq:P.length<=3:=by rw[<-hP,Md];omega
   have ar: ∀u∈P,ug u=true/\u.text.length<=5000/\u.unit.length<=5000:=fun u hu=>U.1 u (by rw[<-hP]at hu;exact bf hu);have br:s.length<=60400:=by
    have:=lG ar;rw[p];cases t.kind==9&&t.text==[92]with
    |true=>rw[Ka];simp
    |false=>rw[Ia];have:20100*P.length<=20100*3:=Nh _ aq;omega
   rw[Qk (FY (l:=P) aq ar (fun j a hj=> ?_) (fun a=> ?_))]
   ·rw[ap];have bb:(bif (t.kind==9&&t.text==[92])then some (LX.out ((i:Int),b,st.map stO,[(92:UInt8),(10:UInt8)]))else some (LX.out ((i:Int),b,st.map stO,catT P)))=(some (LX.out ((i:Int),b,st.map stO,s)):Option (LX (Int×List UInt8×List zz×List UInt8) (LO (Int×List UInt8×List zz) (List UInt8) (Str×Int)))):=by rw[p];cases t.kind==9&&t.text==[92]<;>rfl
    rw[bb,zh];simp only;have a8:=tF O;obtain⟨L,B,A,us,ad,a6,al,av⟩:=zCb (R:=LO (Int×List UInt8×List zz) (List UInt8) (Str×Int)) (i:=(i:Int)) a8 (by omega);rw[ad,zh];have bt:B.length<=b.length:=by rw[a6,Ba];omega
    have bw:A.length<=b.length:=by rw[a6,Ba];omega
    have f1:(decide ((0:Int)<=(stO (L,B)).at_)&&decide ((stO (L,B)).at_<=(b.length:Int)))=true:=by show(decide ((0:Int)<=(B.length:Int))&&decide ((B.length:Int)<=(b.length:Int)))=true;rw[Ja (by omega),Ja (by omega)];rfl
    have f2:(stO (L,B)).at_.toNat=B.length:=jb _;have f3:decide (B.length+(b.length - B.length)<=b.length)=true:=Ja (by omega);have f4:List.take (b.length - B.length) (List.drop B.length b)=A:=by rw[a6,Xg,Ba,show B.length+A.length - B.length=A.length by omega,Mf]
    have f5:Ah A.length s.length=true:=Dz.2 (by omega);simp only[f1,f2,f3,f4,f5,Z5,BJ,Aa,e4,jb];have bc:(stO (L,B)).token=(L.length:Int):=rfl;have bx:L.length<=i:=by have:=congrArg List.length al;rw[Md,Ba]at d;omega
    have be:List.drop L.length (List.take (i+k) x)=us++P:=by
     have:List.take (i+k) x=L++(us++P):=by rw[List.take_add,f,hP,al,Na]
     rw[d,Xg]
    have am:P.length=k:=by rw[<-hP,Md];omega
    have bo:(us++P).length<=1500:=by have h1:=congrArg List.length al;rw[Md,Ba]at h1;rw[Ba,am];omega
    have hcl:clB (A++s)=true:=by have h1:=VX O;rw[a6,Qu,Da]at h1;rw[Qu,h1.2,tL y];rfl
    obtain⟨c,hc⟩: ∃c,c=Dh (qj (b++s)) (x.take i++P):=⟨_,rfl⟩;have W:Dh (qj (A++s)) (us++P)=c:=by rw[hc];exact av s P
    obtain⟨Y,a7⟩: ∃Y,Y=(decide ((A++s).length<=4000)&&c):=⟨_,rfl⟩;have an:(decide ((0:Int)<=(stO (L,B)).token)&&(decide ((stO (L,B)).token<=((i+k:Nat):Int))&&decide (((i+k:Nat):Int)<=(x.length:Int))))=true:=by rw[bc,Ja (by omega),Ja (by omega),Ja (by omega)];rfl
    have aw: ∀(E:Option (LX (Int×List zz×List UInt8) (LO (Int×List UInt8×List zz) (List UInt8) (Str×Int)))),
      E=(need (decide ((0:Int)<=(stO (L,B)).token)&&(decide ((stO (L,B)).token<=((i+k:Nat):Int))&&decide (((i+k:Nat):Int)<=(x.length:Int)))|| !(!((Ki (A++s)).2 != 0)))<|
       (zu (!((Ki (A++s)).2 != 0)) (Z9 ((Ki (A++s)).1,List.drop (stO (L,B)).token.toNat (List.take (i+k) x))) (default:Bool)).bind fun c6=>
       bif bif (Ki (A++s)).2 != 0 then true else !y13 then
        need (Zb b.length ([47,42,42,47]:Str).length 1)<|
        some (LX.out ((i:Int),st.map stO,b++([47,42,42,47]:Str)))
       else
        some (LX.out ((i:Int),st.map stO,b)))->E=some (LX.out ((i:Int),st.map stO,if Y then b else b++cmtW)):=by
     rintro E rfl;rw[an,Hf,Z5,show(stO (L,B)).token.toNat=L.length from jb _,be];have Z:Zb b.length ([47,42,42,47]:Str).length 1=true:=bX (by show b.length+4<=_;omega);unfold Ki;by_cases a3:4000<(A++s).length
     ·rw[La a3];have:Y=false:=by rw[a7,Db (by omega)];rfl
      rw[d];simp only[show((28:Int) != 0)=true from rfl,Nc,ZA,Aa,Ka,Z,Z5];rfl
     ·rw[Ha a3,kH _ hcl];have v:Y=c:=by rw[a7,Ja (by omega)];rfl
      by_cases a5:1500<(qj (A++s)).length
      ·rw[La a5];have:Y=false:=by rw[v,<-W];exact uP (by omega)
       rw[d];simp only[show((4:Int) != 0)=true from rfl,Nc,ZA,Aa,Ka,Z,Z5];rfl
      ·rw[Ha a5];simp only[show((0:Int) != 0)=false from rfl,Ec,Zp,Ia,jX (show(qj (A++s)).length<=big by omega),W,Aa,Z,Z5];rw[v];cases c<;>rfl
    rw[aw _ rfl,zh];simp only;obtain⟨m,hm⟩: ∃m,n=m+1:=⟨n - 1,by omega⟩;subst hm;rw[V m,<-hc]at hW;have b3:=WM m (x.take i++P) ((if c then b else b++cmtW)++s) ((t::r).drop k);rw[hW]at b3;have c7:cmtW.length=4:=rfl;have c8:(if Y then b else b++cmtW).length<=4004:=by
     split
     ·omega
     ·rw[Ba];omega
    rw[zy (ap16 (by rw[Ra];omega)),zy (bX (by omega))];have c9:b.length+s.length<=(wrS x).length:=by
     refine Sb ?_ b3;rw[Ba];split
     ·omega
     ·rw[Ba];omega
    by_cases J:4000<((if Y then b else b++cmtW)++s).length
    ·rw[Ja (by omega),Ka];refine .inr (.inr ?_);have:4000<(wrS x).length:=by
      by_cases v:Y=c
      ·rw[v]at J;omega
      ·have: ¬(A++s).length<=4000:=by intro bh;rw[a7,Ja bh]at v;exact v rfl
       rw[Ba]at d;omega
     rw[La d]
    ·rw[Db (by omega),Ia];have v:Y=c:=by
      have:(A++s).length<=4000:=by
       rw[Ba]at J ⊢;have:b.length<=(if Y then b else b++cmtW).length:=by
        split
        ·exact Va _
        ·rw[Ba];omega
       omega
      rw[a7,Ja d];rfl
     rw[v]at J ⊢;have b5:x.take (i+k)=x.take i++P:=by rw[List.take_add,f,hP]
     refine .inl ⟨_,rfl,⟨i+k,(if c then b else b++cmtW)++s,st++[(x.take i,if c then b else b++cmtW)],m,?_,by omega,?_,by omega,by omega,?_,?_⟩,?_⟩
     ·refine Prod.ext e4 (Prod.ext rfl ?_);rw[yc];show st.map stO++[_]=st.map stO++[stO (x.take i,if c then b else b++cmtW)];unfold stO;simp only[Md,show min i x.length=i by omega]
     ·rw[b5];cases b6:c with
      |true=> rw[La rfl];exact .no b s _ P st O y (Ao.1 (by rw[<-hc,b6]))
      |false=> rw[Ha (by decide)];refine .cmt b s _ P st O ?_ y;rintro rfl;have h0:=a8.tok;rw[QE (Z4 rfl)]at h0;rw[<-h0,Kc,Kc,EH y]at hc;rw[b6,Ao.2 rfl]at hc;cases hc
     ·rw[b5,<-hW,<-Vf,f]
     ·rw[Ba,Cb];omega
     ·simp only;rw[e4];omega
   ·have d1:decide ((j:Int)<(P.length:Int))=true:=Ja (by omega);simp only[d1,Ka,QX hj,Aa]
   ·simp only;rw[Db (by omega),Ia]
  ·have:i=x.length:=by omega
   subst d;have e1:decide ((x.length:Int)<(x.length:Int))=false:=Db (by omega);simp only[e1,Ia];refine .inr (.inl ⟨_,rfl,?_⟩);rw[Re (Va _)]at hW;have bj:b=wrS x:=by
    cases n with
    |zero=>rw[wrF]at hW;exact hW
    |bp n=>rw[wrF]at hW;exact hW
   rw[<-bj,Ha (by omega)]
 ·rw[Ha hg];have:(gluS x != 0)=true:=by rw[Cg];exact hg
  rw[d,Ka]
theorem vF: ∀(n:Nat) {ts r:List zb} {b:Str} {st:List (List zb×Str)},uo r->Syn b ts st->r.length<=n-> ∃c,Syn (wrF n ts b r) (ts++r) c
 |0,ts,r,b,st,_,d,hn=>by have:r=[]:=Ye.1 (by omega);subst j;rw[wrF,Ab];exact⟨st,d⟩
 |n+1,ts,[],b,st,_,d,_=>by rw[wrF,Ab];exact⟨st,d⟩
 |n+1,ts,t::r,b,st,hr,d,hn=>by
  obtain⟨hk,f⟩:=PM hr;have p:=FH (t:=t) (r:=r);rw[KO rfl rfl];have m:(t::r)=(t::r).take (pcN (t::r))++(t::r).drop (pcN (t::r)):=(Lf _ _).symm;have hl:((t::r).drop (pcN (t::r))).length<=n:=by rw[Ob];omega
  have i:=xP hr (pcN (t::r));generalize (t::r).take (pcN (t::r))=P at*;generalize (t::r).drop (pcN (t::r))=Q at*;cases hc:Dh (qj (b++pcS P)) (ts++P)with
  |true=> rw[La rfl];obtain⟨c,h'⟩:=vF n i (.no b (pcS P) ts P st d f (Ao.1 hc)) hl;exact⟨c,by rw[m,<-Na];exact h'⟩
  |false=>
   rw[Ha (by decide)];have hb:b≠[]:=by rintro rfl;have h0:=(tF d).tok;rw[QE (Z4 rfl)]at h0;rw[<-h0,Kc,Kc,EH f,Ao.2 rfl]at hc;cases hc
   obtain⟨c,h'⟩:=vF n i (.cmt b (pcS P) ts P st d hb f) hl;exact⟨c,by rw[m,<-Na];exact h'⟩
theorem I4{x:List zb}(h:uo x):qj (wrS x)=x/\clB (wrS x)=true:=by obtain⟨st,c⟩:=vF x.length h .nil (Va _);rw[Kc]at c;exact⟨(tF c).tok,VX c⟩
theorem G6 {S X R:Type} {step:S->Option (LO S X R)} {k:X->Option R} (Inv:S->Prop) (d:S->Nat) (Q:R->Prop)
  (h: ∀s,Inv s->(∃c,step s=some (.again c)/\Inv c/\d c<d s)\/(∃x y,step s=some (.out x)/\k x=some y/\Q y)\/(∃y,step s=some (.ret y)/\Q y)) {s:S} (f:Inv s): ∃y,ZE step s k=some y/\Q y:=by
 have i: ∀(m:Nat) (s:S),d s<m->Inv s-> ∃(r:LX X R) (y:R),Qs step m s=some r/\r.go k=some y/\Q y:=by
  intro m
  induction m with
  |zero=>intro s h;omega
  |j m p=>
   intro s hm f;simp only[Qs];rcases h s f with⟨c,h1,h2,h3⟩|⟨x,y,h1,h2,h3⟩|⟨y,h1,h2⟩
   ·rw[h1];exact p c (by omega) h2
   ·rw[h1];exact⟨_,y,rfl,h2,h3⟩
   ·rw[h1];exact⟨_,y,rfl,rfl,h2⟩
 obtain⟨r,y,h1,h2,h3⟩:=i (d s+1) s (by omega) f;exact⟨y,by rw[Yp (dn h1)];exact h2,h3⟩
def di(x:List zb)(n:Nat):Prop:= ∀t∈x,t.text.length+t.unit.length<=n
theorem bY{x:List zb}(h:di x 1000000000)(hl:x.length<=big): ∃g,nz x=some g/\(g=false->di x 1000/\x.length<=1510):=by
 have m:big=4194304:=rfl;unfold nz;by_cases h1:(x.length>100/\x.length<=1500)\/x.length>1510
 ·have:(bif bif decide ((x.length:Int)>100)then decide ((x.length:Int)<=1500)else false then true else decide ((x.length:Int)>1510))=true:=by
   rcases h1 with⟨a,b⟩|a
   ·rw[Ja (by omega),Ja (show(x.length:Int)<=1500 by omega)];rfl
   ·rw[Ja (show(x.length:Int)>1510 by omega)];cases (bif decide ((x.length:Int)>100)then decide ((x.length:Int)<=1500)else false)<;>rfl
  rw[c,Ka];exact⟨true,rfl,fun e=>by cases e⟩
 ·have:(bif bif decide ((x.length:Int)>100)then decide ((x.length:Int)<=1500)else false then true else decide ((x.length:Int)>1510))=false:=by
   rw[Db (show¬(x.length:Int)>1510 by omega)];by_cases a:x.length>100
   ·rw[Db (show¬(x.length:Int)<=1500 by omega)];cases decide ((x.length:Int)>100)<;>rfl
   ·rw[Db (show¬(x.length:Int)>100 by omega)];rfl
  rw[c,Ia];refine G6 (fun s=> ∃(i n:Nat),s=((n:Int),(i:Int))/\i<=x.length/\n<=1000/\di (x.take i) 1000) (fun s=>x.length - s.2.toNat) (fun g=>g=false->di x 1000/\x.length<=1510) ?_ ⟨0,0,rfl,by omega,by omega,fun t ht=>by cases ht⟩;rintro _ ⟨i,n,rfl,hi,hn,d⟩;simp only[ze];rcases Yc i x.length with f|f
  ·have hb:=h x[i] (We f);have e1:decide ((i:Int)<(x.length:Int))=true:=Ja (by omega);have e2:w64 ((n:Int)+w64 ((x[i].text.length:Int)+(x[i].unit.length:Int)))=((n+(x[i].text.length+x[i].unit.length):Nat):Int):=by rw[Za (n:=(x[i].text.length:Int)+(x[i].unit.length:Int)) (by omega) (by omega),Za (by omega) (by omega)];omega
   simp only[e1,Ka,QX f,Aa,e2];by_cases j:n+(x[i].text.length+x[i].unit.length)>1000
   ·rw[Ja (by omega),Ka];exact .inr (.inr ⟨true,rfl,fun e=>by cases e⟩)
   ·rw[Db (by omega),Ia];refine .inl ⟨_,rfl,⟨i+1,n+(x[i].text.length+x[i].unit.length),by rw[Za (by omega) (by omega)];rfl,by omega,by omega,?_⟩,by simp only;rw[Za (by omega) (by omega)];omega⟩;rw[af f];intro t ht;rcases Bc.1 ht with ht|ht
    ·exact d t ht
    ·rw[Sa]at ht;subst ht;omega
  ·have:i=x.length:=by omega
   subst c;have e1:decide ((x.length:Int)<(x.length:Int))=false:=Db (by omega);simp only[e1,Ia];rw[Mf]at d;exact .inr (.inl ⟨(),false,(by first|rfl|trivial),rfl,fun _=>⟨d,by omega⟩⟩)
theorem rest_of{x:List zb}(c:gluS x=0)(h:di x 1000):uo x:=by obtain⟨_,h1,h2⟩:=DI c;exact⟨fun t ht=>⟨h1 t ht,by have:=h t ht;omega,by have:=h t ht;omega⟩,h2⟩
theorem S9{x:List zb}(c:gluS x=0)(h:di x 1000)(hl:(wrS x).length<=4000):Ki (wrS x)=(x,0):=by obtain⟨h1,h2⟩:=I4 (rest_of c h);have h3:=(DI c).1;unfold Ki;rw[Ha (by omega),kH _ h2,h1,Ha (by omega)]
theorem zAY{x:List zb}(c:gluS x=0)(h:di x 1000):fu x=some (if 4000<(wrS x).length then([],28)else(wrS x,0)):=by rw[YZ (fun t ht=>by have:=h t ht;omega),La c]
theorem zC4{x:List zb}{n:Nat}(h:di x n)(hn:n<=big): ∀t∈x,t.text.length<=big/\t.unit.length<=big:=fun t ht=>by have:=h t ht;omega
theorem iC{m:UInt8}{q:Str}{t:Str}(h:(zZ m q).1=some t):t.length<=4*q.length:=by
 match q with
 |[]=>rw[Vq]at h;cases h;exact Pb _
 |c::r=>
  have d: ∀(u:Str) (o:Option Str) (k:Nat),o.map (u++ ·)=some t->(∀i,o=some i->i.length<=k)->t.length<=u.length+k:=by
   intro u o k ho hk;cases o with
   |none=>cases ho
   |some i=> injection ho with ho;rw[<-ho,Ba];have:=hk i rfl;omega
  rw[qR]at h;rw[Ea];split at h
  ·cases h;exact Pb _
  ·split at h
   ·cases h
   ·split at h
    ·split at h
     ·cases h;exact Pb _
     ·split at h
      ·have h2:=iC (q:=r.drop 1) h;rw[Ob]at h2;omega
      ·have p:=zD r;have h4:=Nu r;have:=d _ _ (4*(zq r).2.length) h (fun i f=>iC f);omega
    ·have:=d [c] _ (4*r.length) h (fun i f=>iC f);rw[Cb]at j;omega
termination_by q.length
decreasing_by
 all_goals first|(have:=zD r;simp only[Ea];omega)|(simp only[Ea,Ob];omega)
theorem IL{q:Str}{t:Str}(h:(urlS q).1=some t):t.length<=4*q.length:=by
 match q with
 |[]=>rw[Hq]at h;cases h;exact Pb _
 |c::r=>
  have d: ∀(u:Str) (o:Option Str) (k:Nat),o.map (u++ ·)=some t->(∀i,o=some i->i.length<=k)->t.length<=u.length+k:=by
   intro u o k ho hk;cases o with
   |none=>cases ho
   |some i=> injection ho with ho;rw[<-ho,Ba];have:=hk i rfl;omega
  rw[Lm]at h;rw[Ea];split at h
  ·cases h;exact Pb _
  ·split at h
   ·split at h
    ·cases h;exact Pb _
    ·split at h
     ·cases h;exact Pb _
     ·cases h
   ·split at h
    ·cases h
    ·split at h
     ·have m:=zD r;have h4:=Nu r;have:=d _ _ (4*(zq r).2.length) h (fun i f=>IL f);omega
     ·have:=d [c] _ (4*r.length) h (fun i f=>IL f);rw[Cb]at j;omega
termination_by q.length
decreasing_by
 all_goals first|(have:=zD r;simp only[Ea];omega)|(simp only[Ea];omega)
theorem zDW(c:UInt8)(r:Str):(Zq (c::r)).1.text.length+(Zq (c::r)).1.unit.length<=4*(c::r).length:=by
 rw[qo,Ea];have f: ∀o:Option Str,(∀t,o=some t->t.length<=4*(r.length+1))->(Yj o).text.length+(Yj o).unit.length<=4*(r.length+1):=by
  intro o ho;cases o with
  |none=>show 0+0<=_;omega
  |some t=>show t.length+0<=_;have:=ho t rfl;omega
 have hu: ∀o:Option Str,(∀t,o=some t->t.length<=4*(r.length+1))->(Wj o).text.length+(Wj o).unit.length<=4*(r.length+1):=by
  intro o ho;cases o with
  |none=>show 0+0<=_;omega
  |some t=>show t.length+0<=_;have:=ho t rfl;omega
 have i:=Ut r;rcases JL (wL c r)with h|h|h|h|h|h|h|h|h|h
 ·rw[h,dF];show 0+0<=_;omega
 ·rw[h,fq];exact f _ (fun t ht=>by have:=iC ht;omega)
 ·rw[h,um];show(zm r).1.length+0<=_;omega
 ·rw[h,Kk];have h1:=(OX (c::r)).length_le;have h2:=(yR (Jg (c::r))).length_le;have h3:(Jg (c::r)).length<=r.length+1:=by
   have:=(bn digB (unsign (c::r))).length_le;have h4:(unsign (c::r)).length<=(c::r).length:=by have:=congrArg List.length (VF (c::r));rw[Ba]at d;omega
   unfold Jg;rw[Ea]at h4;omega
  have h4:=Ut (zC (c::r)).1;unfold zA;split
  ·show 0+(zm (zC (c::r)).1).1.length<=_;omega
  ·split
   ·show 0+0<=_;omega
   ·show 0+0<=_;omega
 ·rw[h,jL];show 0+0<=_;omega
 ·rw[h,iL];show 0+0<=_;omega
 ·rw[h,Yq];show(zm r).1.length+0<=_;omega
 ·rw[h,Tj];have h4:=Ut (c::r);rw[Ea]at h4;unfold qD;split
  ·split
   ·refine hu _ (fun t ht=> ?_);have h1:=IL ht;have h2:=(bn spB ((zm (c::r)).2.drop 1)).length_le;have h3:=(Rl (c::r)).length_le;rw[Ob]at h2;rw[Ea]at h3;omega
   ·show(zm (c::r)).1.length+0<=_;omega
  ·show(zm (c::r)).1.length+0<=_;omega
 ·rw[h,Sv];show 1+0<=_;omega
 ·rw[h,bF];show 0+0<=_;omega
theorem rW(q:Str):di (qj q) (4*q.length):=by
 intro t ht;cases hc:cmtS q with
 |nil=>rw[QE hc]at ht;cases ht
 |cons c r=>
  have h2:=(Ml q).length_le;have h3:=(Nl c r).length_le;rw[hc,Ea]at h2;rw[QJ hc]at ht;rcases ma.1 ht with ht|ht
  ·rw[ht];have:=zDW c r;rw[Ea]at d;omega
  ·have h4:(Zq (c::r)).2.length<q.length:=by omega
   have:=rW (Zq (c::r)).2 t ht;omega
termination_by q.length
decreasing_by all_goals omega
end Go.Lv.VT
