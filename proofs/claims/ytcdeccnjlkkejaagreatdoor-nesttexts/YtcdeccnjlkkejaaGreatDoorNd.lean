/- Pieces: what is written at once; how they begin. -/
import Derived.Test.YtcdeccnjlkkejaaGreatDoorNc
import Derived.Test.YtcdeccnjlkkejaaGreatDoorNam
set_option linter.unusedSimpArgs false
set_option linter.unusedVariables false
namespace Go.Lv.VT
set_option maxRecDepth 100000
abbrev tkSp:zb:=⟨13,[],0,[],false⟩
inductive PcT:Str->List zb->Prop
 |one (t:zb) (h:zgg t) (hb: ¬(t.kind=9/\t.text=[92])) (hu:Mh t=false):PcT (txS t) [t]
 |back:PcT [92,10] [⟨9,[92],0,[],false⟩,tkSp]
 |url (l m:Str) (s:Bool) (h:Zn l=true) (hl:lowS l=[117,114,108]) (hm:Zn m=true):
   PcT (ql l++40::((if s then [32]else [])++34::(encB quoB m++[34]))) (⟨2,l,0,[],false⟩::((if s then [tkSp]else [])++[⟨5,m,0,[],false⟩]))
theorem MP{l:Str}(h:lowS l=[117,114,108]): ∃a r,l=a::r/\(a=117\/a=85):=by
 cases l with
 |nil=>cases h
 |cons a r=>
  have h1:Tk a=117:=by unfold lowS at h;rw[aa]at h;injection h
  have: ∀n:Nat,n<256->Tk (UInt8.ofNat n)=117->UInt8.ofNat n=117\/UInt8.ofNat n=85:=by decide+kernel
  have:=this a.toNat (Ob a);rw[Uc]at this;exact⟨a,r,rfl,this h1⟩
theorem TA{l:Str}(h0:l≠[])(z:Str):nmS (ql l++40::z)=true:=BN (yl h0) (by show(40:UInt8)≠10;decide)
theorem Tt{k:Int}(h1:13<=k)(h2:k<=24):k=13\/k=14\/k=15\/k=16\/k=17\/k=18\/k=19\/k=20\/k=21\/k=22\/k=23\/k=24:=by omega
theorem YC{s:Str}{P:List zb}(h:PcT s P):nmS s=true\/(∃n p U t,P=[t]/\s=numT n p++U/\t.num=n/\(U=[]/\t.kind=10\/U=[37]\/ ∃u,u≠[]/\Zn u=true/\U=kg u))\/
  (∃c r,s=c::r/\(c=64\/c=35\/c=34)/\nbS s=false)\/(∃c,s=[c]/\Si c.toNat=true)\/(∃k,13<=k/\k<=24/\s=Ro k)\/s=[92,10]:=by
 cases h with
 |one t h hb hu=>
  cases h with
  |cId l h0 h=>left;rw[pq];exact yl h0
  |cFn l h0 h=>left;rw[Tm];exact TA h0 []
  |cAt l h0 h=>right;right;left;rw[rq];exact⟨64,_,rfl, .inl rfl,rfl⟩
  |cHash l f h0 h hbb=>right;right;left;rw[Jt];exact⟨35,_,rfl, .inr (.inl rfl),rfl⟩
  |cStr l h=>right;right;left;rw[Vo];exact⟨34,_,rfl, .inr (.inr rfl),rfl⟩
  |cUrl l h=>left;rw[Ur];rfl
  |cDel c h=>right;right;right;left;rw[jr];exact⟨c,rfl,h⟩
  |cNum n f h1 h2 hf=>right;left;exact⟨n, !f,[],_,rfl,by rw[Xr,Ab],rfl, .inl ⟨rfl,rfl⟩⟩
  |cPct n h1 h2=>right;left;exact⟨n,false,[37],_,rfl,Vr n,rfl, .inr (.inl rfl)⟩
  |cDim n u f h1 h2 hf h0 h=>right;left;exact⟨n, !f,kg u,_,rfl,Yr n u f,rfl, .inr (.inr ⟨u,h0,h,rfl⟩)⟩
  |cMark k h1 h2=>right;right;right;right;left;exact⟨k,h1,h2,Ht h1 h2⟩
 |back=>right;right;right;right;right;rfl
 |url l m s h hl hm=> left;obtain⟨a,r,rfl,_⟩:=MP hl;exact TA (by simp) _
theorem bI(c:UInt8)(h:Si c.toNat=true):spB c=false/\nbS [c]=false/\c≠101/\c≠69:=by
 have: ∀n:Nat,n<256->Si (UInt8.ofNat n).toNat=true->spB (UInt8.ofNat n)=false/\nbS [UInt8.ofNat n]=false/\UInt8.ofNat n≠101/\UInt8.ofNat n≠69:=by decide+kernel
 have:=this c.toNat (Ob c);rw[Uc]at this;exact this h
theorem nY{s:Str}(h:digB (atS (unsign s) 0)=true):nbS s=true:=by unfold nbS undot;have:(atS (unsign s) 0==46)=false:=Fa.2 (QV h).2.2.1;rw[this,Ga (by decide),h]
theorem UF{s:Str}{P:List zb}(h:PcT s P)(hd:digB (atS (unsign s) 0)=true): ∃n p U t,P=[t]/\s=numT n p++U/\t.num=n/\(U=[]/\t.kind=10\/U=[37]\/ ∃u,u≠[]/\Zn u=true/\U=kg u):=by
 have hn:=nY hd;rcases YC h with h|h|⟨c,r,e,_,h⟩|⟨c,rfl,h'⟩|⟨k,h1,h2,rfl⟩|rfl
 ·rw[OW h]at hn;cases hn
 ·exact h
 ·rw[h]at hn;cases hn
 ·rw[(bI c h').2.1]at hn;cases hn
 ·rcases Tt h1 h2 with rfl|rfl|rfl|rfl|rfl|rfl|rfl|rfl|rfl|rfl|rfl|rfl<;>cases hn
 ·cases hn
theorem zEL{s:Str}{P:List zb}(h:PcT s P)(hd:spB (atS s 0)=true):s=[32]:=by
 rcases YC h with h|⟨n,p,U,t,_,rfl,_⟩|⟨c,r,rfl,hc,_⟩|⟨c,rfl,h'⟩|⟨k,h1,h2,rfl⟩|rfl
 ·rw[(Rw (Wq h)).1]at hd;cases hd
 ·obtain⟨c,r,e,_,h2,_⟩:=Gp n p U;rw[e]at hd;rw[show atS (c::r) 0=c from rfl,h2]at hd;cases hd
 ·rcases hc with rfl|rfl|rfl<;>cases hd
 ·rw[show atS [c] 0=c from rfl,(bI c h').1]at hd;cases hd
 ·rcases Tt h1 h2 with rfl|rfl|rfl|rfl|rfl|rfl|rfl|rfl|rfl|rfl|rfl|rfl<;>first|rfl|cases hd
 ·cases hd
theorem VB{s:Str}{P:List zb}(h:PcT s P){b:UInt8}(hb:b=47\/b=42)(hd:atS s 0=b):s=[b]:=by
 rcases YC h with h|⟨n,p,U,t,_,rfl,_⟩|⟨c,r,rfl,hc,_⟩|⟨c,rfl,h'⟩|⟨k,h1,h2,rfl⟩|rfl
 ·have h1:=Wq h;rw[hd]at h1;rcases hb with rfl|rfl<;>cases h1
 ·obtain⟨c,r,e,h1,_⟩:=Gp n p U;rw[e]at hd;rw[show c=b from hd]at h1;rcases hb with rfl|rfl<;>cases h1
 ·rw[show c=b from hd]at hc;rcases hb with rfl|rfl<;>rcases hc with hc|hc|hc<;>cases hc
 ·rw[show c=b from hd]
 ·rcases Tt h1 h2 with rfl|rfl|rfl|rfl|rfl|rfl|rfl|rfl|rfl|rfl|rfl|rfl<;>rcases hb with rfl|rfl<;>cases hd
 ·rcases hb with rfl|rfl<;>cases hd
theorem Jk{s:Str}{P:List zb}(h:PcT s P):s≠[]:=by
 rcases YC h with h|⟨n,p,U,t,_,rfl,_⟩|⟨c,r,rfl,hc,_⟩|⟨c,rfl,h'⟩|⟨k,h1,h2,rfl⟩|rfl
 ·exact Xl h
 ·obtain⟨c,r,e,_⟩:=Gp n p U;rw[e];simp
 ·simp
 ·simp
 ·rcases Tt h1 h2 with rfl|rfl|rfl|rfl|rfl|rfl|rfl|rfl|rfl|rfl|rfl|rfl<;>decide
 ·simp
theorem rY{l:Str}{c:UInt8}{r:Str}(he:c=101\/c=69)(h:ql l=c::r): ∃t,l=c::t:=by
 cases l with
 |nil=>unfold ql at h;rw[encW]at h;cases h
 |cons a t=>
  have hn:ql (a::t)=pcW ((a::t:Str)==[45]) (QW (a::t)) a++encW ((a::t:Str)==[45]) (QW (a::t) - 1) t:=rfl;obtain⟨d,u,e,hd⟩:=aC (dash:=(a::t:Str)==[45]) (k:=QW (a::t)) (by unfold QW;split<;>omega) a (encW ((a::t:Str)==[45]) (QW (a::t) - 1) t);rw[hn,e]at h;injection h with h1 h2;rcases hd with⟨rfl,_⟩|⟨rfl,_⟩
  ·rcases he with rfl|rfl<;>cases h1
  ·exact⟨t,by rw[h1]⟩
theorem zD5{s:Str}{P:List zb}(h:PcT s P)(hd:atS s 0=101\/atS s 0=69): ∃l t z,Zn l=true/\P=[t]/\(t.kind=1\/t.kind=2)/\t.text=l/\s=ql l++z/\(z=[]\/z=[40]):=by
 cases h with
 |one t h hb hu=>
  cases h with
  |cId l h0 h=>exact⟨l,_,[],h,rfl, .inl rfl,rfl,by rw[pq,Ab], .inl rfl⟩
  |cFn l h0 h=>exact⟨l,_,[40],h,rfl, .inr rfl,rfl,Tm l, .inr rfl⟩
  |cAt l h0 h=>rw[rq]at hd;rcases hd with hd|hd<;>cases hd
  |cHash l f h0 h hbb=>rw[Jt]at hd;rcases hd with hd|hd<;>cases hd
  |cStr l h=>rw[Vo]at hd;rcases hd with hd|hd<;>cases hd
  |cUrl l h=>rw[Ur]at hd;rcases hd with hd|hd<;>cases hd
  |cDel c h=>
   rw[jr]at hd;obtain⟨_,_,k1,k2⟩:=bI c h;rcases hd with hd|hd
   ·exact absurd hd k1
   ·exact absurd hd k2
  |cNum n f h1 h2 hf=>
   rw[Xr]at hd;obtain⟨c,r,e,h1,_⟩:=Gp n (!f) [];rw[Ab]at e;rw[e]at hd;rcases hd with hd|hd<;>(rw[show c=_ from hd]at h1;cases h1)
  |cPct n h1 h2=>
   rw[Vr]at hd;obtain⟨c,r,e,h1,_⟩:=Gp n false [37];rw[e]at hd;rcases hd with hd|hd<;>(rw[show c=_ from hd]at h1;cases h1)
  |cDim n u f h1 h2 hf h0 h=>
   rw[Yr]at hd;obtain⟨c,r,e,h1,_⟩:=Gp n (!f) (kg u);rw[e]at hd;rcases hd with hd|hd<;>(rw[show c=_ from hd]at h1;cases h1)
  |cMark k h1 h2=> rw[Ht h1 h2]at hd;rcases Tt h1 h2 with rfl|rfl|rfl|rfl|rfl|rfl|rfl|rfl|rfl|rfl|rfl|rfl<;>rcases hd with hd|hd<;>cases hd
 |back=>rcases hd with hd|hd<;>cases hd
 |url l m s h hl hm=>
  exfalso;obtain⟨a,r,rfl,ha⟩:=MP hl;obtain⟨c,r2,e⟩:=Fj (Xl (yl (l:=a::r) (by simp)));have hd':c=101\/c=69:=by rw[e]at hd;exact hd
  obtain⟨t,e2⟩:=rY hd' e;injection e2 with e3 _;subst e3;rcases ha with rfl|rfl<;>rcases hd' with h|h<;>cases h
def ShS(s r:Str):Prop:=r=s\/ ∃d y,digB d=true/\s=48::46::d::y/\r=46::d::y
theorem AP(cap:Nat)(l:Str):capF cap 0 (48::l)=capF cap 0 l:=by show capF cap (min cap (decN 0 48)) l=_;rw[show decN 0 48=0 from rfl,Nat.min_zero]
theorem zAJ(A:Str)(p:Int):thoV (48::A) p=thoV A p:=by
 unfold thoV;by_cases hp:p<0
 ·rw[Ka hp,Ka hp];by_cases hl:(A.length:Int)+p<0
  ·have h1:(((48::A:Str).length:Int)+p).toNat=0:=by rw[Ia];omega
   grind
  ·have h1:(((48::A:Str).length:Int)+p).toNat=((A.length:Int)+p).toNat+1:=by rw[Ia];omega
   rw[h1,df,AP]
 ·rw[Ga hp,Ga hp,AP]
theorem rD(d:UInt8)(y:Str)(hd:digB d=true):Zp (48::46::d::y)=Zp (46::d::y):=by
 have hs:Sg 48=false/\Sg 46=false:=by decide
 have hq1:Hg (48::46::d::y)=46::d::y:=rfl;have hq2:Hg (46::d::y)=46::d::y:=rfl;have he:zC (48::46::d::y)=zC (46::d::y):=by rw[QH,QH,hq1,hq2]
 have hv:(numP (48::46::d::y)).val=(numP (46::d::y)).val:=by have h1:numP (48::46::d::y)=⟨[],[48],dotP (46::d::y),expP (zS (46::d::y)).1⟩:=rfl;have h2:numP (46::d::y)=⟨[],[],dotP (46::d::y),expP (zS (46::d::y)).1⟩:=rfl;rw[h1,h2];unfold NumP.val;simp only[Ed,Ic,zAJ]
 have hn:nbS (46::d::y)=true:=hd;rw[Xu,Ga (by decide),Ga (by decide),show((48:UInt8)==35)=false from rfl,Yc,Ga (by decide),show nbS (48::46::d::y)=true from rfl,Ka rfl,
  Xu,Ga (by decide),Ga (by decide),show((46:UInt8)==35)=false from rfl,Yc,Ga (by decide),hn,Ka rfl]
 unfold zA;rw[he,hv]
theorem capG(cap:Nat): ∀(l:Str) (n:Nat),valG n l<=cap->capF cap n l=valG n l
 |[],n,_=>rfl
 |c::l,n,h=>by
  have h1:valG n (c::l)=valG (decN n c) l:=rfl;rw[h1]at h ⊢;have h2:decN n c<=valG (decN n c) l:=by rw[Fx l (decN n c)];have:=Bf (decN n c) (xg (n:=l.length) (show 0<10 by omega));omega
  rw[capF,Nat.min_eq_right (Pb h2 h)];exact capG cap l (decN n c) h
theorem oW: ∀(k n:Nat),n*10 ^ k<=1000->Ej k n=n*10 ^ k
 |0,n,_=>by rw[Ej,Nat.pow_zero,Ui]
 |k+1,n,h=>by
  have hm:Pi=1000000000000:=rfl;rw[Ej];have hpos:0<10 ^ k:=xg (by omega);have e:n*10 ^ (k+1)=10*n*10 ^ k:=by rw[Nat.pow_succ,Rh 10 n,og,Rh (10 ^ k) 10]
  have h1:10*n<=10*n*10 ^ k:=Bf _ hpos;by_cases h0:n=0
  ·subst h0;simp
  ·rw[Ga (by omega),Nat.min_eq_right (by omega),oW k (10*n) (by omega),e]
theorem bY{n:Int}{p:Bool}(hp:(partT (n.natAbs%1000) p).isEmpty=false){U:Str}(hU:past digB U=U)(hx:expS U=none):
  (numP (46::(partT (n.natAbs%1000) p++U))).val=((n.natAbs%1000:Nat):Int):=by
 obtain⟨k1,k2,k3,_,_⟩:=Tp (r:=n.natAbs%1000) (by omega) p;generalize partT (n.natAbs%1000) p=F at*;obtain⟨c,r,rfl⟩:=Fj (show F≠[] by grind);have hc:digB c=true:=by rw[Sd,Da]at k1;exact k1.1
 have hq:Hg (46::(c::r++U))=46::(c::r++U):=rfl;have hpast:past digB (c::r++U)=U:=by rw[iC _ _ k1,hU]
 have hw:zS (46::(c::r++U))=(U,false):=by unfold zS;rw[show atS (46::(c::r++U)) 1=c from rfl,hc,show(atS (46::(c::r++U)) 0==46&&true)=true from rfl,Ka rfl,show(46::(c::r++U)).drop 1=c::r++U from rfl,hpast]
 have hrun:List.takeWhile digB (c::r++U)=c::r:=by have:=Hy digB (c::r++U);rw[hpast]at this;exact List.append_cancel_right this
 have hd:dotP (46::(c::r++U))=some (c::r):=by unfold dotP;rw[show atS (46::(c::r++U)) 1=c from rfl,hc,show(atS (46::(c::r++U)) 0==46&&true)=true from rfl,Ka rfl,show(46::(c::r++U)).drop 1=c::r++U from rfl,hrun]
 have he:expP U=none:=by unfold expP;rw[Yn]at hx;rw[hx,Ga (by decide)]
 have hP:numP (46::(c::r++U))=⟨[],[],some (c::r),none⟩:=by show(⟨sgOf (46::(c::r++U)),_,dotP (46::(c::r++U)),expP (zS (46::(c::r++U))).1⟩:NumP)=_;rw[hd,hw,he];rfl
 rw[hP];unfold NumP.val;show(((thoV ([]++(c::r)) (3+0 - ((c::r:Str).length:Int))):Nat):Int)=_;unfold thoV;rw[Ic,Ga (by omega),show(3+0 - ((c::r:Str).length:Int)).toNat=3 - (c::r:Str).length by omega];have hle:valG 0 (c::r)<=1000:=by have:=Bf (valG 0 (c::r)) (xg (n:=3 - (c::r:Str).length) (show 0<10 by omega));omega
 rw[capG _ _ _ (by unfold Pi;omega),oW _ _ (by omega),k3]
theorem pX{m:Nat}(h:m=0):Lib.decDigits m=[48]:=by subst h;decide+kernel
theorem wB{t:zb}{U:Str}(hU:U=[]/\t.kind=10\/U=[37]\/ ∃u,u≠[]/\Zn u=true/\U=kg u):past digB U=U/\expS U=none/\(U=[]\/U=[37]\/(nmS U=true/\(zm U).2=[])):=by
 rcases hU with⟨rfl,_⟩|rfl|⟨u,h0,h,rfl⟩
 ·exact⟨rfl,rfl, .inl rfl⟩
 ·exact⟨rfl,rfl, .inr (.inl rfl)⟩
 ·have hn:=VG h0 h;have e1:=(wG hn []).1;have e2:=gT h0 h (x:=[]) (.inl rfl);have e3:=GJ h0 h [];rw[Ab]at e1 e2 e3;exact⟨e1,e2, .inr (.inr ⟨hn,by rw[e3,qN]⟩)⟩
theorem CG(n:Int)(p:Bool)(U:Str):past digB (unsign (numT n p++U))=past digB (dotS (if(partT (n.natAbs%1000) p).isEmpty then none else some (partT (n.natAbs%1000) p))++U):=q2_T n p U
theorem EH{n:Int}{p:Bool}(U:Str)(hp:(partT (n.natAbs%1000) p).isEmpty=true):past digB (unsign (numT n p++U))=past digB U:=by rw[CG,hp];rfl
theorem BH{n:Int}{p:Bool}(U:Str)(hp:(partT (n.natAbs%1000) p).isEmpty=false):past digB (unsign (numT n p++U))=46::(partT (n.natAbs%1000) p++U):=by rw[CG,hp];rfl
theorem zDB(z:Str):expS (46::z)=none:=rfl
theorem PW(z:Str):nmS (46::z)=false:=rfl
theorem PY{s r:Str}{P:List zb}(h:PcT s P)(hd:digB (atS s 0)=true)(hr:r=past digB s)(hn:nmS r=false)(h37:(atS r 0==37)=false)(hT:qi r=P):ShS s r:=by
 have hun:unsign s=s:=by unfold unsign Sg;rw[Fa.2 (QV hd).1,Fa.2 (QV hd).2.1];rfl
 obtain⟨n,p,U,t,rfl,rfl,hnum,hU⟩:=UF h (by grind);obtain⟨u1,u2,u3⟩:=wB hU;rw[<-hun,CG]at hr;cases hp:(partT (n.natAbs%1000) p).isEmpty with
 |true=>
  rw[hp]at hr;have hr':r=U:=by rw[hr];exact u1
  subst hr';rcases u3 with rfl|rfl|⟨hu,_⟩
  ·rw[QE (Z4 rfl)]at hT;cases hT
  ·cases h37
  grind
 |false=>
  rw[hp]at hr;have hr':r=46::(partT (n.natAbs%1000) p++U):=by rw[hr];rfl
  have hv:=bY hp u1 u2;obtain⟨c,q,hF⟩:=Fj (show partT (n.natAbs%1000) p≠[] by grind);have hdig:=PH (n:=n) (p:=p);have hc:digB c=true:=by rw[hF,Sd,Da]at hdig;exact hdig.1
  have hcm:cmtS r=46::(partT (n.natAbs%1000) p++U):=by rw[hr'];exact Z4 rfl
  rw[QJ hcm]at hT;injection hT with hT _;have hnx:Zp (46::(partT (n.natAbs%1000) p++U))=zA (46::(partT (n.natAbs%1000) p++U)):=by
   have hnb:nbS (46::(partT (n.natAbs%1000) p++U))=true:=by rw[hF];exact hc
   rw[Xu,Ga (by decide),Ga (by decide),show((46:UInt8)==35)=false from rfl,Yc,Ga (by decide),hnb,Ka rfl]
  have hval: ∀q:Str,(zA q).1.num=(numP q).val:=by
   intro q;unfold zA;split
   ·rfl
   ·split<;>rfl
  rw[hnx]at hT;have h1:=hval (46::(partT (n.natAbs%1000) p++U));rw[hT,hv,hnum]at h1;have hz:n.natAbs / 1000=0:=by omega
  have hs:numT n p++U=48::46::c::(q++U):=by rw[Uw,hp,pX hz,hF];unfold sgT;rw[Ga (by omega)];rfl
  right;exact⟨c,q++U,hc,hs,by rw[hr',hF];rfl⟩
theorem oQ: ∀(y r:Str),y.all letB=true->zm (y++r)=(y++(zm r).1,(zm r).2)
 |[],r,_=>rfl
 |c::y,r,h=>by rw[Sd,Da]at h;rw[ma,zG,Ka h.1,oQ y r h.2];rfl
theorem zBZ{l:Str}(h:l.all digB=true):l.all letB=true:=by
 rw[Ya]at h ⊢;intro b hb;unfold letB
 grind
theorem RY{s r:Str}{P:List zb}(h:PcT s P)(he:atS s 0=101\/atS s 0=69)(hd:digB (atS (unsign (s.drop 1)) 0)=true)(hr:r=past digB (unsign (s.drop 1)))(hT:qi r=P):False:=by
 obtain⟨l,t,z,hl,rfl,hk,ht,rfl,hz⟩:=zD5 h he;obtain⟨c,q,e⟩:=Fj (Jk h);have hnz:zm z=([],z):=by rcases hz with rfl|rfl;exact qN;exact tH []
 have hname:zm (ql l++z)=(l,z):=by rw[Ao z hl,hnz,Ab]
 rw[e]at he hd hr hname;rw[show(c::q).drop 1=q from rfl]at hd hr;have hc:letB c=true:=by rcases he with h|h<;>(rw[show c=_ from h];rfl)
 -- the sign is a dash, or none
 have hsg:(sgOf q).all letB=true:=by
  unfold sgOf;cases hs:Sg (atS q 0)with
  |false=>rfl
  |true=>
   rw[Ka rfl];unfold Sg at hs;rw[Md,Lb,Lb]at hs;rcases hs with hs|hs
   ·exfalso;cases q with
    |nil=>cases hs
    |cons d q'=>
     rw[show d=43 from hs,zG,Ka hc,zG,Ga (by decide),Ga (by unfold escS;rw[show atS (43::q') 0=43 from rfl];simp)]at hname
     grind
   ·rw[hs];rfl
 have hsplit:c::q=(c::(sgOf q++(unsign q).takeWhile digB))++r:=by rw[hr,ma,Ra,Hy,SF]
 have hall:(c::(sgOf q++(unsign q).takeWhile digB)).all letB=true:=by rw[Sd,hc,Mg,hsg,zBZ (TB digB _)];rfl
 rw[hsplit,oQ _ _ hall]at hname;injection hname with hn1 hn2;have hcm:cmtS r=r:=by
  refine Z4 ?_;cases r with
  |nil=>rfl
  |cons d u=>
   refine lv (Fa.2 ?_);rintro rfl;rw[zG,Ga (by decide),Ga (by unfold escS;rw[show atS (47::u) 0=47 from rfl];simp)]at hn2
   grind
 cases r with
 |nil=>rw[QE hcm]at hT;cases hT
 |cons d u=>
  rw[QJ hcm]at hT;injection hT with hT _;have hbr:=Un d u;rw[hT]at hbr;have hbr':brS d u=7:=by rcases hk with hk|hk<;>(rw[hk]at hbr;exact hbr.symm)
  have hx:t.text=(zm (d::u)).1:=by
   rw[<-hT,qm,hbr',Pj];have hk':(qC (d::u)).1.kind=1\/(qC (d::u)).1.kind=2:=by
    have:(qC (d::u)).1=t:=by rw[<-hT,qm,hbr',Pj]
    rw[this];exact hk
   unfold qC at hk' ⊢;split
   ·rename_i h40;rw[Ka h40]at hk';split
    ·rename_i h2;rw[Ka h2]at hk';rcases TH (urlS (past spB ((zm (d::u)).2.drop 1))).1 with hh|hh<;>rcases hk' with hk'|hk'<;>rw[show(Tj (urlS (past spB ((zm (d::u)).2.drop 1))).1).kind=_ from hk']at hh<;>cases hh
    ·rfl
   ·rfl
  rw[<-hx,ht]at hn1;have:=congrArg List.length hn1
  grind
theorem Y7{z r:Str}(h:zS z=(r,true)):r=z:=by
 unfold zS at h
 grind
theorem DY{z r:Str}(h:(match expS (zS z).1 with|some r=>(r,false)|none=>zS z)=(r,true)):r=z:=by
 cases hx:expS (zS z).1 with
 |some y=>grind
 |none=>rw[hx]at h;exact Y7 h
theorem zBO{z r:Str}{b:Bool}(h:(match expS z with|some r=>(r,false)|none=>(z,false))=(r,b)):r=z\/expS z=some r:=by
 grind
theorem eQ{t:zb}{s r:Str}{P:List zb}(ht:zgg t)(h:PcT s P)(hr:MW t s r)(hT:qi r=P):ShS s r:=by
 have hP:P≠[]:=by cases h<;>simp
 have hrne:r≠[]:=by rintro rfl;rw[QE (Z4 rfl)]at hT;exact hP hT.symm
 have nodig:digB (atS s 0)=false->past digB s=s:=by
  intro hd;cases s with
  |nil=>rfl
  |cons c q=>rw[past,show digB c=false from hd];rfl
 rcases hr with hr|⟨_,hr⟩|⟨hk,he,hn,h37⟩|⟨_,sg,hsg,hd,hn,hr⟩
 ·exact .inl hr
 ·cases hsp:spB (atS s 0)with
  |true=> rw[zEL h hsp]at hr;exact absurd hr hrne
  |false=>
   left;rw[hr];cases s with
   |nil=>rfl
   |cons c q=>rw[past,show spB c=false from hsp];rfl
 ·cases ht with
  |cNum n f h1 h2 hf=>
   have he':zC (numT n (!f)++s)=(r,f):=he;have hcase:r=past digB s\/expS (past digB s)=some r:=by
    cases hp:(partT (n.natAbs%1000) (!f)).isEmpty with
    |true=> left;rw[aG hp]at he';rw[WI hf]at hp;subst hp;exact DY he'
    |false=> rw[KG hp]at he';exact zBO he'
   cases hd:digB (atS s 0)with
   |true=>
    rcases hcase with hr|hx
    ·exact PY h hd hr hn h37 hT
    ·exfalso;have hun:unsign s=s:=by unfold unsign Sg;rw[Fa.2 (QV hd).1,Fa.2 (QV hd).2.1];rfl
     obtain⟨n2,p2,U,t2,rfl,rfl,_,hU⟩:=UF h (by grind);obtain⟨u1,u2,_⟩:=wB hU;rw[<-hun]at hx;cases hp:(partT (n2.natAbs%1000) p2).isEmpty with
     |true=>rw[EH U hp,u1,u2]at hx;cases hx
     |false=>rw[BH U hp,zDB]at hx;cases hx
   |false=>
    rw[nodig hd]at hcase;rcases hcase with hr|hx
    ·exact .inl hr
    ·obtain⟨h1,h2,h3⟩:=tO hx;exact(RY h h1 h2 h3 hT).elim
  |cId|cFn|cAt|cHash|cStr|cUrl|cDel|cPct|cDim=>simp at hk
  |cMark k h1 h2=>grind
 ·exfalso;have hds:digB (atS (unsign s) 0)=true/\past digB (unsign (sg++s))=past digB (unsign s):=by
   rcases hsg with rfl|rfl
   ·grind
   ·have hd':digB (atS s 0)=true:=hd;have hun:unsign s=s:=by unfold unsign Sg;rw[Fa.2 (QV hd').1,Fa.2 (QV hd').2.1];rfl
    rw[hun];exact⟨hd',rfl⟩
  obtain⟨hd1,hd2⟩:=hds;rw[hd2]at hn hr;obtain⟨n2,p2,U,t2,rfl,rfl,_,hU⟩:=UF h hd1;obtain⟨u1,_,u3⟩:=wB hU;cases hp:(partT (n2.natAbs%1000) p2).isEmpty with
  |true=>
   rw[EH U hp,u1]at hn hr;rcases u3 with rfl|rfl|⟨_,hu⟩
   ·cases hn
   ·cases hn
   grind
  |false=>rw[BH U hp,PW]at hn;cases hn
abbrev cmtW:Str:=[47,42,42,47]
theorem BG{s:Str}{P:List zb}(h:PcT s P)(x:Str)(hx:atS x 0≠42):([47,42]:Str).isPrefixOf (s++x)=false:=by
 obtain⟨c,r,rfl⟩:=Fj (Jk h);by_cases hc:c=47
 ·have:=VB h (.inl rfl) hc;rw[this];cases x with
  |nil=>rfl
  |cons d t=> show((47==(47:UInt8))&&((42==d)&&_))=false;have:((42:UInt8)==d)=false:=Fa.2 (fun e=>hx e.symm);rw[this,Yc,xe]
 ·exact lv (Fa.2 hc)
theorem dA{s:Str}{P:List zb}(h:PcT s P):cmtS s=s:=by
 refine Z4 ?_;have:=BG h [] (by decide)
 rwa [Ab]at this
theorem JG(x:Str):Zp (92::10::x)=(⟨9,[92],0,[],false⟩,10::x):=rfl
theorem M8{l:Str}(h0:l≠[])(h:Zn l=true)(hl:lowS l=[117,114,108])(b:Bool)(w:Str):
  Zp (ql l++40::((if b then [32]else [])++34::w))=(⟨2,l,0,[],false⟩,(if b then [32]else [])++34::w):=by
 have hn:=TA h0 ((if b then [32]else [])++34::w);have hnd:=jM h ((if b then [32]else [])++34::w);obtain⟨c,r,e⟩:=Fj (Xl hn);rw[e]at hn hnd ⊢;rw[qm,gB hn (by rw[hnd];intro t e;injection e with e _;cases e),Pj];unfold qC;rw[hnd];simp only;have hp:atS (past spB ((40::((if b then [32]else [])++34::w)).drop 1)) 0=34:=by cases b<;>rfl
 rw[Ka (by rfl),hl,hp,Ga (by decide)];rfl
theorem CX{l:Str}(h:lowS l=[117,114,108]):l≠[]:=by rintro rfl;cases h
theorem zAR(l m x:Str)(b:Bool):(ql l++40::((if b then [32]else [])++34::(encB quoB m++[34])))++x=ql l++40::((if b then [32]else [])++34::((encB quoB m++[34])++x)):=by rw[Ra,ma,Ra];rfl
theorem WM{l m:Str}{b:Bool}(h:Zn l=true)(hl:lowS l=[117,114,108])(hm:Zn m=true)(x:Str):
  run ((ql l++40::((if b then [32]else [])++34::(encB quoB m++[34])))++x) (⟨2,l,0,[],false⟩::((if b then [tkSp]else [])++[⟨5,m,0,[],false⟩])) x:=by
 rw[zAR];have hf:=M8 (CX hl) h hl b ((encB quoB m++[34])++x);have hn:=TA (CX hl) ((if b then [32]else [])++34::((encB quoB m++[34])++x));have hs: ∀q:Str,q=34::((encB quoB m++[34])++x)->run q [⟨5,m,0,[],false⟩] x:=by rintro q rfl;have:=bH hm x;rw[ma]at this;exact⟨34,_,Z4 rfl,by rw[this],by rw[this];rfl⟩
 obtain⟨c,r,e⟩:=Fj (Xl hn);rw[e]at hf hn ⊢;have hc:c≠47:=by rintro rfl;exact absurd (show hdB 47=true from Wq hn) (by decide)
 refine⟨c,r,Z4 (lv (Fa.2 hc)),by rw[hf],?_⟩;rw[hf];cases b with
 |false=>exact hs _ rfl
 |true=> exact⟨32,34::((encB quoB m++[34])++x),Z4 rfl,rfl,hs _ rfl⟩
theorem vW{s:Str}{P:List zb}(h:PcT s P){x:Str}(hx:neu x):run (s++x) P x:=by
 cases h with
 |one t h hb hu=>
  have hn:=zBN h hb hu hx;have hp:=BG (.one t h hb hu) x (by rcases hx with rfl|⟨y,rfl⟩;exact(show(0:UInt8)≠42 by decide);exact(show(47:UInt8)≠42 by decide));obtain⟨c,r,e⟩:=Fj (Jk (.one t h hb hu));rw[e]at hn hp ⊢;exact⟨c,r++x,Z4 hp,by rw[show c::(r++x)=(c::r)++x from rfl,hn],by rw[show c::(r++x)=(c::r)++x from rfl,hn];rfl⟩
 |back=> refine⟨92,10::x,Z4 rfl,by rw[JG],?_⟩;rw[JG];refine⟨10,x,Z4 rfl,rfl,?_⟩;show past spB x=x;exact AO rfl hx
 |url l m b h hl hm=>exact WM h hl hm x
theorem zCK{u s r:Str}{p P:List zb}(hu:PcT u p)(hs:PcT s P)(hr:run (u++s) p r)(hT:qi r=P):ShS s r:=by
 cases hu with
 |one t h hb hu=>
  obtain⟨c,q,h1,h2,h3⟩:=hr;have hpu:PcT (txS t) [t]:= .one t h hb hu;rw[run]at h3;cases hp:([47,42]:Str).isPrefixOf (txS t++s)with
  |true=>
   exfalso;obtain⟨c0,r0,e⟩:=Fj (Jk hpu);by_cases hc:c0=47
   ·have e2:=VB hpu (.inl rfl) (by rw[e];exact hc);rw[e2]at hp h1;have h42:atS s 0=42:=by
     cases s with
     |nil=>cases hp
     |cons d t'=>
      have:((42:UInt8)==d)=true:=by have h':((47==(47:UInt8))&&((42==d)&&true))=true:=hp;simpa using h'
      exact(Lb.1 this).symm
    rw[VB hs (.inr rfl) h42]at h1;have:cmtS ([47]++[42])=[]:=by rw[aj];rfl
    rw[this]at h1;cases h1
   ·rw[e,ma,lv (Fa.2 hc)]at hp;cases hp
  |false=> rw[Z4 hp]at h1;rw[<-h1]at h2 h3;have:=EY h hu h2;rw[h3]at this;exact eQ h hs this hT
 |back=> obtain⟨c,q,h1,h2,h3⟩:=hr;rw[show cmtS ([92,10]++s)=92::10::s from Z4 rfl]at h1;injection h1 with e1 e2;subst e1 e2;rw[JG]at h3;obtain⟨c',q',g1,g2,g3⟩:=h3;rw[show cmtS (10::s)=10::s from Z4 rfl]at g1;injection g1 with e1 e2;subst e1 e2;rw[run]at g3;have g3':past spB s=r:=g3;exact eQ (t:=tkSp) (.cMark 13 (by omega) (by omega)) hs (.inr (.inl ⟨rfl,g3'.symm⟩)) hT
 |url l m b h hl hm=>exact .inl (JM hr (WM h hl hm s))
def Lk(R A:Str):Prop:=cmtS R=A\/ ∃d y,digB d=true/\A=48::46::d::y/\cmtS R=46::d::y
theorem IL{R A:Str}(h:Lk R A)(hA:A≠[]):cmtS R≠[]:=by
 rcases h with h|⟨d,y,_,_,h⟩
 ·rw[h];exact hA
 ·rw[h];simp
theorem EX{R A x:Str}(h:Lk R A)(hA:A≠[])(hp:([47,42]:Str).isPrefixOf (A++x)=false):Lk (R++x) (A++x):=by
 rcases h with h|⟨d,y,hd,rfl,h⟩
 ·left;rw[Ay (by rw[h];exact hA) (by rw[h];exact hp),h]
 ·right;exact⟨d,y++x,hd,rfl,by rw[Ay (by rw[h];simp) (by rw[h];rfl),h];rfl⟩
theorem DX{R A:Str}(h:Lk R A)(hp:([47,42]:Str).isPrefixOf A=false){t:zb}{ts:List zb}{r:Str}:run R (t::ts) r↔run A (t::ts) r:=by
 rcases h with h|⟨d,y,hd,rfl,h⟩
 ·rw[<-KM (q:=R) (by simp),h]
 ·rw[<-KM (q:=R) (by simp),h];constructor
  ·rintro⟨c,q,h1,h2,h3⟩;rw[Z4 rfl]at h1;rw[<-h1]at h2 h3;exact⟨48,46::d::y,Z4 rfl,by rw[rD d y hd];exact h2,by rw[rD d y hd];exact h3⟩
  ·rintro⟨c,q,h1,h2,h3⟩;rw[Z4 rfl]at h1;rw[<-h1,rD d y hd]at h2 h3;exact⟨46,d::y,Z4 rfl,h2,h3⟩
theorem mM{R A:Str}(h:Lk R A):qi R=qi A:=by
 rcases h with h|⟨d,y,hd,rfl,h⟩
 ·rw[<-LC R,h]
 ·rw[<-LC R,h,QJ (Z4 rfl),QJ (l:=48::46::d::y) (Z4 rfl),rD d y hd]
inductive Syn:Str->List zb->List (List zb×Str)->Prop
 |nil:Syn [] [] []
 |cmt (b s:Str) (ts P:List zb) (st:List (List zb×Str)) (h:Syn b ts st) (hb:b≠[]) (hp:PcT s P):Syn (b++cmtW++s) (ts++P) (st++[(ts,b++cmtW)])
 |no (b s:Str) (ts P:List zb) (st:List (List zb×Str)) (h:Syn b ts st) (hp:PcT s P) (ht:qi (b++s)=ts++P):Syn (b++s) (ts++P) (st++[(ts,b)])
def Bd(b:Str)(ts L:List zb)(B:Str)(m:Nat):Prop:= ∃A R us,b=B++A/\A≠[]/\ts=L++us/\us≠[]/\run b L R/\Lk R A/\m<=R.length/\m<=A.length
structure zDm (b:Str) (ts:List zb) (st:List (List zb×Str)):Prop where
 tok:qi b=ts
 bd: ∀k (h:k<st.length),Bd b ts st[k].1 st[k].2 (st.length - k)
 last:(st=[]/\b=[]/\ts=[])\/ ∃L B u p R,PcT u p/\b=B++u/\ts=L++p/\run b L R/\Lk R u
theorem pc_P{s:Str}{P:List zb}(h:PcT s P): ∃t us,P=t::us:=by cases h<;>exact⟨_,_,rfl⟩
theorem VX {b x:Str} {ts P L:List zb} {B:Str} {m:Nat} (h:Bd b ts L B m) (hx:x≠[])
  (hrun: ∀R,R≠[]->run b L R->(∃A,A≠[]/\Lk R A/\b=B++A)->run (b++x) L (R++x)/\(∀A,A≠[]->Lk R A->b=B++A->Lk (R++x) (A++x))):Bd (b++x) (ts++P) L B (m+1):=by
 obtain⟨A,R,us,h1,h2,h3,h4,h5,h6,h7,h8⟩:=h;have hR:R≠[]:=by intro e;have:=IL h6 h2;rw[e]at this;exact this (Z4 rfl)
 obtain⟨g1,g2⟩:=hrun R hR h5 ⟨A,h2,h6,h1⟩;refine⟨A++x,R++x,us++P,by rw[h1,Ra],by simp[h2],by rw[h3,Ra],by simp[h4],g1,g2 A h2 h6 h1,?_⟩;have:=ae.2 hx;rw[Ba,Ba];omega
theorem PX{q:Str}(h:cmtS q=[47]):cmtS (q++[42])=[]:=by
 rw[aj q]at h;cases hp:([47,42]:Str).isPrefixOf q with
 |true=>
  have hl:=Sn hp;rw[show([47,42]:Str).length=2 from rfl]at hl;rw[hp,Ka rfl]at h;cases hc:clsS (q.drop 2)with
  |none=>rw[hc]at h;cases h
  |some p=>
   rw[hc]at h;have h2:p.length<q.length:=by have h2:=(ul _ hc).2;rw[Dc]at h2;omega
   rw[aj,yt [42] (by exact hl),hp,Ka rfl,Cu hl,fG [42] hc];exact PX h
 |false=> rw[hp,Ga (by decide)]at h;subst h;rw[aj];rfl
termination_by q.length
theorem zCS{q s:Str}{P us:List zb}(hs:PcT s P)(h:NW q s us)(hus:us≠[]):False:=by
 obtain⟨c,r,_,⟨⟨e,fl,hee,hw⟩,h43,hk,hds⟩,hsame,hT⟩:=h;have hbr:=Un c (r++s);rw[hsame,hk]at hbr;have hbr':brS c (r++s)=3:=hbr.symm;have hnx:Zp (c::(r++s))=zA ((c::r)++s):=by rw[qm,hbr',Dk];rfl
 have hq2:Hg (c::r)≠[]:=by intro e2;rw[e2]at hw;cases congrArg Prod.fst hw
 have e2:Hg ((c::r)++s)=Hg (c::r)++s:=by unfold Hg;rw[(Eo s (by simp)).1];exact Am s hq2
 have hw2:=(xP (q:=Hg (c::r)) (x:=s) (by rw[hw];simp) (fun e3=>by
  rw[e3]at hw;have:=congrArg Prod.fst hw;cases this)).1
 have hexp:expS ([e,43]++s)=some (past digB s):=by
  unfold expS;have h1:(atS ([e,43]++s) 0==101||atS ([e,43]++s) 0==69)=true:=by rcases hee with rfl|rfl<;>rfl
  have h2:unsign (([e,43]++s).drop 1)=s:=rfl;rw[h1,Ka rfl,h2,hds,Ka rfl]
 have hend:zC ((c::r)++s)=(past digB s,false):=by rw[QH,e2,hw2,hw];simp only[hexp]
 have hk2:(zA ((c::r)++s)).1.kind=12:=by rw[<-hnx,hsame,hk]
 rw[hnx]at hT;unfold zA at hk2 hT;rw[hend]at hk2 hT;simp only at hk2 hT;have hun:unsign s=s:=by unfold unsign Sg;rw[Fa.2 (QV hds).1,Fa.2 (QV hds).2.1];rfl
 cases hn:nmS (past digB s)with
 |false=>
  rw[hn,Ga (by decide)]at hk2;split at hk2<;>cases hk2
 |true=>
  rw[hn,Ka rfl]at hT;obtain⟨n2,p2,U,t2,_,rfl,_,hU⟩:=UF hs (by rw[hun];exact hds);obtain⟨u1,_,u3⟩:=wB hU;rw[<-hun]at hn hT;cases hp:(partT (n2.natAbs%1000) p2).isEmpty with
  |true=>
   rw[EH U hp,u1]at hn hT;rcases u3 with rfl|rfl|⟨_,hu⟩
   ·cases hn
   ·cases hn
   ·rw[hu,QE (Z4 rfl)]at hT;exact hus hT.symm
  |false=>rw[BH U hp,PW]at hn;cases hn
theorem VW{R A:Str}(h:Lk R A)(hA:A≠[])(y:Str):Lk (R++47::42::y) (A++47::42::y):=by
 rcases h with h|⟨d,z,hd,rfl,h⟩
 ·left;rw[GG y (by rw[h];exact hA),h]
 ·right;exact⟨d,z++47::42::y,hd,rfl,by rw[GG y (by rw[h];simp),h];rfl⟩
theorem yX{s:Str}{P:List zb}(h:PcT s P):cmtS (47::42::42::47::s)=s:=by rw[aj];exact dA h
theorem xG{s:Str}{P:List zb}(h:PcT s P):qi s=P:=by have:=Gu (vW h (x:=[]) (.inl rfl));rw[Ab,QE (Z4 rfl),Ab]at this;exact this
theorem P7{α:Type}{l a:List α}(h:l++a=l):a=[]:=by have:=congrArg List.length h;rw[Ba]at this;exact Cf.1 (by omega)
theorem pF{b:Str}{ts:List zb}{st:List (List zb×Str)}(h:Syn b ts st):zDm b ts st:=by
 induction h with
 |nil=>exact⟨QE (Z4 rfl),fun k h=>(by cases h), .inl ⟨rfl,rfl,rfl⟩⟩
 |cmt b s ts P st h hb hp ih=>
  obtain⟨ht,hbd,hl⟩:=ih;have hx:b++cmtW++s=b++47::42::(42::47::s):=by rw[Ra];rfl
  obtain⟨t0,us0,hP0⟩:=pc_P hp;have hrun:run (b++47::42::(42::47::s)) ts (47::42::(42::47::s)):=by
   rcases hl with⟨_,e,_⟩|⟨L,B,u,p,R,g1,g2,g3,g4,g5⟩
   ·exact absurd e hb
   ·have hR:R≠[]:=by intro e;have:=IL g5 (Jk g1);rw[e]at this;exact this (Z4 rfl)
    obtain⟨t1,us1,hp1⟩:=pc_P g1;rw[g3];refine MH (gF (42::47::s) g4 hR) ?_;have h1:=vW g1 (x:=47::42::(42::47::s)) (.inr ⟨_,rfl⟩);rw[hp1]at h1 ⊢;exact(DX (VW g5 (Jk g1) (42::47::s)) (BG g1 _ (by show(47:UInt8)≠42;decide))).2 h1
  have hlk:Lk (47::42::(42::47::s)) s:= .inl (yX hp);rw[hx];refine⟨?_,?_, .inr ⟨ts,b++cmtW,s,P,_,hp,by rw[Ra];rfl,rfl,hrun,hlk⟩⟩
  ·rw[Gu hrun,mM hlk,xG hp]
  ·intro k hk;rw[Ba,Eb]at hk;by_cases hk2:k<st.length
   ·rw[List.getElem_append_left hk2];have:=VX (P:=P) (x:=47::42::(42::47::s)) (hbd k hk2) (by simp) (fun R hR h5 _=>⟨gF _ h5 hR,fun A hA h6 _=>VW h6 hA _⟩);rw[show st.length - k+1=(st++[(ts,b++cmtW)]).length - k by rw[Ba,Eb];omega]at this;exact this
   ·have hke:k=st.length:=by omega
    subst hke;rw[List.getElem_append_right (by omega)];simp only[Ph,List.getElem_cons_zero];refine⟨s,_,P,by rw[Ra];rfl,Jk hp,rfl,by rw[hP0];simp,hrun,hlk,?_⟩;have:=ae.2 (Jk hp);rw[Ba,Eb];simp only[Ia];omega
 |no b s ts P st h hp ht0 ih=>
  obtain⟨ht,hbd,hl⟩:=ih;obtain⟨t0,us0,hP0⟩:=pc_P hp;have hPne:P≠[]:=by rw[hP0];simp
  have hsne:=Jk hp
  -- what is ahead stays
  have keep: ∀(L us:List zb) (R:Str),ts=L++us->R≠[]->run b L R->run (b++s) L (R++s):=by
   intro L us R hts hR hrun;rcases lN (us:=us++P) hrun hR hsne (by rw[ht0,hts,Ra])with h1|⟨_,q,_,h1⟩
   ·exact h1
   ·exact(zCS hp h1 (by simp[hPne])).elim
  have keepLk: ∀(L us:List zb) (R A:Str),ts=L++us->run (b++s) L (R++s)->A≠[]->Lk R A->Lk (R++s) (A++s):=by
   intro L us R A hts hrun hA hlk;cases hpre:([47,42]:Str).isPrefixOf (A++s)with
   |false=>exact EX hlk hA hpre
   |true=>
    exfalso;rcases hlk with h1|⟨d,y,_,rfl,_⟩
    ·cases A with
     |nil=>exact hA rfl
     |cons c r=>
      cases r with
      |cons d t=>
       have:=yx R;rw[h1,<-OH t s,hpre]at this;cases this
      |nil=>
       have hc:c=47:=by
        cases hcc:(47:UInt8)==c with
        |true=>exact(Lb.1 hcc).symm
        |false=>
         have:([47,42]:Str).isPrefixOf ([c]++s)=false:=by show(((47:UInt8)==c)&&_)=false;rw[hcc];rfl
         rw[this]at hpre;cases hpre
       subst hc;have h42:s=[42]:=by
        refine VB hp (.inr rfl) ?_;cases s with
        |nil=>exact absurd rfl hsne
        |cons d t=>
         have h':(((47:UInt8)==47)&&(((42:UInt8)==d)&&true))=true:=hpre;have:((42:UInt8)==d)=true:=by simpa using h'
         exact(Lb.1 this).symm
       have h3:=Gu hrun;rw[ht0,hts,h42,QE (PX h1),Ab,Ra]at h3;have:=P7 h3;exact hPne (List.append_eq_nil_iff.1 this).2
    ·cases hpre
  rcases hl with⟨e1,e2,e3⟩|⟨L,B,u,p,R,g1,g2,g3,g4,g5⟩
  ·subst e1 e2 e3;refine⟨ht0,?_, .inr ⟨[],[],s,P,s,hp,rfl,rfl,rfl, .inl (dA hp)⟩⟩;intro k hk;have hke:k=0:=by rw[Ba,Eb,Lc]at hk;omega
   subst hke;exact⟨s,s,P,rfl,hsne,rfl,hPne,rfl, .inl (dA hp),ae.2 hsne,ae.2 hsne⟩
  ·have hR:R≠[]:=by intro e;have:=IL g5 (Jk g1);rw[e]at this;exact this (Z4 rfl)
   have h1:=keep L p R g3 hR g4;have h2:=keepLk L p R u g3 h1 (Jk g1) g5;have h3:=Gu h1;rw[ht0,g3,Ra]at h3;have h4:=List.append_cancel_left h3;obtain⟨r,h5,h6⟩:=aN h4.symm;have hsh:ShS s r:=by
    obtain⟨t1,us1,hp1⟩:=pc_P g1;refine zCK g1 hp ?_ h6;have hpre:([47,42]:Str).isPrefixOf (u++s)=false\/cmtS (R++s)=[]:=by
     rcases h2 with h2|⟨d,y,hd,h2,_⟩
     ·left;rw[<-h2];exact yx _
     ·left;rw[h2];rfl
    rcases hpre with hpre|hpre
    ·rw[hp1]at h5 ⊢;exact(DX h2 hpre).1 h5
    ·rw[hp1]at h5;obtain⟨c,q,e,_⟩:=h5;rw[hpre]at e;cases e
   have hrun:run (b++s) ts r:=by rw[g3];exact MH h1 h5
   have hlk:Lk r s:=by
    rcases hsh with rfl|⟨d,y,hd,e1,e2⟩
    ·exact .inl (dA hp)
    ·right;exact⟨d,y,hd,e1,by rw[e2];exact Z4 rfl⟩
   have hrl:1<=r.length:=by
    rcases hsh with rfl|⟨d,y,_,_,e2⟩
    ·exact ae.2 hsne
    ·rw[e2];simp
   refine⟨ht0,?_, .inr ⟨ts,b,s,P,r,hp,rfl,rfl,hrun,hlk⟩⟩;intro k hk;rw[Ba,Eb]at hk;by_cases hk2:k<st.length
   ·rw[List.getElem_append_left hk2];obtain⟨A0,R0,us,f1,f2,f3,f4,f5,f6,f7,f8⟩:=hbd k hk2;have:=VX (P:=P) (x:=s) ⟨A0,R0,us,f1,f2,f3,f4,f5,f6,f7,f8⟩ hsne (fun R hR h5 _=>⟨keep _ us R f3 hR h5,fun A hA h6 _=>keepLk _ us R A f3 (keep _ us R f3 hR h5) hA h6⟩);rw[show st.length - k+1=(st++[(ts,b)]).length - k by rw[Ba,Eb];omega]at this;exact this
   ·have hke:k=st.length:=by omega
    subst hke;rw[List.getElem_append_right (by omega)];simp only[Ph,List.getElem_cons_zero];refine⟨s,r,P,rfl,hsne,rfl,hPne,hrun,hlk,?_⟩;have:=ae.2 hsne;rw[Ba,Eb];omega
def pcN:List zb->Nat
 |[]=>0
 |t::r=>if t.kind==9&&t.text==[92]then 2 else if Mh t then(if si r then 3 else 2)else 1
def catT:List zb->Str
 |[]=>[]
 |t::r=>txS t++catT r
def pcS:List zb->Str
 |[]=>[]
 |t::r=>if t.kind==9&&t.text==[92]then [92,10]else catT (t::r)
theorem UN{t:zb}(h:ng t=true)(hk:(t.kind==13)=true):t=tkSp:=by
 rw[Lb]at hk;cases Er h with
 |cId|cFn|cAt|cHash|cStr|cUrl|cDel|cNum|cPct|cDim=>simp at hk
 |cMark k h1 h2=>grind
theorem IX{t:zb}(h:ng t=true)(hk:(t.kind==5)=true): ∃m,Zn m=true/\t=⟨5,m,0,[],false⟩:=by
 rw[Lb]at hk;cases Er h with
 |cStr l h'=>grind
 |cId|cFn|cAt|cHash|cUrl|cDel|cNum|cPct|cDim=>simp at hk
 |cMark k h1 h2=>grind
theorem zDE{t:zb}(h:ng t=true)(hk:(t.kind==9&&t.text==[92])=true):t=⟨9,[92],0,[],false⟩:=by
 rw[Da,Lb,Lb]at hk;cases Er h with
 |cDel c h=>grind
 |cId|cFn|cAt|cHash|cStr|cUrl|cNum|cPct|cDim=>simp at hk
 |cMark k h1 h2=>grind
theorem gY{t:zb}(h:ng t=true)(hk:Mh t=true): ∃l,Zn l=true/\lowS l=[117,114,108]/\t=⟨2,l,0,[],false⟩:=by
 unfold Mh at hk;rw[Da,Lb,Lb]at hk;cases Er h with
 |cFn l h0 h'=>grind
 |cId|cAt|cHash|cStr|cUrl|cDel|cNum|cPct|cDim=>simp at hk
 |cMark k h1 h2=>grind
theorem zEH{t:zb}(h:(t.kind==9&&t.text==[92])=false): ¬(t.kind=9/\t.text=[92]):=by
 grind
theorem Iy(t:zb)(r:List zb):pcN (t::r)=if t.kind==9&&t.text==[92]then 2 else if Mh t then(if si r then 3 else 2)else 1:=rfl
theorem kQ(t:zb)(r:List zb):okAt (t::r)=((!(t.kind==9&&t.text==[92])||si r)&&(!(Mh t)||Sl r)):=rfl
theorem nD(s:zb)(r:List zb):Sl (s::r)=(bif s.kind==13 then(match r with|u::_=>u.kind==5|[]=>false)else s.kind==5):=rfl
theorem zEK{t:zb}{r:List zb}(hf: ∀u∈t::r,ng u=true)(ho:okAt (t::r)=true): ∃P Q,t::r=P++Q/\P.length=pcN (t::r)/\PcT (pcS P) P:=by
 have hft:=hf t (Fb ..);rw[kQ,Da]at ho;rw[Iy];cases h9:t.kind==9&&t.text==[92]with
 |true=>
  rw[h9,Oc,jd]at ho;rw[Ka rfl];cases r with
  |nil=>cases ho.1
  |cons s r=> have hs:=UN (hf s (by simp)) ho.1;have ht:=zDE hft h9;subst hs ht;exact⟨[⟨9,[92],0,[],false⟩,tkSp],r,rfl,rfl, .back⟩
 |false=>
  rw[Ga (by decide)];cases hu:Mh t with
  |false=>
   rw[Ga (by decide)];have hp:pcS [t]=txS t:=by show(if(t.kind==9&&t.text==[92])=true then [92,10]else txS t++[])=_;rw[h9,Ga (by decide),Ab]
   exact⟨[t],r,rfl,rfl,by rw[hp];exact .one t (Er hft) (zEH h9) hu⟩
  |true=>
   rw[Ka rfl];rw[hu,Oc,jd]at ho;obtain⟨l,h1,h2,rfl⟩:=gY hft hu;have ho2:=ho.2;have catS: ∀m:Str,txS ⟨5,m,0,[],false⟩++[]=34::(encB quoB m++[34]):=fun m=>by rw[Vo,Ab]
   cases r with
   |nil=>cases ho2
   |cons s r=>
    cases hs:s.kind==13 with
    |false=>
     rw[nD,hs,Ha]at ho2;obtain⟨m,hm,rfl⟩:=IX (hf s (by simp)) ho2;rw[show si (⟨5,m,0,[],false⟩::r)=false from rfl,Ga (by decide)];refine⟨[⟨2,l,0,[],false⟩,⟨5,m,0,[],false⟩],r,rfl,rfl,?_⟩;have hp:pcS [⟨2,l,0,[],false⟩,⟨5,m,0,[],false⟩]=ql l++40::((if false then [32]else [])++34::(encB quoB m++[34])):=by show txS ⟨2,l,0,[],false⟩++(txS ⟨5,m,0,[],false⟩++[])=_;rw[catS,Tm,Ra];rfl
     rw[hp];exact .url l m false h1 h2 hm
    |true=>
     have hs':=UN (hf s (by simp)) hs;subst hs';cases r with
     |nil=>cases ho2
     |cons u r=>
      obtain⟨m,hm,rfl⟩:=IX (hf u (by simp)) ho2;rw[show si (tkSp::⟨5,m,0,[],false⟩::r)=true from rfl,Ka rfl];refine⟨[⟨2,l,0,[],false⟩,tkSp,⟨5,m,0,[],false⟩],r,rfl,rfl,?_⟩;have hp:pcS [⟨2,l,0,[],false⟩,tkSp,⟨5,m,0,[],false⟩]=ql l++40::((if true then [32]else [])++34::(encB quoB m++[34])):=by show txS ⟨2,l,0,[],false⟩++(txS tkSp++(txS ⟨5,m,0,[],false⟩++[]))=_;rw[catS,Tm,show txS tkSp=[32]from rfl,Ra];rfl
      rw[hp];exact .url l m true h1 h2 hm
theorem O0{t:zb}{r:List zb}(h:t.text.length<=big)(ho:okAt (t::r)=true):QM (t::r)=some ((pcN (t::r):Nat):Int):=by
 have e0:geti (t::r) 0=some t:=rfl;have p1:=Au (t::r) 1 13;have p15:=Au (t::r) 1 5;have p25:=Au (t::r) 2 5;unfold QM;simp only[e0,ze,Aa,gJ h (show([117,114,108]:Str).length<=big by decide),Tx,Mm];simp only[Int.natCast_one]at p1 p15;replace p25:ZK ((2,5),t::r)=_:=p25;have hp1:ZK ((1,13),t::r)=some (si r):=by rw[p1];cases r<;>rfl
 rw[hp1];rw[kQ]at ho;unfold Mh at ho;rw[Iy];unfold Mh;cases hd:(t.kind==9&&t.text==[92])with
 |true=>
  grind
 |false=>
  have hc:(bif t.kind==9 then t.text==[92]else false)=false:=by
   cases h9:t.kind==9
   ·rfl
   ·grind
  simp only[hc,hd,Ha,Ec,Hf,Xb];rw[hd,Ec,Hf,Xb]at ho;cases hu:(t.kind==2&&lowS t.text==[117,114,108])with
  |false=>
   grind
  |true=>
   rw[hu,Oc,jd]at ho;rw[Da]at hu;rw[hu.1,hu.2];simp only[Ja,Aa];cases r with
   |nil=>cases ho
   |cons s r=>
    cases hs:s.kind==13 with
    |false=>
     have e1:si (s::r)=false:=hs;have e5:ZK ((1,5),t::s::r)=some (s.kind==5):=p15;have ho5:(s.kind==5)=true:=by rw[nD,hs]at ho;exact ho
     simp only[e1,Ha,zh,e5,Aa,ho5,Oc];rfl
    |true=>
     have e1:si (s::r)=true:=hs;simp only[e1,Ja,zh,p25,Aa];cases r with
     |nil=>rw[nD,hs]at ho;cases ho
     |cons u r=>
      have ho5:(u.kind==5)=true:=by rw[nD,hs]at ho;exact ho
      show(bif !(u.kind==5)then some 0 else some (w64 (2+1)))=some 3;rw[ho5];rfl
def clB(l:Str):Bool:=l.all fun c=> !(c==0||c==12||c==13)
theorem Qu(a b:Str):clB (a++b)=(clB a&&clB b):=by unfold clB;grind
theorem iH: ∀l:Str,clB l=true->Proofs.Cl.cleanS l=l
 |[],_=>by rw[Proofs.Cl.cleanS]
 |c::r,h=>by
  unfold clB at h;rw[Sd,Da]at h;have e:=iH r h.2;have h':(c==0||c==12||c==13)=false:=by simpa using h.1
  rw[Je,Je]at h';obtain⟨⟨h0,h12⟩,h13⟩:=h';rw[Proofs.Cl.cleanS,h0,h12,h13,e]
  ·rfl
  grind
theorem Jn(c:UInt8):clB (escC c)=true/\(letB c=true->clB [c]=true)/\(c≠0->quoB c=false->clB [c]=true)/\(c≠0->urB c=false->clB [c]=true)/\(Si c.toNat=true->clB [c]=true)/\(digB c=true->clB [c]=true):=by
 have: ∀n:Nat,n<256->clB (escC (UInt8.ofNat n))=true/\(letB (UInt8.ofNat n)=true->clB [UInt8.ofNat n]=true)/\(UInt8.ofNat n≠0->quoB (UInt8.ofNat n)=false->clB [UInt8.ofNat n]=true)/\(UInt8.ofNat n≠0->urB (UInt8.ofNat n)=false->clB [UInt8.ofNat n]=true)/\(Si (UInt8.ofNat n).toNat=true->clB [UInt8.ofNat n]=true)/\(digB (UInt8.ofNat n)=true->clB [UInt8.ofNat n]=true):=by decide+kernel
 have:=this c.toNat (Ob c);simp_all
theorem Gn(dash:Bool): ∀(k:Nat) (l:Str),clB (encW dash k l)=true
 |_,[]=>by rw[encW];rfl
 |k,c::r=>by
  obtain⟨h1,h2,_⟩:=Jn c;rw[encW,Qu,Gn dash (k - 1) r,Xc];unfold pcW
  grind
theorem cB{p:UInt8->Bool}(hp: ∀c,c≠0->p c=false->clB [c]=true): ∀l:Str,Zn l=true->clB (encB p l)=true
 |[],_=>by rw[encB];rfl
 |c::r,h=>by
  obtain⟨h1,h2⟩:=QN h;rw[encB,Qu,cB hp r h2,Xc];cases hc:p c with
  |true=>exact(Jn c).1
  |false=>exact hp c h1 hc
theorem SX{l:Str}(h:l.all digB=true):clB l=true:=by
 induction l with
 |nil=>rfl
 |cons c r ih=> rw[Sd,Da]at h;rw[show c::r=[c]++r from rfl,Qu,(Jn c).2.2.2.2.2 h.1,ih h.2];rfl
theorem cl_T(n:Int)(p:Bool):clB (numT n p)=true:=by
 obtain⟨d1,_,_⟩:=Wt (n.natAbs / 1000);have hp:=PH (n:=n) (p:=p);rw[Uw,Qu,Qu,SX d1];have h1:clB (sgT n)=true:=by unfold sgT;split<;>rfl
 rw[h1];cases (partT (n.natAbs%1000) p).isEmpty with
 |true=>rfl
 |false=> show clB (46::partT (n.natAbs%1000) p)=true;rw[show 46::partT (n.natAbs%1000) p=[46]++partT (n.natAbs%1000) p from rfl,Qu,SX hp];rfl
theorem zBR(w:Str):clB (kg w)=true:=by
 cases w with
 |nil=>rfl
 |cons c r=>
  rw[Tu];cases jk (c::r)with
  |true=>rw[Ja,Qu,(Jn c).1,Gn];rfl
  |false=>exact Gn _ _ _
theorem kL{s:Str}{P:List zb}(h:PcT s P):clB s=true:=by
 cases h with
 |one t h hb hu=>
  cases h with
  |cId l h0 h=>rw[pq];exact Gn _ _ _
  |cFn l h0 h=>rw[Tm,Qu];rw[show clB (ql l)=true from Gn _ _ _];rfl
  |cAt l h0 h=>rw[rq,show 64::ql l=[64]++ql l from rfl,Qu,show clB (ql l)=true from Gn _ _ _];rfl
  |cHash l f h0 h hbb=>
   rw[Jt,show 35::Ai f l=[35]++Ai f l from rfl,Qu];have:clB (Ai f l)=true:=by cases f<;>exact Gn _ _ _
   rw[this];rfl
  |cStr l h=>rw[Vo,show 34::(encB quoB l++[34])=[34]++(encB quoB l++[34])from rfl,Qu,Qu,cB (fun c h0 hc=>(Jn c).2.2.1 h0 hc) l h];rfl
  |cUrl l h=>rw[Ur,Qu,Qu,cB (fun c h0 hc=>(Jn c).2.2.2.1 h0 hc) l h];rfl
  |cDel c h=>rw[jr];exact(Jn c).2.2.2.2.1 h
  |cNum n f h1 h2 hf=>rw[Xr];exact cl_T _ _
  |cPct n h1 h2=>rw[Vr,Qu,cl_T];rfl
  |cDim n u f h1 h2 hf h0 h=>rw[Yr,Qu,cl_T,zBR];rfl
  |cMark k h1 h2=> rw[Ht h1 h2];rcases Tt h1 h2 with rfl|rfl|rfl|rfl|rfl|rfl|rfl|rfl|rfl|rfl|rfl|rfl<;>rfl
 |back=>rfl
 |url l m b h hl hm=> rw[Qu,show clB (ql l)=true from Gn _ _ _,show∀z:Str,40::z=[40]++z from fun _=>rfl,Qu,Qu,show∀z:Str,34::z=[34]++z from fun _=>rfl,Qu,Qu,cB (fun c h0 hc=>(Jn c).2.2.1 h0 hc) m hm];cases b<;>rfl
theorem RX{b:Str}{ts:List zb}{st:List (List zb×Str)}(h:Syn b ts st):clB b=true:=by
 induction h with
 |nil=>rfl
 |cmt b s ts P st h hb hp ih=>rw[Qu,Qu,ih,kL hp];rfl
 |no b s ts P st h hp ht ih=>rw[Qu,ih,kL hp];rfl
def tokB(x y:zb):Bool:=x.kind==y.kind&&(x.text==y.text&&(x.num==y.num&&(x.unit==y.unit&&(x.flag==y.flag&&true))))
def yg:List zb->List zb->Bool
 |[],[]=>true
 |x::l,y::m=>tokB x y&&yg l m
 |_,_=>false
theorem F7(x y:zb)(l m:List zb):yg (x::l) (y::m)=(tokB x y&&yg l m):=rfl
theorem zAK{x y:zb}:tokB x y=true↔x=y:=by
 obtain⟨a,b,c,d,e⟩:=x;obtain⟨a',b',c',d',e'⟩:=y;unfold tokB
 grind
theorem dn: ∀{l m:List zb},yg l m=true↔l=m
 |[],[]=>by simp[yg]
 |x::l,y::m=>by rw[yg,Da,zAK,dn,List.cons.injEq]
 |[],y::m=>by simp[yg]
 |x::l,[]=>by simp[yg]
theorem oP{l m:List zb}(h:l.length≠m.length):yg l m=false:=by
 cases hs:yg l m with
 |false=>rfl
 |true=>rw[dn.1 hs]at h;grind
theorem xY {l m:List zb} (hl:l.length=m.length) (hn:l.length<=big) {step:Int->Option (LO Int Unit Bool)}
  (h1: ∀(i:Nat) (h:i<l.length),step (i:Int)=bif !(tokB l[i] (m[i]'(hl▸h)))then some (.ret false)else some (.again (w64 ((i:Int)+1))))
  (h2:step (l.length:Int)=some (.out ())):ZC step 0 (fun _=>some true)=some (yg l m):=by
 have hb:big=4194304:=rfl;refine eD (fun s=> ∃i:Nat,i<=l.length/\s=(i:Int)/\yg (l.drop i) (m.drop i)=yg l m) (fun s=>l.length - s.toNat) _ ?_ ⟨0,by omega,rfl,rfl⟩;rintro _ ⟨i,hi,rfl,he⟩;rcases Sc i l.length with h|h
 ·rw[h1 i h];have hm:i<m.length:=hl▸h;rw[show l.drop i=l[i]::l.drop (i+1)from Ub h,show m.drop i=m[i]::m.drop (i+1)from Ub hm,F7]at he;cases ht:tokB l[i] (m[i]'(hl▸h))with
  |true=> rw[ht,Xb]at he;rw[Oc,Ha,Za (by omega) (by omega)];exact .inl ⟨_,rfl,⟨i+1,by omega,by omega,he⟩,by omega⟩
  |false=>
   grind
 ·have:i=l.length:=by omega
  subst this;rw[Pe (Va _),Pe (by omega)]at he;exact .inr (.inl ⟨(),h2,by rw[<-he];rfl⟩)
theorem GX{α:Type}{l:List α}{i:Nat}(h:i<l.length):geti l (i:Int)=some l[i]:=QX h
theorem int_ne{n m:Nat}:(((n:Int) != (m:Int)):Bool)= !(n==m):=by
 grind
theorem eX{l m:List zb}(hn:l.length<=big):Z8 (l,m)=some (yg l m):=by
 unfold Z8;rw[int_ne];cases he:l.length==m.length with
 |false=>rw[Ec,Ja,oP (Fa.1 he)]
 |true=>
  rw[Oc,Ha];have hl:=Lb.1 he;refine xY hl hn (fun i h=> ?_) ?_
  ·have hm:i<m.length:=hl▸h;have d1:decide ((i:Int)<(l.length:Int))=true:=La (by omega);simp only[d1,Ja,GX h,GX hm,ze,Aa];rfl
  grind
def wrF:Nat->List zb->Str->List zb->Str
 |0,_,b,_=>b
 |_+1,_,b,[]=>b
 |n+1,ts,b,t::r=>
  wrF n (ts++(t::r).take (pcN (t::r))) ((if yg (qi (b++pcS ((t::r).take (pcN (t::r))))) (ts++(t::r).take (pcN (t::r)))then b else b++cmtW)++pcS ((t::r).take (pcN (t::r)))) ((t::r).drop (pcN (t::r)))
def wrS(l:List zb):Str:=wrF l.length [] [] l
theorem TM: ∀(n:Nat) (ts:List zb) (b:Str) (r:List zb),b.length<=(wrF n ts b r).length
 |0,_,_,_=>Va _
 |_+1,_,_,[]=>Va _
 |n+1,ts,b,t::r=>by
  rw[wrF];refine Pb ?_ (TM n _ _ _);split
  ·rw[Ba];omega
  ·rw[Ba,Ba];omega
def Yo(l:List zb):Prop:=(∀t∈l,ng t=true/\t.text.length<=5000/\t.unit.length<=5000)/\ ∀k,k<l.length->okAt (l.drop k)=true
theorem uP{l:List zb}(h:Yo l)(n:Nat):Yo (l.drop n):=by refine⟨fun t ht=>h.1 t (List.mem_of_mem_drop ht),fun k hk=> ?_⟩;rw[Dc]at hk;rw[Tf];exact h.2 (n+k) (by omega)
theorem yG{t:zb}{r:List zb}:1<=pcN (t::r):=by
 rw[Iy];repeat' split
 all_goals omega
theorem zCJ{t:zb}{r:List zb}:pcN (t::r)<=3:=by
 rw[Iy];repeat' split
 all_goals omega
theorem MM{t:zb}{r:List zb}(h:Yo (t::r)):pcN (t::r)<=(t::r).length/\PcT (pcS ((t::r).take (pcN (t::r)))) ((t::r).take (pcN (t::r))):=by
 obtain⟨P,Q,h1,h2,h3⟩:=zEK (fun u hu=>(h.1 u hu).1) (h.2 0 (by simp));have ht:(t::r).take (pcN (t::r))=P:=by rw[<-h2,h1,List.take_left]
 rw[ht];refine⟨?_,h3⟩;rw[<-h2,h1,Ba];omega
theorem zEt{t:zb}(hf:ng t=true)(h1:t.text.length<=5000)(h2:t.unit.length<=5000):(txS t).length<=20100:=by
 have hn: ∀l:Str,l.length<=5000->(ql l).length<=20000:=fun l hl=>by have:=Xy (l==[45]) (QW l) l;unfold ql;omega
 cases Er hf with
 |cId l h0 h=>rw[pq];have:=hn l h1;omega
 |cFn l h0 h=>rw[Tm,Ba];have:=hn l h1;simp only[Eb];omega
 |cAt l h0 h=>rw[rq,Ia];have:=hn l h1;omega
 |cHash l f h0 h hbb=>
  rw[Jt,Ia];have h3:=hn l h1;have h4:=Xy false 0 l;have h5:l.length<=5000:=h1;cases f with
  |true=>rw[show Ai true l=ql l from rfl];omega
  |false=>rw[show Ai false l=encW false 0 l from rfl];omega
 |cStr l h=>rw[Vo];have:=Yy quoB l;have h5:l.length<=5000:=h1;simp only[Ia,Ba,Lc];omega
 |cUrl l h=>rw[Ur];have:=Yy urB l;have h5:l.length<=5000:=h1;simp only[Ia,Ba,Lc];omega
 |cDel c h=>rw[jr];simp
 |cNum n f g1 g2 hf=>rw[Xr];have:=(VA g1 g2 (!f)).1;omega
 |cPct n g1 g2=>rw[Vr,Ba,Eb];have:=(VA g1 g2 false).1;omega
 |cDim n u f g1 g2 hf h0 h=>
  rw[Yr,Ba];have:=(VA g1 g2 (!f)).1;have h5:u.length<=5000:=h2;have hu:(kg u).length<=20004:=by
   cases u with
   |nil=>exact Ac _
   |cons c r=>
    rw[Tu];cases jk (c::r)with
    |true=> rw[Ja,Ba];have:=Wy c;have:=Xy false 0 r;rw[Ia]at h5;omega
    |false=>have:=hn _ h5;rw[Ha];omega
  omega
 |cMark k g1 g2=>rw[Ht g1 g2];have:=XQ k;omega
theorem iG: ∀{l:List zb},(∀t∈l,ng t=true/\t.text.length<=5000/\t.unit.length<=5000)->(catT l).length<=20100*l.length
 |[],_=>Ac _
 |t::r,h=>by obtain⟨a,b,c⟩:=h t (Fb ..);have:=zEt a b c;have:=iG (l:=r) (fun u hu=>h u (Cb _ hu));rw[catT,Ba,Ia];omega
theorem FN: ∀(l m:List zb),catT (l++m)=catT l++catT m
 |[],m=>rfl
 |t::l,m=>by rw[ma,catT,catT,FN l m,Ra]
theorem CY {R:Type} {step:Int×List UInt8->Option (LO (Int×List UInt8) (List UInt8) R)} {l:List zb} (hl:l.length<=3) (hf: ∀t∈l,ng t=true/\t.text.length<=5000/\t.unit.length<=5000)
  (h1: ∀(i:Nat) (a:Str) (hi:i<l.length),step ((i:Int),a)=(lu (l[i],a)).bind fun y6=>some (LO.again (w64 ((i:Int)+1),y6)))
  (h2: ∀a,step ((l.length:Int),a)=some (.out a)):Nh step (0,[])=some (.out (catT l)):=by
 refine Qj (fun z=> ∃(i:Nat),i<=l.length/\z=((i:Int),catT (l.take i))) (fun z=>l.length - z.1.toNat) _ ?_ ⟨0,by omega,rfl⟩;rintro _ ⟨i,hi,rfl⟩;rcases Sc i l.length with h|h
 ·obtain⟨a,b,c⟩:=hf l[i] (Ue h);have hc:=iG (l:=l.take i) (fun t ht=>hf t (Gg ht));rw[Ld]at hc;have hc2:min i l.length<=2:=by omega
  have ht:=zAI (acc:=catT (l.take i)) a b c (by
   have:20100*min i l.length<=20100*2:=Jh _ hc2;omega)
  rw[h1 i _ h,ht,Aa];refine .inl ⟨_,rfl,⟨i+1,by omega,?_⟩,by simp only;rw[Za (by omega) (by omega)];omega⟩;rw[Za (by omega) (by omega),Xf h,FN];refine Prod.ext (by show(i:Int)+1=((i+1:Nat):Int);omega) ?_;show _=catT (l.take i)++(txS l[i]++[]);rw[Ab]
 ·have:i=l.length:=by omega
  subst this;exact .inr (.inl ⟨_,h2 _,by rw[Ag]⟩)
def stO(x:List zb×Str):zz:=⟨(x.1.length:Int),(x.2.length:Int)⟩
theorem HZ{b s A B:Str}{ts L us P:List zb}{m:Nat}(h:b=B++A/\A≠[]/\ts=L++us/\us≠[]/\ ∃R,run b L R/\Lk R A/\4<=R.length/\4<=A.length):yg (qi (A++s)) (us++P)=yg (qi (b++s)) (ts++P):=by
 obtain⟨h1,h2,h3,h4,R,h5,h6,h7,h7'⟩:=h;have h8:=Gu (IM s h5 h7);have hlk:Lk (R++s) (A++s):=by
  refine EX h6 h2 ?_;rcases h6 with h6|⟨d,y,_,rfl,_⟩
  ·cases A with
   |nil=>exact absurd rfl h2
   |cons c t=>
    cases t with
    |cons d u=>rw[OH,<-h6];exact yx R
    |nil=>simp at h7'
  ·rfl
 rw[mM hlk]at h8;rw[h8,h3,Bool.eq_iff_iff,dn,dn,Ra,List.append_cancel_left_eq]
theorem yH{x:List zb}(h:gluS x=0):x.length<=1500/\(∀t∈x,ng t=true)/\ ∀k,k<x.length->okAt (x.drop k)=true:=by
 unfold gluS at h;cases hl:decide (x.length<=1500)with
 |false=>rw[hl]at h;cases h
 |true=>
  rw[hl,Ja]at h;cases ha:(List.range x.length).all (Wl x)with
  |false=>rw[ha]at h;cases h
  |true=>
   rw[Ya]at ha;have key: ∀k,k<x.length->ng (x.getD k default)=true/\okAt (x.drop k)=true:=by intro k hk;have:=ha k (Mc.2 hk);unfold Wl at this;rw[Da]at this;exact this
   refine⟨Kc hl,fun t ht=> ?_,fun k hk=>(key k hk).2⟩;obtain⟨k,hk,rfl⟩:=List.mem_iff_getElem.1 ht;have:=(key k hk).1
   rwa [Ad,Ma hk]at this
theorem zDp{t:zb}{r:List zb}:(bif t.kind==9 then((pcN (t::r):Nat):Int)==2 else false)=(t.kind==9&&t.text==[92]):=by
 cases hk:t.kind==9 with
 |false=>rfl
 |true=>
  have hu:Mh t=false:=by unfold Mh;rw[Lb.1 hk];rfl
  rw[Iy,hk,Ja,hu];cases t.text==[92]<;>rfl
theorem zAm{t:zb}{r:List zb}:pcS ((t::r).take (pcN (t::r)))=bif (t.kind==9&&t.text==[92])then [92,10]else catT ((t::r).take (pcN (t::r))):=by obtain⟨k,hk⟩: ∃k,pcN (t::r)=k+1:=⟨pcN (t::r) - 1,by have:=yG (t:=t) (r:=r);omega⟩;rw[hk,df,pcS];cases t.kind==9&&t.text==[92]<;>rfl
theorem CO{n:Nat}{ts:List zb}{b:Str}{t:zb}{r:List zb}{s:Str}{P:List zb}(hP:(t::r).take (pcN (t::r))=P)(hs:pcS P=s):
  wrF (n+1) ts b (t::r)=wrF n (ts++P) ((if yg (qi (b++s)) (ts++P)then b else b++cmtW)++s) ((t::r).drop (pcN (t::r))):=by
 subst hs hP;rw[wrF]
theorem ap16{n:Nat}(h:n<=99999):Zb n 1 16=true:=Vl (by omega) (by omega)
theorem XX{n m:Nat}(h:n+m<=200000):Zb n m 1=true:=by unfold Zb;exact La (by omega)
theorem zCb{R:Type}{i:Int}{b:Str}{ts:List zb}{st:List (List zb×Str)}(h:zDm b ts st)(hst:st.length<=100000): ∃L B A us,
  (bif decide (w64 (((st.map stO).length:Int) - 4)>=0)then
        need (decide (0<=w64 (((st.map stO).length:Int) - 4))&&decide (w64 (((st.map stO).length:Int) - 4)<((st.map stO).length:Int)))<|
        ((st.map stO)[(w64 (((st.map stO).length:Int) - 4)).toNat]?).bind fun y10=>
        some (LX.out (i,b,st.map stO,y10))
       else
        some (LX.out (i,b,st.map stO,(⟨0,0⟩:zz))))=(some (LX.out (i,b,st.map stO,stO (L,B))):Option (LX (Int×List UInt8×List zz×zz) R))/\
  b=B++A/\ts=L++us/\ ∀s P,yg (qi (A++s)) (us++P)=yg (qi (b++s)) (ts++P):=by
 rw[Oa];by_cases h4:4<=st.length
 ·obtain⟨A,R,us,h1,h2,h3,h4',h5,h6,h7,h8⟩:=h.bd (st.length - 4) (by omega);refine⟨st[st.length - 4].1,st[st.length - 4].2,A,us,?_,h1,h3,fun s P=>HZ (m:=0) ⟨h1,h2,h3,h4',R,h5,h6,by omega,by omega⟩⟩;rw[Za (by omega) (by omega),La (by omega),Ja,La (by omega),Bool.and_self,qD,show((st.length:Int) - 4).toNat=st.length - 4 by omega,Ta,Ma (by omega)];rfl
 ·refine⟨[],[],b,ts,?_,rfl,rfl,fun s P=>rfl⟩;rw[Za (by omega) (by omega),Ib (by omega),Ha];rfl
theorem VZ{x:List zb}(hx: ∀t∈x,t.text.length<=5000/\t.unit.length<=5000):
  bu x=some (if gluS x=0 then(if 4000<(wrS x).length then([],28)else(wrS x,0))else([],gluS x)):=by
 unfold bu;have hbig:big=4194304:=rfl;rw[zoH (fun t ht=>by have:=hx t ht;omega)];simp only[ze,Aa];by_cases hg:gluS x=0
 ·rw[Ka hg,hg,show((0:Int) != 0)=false from rfl,Ha];obtain⟨hlen,hfine,hok⟩:=yH hg;have hrest:Yo x:=⟨fun t ht=>⟨hfine t ht,hx t ht⟩,hok⟩;refine eD (fun z=> ∃(i:Nat) (b:Str) (st:List (List zb×Str)) (n:Nat),z=((i:Int),b,st.map stO)/\i<=x.length/\Syn b (x.take i) st/\b.length<=4000/\x.length - i<=n/\wrF n (x.take i) b (x.drop i)=wrS x/\st.length<=i) (fun z=>x.length - z.1.toNat) _ ?_
   ⟨0,[],[],x.length,rfl,Ac _, .nil,Ac _,Va _,rfl,Va _⟩
  rintro _ ⟨i,b,st,n,rfl,hi,hsyn,hbl,hn,hW,hst⟩;simp only;rcases Sc i x.length with h|h
  ·have hro:=uP hrest i;have hdr:x.drop i=x[i]::x.drop (i+1):=Ub h;obtain⟨t,ht⟩: ∃t,t=x[i]:=⟨_,rfl⟩;obtain⟨r,hr⟩: ∃r,r=x.drop (i+1):=⟨_,rfl⟩;rw[<-ht,<-hr]at hdr;rw[hdr]at hro hW;have hlr:(t::r).length=x.length - i:=by rw[<-hdr,Dc]
   obtain⟨hk1,hpc⟩:=MM hro;have hk0:=yG (t:=t) (r:=r);have hk3:=zCJ (t:=t) (r:=r);obtain⟨k,hk⟩: ∃k,pcN (t::r)=k:=⟨_,rfl⟩;obtain⟨P,hP⟩: ∃P,(t::r).take k=P:=⟨_,rfl⟩;obtain⟨s,hs⟩: ∃s,pcS P=s:=⟨_,rfl⟩;have hst':=zAm (t:=t) (r:=r);have hstep:=fun m=>CO (n:=m) (ts:=x.take i) (b:=b) (t:=t) (r:=r) (s:=s) (P:=P) (by rw[hk];exact hP) hs;have e3:QM (List.drop i x)=some ((k:Nat):Int):=by rw[hdr,<-hk];exact O0 (by have:=(hro.1 t (Fb ..)).2.1;omega) (hro.2 0 (by simp))
   have hb2:=zDp (t:=t) (r:=r);rw[hk]at hk0 hk1 hk3 hpc hst' hb2 hstep;rw[hP]at hpc hst';rw[hs]at hpc hst';rw[hlr]at hk1;have e1:decide ((i:Int)<(x.length:Int))=true:=La (by omega);have e2:(decide ((0:Int)<=(i:Int))&&decide ((i:Int)<=(x.length:Int)))=true:=by rw[La (by omega),La (by omega)];rfl
   have e4:w64 ((i:Int)+((k:Nat):Int))=((i+k:Nat):Int):=by rw[Za (by omega) (by omega)];omega
   have e5:(decide ((0:Int)<=(i:Int))&&(decide ((i:Int)<=((i+k:Nat):Int))&&decide (((i+k:Nat):Int)<=(x.length:Int))))=true:=by rw[La (by omega),La (by omega),La (by omega)];rfl
   have e6:geti x (i:Int)=some t:=by rw[QX h,ht]
   have e7:List.drop i (List.take (i+k) x)=P:=by rw[List.drop_take,hdr,show i+k - i=k by omega,hP]
   simp only[e1,e2,e3,e4,e5,e6,Ja,qD,Aa,Bc,e7];have hPl:P.length<=3:=by rw[<-hP,Ld];omega
   have hPf: ∀u∈P,ng u=true/\u.text.length<=5000/\u.unit.length<=5000:=fun u hu=>hro.1 u (by rw[<-hP]at hu;exact Gg hu);have hsl:s.length<=60400:=by
    have:=iG hPf;rw[hst'];cases t.kind==9&&t.text==[92]with
    |true=>rw[Ja];simp
    |false=>rw[Ha];have:20100*P.length<=20100*3:=Jh _ hPl;omega
   rw[Qk (CY (l:=P) hPl hPf (fun j a hj=> ?_) (fun a=> ?_))]
   ·rw[hb2];have hj9:(bif (t.kind==9&&t.text==[92])then some (LX.out ((i:Int),b,st.map stO,[(92:UInt8),(10:UInt8)]))else some (LX.out ((i:Int),b,st.map stO,catT P)))=(some (LX.out ((i:Int),b,st.map stO,s)):Option (LX (Int×List UInt8×List zz×List UInt8) (LO (Int×List UInt8×List zz) (List UInt8) (Str×Int)))):=by rw[hst'];cases t.kind==9&&t.text==[92]<;>rfl
    rw[hj9,zh];simp only;have hsok:=pF hsyn;obtain⟨L,B,A,us,hfrom,hbA,hts,hwin⟩:=zCb (R:=LO (Int×List UInt8×List zz) (List UInt8) (Str×Int)) (i:=(i:Int)) hsok (by omega);rw[hfrom,zh];have hBl:B.length<=b.length:=by rw[hbA,Ba];omega
    have hAl:A.length<=b.length:=by rw[hbA,Ba];omega
    have f1:(decide ((0:Int)<=(stO (L,B)).at_)&&decide ((stO (L,B)).at_<=(b.length:Int)))=true:=by show(decide ((0:Int)<=(B.length:Int))&&decide ((B.length:Int)<=(b.length:Int)))=true;rw[La (by omega),La (by omega)];rfl
    have f2:(stO (L,B)).at_.toNat=B.length:=Bc _;have f3:decide (B.length+(b.length - B.length)<=b.length)=true:=La (by omega);have f4:List.take (b.length - B.length) (List.drop B.length b)=A:=by rw[hbA,List.drop_left,Ba,show B.length+A.length - B.length=A.length by omega,Ag]
    have f5:vg A.length s.length=true:=xy.2 (by omega);simp only[f1,f2,f3,f4,f5,qD,xI,Aa,e4,Bc];have htl:(stO (L,B)).token=(L.length:Int):=rfl;have hLl:L.length<=i:=by have:=congrArg List.length hts;rw[Ld,Ba]at this;omega
    have htk:List.drop L.length (List.take (i+k) x)=us++P:=by
     have:List.take (i+k) x=L++(us++P):=by rw[List.take_add,hdr,hP,hts,Ra]
     rw[this,List.drop_left]
    have hPlen:P.length=k:=by rw[<-hP,Ld];omega
    have husP:(us++P).length<=1500:=by have h1:=congrArg List.length hts;rw[Ld,Ba]at h1;rw[Ba,hPlen];omega
    have hcl:clB (A++s)=true:=by have h1:=RX hsyn;rw[hbA,Qu,Da]at h1;rw[Qu,h1.2,kL hpc];rfl
    obtain⟨c,hc⟩: ∃c,c=yg (qi (b++s)) (x.take i++P):=⟨_,rfl⟩;have hwinc:yg (qi (A++s)) (us++P)=c:=by rw[hc];exact hwin s P
    obtain⟨c',hc'⟩: ∃c',c'=(decide ((A++s).length<=4000)&&c):=⟨_,rfl⟩;have hneed:(decide ((0:Int)<=(stO (L,B)).token)&&(decide ((stO (L,B)).token<=((i+k:Nat):Int))&&decide (((i+k:Nat):Int)<=(x.length:Int))))=true:=by rw[htl,La (by omega),La (by omega),La (by omega)];rfl
    have hcat: ∀(E:Option (LX (Int×List zz×List UInt8) (LO (Int×List UInt8×List zz) (List UInt8) (Str×Int)))),
      E=(need (decide ((0:Int)<=(stO (L,B)).token)&&(decide ((stO (L,B)).token<=((i+k:Nat):Int))&&decide (((i+k:Nat):Int)<=(x.length:Int)))|| !(!((Ei (A++s)).2 != 0)))<|
       (zu (!((Ei (A++s)).2 != 0)) (Z8 ((Ei (A++s)).1,List.drop (stO (L,B)).token.toNat (List.take (i+k) x))) (default:Bool)).bind fun y13=>
       bif bif (Ei (A++s)).2 != 0 then true else !y13 then
        need (Zb b.length ([47,42,42,47]:Str).length 1)<|
        some (LX.out ((i:Int),st.map stO,b++([47,42,42,47]:Str)))
       else
        some (LX.out ((i:Int),st.map stO,b)))->E=some (LX.out ((i:Int),st.map stO,if c' then b else b++cmtW)):=by
     rintro E rfl;rw[hneed,Hf,qD,show(stO (L,B)).token.toNat=L.length from Bc _,htk];have happ:Zb b.length ([47,42,42,47]:Str).length 1=true:=XX (by show b.length+4<=_;omega);unfold Ei;by_cases hlong:4000<(A++s).length
     ·rw[Ka hlong];have:c'=false:=by rw[hc',Ib (by omega)];rfl
      rw[this];simp only[show((28:Int) != 0)=true from rfl,Oc,ZF,Aa,Ja,happ,qD];rfl
     ·rw[Ga hlong,iH _ hcl];have hcc:c'=c:=by rw[hc',La (by omega)];rfl
      by_cases hmany:1500<(qi (A++s)).length
      ·rw[Ka hmany];have:c'=false:=by rw[hcc,<-hwinc];exact oP (by omega)
       rw[this];simp only[show((4:Int) != 0)=true from rfl,Oc,ZF,Aa,Ja,happ,qD];rfl
      ·rw[Ga hmany];simp only[show((0:Int) != 0)=false from rfl,Ec,ZB,Ha,eX (show(qi (A++s)).length<=big by omega),hwinc,Aa,happ,qD];rw[hcc];cases c<;>rfl
    rw[hcat _ rfl,zh];simp only;obtain⟨m,hm⟩: ∃m,n=m+1:=⟨n - 1,by omega⟩;subst hm;rw[hstep m,<-hc]at hW;have hWl:=TM m (x.take i++P) ((if c then b else b++cmtW)++s) ((t::r).drop k);rw[hW]at hWl;have hcw:cmtW.length=4:=rfl;have hb1:(if c' then b else b++cmtW).length<=4004:=by
     split
     ·omega
     ·rw[Ba];omega
    rw[zy (ap16 (by rw[Oa];omega)),zy (XX (by omega))];have hbs:b.length+s.length<=(wrS x).length:=by
     refine Pb ?_ hWl;rw[Ba];split
     ·omega
     ·rw[Ba];omega
    by_cases hbig2:4000<((if c' then b else b++cmtW)++s).length
    ·rw[La (by omega),Ja];refine .inr (.inr ?_);have:4000<(wrS x).length:=by
      by_cases hcc:c'=c
      ·rw[hcc]at hbig2;omega
      ·have: ¬(A++s).length<=4000:=by intro hle;rw[hc',La hle]at hcc;exact hcc rfl
       rw[Ba]at this;omega
     rw[Ka this]
    ·rw[Ib (by omega),Ha];have hcc:c'=c:=by
      have:(A++s).length<=4000:=by
       rw[Ba]at hbig2 ⊢;have:b.length<=(if c' then b else b++cmtW).length:=by
        split
        ·exact Va _
        ·rw[Ba];omega
       omega
      rw[hc',La this];rfl
     rw[hcc]at hbig2 ⊢;have hxt:x.take (i+k)=x.take i++P:=by rw[List.take_add,hdr,hP]
     refine .inl ⟨_,rfl,⟨i+k,(if c then b else b++cmtW)++s,st++[(x.take i,if c then b else b++cmtW)],m,?_,by omega,?_,by omega,by omega,?_,?_⟩,?_⟩
     ·refine Prod.ext e4 (Prod.ext rfl ?_);rw[jc];show st.map stO++[_]=st.map stO++[stO (x.take i,if c then b else b++cmtW)];unfold stO;simp only[Ld,show min i x.length=i by omega]
     ·rw[hxt];cases hcb:c with
      |true=> rw[Ka rfl];exact .no b s _ P st hsyn hpc (dn.1 (by rw[<-hc,hcb]))
      |false=> rw[Ga (by decide)];refine .cmt b s _ P st hsyn ?_ hpc;rintro rfl;have h0:=hsok.tok;rw[QE (Z4 rfl)]at h0;rw[<-h0,Ic,Ic,xG hpc]at hc;rw[hcb,dn.2 rfl]at hc;cases hc
     ·rw[hxt,<-hW,<-Tf,hdr]
     ·rw[Ba,Eb];omega
     ·simp only;rw[e4];omega
   ·have d1:decide ((j:Int)<(P.length:Int))=true:=La (by omega);simp only[d1,Ja,QX hj,Aa]
   ·simp only;rw[Ib (by omega),Ha]
  ·have:i=x.length:=by omega
   subst this;have e1:decide ((x.length:Int)<(x.length:Int))=false:=Ib (by omega);simp only[e1,Ha];refine .inr (.inl ⟨_,rfl,?_⟩);rw[Pe (Va _)]at hW;have hWb:b=wrS x:=by
    cases n with
    |zero=>rw[wrF]at hW;exact hW
    |succ n=>rw[wrF]at hW;exact hW
   rw[<-hWb,Ga (by omega)]
 ·rw[Ga hg];have:(gluS x != 0)=true:=by rw[Bg];exact hg
  rw[this,Ja]
theorem sF: ∀(n:Nat) {ts r:List zb} {b:Str} {st:List (List zb×Str)},Yo r->Syn b ts st->r.length<=n-> ∃st',Syn (wrF n ts b r) (ts++r) st'
 |0,ts,r,b,st,_,hs,hn=>by
  have:r=[]:=Cf.1 (by omega);subst this;rw[wrF,Ab]
  grind
 |n+1,ts,[],b,st,_,hs,_=>by
  rw[wrF,Ab]
  grind
 |n+1,ts,t::r,b,st,hr,hs,hn=>by
  obtain⟨hk,hpc⟩:=MM hr;have hk0:=yG (t:=t) (r:=r);rw[CO rfl rfl];have hd:(t::r)=(t::r).take (pcN (t::r))++(t::r).drop (pcN (t::r)):=(Jf _ _).symm;have hl:((t::r).drop (pcN (t::r))).length<=n:=by rw[Dc];omega
  have hro:=uP hr (pcN (t::r));generalize (t::r).take (pcN (t::r))=P at*;generalize (t::r).drop (pcN (t::r))=Q at*;cases hc:yg (qi (b++pcS P)) (ts++P)with
  |true=>
   rw[Ka rfl];obtain⟨st',h'⟩:=sF n hro (.no b (pcS P) ts P st hs hpc (dn.1 hc)) hl
   grind
  |false=>
   rw[Ga (by decide)];have hb:b≠[]:=by rintro rfl;have h0:=(pF hs).tok;rw[QE (Z4 rfl)]at h0;rw[<-h0,Ic,Ic,xG hpc,dn.2 rfl]at hc;cases hc
   obtain⟨st',h'⟩:=sF n hro (.cmt b (pcS P) ts P st hs hb hpc) hl
   grind
theorem V3{x:List zb}(h:Yo x):qi (wrS x)=x/\clB (wrS x)=true:=by obtain⟨st,hs⟩:=sF x.length h .nil (Va _);rw[Ic]at hs;exact⟨(pF hs).tok,RX hs⟩
theorem Y5 {S X R:Type} {step:S->Option (LO S X R)} {k:X->Option R} (Inv:S->Prop) (μ:S->Nat) (Q:R->Prop)
  (h: ∀s,Inv s->(∃s',step s=some (.again s')/\Inv s'/\μ s'<μ s)\/(∃x y,step s=some (.out x)/\k x=some y/\Q y)\/(∃y,step s=some (.ret y)/\Q y)) {s:S} (hs:Inv s): ∃y,ZC step s k=some y/\Q y:=by
 have key: ∀(m:Nat) (s:S),μ s<m->Inv s-> ∃(r:LX X R) (y:R),Qs step m s=some r/\r.go k=some y/\Q y:=by
  intro m
  induction m with
  |zero=>intro s h;omega
  |succ m ih=>
   intro s hm hs;simp only[Qs];rcases h s hs with⟨s',h1,h2,h3⟩|⟨x,y,h1,h2,h3⟩|⟨y,h1,h2⟩
   ·grind
   ·simp_all
   simp_all
 obtain⟨r,y,h1,h2,h3⟩:=key (μ s+1) s (by omega) hs;exact⟨y,by rw[Wp (Xn h1)];exact h2,h3⟩
def Yi(x:List zb)(n:Nat):Prop:= ∀t∈x,t.text.length+t.unit.length<=n
theorem XY{x:List zb}(h:Yi x 1000000000)(hl:x.length<=big): ∃g,cz x=some g/\(g=false->Yi x 1000/\x.length<=1510):=by
 have hbig:big=4194304:=rfl;unfold cz;by_cases h1:(x.length>100/\x.length<=1500)\/x.length>1510
 ·have:(bif bif decide ((x.length:Int)>100)then decide ((x.length:Int)<=1500)else false then true else decide ((x.length:Int)>1510))=true:=by
   rcases h1 with⟨a,b⟩|a
   ·grind
   ·grind
  rw[this,Ja]
  grind
 ·have:(bif bif decide ((x.length:Int)>100)then decide ((x.length:Int)<=1500)else false then true else decide ((x.length:Int)>1510))=false:=by
   rw[Ib (show¬(x.length:Int)>1510 by omega)];by_cases a:x.length>100
   ·grind
   ·grind
  rw[this,Ha];refine Y5 (fun s=> ∃(i n:Nat),s=((n:Int),(i:Int))/\i<=x.length/\n<=1000/\Yi (x.take i) 1000) (fun s=>x.length - s.2.toNat) (fun g=>g=false->Yi x 1000/\x.length<=1510) ?_ ⟨0,0,rfl,by omega,by omega,fun t ht=>by cases ht⟩;rintro _ ⟨i,n,rfl,hi,hn,hlt⟩;simp only[ze];rcases Sc i x.length with hh|hh
  ·have hb:=h x[i] (Ue hh);have e1:decide ((i:Int)<(x.length:Int))=true:=La (by omega);have e2:w64 ((n:Int)+w64 ((x[i].text.length:Int)+(x[i].unit.length:Int)))=((n+(x[i].text.length+x[i].unit.length):Nat):Int):=by rw[Za (n:=(x[i].text.length:Int)+(x[i].unit.length:Int)) (by omega) (by omega),Za (by omega) (by omega)];omega
   simp only[e1,Ja,QX hh,Aa,e2];by_cases hbig2:n+(x[i].text.length+x[i].unit.length)>1000
   ·rw[La (by omega),Ja]
    grind
   ·rw[Ib (by omega),Ha];refine .inl ⟨_,rfl,⟨i+1,n+(x[i].text.length+x[i].unit.length),by rw[Za (by omega) (by omega)];rfl,by omega,by omega,?_⟩,by simp only;rw[Za (by omega) (by omega)];omega⟩;rw[Xf hh];intro t ht;rcases ib.1 ht with ht|ht
    ·exact hlt t ht
    grind
  ·have:i=x.length:=by omega
   simp_all
theorem rest_of{x:List zb}(hg:gluS x=0)(h:Yi x 1000):Yo x:=by obtain⟨_,h1,h2⟩:=yH hg;exact⟨fun t ht=>⟨h1 t ht,by have:=h t ht;omega,by have:=h t ht;omega⟩,h2⟩
theorem O9{x:List zb}(hg:gluS x=0)(h:Yi x 1000)(hl:(wrS x).length<=4000):Ei (wrS x)=(x,0):=by obtain⟨h1,h2⟩:=V3 (rest_of hg h);have h3:=(yH hg).1;unfold Ei;rw[Ga (by omega),iH _ h2,h1,Ga (by omega)]
theorem zAY{x:List zb}(hg:gluS x=0)(h:Yi x 1000):bu x=some (if 4000<(wrS x).length then([],28)else(wrS x,0)):=by rw[VZ (fun t ht=>by have:=h t ht;omega),Ka hg]
theorem zC4{x:List zb}{n:Nat}(h:Yi x n)(hn:n<=big): ∀t∈x,t.text.length<=big/\t.unit.length<=big:=fun t ht=>by have:=h t ht;omega
theorem XC{m:UInt8}{q:Str}{t:Str}(h:(zZ m q).1=some t):t.length<=4*q.length:=by
 match q with
 |[]=>rw[Rq]at h;grind
 |c::r=>
  have hbound: ∀(u:Str) (o:Option Str) (k:Nat),o.map (u++ ·)=some t->(∀t',o=some t'->t'.length<=k)->t.length<=u.length+k:=by
   intro u o k ho hk;cases o with
   |none=>cases ho
   |some t'=>
    grind
  rw[qR]at h;rw[Ia];split at h
  ·grind
  ·split at h
   ·cases h
   ·split at h
    ·split at h
     ·grind
     ·split at h
      ·have h2:=XC (q:=r.drop 1) h
       grind
      ·have h5:=zP r;have h4:=Ju r;have:=hbound _ _ (4*(zq r).2.length) h (fun t' ht'=>XC ht');omega
    ·have:=hbound [c] _ (4*r.length) h (fun t' ht'=>XC ht')
     grind
termination_by q.length
decreasing_by
 all_goals grind
theorem CL{q:Str}{t:Str}(h:(urlS q).1=some t):t.length<=4*q.length:=by
 match q with
 |[]=>rw[Dq]at h;grind
 |c::r=>
  have hbound: ∀(u:Str) (o:Option Str) (k:Nat),o.map (u++ ·)=some t->(∀t',o=some t'->t'.length<=k)->t.length<=u.length+k:=by
   intro u o k ho hk;cases o with
   |none=>cases ho
   |some t'=>
    grind
  rw[Im]at h;rw[Ia];split at h
  ·grind
  ·split at h
   ·grind
   ·split at h
    ·cases h
    ·split at h
     ·have h5:=zP r;have h4:=Ju r;have:=hbound _ _ (4*(zq r).2.length) h (fun t' ht'=>CL ht');omega
     ·have:=hbound [c] _ (4*r.length) h (fun t' ht'=>CL ht')
      grind
termination_by q.length
decreasing_by
 all_goals grind
theorem zDW(c:UInt8)(r:Str):(Zp (c::r)).1.text.length+(Zp (c::r)).1.unit.length<=4*(c::r).length:=by
 rw[qm,Ia];have hq: ∀o:Option Str,(∀t,o=some t->t.length<=4*(r.length+1))->(Vj o).text.length+(Vj o).unit.length<=4*(r.length+1):=by
  intro o ho;cases o with
  |none=>show 0+0<=_;omega
  |some t=>show t.length+0<=_;grind
 have hu: ∀o:Option Str,(∀t,o=some t->t.length<=4*(r.length+1))->(Tj o).text.length+(Tj o).unit.length<=4*(r.length+1):=by
  intro o ho;cases o with
  |none=>show 0+0<=_;omega
  |some t=>show t.length+0<=_;grind
 have hnr:=Ot r;rcases DL (oL c r)with h|h|h|h|h|h|h|h|h|h
 ·rw[h,YF];show 0+0<=_;omega
 ·rw[h,Vq];exact hq _ (fun t ht=>by have:=XC ht;omega)
 ·rw[h,jm];grind
 ·rw[h,Dk];have h1:=(JX (c::r)).length_le;have h2:=(vR (Hg (c::r))).length_le;have h3:(Hg (c::r)).length<=r.length+1:=by
   have:=(Wn digB (unsign (c::r))).length_le;have h4:(unsign (c::r)).length<=(c::r).length:=by have:=congrArg List.length (SF (c::r));rw[Ba]at this;omega
   unfold Hg;rw[Ia]at h4;omega
  have h4:=Ot (zC (c::r)).1;unfold zA
  grind
 ·rw[h,bL];show 0+0<=_;omega
 ·rw[h,YL];show 0+0<=_;omega
 ·rw[h,Uq];grind
 ·rw[h,Pj];have h4:=Ot (c::r);rw[Ia]at h4;unfold qC;split
  ·split
   ·refine hu _ (fun t ht=> ?_);have h1:=CL ht;have h2:=(Wn spB ((zm (c::r)).2.drop 1)).length_le;have h3:=(Ml (c::r)).length_le
    grind
   grind
  grind
 ·rw[h,Ov];grind
 ·rw[h,XF];show 0+0<=_;omega
theorem nW(q:Str):Yi (qi q) (4*q.length):=by
 intro t ht;cases hc:cmtS q with
 |nil=>rw[QE hc]at ht;cases ht
 |cons c r=>
  have h2:=(Jl q).length_le;have h3:=(Kl c r).length_le;rw[hc,Ia]at h2;rw[QJ hc]at ht;rcases ja.1 ht with ht|ht
  ·rw[ht];have:=zDW c r
   grind
  ·have h4:(Zp (c::r)).2.length<q.length:=by omega
   have:=nW (Zp (c::r)).2 t ht;omega
termination_by q.length
decreasing_by all_goals omega
end Go.Lv.VT
