/- Pieces: what is written at once; how they begin. -/
import Derived.Test.YtnfhfeipljhciaaGreatDoorNc
import Derived.Test.YtnfhfeipljhciaaGreatDoorNam
set_option linter.unusedSimpArgs false
set_option linter.unusedVariables false
namespace Go.Lv.VT
set_option maxRecDepth 100000
abbrev tkSp:zb:=⟨13,[],0,[],false⟩
inductive PcT:Str->List zb->Prop
 |one (t:zb) (h:zfK t) (hb: ¬(t.kind=9/\t.text=[92])) (hu:ag t=false):PcT (txS t) [t]
 |back:PcT [92,10] [⟨9,[92],0,[],false⟩,tkSp]
 |url (l m:Str) (s:Bool) (h:Zq l=true) (hl:lowS l=[117,114,108]) (hm:Zq m=true):
   PcT (ZN l++40::((if s then [32]else [])++34::(encB quoB m++[34]))) (⟨2,l,0,[],false⟩::((if s then [tkSp]else [])++[⟨5,m,0,[],false⟩]))
theorem FN{l:Str}(h:lowS l=[117,114,108]): ∃a r,l=a::r/\(a=117\/a=85):=by
 cases l with
 |nil=>cases h
 |cons a r=>
  have h1:Sj a=117:=by unfold lowS at h;rw[Ab]at h;injection h
  have: ∀n:Nat,n<256->Sj (UInt8.ofNat n)=117->UInt8.ofNat n=117\/UInt8.ofNat n=85:=by decide+kernel
  have:=this a.toNat (Ib a);rw[Sb]at this;exact⟨a,r,rfl,this h1⟩
theorem Az{l:Str}(h0:l≠[])(z:Str):nmS (ZN l++40::z)=true:=jL (Jl h0) (by show(40:UInt8)≠10;decide)
theorem Es{k:Int}(h1:13<=k)(h2:k<=24):k=13\/k=14\/k=15\/k=16\/k=17\/k=18\/k=19\/k=20\/k=21\/k=22\/k=23\/k=24:=by omega
theorem RB{s:Str}{P:List zb}(h:PcT s P):nmS s=true\/(∃n p U t,P=[t]/\s=numT n p++U/\t.num=n/\(U=[]/\t.kind=10\/U=[37]\/ ∃u,u≠[]/\Zq u=true/\U=Mg u))\/
  (∃c r,s=c::r/\(c=64\/c=35\/c=34)/\nbS s=false)\/(∃c,s=[c]/\xh c.toNat=true)\/(∃k,13<=k/\k<=24/\s=Im k)\/s=[92,10]:=by
 cases h with
 |one t h hb hu=>
  cases h with
  |cId l h0 h=>left;rw[Gn];exact Jl h0
  |cFn l h0 h=>left;rw[jk];exact Az h0 []
  |cAt l h0 h=>right;right;left;rw[Jn];exact⟨64,_,rfl, .inl rfl,rfl⟩
  |cHash l f h0 h hbb=>right;right;left;rw[Wo];exact⟨35,_,rfl, .inr (.inl rfl),rfl⟩
  |cStr l h=>right;right;left;rw[Pm];exact⟨34,_,rfl, .inr (.inr rfl),rfl⟩
  |cUrl l h=>left;rw[Wn];rfl
  |cDel c h=>right;right;right;left;rw[dn];exact⟨c,rfl,h⟩
  |cNum n f h1 h2 hf=>right;left;exact⟨n, !f,[],_,rfl,by rw[Yn,Ya],rfl, .inl ⟨rfl,rfl⟩⟩
  |cPct n h1 h2=>right;left;exact⟨n,false,[37],_,rfl,Xn n,rfl, .inr (.inl rfl)⟩
  |cDim n u f h1 h2 hf h0 h=>right;left;exact⟨n, !f,Mg u,_,rfl,bn n u f,rfl, .inr (.inr ⟨u,h0,h,rfl⟩)⟩
  |cMark k h1 h2=>right;right;right;right;left;exact⟨k,h1,h2,Vo h1 h2⟩
 |back=>right;right;right;right;right;rfl
 |url l m s h hl hm=> left;obtain⟨a,r,rfl,_⟩:=FN hl;exact Az (by simp) _
theorem XH(c:UInt8)(h:xh c.toNat=true):spB c=false/\nbS [c]=false/\c≠101/\c≠69:=by
 have: ∀n:Nat,n<256->xh (UInt8.ofNat n).toNat=true->spB (UInt8.ofNat n)=false/\nbS [UInt8.ofNat n]=false/\UInt8.ofNat n≠101/\UInt8.ofNat n≠69:=by decide+kernel
 have:=this c.toNat (Ib c);rw[Sb]at this;exact this h
theorem mV{s:Str}(h:digB (atS (unsign s) 0)=true):nbS s=true:=by unfold nbS undot;have:(atS (unsign s) 0==46)=false:=Ia.2 (Qf h).2.2.1;rw[this,Ja (by decide),h]
theorem Jz{s:Str}{P:List zb}(h:PcT s P)(hd:digB (atS (unsign s) 0)=true): ∃n p U t,P=[t]/\s=numT n p++U/\t.num=n/\(U=[]/\t.kind=10\/U=[37]\/ ∃u,u≠[]/\Zq u=true/\U=Mg u):=by
 have hn:=mV hd;rcases RB h with h|h|⟨c,r,e,_,h⟩|⟨c,rfl,h'⟩|⟨k,h1,h2,rfl⟩|rfl
 ·rw[aU h]at hn;cases hn
 ·exact h
 ·rw[h]at hn;cases hn
 ·rw[(XH c h').2.1]at hn;cases hn
 ·rcases Es h1 h2 with rfl|rfl|rfl|rfl|rfl|rfl|rfl|rfl|rfl|rfl|rfl|rfl<;>cases hn
 ·cases hn
theorem zC0{s:Str}{P:List zb}(h:PcT s P)(hd:spB (atS s 0)=true):s=[32]:=by
 rcases RB h with h|⟨n,p,U,t,_,rfl,_⟩|⟨c,r,rfl,hc,_⟩|⟨c,rfl,h'⟩|⟨k,h1,h2,rfl⟩|rfl
 ·rw[(yu (Tq h)).1]at hd;cases hd
 ·obtain⟨c,r,e,_,h2,_⟩:=Ko n p U;rw[e]at hd;rw[show atS (c::r) 0=c from rfl,h2]at hd;cases hd
 ·rcases hc with rfl|rfl|rfl<;>cases hd
 ·rw[show atS [c] 0=c from rfl,(XH c h').1]at hd;cases hd
 ·rcases Es h1 h2 with rfl|rfl|rfl|rfl|rfl|rfl|rfl|rfl|rfl|rfl|rfl|rfl<;>first|rfl|cases hd
 ·cases hd
theorem AB{s:Str}{P:List zb}(h:PcT s P){b:UInt8}(hb:b=47\/b=42)(hd:atS s 0=b):s=[b]:=by
 rcases RB h with h|⟨n,p,U,t,_,rfl,_⟩|⟨c,r,rfl,hc,_⟩|⟨c,rfl,h'⟩|⟨k,h1,h2,rfl⟩|rfl
 ·have h1:=Tq h;rw[hd]at h1;rcases hb with rfl|rfl<;>cases h1
 ·obtain⟨c,r,e,h1,_⟩:=Ko n p U;rw[e]at hd;rw[show c=b from hd]at h1;rcases hb with rfl|rfl<;>cases h1
 ·rw[show c=b from hd]at hc;rcases hb with rfl|rfl<;>rcases hc with hc|hc|hc<;>cases hc
 ·rw[show c=b from hd]
 ·rcases Es h1 h2 with rfl|rfl|rfl|rfl|rfl|rfl|rfl|rfl|rfl|rfl|rfl|rfl<;>rcases hb with rfl|rfl<;>cases hd
 ·rcases hb with rfl|rfl<;>cases hd
theorem Lj{s:Str}{P:List zb}(h:PcT s P):s≠[]:=by
 rcases RB h with h|⟨n,p,U,t,_,rfl,_⟩|⟨c,r,rfl,hc,_⟩|⟨c,rfl,h'⟩|⟨k,h1,h2,rfl⟩|rfl
 ·exact Al h
 ·obtain⟨c,r,e,_⟩:=Ko n p U;rw[e];simp
 ·simp
 ·simp
 ·rcases Es h1 h2 with rfl|rfl|rfl|rfl|rfl|rfl|rfl|rfl|rfl|rfl|rfl|rfl<;>decide
 ·simp
theorem oV{l:Str}{c:UInt8}{r:Str}(he:c=101\/c=69)(h:ZN l=c::r): ∃t,l=c::t:=by
 cases l with
 |nil=>unfold ZN at h;rw[encW]at h;cases h
 |cons a t=>
  have hn:ZN (a::t)=pcW ((a::t:Str)==[45]) (Zy (a::t)) a++encW ((a::t:Str)==[45]) (Zy (a::t) - 1) t:=rfl;obtain⟨d,u,e,hd⟩:=SB (dash:=(a::t:Str)==[45]) (k:=Zy (a::t)) (by unfold Zy;split<;>omega) a (encW ((a::t:Str)==[45]) (Zy (a::t) - 1) t);rw[hn,e]at h;injection h with h1 h2;rcases hd with⟨rfl,_⟩|⟨rfl,_⟩
  ·rcases he with rfl|rfl<;>cases h1
  ·exact⟨t,by rw[h1]⟩
theorem zCh{s:Str}{P:List zb}(h:PcT s P)(hd:atS s 0=101\/atS s 0=69): ∃l t z,Zq l=true/\P=[t]/\(t.kind=1\/t.kind=2)/\t.text=l/\s=ZN l++z/\(z=[]\/z=[40]):=by
 cases h with
 |one t h hb hu=>
  cases h with
  |cId l h0 h=>exact⟨l,_,[],h,rfl, .inl rfl,rfl,by rw[Gn,Ya], .inl rfl⟩
  |cFn l h0 h=>exact⟨l,_,[40],h,rfl, .inr rfl,rfl,jk l, .inr rfl⟩
  |cAt l h0 h=>rw[Jn]at hd;rcases hd with hd|hd<;>cases hd
  |cHash l f h0 h hbb=>rw[Wo]at hd;rcases hd with hd|hd<;>cases hd
  |cStr l h=>rw[Pm]at hd;rcases hd with hd|hd<;>cases hd
  |cUrl l h=>rw[Wn]at hd;rcases hd with hd|hd<;>cases hd
  |cDel c h=>
   rw[dn]at hd;obtain⟨_,_,k1,k2⟩:=XH c h;rcases hd with hd|hd
   ·exact absurd hd k1
   ·exact absurd hd k2
  |cNum n f h1 h2 hf=>
   rw[Yn]at hd;obtain⟨c,r,e,h1,_⟩:=Ko n (!f) [];rw[Ya]at e;rw[e]at hd;rcases hd with hd|hd<;>(rw[show c=_ from hd]at h1;cases h1)
  |cPct n h1 h2=>
   rw[Xn]at hd;obtain⟨c,r,e,h1,_⟩:=Ko n false [37];rw[e]at hd;rcases hd with hd|hd<;>(rw[show c=_ from hd]at h1;cases h1)
  |cDim n u f h1 h2 hf h0 h=>
   rw[bn]at hd;obtain⟨c,r,e,h1,_⟩:=Ko n (!f) (Mg u);rw[e]at hd;rcases hd with hd|hd<;>(rw[show c=_ from hd]at h1;cases h1)
  |cMark k h1 h2=> rw[Vo h1 h2]at hd;rcases Es h1 h2 with rfl|rfl|rfl|rfl|rfl|rfl|rfl|rfl|rfl|rfl|rfl|rfl<;>rcases hd with hd|hd<;>cases hd
 |back=>rcases hd with hd|hd<;>cases hd
 |url l m s h hl hm=>
  exfalso;obtain⟨a,r,rfl,ha⟩:=FN hl;obtain⟨c,r2,e⟩:=Oi (Al (Jl (l:=a::r) (by simp)));have hd':c=101\/c=69:=by rw[e]at hd;exact hd
  obtain⟨t,e2⟩:=oV hd' e;injection e2 with e3 _;subst e3;rcases ha with rfl|rfl<;>rcases hd' with h|h<;>cases h
def ShS(s r:Str):Prop:=r=s\/ ∃d y,digB d=true/\s=48::46::d::y/\r=46::d::y
theorem jM(cap:Nat)(l:Str):capF cap 0 (48::l)=capF cap 0 l:=by show capF cap (min cap (decN 0 48)) l=_;rw[show decN 0 48=0 from rfl,Nat.min_zero]
theorem lW(A:Str)(p:Int):thoV (48::A) p=thoV A p:=by
 unfold thoV;by_cases hp:p<0
 ·rw[Ka hp,Ka hp];by_cases hl:(A.length:Int)+p<0
  ·have h1:(((48::A:Str).length:Int)+p).toNat=0:=by rw[Ga];omega
   have h2:((A.length:Int)+p).toNat=0:=by omega
   rw[h1,h2];rfl
  ·have h1:(((48::A:Str).length:Int)+p).toNat=((A.length:Int)+p).toNat+1:=by rw[Ga];omega
   rw[h1,yf,jM]
 ·rw[Ja hp,Ja hp,jM]
theorem oC(d:UInt8)(y:Str)(hd:digB d=true):Zo (48::46::d::y)=Zo (46::d::y):=by
 have hs:Eg 48=false/\Eg 46=false:=by decide
 have hq1:mf (48::46::d::y)=46::d::y:=rfl;have hq2:mf (46::d::y)=46::d::y:=rfl;have he:zu (48::46::d::y)=zu (46::d::y):=by rw[Qi,Qi,hq1,hq2]
 have hv:(numP (48::46::d::y)).val=(numP (46::d::y)).val:=by have h1:numP (48::46::d::y)=⟨[],[48],dotP (46::d::y),expP (zM (46::d::y)).1⟩:=rfl;have h2:numP (46::d::y)=⟨[],[],dotP (46::d::y),expP (zM (46::d::y)).1⟩:=rfl;rw[h1,h2];unfold NumP.val;simp only[Ud,Kc,lW]
 have hn:nbS (46::d::y)=true:=hd;rw[Wt,Ja (by decide),Ja (by decide),show((48:UInt8)==35)=false from rfl,Ic,Ja (by decide),show nbS (48::46::d::y)=true from rfl,Ka rfl,
  Wt,Ja (by decide),Ja (by decide),show((46:UInt8)==35)=false from rfl,Ic,Ja (by decide),hn,Ka rfl]
 unfold zy;rw[he,hv]
theorem capG(cap:Nat): ∀(l:Str) (n:Nat),valG n l<=cap->capF cap n l=valG n l
 |[],n,_=>rfl
 |c::l,n,h=>by
  have h1:valG n (c::l)=valG (decN n c) l:=rfl;rw[h1]at h ⊢;have h2:decN n c<=valG (decN n c) l:=by rw[jv l (decN n c)];have:=Ie (decN n c) (Dg (n:=l.length) (show 0<10 by omega));omega
  rw[capF,Nat.min_eq_right (Jc h2 h)];exact capG cap l (decN n c) h
theorem EK: ∀(k n:Nat),n*10 ^ k<=1000->pg k n=n*10 ^ k
 |0,n,_=>by rw[pg,Nat.pow_zero,bg]
 |k+1,n,h=>by
  have hm:Fg=1000000000000:=rfl;rw[pg];have hpos:0<10 ^ k:=Dg (by omega);have e:n*10 ^ (k+1)=10*n*10 ^ k:=by rw[xg,uf 10 n,Bg,uf (10 ^ k) 10]
  have h1:10*n<=10*n*10 ^ k:=Ie _ hpos;by_cases h0:n=0
  ·subst h0;simp
  ·rw[Ja (by omega),Nat.min_eq_right (by omega),EK k (10*n) (by omega),e]
theorem wX{n:Int}{p:Bool}(hp:(partT (n.natAbs%1000) p).isEmpty=false){U:Str}(hU:past digB U=U)(hx:expS U=none):
  (numP (46::(partT (n.natAbs%1000) p++U))).val=((n.natAbs%1000:Nat):Int):=by
 obtain⟨k1,k2,k3,_,_⟩:=jo (r:=n.natAbs%1000) (by omega) p;generalize partT (n.natAbs%1000) p=F at*;obtain⟨c,r,rfl⟩:=Oi (show F≠[] by rintro rfl;cases hp);have hc:digB c=true:=by rw[ic,Da]at k1;exact k1.1
 have hq:mf (46::(c::r++U))=46::(c::r++U):=rfl;have hpast:past digB (c::r++U)=U:=by rw[Tw _ _ k1,hU]
 have hw:zM (46::(c::r++U))=(U,false):=by unfold zM;rw[show atS (46::(c::r++U)) 1=c from rfl,hc,show(atS (46::(c::r++U)) 0==46&&true)=true from rfl,Ka rfl,show(46::(c::r++U)).drop 1=c::r++U from rfl,hpast]
 have hrun:List.takeWhile digB (c::r++U)=c::r:=by have:=Ht digB (c::r++U);rw[hpast]at this;exact List.append_cancel_right this
 have hd:dotP (46::(c::r++U))=some (c::r):=by unfold dotP;rw[show atS (46::(c::r++U)) 1=c from rfl,hc,show(atS (46::(c::r++U)) 0==46&&true)=true from rfl,Ka rfl,show(46::(c::r++U)).drop 1=c::r++U from rfl,hrun]
 have he:expP U=none:=by unfold expP;rw[om]at hx;rw[hx,Ja (by decide)]
 have hP:numP (46::(c::r++U))=⟨[],[],some (c::r),none⟩:=by show(⟨sgOf (46::(c::r++U)),_,dotP (46::(c::r++U)),expP (zM (46::(c::r++U))).1⟩:NumP)=_;rw[hd,hw,he];rfl
 rw[hP];unfold NumP.val;show(((thoV ([]++(c::r)) (3+0 - ((c::r:Str).length:Int))):Nat):Int)=_;unfold thoV;rw[Kc,Ja (by omega),show(3+0 - ((c::r:Str).length:Int)).toNat=3 - (c::r:Str).length by omega];have hle:valG 0 (c::r)<=1000:=by have:=Ie (valG 0 (c::r)) (Dg (n:=3 - (c::r:Str).length) (show 0<10 by omega));omega
 rw[capG _ _ _ (by unfold Fg;omega),EK _ _ (by omega),k3]
theorem XX{m:Nat}(h:m=0):Lib.decDigits m=[48]:=by subst h;decide+kernel
theorem jA{t:zb}{U:Str}(hU:U=[]/\t.kind=10\/U=[37]\/ ∃u,u≠[]/\Zq u=true/\U=Mg u):past digB U=U/\expS U=none/\(U=[]\/U=[37]\/(nmS U=true/\(zm U).2=[])):=by
 rcases hU with⟨rfl,_⟩|rfl|⟨u,h0,h,rfl⟩
 ·exact⟨rfl,rfl, .inl rfl⟩
 ·exact⟨rfl,rfl, .inr (.inl rfl)⟩
 ·have hn:=vE h0 h;have e1:=(mE hn []).1;have e2:=wQ h0 h (x:=[]) (.inl rfl);have e3:=eH h0 h [];rw[Ya]at e1 e2 e3;exact⟨e1,e2, .inr (.inr ⟨hn,by rw[e3,qF]⟩)⟩
theorem oD(n:Int)(p:Bool)(U:Str):past digB (unsign (numT n p++U))=past digB (dotS (if(partT (n.natAbs%1000) p).isEmpty then none else some (partT (n.natAbs%1000) p))++U):=q2_T n p U
theorem LF{n:Int}{p:Bool}(U:Str)(hp:(partT (n.natAbs%1000) p).isEmpty=true):past digB (unsign (numT n p++U))=past digB U:=by rw[oD,hp];rfl
theorem KF{n:Int}{p:Bool}(U:Str)(hp:(partT (n.natAbs%1000) p).isEmpty=false):past digB (unsign (numT n p++U))=46::(partT (n.natAbs%1000) p++U):=by rw[oD,hp];rfl
theorem zBN(z:Str):expS (46::z)=none:=rfl
theorem bU(z:Str):nmS (46::z)=false:=rfl
theorem DW{s r:Str}{P:List zb}(h:PcT s P)(hd:digB (atS s 0)=true)(hr:r=past digB s)(hn:nmS r=false)(h37:(atS r 0==37)=false)(hT:qm r=P):ShS s r:=by
 have hun:unsign s=s:=by unfold unsign Eg;rw[Ia.2 (Qf hd).1,Ia.2 (Qf hd).2.1];rfl
 obtain⟨n,p,U,t,rfl,rfl,hnum,hU⟩:=Jz h (by rw[hun];exact hd);obtain⟨u1,u2,u3⟩:=jA hU;rw[<-hun,oD]at hr;cases hp:(partT (n.natAbs%1000) p).isEmpty with
 |true=>
  rw[hp]at hr;have hr':r=U:=by rw[hr];exact u1
  subst hr';rcases u3 with rfl|rfl|⟨hu,_⟩
  ·rw[QM (Z6 rfl)]at hT;cases hT
  ·cases h37
  ·rw[hu]at hn;cases hn
 |false=>
  rw[hp]at hr;have hr':r=46::(partT (n.natAbs%1000) p++U):=by rw[hr];rfl
  have hv:=wX hp u1 u2;obtain⟨c,q,hF⟩:=Oi (show partT (n.natAbs%1000) p≠[] by intro e;rw[e]at hp;cases hp);have hdig:=YG (n:=n) (p:=p);have hc:digB c=true:=by rw[hF,ic,Da]at hdig;exact hdig.1
  have hcm:cmtS r=46::(partT (n.natAbs%1000) p++U):=by rw[hr'];exact Z6 rfl
  rw[QC hcm]at hT;injection hT with hT _;have hnx:Zo (46::(partT (n.natAbs%1000) p++U))=zy (46::(partT (n.natAbs%1000) p++U)):=by
   have hnb:nbS (46::(partT (n.natAbs%1000) p++U))=true:=by rw[hF];exact hc
   rw[Wt,Ja (by decide),Ja (by decide),show((46:UInt8)==35)=false from rfl,Ic,Ja (by decide),hnb,Ka rfl]
  have hval: ∀q:Str,(zy q).1.num=(numP q).val:=by
   intro q;unfold zy;split
   ·rfl
   ·split<;>rfl
  rw[hnx]at hT;have h1:=hval (46::(partT (n.natAbs%1000) p++U));rw[hT,hv,hnum]at h1;have hz:n.natAbs / 1000=0:=by omega
  have hs:numT n p++U=48::46::c::(q++U):=by rw[Ov,hp,XX hz,hF];unfold sgT;rw[Ja (by omega)];rfl
  right;exact⟨c,q++U,hc,hs,by rw[hr',hF];rfl⟩
theorem jO: ∀(y r:Str),y.all letB=true->zm (y++r)=(y++(zm r).1,(zm r).2)
 |[],r,_=>rfl
 |c::y,r,h=>by rw[ic,Da]at h;rw[ja,zI,Ka h.1,jO y r h.2];rfl
theorem zAe{l:Str}(h:l.all digB=true):l.all letB=true:=by rw[Xa]at h ⊢;intro b hb;unfold letB;rw[h b hb,jd];rfl
theorem EW{s r:Str}{P:List zb}(h:PcT s P)(he:atS s 0=101\/atS s 0=69)(hd:digB (atS (unsign (s.drop 1)) 0)=true)(hr:r=past digB (unsign (s.drop 1)))(hT:qm r=P):False:=by
 obtain⟨l,t,z,hl,rfl,hk,ht,rfl,hz⟩:=zCh h he;obtain⟨c,q,e⟩:=Oi (Lj h);have hnz:zm z=([],z):=by rcases hz with rfl|rfl;exact qF;exact PG []
 have hname:zm (ZN l++z)=(l,z):=by rw[Bn z hl,hnz,Ya]
 rw[e]at he hd hr hname;rw[show(c::q).drop 1=q from rfl]at hd hr;have hc:letB c=true:=by rcases he with h|h<;>(rw[show c=_ from h];rfl)
 -- the sign is a dash, or none
 have hsg:(sgOf q).all letB=true:=by
  unfold sgOf;cases hs:Eg (atS q 0)with
  |false=>rfl
  |true=>
   rw[Ka rfl];unfold Eg at hs;rw[Tc,ma,ma]at hs;rcases hs with hs|hs
   ·exfalso;cases q with
    |nil=>cases hs
    |cons d q'=>
     rw[show d=43 from hs,zI,Ka hc,zI,Ja (by decide),Ja (by unfold escS;rw[show atS (43::q') 0=43 from rfl];simp)]at hname;injection hname with _ h2;rcases hz with rfl|rfl
     ·cases h2
     ·injection h2 with h3 _;cases h3
   ·rw[hs];rfl
 have hsplit:c::q=(c::(sgOf q++(unsign q).takeWhile digB))++r:=by rw[hr,ja,Ma,Ht,gJ]
 have hall:(c::(sgOf q++(unsign q).takeWhile digB)).all letB=true:=by rw[ic,hc,Gf,hsg,zAe (Wv digB _)];rfl
 rw[hsplit,jO _ _ hall]at hname;injection hname with hn1 hn2;have hcm:cmtS r=r:=by
  refine Z6 ?_;cases r with
  |nil=>rfl
  |cons d u=>
   refine ou (Ia.2 ?_);rintro rfl;rw[zI,Ja (by decide),Ja (by unfold escS;rw[show atS (47::u) 0=47 from rfl];simp)]at hn2;rcases hz with rfl|rfl
   ·cases hn2
   ·injection hn2 with h3 _;cases h3
 cases r with
 |nil=>rw[QM hcm]at hT;cases hT
 |cons d u=>
  rw[QC hcm]at hT;injection hT with hT _;have hbr:=Wm d u;rw[hT]at hbr;have hbr':brS d u=7:=by rcases hk with hk|hk<;>(rw[hk]at hbr;exact hbr.symm)
  have hx:t.text=(zm (d::u)).1:=by
   rw[<-hT,qB,hbr',di];have hk':(qo (d::u)).1.kind=1\/(qo (d::u)).1.kind=2:=by
    have:(qo (d::u)).1=t:=by rw[<-hT,qB,hbr',di]
    rw[this];exact hk
   unfold qo at hk' ⊢;split
   ·rename_i h40;rw[Ka h40]at hk';split
    ·rename_i h2;rw[Ka h2]at hk';rcases sF (urlS (past spB ((zm (d::u)).2.drop 1))).1 with hh|hh<;>rcases hk' with hk'|hk'<;>rw[show(Xh (urlS (past spB ((zm (d::u)).2.drop 1))).1).kind=_ from hk']at hh<;>cases hh
    ·rfl
   ·rfl
  rw[<-hx,ht]at hn1;have:=congrArg List.length hn1;rw[Ca,Ga]at this;omega
theorem NZ{z r:Str}(h:zM z=(r,true)):r=z:=by
 unfold zM at h;split at h
 ·cases congrArg Prod.snd h
 ·exact(congrArg Prod.fst h).symm
theorem jX{z r:Str}(h:(match expS (zM z).1 with|some r=>(r,false)|none=>zM z)=(r,true)):r=z:=by
 cases hx:expS (zM z).1 with
 |some y=>rw[hx]at h;cases congrArg Prod.snd h
 |none=>rw[hx]at h;exact NZ h
theorem WV{z r:Str}{b:Bool}(h:(match expS z with|some r=>(r,false)|none=>(z,false))=(r,b)):r=z\/expS z=some r:=by
 cases hx:expS z with
 |some y=>rw[hx]at h;right;exact congrArg some (congrArg Prod.fst h)
 |none=>rw[hx]at h;left;exact(congrArg Prod.fst h).symm
theorem tO{t:zb}{s r:Str}{P:List zb}(ht:zfK t)(h:PcT s P)(hr:kU t s r)(hT:qm r=P):ShS s r:=by
 have hP:P≠[]:=by cases h<;>simp
 have hrne:r≠[]:=by rintro rfl;rw[QM (Z6 rfl)]at hT;exact hP hT.symm
 have nodig:digB (atS s 0)=false->past digB s=s:=by
  intro hd;cases s with
  |nil=>rfl
  |cons c q=>rw[past,show digB c=false from hd];rfl
 rcases hr with hr|⟨_,hr⟩|⟨hk,he,hn,h37⟩|⟨_,sg,hsg,hd,hn,hr⟩
 ·exact .inl hr
 ·cases hsp:spB (atS s 0)with
  |true=> rw[zC0 h hsp]at hr;exact absurd hr hrne
  |false=>
   left;rw[hr];cases s with
   |nil=>rfl
   |cons c q=>rw[past,show spB c=false from hsp];rfl
 ·cases ht with
  |cNum n f h1 h2 hf=>
   have he':zu (numT n (!f)++s)=(r,f):=he;have hcase:r=past digB s\/expS (past digB s)=some r:=by
    cases hp:(partT (n.natAbs%1000) (!f)).isEmpty with
    |true=> left;rw[pE hp]at he';rw[yG hf]at hp;subst hp;exact jX he'
    |false=> rw[KE hp]at he';exact WV he'
   cases hd:digB (atS s 0)with
   |true=>
    rcases hcase with hr|hx
    ·exact DW h hd hr hn h37 hT
    ·exfalso;have hun:unsign s=s:=by unfold unsign Eg;rw[Ia.2 (Qf hd).1,Ia.2 (Qf hd).2.1];rfl
     obtain⟨n2,p2,U,t2,rfl,rfl,_,hU⟩:=Jz h (by rw[hun];exact hd);obtain⟨u1,u2,_⟩:=jA hU;rw[<-hun]at hx;cases hp:(partT (n2.natAbs%1000) p2).isEmpty with
     |true=>rw[LF U hp,u1,u2]at hx;cases hx
     |false=>rw[KF U hp,zBN]at hx;cases hx
   |false=>
    rw[nodig hd]at hcase;rcases hcase with hr|hx
    ·exact .inl hr
    ·obtain⟨h1,h2,h3⟩:=WM hx;exact(EW h h1 h2 h3 hT).elim
  |cId|cFn|cAt|cHash|cStr|cUrl|cDel|cPct|cDim=>simp at hk
  |cMark k h1 h2=>have hk':k=10:=hk;omega
 ·exfalso;have hds:digB (atS (unsign s) 0)=true/\past digB (unsign (sg++s))=past digB (unsign s):=by
   rcases hsg with rfl|rfl
   ·exact⟨hd,rfl⟩
   ·have hd':digB (atS s 0)=true:=hd;have hun:unsign s=s:=by unfold unsign Eg;rw[Ia.2 (Qf hd').1,Ia.2 (Qf hd').2.1];rfl
    rw[hun];exact⟨hd',rfl⟩
  obtain⟨hd1,hd2⟩:=hds;rw[hd2]at hn hr;obtain⟨n2,p2,U,t2,rfl,rfl,_,hU⟩:=Jz h hd1;obtain⟨u1,_,u3⟩:=jA hU;cases hp:(partT (n2.natAbs%1000) p2).isEmpty with
  |true=>
   rw[LF U hp,u1]at hn hr;rcases u3 with rfl|rfl|⟨_,hu⟩
   ·cases hn
   ·cases hn
   ·rw[hu]at hr;exact hrne hr
  |false=>rw[KF U hp,bU]at hn;cases hn
abbrev cmtW:Str:=[47,42,42,47]
theorem nD{s:Str}{P:List zb}(h:PcT s P)(x:Str)(hx:atS x 0≠42):([47,42]:Str).isPrefixOf (s++x)=false:=by
 obtain⟨c,r,rfl⟩:=Oi (Lj h);by_cases hc:c=47
 ·have:=AB h (.inl rfl) hc;rw[this];cases x with
  |nil=>rfl
  |cons d t=> show((47==(47:UInt8))&&((42==d)&&_))=false;have:((42:UInt8)==d)=false:=Ia.2 (fun e=>hx e.symm);rw[this,Ic,Xd]
 ·exact ou (Ia.2 hc)
theorem vz{s:Str}{P:List zb}(h:PcT s P):cmtS s=s:=by
 refine Z6 ?_;have:=nD h [] (by decide)
 rwa [Ya]at this
theorem JE(x:Str):Zo (92::10::x)=(⟨9,[92],0,[],false⟩,10::x):=rfl
theorem M4{l:Str}(h0:l≠[])(h:Zq l=true)(hl:lowS l=[117,114,108])(b:Bool)(w:Str):
  Zo (ZN l++40::((if b then [32]else [])++34::w))=(⟨2,l,0,[],false⟩,(if b then [32]else [])++34::w):=by
 have hn:=Az h0 ((if b then [32]else [])++34::w);have hnd:=kL h ((if b then [32]else [])++34::w);obtain⟨c,r,e⟩:=Oi (Al hn);rw[e]at hn hnd ⊢;rw[qB,YA hn (by rw[hnd];intro t e;injection e with e _;cases e),di];unfold qo;rw[hnd];simp only;have hp:atS (past spB ((40::((if b then [32]else [])++34::w)).drop 1)) 0=34:=by cases b<;>rfl
 rw[Ka (by rfl),hl,hp,Ja (by decide)];rfl
theorem WK{l:Str}(h:lowS l=[117,114,108]):l≠[]:=by rintro rfl;cases h
theorem GV(l m x:Str)(b:Bool):(ZN l++40::((if b then [32]else [])++34::(encB quoB m++[34])))++x=ZN l++40::((if b then [32]else [])++34::((encB quoB m++[34])++x)):=by rw[Ma,ja,Ma];rfl
theorem dK{l m:Str}{b:Bool}(h:Zq l=true)(hl:lowS l=[117,114,108])(hm:Zq m=true)(x:Str):
  run ((ZN l++40::((if b then [32]else [])++34::(encB quoB m++[34])))++x) (⟨2,l,0,[],false⟩::((if b then [tkSp]else [])++[⟨5,m,0,[],false⟩])) x:=by
 rw[GV];have hf:=M4 (WK hl) h hl b ((encB quoB m++[34])++x);have hn:=Az (WK hl) ((if b then [32]else [])++34::((encB quoB m++[34])++x));have hs: ∀q:Str,q=34::((encB quoB m++[34])++x)->run q [⟨5,m,0,[],false⟩] x:=by rintro q rfl;have:=kF hm x;rw[ja]at this;exact⟨34,_,Z6 rfl,by rw[this],by rw[this];rfl⟩
 obtain⟨c,r,e⟩:=Oi (Al hn);rw[e]at hf hn ⊢;have hc:c≠47:=by rintro rfl;exact absurd (show hdB 47=true from Tq hn) (by decide)
 refine⟨c,r,Z6 (ou (Ia.2 hc)),by rw[hf],?_⟩;rw[hf];cases b with
 |false=>exact hs _ rfl
 |true=> exact⟨32,34::((encB quoB m++[34])++x),Z6 rfl,rfl,hs _ rfl⟩
theorem SK{s:Str}{P:List zb}(h:PcT s P){x:Str}(hx:neu x):run (s++x) P x:=by
 cases h with
 |one t h hb hu=>
  have hn:=XV h hb hu hx;have hp:=nD (.one t h hb hu) x (by rcases hx with rfl|⟨y,rfl⟩;exact(show(0:UInt8)≠42 by decide);exact(show(47:UInt8)≠42 by decide));obtain⟨c,r,e⟩:=Oi (Lj (.one t h hb hu));rw[e]at hn hp ⊢;exact⟨c,r++x,Z6 hp,by rw[show c::(r++x)=(c::r)++x from rfl,hn],by rw[show c::(r++x)=(c::r)++x from rfl,hn];rfl⟩
 |back=> refine⟨92,10::x,Z6 rfl,by rw[JE],?_⟩;rw[JE];refine⟨10,x,Z6 rfl,rfl,?_⟩;show past spB x=x;exact xM rfl hx
 |url l m b h hl hm=>exact dK h hl hm x
theorem zAT{u s r:Str}{p P:List zb}(hu:PcT u p)(hs:PcT s P)(hr:run (u++s) p r)(hT:qm r=P):ShS s r:=by
 cases hu with
 |one t h hb hu=>
  obtain⟨c,q,h1,h2,h3⟩:=hr;have hpu:PcT (txS t) [t]:= .one t h hb hu;rw[run]at h3;cases hp:([47,42]:Str).isPrefixOf (txS t++s)with
  |true=>
   exfalso;obtain⟨c0,r0,e⟩:=Oi (Lj hpu);by_cases hc:c0=47
   ·have e2:=AB hpu (.inl rfl) (by rw[e];exact hc);rw[e2]at hp h1;have h42:atS s 0=42:=by
     cases s with
     |nil=>cases hp
     |cons d t'=>
      have:((42:UInt8)==d)=true:=by have h':((47==(47:UInt8))&&((42==d)&&true))=true:=hp;simpa using h'
      exact(ma.1 this).symm
    rw[AB hs (.inr rfl) h42]at h1;have:cmtS ([47]++[42])=[]:=by rw[Ui];rfl
    rw[this]at h1;cases h1
   ·rw[e,ja,ou (Ia.2 hc)]at hp;cases hp
  |false=> rw[Z6 hp]at h1;rw[<-h1]at h2 h3;have:=lX h hu h2;rw[h3]at this;exact tO h hs this hT
 |back=> obtain⟨c,q,h1,h2,h3⟩:=hr;rw[show cmtS ([92,10]++s)=92::10::s from Z6 rfl]at h1;injection h1 with e1 e2;subst e1 e2;rw[JE]at h3;obtain⟨c',q',g1,g2,g3⟩:=h3;rw[show cmtS (10::s)=10::s from Z6 rfl]at g1;injection g1 with e1 e2;subst e1 e2;rw[run]at g3;have g3':past spB s=r:=g3;exact tO (t:=tkSp) (.cMark 13 (by omega) (by omega)) hs (.inr (.inl ⟨rfl,g3'.symm⟩)) hT
 |url l m b h hl hm=>exact .inl (tK hr (dK h hl hm s))
def Lk(R A:Str):Prop:=cmtS R=A\/ ∃d y,digB d=true/\A=48::46::d::y/\cmtS R=46::d::y
theorem dJ{R A:Str}(h:Lk R A)(hA:A≠[]):cmtS R≠[]:=by
 rcases h with h|⟨d,y,_,_,h⟩
 ·rw[h];exact hA
 ·rw[h];simp
theorem YK{R A x:Str}(h:Lk R A)(hA:A≠[])(hp:([47,42]:Str).isPrefixOf (A++x)=false):Lk (R++x) (A++x):=by
 rcases h with h|⟨d,y,hd,rfl,h⟩
 ·left;rw[Sw (by rw[h];exact hA) (by rw[h];exact hp),h]
 ·right;exact⟨d,y++x,hd,rfl,by rw[Sw (by rw[h];simp) (by rw[h];rfl),h];rfl⟩
theorem XK{R A:Str}(h:Lk R A)(hp:([47,42]:Str).isPrefixOf A=false){t:zb}{ts:List zb}{r:Str}:run R (t::ts) r↔run A (t::ts) r:=by
 rcases h with h|⟨d,y,hd,rfl,h⟩
 ·rw[<-uK (q:=R) (by simp),h]
 ·rw[<-uK (q:=R) (by simp),h];constructor
  ·rintro⟨c,q,h1,h2,h3⟩;rw[Z6 rfl]at h1;rw[<-h1]at h2 h3;exact⟨48,46::d::y,Z6 rfl,by rw[oC d y hd];exact h2,by rw[oC d y hd];exact h3⟩
  ·rintro⟨c,q,h1,h2,h3⟩;rw[Z6 rfl]at h1;rw[<-h1,oC d y hd]at h2 h3;exact⟨46,d::y,Z6 rfl,h2,h3⟩
theorem UL{R A:Str}(h:Lk R A):qm R=qm A:=by
 rcases h with h|⟨d,y,hd,rfl,h⟩
 ·rw[<-Bt R,h]
 ·rw[<-Bt R,h,QC (Z6 rfl),QC (l:=48::46::d::y) (Z6 rfl),oC d y hd]
inductive Syn:Str->List zb->List (List zb×Str)->Prop
 |nil:Syn [] [] []
 |cmt (b s:Str) (ts P:List zb) (st:List (List zb×Str)) (h:Syn b ts st) (hb:b≠[]) (hp:PcT s P):Syn (b++cmtW++s) (ts++P) (st++[(ts,b++cmtW)])
 |no (b s:Str) (ts P:List zb) (st:List (List zb×Str)) (h:Syn b ts st) (hp:PcT s P) (ht:qm (b++s)=ts++P):Syn (b++s) (ts++P) (st++[(ts,b)])
def Bd(b:Str)(ts L:List zb)(B:Str)(m:Nat):Prop:= ∃A R us,b=B++A/\A≠[]/\ts=L++us/\us≠[]/\run b L R/\Lk R A/\m<=R.length/\m<=A.length
structure zBx (b:Str) (ts:List zb) (st:List (List zb×Str)):Prop where
 tok:qm b=ts
 bd: ∀k (h:k<st.length),Bd b ts st[k].1 st[k].2 (st.length - k)
 last:(st=[]/\b=[]/\ts=[])\/ ∃L B u p R,PcT u p/\b=B++u/\ts=L++p/\run b L R/\Lk R u
theorem pc_P{s:Str}{P:List zb}(h:PcT s P): ∃t us,P=t::us:=by cases h<;>exact⟨_,_,rfl⟩
theorem tJ {b x:Str} {ts P L:List zb} {B:Str} {m:Nat} (h:Bd b ts L B m) (hx:x≠[])
  (hrun: ∀R,R≠[]->run b L R->(∃A,A≠[]/\Lk R A/\b=B++A)->run (b++x) L (R++x)/\(∀A,A≠[]->Lk R A->b=B++A->Lk (R++x) (A++x))):Bd (b++x) (ts++P) L B (m+1):=by
 obtain⟨A,R,us,h1,h2,h3,h4,h5,h6,h7,h8⟩:=h;have hR:R≠[]:=by intro e;have:=dJ h6 h2;rw[e]at this;exact this (Z6 rfl)
 obtain⟨g1,g2⟩:=hrun R hR h5 ⟨A,h2,h6,h1⟩;refine⟨A++x,R++x,us++P,by rw[h1,Ma],by simp[h2],by rw[h3,Ma],by simp[h4],g1,g2 A h2 h6 h1,?_⟩;have:=Ee.2 hx;rw[Ca,Ca];omega
theorem pJ{q:Str}(h:cmtS q=[47]):cmtS (q++[42])=[]:=by
 rw[Ui q]at h;cases hp:([47,42]:Str).isPrefixOf q with
 |true=>
  have hl:=Aj hp;rw[show([47,42]:Str).length=2 from rfl]at hl;rw[hp,Ka rfl]at h;cases hc:clsS (q.drop 2)with
  |none=>rw[hc]at h;cases h
  |some p=>
   rw[hc]at h;have h2:p.length<q.length:=by have h2:=(Kl _ hc).2;rw[Ob]at h2;omega
   rw[Ui,Yr [42] (by exact hl),hp,Ka rfl,Gp hl,YF [42] hc];exact pJ h
 |false=> rw[hp,Ja (by decide)]at h;subst h;rw[Ui];rfl
termination_by q.length
theorem zA1{q s:Str}{P us:List zb}(hs:PcT s P)(h:lU q s us)(hus:us≠[]):False:=by
 obtain⟨c,r,_,⟨⟨e,fl,hee,hw⟩,h43,hk,hds⟩,hsame,hT⟩:=h;have hbr:=Wm c (r++s);rw[hsame,hk]at hbr;have hbr':brS c (r++s)=3:=hbr.symm;have hnx:Zo (c::(r++s))=zy ((c::r)++s):=by rw[qB,hbr',Kj];rfl
 have hq2:mf (c::r)≠[]:=by intro e2;rw[e2]at hw;cases congrArg Prod.fst hw
 have e2:mf ((c::r)++s)=mf (c::r)++s:=by unfold mf;rw[(ym s (by simp)).1];exact Nl s hq2
 have hw2:=(BO (q:=mf (c::r)) (x:=s) (by rw[hw];simp) (fun e3=>by
  rw[e3]at hw;have:=congrArg Prod.fst hw;cases this)).1
 have hexp:expS ([e,43]++s)=some (past digB s):=by
  unfold expS;have h1:(atS ([e,43]++s) 0==101||atS ([e,43]++s) 0==69)=true:=by rcases hee with rfl|rfl<;>rfl
  have h2:unsign (([e,43]++s).drop 1)=s:=rfl;rw[h1,Ka rfl,h2,hds,Ka rfl]
 have hend:zu ((c::r)++s)=(past digB s,false):=by rw[Qi,e2,hw2,hw];simp only[hexp]
 have hk2:(zy ((c::r)++s)).1.kind=12:=by rw[<-hnx,hsame,hk]
 rw[hnx]at hT;unfold zy at hk2 hT;rw[hend]at hk2 hT;simp only at hk2 hT;have hun:unsign s=s:=by unfold unsign Eg;rw[Ia.2 (Qf hds).1,Ia.2 (Qf hds).2.1];rfl
 cases hn:nmS (past digB s)with
 |false=>
  rw[hn,Ja (by decide)]at hk2;split at hk2<;>cases hk2
 |true=>
  rw[hn,Ka rfl]at hT;obtain⟨n2,p2,U,t2,_,rfl,_,hU⟩:=Jz hs (by rw[hun];exact hds);obtain⟨u1,_,u3⟩:=jA hU;rw[<-hun]at hn hT;cases hp:(partT (n2.natAbs%1000) p2).isEmpty with
  |true=>
   rw[LF U hp,u1]at hn hT;rcases u3 with rfl|rfl|⟨_,hu⟩
   ·cases hn
   ·cases hn
   ·rw[hu,QM (Z6 rfl)]at hT;exact hus hT.symm
  |false=>rw[KF U hp,bU]at hn;cases hn
theorem xU{R A:Str}(h:Lk R A)(hA:A≠[])(y:Str):Lk (R++47::42::y) (A++47::42::y):=by
 rcases h with h|⟨d,z,hd,rfl,h⟩
 ·left;rw[SE y (by rw[h];exact hA),h]
 ·right;exact⟨d,z++47::42::y,hd,rfl,by rw[SE y (by rw[h];simp),h];rfl⟩
theorem eX{s:Str}{P:List zb}(h:PcT s P):cmtS (47::42::42::47::s)=s:=by rw[Ui];exact vz h
theorem iK{s:Str}{P:List zb}(h:PcT s P):qm s=P:=by have:=Gt (SK h (x:=[]) (.inl rfl));rw[Ya,QM (Z6 rfl),Ya]at this;exact this
theorem HZ{α:Type}{l a:List α}(h:l++a=l):a=[]:=by have:=congrArg List.length h;rw[Ca]at this;exact Pf.1 (by omega)
theorem zCF{b:Str}{ts:List zb}{st:List (List zb×Str)}(h:Syn b ts st):zBx b ts st:=by
 induction h with
 |nil=>exact⟨QM (Z6 rfl),fun k h=>(by cases h), .inl ⟨rfl,rfl,rfl⟩⟩
 |cmt b s ts P st h hb hp ih=>
  obtain⟨ht,hbd,hl⟩:=ih;have hx:b++cmtW++s=b++47::42::(42::47::s):=by rw[Ma];rfl
  obtain⟨t0,us0,hP0⟩:=pc_P hp;have hrun:run (b++47::42::(42::47::s)) ts (47::42::(42::47::s)):=by
   rcases hl with⟨_,e,_⟩|⟨L,B,u,p,R,g1,g2,g3,g4,g5⟩
   ·exact absurd e hb
   ·have hR:R≠[]:=by intro e;have:=dJ g5 (Lj g1);rw[e]at this;exact this (Z6 rfl)
    obtain⟨t1,us1,hp1⟩:=pc_P g1;rw[g3];refine oF (uD (42::47::s) g4 hR) ?_;have h1:=SK g1 (x:=47::42::(42::47::s)) (.inr ⟨_,rfl⟩);rw[hp1]at h1 ⊢;exact(XK (xU g5 (Lj g1) (42::47::s)) (nD g1 _ (by show(47:UInt8)≠42;decide))).2 h1
  have hlk:Lk (47::42::(42::47::s)) s:= .inl (eX hp);rw[hx];refine⟨?_,?_, .inr ⟨ts,b++cmtW,s,P,_,hp,by rw[Ma];rfl,rfl,hrun,hlk⟩⟩
  ·rw[Gt hrun,UL hlk,iK hp]
  ·intro k hk;rw[Ca,Ua]at hk;by_cases hk2:k<st.length
   ·rw[List.getElem_append_left hk2];have:=tJ (P:=P) (x:=47::42::(42::47::s)) (hbd k hk2) (by simp) (fun R hR h5 _=>⟨uD _ h5 hR,fun A hA h6 _=>xU h6 hA _⟩);rw[show st.length - k+1=(st++[(ts,b++cmtW)]).length - k by rw[Ca,Ua];omega]at this;exact this
   ·have hke:k=st.length:=by omega
    subst hke;rw[List.getElem_append_right (by omega)];simp only[Nat.sub_self,List.getElem_cons_zero];refine⟨s,_,P,by rw[Ma];rfl,Lj hp,rfl,by rw[hP0];simp,hrun,hlk,?_⟩;have:=Ee.2 (Lj hp);rw[Ca,Ua];simp only[Ga];omega
 |no b s ts P st h hp ht0 ih=>
  obtain⟨ht,hbd,hl⟩:=ih;obtain⟨t0,us0,hP0⟩:=pc_P hp;have hPne:P≠[]:=by rw[hP0];simp
  have hsne:=Lj hp
  -- what is ahead stays
  have keep: ∀(L us:List zb) (R:Str),ts=L++us->R≠[]->run b L R->run (b++s) L (R++s):=by
   intro L us R hts hR hrun;rcases mM (us:=us++P) hrun hR hsne (by rw[ht0,hts,Ma])with h1|⟨_,q,_,h1⟩
   ·exact h1
   ·exact(zA1 hp h1 (by simp[hPne])).elim
  have keepLk: ∀(L us:List zb) (R A:Str),ts=L++us->run (b++s) L (R++s)->A≠[]->Lk R A->Lk (R++s) (A++s):=by
   intro L us R A hts hrun hA hlk;cases hpre:([47,42]:Str).isPrefixOf (A++s)with
   |false=>exact YK hlk hA hpre
   |true=>
    exfalso;rcases hlk with h1|⟨d,y,_,rfl,_⟩
    ·cases A with
     |nil=>exact hA rfl
     |cons c r=>
      cases r with
      |cons d t=>
       have:=Rw R;rw[h1,<-XG t s,hpre]at this;cases this
      |nil=>
       have hc:c=47:=by
        cases hcc:(47:UInt8)==c with
        |true=>exact(ma.1 hcc).symm
        |false=>
         have:([47,42]:Str).isPrefixOf ([c]++s)=false:=by show(((47:UInt8)==c)&&_)=false;rw[hcc];rfl
         rw[this]at hpre;cases hpre
       subst hc;have h42:s=[42]:=by
        refine AB hp (.inr rfl) ?_;cases s with
        |nil=>exact absurd rfl hsne
        |cons d t=>
         have h':(((47:UInt8)==47)&&(((42:UInt8)==d)&&true))=true:=hpre;have:((42:UInt8)==d)=true:=by simpa using h'
         exact(ma.1 this).symm
       have h3:=Gt hrun;rw[ht0,hts,h42,QM (pJ h1),Ya,Ma]at h3;have:=HZ h3;exact hPne (Tf.1 this).2
    ·cases hpre
  rcases hl with⟨e1,e2,e3⟩|⟨L,B,u,p,R,g1,g2,g3,g4,g5⟩
  ·subst e1 e2 e3;refine⟨ht0,?_, .inr ⟨[],[],s,P,s,hp,rfl,rfl,rfl, .inl (vz hp)⟩⟩;intro k hk;have hke:k=0:=by rw[Ca,Ua,Jb]at hk;omega
   subst hke;exact⟨s,s,P,rfl,hsne,rfl,hPne,rfl, .inl (vz hp),Ee.2 hsne,Ee.2 hsne⟩
  ·have hR:R≠[]:=by intro e;have:=dJ g5 (Lj g1);rw[e]at this;exact this (Z6 rfl)
   have h1:=keep L p R g3 hR g4;have h2:=keepLk L p R u g3 h1 (Lj g1) g5;have h3:=Gt h1;rw[ht0,g3,Ma]at h3;have h4:=List.append_cancel_left h3;obtain⟨r,h5,h6⟩:=NN h4.symm;have hsh:ShS s r:=by
    obtain⟨t1,us1,hp1⟩:=pc_P g1;refine zAT g1 hp ?_ h6;have hpre:([47,42]:Str).isPrefixOf (u++s)=false\/cmtS (R++s)=[]:=by
     rcases h2 with h2|⟨d,y,hd,h2,_⟩
     ·left;rw[<-h2];exact Rw _
     ·left;rw[h2];rfl
    rcases hpre with hpre|hpre
    ·rw[hp1]at h5 ⊢;exact(XK h2 hpre).1 h5
    ·rw[hp1]at h5;obtain⟨c,q,e,_⟩:=h5;rw[hpre]at e;cases e
   have hrun:run (b++s) ts r:=by rw[g3];exact oF h1 h5
   have hlk:Lk r s:=by
    rcases hsh with rfl|⟨d,y,hd,e1,e2⟩
    ·exact .inl (vz hp)
    ·right;exact⟨d,y,hd,e1,by rw[e2];exact Z6 rfl⟩
   have hrl:1<=r.length:=by
    rcases hsh with rfl|⟨d,y,_,_,e2⟩
    ·exact Ee.2 hsne
    ·rw[e2];simp
   refine⟨ht0,?_, .inr ⟨ts,b,s,P,r,hp,rfl,rfl,hrun,hlk⟩⟩;intro k hk;rw[Ca,Ua]at hk;by_cases hk2:k<st.length
   ·rw[List.getElem_append_left hk2];obtain⟨A0,R0,us,f1,f2,f3,f4,f5,f6,f7,f8⟩:=hbd k hk2;have:=tJ (P:=P) (x:=s) ⟨A0,R0,us,f1,f2,f3,f4,f5,f6,f7,f8⟩ hsne (fun R hR h5 _=>⟨keep _ us R f3 hR h5,fun A hA h6 _=>keepLk _ us R A f3 (keep _ us R f3 hR h5) hA h6⟩);rw[show st.length - k+1=(st++[(ts,b)]).length - k by rw[Ca,Ua];omega]at this;exact this
   ·have hke:k=st.length:=by omega
    subst hke;rw[List.getElem_append_right (by omega)];simp only[Nat.sub_self,List.getElem_cons_zero];refine⟨s,r,P,rfl,hsne,rfl,hPne,hrun,hlk,?_⟩;have:=Ee.2 hsne;rw[Ca,Ua];omega
def pcN:List zb->Nat
 |[]=>0
 |t::r=>if t.kind==9&&t.text==[92]then 2 else if ag t then(if Ph r then 3 else 2)else 1
def catT:List zb->Str
 |[]=>[]
 |t::r=>txS t++catT r
def pcS:List zb->Str
 |[]=>[]
 |t::r=>if t.kind==9&&t.text==[92]then [92,10]else catT (t::r)
theorem ML{t:zb}(h:Cg t=true)(hk:(t.kind==13)=true):t=tkSp:=by
 rw[ma]at hk;cases Eo h with
 |cId|cFn|cAt|cHash|cStr|cUrl|cDel|cNum|cPct|cDim=>simp at hk
 |cMark k h1 h2=>have hk':k=13:=hk;rw[hk']
theorem kJ{t:zb}(h:Cg t=true)(hk:(t.kind==5)=true): ∃m,Zq m=true/\t=⟨5,m,0,[],false⟩:=by
 rw[ma]at hk;cases Eo h with
 |cStr l h'=>exact⟨l,h',rfl⟩
 |cId|cFn|cAt|cHash|cUrl|cDel|cNum|cPct|cDim=>simp at hk
 |cMark k h1 h2=>have hk':k=5:=hk;omega
theorem zBQ{t:zb}(h:Cg t=true)(hk:(t.kind==9&&t.text==[92])=true):t=⟨9,[92],0,[],false⟩:=by
 rw[Da,ma,ma]at hk;cases Eo h with
 |cDel c h=>have:=hk.2;rw[show c=92 by injection this]
 |cId|cFn|cAt|cHash|cStr|cUrl|cNum|cPct|cDim=>simp at hk
 |cMark k h1 h2=>have hk':k=9:=hk.1;omega
theorem xX{t:zb}(h:Cg t=true)(hk:ag t=true): ∃l,Zq l=true/\lowS l=[117,114,108]/\t=⟨2,l,0,[],false⟩:=by
 unfold ag at hk;rw[Da,ma,ma]at hk;cases Eo h with
 |cFn l h0 h'=>exact⟨l,h',hk.2,rfl⟩
 |cId|cAt|cHash|cStr|cUrl|cDel|cNum|cPct|cDim=>simp at hk
 |cMark k h1 h2=>have hk':k=2:=hk.1;omega
theorem zCW{t:zb}(h:(t.kind==9&&t.text==[92])=false): ¬(t.kind=9/\t.text=[92]):=by rintro⟨h1,h2⟩;rw[h1,h2]at h;exact absurd h (by decide)
theorem Ps(t:zb)(r:List zb):pcN (t::r)=if t.kind==9&&t.text==[92]then 2 else if ag t then(if Ph r then 3 else 2)else 1:=rfl
theorem GH(t:zb)(r:List zb):okAt (t::r)=((!(t.kind==9&&t.text==[92])||Ph r)&&(!(ag t)||ik r)):=rfl
theorem Tt(s:zb)(r:List zb):ik (s::r)=(bif s.kind==13 then(match r with|u::_=>u.kind==5|[]=>false)else s.kind==5):=rfl
theorem zCZ{t:zb}{r:List zb}(hf: ∀u∈t::r,Cg u=true)(ho:okAt (t::r)=true): ∃P Q,t::r=P++Q/\P.length=pcN (t::r)/\PcT (pcS P) P:=by
 have hft:=hf t (Kb ..);rw[GH,Da]at ho;rw[Ps];cases h9:t.kind==9&&t.text==[92]with
 |true=>
  rw[h9,Nb,jc]at ho;rw[Ka rfl];cases r with
  |nil=>cases ho.1
  |cons s r=> have hs:=ML (hf s (by simp)) ho.1;have ht:=zBQ hft h9;subst hs ht;exact⟨[⟨9,[92],0,[],false⟩,tkSp],r,rfl,rfl, .back⟩
 |false=>
  rw[Ja (by decide)];cases hu:ag t with
  |false=>
   rw[Ja (by decide)];have hp:pcS [t]=txS t:=by show(if(t.kind==9&&t.text==[92])=true then [92,10]else txS t++[])=_;rw[h9,Ja (by decide),Ya]
   exact⟨[t],r,rfl,rfl,by rw[hp];exact .one t (Eo hft) (zCW h9) hu⟩
  |true=>
   rw[Ka rfl];rw[hu,Nb,jc]at ho;obtain⟨l,h1,h2,rfl⟩:=xX hft hu;have ho2:=ho.2;have catS: ∀m:Str,txS ⟨5,m,0,[],false⟩++[]=34::(encB quoB m++[34]):=fun m=>by rw[Pm,Ya]
   cases r with
   |nil=>cases ho2
   |cons s r=>
    cases hs:s.kind==13 with
    |false=>
     rw[Tt,hs,Ba]at ho2;obtain⟨m,hm,rfl⟩:=kJ (hf s (by simp)) ho2;rw[show Ph (⟨5,m,0,[],false⟩::r)=false from rfl,Ja (by decide)];refine⟨[⟨2,l,0,[],false⟩,⟨5,m,0,[],false⟩],r,rfl,rfl,?_⟩;have hp:pcS [⟨2,l,0,[],false⟩,⟨5,m,0,[],false⟩]=ZN l++40::((if false then [32]else [])++34::(encB quoB m++[34])):=by show txS ⟨2,l,0,[],false⟩++(txS ⟨5,m,0,[],false⟩++[])=_;rw[catS,jk,Ma];rfl
     rw[hp];exact .url l m false h1 h2 hm
    |true=>
     have hs':=ML (hf s (by simp)) hs;subst hs';cases r with
     |nil=>cases ho2
     |cons u r=>
      obtain⟨m,hm,rfl⟩:=kJ (hf u (by simp)) ho2;rw[show Ph (tkSp::⟨5,m,0,[],false⟩::r)=true from rfl,Ka rfl];refine⟨[⟨2,l,0,[],false⟩,tkSp,⟨5,m,0,[],false⟩],r,rfl,rfl,?_⟩;have hp:pcS [⟨2,l,0,[],false⟩,tkSp,⟨5,m,0,[],false⟩]=ZN l++40::((if true then [32]else [])++34::(encB quoB m++[34])):=by show txS ⟨2,l,0,[],false⟩++(txS tkSp++(txS ⟨5,m,0,[],false⟩++[]))=_;rw[catS,jk,show txS tkSp=[32]from rfl,Ma];rfl
      rw[hp];exact .url l m true h1 h2 hm
theorem DY{t:zb}{r:List zb}(h:t.text.length<=big)(ho:okAt (t::r)=true):QH (t::r)=some ((pcN (t::r):Nat):Int):=by
 have e0:geti (t::r) 0=some t:=rfl;have p1:=jr (t::r) 1 13;have p15:=jr (t::r) 1 5;have p25:=jr (t::r) 2 5;unfold QH;simp only[e0,ze,Aa,fH h (show([117,114,108]:Str).length<=big by decide),Ls,Q3];simp only[Int.natCast_one]at p1 p15;replace p25:ZT ((2,5),t::r)=_:=p25;have hp1:ZT ((1,13),t::r)=some (Ph r):=by rw[p1];cases r<;>rfl
 rw[hp1];rw[GH]at ho;unfold ag at ho;rw[Ps];unfold ag;cases hd:(t.kind==9&&t.text==[92])with
 |true=>
  have hk:t.kind=9:=by rw[Da,ma]at hd;exact hd.1
  have ht:(t.text==[92])=true:=by rw[Da]at hd;exact hd.2
  simp only[hk,ht,Int.reduceBEq,Fa,Ba,Aa];rw[hd,Nb,jc,Da]at ho;cases r with
  |nil=>cases ho.1
  |cons s r=> show(bif !(s.kind==13)then some 0 else some 2)=some 2;rw[show(s.kind==13)=true from ho.1];rfl
 |false=>
  have hc:(bif t.kind==9 then t.text==[92]else false)=false:=by
   cases h9:t.kind==9
   ·rfl
   ·rw[h9]at hd;exact hd
  simp only[hc,hd,Ba,Eb,Pe,Lb];rw[hd,Eb,Pe,Lb]at ho;cases hu:(t.kind==2&&lowS t.text==[117,114,108])with
  |false=>
   have:(bif t.kind==2 then bif t.kind==2 then lowS t.text==[117,114,108]else default else false)=false:=by
    cases h2:t.kind==2
    ·rfl
    ·rw[h2]at hu;exact hu
   rw[this];rfl
  |true=>
   rw[hu,Nb,jc]at ho;rw[Da]at hu;rw[hu.1,hu.2];simp only[Fa,Aa];cases r with
   |nil=>cases ho
   |cons s r=>
    cases hs:s.kind==13 with
    |false=>
     have e1:Ph (s::r)=false:=hs;have e5:ZT ((1,5),t::s::r)=some (s.kind==5):=p15;have ho5:(s.kind==5)=true:=by rw[Tt,hs]at ho;exact ho
     simp only[e1,Ba,zg,e5,Aa,ho5,Nb];rfl
    |true=>
     have e1:Ph (s::r)=true:=hs;simp only[e1,Fa,zg,p25,Aa];cases r with
     |nil=>rw[Tt,hs]at ho;cases ho
     |cons u r=>
      have ho5:(u.kind==5)=true:=by rw[Tt,hs]at ho;exact ho
      show(bif !(u.kind==5)then some 0 else some (w64 (2+1)))=some 3;rw[ho5];rfl
def clB(l:Str):Bool:=l.all fun c=> !(c==0||c==12||c==13)
theorem Qq(a b:Str):clB (a++b)=(clB a&&clB b):=by unfold clB;rw[Gf]
theorem iM: ∀l:Str,clB l=true->Proofs.Cl.cleanS l=l
 |[],_=>by rw[Proofs.Cl.cleanS]
 |c::r,h=>by
  unfold clB at h;rw[ic,Da]at h;have e:=iM r h.2;have h':(c==0||c==12||c==13)=false:=by simpa using h.1
  rw[xe,xe]at h';obtain⟨⟨h0,h12⟩,h13⟩:=h';rw[Proofs.Cl.cleanS,h0,h12,h13,e]
  ·rfl
  ·rintro t rfl;exact absurd h13 (by decide)
theorem gm(c:UInt8):clB (escC c)=true/\(letB c=true->clB [c]=true)/\(c≠0->quoB c=false->clB [c]=true)/\(c≠0->urB c=false->clB [c]=true)/\(xh c.toNat=true->clB [c]=true)/\(digB c=true->clB [c]=true):=by
 have: ∀n:Nat,n<256->clB (escC (UInt8.ofNat n))=true/\(letB (UInt8.ofNat n)=true->clB [UInt8.ofNat n]=true)/\(UInt8.ofNat n≠0->quoB (UInt8.ofNat n)=false->clB [UInt8.ofNat n]=true)/\(UInt8.ofNat n≠0->urB (UInt8.ofNat n)=false->clB [UInt8.ofNat n]=true)/\(xh (UInt8.ofNat n).toNat=true->clB [UInt8.ofNat n]=true)/\(digB (UInt8.ofNat n)=true->clB [UInt8.ofNat n]=true):=by decide+kernel
 have:=this c.toNat (Ib c)
 rwa [Sb]at this
theorem dm(dash:Bool): ∀(k:Nat) (l:Str),clB (encW dash k l)=true
 |_,[]=>by rw[encW];rfl
 |k,c::r=>by
  obtain⟨h1,h2,_⟩:=gm c;rw[encW,Qq,dm dash (k - 1) r,Cc];unfold pcW;cases hg:letB c&&(k==0|| !digB c)&& !dash with
  |true=> rw[Da,Da]at hg;exact h2 hg.1.1
  |false=>exact h1
theorem XA{p:UInt8->Bool}(hp: ∀c,c≠0->p c=false->clB [c]=true): ∀l:Str,Zq l=true->clB (encB p l)=true
 |[],_=>by rw[encB];rfl
 |c::r,h=>by
  obtain⟨h1,h2⟩:=QI h;rw[encB,Qq,XA hp r h2,Cc];cases hc:p c with
  |true=>exact(gm c).1
  |false=>exact hp c h1 hc
theorem rJ{l:Str}(h:l.all digB=true):clB l=true:=by
 induction l with
 |nil=>rfl
 |cons c r ih=> rw[ic,Da]at h;rw[show c::r=[c]++r from rfl,Qq,(gm c).2.2.2.2.2 h.1,ih h.2];rfl
theorem cl_T(n:Int)(p:Bool):clB (numT n p)=true:=by
 obtain⟨d1,_,_⟩:=Ns (n.natAbs / 1000);have hp:=YG (n:=n) (p:=p);rw[Ov,Qq,Qq,rJ d1];have h1:clB (sgT n)=true:=by unfold sgT;split<;>rfl
 rw[h1];cases (partT (n.natAbs%1000) p).isEmpty with
 |true=>rfl
 |false=> show clB (46::partT (n.natAbs%1000) p)=true;rw[show 46::partT (n.natAbs%1000) p=[46]++partT (n.natAbs%1000) p from rfl,Qq,rJ hp];rfl
theorem VV(w:Str):clB (Mg w)=true:=by
 cases w with
 |nil=>rfl
 |cons c r=>
  rw[Q9];cases Ri (c::r)with
  |true=>rw[Fa,Qq,(gm c).1,dm];rfl
  |false=>exact dm _ _ _
theorem fD{s:Str}{P:List zb}(h:PcT s P):clB s=true:=by
 cases h with
 |one t h hb hu=>
  cases h with
  |cId l h0 h=>rw[Gn];exact dm _ _ _
  |cFn l h0 h=>rw[jk,Qq];rw[show clB (ZN l)=true from dm _ _ _];rfl
  |cAt l h0 h=>rw[Jn,show 64::ZN l=[64]++ZN l from rfl,Qq,show clB (ZN l)=true from dm _ _ _];rfl
  |cHash l f h0 h hbb=>
   rw[Wo,show 35::Eh f l=[35]++Eh f l from rfl,Qq];have:clB (Eh f l)=true:=by cases f<;>exact dm _ _ _
   rw[this];rfl
  |cStr l h=>rw[Pm,show 34::(encB quoB l++[34])=[34]++(encB quoB l++[34])from rfl,Qq,Qq,XA (fun c h0 hc=>(gm c).2.2.1 h0 hc) l h];rfl
  |cUrl l h=>rw[Wn,Qq,Qq,XA (fun c h0 hc=>(gm c).2.2.2.1 h0 hc) l h];rfl
  |cDel c h=>rw[dn];exact(gm c).2.2.2.2.1 h
  |cNum n f h1 h2 hf=>rw[Yn];exact cl_T _ _
  |cPct n h1 h2=>rw[Xn,Qq,cl_T];rfl
  |cDim n u f h1 h2 hf h0 h=>rw[bn,Qq,cl_T,VV];rfl
  |cMark k h1 h2=> rw[Vo h1 h2];rcases Es h1 h2 with rfl|rfl|rfl|rfl|rfl|rfl|rfl|rfl|rfl|rfl|rfl|rfl<;>rfl
 |back=>rfl
 |url l m b h hl hm=> rw[Qq,show clB (ZN l)=true from dm _ _ _,show∀z:Str,40::z=[40]++z from fun _=>rfl,Qq,Qq,show∀z:Str,34::z=[34]++z from fun _=>rfl,Qq,Qq,XA (fun c h0 hc=>(gm c).2.2.1 h0 hc) m hm];cases b<;>rfl
theorem zBJ{b:Str}{ts:List zb}{st:List (List zb×Str)}(h:Syn b ts st):clB b=true:=by
 induction h with
 |nil=>rfl
 |cmt b s ts P st h hb hp ih=>rw[Qq,Qq,ih,fD hp];rfl
 |no b s ts P st h hp ht ih=>rw[Qq,ih,fD hp];rfl
def tokB(x y:zb):Bool:=x.kind==y.kind&&(x.text==y.text&&(x.num==y.num&&(x.unit==y.unit&&(x.flag==y.flag&&true))))
def Tg:List zb->List zb->Bool
 |[],[]=>true
 |x::l,y::m=>tokB x y&&Tg l m
 |_,_=>false
theorem E5(x y:zb)(l m:List zb):Tg (x::l) (y::m)=(tokB x y&&Tg l m):=rfl
theorem kW{x y:zb}:tokB x y=true↔x=y:=by obtain⟨a,b,c,d,e⟩:=x;obtain⟨a',b',c',d',e'⟩:=y;unfold tokB;simp only[Da,ma,Cc,zb.mk.injEq]
theorem Lp: ∀{l m:List zb},Tg l m=true↔l=m
 |[],[]=>by simp[Tg]
 |x::l,y::m=>by rw[Tg,Da,kW,Lp,List.cons.injEq]
 |[],y::m=>by simp[Tg]
 |x::l,[]=>by simp[Tg]
theorem LC{l m:List zb}(h:l.length≠m.length):Tg l m=false:=by
 cases hs:Tg l m with
 |false=>rfl
 |true=>rw[Lp.1 hs]at h;exact absurd rfl h
theorem gG {l m:List zb} (hl:l.length=m.length) (hn:l.length<=big) {step:Int->Option (LO Int Unit Bool)}
  (h1: ∀(i:Nat) (h:i<l.length),step (i:Int)=bif !(tokB l[i] (m[i]'(hl▸h)))then some (.ret false)else some (.again (w64 ((i:Int)+1))))
  (h2:step (l.length:Int)=some (.out ())):Zp step 0 (fun _=>some true)=some (Tg l m):=by
 have hb:big=4194304:=rfl;refine ak (fun s=> ∃i:Nat,i<=l.length/\s=(i:Int)/\Tg (l.drop i) (m.drop i)=Tg l m) (fun s=>l.length - s.toNat) _ ?_ ⟨0,by omega,rfl,rfl⟩;rintro _ ⟨i,hi,rfl,he⟩;rcases Mc i l.length with h|h
 ·rw[h1 i h];have hm:i<m.length:=hl▸h;rw[show l.drop i=l[i]::l.drop (i+1)from Pb h,show m.drop i=m[i]::m.drop (i+1)from Pb hm,E5]at he;cases ht:tokB l[i] (m[i]'(hl▸h))with
  |true=> rw[ht,Lb]at he;rw[Nb,Ba,zz (by omega) (by omega)];exact .inl ⟨_,rfl,⟨i+1,by omega,by omega,he⟩,by omega⟩
  |false=> rw[ht,Ic]at he;rw[Eb,Fa,<-he];exact .inr (.inr rfl)
 ·have:i=l.length:=by omega
  subst this;rw[De (Cb _),De (by omega)]at he;exact .inr (.inl ⟨(),h2,by rw[<-he];rfl⟩)
theorem Av{α:Type}{l:List α}{i:Nat}(h:i<l.length):geti l (i:Int)=some l[i]:=QJ h
theorem int_ne{n m:Nat}:(((n:Int) != (m:Int)):Bool)= !(n==m):=by
 unfold bne;congr 1;by_cases h:n=m
 ·subst h;simp
 ·rw[Ia.2 h,Ia];omega
theorem PX{l m:List zb}(hn:l.length<=big):qg (l,m)=some (Tg l m):=by
 unfold qg;rw[int_ne];cases he:l.length==m.length with
 |false=>rw[Eb,Fa,LC (Ia.1 he)]
 |true=>
  rw[Nb,Ba];have hl:=ma.1 he;refine gG hl hn (fun i h=> ?_) ?_
  ·have hm:i<m.length:=hl▸h;have d1:decide ((i:Int)<(l.length:Int))=true:=Ea (by omega);simp only[d1,Fa,Av h,Av hm,ze,Aa];rfl
  ·simp only;rw[Ra (by omega),Ba]
theorem same_eq{l m:List zb}(hn:l.length<=big):Hy (l,m)=some (Tg l m):=by
 unfold Hy;rw[int_ne];cases he:l.length==m.length with
 |false=>rw[Eb,Fa,LC (Ia.1 he)]
 |true=>
  rw[Nb,Ba];have hl:=ma.1 he;refine gG hl hn (fun i h=> ?_) ?_
  ·have hm:i<m.length:=hl▸h;have d1:decide ((i:Int)<(l.length:Int))=true:=Ea (by omega);have d2:decide ((0:Int)<=(i:Int))=true:=Ea (by omega);have d3:decide ((i:Int)<(m.length:Int))=true:=Ea (by omega);simp only[d1,d2,d3,Fa,Av h,Av hm,ze,Aa,Ta,Na h,Na hm];rfl
  ·simp only;rw[Ra (by omega),Ba]
def wrF:Nat->List zb->Str->List zb->Str
 |0,_,b,_=>b
 |_+1,_,b,[]=>b
 |n+1,ts,b,t::r=>
  wrF n (ts++(t::r).take (pcN (t::r))) ((if Tg (qm (b++pcS ((t::r).take (pcN (t::r))))) (ts++(t::r).take (pcN (t::r)))then b else b++cmtW)++pcS ((t::r).take (pcN (t::r)))) ((t::r).drop (pcN (t::r)))
def wrS(l:List zb):Str:=wrF l.length [] [] l
theorem bK: ∀(n:Nat) (ts:List zb) (b:Str) (r:List zb),b.length<=(wrF n ts b r).length
 |0,_,_,_=>Cb _
 |_+1,_,_,[]=>Cb _
 |n+1,ts,b,t::r=>by
  rw[wrF];refine Jc ?_ (bK n _ _ _);split
  ·rw[Ca];omega
  ·rw[Ca,Ca];omega
def Un(l:List zb):Prop:=(∀t∈l,Cg t=true/\t.text.length<=5000/\t.unit.length<=5000)/\ ∀k,k<l.length->okAt (l.drop k)=true
theorem lN{l:List zb}(h:Un l)(n:Nat):Un (l.drop n):=by refine⟨fun t ht=>h.1 t (List.mem_of_mem_drop ht),fun k hk=> ?_⟩;rw[Ob]at hk;rw[We];exact h.2 (n+k) (by omega)
theorem JF{t:zb}{r:List zb}:1<=pcN (t::r):=by
 rw[Ps];repeat' split
 all_goals omega
theorem jK{t:zb}{r:List zb}:pcN (t::r)<=3:=by
 rw[Ps];repeat' split
 all_goals omega
theorem wK{t:zb}{r:List zb}(h:Un (t::r)):pcN (t::r)<=(t::r).length/\PcT (pcS ((t::r).take (pcN (t::r)))) ((t::r).take (pcN (t::r))):=by
 obtain⟨P,Q,h1,h2,h3⟩:=zCZ (fun u hu=>(h.1 u hu).1) (h.2 0 (by simp));have ht:(t::r).take (pcN (t::r))=P:=by rw[<-h2,h1,df]
 rw[ht];refine⟨?_,h3⟩;rw[<-h2,h1,Ca];omega
theorem zCJ{t:zb}(hf:Cg t=true)(h1:t.text.length<=5000)(h2:t.unit.length<=5000):(txS t).length<=20100:=by
 have hn: ∀l:Str,l.length<=5000->(ZN l).length<=20000:=fun l hl=>by have:=Cj (l==[45]) (Zy l) l;unfold ZN;omega
 cases Eo hf with
 |cId l h0 h=>rw[Gn];have:=hn l h1;omega
 |cFn l h0 h=>rw[jk,Ca];have:=hn l h1;simp only[Ua];omega
 |cAt l h0 h=>rw[Jn,Ga];have:=hn l h1;omega
 |cHash l f h0 h hbb=>
  rw[Wo,Ga];have h3:=hn l h1;have h4:=Cj false 0 l;have h5:l.length<=5000:=h1;cases f with
  |true=>rw[show Eh true l=ZN l from rfl];omega
  |false=>rw[show Eh false l=encW false 0 l from rfl];omega
 |cStr l h=>rw[Pm];have:=Ul quoB l;have h5:l.length<=5000:=h1;simp only[Ga,Ca,Jb];omega
 |cUrl l h=>rw[Wn];have:=Ul urB l;have h5:l.length<=5000:=h1;simp only[Ga,Ca,Jb];omega
 |cDel c h=>rw[dn];simp
 |cNum n f g1 g2 hf=>rw[Yn];have:=(Om g1 g2 (!f)).1;omega
 |cPct n g1 g2=>rw[Xn,Ca,Ua];have:=(Om g1 g2 false).1;omega
 |cDim n u f g1 g2 hf h0 h=>
  rw[bn,Ca];have:=(Om g1 g2 (!f)).1;have h5:u.length<=5000:=h2;have hu:(Mg u).length<=20004:=by
   cases u with
   |nil=>exact Ac _
   |cons c r=>
    rw[Q9];cases Ri (c::r)with
    |true=> rw[Fa,Ca];have:=Q4 c;have:=Cj false 0 r;rw[Ga]at h5;omega
    |false=>have:=hn _ h5;rw[Ba];omega
  omega
 |cMark k g1 g2=>rw[Vo g1 g2];have:=NH k;omega
theorem RF: ∀{l:List zb},(∀t∈l,Cg t=true/\t.text.length<=5000/\t.unit.length<=5000)->(catT l).length<=20100*l.length
 |[],_=>Ac _
 |t::r,h=>by obtain⟨a,b,c⟩:=h t (Kb ..);have:=zCJ a b c;have:=RF (l:=r) (fun u hu=>h u (Rb _ hu));rw[catT,Ca,Ga];omega
theorem uL: ∀(l m:List zb),catT (l++m)=catT l++catT m
 |[],m=>rfl
 |t::l,m=>by rw[ja,catT,catT,uL l m,Ma]
theorem iX {R:Type} {step:Int×List UInt8->Option (LO (Int×List UInt8) (List UInt8) R)} {l:List zb} (hl:l.length<=3) (hf: ∀t∈l,Cg t=true/\t.text.length<=5000/\t.unit.length<=5000)
  (h1: ∀(i:Nat) (a:Str) (hi:i<l.length),step ((i:Int),a)=(QR (l[i],a)).bind fun y6=>some (LO.again (w64 ((i:Int)+1),y6)))
  (h2: ∀a,step ((l.length:Int),a)=some (.out a)):Gg step (0,[])=some (.out (catT l)):=by
 refine ZG (fun z=> ∃(i:Nat),i<=l.length/\z=((i:Int),catT (l.take i))) (fun z=>l.length - z.1.toNat) _ ?_ ⟨0,by omega,rfl⟩;rintro _ ⟨i,hi,rfl⟩;rcases Mc i l.length with h|h
 ·obtain⟨a,b,c⟩:=hf l[i] (Cf h);have hc:=RF (l:=l.take i) (fun t ht=>hf t (Te ht));rw[Yc]at hc;have hc2:min i l.length<=2:=by omega
  have ht:=TN (acc:=catT (l.take i)) a b c (by
   have:20100*min i l.length<=20100*2:=Nat.mul_le_mul_left _ hc2;omega)
  rw[h1 i _ h,ht,Aa];refine .inl ⟨_,rfl,⟨i+1,by omega,?_⟩,by simp only;rw[zz (by omega) (by omega)];omega⟩;rw[zz (by omega) (by omega),He h,uL];refine Prod.ext (by show(i:Int)+1=((i+1:Nat):Int);omega) ?_;show _=catT (l.take i)++(txS l[i]++[]);rw[Ya]
 ·have:i=l.length:=by omega
  subst this;exact .inr (.inl ⟨_,h2 _,by rw[Re]⟩)
def stO(x:List zb×Str):zA:=⟨(x.1.length:Int),(x.2.length:Int)⟩
theorem AX{b s A B:Str}{ts L us P:List zb}{m:Nat}(h:b=B++A/\A≠[]/\ts=L++us/\us≠[]/\ ∃R,run b L R/\Lk R A/\4<=R.length/\4<=A.length):Tg (qm (A++s)) (us++P)=Tg (qm (b++s)) (ts++P):=by
 obtain⟨h1,h2,h3,h4,R,h5,h6,h7,h7'⟩:=h;have h8:=Gt (sK s h5 h7);have hlk:Lk (R++s) (A++s):=by
  refine YK h6 h2 ?_;rcases h6 with h6|⟨d,y,_,rfl,_⟩
  ·cases A with
   |nil=>exact absurd rfl h2
   |cons c t=>
    cases t with
    |cons d u=>rw[XG,<-h6];exact Rw R
    |nil=>simp at h7'
  ·rfl
 rw[UL hlk]at h8;rw[h8,h3,Vf,Lp,Lp,Ma,List.append_cancel_left_eq]
theorem vF{x:List zb}(h:gluS x=0):x.length<=1500/\(∀t∈x,Cg t=true)/\ ∀k,k<x.length->okAt (x.drop k)=true:=by
 unfold gluS at h;cases hl:decide (x.length<=1500)with
 |false=>rw[hl]at h;cases h
 |true=>
  rw[hl,Fa]at h;cases ha:(List.range x.length).all (xk x)with
  |false=>rw[ha]at h;cases h
  |true=>
   rw[Xa]at ha;have key: ∀k,k<x.length->Cg (x.getD k default)=true/\okAt (x.drop k)=true:=by intro k hk;have:=ha k (Ec.2 hk);unfold xk at this;rw[Da]at this;exact this
   refine⟨Bc hl,fun t ht=> ?_,fun k hk=>(key k hk).2⟩;obtain⟨k,hk,rfl⟩:=List.mem_iff_getElem.1 ht;have:=(key k hk).1
   rwa [Sc,Na hk]at this
theorem zBC{t:zb}{r:List zb}:(bif t.kind==9 then((pcN (t::r):Nat):Int)==2 else false)=(t.kind==9&&t.text==[92]):=by
 cases hk:t.kind==9 with
 |false=>rfl
 |true=>
  have hu:ag t=false:=by unfold ag;rw[ma.1 hk];rfl
  rw[Ps,hk,Fa,hu];cases t.text==[92]<;>rfl
theorem wM{t:zb}{r:List zb}:pcS ((t::r).take (pcN (t::r)))=bif (t.kind==9&&t.text==[92])then [92,10]else catT ((t::r).take (pcN (t::r))):=by obtain⟨k,hk⟩: ∃k,pcN (t::r)=k+1:=⟨pcN (t::r) - 1,by have:=JF (t:=t) (r:=r);omega⟩;rw[hk,yf,pcS];cases t.kind==9&&t.text==[92]<;>rfl
theorem yL{n:Nat}{ts:List zb}{b:Str}{t:zb}{r:List zb}{s:Str}{P:List zb}(hP:(t::r).take (pcN (t::r))=P)(hs:pcS P=s):
  wrF (n+1) ts b (t::r)=wrF n (ts++P) ((if Tg (qm (b++s)) (ts++P)then b else b++cmtW)++s) ((t::r).drop (pcN (t::r))):=by
 subst hs hP;rw[wrF]
theorem ap16{n:Nat}(h:n<=99999):zP n 1 16=true:=Pi (by omega) (by omega)
theorem uJ{n m:Nat}(h:n+m<=200000):zP n m 1=true:=by unfold zP;exact Ea (by omega)
theorem zAq{R:Type}{i:Int}{b:Str}{ts:List zb}{st:List (List zb×Str)}(h:zBx b ts st)(hst:st.length<=100000): ∃L B A us,
  (bif decide (w64 (((st.map stO).length:Int) - 4)>=0)then
        need (decide (0<=w64 (((st.map stO).length:Int) - 4))&&decide (w64 (((st.map stO).length:Int) - 4)<((st.map stO).length:Int)))<|
        ((st.map stO)[(w64 (((st.map stO).length:Int) - 4)).toNat]?).bind fun y10=>
        some (LX.out (i,b,st.map stO,y10))
       else
        some (LX.out (i,b,st.map stO,(⟨0,0⟩:zA))))=(some (LX.out (i,b,st.map stO,stO (L,B))):Option (LX (Int×List UInt8×List zA×zA) R))/\
  b=B++A/\ts=L++us/\ ∀s P,Tg (qm (A++s)) (us++P)=Tg (qm (b++s)) (ts++P):=by
 rw[Sa];by_cases h4:4<=st.length
 ·obtain⟨A,R,us,h1,h2,h3,h4',h5,h6,h7,h8⟩:=h.bd (st.length - 4) (by omega);refine⟨st[st.length - 4].1,st[st.length - 4].2,A,us,?_,h1,h3,fun s P=>AX (m:=0) ⟨h1,h2,h3,h4',R,h5,h6,by omega,by omega⟩⟩;rw[zz (by omega) (by omega),Ea (by omega),Fa,Ea (by omega),Bool.and_self,Zf,show((st.length:Int) - 4).toNat=st.length - 4 by omega,Va,Na (by omega)];rfl
 ·refine⟨[],[],b,ts,?_,rfl,rfl,fun s P=>rfl⟩;rw[zz (by omega) (by omega),Ra (by omega),Ba];rfl
theorem wW{x:List zb}(hx: ∀t∈x,t.text.length<=5000/\t.unit.length<=5000):
  Yx x=some (if gluS x=0 then(if 4000<(wrS x).length then([],28)else(wrS x,0))else([],gluS x)):=by
 unfold Yx;have hbig:big=4194304:=rfl;rw[aS (fun t ht=>by have:=hx t ht;omega)];simp only[ze,Aa];by_cases hg:gluS x=0
 ·rw[Ka hg,hg,show((0:Int) != 0)=false from rfl,Ba];obtain⟨hlen,hfine,hok⟩:=vF hg;have hrest:Un x:=⟨fun t ht=>⟨hfine t ht,hx t ht⟩,hok⟩;refine ak (fun z=> ∃(i:Nat) (b:Str) (st:List (List zb×Str)) (n:Nat),z=((i:Int),b,st.map stO)/\i<=x.length/\Syn b (x.take i) st/\b.length<=4000/\x.length - i<=n/\wrF n (x.take i) b (x.drop i)=wrS x/\st.length<=i) (fun z=>x.length - z.1.toNat) _ ?_
   ⟨0,[],[],x.length,rfl,Ac _, .nil,Ac _,Cb _,rfl,Cb _⟩
  rintro _ ⟨i,b,st,n,rfl,hi,hsyn,hbl,hn,hW,hst⟩;simp only;rcases Mc i x.length with h|h
  ·have hro:=lN hrest i;have hdr:x.drop i=x[i]::x.drop (i+1):=Pb h;obtain⟨t,ht⟩: ∃t,t=x[i]:=⟨_,rfl⟩;obtain⟨r,hr⟩: ∃r,r=x.drop (i+1):=⟨_,rfl⟩;rw[<-ht,<-hr]at hdr;rw[hdr]at hro hW;have hlr:(t::r).length=x.length - i:=by rw[<-hdr,Ob]
   obtain⟨hk1,hpc⟩:=wK hro;have hk0:=JF (t:=t) (r:=r);have hk3:=jK (t:=t) (r:=r);obtain⟨k,hk⟩: ∃k,pcN (t::r)=k:=⟨_,rfl⟩;obtain⟨P,hP⟩: ∃P,(t::r).take k=P:=⟨_,rfl⟩;obtain⟨s,hs⟩: ∃s,pcS P=s:=⟨_,rfl⟩;have hst':=wM (t:=t) (r:=r);have hstep:=fun m=>yL (n:=m) (ts:=x.take i) (b:=b) (t:=t) (r:=r) (s:=s) (P:=P) (by rw[hk];exact hP) hs;have e3:QH (List.drop i x)=some ((k:Nat):Int):=by rw[hdr,<-hk];exact DY (by have:=(hro.1 t (Kb ..)).2.1;omega) (hro.2 0 (by simp))
   have hb2:=zBC (t:=t) (r:=r);rw[hk]at hk0 hk1 hk3 hpc hst' hb2 hstep;rw[hP]at hpc hst';rw[hs]at hpc hst';rw[hlr]at hk1;have e1:decide ((i:Int)<(x.length:Int))=true:=Ea (by omega);have e2:(decide ((0:Int)<=(i:Int))&&decide ((i:Int)<=(x.length:Int)))=true:=by rw[Ea (by omega),Ea (by omega)];rfl
   have e4:w64 ((i:Int)+((k:Nat):Int))=((i+k:Nat):Int):=by rw[zz (by omega) (by omega)];omega
   have e5:(decide ((0:Int)<=(i:Int))&&(decide ((i:Int)<=((i+k:Nat):Int))&&decide (((i+k:Nat):Int)<=(x.length:Int))))=true:=by rw[Ea (by omega),Ea (by omega),Ea (by omega)];rfl
   have e6:geti x (i:Int)=some t:=by rw[QJ h,ht]
   have e7:List.drop i (List.take (i+k) x)=P:=by rw[List.drop_take,hdr,show i+k - i=k by omega,hP]
   simp only[e1,e2,e3,e4,e5,e6,Fa,Zf,Aa,Ta,e7];have hPl:P.length<=3:=by rw[<-hP,Yc];omega
   have hPf: ∀u∈P,Cg u=true/\u.text.length<=5000/\u.unit.length<=5000:=fun u hu=>hro.1 u (by rw[<-hP]at hu;exact Te hu);have hsl:s.length<=60400:=by
    have:=RF hPf;rw[hst'];cases t.kind==9&&t.text==[92]with
    |true=>rw[Fa];simp
    |false=>rw[Ba];have:20100*P.length<=20100*3:=Nat.mul_le_mul_left _ hPl;omega
   rw[zW (iX (l:=P) hPl hPf (fun j a hj=> ?_) (fun a=> ?_))]
   ·rw[hb2];have hj9:(bif (t.kind==9&&t.text==[92])then some (LX.out ((i:Int),b,st.map stO,[(92:UInt8),(10:UInt8)]))else some (LX.out ((i:Int),b,st.map stO,catT P)))=(some (LX.out ((i:Int),b,st.map stO,s)):Option (LX (Int×List UInt8×List zA×List UInt8) (LO (Int×List UInt8×List zA) (List UInt8) (Str×Int)))):=by rw[hst'];cases t.kind==9&&t.text==[92]<;>rfl
    rw[hj9,zg];simp only;have hsok:=zCF hsyn;obtain⟨L,B,A,us,hfrom,hbA,hts,hwin⟩:=zAq (R:=LO (Int×List UInt8×List zA) (List UInt8) (Str×Int)) (i:=(i:Int)) hsok (by omega);rw[hfrom,zg];have hBl:B.length<=b.length:=by rw[hbA,Ca];omega
    have hAl:A.length<=b.length:=by rw[hbA,Ca];omega
    have f1:(decide ((0:Int)<=(stO (L,B)).at_)&&decide ((stO (L,B)).at_<=(b.length:Int)))=true:=by show(decide ((0:Int)<=(B.length:Int))&&decide ((B.length:Int)<=(b.length:Int)))=true;rw[Ea (by omega),Ea (by omega)];rfl
    have f2:(stO (L,B)).at_.toNat=B.length:=Ta _;have f3:decide (B.length+(b.length - B.length)<=b.length)=true:=Ea (by omega);have f4:List.take (b.length - B.length) (List.drop B.length b)=A:=by rw[hbA,Jg,Ca,show B.length+A.length - B.length=A.length by omega,Re]
    have f5:Zw A.length s.length=true:=zZ.2 (by omega);simp only[f1,f2,f3,f4,f5,Zf,KZ,Aa,e4,Ta];have htl:(stO (L,B)).token=(L.length:Int):=rfl;have hLl:L.length<=i:=by have:=congrArg List.length hts;rw[Yc,Ca]at this;omega
    have htk:List.drop L.length (List.take (i+k) x)=us++P:=by
     have:List.take (i+k) x=L++(us++P):=by rw[List.take_add,hdr,hP,hts,Ma]
     rw[this,Jg]
    have hPlen:P.length=k:=by rw[<-hP,Yc];omega
    have husP:(us++P).length<=1500:=by have h1:=congrArg List.length hts;rw[Yc,Ca]at h1;rw[Ca,hPlen];omega
    have hcl:clB (A++s)=true:=by have h1:=zBJ hsyn;rw[hbA,Qq,Da]at h1;rw[Qq,h1.2,fD hpc];rfl
    obtain⟨c,hc⟩: ∃c,c=Tg (qm (b++s)) (x.take i++P):=⟨_,rfl⟩;have hwinc:Tg (qm (A++s)) (us++P)=c:=by rw[hc];exact hwin s P
    obtain⟨c',hc'⟩: ∃c',c'=(decide ((A++s).length<=4000)&&c):=⟨_,rfl⟩;have hneed:(decide ((0:Int)<=(stO (L,B)).token)&&(decide ((stO (L,B)).token<=((i+k:Nat):Int))&&decide (((i+k:Nat):Int)<=(x.length:Int))))=true:=by rw[htl,Ea (by omega),Ea (by omega),Ea (by omega)];rfl
    have hcat: ∀(E:Option (LX (Int×List zA×List UInt8) (LO (Int×List UInt8×List zA) (List UInt8) (Str×Int)))),
      E=(need (decide ((0:Int)<=(stO (L,B)).token)&&(decide ((stO (L,B)).token<=((i+k:Nat):Int))&&decide (((i+k:Nat):Int)<=(x.length:Int)))|| !(!((Xo (A++s)).2 != 0)))<|
       (zq (!((Xo (A++s)).2 != 0)) (qg ((Xo (A++s)).1,List.drop (stO (L,B)).token.toNat (List.take (i+k) x))) (default:Bool)).bind fun y13=>
       bif bif (Xo (A++s)).2 != 0 then true else !y13 then
        need (zP b.length ([47,42,42,47]:Str).length 1)<|
        some (LX.out ((i:Int),st.map stO,b++([47,42,42,47]:Str)))
       else
        some (LX.out ((i:Int),st.map stO,b)))->E=some (LX.out ((i:Int),st.map stO,if c' then b else b++cmtW)):=by
     rintro E rfl;rw[hneed,Pe,Zf,show(stO (L,B)).token.toNat=L.length from Ta _,htk];have happ:zP b.length ([47,42,42,47]:Str).length 1=true:=uJ (by show b.length+4<=_;omega);unfold Xo;by_cases hlong:4000<(A++s).length
     ·rw[Ka hlong];have:c'=false:=by rw[hc',Ra (by omega)];rfl
      rw[this];simp only[show((28:Int) != 0)=true from rfl,Nb,zN,Aa,Fa,happ,Zf];rfl
     ·rw[Ja hlong,iM _ hcl];have hcc:c'=c:=by rw[hc',Ea (by omega)];rfl
      by_cases hmany:1500<(qm (A++s)).length
      ·rw[Ka hmany];have:c'=false:=by rw[hcc,<-hwinc];exact LC (by omega)
       rw[this];simp only[show((4:Int) != 0)=true from rfl,Nb,zN,Aa,Fa,happ,Zf];rfl
      ·rw[Ja hmany];simp only[show((0:Int) != 0)=false from rfl,Eb,zG,Ba,PX (show(qm (A++s)).length<=big by omega),hwinc,Aa,happ,Zf];rw[hcc];cases c<;>rfl
    rw[hcat _ rfl,zg];simp only;obtain⟨m,hm⟩: ∃m,n=m+1:=⟨n - 1,by omega⟩;subst hm;rw[hstep m,<-hc]at hW;have hWl:=bK m (x.take i++P) ((if c then b else b++cmtW)++s) ((t::r).drop k);rw[hW]at hWl;have hcw:cmtW.length=4:=rfl;have hb1:(if c' then b else b++cmtW).length<=4004:=by
     split
     ·omega
     ·rw[Ca];omega
    rw[zk (ap16 (by rw[Sa];omega)),zk (uJ (by omega))];have hbs:b.length+s.length<=(wrS x).length:=by
     refine Jc ?_ hWl;rw[Ca];split
     ·omega
     ·rw[Ca];omega
    by_cases hbig2:4000<((if c' then b else b++cmtW)++s).length
    ·rw[Ea (by omega),Fa];refine .inr (.inr ?_);have:4000<(wrS x).length:=by
      by_cases hcc:c'=c
      ·rw[hcc]at hbig2;omega
      ·have: ¬(A++s).length<=4000:=by intro hle;rw[hc',Ea hle]at hcc;exact hcc rfl
       rw[Ca]at this;omega
     rw[Ka this]
    ·rw[Ra (by omega),Ba];have hcc:c'=c:=by
      have:(A++s).length<=4000:=by
       rw[Ca]at hbig2 ⊢;have:b.length<=(if c' then b else b++cmtW).length:=by
        split
        ·exact Cb _
        ·rw[Ca];omega
       omega
      rw[hc',Ea this];rfl
     rw[hcc]at hbig2 ⊢;have hxt:x.take (i+k)=x.take i++P:=by rw[List.take_add,hdr,hP]
     refine .inl ⟨_,rfl,⟨i+k,(if c then b else b++cmtW)++s,st++[(x.take i,if c then b else b++cmtW)],m,?_,by omega,?_,by omega,by omega,?_,?_⟩,?_⟩
     ·refine Prod.ext e4 (Prod.ext rfl ?_);rw[Ed];show st.map stO++[_]=st.map stO++[stO (x.take i,if c then b else b++cmtW)];unfold stO;simp only[Yc,show min i x.length=i by omega]
     ·rw[hxt];cases hcb:c with
      |true=> rw[Ka rfl];exact .no b s _ P st hsyn hpc (Lp.1 (by rw[<-hc,hcb]))
      |false=> rw[Ja (by decide)];refine .cmt b s _ P st hsyn ?_ hpc;rintro rfl;have h0:=hsok.tok;rw[QM (Z6 rfl)]at h0;rw[<-h0,Kc,Kc,iK hpc]at hc;rw[hcb,Lp.2 rfl]at hc;cases hc
     ·rw[hxt,<-hW,<-We,hdr]
     ·rw[Ca,Ua];omega
     ·simp only;rw[e4];omega
   ·have d1:decide ((j:Int)<(P.length:Int))=true:=Ea (by omega);simp only[d1,Fa,QJ hj,Aa]
   ·simp only;rw[Ra (by omega),Ba]
  ·have:i=x.length:=by omega
   subst this;have e1:decide ((x.length:Int)<(x.length:Int))=false:=Ra (by omega);simp only[e1,Ba];refine .inr (.inl ⟨_,rfl,?_⟩);rw[De (Cb _)]at hW;have hWb:b=wrS x:=by
    cases n with
    |zero=>rw[wrF]at hW;exact hW
    |succ n=>rw[wrF]at hW;exact hW
   rw[<-hWb,Ja (by omega)]
 ·rw[Ja hg];have:(gluS x != 0)=true:=by rw[bne_iff_ne];exact hg
  rw[this,Fa]
theorem IQ {S X R:Type} {step:S->Option (LO S X R)} {k:X->Option R} (Inv:S->Prop) (μ:S->Nat) (Q:R->Prop)
  (h: ∀s,Inv s->(∃s',step s=some (.again s')/\Inv s'/\μ s'<μ s)\/(∃x y,step s=some (.out x)/\k x=some y/\Q y)\/(∃y,step s=some (.ret y)/\Q y)) {s:S} (hs:Inv s): ∃y,Zp step s k=some y/\Q y:=by
 have key: ∀(m:Nat) (s:S),μ s<m->Inv s-> ∃(r:LX X R) (y:R),Qz step m s=some r/\r.go k=some y/\Q y:=by
  intro m
  induction m with
  |zero=>intro s h;omega
  |succ m ih=>
   intro s hm hs;simp only[Qz];rcases h s hs with⟨s',h1,h2,h3⟩|⟨x,y,h1,h2,h3⟩|⟨y,h1,h2⟩
   ·rw[h1];exact ih s' (by omega) h2
   ·rw[h1];exact⟨_,y,rfl,h2,h3⟩
   ·rw[h1];exact⟨_,y,rfl,rfl,h2⟩
 obtain⟨r,y,h1,h2,h3⟩:=key (μ s+1) s (by omega) hs;exact⟨y,by rw[wo (Ol h1)];exact h2,h3⟩
def ek(x:List zb)(n:Nat):Prop:= ∀t∈x,t.text.length+t.unit.length<=n
theorem rest_of{x:List zb}(hg:gluS x=0)(h:ek x 1000):Un x:=by obtain⟨_,h1,h2⟩:=vF hg;exact⟨fun t ht=>⟨h1 t ht,by have:=h t ht;omega,by have:=h t ht;omega⟩,h2⟩
theorem wE{x:List zb}{n:Nat}(h:ek x n)(hn:n<=big): ∀t∈x,t.text.length<=big/\t.unit.length<=big:=fun t ht=>by have:=h t ht;omega
end Go.Lv.VT
