/- Pieces: what is written at once; how they begin. -/
import Derived.Test.YtcdeccnjlkkejaaGreatDoorNc
import Derived.Test.YtcdeccnjlkkejaaGreatDoorNam
set_option linter.unusedSimpArgs false
set_option linter.unusedVariables false
namespace Go.Lv.VT
set_option maxRecDepth 100000
abbrev tkSp:zb:=⟨13,[],0,[],false⟩
inductive PcT:Str->List zb->Prop
 |one (t:zb) (h:zgM t) (hb: ¬(t.kind=9/\t.text=[92])) (hu:Lh t=false):PcT (txS t) [t]
 |back:PcT [92,10] [⟨9,[92],0,[],false⟩,tkSp]
 |url (l m:Str) (s:Bool) (h:Zz l=true) (hl:lowS l=[117,114,108]) (hm:Zz m=true):
   PcT (Z8 l++40::((if s then [32]else [])++34::(encB quoB m++[34]))) (⟨2,l,0,[],false⟩::((if s then [tkSp]else [])++[⟨5,m,0,[],false⟩]))
theorem YP{l:Str}(h:lowS l=[117,114,108]): ∃a r,l=a::r/\(a=117\/a=85):=by
 cases l with
 |nil=>cases h
 |cons a r=>
  have h1:El a=117:=by unfold lowS at h;rw[Bb]at h;injection h
  have: ∀n:Nat,n<256->El (UInt8.ofNat n)=117->UInt8.ofNat n=117\/UInt8.ofNat n=85:=by decide+kernel
  have:=this a.toNat (Ob a);rw[Mc]at this;exact⟨a,r,rfl,this h1⟩
theorem yG{l:Str}(h0:l≠[])(z:Str):nmS (Z8 l++40::z)=true:=AP (wm h0) (by show(40:UInt8)≠10;decide)
theorem Wu{k:Int}(h1:13<=k)(h2:k<=24):k=13\/k=14\/k=15\/k=16\/k=17\/k=18\/k=19\/k=20\/k=21\/k=22\/k=23\/k=24:=by omega
theorem EE{s:Str}{P:List zb}(h:PcT s P):nmS s=true\/(∃n p U t,P=[t]/\s=numT n p++U/\t.num=n/\(U=[]/\t.kind=10\/U=[37]\/ ∃u,u≠[]/\Zz u=true/\U=og u))\/
  (∃c r,s=c::r/\(c=64\/c=35\/c=34)/\nbS s=false)\/(∃c,s=[c]/\si c.toNat=true)\/(∃k,13<=k/\k<=24/\s=Bo k)\/s=[92,10]:=by
 cases h with
 |one t h hb hu=>
  cases h with
  |cId l h0 h=>left;rw[Np];exact wm h0
  |cFn l h0 h=>left;rw[Pm];exact yG h0 []
  |cAt l h0 h=>right;right;left;rw[Pp];exact⟨64,_,rfl, .inl rfl,rfl⟩
  |cHash l f h0 h hbb=>right;right;left;rw[rq];exact⟨35,_,rfl, .inr (.inl rfl),rfl⟩
  |cStr l h=>right;right;left;rw[Io];exact⟨34,_,rfl, .inr (.inr rfl),rfl⟩
  |cUrl l h=>left;rw[Fq];rfl
  |cDel c h=>right;right;right;left;rw[Jq];exact⟨c,rfl,h⟩
  |cNum n f h1 h2 hf=>right;left;exact⟨n, !f,[],_,rfl,by rw[Hq,ja],rfl, .inl ⟨rfl,rfl⟩⟩
  |cPct n h1 h2=>right;left;exact⟨n,false,[37],_,rfl,Gq n,rfl, .inr (.inl rfl)⟩
  |cDim n u f h1 h2 hf h0 h=>right;left;exact⟨n, !f,og u,_,rfl,Iq n u f,rfl, .inr (.inr ⟨u,h0,h,rfl⟩)⟩
  |cMark k h1 h2=>right;right;right;right;left;exact⟨k,h1,h2,pq h1 h2⟩
 |back=>right;right;right;right;right;rfl
 |url l m s h hl hm=> left;obtain⟨a,r,rfl,_⟩:=YP hl;exact yG (by simp) _
theorem sK(c:UInt8)(h:si c.toNat=true):spB c=false/\nbS [c]=false/\c≠101/\c≠69:=by
 have: ∀n:Nat,n<256->si (UInt8.ofNat n).toNat=true->spB (UInt8.ofNat n)=false/\nbS [UInt8.ofNat n]=false/\UInt8.ofNat n≠101/\UInt8.ofNat n≠69:=by decide+kernel
 have:=this c.toNat (Ob c);rw[Mc]at this;exact this h
theorem zBy{s:Str}(h:digB (atS (unsign s) 0)=true):nbS s=true:=by unfold nbS undot;have:(atS (unsign s) 0==46)=false:=Ia.2 (QB h).2.2.1;rw[this,Ja (by decide),h]
theorem rG{s:Str}{P:List zb}(h:PcT s P)(hd:digB (atS (unsign s) 0)=true): ∃n p U t,P=[t]/\s=numT n p++U/\t.num=n/\(U=[]/\t.kind=10\/U=[37]\/ ∃u,u≠[]/\Zz u=true/\U=og u):=by
 have hn:=zBy hd;rcases EE h with h|h|⟨c,r,e,_,h⟩|⟨c,rfl,h'⟩|⟨k,h1,h2,rfl⟩|rfl
 ·rw[aY h]at hn;cases hn
 ·exact h
 ·rw[h]at hn;cases hn
 ·rw[(sK c h').2.1]at hn;cases hn
 ·rcases Wu h1 h2 with rfl|rfl|rfl|rfl|rfl|rfl|rfl|rfl|rfl|rfl|rfl|rfl<;>cases hn
 ·cases hn
theorem zGD{s:Str}{P:List zb}(h:PcT s P)(hd:spB (atS s 0)=true):s=[32]:=by
 rcases EE h with h|⟨n,p,U,t,_,rfl,_⟩|⟨c,r,rfl,hc,_⟩|⟨c,rfl,h'⟩|⟨k,h1,h2,rfl⟩|rfl
 ·rw[(Cy (Nt h)).1]at hd;cases hd
 ·obtain⟨c,r,e,_,h2,_⟩:=jq n p U;rw[e]at hd;rw[show atS (c::r) 0=c from rfl,h2]at hd;cases hd
 ·rcases hc with rfl|rfl|rfl<;>cases hd
 ·rw[show atS [c] 0=c from rfl,(sK c h').1]at hd;cases hd
 ·rcases Wu h1 h2 with rfl|rfl|rfl|rfl|rfl|rfl|rfl|rfl|rfl|rfl|rfl|rfl<;>first|rfl|cases hd
 ·cases hd
theorem fD{s:Str}{P:List zb}(h:PcT s P){b:UInt8}(hb:b=47\/b=42)(hd:atS s 0=b):s=[b]:=by
 rcases EE h with h|⟨n,p,U,t,_,rfl,_⟩|⟨c,r,rfl,hc,_⟩|⟨c,rfl,h'⟩|⟨k,h1,h2,rfl⟩|rfl
 ·have h1:=Nt h;rw[hd]at h1;rcases hb with rfl|rfl<;>cases h1
 ·obtain⟨c,r,e,h1,_⟩:=jq n p U;rw[e]at hd;rw[show c=b from hd]at h1;rcases hb with rfl|rfl<;>cases h1
 ·rw[show c=b from hd]at hc;rcases hb with rfl|rfl<;>rcases hc with hc|hc|hc<;>cases hc
 ·rw[show c=b from hd]
 ·rcases Wu h1 h2 with rfl|rfl|rfl|rfl|rfl|rfl|rfl|rfl|rfl|rfl|rfl|rfl<;>rcases hb with rfl|rfl<;>cases hd
 ·rcases hb with rfl|rfl<;>cases hd
theorem Yk{s:Str}{P:List zb}(h:PcT s P):s≠[]:=by
 rcases EE h with h|⟨n,p,U,t,_,rfl,_⟩|⟨c,r,rfl,hc,_⟩|⟨c,rfl,h'⟩|⟨k,h1,h2,rfl⟩|rfl
 ·exact Tm h
 ·obtain⟨c,r,e,_⟩:=jq n p U;rw[e];simp
 ·simp
 ·simp
 ·rcases Wu h1 h2 with rfl|rfl|rfl|rfl|rfl|rfl|rfl|rfl|rfl|rfl|rfl|rfl<;>decide
 ·simp
theorem zBw{l:Str}{c:UInt8}{r:Str}(he:c=101\/c=69)(h:Z8 l=c::r): ∃t,l=c::t:=by
 cases l with
 |nil=>unfold Z8 at h;rw[encW]at h;cases h
 |cons a t=>
  have hn:Z8 (a::t)=pcW ((a::t:Str)==[45]) (Z5 (a::t)) a++encW ((a::t:Str)==[45]) (Z5 (a::t) - 1) t:=rfl;obtain⟨d,u,e,hd⟩:=FE (dash:=(a::t:Str)==[45]) (k:=Z5 (a::t)) (by unfold Z5;split<;>omega) a (encW ((a::t:Str)==[45]) (Z5 (a::t) - 1) t);rw[hn,e]at h;injection h with h1 h2;rcases hd with⟨rfl,_⟩|⟨rfl,_⟩
  ·rcases he with rfl|rfl<;>cases h1
  ·exact⟨t,by rw[h1]⟩
theorem zFP{s:Str}{P:List zb}(h:PcT s P)(hd:atS s 0=101\/atS s 0=69): ∃l t z,Zz l=true/\P=[t]/\(t.kind=1\/t.kind=2)/\t.text=l/\s=Z8 l++z/\(z=[]\/z=[40]):=by
 cases h with
 |one t h hb hu=>
  cases h with
  |cId l h0 h=>exact⟨l,_,[],h,rfl, .inl rfl,rfl,by rw[Np,ja], .inl rfl⟩
  |cFn l h0 h=>exact⟨l,_,[40],h,rfl, .inr rfl,rfl,Pm l, .inr rfl⟩
  |cAt l h0 h=>rw[Pp]at hd;rcases hd with hd|hd<;>cases hd
  |cHash l f h0 h hbb=>rw[rq]at hd;rcases hd with hd|hd<;>cases hd
  |cStr l h=>rw[Io]at hd;rcases hd with hd|hd<;>cases hd
  |cUrl l h=>rw[Fq]at hd;rcases hd with hd|hd<;>cases hd
  |cDel c h=>
   rw[Jq]at hd;obtain⟨_,_,k1,k2⟩:=sK c h;rcases hd with hd|hd
   ·exact absurd hd k1
   ·exact absurd hd k2
  |cNum n f h1 h2 hf=>
   rw[Hq]at hd;obtain⟨c,r,e,h1,_⟩:=jq n (!f) [];rw[ja]at e;rw[e]at hd;rcases hd with hd|hd<;>(rw[show c=_ from hd]at h1;cases h1)
  |cPct n h1 h2=>
   rw[Gq]at hd;obtain⟨c,r,e,h1,_⟩:=jq n false [37];rw[e]at hd;rcases hd with hd|hd<;>(rw[show c=_ from hd]at h1;cases h1)
  |cDim n u f h1 h2 hf h0 h=>
   rw[Iq]at hd;obtain⟨c,r,e,h1,_⟩:=jq n (!f) (og u);rw[e]at hd;rcases hd with hd|hd<;>(rw[show c=_ from hd]at h1;cases h1)
  |cMark k h1 h2=> rw[pq h1 h2]at hd;rcases Wu h1 h2 with rfl|rfl|rfl|rfl|rfl|rfl|rfl|rfl|rfl|rfl|rfl|rfl<;>rcases hd with hd|hd<;>cases hd
 |back=>rcases hd with hd|hd<;>cases hd
 |url l m s h hl hm=>
  exfalso;obtain⟨a,r,rfl,ha⟩:=YP hl;obtain⟨c,r2,e⟩:=Jj (Tm (wm (l:=a::r) (by simp)));have hd':c=101\/c=69:=by rw[e]at hd;exact hd
  obtain⟨t,e2⟩:=zBw hd' e;injection e2 with e3 _;subst e3;rcases ha with rfl|rfl<;>rcases hd' with h|h<;>cases h
def ShS(s r:Str):Prop:=r=s\/ ∃d y,digB d=true/\s=48::46::d::y/\r=46::d::y
theorem bQ(cap:Nat)(l:Str):capF cap 0 (48::l)=capF cap 0 l:=by show capF cap (min cap (decN 0 48)) l=_;rw[show decN 0 48=0 from rfl,Nat.min_zero]
theorem zCl(A:Str)(p:Int):thoV (48::A) p=thoV A p:=by
 unfold thoV;by_cases hp:p<0
 ·rw[La hp,La hp];by_cases hl:(A.length:Int)+p<0
  ·have h1:(((48::A:Str).length:Int)+p).toNat=0:=by rw[Fa];omega
   grind
  ·have h1:(((48::A:Str).length:Int)+p).toNat=((A.length:Int)+p).toNat+1:=by rw[Fa];omega
   rw[h1,Xf,bQ]
 ·rw[Ja hp,Ja hp,bQ]
theorem gF(d:UInt8)(y:Str)(hd:digB d=true):Zx (48::46::d::y)=Zx (46::d::y):=by
 have hs:ag 48=false/\ag 46=false:=by decide
 have hq1:Mg (48::46::d::y)=46::d::y:=rfl;have hq2:Mg (46::d::y)=46::d::y:=rfl;have he:zy (48::46::d::y)=zy (46::d::y):=by rw[QE,QE,hq1,hq2]
 have hv:(numP (48::46::d::y)).val=(numP (46::d::y)).val:=by have h1:numP (48::46::d::y)=⟨[],[48],dotP (46::d::y),expP (zT (46::d::y)).1⟩:=rfl;have h2:numP (46::d::y)=⟨[],[],dotP (46::d::y),expP (zT (46::d::y)).1⟩:=rfl;rw[h1,h2];unfold NumP.val;simp only[Ad,Nc,zCl]
 have hn:nbS (46::d::y)=true:=hd;rw[Wv,Ja (by decide),Ja (by decide),show((48:UInt8)==35)=false from rfl,Yc,Ja (by decide),show nbS (48::46::d::y)=true from rfl,La rfl,
  Wv,Ja (by decide),Ja (by decide),show((46:UInt8)==35)=false from rfl,Yc,Ja (by decide),hn,La rfl]
 unfold zB;rw[he,hv]
theorem capG(cap:Nat): ∀(l:Str) (n:Nat),valG n l<=cap->capF cap n l=valG n l
 |[],n,_=>rfl
 |c::l,n,h=>by
  have h1:valG n (c::l)=valG (decN n c) l:=rfl;rw[h1]at h ⊢;have h2:decN n c<=valG (decN n c) l:=by rw[Ky l (decN n c)];have:=Xe (decN n c) (Yg (n:=l.length) (show 0<10 by omega));omega
  rw[capF,Nat.min_eq_right (Bc h2 h)];exact capG cap l (decN n c) h
theorem bZ: ∀(k n:Nat),n*10 ^ k<=1000->mh k n=n*10 ^ k
 |0,n,_=>by rw[mh,Nat.pow_zero,Mh]
 |k+1,n,h=>by
  have hm:jg=1000000000000:=rfl;rw[mh];have hpos:0<10 ^ k:=Yg (by omega);have e:n*10 ^ (k+1)=10*n*10 ^ k:=by rw[oh,Ng 10 n,Pg,Ng (10 ^ k) 10]
  have h1:10*n<=10*n*10 ^ k:=Xe _ hpos;by_cases h0:n=0
  ·subst h0;simp
  ·rw[Ja (by omega),Nat.min_eq_right (by omega),bZ k (10*n) (by omega),e]
theorem zA7{n:Int}{p:Bool}(hp:(partT (n.natAbs%1000) p).isEmpty=false){U:Str}(hU:past digB U=U)(hx:expS U=none):
  (numP (46::(partT (n.natAbs%1000) p++U))).val=((n.natAbs%1000:Nat):Int):=by
 obtain⟨k1,k2,k3,_,_⟩:=Br (r:=n.natAbs%1000) (by omega) p;generalize partT (n.natAbs%1000) p=F at*;obtain⟨c,r,rfl⟩:=Jj (show F≠[] by grind);have hc:digB c=true:=by rw[Sd,Ga]at k1;exact k1.1
 have hq:Mg (46::(c::r++U))=46::(c::r++U):=rfl;have hpast:past digB (c::r++U)=U:=by rw[Yz _ _ k1,hU]
 have hw:zT (46::(c::r++U))=(U,false):=by unfold zT;rw[show atS (46::(c::r++U)) 1=c from rfl,hc,show(atS (46::(c::r++U)) 0==46&&true)=true from rfl,La rfl,show(46::(c::r++U)).drop 1=c::r++U from rfl,hpast]
 have hrun:List.takeWhile digB (c::r++U)=c::r:=by have:=Jv digB (c::r++U);rw[hpast]at this;exact List.append_cancel_right this
 have hd:dotP (46::(c::r++U))=some (c::r):=by unfold dotP;rw[show atS (46::(c::r++U)) 1=c from rfl,hc,show(atS (46::(c::r++U)) 0==46&&true)=true from rfl,La rfl,show(46::(c::r++U)).drop 1=c::r++U from rfl,hrun]
 have he:expP U=none:=by unfold expP;rw[uo]at hx;rw[hx,Ja (by decide)]
 have hP:numP (46::(c::r++U))=⟨[],[],some (c::r),none⟩:=by show(⟨sgOf (46::(c::r++U)),_,dotP (46::(c::r++U)),expP (zT (46::(c::r++U))).1⟩:NumP)=_;rw[hd,hw,he];rfl
 rw[hP];unfold NumP.val;show(((thoV ([]++(c::r)) (3+0 - ((c::r:Str).length:Int))):Nat):Int)=_;unfold thoV;rw[Nc,Ja (by omega),show(3+0 - ((c::r:Str).length:Int)).toNat=3 - (c::r:Str).length by omega];have hle:valG 0 (c::r)<=1000:=by have:=Xe (valG 0 (c::r)) (Yg (n:=3 - (c::r:Str).length) (show 0<10 by omega));omega
 rw[capG _ _ _ (by unfold jg;omega),bZ _ _ (by omega),k3]
theorem zAT{m:Nat}(h:m=0):Lib.decDigits m=[48]:=by subst h;decide+kernel
theorem OD{t:zb}{U:Str}(hU:U=[]/\t.kind=10\/U=[37]\/ ∃u,u≠[]/\Zz u=true/\U=og u):past digB U=U/\expS U=none/\(U=[]\/U=[37]\/(nmS U=true/\(zo U).2=[])):=by
 rcases hU with⟨rfl,_⟩|rfl|⟨u,h0,h,rfl⟩
 ·exact⟨rfl,rfl, .inl rfl⟩
 ·exact⟨rfl,rfl, .inr (.inl rfl)⟩
 ·have hn:=sH h0 h;have e1:=(bI hn []).1;have e2:=DV h0 h (x:=[]) (.inl rfl);have e3:=WL h0 h [];rw[ja]at e1 e2 e3;exact⟨e1,e2, .inr (.inr ⟨hn,by rw[e3,qV]⟩)⟩
theorem NH(n:Int)(p:Bool)(U:Str):past digB (unsign (numT n p++U))=past digB (dotS (if(partT (n.natAbs%1000) p).isEmpty then none else some (partT (n.natAbs%1000) p))++U):=q2_T n p U
theorem jI{n:Int}{p:Bool}(U:Str)(hp:(partT (n.natAbs%1000) p).isEmpty=true):past digB (unsign (numT n p++U))=past digB U:=by rw[NH,hp];rfl
theorem iI{n:Int}{p:Bool}(U:Str)(hp:(partT (n.natAbs%1000) p).isEmpty=false):past digB (unsign (numT n p++U))=46::(partT (n.natAbs%1000) p++U):=by rw[NH,hp];rfl
theorem zFk(z:Str):expS (46::z)=none:=rfl
theorem bY(z:Str):nmS (46::z)=false:=rfl
theorem zBk{s r:Str}{P:List zb}(h:PcT s P)(hd:digB (atS s 0)=true)(hr:r=past digB s)(hn:nmS r=false)(h37:(atS r 0==37)=false)(hT:qE r=P):ShS s r:=by
 have hun:unsign s=s:=by unfold unsign ag;rw[Ia.2 (QB hd).1,Ia.2 (QB hd).2.1];rfl
 obtain⟨n,p,U,t,rfl,rfl,hnum,hU⟩:=rG h (by grind);obtain⟨u1,u2,u3⟩:=OD hU;rw[<-hun,NH]at hr;cases hp:(partT (n.natAbs%1000) p).isEmpty with
 |true=>
  rw[hp]at hr;have hr':r=U:=by rw[hr];exact u1
  subst hr';rcases u3 with rfl|rfl|⟨hu,_⟩
  ·rw[Pj (qd rfl)]at hT;cases hT
  ·cases h37
  grind
 |false=>
  rw[hp]at hr;have hr':r=46::(partT (n.natAbs%1000) p++U):=by rw[hr];rfl
  have hv:=zA7 hp u1 u2;obtain⟨c,q,hF⟩:=Jj (show partT (n.natAbs%1000) p≠[] by grind);have hdig:=oJ (n:=n) (p:=p);have hc:digB c=true:=by rw[hF,Sd,Ga]at hdig;exact hdig.1
  have hcm:cmtS r=46::(partT (n.natAbs%1000) p++U):=by rw[hr'];exact qd rfl
  rw[QZ hcm]at hT;injection hT with hT _;have hnx:Zx (46::(partT (n.natAbs%1000) p++U))=zB (46::(partT (n.natAbs%1000) p++U)):=by
   have hnb:nbS (46::(partT (n.natAbs%1000) p++U))=true:=by rw[hF];exact hc
   rw[Wv,Ja (by decide),Ja (by decide),show((46:UInt8)==35)=false from rfl,Yc,Ja (by decide),hnb,La rfl]
  have hval: ∀q:Str,(zB q).1.num=(numP q).val:=by
   intro q;unfold zB;split
   ·rfl
   ·split<;>rfl
  rw[hnx]at hT;have h1:=hval (46::(partT (n.natAbs%1000) p++U));rw[hT,hv,hnum]at h1;have hz:n.natAbs / 1000=0:=by omega
  have hs:numT n p++U=48::46::c::(q++U):=by rw[Fy,hp,zAT hz,hF];unfold sgT;rw[Ja (by omega)];rfl
  right;exact⟨c,q++U,hc,hs,by rw[hr',hF];rfl⟩
theorem xS: ∀(y r:Str),y.all letB=true->zo (y++r)=(y++(zo r).1,(zo r).2)
 |[],r,_=>rfl
 |c::y,r,h=>by rw[Sd,Ga]at h;rw[Db,zM,La h.1,xS y r h.2];rfl
theorem zDz{l:Str}(h:l.all digB=true):l.all letB=true:=by
 rw[ma]at h ⊢;intro b hb;unfold letB
 grind
theorem zBj{s r:Str}{P:List zb}(h:PcT s P)(he:atS s 0=101\/atS s 0=69)(hd:digB (atS (unsign (s.drop 1)) 0)=true)(hr:r=past digB (unsign (s.drop 1)))(hT:qE r=P):False:=by
 obtain⟨l,t,z,hl,rfl,hk,ht,rfl,hz⟩:=zFP h he;obtain⟨c,q,e⟩:=Jj (Yk h);have hnz:zo z=([],z):=by rcases hz with rfl|rfl;exact qV;exact kJ []
 have hname:zo (Z8 l++z)=(l,z):=by rw[Ep z hl,hnz,ja]
 rw[e]at he hd hr hname;rw[show(c::q).drop 1=q from rfl]at hd hr;have hc:letB c=true:=by rcases he with h|h<;>(rw[show c=_ from h];rfl)
 -- the sign is a dash, or none
 have hsg:(sgOf q).all letB=true:=by
  unfold sgOf;cases hs:ag (atS q 0)with
  |false=>rfl
  |true=>
   rw[La rfl];unfold ag at hs;rw[Pd,Jb,Jb]at hs;rcases hs with hs|hs
   ·exfalso;cases q with
    |nil=>cases hs
    |cons d q'=>
     rw[show d=43 from hs,zM,La hc,zM,Ja (by decide),Ja (by unfold escS;rw[show atS (43::q') 0=43 from rfl];simp)]at hname
     grind
   ·rw[hs];rfl
 have hsplit:c::q=(c::(sgOf q++(unsign q).takeWhile digB))++r:=by rw[hr,Db,Na,Jv,MN]
 have hall:(c::(sgOf q++(unsign q).takeWhile digB)).all letB=true:=by rw[Sd,hc,Ig,hsg,zDz (ED digB _)];rfl
 rw[hsplit,xS _ _ hall]at hname;injection hname with hn1 hn2;have hcm:cmtS r=r:=by
  refine qd ?_;cases r with
  |nil=>rfl
  |cons d u=>
   refine Ex (Ia.2 ?_);rintro rfl;rw[zM,Ja (by decide),Ja (by unfold escS;rw[show atS (47::u) 0=47 from rfl];simp)]at hn2
   grind
 cases r with
 |nil=>rw[Pj hcm]at hT;cases hT
 |cons d u=>
  rw[QZ hcm]at hT;injection hT with hT _;have hbr:=Vo d u;rw[hT]at hbr;have hbr':brS d u=7:=by rcases hk with hk|hk<;>(rw[hk]at hbr;exact hbr.symm)
  have hx:t.text=(zo (d::u)).1:=by
   rw[<-hT,qM,hbr',Jk];have hk':(qF (d::u)).1.kind=1\/(qF (d::u)).1.kind=2:=by
    have:(qF (d::u)).1=t:=by rw[<-hT,qM,hbr',Jk]
    rw[this];exact hk
   unfold qF at hk' ⊢;split
   ·rename_i h40;rw[La h40]at hk';split
    ·rename_i h2;rw[La h2]at hk';rcases EJ (urlS (past spB ((zo (d::u)).2.drop 1))).1 with hh|hh<;>rcases hk' with hk'|hk'<;>rw[show(Vi (urlS (past spB ((zo (d::u)).2.drop 1))).1).kind=_ from hk']at hh<;>cases hh
    ·rfl
   ·rfl
  rw[<-hx,ht]at hn1;have:=congrArg List.length hn1
  grind
theorem O6{z r:Str}(h:zT z=(r,true)):r=z:=by
 unfold zT at h
 grind
theorem zAK{z r:Str}(h:(match expS (zT z).1 with|some r=>(r,false)|none=>zT z)=(r,true)):r=z:=by
 cases hx:expS (zT z).1 with
 |some y=>grind
 |none=>rw[hx]at h;exact O6 h
theorem zDp{z r:Str}{b:Bool}(h:(match expS z with|some r=>(r,false)|none=>(z,false))=(r,b)):r=z\/expS z=some r:=by
 grind
theorem bS{t:zb}{s r:Str}{P:List zb}(ht:zgM t)(h:PcT s P)(hr:rY t s r)(hT:qE r=P):ShS s r:=by
 have hP:P≠[]:=by cases h<;>simp
 have hrne:r≠[]:=by rintro rfl;rw[Pj (qd rfl)]at hT;exact hP hT.symm
 have nodig:digB (atS s 0)=false->past digB s=s:=by
  intro hd;cases s with
  |nil=>rfl
  |cons c q=>rw[past,show digB c=false from hd];rfl
 rcases hr with hr|⟨_,hr⟩|⟨hk,he,hn,h37⟩|⟨_,sg,hsg,hd,hn,hr⟩
 ·exact .inl hr
 ·cases hsp:spB (atS s 0)with
  |true=> rw[zGD h hsp]at hr;exact absurd hr hrne
  |false=>
   left;rw[hr];cases s with
   |nil=>rfl
   |cons c q=>rw[past,show spB c=false from hsp];rfl
 ·cases ht with
  |cNum n f h1 h2 hf=>
   have he':zy (numT n (!f)++s)=(r,f):=he;have hcase:r=past digB s\/expS (past digB s)=some r:=by
    cases hp:(partT (n.natAbs%1000) (!f)).isEmpty with
    |true=> left;rw[dI hp]at he';rw[mK hf]at hp;subst hp;exact zAK he'
    |false=> rw[bH hp]at he';exact zDp he'
   cases hd:digB (atS s 0)with
   |true=>
    rcases hcase with hr|hx
    ·exact zBk h hd hr hn h37 hT
    ·exfalso;have hun:unsign s=s:=by unfold unsign ag;rw[Ia.2 (QB hd).1,Ia.2 (QB hd).2.1];rfl
     obtain⟨n2,p2,U,t2,rfl,rfl,_,hU⟩:=rG h (by grind);obtain⟨u1,u2,_⟩:=OD hU;rw[<-hun]at hx;cases hp:(partT (n2.natAbs%1000) p2).isEmpty with
     |true=>rw[jI U hp,u1,u2]at hx;cases hx
     |false=>rw[iI U hp,zFk]at hx;cases hx
   |false=>
    rw[nodig hd]at hcase;rcases hcase with hr|hx
    ·exact .inl hr
    ·obtain⟨h1,h2,h3⟩:=sQ hx;exact(zBj h h1 h2 h3 hT).elim
  |cId|cFn|cAt|cHash|cStr|cUrl|cDel|cPct|cDim=>simp at hk
  |cMark k h1 h2=>grind
 ·exfalso;have hds:digB (atS (unsign s) 0)=true/\past digB (unsign (sg++s))=past digB (unsign s):=by
   rcases hsg with rfl|rfl
   ·grind
   ·have hd':digB (atS s 0)=true:=hd;have hun:unsign s=s:=by unfold unsign ag;rw[Ia.2 (QB hd').1,Ia.2 (QB hd').2.1];rfl
    rw[hun];exact⟨hd',rfl⟩
  obtain⟨hd1,hd2⟩:=hds;rw[hd2]at hn hr;obtain⟨n2,p2,U,t2,rfl,rfl,_,hU⟩:=rG h hd1;obtain⟨u1,_,u3⟩:=OD hU;cases hp:(partT (n2.natAbs%1000) p2).isEmpty with
  |true=>
   rw[jI U hp,u1]at hn hr;rcases u3 with rfl|rfl|⟨_,hu⟩
   ·cases hn
   ·cases hn
   grind
  |false=>rw[iI U hp,bY]at hn;cases hn
abbrev cmtW:Str:=[47,42,42,47]
theorem MH{s:Str}{P:List zb}(h:PcT s P)(x:Str)(hx:atS x 0≠42):([47,42]:Str).isPrefixOf (s++x)=false:=by
 obtain⟨c,r,rfl⟩:=Jj (Yk h);by_cases hc:c=47
 ·have:=fD h (.inl rfl) hc;rw[this];cases x with
  |nil=>rfl
  |cons d t=> show((47==(47:UInt8))&&((42==d)&&_))=false;have:((42:UInt8)==d)=false:=Ia.2 (fun e=>hx e.symm);rw[this,Yc,Pe]
 ·exact Ex (Ia.2 hc)
theorem LC{s:Str}{P:List zb}(h:PcT s P):cmtS s=s:=by
 refine qd ?_;have:=MH h [] (by decide)
 rwa [ja]at this
theorem aH(x:Str):Zx (92::10::x)=(⟨9,[92],0,[],false⟩,10::x):=rfl
theorem K8{l:Str}(h0:l≠[])(h:Zz l=true)(hl:lowS l=[117,114,108])(b:Bool)(w:Str):
  Zx (Z8 l++40::((if b then [32]else [])++34::w))=(⟨2,l,0,[],false⟩,(if b then [32]else [])++34::w):=by
 have hn:=yG h0 ((if b then [32]else [])++34::w);have hnd:=oO h ((if b then [32]else [])++34::w);obtain⟨c,r,e⟩:=Jj (Tm hn);rw[e]at hn hnd ⊢;rw[qM,YD hn (by rw[hnd];intro t e;injection e with e _;cases e),Jk];unfold qF;rw[hnd];simp only;have hp:atS (past spB ((40::((if b then [32]else [])++34::w)).drop 1)) 0=34:=by cases b<;>rfl
 rw[La (by rfl),hl,hp,Ja (by decide)];rfl
theorem EZ{l:Str}(h:lowS l=[117,114,108]):l≠[]:=by rintro rfl;cases h
theorem zCt(l m x:Str)(b:Bool):(Z8 l++40::((if b then [32]else [])++34::(encB quoB m++[34])))++x=Z8 l++40::((if b then [32]else [])++34::((encB quoB m++[34])++x)):=by rw[Na,Db,Na];rfl
theorem oZ{l m:Str}{b:Bool}(h:Zz l=true)(hl:lowS l=[117,114,108])(hm:Zz m=true)(x:Str):
  run ((Z8 l++40::((if b then [32]else [])++34::(encB quoB m++[34])))++x) (⟨2,l,0,[],false⟩::((if b then [tkSp]else [])++[⟨5,m,0,[],false⟩])) x:=by
 rw[zCt];have hf:=K8 (EZ hl) h hl b ((encB quoB m++[34])++x);have hn:=yG (EZ hl) ((if b then [32]else [])++34::((encB quoB m++[34])++x));have hs: ∀q:Str,q=34::((encB quoB m++[34])++x)->run q [⟨5,m,0,[],false⟩] x:=by rintro q rfl;have:=nI hm x;rw[Db]at this;exact⟨34,_,qd rfl,by rw[this],by rw[this];rfl⟩
 obtain⟨c,r,e⟩:=Jj (Tm hn);rw[e]at hf hn ⊢;have hc:c≠47:=by rintro rfl;exact absurd (show hdB 47=true from Nt hn) (by decide)
 refine⟨c,r,qd (Ex (Ia.2 hc)),by rw[hf],?_⟩;rw[hf];cases b with
 |false=>exact hs _ rfl
 |true=> exact⟨32,34::((encB quoB m++[34])++x),qd rfl,rfl,hs _ rfl⟩
theorem xY{s:Str}{P:List zb}(h:PcT s P){x:Str}(hx:neu x):run (s++x) P x:=by
 cases h with
 |one t h hb hu=>
  have hn:=zDo h hb hu hx;have hp:=MH (.one t h hb hu) x (by rcases hx with rfl|⟨y,rfl⟩;exact(show(0:UInt8)≠42 by decide);exact(show(47:UInt8)≠42 by decide));obtain⟨c,r,e⟩:=Jj (Yk (.one t h hb hu));rw[e]at hn hp ⊢;exact⟨c,r++x,qd hp,by rw[show c::(r++x)=(c::r)++x from rfl,hn],by rw[show c::(r++x)=(c::r)++x from rfl,hn];rfl⟩
 |back=> refine⟨92,10::x,qd rfl,by rw[aH],?_⟩;rw[aH];refine⟨10,x,qd rfl,rfl,?_⟩;show past spB x=x;exact PP rfl hx
 |url l m b h hl hm=>exact oZ h hl hm x
theorem zEk{u s r:Str}{p P:List zb}(hu:PcT u p)(hs:PcT s P)(hr:run (u++s) p r)(hT:qE r=P):ShS s r:=by
 cases hu with
 |one t h hb hu=>
  obtain⟨c,q,h1,h2,h3⟩:=hr;have hpu:PcT (txS t) [t]:= .one t h hb hu;rw[run]at h3;cases hp:([47,42]:Str).isPrefixOf (txS t++s)with
  |true=>
   exfalso;obtain⟨c0,r0,e⟩:=Jj (Yk hpu);by_cases hc:c0=47
   ·have e2:=fD hpu (.inl rfl) (by rw[e];exact hc);rw[e2]at hp h1;have h42:atS s 0=42:=by
     cases s with
     |nil=>cases hp
     |cons d t'=>
      have:((42:UInt8)==d)=true:=by have h':((47==(47:UInt8))&&((42==d)&&true))=true:=hp;simpa using h'
      exact(Jb.1 this).symm
    rw[fD hs (.inr rfl) h42]at h1;have:cmtS ([47]++[42])=[]:=by rw[uj];rfl
    rw[this]at h1;cases h1
   ·rw[e,Db,Ex (Ia.2 hc)]at hp;cases hp
  |false=> rw[qd hp]at h1;rw[<-h1]at h2 h3;have:=zAI h hu h2;rw[h3]at this;exact bS h hs this hT
 |back=> obtain⟨c,q,h1,h2,h3⟩:=hr;rw[show cmtS ([92,10]++s)=92::10::s from qd rfl]at h1;injection h1 with e1 e2;subst e1 e2;rw[aH]at h3;obtain⟨c',q',g1,g2,g3⟩:=h3;rw[show cmtS (10::s)=10::s from qd rfl]at g1;injection g1 with e1 e2;subst e1 e2;rw[run]at g3;have g3':past spB s=r:=g3;exact bS (t:=tkSp) (.cMark 13 (by omega) (by omega)) hs (.inr (.inl ⟨rfl,g3'.symm⟩)) hT
 |url l m b h hl hm=>exact .inl (CO hr (oZ h hl hm s))
def Lk(R A:Str):Prop:=cmtS R=A\/ ∃d y,digB d=true/\A=48::46::d::y/\cmtS R=46::d::y
theorem YN{R A:Str}(h:Lk R A)(hA:A≠[]):cmtS R≠[]:=by
 rcases h with h|⟨d,y,_,_,h⟩
 ·rw[h];exact hA
 ·rw[h];simp
theorem GZ{R A x:Str}(h:Lk R A)(hA:A≠[])(hp:([47,42]:Str).isPrefixOf (A++x)=false):Lk (R++x) (A++x):=by
 rcases h with h|⟨d,y,hd,rfl,h⟩
 ·left;rw[uy (by rw[h];exact hA) (by rw[h];exact hp),h]
 ·right;exact⟨d,y++x,hd,rfl,by rw[uy (by rw[h];simp) (by rw[h];rfl),h];rfl⟩
theorem FZ{R A:Str}(h:Lk R A)(hp:([47,42]:Str).isPrefixOf A=false){t:zb}{ts:List zb}{r:Str}:run R (t::ts) r↔run A (t::ts) r:=by
 rcases h with h|⟨d,y,hd,rfl,h⟩
 ·rw[<-FO (q:=R) (by simp),h]
 ·rw[<-FO (q:=R) (by simp),h];constructor
  ·rintro⟨c,q,h1,h2,h3⟩;rw[qd rfl]at h1;rw[<-h1]at h2 h3;exact⟨48,46::d::y,qd rfl,by rw[gF d y hd];exact h2,by rw[gF d y hd];exact h3⟩
  ·rintro⟨c,q,h1,h2,h3⟩;rw[qd rfl]at h1;rw[<-h1,gF d y hd]at h2 h3;exact⟨46,d::y,qd rfl,h2,h3⟩
theorem rO{R A:Str}(h:Lk R A):qE R=qE A:=by
 rcases h with h|⟨d,y,hd,rfl,h⟩
 ·rw[<-Dv R,h]
 ·rw[<-Dv R,h,QZ (qd rfl),QZ (l:=48::46::d::y) (qd rfl),gF d y hd]
inductive Syn:Str->List zb->List (List zb×Str)->Prop
 |nil:Syn [] [] []
 |cmt (b s:Str) (ts P:List zb) (st:List (List zb×Str)) (h:Syn b ts st) (hb:b≠[]) (hp:PcT s P):Syn (b++cmtW++s) (ts++P) (st++[(ts,b++cmtW)])
 |no (b s:Str) (ts P:List zb) (st:List (List zb×Str)) (h:Syn b ts st) (hp:PcT s P) (ht:qE (b++s)=ts++P):Syn (b++s) (ts++P) (st++[(ts,b)])
def Bd(b:Str)(ts L:List zb)(B:Str)(m:Nat):Prop:= ∃A R us,b=B++A/\A≠[]/\ts=L++us/\us≠[]/\run b L R/\Lk R A/\m<=R.length/\m<=A.length
structure zE2 (b:Str) (ts:List zb) (st:List (List zb×Str)):Prop where
 tok:qE b=ts
 bd: ∀k (h:k<st.length),Bd b ts st[k].1 st[k].2 (st.length - k)
 last:(st=[]/\b=[]/\ts=[])\/ ∃L B u p R,PcT u p/\b=B++u/\ts=L++p/\run b L R/\Lk R u
theorem pc_P{s:Str}{P:List zb}(h:PcT s P): ∃t us,P=t::us:=by cases h<;>exact⟨_,_,rfl⟩
theorem RZ {b x:Str} {ts P L:List zb} {B:Str} {m:Nat} (h:Bd b ts L B m) (hx:x≠[])
  (hrun: ∀R,R≠[]->run b L R->(∃A,A≠[]/\Lk R A/\b=B++A)->run (b++x) L (R++x)/\(∀A,A≠[]->Lk R A->b=B++A->Lk (R++x) (A++x))):Bd (b++x) (ts++P) L B (m+1):=by
 obtain⟨A,R,us,h1,h2,h3,h4,h5,h6,h7,h8⟩:=h;have hR:R≠[]:=by intro e;have:=YN h6 h2;rw[e]at this;exact this (qd rfl)
 obtain⟨g1,g2⟩:=hrun R hR h5 ⟨A,h2,h6,h1⟩;refine⟨A++x,R++x,us++P,by rw[h1,Na],by simp[h2],by rw[h3,Na],by simp[h4],g1,g2 A h2 h6 h1,?_⟩;have:=Af.2 hx;rw[Ba,Ba];omega
theorem MZ{q:Str}(h:cmtS q=[47]):cmtS (q++[42])=[]:=by
 rw[uj q]at h;cases hp:([47,42]:Str).isPrefixOf q with
 |true=>
  have hl:=Rk hp;rw[show([47,42]:Str).length=2 from rfl]at hl;rw[hp,La rfl]at h;cases hc:clsS (q.drop 2)with
  |none=>rw[hc]at h;cases h
  |some p=>
   rw[hc]at h;have h2:p.length<q.length:=by have h2:=(um _ hc).2;rw[Gc]at h2;omega
   rw[uj,ou [42] (by exact hl),hp,La rfl,xu hl,JI [42] hc];exact MZ h
 |false=> rw[hp,Ja (by decide)]at h;subst h;rw[uj];rfl
termination_by q.length
theorem zEs{q s:Str}{P us:List zb}(hs:PcT s P)(h:tY q s us)(hus:us≠[]):False:=by
 obtain⟨c,r,_,⟨⟨e,fl,hee,hw⟩,h43,hk,hds⟩,hsame,hT⟩:=h;have hbr:=Vo c (r++s);rw[hsame,hk]at hbr;have hbr':brS c (r++s)=3:=hbr.symm;have hnx:Zx (c::(r++s))=zB ((c::r)++s):=by rw[qM,hbr',Vk];rfl
 have hq2:Mg (c::r)≠[]:=by intro e2;rw[e2]at hw;cases congrArg Prod.fst hw
 have e2:Mg ((c::r)++s)=Mg (c::r)++s:=by unfold Mg;rw[(Dp s (by simp)).1];exact En s hq2
 have hw2:=(wQ (q:=Mg (c::r)) (x:=s) (by rw[hw];simp) (fun e3=>by
  rw[e3]at hw;have:=congrArg Prod.fst hw;cases this)).1
 have hexp:expS ([e,43]++s)=some (past digB s):=by
  unfold expS;have h1:(atS ([e,43]++s) 0==101||atS ([e,43]++s) 0==69)=true:=by rcases hee with rfl|rfl<;>rfl
  have h2:unsign (([e,43]++s).drop 1)=s:=rfl;rw[h1,La rfl,h2,hds,La rfl]
 have hend:zy ((c::r)++s)=(past digB s,false):=by rw[QE,e2,hw2,hw];simp only[hexp]
 have hk2:(zB ((c::r)++s)).1.kind=12:=by rw[<-hnx,hsame,hk]
 rw[hnx]at hT;unfold zB at hk2 hT;rw[hend]at hk2 hT;simp only at hk2 hT;have hun:unsign s=s:=by unfold unsign ag;rw[Ia.2 (QB hds).1,Ia.2 (QB hds).2.1];rfl
 cases hn:nmS (past digB s)with
 |false=>
  rw[hn,Ja (by decide)]at hk2;split at hk2<;>cases hk2
 |true=>
  rw[hn,La rfl]at hT;obtain⟨n2,p2,U,t2,_,rfl,_,hU⟩:=rG hs (by rw[hun];exact hds);obtain⟨u1,_,u3⟩:=OD hU;rw[<-hun]at hn hT;cases hp:(partT (n2.natAbs%1000) p2).isEmpty with
  |true=>
   rw[jI U hp,u1]at hn hT;rcases u3 with rfl|rfl|⟨_,hu⟩
   ·cases hn
   ·cases hn
   ·rw[hu,Pj (qd rfl)]at hT;exact hus hT.symm
  |false=>rw[iI U hp,bY]at hn;cases hn
theorem iY{R A:Str}(h:Lk R A)(hA:A≠[])(y:Str):Lk (R++47::42::y) (A++47::42::y):=by
 rcases h with h|⟨d,z,hd,rfl,h⟩
 ·left;rw[iH y (by rw[h];exact hA),h]
 ·right;exact⟨d,z++47::42::y,hd,rfl,by rw[iH y (by rw[h];simp),h];rfl⟩
theorem zAN{s:Str}{P:List zb}(h:PcT s P):cmtS (47::42::42::47::s)=s:=by rw[uj];exact LC h
theorem nN{s:Str}{P:List zb}(h:PcT s P):qE s=P:=by have:=Gv (xY h (x:=[]) (.inl rfl));rw[ja,Pj (qd rfl),ja]at this;exact this
theorem H6{α:Type}{l a:List α}(h:l++a=l):a=[]:=by have:=congrArg List.length h;rw[Ba]at this;exact Eg.1 (by omega)
theorem zGg{b:Str}{ts:List zb}{st:List (List zb×Str)}(h:Syn b ts st):zE2 b ts st:=by
 induction h with
 |nil=>exact⟨Pj (qd rfl),fun k h=>(by cases h), .inl ⟨rfl,rfl,rfl⟩⟩
 |cmt b s ts P st h hb hp ih=>
  obtain⟨ht,hbd,hl⟩:=ih;have hx:b++cmtW++s=b++47::42::(42::47::s):=by rw[Na];rfl
  obtain⟨t0,us0,hP0⟩:=pc_P hp;have hrun:run (b++47::42::(42::47::s)) ts (47::42::(42::47::s)):=by
   rcases hl with⟨_,e,_⟩|⟨L,B,u,p,R,g1,g2,g3,g4,g5⟩
   ·exact absurd e hb
   ·have hR:R≠[]:=by intro e;have:=YN g5 (Yk g1);rw[e]at this;exact this (qd rfl)
    obtain⟨t1,us1,hp1⟩:=pc_P g1;rw[g3];refine sI (PH (42::47::s) g4 hR) ?_;have h1:=xY g1 (x:=47::42::(42::47::s)) (.inr ⟨_,rfl⟩);rw[hp1]at h1 ⊢;exact(FZ (iY g5 (Yk g1) (42::47::s)) (MH g1 _ (by show(47:UInt8)≠42;decide))).2 h1
  have hlk:Lk (47::42::(42::47::s)) s:= .inl (zAN hp);rw[hx];refine⟨?_,?_, .inr ⟨ts,b++cmtW,s,P,_,hp,by rw[Na];rfl,rfl,hrun,hlk⟩⟩
  ·rw[Gv hrun,rO hlk,nN hp]
  ·intro k hk;rw[Ba,Va]at hk;by_cases hk2:k<st.length
   ·rw[List.getElem_append_left hk2];have:=RZ (P:=P) (x:=47::42::(42::47::s)) (hbd k hk2) (by simp) (fun R hR h5 _=>⟨PH _ h5 hR,fun A hA h6 _=>iY h6 hA _⟩);rw[show st.length - k+1=(st++[(ts,b++cmtW)]).length - k by rw[Ba,Va];omega]at this;exact this
   ·have hke:k=st.length:=by omega
    subst hke;rw[List.getElem_append_right (by omega)];simp only[kg,List.getElem_cons_zero];refine⟨s,_,P,by rw[Na];rfl,Yk hp,rfl,by rw[hP0];simp,hrun,hlk,?_⟩;have:=Af.2 (Yk hp);rw[Ba,Va];simp only[Fa];omega
 |no b s ts P st h hp ht0 ih=>
  obtain⟨ht,hbd,hl⟩:=ih;obtain⟨t0,us0,hP0⟩:=pc_P hp;have hPne:P≠[]:=by rw[hP0];simp
  have hsne:=Yk hp
  -- what is ahead stays
  have keep: ∀(L us:List zb) (R:Str),ts=L++us->R≠[]->run b L R->run (b++s) L (R++s):=by
   intro L us R hts hR hrun;rcases GQ (us:=us++P) hrun hR hsne (by rw[ht0,hts,Na])with h1|⟨_,q,_,h1⟩
   ·exact h1
   ·exact(zEs hp h1 (by simp[hPne])).elim
  have keepLk: ∀(L us:List zb) (R A:Str),ts=L++us->run (b++s) L (R++s)->A≠[]->Lk R A->Lk (R++s) (A++s):=by
   intro L us R A hts hrun hA hlk;cases hpre:([47,42]:Str).isPrefixOf (A++s)with
   |false=>exact GZ hlk hA hpre
   |true=>
    exfalso;rcases hlk with h1|⟨d,y,_,rfl,_⟩
    ·cases A with
     |nil=>exact hA rfl
     |cons c r=>
      cases r with
      |cons d t=>
       have:=ry R;rw[h1,<-AJ t s,hpre]at this;cases this
      |nil=>
       have hc:c=47:=by
        cases hcc:(47:UInt8)==c with
        |true=>exact(Jb.1 hcc).symm
        |false=>
         have:([47,42]:Str).isPrefixOf ([c]++s)=false:=by show(((47:UInt8)==c)&&_)=false;rw[hcc];rfl
         rw[this]at hpre;cases hpre
       subst hc;have h42:s=[42]:=by
        refine fD hp (.inr rfl) ?_;cases s with
        |nil=>exact absurd rfl hsne
        |cons d t=>
         have h':(((47:UInt8)==47)&&(((42:UInt8)==d)&&true))=true:=hpre;have:((42:UInt8)==d)=true:=by simpa using h'
         exact(Jb.1 this).symm
       have h3:=Gv hrun;rw[ht0,hts,h42,Pj (MZ h1),ja,Na]at h3;have:=H6 h3;exact hPne (mg.1 this).2
    ·cases hpre
  rcases hl with⟨e1,e2,e3⟩|⟨L,B,u,p,R,g1,g2,g3,g4,g5⟩
  ·subst e1 e2 e3;refine⟨ht0,?_, .inr ⟨[],[],s,P,s,hp,rfl,rfl,rfl, .inl (LC hp)⟩⟩;intro k hk;have hke:k=0:=by rw[Ba,Va,Ib]at hk;omega
   subst hke;exact⟨s,s,P,rfl,hsne,rfl,hPne,rfl, .inl (LC hp),Af.2 hsne,Af.2 hsne⟩
  ·have hR:R≠[]:=by intro e;have:=YN g5 (Yk g1);rw[e]at this;exact this (qd rfl)
   have h1:=keep L p R g3 hR g4;have h2:=keepLk L p R u g3 h1 (Yk g1) g5;have h3:=Gv h1;rw[ht0,g3,Na]at h3;have h4:=List.append_cancel_left h3;obtain⟨r,h5,h6⟩:=yP h4.symm;have hsh:ShS s r:=by
    obtain⟨t1,us1,hp1⟩:=pc_P g1;refine zEk g1 hp ?_ h6;have hpre:([47,42]:Str).isPrefixOf (u++s)=false\/cmtS (R++s)=[]:=by
     rcases h2 with h2|⟨d,y,hd,h2,_⟩
     ·left;rw[<-h2];exact ry _
     ·left;rw[h2];rfl
    rcases hpre with hpre|hpre
    ·rw[hp1]at h5 ⊢;exact(FZ h2 hpre).1 h5
    ·rw[hp1]at h5;obtain⟨c,q,e,_⟩:=h5;rw[hpre]at e;cases e
   have hrun:run (b++s) ts r:=by rw[g3];exact sI h1 h5
   have hlk:Lk r s:=by
    rcases hsh with rfl|⟨d,y,hd,e1,e2⟩
    ·exact .inl (LC hp)
    ·right;exact⟨d,y,hd,e1,by rw[e2];exact qd rfl⟩
   have hrl:1<=r.length:=by
    rcases hsh with rfl|⟨d,y,_,_,e2⟩
    ·exact Af.2 hsne
    ·rw[e2];simp
   refine⟨ht0,?_, .inr ⟨ts,b,s,P,r,hp,rfl,rfl,hrun,hlk⟩⟩;intro k hk;rw[Ba,Va]at hk;by_cases hk2:k<st.length
   ·rw[List.getElem_append_left hk2];obtain⟨A0,R0,us,f1,f2,f3,f4,f5,f6,f7,f8⟩:=hbd k hk2;have:=RZ (P:=P) (x:=s) ⟨A0,R0,us,f1,f2,f3,f4,f5,f6,f7,f8⟩ hsne (fun R hR h5 _=>⟨keep _ us R f3 hR h5,fun A hA h6 _=>keepLk _ us R A f3 (keep _ us R f3 hR h5) hA h6⟩);rw[show st.length - k+1=(st++[(ts,b)]).length - k by rw[Ba,Va];omega]at this;exact this
   ·have hke:k=st.length:=by omega
    subst hke;rw[List.getElem_append_right (by omega)];simp only[kg,List.getElem_cons_zero];refine⟨s,r,P,rfl,hsne,rfl,hPne,hrun,hlk,?_⟩;have:=Af.2 hsne;rw[Ba,Va];omega
def pcN:List zb->Nat
 |[]=>0
 |t::r=>if t.kind==9&&t.text==[92]then 2 else if Lh t then(if Oi r then 3 else 2)else 1
def catT:List zb->Str
 |[]=>[]
 |t::r=>txS t++catT r
def pcS:List zb->Str
 |[]=>[]
 |t::r=>if t.kind==9&&t.text==[92]then [92,10]else catT (t::r)
theorem eO{t:zb}(h:ig t=true)(hk:(t.kind==13)=true):t=tkSp:=by
 rw[Jb]at hk;cases Xq h with
 |cId|cFn|cAt|cHash|cStr|cUrl|cDel|cNum|cPct|cDim=>simp at hk
 |cMark k h1 h2=>grind
theorem IZ{t:zb}(h:ig t=true)(hk:(t.kind==5)=true): ∃m,Zz m=true/\t=⟨5,m,0,[],false⟩:=by
 rw[Jb]at hk;cases Xq h with
 |cStr l h'=>grind
 |cId|cFn|cAt|cHash|cUrl|cDel|cNum|cPct|cDim=>simp at hk
 |cMark k h1 h2=>grind
theorem zFo{t:zb}(h:ig t=true)(hk:(t.kind==9&&t.text==[92])=true):t=⟨9,[92],0,[],false⟩:=by
 rw[Ga,Jb,Jb]at hk;cases Xq h with
 |cDel c h=>grind
 |cId|cFn|cAt|cHash|cStr|cUrl|cNum|cPct|cDim=>simp at hk
 |cMark k h1 h2=>grind
theorem zA5{t:zb}(h:ig t=true)(hk:Lh t=true): ∃l,Zz l=true/\lowS l=[117,114,108]/\t=⟨2,l,0,[],false⟩:=by
 unfold Lh at hk;rw[Ga,Jb,Jb]at hk;cases Xq h with
 |cFn l h0 h'=>grind
 |cId|cAt|cHash|cStr|cUrl|cDel|cNum|cPct|cDim=>simp at hk
 |cMark k h1 h2=>grind
theorem zGz{t:zb}(h:(t.kind==9&&t.text==[92])=false): ¬(t.kind=9/\t.text=[92]):=by
 grind
theorem uu(t:zb)(r:List zb):pcN (t::r)=if t.kind==9&&t.text==[92]then 2 else if Lh t then(if Oi r then 3 else 2)else 1:=rfl
theorem yJ(t:zb)(r:List zb):okAt (t::r)=((!(t.kind==9&&t.text==[92])||Oi r)&&(!(Lh t)||Om r)):=rfl
theorem Tv(s:zb)(r:List zb):Om (s::r)=(bif s.kind==13 then(match r with|u::_=>u.kind==5|[]=>false)else s.kind==5):=rfl
theorem zGC{t:zb}{r:List zb}(hf: ∀u∈t::r,ig u=true)(ho:okAt (t::r)=true): ∃P Q,t::r=P++Q/\P.length=pcN (t::r)/\PcT (pcS P) P:=by
 have hft:=hf t (Pb ..);rw[yJ,Ga]at ho;rw[uu];cases h9:t.kind==9&&t.text==[92]with
 |true=>
  rw[h9,Yb,Od]at ho;rw[La rfl];cases r with
  |nil=>cases ho.1
  |cons s r=> have hs:=eO (hf s (by simp)) ho.1;have ht:=zFo hft h9;subst hs ht;exact⟨[⟨9,[92],0,[],false⟩,tkSp],r,rfl,rfl, .back⟩
 |false=>
  rw[Ja (by decide)];cases hu:Lh t with
  |false=>
   rw[Ja (by decide)];have hp:pcS [t]=txS t:=by show(if(t.kind==9&&t.text==[92])=true then [92,10]else txS t++[])=_;rw[h9,Ja (by decide),ja]
   exact⟨[t],r,rfl,rfl,by rw[hp];exact .one t (Xq hft) (zGz h9) hu⟩
  |true=>
   rw[La rfl];rw[hu,Yb,Od]at ho;obtain⟨l,h1,h2,rfl⟩:=zA5 hft hu;have ho2:=ho.2;have catS: ∀m:Str,txS ⟨5,m,0,[],false⟩++[]=34::(encB quoB m++[34]):=fun m=>by rw[Io,ja]
   cases r with
   |nil=>cases ho2
   |cons s r=>
    cases hs:s.kind==13 with
    |false=>
     rw[Tv,hs,Ca]at ho2;obtain⟨m,hm,rfl⟩:=IZ (hf s (by simp)) ho2;rw[show Oi (⟨5,m,0,[],false⟩::r)=false from rfl,Ja (by decide)];refine⟨[⟨2,l,0,[],false⟩,⟨5,m,0,[],false⟩],r,rfl,rfl,?_⟩;have hp:pcS [⟨2,l,0,[],false⟩,⟨5,m,0,[],false⟩]=Z8 l++40::((if false then [32]else [])++34::(encB quoB m++[34])):=by show txS ⟨2,l,0,[],false⟩++(txS ⟨5,m,0,[],false⟩++[])=_;rw[catS,Pm,Na];rfl
     rw[hp];exact .url l m false h1 h2 hm
    |true=>
     have hs':=eO (hf s (by simp)) hs;subst hs';cases r with
     |nil=>cases ho2
     |cons u r=>
      obtain⟨m,hm,rfl⟩:=IZ (hf u (by simp)) ho2;rw[show Oi (tkSp::⟨5,m,0,[],false⟩::r)=true from rfl,La rfl];refine⟨[⟨2,l,0,[],false⟩,tkSp,⟨5,m,0,[],false⟩],r,rfl,rfl,?_⟩;have hp:pcS [⟨2,l,0,[],false⟩,tkSp,⟨5,m,0,[],false⟩]=Z8 l++40::((if true then [32]else [])++34::(encB quoB m++[34])):=by show txS ⟨2,l,0,[],false⟩++(txS tkSp++(txS ⟨5,m,0,[],false⟩++[]))=_;rw[catS,Pm,show txS tkSp=[32]from rfl,Na];rfl
      rw[hp];exact .url l m true h1 h2 hm
theorem xZ{t:zb}{r:List zb}(h:t.text.length<=big)(ho:okAt (t::r)=true):Q6 (t::r)=some ((pcN (t::r):Nat):Int):=by
 have e0:geti (t::r) 0=some t:=rfl;have p1:=pu (t::r) 1 13;have p15:=pu (t::r) 1 5;have p25:=pu (t::r) 2 5;unfold Q6;simp only[e0,ze,Aa,XL h (show([117,114,108]:Str).length<=big by decide),Yu,Q5];simp only[Int.natCast_one]at p1 p15;replace p25:ZX ((2,5),t::r)=_:=p25;have hp1:ZX ((1,13),t::r)=some (Oi r):=by rw[p1];cases r<;>rfl
 rw[hp1];rw[yJ]at ho;unfold Lh at ho;rw[uu];unfold Lh;cases hd:(t.kind==9&&t.text==[92])with
 |true=>
  grind
 |false=>
  have hc:(bif t.kind==9 then t.text==[92]else false)=false:=by
   cases h9:t.kind==9
   ·rfl
   ·grind
  simp only[hc,hd,Ca,Lb,xe,Xb];rw[hd,Lb,xe,Xb]at ho;cases hu:(t.kind==2&&lowS t.text==[117,114,108])with
  |false=>
   grind
  |true=>
   rw[hu,Yb,Od]at ho;rw[Ga]at hu;rw[hu.1,hu.2];simp only[Da,Aa];cases r with
   |nil=>cases ho
   |cons s r=>
    cases hs:s.kind==13 with
    |false=>
     have e1:Oi (s::r)=false:=hs;have e5:ZX ((1,5),t::s::r)=some (s.kind==5):=p15;have ho5:(s.kind==5)=true:=by rw[Tv,hs]at ho;exact ho
     simp only[e1,Ca,zh,e5,Aa,ho5,Yb];rfl
    |true=>
     have e1:Oi (s::r)=true:=hs;simp only[e1,Da,zh,p25,Aa];cases r with
     |nil=>rw[Tv,hs]at ho;cases ho
     |cons u r=>
      have ho5:(u.kind==5)=true:=by rw[Tv,hs]at ho;exact ho
      show(bif !(u.kind==5)then some 0 else some (w64 (2+1)))=some 3;rw[ho5];rfl
def clB(l:Str):Bool:=l.all fun c=> !(c==0||c==12||c==13)
theorem QM(a b:Str):clB (a++b)=(clB a&&clB b):=by unfold clB;grind
theorem aQ: ∀l:Str,clB l=true->Proofs.Cl.cleanS l=l
 |[],_=>by rw[Proofs.Cl.cleanS]
 |c::r,h=>by
  unfold clB at h;rw[Sd,Ga]at h;have e:=aQ r h.2;have h':(c==0||c==12||c==13)=false:=by simpa using h.1
  rw[Mf,Mf]at h';obtain⟨⟨h0,h12⟩,h13⟩:=h';rw[Proofs.Cl.cleanS,h0,h12,h13,e]
  ·rfl
  grind
theorem jo(c:UInt8):clB (escC c)=true/\(letB c=true->clB [c]=true)/\(c≠0->quoB c=false->clB [c]=true)/\(c≠0->urB c=false->clB [c]=true)/\(si c.toNat=true->clB [c]=true)/\(digB c=true->clB [c]=true):=by
 have: ∀n:Nat,n<256->clB (escC (UInt8.ofNat n))=true/\(letB (UInt8.ofNat n)=true->clB [UInt8.ofNat n]=true)/\(UInt8.ofNat n≠0->quoB (UInt8.ofNat n)=false->clB [UInt8.ofNat n]=true)/\(UInt8.ofNat n≠0->urB (UInt8.ofNat n)=false->clB [UInt8.ofNat n]=true)/\(si (UInt8.ofNat n).toNat=true->clB [UInt8.ofNat n]=true)/\(digB (UInt8.ofNat n)=true->clB [UInt8.ofNat n]=true):=by decide+kernel
 have:=this c.toNat (Ob c);simp_all
theorem Yo(dash:Bool): ∀(k:Nat) (l:Str),clB (encW dash k l)=true
 |_,[]=>by rw[encW];rfl
 |k,c::r=>by
  obtain⟨h1,h2,_⟩:=jo c;rw[encW,QM,Yo dash (k - 1) r,Oc];unfold pcW
  grind
theorem XD{p:UInt8->Bool}(hp: ∀c,c≠0->p c=false->clB [c]=true): ∀l:Str,Zz l=true->clB (encB p l)=true
 |[],_=>by rw[encB];rfl
 |c::r,h=>by
  obtain⟨h1,h2⟩:=Q7 h;rw[encB,QM,XD hp r h2,Oc];cases hc:p c with
  |true=>exact(jo c).1
  |false=>exact hp c h1 hc
theorem NZ{l:Str}(h:l.all digB=true):clB l=true:=by
 induction l with
 |nil=>rfl
 |cons c r ih=> rw[Sd,Ga]at h;rw[show c::r=[c]++r from rfl,QM,(jo c).2.2.2.2.2 h.1,ih h.2];rfl
theorem cl_T(n:Int)(p:Bool):clB (numT n p)=true:=by
 obtain⟨d1,_,_⟩:=bu (n.natAbs / 1000);have hp:=oJ (n:=n) (p:=p);rw[Fy,QM,QM,NZ d1];have h1:clB (sgT n)=true:=by unfold sgT;split<;>rfl
 rw[h1];cases (partT (n.natAbs%1000) p).isEmpty with
 |true=>rfl
 |false=> show clB (46::partT (n.natAbs%1000) p)=true;rw[show 46::partT (n.natAbs%1000) p=[46]++partT (n.natAbs%1000) p from rfl,QM,NZ hp];rfl
theorem zDs(w:Str):clB (og w)=true:=by
 cases w with
 |nil=>rfl
 |cons c r=>
  rw[Tn];cases Rj (c::r)with
  |true=>rw[Da,QM,(jo c).1,Yo];rfl
  |false=>exact Yo _ _ _
theorem TN{s:Str}{P:List zb}(h:PcT s P):clB s=true:=by
 cases h with
 |one t h hb hu=>
  cases h with
  |cId l h0 h=>rw[Np];exact Yo _ _ _
  |cFn l h0 h=>rw[Pm,QM];rw[show clB (Z8 l)=true from Yo _ _ _];rfl
  |cAt l h0 h=>rw[Pp,show 64::Z8 l=[64]++Z8 l from rfl,QM,show clB (Z8 l)=true from Yo _ _ _];rfl
  |cHash l f h0 h hbb=>
   rw[rq,show 35::Bi f l=[35]++Bi f l from rfl,QM];have:clB (Bi f l)=true:=by cases f<;>exact Yo _ _ _
   rw[this];rfl
  |cStr l h=>rw[Io,show 34::(encB quoB l++[34])=[34]++(encB quoB l++[34])from rfl,QM,QM,XD (fun c h0 hc=>(jo c).2.2.1 h0 hc) l h];rfl
  |cUrl l h=>rw[Fq,QM,QM,XD (fun c h0 hc=>(jo c).2.2.2.1 h0 hc) l h];rfl
  |cDel c h=>rw[Jq];exact(jo c).2.2.2.2.1 h
  |cNum n f h1 h2 hf=>rw[Hq];exact cl_T _ _
  |cPct n h1 h2=>rw[Gq,QM,cl_T];rfl
  |cDim n u f h1 h2 hf h0 h=>rw[Iq,QM,cl_T,zDs];rfl
  |cMark k h1 h2=> rw[pq h1 h2];rcases Wu h1 h2 with rfl|rfl|rfl|rfl|rfl|rfl|rfl|rfl|rfl|rfl|rfl|rfl<;>rfl
 |back=>rfl
 |url l m b h hl hm=> rw[QM,show clB (Z8 l)=true from Yo _ _ _,show∀z:Str,40::z=[40]++z from fun _=>rfl,QM,QM,show∀z:Str,34::z=[34]++z from fun _=>rfl,QM,QM,XD (fun c h0 hc=>(jo c).2.2.1 h0 hc) m hm];cases b<;>rfl
theorem zFd{b:Str}{ts:List zb}{st:List (List zb×Str)}(h:Syn b ts st):clB b=true:=by
 induction h with
 |nil=>rfl
 |cmt b s ts P st h hb hp ih=>rw[QM,QM,ih,TN hp];rfl
 |no b s ts P st h hp ht ih=>rw[QM,ih,TN hp];rfl
def tokB(x y:zb):Bool:=x.kind==y.kind&&(x.text==y.text&&(x.num==y.num&&(x.unit==y.unit&&(x.flag==y.flag&&true))))
def Fh:List zb->List zb->Bool
 |[],[]=>true
 |x::l,y::m=>tokB x y&&Fh l m
 |_,_=>false
theorem zw0(x y:zb)(l m:List zb):Fh (x::l) (y::m)=(tokB x y&&Fh l m):=rfl
theorem zCm{x y:zb}:tokB x y=true↔x=y:=by
 obtain⟨a,b,c,d,e⟩:=x;obtain⟨a',b',c',d',e'⟩:=y;unfold tokB
 grind
theorem Yr: ∀{l m:List zb},Fh l m=true↔l=m
 |[],[]=>by simp[Fh]
 |x::l,y::m=>by rw[Fh,Ga,zCm,Yr,List.cons.injEq]
 |[],y::m=>by simp[Fh]
 |x::l,[]=>by simp[Fh]
theorem xE{l m:List zb}(h:l.length≠m.length):Fh l m=false:=by
 cases hs:Fh l m with
 |false=>rfl
 |true=>rw[Yr.1 hs]at h;grind
theorem XK {l m:List zb} (hl:l.length=m.length) (hn:l.length<=big) {step:Int->Option (LO Int Unit Bool)}
  (h1: ∀(i:Nat) (h:i<l.length),step (i:Int)=bif !(tokB l[i] (m[i]'(hl▸h)))then some (.ret false)else some (.again (w64 ((i:Int)+1))))
  (h2:step (l.length:Int)=some (.out ())):Zi step 0 (fun _=>some true)=some (Fh l m):=by
 have hb:big=4194304:=rfl;refine Rl (fun s=> ∃i:Nat,i<=l.length/\s=(i:Int)/\Fh (l.drop i) (m.drop i)=Fh l m) (fun s=>l.length - s.toNat) _ ?_ ⟨0,by omega,rfl,rfl⟩;rintro _ ⟨i,hi,rfl,he⟩;rcases Tc i l.length with h|h
 ·rw[h1 i h];have hm:i<m.length:=hl▸h;rw[show l.drop i=l[i]::l.drop (i+1)from Rb h,show m.drop i=m[i]::m.drop (i+1)from Rb hm,zw0]at he;cases ht:tokB l[i] (m[i]'(hl▸h))with
  |true=> rw[ht,Xb]at he;rw[Yb,Ca,zJ (by omega) (by omega)];exact .inl ⟨_,rfl,⟨i+1,by omega,by omega,he⟩,by omega⟩
  |false=>
   grind
 ·have:i=l.length:=by omega
  subst this;rw[Be (Ya _),Be (by omega)]at he;exact .inr (.inl ⟨(),h2,by rw[<-he];rfl⟩)
theorem Wx{α:Type}{l:List α}{i:Nat}(h:i<l.length):geti l (i:Int)=some l[i]:=qA h
theorem int_ne{n m:Nat}:(((n:Int) != (m:Int)):Bool)= !(n==m):=by
 grind
theorem zA0{l m:List zb}(hn:l.length<=big):qy (l,m)=some (Fh l m):=by
 unfold qy;rw[int_ne];cases he:l.length==m.length with
 |false=>rw[Lb,Da,xE (Ia.1 he)]
 |true=>
  rw[Yb,Ca];have hl:=Jb.1 he;refine XK hl hn (fun i h=> ?_) ?_
  ·have hm:i<m.length:=hl▸h;have d1:decide ((i:Int)<(l.length:Int))=true:=Ha (by omega);simp only[d1,Da,Wx h,Wx hm,ze,Aa];rfl
  grind
theorem same_eq{l m:List zb}(hn:l.length<=big):Cs (l,m)=some (Fh l m):=by
 unfold Cs;rw[int_ne];cases he:l.length==m.length with
 |false=>rw[Lb,Da,xE (Ia.1 he)]
 |true=>
  rw[Yb,Ca];have hl:=Jb.1 he;refine XK hl hn (fun i h=> ?_) ?_
  ·have hm:i<m.length:=hl▸h;have d1:decide ((i:Int)<(l.length:Int))=true:=Ha (by omega);have d2:decide ((0:Int)<=(i:Int))=true:=Ha (by omega);have d3:decide ((i:Int)<(m.length:Int))=true:=Ha (by omega);simp only[d1,d2,d3,Da,Wx h,Wx hm,ze,Aa,Ua,Ma h,Ma hm];rfl
  grind
def wrF:Nat->List zb->Str->List zb->Str
 |0,_,b,_=>b
 |_+1,_,b,[]=>b
 |n+1,ts,b,t::r=>
  wrF n (ts++(t::r).take (pcN (t::r))) ((if Fh (qE (b++pcS ((t::r).take (pcN (t::r))))) (ts++(t::r).take (pcN (t::r)))then b else b++cmtW)++pcS ((t::r).take (pcN (t::r)))) ((t::r).drop (pcN (t::r)))
def wrS(l:List zb):Str:=wrF l.length [] [] l
theorem lZ: ∀(n:Nat) (ts:List zb) (b:Str) (r:List zb),b.length<=(wrF n ts b r).length
 |0,_,_,_=>Ya _
 |_+1,_,_,[]=>Ya _
 |n+1,ts,b,t::r=>by
  rw[wrF];refine Bc ?_ (lZ n _ _ _);split
  ·rw[Ba];omega
  ·rw[Ba,Ba];omega
def Oq(l:List zb):Prop:=(∀t∈l,ig t=true/\t.text.length<=5000/\t.unit.length<=5000)/\ ∀k,k<l.length->okAt (l.drop k)=true
theorem IR{l:List zb}(h:Oq l)(n:Nat):Oq (l.drop n):=by refine⟨fun t ht=>h.1 t (List.mem_of_mem_drop ht),fun k hk=> ?_⟩;rw[Gc]at hk;rw[Pf];exact h.2 (n+k) (by omega)
theorem BI{t:zb}{r:List zb}:1<=pcN (t::r):=by
 rw[uu];repeat' split
 all_goals omega
theorem oN{t:zb}{r:List zb}:pcN (t::r)<=3:=by
 rw[uu];repeat' split
 all_goals omega
theorem KO{t:zb}{r:List zb}(h:Oq (t::r)):pcN (t::r)<=(t::r).length/\PcT (pcS ((t::r).take (pcN (t::r)))) ((t::r).take (pcN (t::r))):=by
 obtain⟨P,Q,h1,h2,h3⟩:=zGC (fun u hu=>(h.1 u hu).1) (h.2 0 (by simp));have ht:(t::r).take (pcN (t::r))=P:=by rw[<-h2,h1,Ji]
 rw[ht];refine⟨?_,h3⟩;rw[<-h2,h1,Ba];omega
theorem zGm{t:zb}(hf:ig t=true)(h1:t.text.length<=5000)(h2:t.unit.length<=5000):(txS t).length<=20100:=by
 have hn: ∀l:Str,l.length<=5000->(Z8 l).length<=20000:=fun l hl=>by have:=Jl (l==[45]) (Z5 l) l;unfold Z8;omega
 cases Xq hf with
 |cId l h0 h=>rw[Np];have:=hn l h1;omega
 |cFn l h0 h=>rw[Pm,Ba];have:=hn l h1;simp only[Va];omega
 |cAt l h0 h=>rw[Pp,Fa];have:=hn l h1;omega
 |cHash l f h0 h hbb=>
  rw[rq,Fa];have h3:=hn l h1;have h4:=Jl false 0 l;have h5:l.length<=5000:=h1;cases f with
  |true=>rw[show Bi true l=Z8 l from rfl];omega
  |false=>rw[show Bi false l=encW false 0 l from rfl];omega
 |cStr l h=>rw[Io];have:=ym quoB l;have h5:l.length<=5000:=h1;simp only[Fa,Ba,Ib];omega
 |cUrl l h=>rw[Fq];have:=ym urB l;have h5:l.length<=5000:=h1;simp only[Fa,Ba,Ib];omega
 |cDel c h=>rw[Jq];simp
 |cNum n f g1 g2 hf=>rw[Hq];have:=(Eo g1 g2 (!f)).1;omega
 |cPct n g1 g2=>rw[Gq,Ba,Va];have:=(Eo g1 g2 false).1;omega
 |cDim n u f g1 g2 hf h0 h=>
  rw[Iq,Ba];have:=(Eo g1 g2 (!f)).1;have h5:u.length<=5000:=h2;have hu:(og u).length<=20004:=by
   cases u with
   |nil=>exact Sb _
   |cons c r=>
    rw[Tn];cases Rj (c::r)with
    |true=> rw[Da,Ba];have:=Dk c;have:=Jl false 0 r;rw[Fa]at h5;omega
    |false=>have:=hn _ h5;rw[Ca];omega
  omega
 |cMark k g1 g2=>rw[pq g1 g2];have:=EK k;omega
theorem MI: ∀{l:List zb},(∀t∈l,ig t=true/\t.text.length<=5000/\t.unit.length<=5000)->(catT l).length<=20100*l.length
 |[],_=>Sb _
 |t::r,h=>by obtain⟨a,b,c⟩:=h t (Pb ..);have:=zGm a b c;have:=MI (l:=r) (fun u hu=>h u (Ub _ hu));rw[catT,Ba,Fa];omega
theorem KP: ∀(l m:List zb),catT (l++m)=catT l++catT m
 |[],m=>rfl
 |t::l,m=>by rw[Db,catT,catT,KP l m,Na]
theorem zAL {R:Type} {step:Int×List UInt8->Option (LO (Int×List UInt8) (List UInt8) R)} {l:List zb} (hl:l.length<=3) (hf: ∀t∈l,ig t=true/\t.text.length<=5000/\t.unit.length<=5000)
  (h1: ∀(i:Nat) (a:Str) (hi:i<l.length),step ((i:Int),a)=(Dw (l[i],a)).bind fun y6=>some (LO.again (w64 ((i:Int)+1),y6)))
  (h2: ∀a,step ((l.length:Int),a)=some (.out a)):bg step (0,[])=some (.out (catT l)):=by
 refine ZM (fun z=> ∃(i:Nat),i<=l.length/\z=((i:Int),catT (l.take i))) (fun z=>l.length - z.1.toNat) _ ?_ ⟨0,by omega,rfl⟩;rintro _ ⟨i,hi,rfl⟩;rcases Tc i l.length with h|h
 ·obtain⟨a,b,c⟩:=hf l[i] (De h);have hc:=MI (l:=l.take i) (fun t ht=>hf t (Uf ht));rw[Jd]at hc;have hc2:min i l.length<=2:=by omega
  have ht:=zCi (acc:=catT (l.take i)) a b c (by
   have:20100*min i l.length<=20100*2:=Nat.mul_le_mul_left _ hc2;omega)
  rw[h1 i _ h,ht,Aa];refine .inl ⟨_,rfl,⟨i+1,by omega,?_⟩,by simp only;rw[zJ (by omega) (by omega)];omega⟩;rw[zJ (by omega) (by omega),mf h,KP];refine Prod.ext (by show(i:Int)+1=((i+1:Nat):Int);omega) ?_;show _=catT (l.take i)++(txS l[i]++[]);rw[ja]
 ·have:i=l.length:=by omega
  subst this;exact .inr (.inl ⟨_,h2 _,by rw[Ef]⟩)
def stO(x:List zb×Str):zC:=⟨(x.1.length:Int),(x.2.length:Int)⟩
theorem zAq{b s A B:Str}{ts L us P:List zb}{m:Nat}(h:b=B++A/\A≠[]/\ts=L++us/\us≠[]/\ ∃R,run b L R/\Lk R A/\4<=R.length/\4<=A.length):Fh (qE (A++s)) (us++P)=Fh (qE (b++s)) (ts++P):=by
 obtain⟨h1,h2,h3,h4,R,h5,h6,h7,h7'⟩:=h;have h8:=Gv (BO s h5 h7);have hlk:Lk (R++s) (A++s):=by
  refine GZ h6 h2 ?_;rcases h6 with h6|⟨d,y,_,rfl,_⟩
  ·cases A with
   |nil=>exact absurd rfl h2
   |cons c t=>
    cases t with
    |cons d u=>rw[AJ,<-h6];exact ry R
    |nil=>simp at h7'
  ·rfl
 rw[rO hlk]at h8;rw[h8,h3,Ug,Yr,Yr,Na,List.append_cancel_left_eq]
theorem UJ{x:List zb}(h:gluS x=0):x.length<=1500/\(∀t∈x,ig t=true)/\ ∀k,k<x.length->okAt (x.drop k)=true:=by
 unfold gluS at h;cases hl:decide (x.length<=1500)with
 |false=>rw[hl]at h;cases h
 |true=>
  rw[hl,Da]at h;cases ha:(List.range x.length).all (Sm x)with
  |false=>rw[ha]at h;cases h
  |true=>
   rw[ma]at ha;have key: ∀k,k<x.length->ig (x.getD k default)=true/\okAt (x.drop k)=true:=by intro k hk;have:=ha k (Rc.2 hk);unfold Sm at this;rw[Ga]at this;exact this
   refine⟨Dc hl,fun t ht=> ?_,fun k hk=>(key k hk).2⟩;obtain⟨k,hk,rfl⟩:=List.mem_iff_getElem.1 ht;have:=(key k hk).1
   rwa [yc,Ma hk]at this
theorem zE6{t:zb}{r:List zb}:(bif t.kind==9 then((pcN (t::r):Nat):Int)==2 else false)=(t.kind==9&&t.text==[92]):=by
 cases hk:t.kind==9 with
 |false=>rfl
 |true=>
  have hu:Lh t=false:=by unfold Lh;rw[Jb.1 hk];rfl
  rw[uu,hk,Da,hu];cases t.text==[92]<;>rfl
theorem OP{t:zb}{r:List zb}:pcS ((t::r).take (pcN (t::r)))=bif (t.kind==9&&t.text==[92])then [92,10]else catT ((t::r).take (pcN (t::r))):=by obtain⟨k,hk⟩: ∃k,pcN (t::r)=k+1:=⟨pcN (t::r) - 1,by have:=BI (t:=t) (r:=r);omega⟩;rw[hk,Xf,pcS];cases t.kind==9&&t.text==[92]<;>rfl
theorem RQ{n:Nat}{ts:List zb}{b:Str}{t:zb}{r:List zb}{s:Str}{P:List zb}(hP:(t::r).take (pcN (t::r))=P)(hs:pcS P=s):
  wrF (n+1) ts b (t::r)=wrF n (ts++P) ((if Fh (qE (b++s)) (ts++P)then b else b++cmtW)++s) ((t::r).drop (pcN (t::r))):=by
 subst hs hP;rw[wrF]
theorem ap16{n:Nat}(h:n<=99999):Zc n 1 16=true:=Vm (by omega) (by omega)
theorem UZ{n m:Nat}(h:n+m<=200000):Zc n m 1=true:=by unfold Zc;exact Ha (by omega)
theorem zDN{R:Type}{i:Int}{b:Str}{ts:List zb}{st:List (List zb×Str)}(h:zE2 b ts st)(hst:st.length<=100000): ∃L B A us,
  (bif decide (w64 (((st.map stO).length:Int) - 4)>=0)then
        need (decide (0<=w64 (((st.map stO).length:Int) - 4))&&decide (w64 (((st.map stO).length:Int) - 4)<((st.map stO).length:Int)))<|
        ((st.map stO)[(w64 (((st.map stO).length:Int) - 4)).toNat]?).bind fun y10=>
        some (LX.out (i,b,st.map stO,y10))
       else
        some (LX.out (i,b,st.map stO,(⟨0,0⟩:zC))))=(some (LX.out (i,b,st.map stO,stO (L,B))):Option (LX (Int×List UInt8×List zC×zC) R))/\
  b=B++A/\ts=L++us/\ ∀s P,Fh (qE (A++s)) (us++P)=Fh (qE (b++s)) (ts++P):=by
 rw[Ra];by_cases h4:4<=st.length
 ·obtain⟨A,R,us,h1,h2,h3,h4',h5,h6,h7,h8⟩:=h.bd (st.length - 4) (by omega);refine⟨st[st.length - 4].1,st[st.length - 4].2,A,us,?_,h1,h3,fun s P=>zAq (m:=0) ⟨h1,h2,h3,h4',R,h5,h6,by omega,by omega⟩⟩;rw[zJ (by omega) (by omega),Ha (by omega),Da,Ha (by omega),Bool.and_self,Zr,show((st.length:Int) - 4).toNat=st.length - 4 by omega,Ta,Ma (by omega)];rfl
 ·refine⟨[],[],b,ts,?_,rfl,rfl,fun s P=>rfl⟩;rw[zJ (by omega) (by omega),Xa (by omega),Ca];rfl
theorem zAy{x:List zb}(hx: ∀t∈x,t.text.length<=5000/\t.unit.length<=5000):
  VA x=some (if gluS x=0 then(if 4000<(wrS x).length then([],28)else(wrS x,0))else([],gluS x)):=by
 unfold VA;have hbig:big=4194304:=rfl;rw[zpr (fun t ht=>by have:=hx t ht;omega)];simp only[ze,Aa];by_cases hg:gluS x=0
 ·rw[La hg,hg,show((0:Int) != 0)=false from rfl,Ca];obtain⟨hlen,hfine,hok⟩:=UJ hg;have hrest:Oq x:=⟨fun t ht=>⟨hfine t ht,hx t ht⟩,hok⟩;refine Rl (fun z=> ∃(i:Nat) (b:Str) (st:List (List zb×Str)) (n:Nat),z=((i:Int),b,st.map stO)/\i<=x.length/\Syn b (x.take i) st/\b.length<=4000/\x.length - i<=n/\wrF n (x.take i) b (x.drop i)=wrS x/\st.length<=i) (fun z=>x.length - z.1.toNat) _ ?_
   ⟨0,[],[],x.length,rfl,Sb _, .nil,Sb _,Ya _,rfl,Ya _⟩
  rintro _ ⟨i,b,st,n,rfl,hi,hsyn,hbl,hn,hW,hst⟩;simp only;rcases Tc i x.length with h|h
  ·have hro:=IR hrest i;have hdr:x.drop i=x[i]::x.drop (i+1):=Rb h;obtain⟨t,ht⟩: ∃t,t=x[i]:=⟨_,rfl⟩;obtain⟨r,hr⟩: ∃r,r=x.drop (i+1):=⟨_,rfl⟩;rw[<-ht,<-hr]at hdr;rw[hdr]at hro hW;have hlr:(t::r).length=x.length - i:=by rw[<-hdr,Gc]
   obtain⟨hk1,hpc⟩:=KO hro;have hk0:=BI (t:=t) (r:=r);have hk3:=oN (t:=t) (r:=r);obtain⟨k,hk⟩: ∃k,pcN (t::r)=k:=⟨_,rfl⟩;obtain⟨P,hP⟩: ∃P,(t::r).take k=P:=⟨_,rfl⟩;obtain⟨s,hs⟩: ∃s,pcS P=s:=⟨_,rfl⟩;have hst':=OP (t:=t) (r:=r);have hstep:=fun m=>RQ (n:=m) (ts:=x.take i) (b:=b) (t:=t) (r:=r) (s:=s) (P:=P) (by rw[hk];exact hP) hs;have e3:Q6 (List.drop i x)=some ((k:Nat):Int):=by rw[hdr,<-hk];exact xZ (by have:=(hro.1 t (Pb ..)).2.1;omega) (hro.2 0 (by simp))
   have hb2:=zE6 (t:=t) (r:=r);rw[hk]at hk0 hk1 hk3 hpc hst' hb2 hstep;rw[hP]at hpc hst';rw[hs]at hpc hst';rw[hlr]at hk1;have e1:decide ((i:Int)<(x.length:Int))=true:=Ha (by omega);have e2:(decide ((0:Int)<=(i:Int))&&decide ((i:Int)<=(x.length:Int)))=true:=by rw[Ha (by omega),Ha (by omega)];rfl
   have e4:w64 ((i:Int)+((k:Nat):Int))=((i+k:Nat):Int):=by rw[zJ (by omega) (by omega)];omega
   have e5:(decide ((0:Int)<=(i:Int))&&(decide ((i:Int)<=((i+k:Nat):Int))&&decide (((i+k:Nat):Int)<=(x.length:Int))))=true:=by rw[Ha (by omega),Ha (by omega),Ha (by omega)];rfl
   have e6:geti x (i:Int)=some t:=by rw[qA h,ht]
   have e7:List.drop i (List.take (i+k) x)=P:=by rw[List.drop_take,hdr,show i+k - i=k by omega,hP]
   simp only[e1,e2,e3,e4,e5,e6,Da,Zr,Aa,Ua,e7];have hPl:P.length<=3:=by rw[<-hP,Jd];omega
   have hPf: ∀u∈P,ig u=true/\u.text.length<=5000/\u.unit.length<=5000:=fun u hu=>hro.1 u (by rw[<-hP]at hu;exact Uf hu);have hsl:s.length<=60400:=by
    have:=MI hPf;rw[hst'];cases t.kind==9&&t.text==[92]with
    |true=>rw[Da];simp
    |false=>rw[Ca];have:20100*P.length<=20100*3:=Nat.mul_le_mul_left _ hPl;omega
   rw[Zd (zAL (l:=P) hPl hPf (fun j a hj=> ?_) (fun a=> ?_))]
   ·rw[hb2];have hj9:(bif (t.kind==9&&t.text==[92])then some (LX.out ((i:Int),b,st.map stO,[(92:UInt8),(10:UInt8)]))else some (LX.out ((i:Int),b,st.map stO,catT P)))=(some (LX.out ((i:Int),b,st.map stO,s)):Option (LX (Int×List UInt8×List zC×List UInt8) (LO (Int×List UInt8×List zC) (List UInt8) (Str×Int)))):=by rw[hst'];cases t.kind==9&&t.text==[92]<;>rfl
    rw[hj9,zh];simp only;have hsok:=zGg hsyn;obtain⟨L,B,A,us,hfrom,hbA,hts,hwin⟩:=zDN (R:=LO (Int×List UInt8×List zC) (List UInt8) (Str×Int)) (i:=(i:Int)) hsok (by omega);rw[hfrom,zh];have hBl:B.length<=b.length:=by rw[hbA,Ba];omega
    have hAl:A.length<=b.length:=by rw[hbA,Ba];omega
    have f1:(decide ((0:Int)<=(stO (L,B)).at_)&&decide ((stO (L,B)).at_<=(b.length:Int)))=true:=by show(decide ((0:Int)<=(B.length:Int))&&decide ((B.length:Int)<=(b.length:Int)))=true;rw[Ha (by omega),Ha (by omega)];rfl
    have f2:(stO (L,B)).at_.toNat=B.length:=Ua _;have f3:decide (B.length+(b.length - B.length)<=b.length)=true:=Ha (by omega);have f4:List.take (b.length - B.length) (List.drop B.length b)=A:=by rw[hbA,List.drop_left,Ba,show B.length+A.length - B.length=A.length by omega,Ef]
    have f5:ZH A.length s.length=true:=Zf.2 (by omega);simp only[f1,f2,f3,f4,f5,Zr,K6,Aa,e4,Ua];have htl:(stO (L,B)).token=(L.length:Int):=rfl;have hLl:L.length<=i:=by have:=congrArg List.length hts;rw[Jd,Ba]at this;omega
    have htk:List.drop L.length (List.take (i+k) x)=us++P:=by
     have:List.take (i+k) x=L++(us++P):=by rw[List.take_add,hdr,hP,hts,Na]
     rw[this,List.drop_left]
    have hPlen:P.length=k:=by rw[<-hP,Jd];omega
    have husP:(us++P).length<=1500:=by have h1:=congrArg List.length hts;rw[Jd,Ba]at h1;rw[Ba,hPlen];omega
    have hcl:clB (A++s)=true:=by have h1:=zFd hsyn;rw[hbA,QM,Ga]at h1;rw[QM,h1.2,TN hpc];rfl
    obtain⟨c,hc⟩: ∃c,c=Fh (qE (b++s)) (x.take i++P):=⟨_,rfl⟩;have hwinc:Fh (qE (A++s)) (us++P)=c:=by rw[hc];exact hwin s P
    obtain⟨c',hc'⟩: ∃c',c'=(decide ((A++s).length<=4000)&&c):=⟨_,rfl⟩;have hneed:(decide ((0:Int)<=(stO (L,B)).token)&&(decide ((stO (L,B)).token<=((i+k:Nat):Int))&&decide (((i+k:Nat):Int)<=(x.length:Int))))=true:=by rw[htl,Ha (by omega),Ha (by omega),Ha (by omega)];rfl
    have hcat: ∀(E:Option (LX (Int×List zC×List UInt8) (LO (Int×List UInt8×List zC) (List UInt8) (Str×Int)))),
      E=(need (decide ((0:Int)<=(stO (L,B)).token)&&(decide ((stO (L,B)).token<=((i+k:Nat):Int))&&decide (((i+k:Nat):Int)<=(x.length:Int)))|| !(!((tq (A++s)).2 != 0)))<|
       (zw (!((tq (A++s)).2 != 0)) (qy ((tq (A++s)).1,List.drop (stO (L,B)).token.toNat (List.take (i+k) x))) (default:Bool)).bind fun y13=>
       bif bif (tq (A++s)).2 != 0 then true else !y13 then
        need (Zc b.length ([47,42,42,47]:Str).length 1)<|
        some (LX.out ((i:Int),st.map stO,b++([47,42,42,47]:Str)))
       else
        some (LX.out ((i:Int),st.map stO,b)))->E=some (LX.out ((i:Int),st.map stO,if c' then b else b++cmtW)):=by
     rintro E rfl;rw[hneed,xe,Zr,show(stO (L,B)).token.toNat=L.length from Ua _,htk];have happ:Zc b.length ([47,42,42,47]:Str).length 1=true:=UZ (by show b.length+4<=_;omega);unfold tq;by_cases hlong:4000<(A++s).length
     ·rw[La hlong];have:c'=false:=by rw[hc',Xa (by omega)];rfl
      rw[this];simp only[show((28:Int) != 0)=true from rfl,Yb,zO,Aa,Da,happ,Zr];rfl
     ·rw[Ja hlong,aQ _ hcl];have hcc:c'=c:=by rw[hc',Ha (by omega)];rfl
      by_cases hmany:1500<(qE (A++s)).length
      ·rw[La hmany];have:c'=false:=by rw[hcc,<-hwinc];exact xE (by omega)
       rw[this];simp only[show((4:Int) != 0)=true from rfl,Yb,zO,Aa,Da,happ,Zr];rfl
      ·rw[Ja hmany];simp only[show((0:Int) != 0)=false from rfl,Lb,zH,Ca,zA0 (show(qE (A++s)).length<=big by omega),hwinc,Aa,happ,Zr];rw[hcc];cases c<;>rfl
    rw[hcat _ rfl,zh];simp only;obtain⟨m,hm⟩: ∃m,n=m+1:=⟨n - 1,by omega⟩;subst hm;rw[hstep m,<-hc]at hW;have hWl:=lZ m (x.take i++P) ((if c then b else b++cmtW)++s) ((t::r).drop k);rw[hW]at hWl;have hcw:cmtW.length=4:=rfl;have hb1:(if c' then b else b++cmtW).length<=4004:=by
     split
     ·omega
     ·rw[Ba];omega
    rw[zl (ap16 (by rw[Ra];omega)),zl (UZ (by omega))];have hbs:b.length+s.length<=(wrS x).length:=by
     refine Bc ?_ hWl;rw[Ba];split
     ·omega
     ·rw[Ba];omega
    by_cases hbig2:4000<((if c' then b else b++cmtW)++s).length
    ·rw[Ha (by omega),Da];refine .inr (.inr ?_);have:4000<(wrS x).length:=by
      by_cases hcc:c'=c
      ·rw[hcc]at hbig2;omega
      ·have: ¬(A++s).length<=4000:=by intro hle;rw[hc',Ha hle]at hcc;exact hcc rfl
       rw[Ba]at this;omega
     rw[La this]
    ·rw[Xa (by omega),Ca];have hcc:c'=c:=by
      have:(A++s).length<=4000:=by
       rw[Ba]at hbig2 ⊢;have:b.length<=(if c' then b else b++cmtW).length:=by
        split
        ·exact Ya _
        ·rw[Ba];omega
       omega
      rw[hc',Ha this];rfl
     rw[hcc]at hbig2 ⊢;have hxt:x.take (i+k)=x.take i++P:=by rw[List.take_add,hdr,hP]
     refine .inl ⟨_,rfl,⟨i+k,(if c then b else b++cmtW)++s,st++[(x.take i,if c then b else b++cmtW)],m,?_,by omega,?_,by omega,by omega,?_,?_⟩,?_⟩
     ·refine Prod.ext e4 (Prod.ext rfl ?_);rw[jc];show st.map stO++[_]=st.map stO++[stO (x.take i,if c then b else b++cmtW)];unfold stO;simp only[Jd,show min i x.length=i by omega]
     ·rw[hxt];cases hcb:c with
      |true=> rw[La rfl];exact .no b s _ P st hsyn hpc (Yr.1 (by rw[<-hc,hcb]))
      |false=> rw[Ja (by decide)];refine .cmt b s _ P st hsyn ?_ hpc;rintro rfl;have h0:=hsok.tok;rw[Pj (qd rfl)]at h0;rw[<-h0,Nc,Nc,nN hpc]at hc;rw[hcb,Yr.2 rfl]at hc;cases hc
     ·rw[hxt,<-hW,<-Pf,hdr]
     ·rw[Ba,Va];omega
     ·simp only;rw[e4];omega
   ·have d1:decide ((j:Int)<(P.length:Int))=true:=Ha (by omega);simp only[d1,Da,qA hj,Aa]
   ·simp only;rw[Xa (by omega),Ca]
  ·have:i=x.length:=by omega
   subst this;have e1:decide ((x.length:Int)<(x.length:Int))=false:=Xa (by omega);simp only[e1,Ca];refine .inr (.inl ⟨_,rfl,?_⟩);rw[Be (Ya _)]at hW;have hWb:b=wrS x:=by
    cases n with
    |zero=>rw[wrF]at hW;exact hW
    |succ n=>rw[wrF]at hW;exact hW
   rw[<-hWb,Ja (by omega)]
 ·rw[Ja hg];have:(gluS x != 0)=true:=by rw[bf];exact hg
  rw[this,Da]
theorem T9 {S X R:Type} {step:S->Option (LO S X R)} {k:X->Option R} (Inv:S->Prop) (μ:S->Nat) (Q:R->Prop)
  (h: ∀s,Inv s->(∃s',step s=some (.again s')/\Inv s'/\μ s'<μ s)\/(∃x y,step s=some (.out x)/\k x=some y/\Q y)\/(∃y,step s=some (.ret y)/\Q y)) {s:S} (hs:Inv s): ∃y,Zi step s k=some y/\Q y:=by
 have key: ∀(m:Nat) (s:S),μ s<m->Inv s-> ∃(r:LX X R) (y:R),qU step m s=some r/\r.go k=some y/\Q y:=by
  intro m
  induction m with
  |zero=>intro s h;omega
  |succ m ih=>
   intro s hm hs;simp only[qU];rcases h s hs with⟨s',h1,h2,h3⟩|⟨x,y,h1,h2,h3⟩|⟨y,h1,h2⟩
   ·grind
   ·simp_all
   simp_all
 obtain⟨r,y,h1,h2,h3⟩:=key (μ s+1) s (by omega) hs;exact⟨y,by rw[Gn (Sk h1)];exact h2,h3⟩
def Ow(x:List zb)(n:Nat):Prop:= ∀t∈x,t.text.length+t.unit.length<=n
theorem rest_of{x:List zb}(hg:gluS x=0)(h:Ow x 1000):Oq x:=by obtain⟨_,h1,h2⟩:=UJ hg;exact⟨fun t ht=>⟨h1 t ht,by have:=h t ht;omega,by have:=h t ht;omega⟩,h2⟩
theorem zEI{x:List zb}{n:Nat}(h:Ow x n)(hn:n<=big): ∀t∈x,t.text.length<=big/\t.unit.length<=big:=fun t ht=>by have:=h t ht;omega
end Go.Lv.VT
