/- The store: checking, looking up, putting other rules in: what the texts come to. -/
import Derived.Test.YtjjdimihokbknaaGreatDoorXc
import Derived.Test.YtjjdimihokbknaaGreatDoorTx
set_option linter.unusedSimpArgs false
set_option linter.unusedVariables false
namespace Go.Lv.VT
theorem uh(x:Zr):zG (Zk x)=4+x.site.length+zL zF x.sheet.rules:=by unfold Zk;simp only[zG,bPV,zL];omega
theorem Kk(x:Zr):1<=zG (Zk x):=by rw[uh];omega
def Bl(n a:Int)(k:Zr):Bool:= !(decide (k.number<a))&&(!(decide (k.number>=n))&&(!(decide (k.origin<1))&&(!(decide (k.origin>3))&&(!(decide ((k.site.length:Int)>64))&&df k.sheet.rules))))
def jg(n:Int):Int->List Zr->Bool
 |_,[]=>true
 |a,k::r=>Bl n a k&&jg n (w64 (k.number+1)) r
def jh(s:Ze):Bool:= !(bif bif decide ((s.sheets.length:Int)>8)then true else decide (s.next<0)then true else decide (s.next>1000))&&jg s.next 0 s.sheets
theorem mU(n:Int): ∀(l:List Zr) (a:Int),Mf (X:=Unit) (R:=Int) (fun k a=>some (bif Bl n a k then .again (w64 (k.number+1))else .ret 8)) (fun _=>some (.out ())) l a=some (bif jg n a l then .out ()else .ret 8)
 |[],a=>rfl
 |k::r,a=>by
  unfold Mf jg;cases Bl n a k with
  |false=>rfl
  |true=>exact mU n r _
theorem WY{s:Ze}(h:zL Zk s.sheets<=big):Pz s=some (bif jh s then 0 else 8):=by
 unfold Pz jh;have hlen:=Zy Kk s.sheets;cases hb:(bif bif decide ((s.sheets.length:Int)>8)then true else decide (s.next<0)then true else decide (s.next>1000))with
 |true=>rfl
 |false=>
  simp only[Ca,Ra,Sa];refine(Dk s.sheets (fun i (a:Int)=>(a,(i:Int))) (fun k a=>some (bif Bl s.next a k then .again (w64 (k.number+1))else .ret 8)) (fun _=>some (.out ())) (a:=0) rfl (fun i a hi=> ?_) (fun a=> ?_) (r:=bif jg s.next 0 s.sheets then .out ()else .ret 8) (mU _ _ _)).trans ?_
  ·have hk:=ZF (f:=Zk) (Ga hi);rw[uh]at hk;have hc:ol s.sheets[i].sheet=some (bif df s.sheets[i].sheet.rules then 0 else 8):=UU (l:=s.sheets[i].sheet.rules) (by omega);simp only[zO hi,Da,zN hi,za,Aa,hc,zH hi (show s.sheets.length<=big by omega)];unfold Bl;generalize decide (s.sheets[i].number<a)=c1;generalize decide (s.sheets[i].number>=s.next)=c2;generalize decide (s.sheets[i].origin<1)=c3;generalize decide (s.sheets[i].origin>3)=c4;generalize decide ((s.sheets[i].site.length:Int)>64)=c5;generalize df s.sheets[i].sheet.rules=c6;cases c1<;>cases c2<;>cases c3<;>cases c4<;>cases c5<;>cases c6<;>rfl
  ·simp only[zR,Ca];rfl
  ·cases jg s.next 0 s.sheets<;>rfl
def atK(l:List Zr)(n:Int):Int:=idxS (fun k=>k.number==n) l
theorem zCQ{l:List Zr}{n:Int}(hl:l.length<=big):QV (l,n)=some (atK l n):=by
 unfold QV Gy;refine Gi l (fun k=>k.number==n) hl (fun i hi=> ?_) ?_
 ·simp only[zO hi,Da,zN hi,za,Aa]
 ·simp only[zR,Ca]
theorem xK{s:Ze}{n:Int}(h:zL Zk s.sheets<=big):Js (s,n)=some (bif jh s then(bif decide (atK s.sheets n<0)then(0,6)else(atK s.sheets n,0))else(0,8)):=by
 have hlen:=Zy Kk s.sheets;unfold Js;simp only[WY h,za,Aa];cases jh s with
 |false=>rfl
 |true=> simp only[Da,Ie,Ca,zCQ (show s.sheets.length<=big by omega),Aa];cases decide (atK s.sheets n<0)<;>rfl
theorem zAL{s:Ze}(h:zL Zk s.sheets<=big):Fy s=some (s.next,s.sheets):=by
 have hlen:=Zy Kk s.sheets;unfold Fy;refine Jj s.sheets (fun i hi=> ?_) ?_
 ·have hk:=ZF (f:=Zk) (Ga hi);rw[uh]at hk;simp only[zO hi,Da,zN hi,za,Aa,nG (l:=s.sheets[i].sheet.rules) (by omega),Cj hi (show s.sheets.length*56<=140737488355328 by unfold big at h;omega),Z8,zH hi (show s.sheets.length<=big by omega)]
 ·simp only[zR,Ca]
theorem U4{s:Ze}(h:zL Zk s.sheets<=big):JA s=some s:=by
 have hlen:=Zy Kk s.sheets;unfold JA;refine(Jj s.sheets (fun i hi=> ?_) ?_).trans rfl
 ·have hk:=ZF (f:=Zk) (Ga hi);rw[uh]at hk;simp only[zO hi,Da,zN hi,za,Aa,nG (l:=s.sheets[i].sheet.rules) (by omega),Cj hi (show s.sheets.length*56<=140737488355328 by unfold big at h;omega),Z8,zH hi (show s.sheets.length<=big by omega)]
 ·simp only[zR,Ca]
def putK(l:List Zr)(i:Nat)(x:ZI):List Zr:=match l[i]? with
 |some k=>l.set i ⟨k.number,k.origin,k.site,x⟩
 |none=>l
theorem PL{s:Ze}{n:Int}{x:ZI}(h:zL Zk s.sheets<=big)(hx:zL zF x.rules<=big)(hs:jh s=true){i:Nat}(hi:i<s.sheets.length)(ha:atK s.sheets n=(i:Int))(hc:df x.rules=true):
  Vs (s,n,x)=some (⟨putK s.sheets i x,s.next⟩,0):=by
 have hk:=UU (l:=x.rules) hx;have hk:ol x=some 0:=by rw[hc]at hk;exact hk
 have hd:decide ((i:Int)<0)=false:=Na (by omega);unfold Vs putK;simp only[xK h,hs,ha,hd,Da,Ca,za,Aa,Ie,hk,zAL h,nG hx,nn,Ma (show(i:Int)<(s.sheets.length:Int) by omega),Bool.and_self,Z8,ic,La hi]
theorem zCP{s:Ze}{n:Int}(h:zL Zk s.sheets<=big)(hs:jh s=true){i:Nat}(hi:i<s.sheets.length)(ha:atK s.sheets n=(i:Int)):Rx (s,n)=some (s.sheets[i],0):=by have hd:decide ((i:Int)<0)=false:=Na (by omega);unfold Rx;simp only[xK h,hs,ha,hd,Da,Ca,za,Aa,Ie,U4 h,zN hi]
theorem KG{k:Zr}(h:zL zF k.sheet.rules<=big):Jq (k,k)=some true:=by unfold Jq;simp only[Ic,Da,Zm,zLg h,za,Aa]
def Pm(n a:Int)(k:Zr):Bool:= !(decide (k.number<=a))&&(!(decide (k.number>=n))&&(!(decide (k.origin<1))&&(!(decide (k.origin>3))&&(decide ((k.site.length:Int)<=64)&&df k.sheet.rules))))
def Tg(n:Int):Int->List Zr->Bool
 |_,[]=>true
 |a,k::r=>Pm n a k&&Tg n k.number r
theorem nE{n a:Int}{k:Zr}(h:Pm n a k=true):a<k.number/\k.number<n/\1<=k.origin/\k.origin<=3/\(k.site.length:Int)<=64/\df k.sheet.rules=true:=by unfold Pm at h;simp only[Fa,Bool.not_eq_true',decide_eq_false_iff_not,Eb]at h;obtain⟨h1,h2,h3,h4,h5,h6⟩:=h;exact⟨by omega,by omega,by omega,by omega,h5,h6⟩
theorem YT{n:Int}(hn:n<=1000): ∀(l:List Zr) (a:Int), -1<=a->Tg n a l=true->jg n (a+1) l=true
 |[],_,_,_=>rfl
 |k::r,a,ha,h=>by
  rw[Tg,Fa]at h;obtain⟨h1,h2,h3,h4,h5,h6⟩:=nE h.1;have e:w64 (k.number+1)=k.number+1:=by rw[w64,qz (by omega) (by omega)]
  rw[jg,e,YT hn r k.number (by omega) h.2,Rb];unfold Bl;rw[Na (by omega),Na (by omega),Na (by omega),Na (by omega),Na (by omega),h6];rfl
theorem oU{n:Int}: ∀(l:List Zr) (a:Int),Tg n a l=true-> ∀k∈l,a<k.number
 |[],_,_,k,hk=>by cases hk
 |v::r,a,h,k,hk=>by
  rw[Tg,Fa]at h;have h1:=(nE h.1).1;rcases ma.1 hk with rfl|hk
  ·exact h1
  ·have:=oU r v.number h.2 k hk;omega
theorem CR{n:Int}: ∀(l:List Zr) (a:Int),Tg n a l=true-> ∀i (hi:i<l.length),atK l l[i].number=(i:Int)
 |[],_,_,i,hi=>by simp at hi
 |k::r,a,h,i,hi=>by
  rw[Tg,Fa]at h;unfold atK;rw[idxS];cases i with
  |zero=> rw[show((k::r)[0]'hi).number=k.number from rfl,Ic];rfl
  |succ i=>
   have hi':i<r.length:=by rw[Db]at hi;omega
   have e:((k::r)[i+1]'hi).number=r[i].number:=rfl;have hlt:=oU r k.number h.2 r[i] (Ga hi');have ih:=CR r k.number h.2 i hi';unfold atK at ih;rw[e,Ea.2 (by omega),Ca,ih,Na (by omega),Ca];omega
theorem Ur{l:List Zr}{i:Nat}(hi:i<l.length)(x:ZI):putK l i x=l.set i ⟨l[i].number,l[i].origin,l[i].site,x⟩:=by unfold putK;rw[La hi]
theorem Fs(l:List Zr)(i:Nat)(x:ZI):(putK l i x).length=l.length:=by
 unfold putK;split
 ·rw[List.length_set]
 ·rfl
theorem SS(m:Int)(x:ZI): ∀(l:List Zr) (i:Nat),atK (putK l i x) m=atK l m
 |[],i=>by unfold putK;rfl
 |k::r,0=>by unfold putK atK;rfl
 |k::r,i+1=>by
  have e:putK (k::r) (i+1) x=k::putK r i x:=by
   unfold putK;rw[jd];cases r[i]? with
   |some y=>rfl
   |none=>rfl
  have ih:=SS m x r i;unfold atK at ih ⊢;rw[e,idxS,idxS,ih]
theorem nU{n:Int}{x:ZI}(hx:df x.rules=true): ∀(l:List Zr) (i:Nat) (a:Int),jg n a l=true->jg n a (putK l i x)=true
 |[],i,a,_=>by unfold putK;rfl
 |k::r,0,a,h=>by rw[jg,Fa]at h;show(Bl n a ⟨k.number,k.origin,k.site,x⟩&&jg n (w64 (k.number+1)) r)=true;rw[h.2,Rb];have h1:=h.1;unfold Bl at h1 ⊢;simp only[Fa]at h1 ⊢;exact⟨h1.1,h1.2.1,h1.2.2.1,h1.2.2.2.1,h1.2.2.2.2.1,hx⟩
 |k::r,i+1,a,h=>by
  rw[jg,Fa]at h;have e:putK (k::r) (i+1) x=k::putK r i x:=by
   unfold putK;rw[jd];cases r[i]? with
   |some y=>rfl
   |none=>rfl
  rw[e,jg,h.1,nU hx r i _ h.2];rfl
theorem zFS{s:Ze}{i:Nat}{x:ZI}(h:jh s=true)(hx:df x.rules=true):jh ⟨putK s.sheets i x,s.next⟩=true:=by unfold jh at h ⊢;rw[Fa]at h ⊢;rw[Fs];exact⟨h.1,nU hx _ _ _ h.2⟩
theorem kR{l:List Zr}{i:Nat}(hi:i<l.length)(x:ZI)(h:i<(putK l i x).length):(putK l i x)[i]=⟨l[i].number,l[i].origin,l[i].site,x⟩:=by simp only[Ur hi,List.getElem_set_self]
theorem zLb{l:List Zr}{i j:Nat}(hi:i<l.length)(hj:j<l.length)(hn:i≠j)(x:ZI)(h:j<(putK l i x).length):(putK l i x)[j]=l[j]:=by simp only[Ur hi];rw[List.getElem_set_ne hn]
theorem zIW(k:Zr):(⟨k.number,k.origin,k.site,k.sheet⟩:Zr)=k:=by cases k;rfl
theorem zHG{l:List Zr}{i:Nat}(hi:i<l.length)(x:ZI):putK (putK l i x) i l[i].sheet=l:=by
 have h2:i<(putK l i x).length:=by rw[Fs];exact hi
 rw[Ur h2,kR hi,Ur hi,List.set_set];exact set_self l i hi _ (zIW l[i])
theorem zL5{l:List Zr}{i:Nat}(hi:i<l.length)(x:ZI):zL Zk (putK l i x)<=zL Zk l+zL zF x.rules:=by
 rw[Ur hi];have: ∀(l:List Zr) (i:Nat) (hi:i<l.length) (k':Zr),zG (Zk k')<=zG (Zk l[i])+zL zF x.rules->zL Zk (l.set i k')<=zL Zk l+zL zF x.rules:=by
  intro l
  induction l with
  |nil=>intro i hi;simp at hi
  |cons k r ih=>
   intro i hi k' h;cases i with
   |zero=> rw[List.set_cons_zero,rf,rf];have h':zG (Zk k')<=zG (Zk k)+zL zF x.rules:=h;omega
   |succ i=> rw[List.set_cons_succ,rf,rf];have:=ih i (by rw[Db]at hi;omega) k' h;omega
 refine this l i hi _ ?_;rw[uh,uh];simp only;omega
def refS(s:Ze):Bool:= !(bif bif decide ((s.sheets.length:Int)>8)then true else decide (s.next<0)then true else decide (s.next>1000))&&Tg s.next (-1) s.sheets
theorem VK(n:Int): ∀(l:List Zr) (a:Int),Mf (X:=Unit) (R:=Int) (fun k a=>some (bif Pm n a k then .again k.number else .ret 8)) (fun _=>some (.out ())) l a=some (bif Tg n a l then .out ()else .ret 8)
 |[],a=>rfl
 |k::r,a=>by
  unfold Mf Tg;cases Pm n a k with
  |false=>rfl
  |true=>exact VK n r _
theorem kY{s:Ze}(h:zL Zk s.sheets<=big):Bz s=some (bif refS s then 0 else 8):=by
 unfold Bz refS;have hlen:=Zy Kk s.sheets;cases hb:(bif bif decide ((s.sheets.length:Int)>8)then true else decide (s.next<0)then true else decide (s.next>1000))with
 |true=>rfl
 |false=>
  simp only[Ca,Ra,Sa];refine(Dk s.sheets (fun i (a:Int)=>(a,(i:Int))) (fun k a=>some (bif Pm s.next a k then .again k.number else .ret 8)) (fun _=>some (.out ())) (a:= -1) rfl (fun i a hi=> ?_) (fun a=> ?_) (r:=bif Tg s.next (-1) s.sheets then .out ()else .ret 8) (VK _ _ _)).trans ?_
  ·have hk:=ZF (f:=Zk) (Ga hi);rw[uh]at hk;have hc:Dp s.sheets[i].sheet=some (bif df s.sheets[i].sheet.rules then 0 else 8):=xM (s:=s.sheets[i].sheet) (by omega);simp only[zO hi,Da,zN hi,za,Aa,UF,hc,zH hi (show s.sheets.length<=big by omega)];unfold Pm;generalize decide (s.sheets[i].number<=a)=c1;generalize decide (s.sheets[i].number>=s.next)=c2;generalize decide (s.sheets[i].origin<1)=c3;generalize decide (s.sheets[i].origin>3)=c4;generalize decide ((s.sheets[i].site.length:Int)<=64)=c5;generalize df s.sheets[i].sheet.rules=c6;cases c1<;>cases c2<;>cases c3<;>cases c4<;>cases c5<;>cases c6<;>rfl
  ·simp only[zR,Ca];rfl
  ·cases Tg s.next (-1) s.sheets<;>rfl
theorem zL8{s:Ze}(h:refS s=true):jh s=true/\Tg s.next (-1) s.sheets=true:=by
 unfold refS at h;rw[Fa]at h;refine⟨?_,h.2⟩;have h1:=h.1;unfold jh;rw[h1,Sa];have hn:s.next<=1000:=by
  rw[Bool.not_eq_true']at h1;cases h8:decide ((s.sheets.length:Int)>8)with
  |true=>rw[h8]at h1;cases h1
  |false=>
   rw[h8,Ca]at h1;cases h0:decide (s.next<0)with
   |true=>rw[h0]at h1;cases h1
   |false=> rw[h0,Ca]at h1;have:=of_decide_eq_false h1;omega
 exact YT hn s.sheets (-1) (by omega) h.2
theorem kK(c:Zr->Bool): ∀l:List Zr,∃r,Mf (X:=Unit) (R:=Bool) (fun k (_:Unit)=>some (bif c k then .ret true else .again ())) (fun _=>some (.out ())) l ()=some r
 |[]=>⟨_,rfl⟩
 |k::r=>by
  unfold Mf;cases c k with
  |true=>exact⟨_,rfl⟩
  |false=>exact kK c r
theorem jY{s:Ze}(h:zL Zk s.sheets<=big): ∃g,Az s=some g:=by
 unfold Az;have hlen:=Zy Kk s.sheets;cases decide ((s.sheets.length:Int)>10)with
 |true=>exact⟨_,rfl⟩
 |false=>
  obtain⟨r,hr⟩:=kK (fun k=>bif (Uk k.sheet.rules).getD true then true else decide ((k.site.length:Int)>100)) s.sheets;have key:=Dk (k:=fun(_:Unit)=>some false) s.sheets (fun i (_:Unit)=>(i:Int)) (fun k (_:Unit)=>some (bif (bif (Uk k.sheet.rules).getD true then true else decide ((k.site.length:Int)>100))then .ret true else .again ())) (fun _=>some (.out ())) (a:=())
   (step:=fun(s1:Int)=>
    bif decide (s1<(s.sheets.length:Int))then
     za (geti s.sheets s1) fun y2=>
     za (Uk y2.sheet.rules) fun y3=>
     za (zA (!y3) (geti s.sheets s1) (default:Zr)) fun y4=>
     bif bif y3 then true else decide ((y4.site.length:Int)>100)then
      some (LO.ret true)
     else
      some (LO.again (w64 (s1+1)))
    else
     some (LO.out ())) (s0:=0) rfl (fun i a hi=>by
   have hk:=ZF (f:=Zk) (Ga hi);rw[uh]at hk;obtain⟨g,hg⟩:=wM (l:=s.sheets[i].sheet.rules) (by omega);simp only[zO hi,Da,zN hi,za,Aa,hg,zH hi (show s.sheets.length<=big by omega),Option.getD_some];cases g with
   |true=>rfl
   |false=>
    simp only[Ra,Zm,Aa,Ca];cases decide ((s.sheets[i].site.length:Int)>100)<;>rfl) (fun a=>by simp only[zR,Ca];rfl) hr
  cases r with
  |out u=>exact⟨_,key⟩
  |ret b=>exact⟨_,key⟩
theorem zD7{l:List Zr}(h:zL Zk l<=big):WB (l,l)=some true:=by
 unfold WB;have hlen:=Zy Kk l;have hne:((l.length:Int) != (l.length:Int))=false:=by simp
 simp only[hne,Ca];refine xh l.length () (fun i hi=> ?_) ?_
 ·have hk:=ZF (f:=Zk) (Ga hi);rw[uh]at hk;simp only[zO hi,Da,zN hi,za,Aa,KG (k:=l[i]) (by omega),Ta,Ca,zH hi (show l.length<=big by omega)]
 ·simp only[zR,Ca]
theorem zCJ{s:Ze}(h:zL Zk s.sheets<=big):Iy (s,s)=some true:=by unfold Iy;simp only[Ic,Zm,Da,zD7 h,za,Aa]
theorem zLD{s:Ze}(h:zL Zk s.sheets<=big): ∃f,Ay s=some f/\(f=true->refS s=true):=by
 obtain⟨g,hg⟩:=jY h;unfold Ay;simp only[hg,kY h,za,Aa];cases g with
 |true=>exact⟨_,rfl,fun h=>by cases h⟩
 |false=>
  cases hr:refS s with
  |true=>exact⟨_,rfl,fun _=>rfl⟩
  |false=>exact⟨_,rfl,fun h=>by cases h⟩
theorem zC5{s:Ze}{a:Int}{x:ZI}(h:zL Zk s.sheets+zL zF x.rules<=big)(hA:oz 1000 ()=some true):JB (s,a,x)=some true:=by
 have hs:zL Zk s.sheets<=big:=by omega
 have hx:zL zF x.rules<=big:=by omega
 have hlen:=Zy Kk s.sheets;obtain⟨f,hf,hf2⟩:=zLD hs;obtain⟨g,hg⟩:=wM hx;have hc:=xM (s:=x) hx;unfold JB;simp only[hA,hf,hg,hc,za,Aa];cases f with
 |false=>rfl
 |true=>
  cases g with
  |true=>rfl
  |false=>
   cases hxs:df x.rules with
   |false=>rfl
   |true=>
    by_cases hr:0<=a/\a<(s.sheets.length:Int)
    ·obtain⟨i,rfl⟩:=Be hr.1;have hi:i<s.sheets.length:=by omega
     obtain⟨hS,hK⟩:=zL8 (hf2 rfl);have hat:=CR s.sheets (-1) hK i hi;have p1:=PL (n:=s.sheets[i].number) (x:=x) hs hx hS hi hat hxs;have hz:=zL5 hi x;have hi2:i<(putK s.sheets i x).length:=by rw[Fs];exact hi
     have hat2:atK (putK s.sheets i x) s.sheets[i].number=(i:Int):=by rw[SS];exact hat
     have hS2:=zFS (i:=i) hS hxs;have g1:=zCP (s:=⟨putK s.sheets i x,s.next⟩) (n:=s.sheets[i].number) (show zL Zk (putK s.sheets i x)<=big by omega) hS2 hi2 hat2;have hk:=ZF (f:=Zk) (Ga hi);rw[uh]at hk;have hxi:df s.sheets[i].sheet.rules=true:=by
      have: ∀(l:List Zr) (b:Int),Tg s.next b l=true-> ∀k∈l,df k.sheet.rules=true:=by
       intro l
       induction l with
       |nil=>intro b _ k hk;cases hk
       |cons v r ih=>
        intro b hb k hk;rw[Tg,Fa]at hb;rcases ma.1 hk with rfl|hk
        ·exact(nE hb.1).2.2.2.2.2
        ·exact ih v.number hb.2 k hk
      exact this s.sheets (-1) hK _ (Ga hi)
     have p2:=PL (s:=⟨putK s.sheets i x,s.next⟩) (n:=s.sheets[i].number) (x:=s.sheets[i].sheet) (show zL Zk (putK s.sheets i x)<=big by omega) (by omega) hS2 hi2 hat2 hxi;rw[show(⟨putK s.sheets i x,s.next⟩:Ze).sheets=putK s.sheets i x from rfl,zHG hi x]at p2;have g1':(⟨putK s.sheets i x,s.next⟩:Ze).sheets[i]=⟨s.sheets[i].number,s.sheets[i].origin,s.sheets[i].site,x⟩:=kR hi x hi2;rw[g1']at g1;have k1:=zCJ hs;have k2:=KG (k:=⟨s.sheets[i].number,s.sheets[i].origin,s.sheets[i].site,x⟩) hx;have r0:decide ((i:Int)<0)=false:=Na (by omega);have r1:decide ((i:Int)>=(s.sheets.length:Int))=false:=Na (by omega);have r2:((s.sheets.length:Int) != (s.sheets.length:Int))=false:=by simp
     have eS:(⟨s.sheets,s.next⟩:Ze)=s:=by cases s;rfl
     simp only[r0,r1,Ta,Ra,Da,Ca,Zm,Ie,zN hi,Aa,p1,g1,p2,Fs,r2,eS,k1];refine(xh s.sheets.length () (fun j hj=> ?_) ?_).trans ?_
     ·have hj2:j<(putK s.sheets i x).length:=by rw[Fs];exact hj
      by_cases hij:i=j
      ·subst hij;simp only[zO hj,Da,Ie,qi,Aa,Ca,zH hj (show s.sheets.length<=big by omega)]
      ·have hne:((j:Int) != (i:Int))=true:=by rw[Ef];omega
       have hkj:=ZF (f:=Zk) (Ga hj);rw[uh]at hkj;simp only[zO hj,Da,hne,Zm,zN hj,zN hj2,zLb hi hj hij x hj2,Aa,KG (k:=s.sheets[j]) (by omega),Ta,Ca,zH hj (show s.sheets.length<=big by omega)]
     ·simp only[zR,Ca]
     ·simp only[k2,Aa,Da,Ic]
    ·have r0:=zK7 hr;simp only[Ta,Ra,Da,Ca,Ie,Zm,Aa,r0]
set_option maxRecDepth 100000
theorem zLs:oz 1000 ()=some true:=by decide+kernel
end Go.Lv.VT
