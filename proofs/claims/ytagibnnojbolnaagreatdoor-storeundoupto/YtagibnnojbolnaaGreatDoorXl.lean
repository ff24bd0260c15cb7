/- A closed text in a block: its tokens, its values, its rules. -/
import Derived.Test.YtagibnnojbolnaaGreatDoorXk
import Derived.Test.YtagibnnojbolnaaGreatDoorXd
import Derived.Test.YtagibnnojbolnaaGreatDoorTx
set_option linter.unusedSimpArgs false
set_option linter.unusedVariables false
namespace Go.Lv.VT
set_option maxRecDepth 100000
theorem zMZ{w:Str}(hw:w.length<=4000):(qh w).2=0\/(qh w).2=4:=by
 unfold qh;rw[Oa (by omega)];split
 ·exact .inr rfl
 ·exact .inl rfl
theorem zMA(l:List zg):(parS l).2=0\/(parS l).2=4\/(parS l).2=20:=by
 unfold parS;split
 ·exact .inr (.inl rfl)
 ·split
  ·exact .inr (.inr rfl)
  ·split
   ·exact .inr (.inl rfl)
   ·exact .inl rfl
theorem zKd{w:Str}(hw:w.length<=1800):(okW w/\qo w=some (⟨yj w⟩,0))\/ ∃e,(e=4\/e=20)/\qo w=some (⟨[]⟩,e):=by
 rcases zOe hw with h|⟨e,h1,h2,h3⟩
 ·exact .inl h
 ·refine .inr ⟨e,?_,h2⟩;have h0:e≠0:=Xe.1 h1;rcases h3 with h3|⟨_,h3⟩
  ·rcases zMZ (w:=w) (by omega)with h|h
   ·exact absurd (h3.symm.trans h) h0
   ·exact .inl (h3.symm.trans h)
  ·rcases zMA (qh w).1 with h|h|h
   ·exact absurd (h3.symm.trans h) h0
   ·exact .inl (h3.symm.trans h)
   ·exact .inr (h3.symm.trans h)
theorem zIb{w:Str}(hw:w.length<=1800)(h:okW w):Rh (yj w)=true:=by have hz:=vN hw;exact zCR (by unfold big;omega) (zHE h.2).1
theorem zHV{w:Str}(hw:4000<w.length):qo w=some (⟨[]⟩,28):=by
 have ht:qh w=([],28):=by unfold qh;rw[Sa hw]
 unfold qo oq wu kD wE;simp only[JP,ht,za,Aa];rfl
theorem zKc{w:Str}(hw:w.length<=600\/4000<w.length):(okW w/\w.length<=600/\qo w=some (⟨yj w⟩,0))\/ ∃e,(e=4\/e=20\/e=28)/\qo w=some (⟨[]⟩,e):=by
 rcases hw with hw|hw
 ·rcases zKd (w:=w) (by omega)with⟨h1,h2⟩|⟨e,h1,h2⟩
  ·exact .inl ⟨h1,hw,h2⟩
  ·exact .inr ⟨e,h1.imp id .inl,h2⟩
 ·exact .inr ⟨28, .inr (.inr rfl),zHV hw⟩
theorem xI{n a:Int}{k:qE}(h1:a<k.number)(h2:k.number<n)(h3:1<=k.origin)(h4:k.origin<=3)(h5:(k.site.length:Int)<=64)(h6:Rh k.sheet.rules=true):Rl n a k=true:=by unfold Rl;rw[Ia (by omega),Ia (by omega),Ia (by omega),Ia (by omega),Fa h5,h6];rfl
theorem lZ{n:Int}: ∀(l:List qE) (a:Int),pg n a l=true->pg (n+1) a l=true
 |[],_,_=>rfl
 |k::r,a,h=>by rw[pg,Da]at h;obtain⟨h1,h2,h3,h4,h5,h6⟩:=YD h.1;rw[pg,xI h1 (by omega) h3 h4 h5 h6,lZ r _ h.2];rfl
theorem UQ{n:Int}{k:qE}(hk: ∀a,a<n->Rl (n+1) a k=true): ∀(l:List qE) (a:Int),a<n->pg n a l=true->pg (n+1) a (l++[k])=true
 |[],a,ha,_=>by rw[Bc,pg,hk a ha];rfl
 |v::r,a,_,h=>by rw[pg,Da]at h;obtain⟨h1,h2,h3,h4,h5,h6⟩:=YD h.1;rw[Sb,pg,xI h1 (by omega) h3 h4 h5 h6,UQ hk r v.number h2 h.2];rfl
theorem xJ{n:Int}: ∀(l:List qE) (a:Int),pg n a l=true-> ∀k∈l,k.number<n
 |[],_,_,_,hk=>by cases hk
 |v::r,a,h,k,hk=>by
  rw[pg,Da]at h;rcases Jb.1 hk with rfl|hk
  ·exact(YD h.1).2.1
  ·exact xJ r _ h.2 k hk
theorem Uq{s:ZJ}(h:refS s=true):s.sheets.length<=8/\0<=s.next/\s.next<=1000/\pg s.next (-1) s.sheets=true:=by
 unfold refS at h;rw[Da,Ri]at h;obtain⟨h1,h2⟩:=h;by_cases a:(s.sheets.length:Int)>8
 ·rw[Fa a]at h1;cases h1
 rw[Ia a,Ba]at h1;by_cases b:s.next<0
 ·rw[Fa b]at h1;cases h1
 rw[Ia b,Ba]at h1;have:=De h1;exact⟨by omega,by omega,by omega,h2⟩
theorem LW{s:ZJ}(h1:s.sheets.length<=8)(h2:0<=s.next)(h3:s.next<=1000)(h4:pg s.next (-1) s.sheets=true):refS s=true:=by unfold refS;rw[Ia (show¬(s.sheets.length:Int)>8 by omega),Ia (show¬s.next<0 by omega),Ia (show¬s.next>1000 by omega),h4];rfl
theorem XY{α:Type}{p:α->Bool}: ∀{l:List α},(∀k∈l,p k=false)->idxS p l= -1
 |[],_=>rfl
 |a::l,h=>by rw[idxS,h a (Ob ..),Ba,XY fun k hk=>h k (Kb _ hk)];rfl
theorem WY{α:Type}{p:α->Bool}{k:α}(hk:p k=true): ∀{l:List α},(∀k∈l,p k=false)->idxS p (l++[k])=(l.length:Int)
 |[],_=>by rw[Bc,idxS,hk];rfl
 |a::l,h=>by rw[Sb,idxS,h a (Ob ..),Ba,WY hk fun k hk=>h k (Kb _ hk),Ia (by omega),Ba,Ga];omega
noncomputable def addK(s:ZJ)(o:Int)(site w:Str):ZJ:=⟨s.sheets++[⟨s.next,o,site,⟨yj w⟩⟩],s.next+1⟩
theorem zKe{s:ZJ}{o:Int}{site w:Str}(h:refS s=true)(hw:okW w)(hl:w.length<=600)(h1:1<=o)(h2:o<=3)(h3:(site.length:Int)<=64)(h7:s.sheets.length<=7)(hn:s.next<1000):refS (addK s o site w)=true:=by
 obtain⟨_,g2,_,g4⟩:=Uq h;refine LW ?_ ?_ ?_ ?_
 ·show(s.sheets++[_]).length<=8;rw[Na,Mc];omega
 ·show 0<=s.next+1;omega
 ·show s.next+1<=1000;omega
 ·exact UQ (n:=s.next) (k:=⟨s.next,o,site,⟨yj w⟩⟩) (fun a ha=>xI ha (show s.next<s.next+1 by omega) h1 h2 h3 (zIb (by omega) hw)) _ _ (by omega) g4
theorem zKf{s:ZJ}(h:refS s=true)(hn:s.next<1000):refS ⟨s.sheets,s.next+1⟩=true:=by obtain⟨g1,g2,_,g4⟩:=Uq h;exact LW g1 (show 0<=s.next+1 by omega) (show s.next+1<=1000 by omega) (lZ _ _ g4)
theorem zKF(l:List qE)(k:qE):zL Zt (l++[k])=zL Zt l+zq (Zt k):=by rw[lh,Z6,og];omega
theorem zNf{s:ZJ}{o:Int}{site w:Str}(hs:zL Zt s.sheets<=1100000)(hl:w.length<=600)(h3:(site.length:Int)<=64):zL Zt (addK s o site w).sheets<=1400000:=by show zL Zt (s.sheets++[_])<=_;have:=zIc (w:=w) (by omega);rw[zKF,Mo];dsimp only;omega
theorem zvr{s:ZJ}{o:Int}{site w:Str}(hs:zL Zt s.sheets<=big)(hr:refS s=true)(h1:1<=o)(h2:o<=3)(h3:(site.length:Int)<=64)(hn:s.next=1000):si (s,o,site,w)=some (⟨[],0⟩,0,18):=by unfold si;simp only[Vz hs,(Et hr).1,Ca,za,Aa,show((0:Int) != 0)=false from rfl,Ba,Ia (show¬o<1 by omega),Ia (show¬o>3 by omega),Ia (show¬(site.length:Int)>64 by omega),hn,Kc];cases (s.sheets.length:Int)==8<;>rfl
theorem oK{s:ZJ}{o:Int}{site w:Str}(hs:zL Zt s.sheets<=1400000)(hr:refS s=true)(h1:1<=o)(h2:o<=3)(h3:(site.length:Int)<=64)(h7:s.sheets.length<=7)(hn:s.next<1000){x:zbj}{e:Int}(hx:qo w=some (x,e)):
  si (s,o,site,w)=some (bif e==0 then(⟨s.sheets++[⟨s.next,o,site,x⟩],s.next+1⟩,s.next,0)else(⟨[],0⟩,0,e)):=by
 have hbig:big=4194304:=rfl;obtain⟨_,g2,g3,_⟩:=Uq hr;have e8:((s.sheets.length:Int)==8)=false:=Ea.2 (by omega);have e1:(s.next==1000)=false:=Ea.2 (by omega);have ew:w64 (s.next+1)=s.next+1:=QW (by omega) (by omega);unfold si;simp only[Vz (show zL Zt s.sheets<=big by omega),(Et hr).1,Ca,za,Aa,show((0:Int) != 0)=false from rfl,Ba,Ia (show¬o<1 by omega),Ia (show¬o>3 by omega),Ia (show¬(site.length:Int)>64 by omega),e8,e1,hx,bne];cases e==0 with
 |false=>rfl
 |true=> simp only[Ya,Ba,Ca,O7 (show zL Zt s.sheets<=big by omega),Aa,ew,Vd,Int.le_refl,decide_true,Bool.and_self,nn,Zz,Kc,Ya,Ba];rw[ZQ (qy (by omega))]
theorem U7{s:ZJ}{o:Int}{site w:Str}(hs:zL Zt s.sheets<=1100000)(hr:refS s=true)(hw:w.length<=600\/4000<w.length):
  (∃e,(e=2\/e=18\/e=4\/e=20\/e=28)/\si (s,o,site,w)=some (⟨[],0⟩,0,e))\/(okW w/\w.length<=600/\1<=o/\o<=3/\(site.length:Int)<=64/\s.sheets.length<=7/\s.next<1000/\qo w=some (⟨yj w⟩,0)/\si (s,o,site,w)=some (addK s o site w,s.next,0)):=by
 have hbig:big=4194304:=rfl;obtain⟨g1,g2,g3,_⟩:=Uq hr;by_cases hb:1<=o/\o<=3/\(site.length:Int)<=64
 ·obtain⟨b1,b2,b3⟩:=hb;by_cases hf:s.sheets.length<=7/\s.next<1000
  ·obtain⟨f1,f2⟩:=hf;rcases zKc hw with⟨h1,h2,h3⟩|⟨e,h1,h2⟩
   ·exact .inr ⟨h1,h2,b1,b2,b3,f1,f2,h3,oK (by omega) hr b1 b2 b3 f1 f2 h3⟩
   ·refine .inl ⟨e, .inr (.inr h1),?_⟩;rw[oK (by omega) hr b1 b2 b3 f1 f2 h2,Ea.2 (by omega)];rfl
  ·refine .inl ⟨18, .inr (.inl rfl),?_⟩;unfold si;simp only[Vz (show zL Zt s.sheets<=big by omega),(Et hr).1,Ca,za,Aa,show((0:Int) != 0)=false from rfl,Ba,Ia (show¬o<1 by omega),Ia (show¬o>3 by omega),Ia (show¬(site.length:Int)>64 by omega)];by_cases h8:s.sheets.length=8
   ·rw[show((s.sheets.length:Int)==8)=true by rw[h8];rfl];rfl
   ·rw[show(s.next==1000)=true by rw[show s.next=1000 by omega];rfl];cases (s.sheets.length:Int)==8<;>rfl
 ·refine .inl ⟨2, .inl rfl,?_⟩;unfold si;simp only[Vz (show zL Zt s.sheets<=big by omega),(Et hr).1,Ca,za,Aa,show((0:Int) != 0)=false from rfl,Ba];have:(bif bif decide (o<1)then true else decide (o>3)then true else decide ((site.length:Int)>64))=true:=by
   by_cases c1:o<1
   ·rw[Fa c1];rfl
   by_cases c2:o>3
   ·rw[Fa c2];cases decide (o<1)<;>rfl
   rw[Fa (show(site.length:Int)>64 by omega)];cases decide (o<1)<;>cases decide (o>3)<;>rfl
  rw[this];rfl
theorem R7{s:ZJ}{n:Int}(h:zL Zt s.sheets<=big)(hs:Vn s=true){i:Nat}(hi:i<s.sheets.length)(ha:atK s.sheets n=(i:Int)):Jy (s,n)=some (⟨s.sheets.take i++s.sheets.drop (i+1),s.next⟩,0):=by have hlen:=ZF Xo s.sheets;have hd:decide ((i:Int)<0)=false:=Ia (by omega);have ew:w64 ((i:Int)+1)=((i+1:Nat):Int):=zG hi (by omega);unfold Jy;simp only[OQ h,hs,ha,hd,Ca,Ba,za,Aa,Ni,ztu h,ew];unfold delK;simp only[Fa (show(0:Int)<=(i:Int) by omega),Fa (show(i:Int)<((i+1:Nat):Int) by omega),Fa (show((i+1:Nat):Int)<=(s.sheets.length:Int) by omega),Bool.and_self,Ca,Aa,Cb]
theorem zvs{s:ZJ}{n:Int}(h:zL Zt s.sheets<=big)(hs:Vn s=true)(ha:atK s.sheets n= -1):dx (s,n)=some (⟨0,0,[],⟨[]⟩⟩,6):=by unfold dx;simp only[OQ h,hs,ha,Ca,za,Aa,show decide ((-1:Int)<0)=true from rfl,show((6:Int) != 0)=true from rfl]
theorem zNg{s:ZJ}{o:Int}{site w:Str}(h:refS s=true):atK (addK s o site w).sheets s.next=(s.sheets.length:Int):=by have h4:=(Uq h).2.2.2;exact WY (p:=fun k:qE=>k.number==s.next) (k:=⟨s.next,o,site,⟨yj w⟩⟩) (Kc s.next) fun k hk=>Ea.2 (by have:=xJ _ _ h4 k hk;omega)
theorem zMp{s:ZJ}(h:refS s=true):atK s.sheets s.next= -1:=by have h4:=(Uq h).2.2.2;exact XY (p:=fun k:qE=>k.number==s.next) fun k hk=>Ea.2 (by have:=xJ _ _ h4 k hk;omega)
theorem zLf: @fK fuK ()=some true:=by decide+kernel
theorem yZ{s:ZJ}{o:Int}{site w:Str}(hs:zL Zt s.sheets<=1100000):bG (s,o,site,w)=some true:=by
 have hbig:big=4194304:=rfl;obtain⟨f,hf,hf2⟩:=zNv (s:=s) (by omega);unfold bG;simp only[zLf,hf,za,Aa];cases f with
 |false=>rfl
 |true=>
  cases hsite:decide ((site.length:Int)>100)with
  |true=>rfl
  |false=>
   have hr:=hf2 rfl;obtain⟨g1,g2,g3,g4⟩:=Uq hr;unfold LK;simp only[Ya,Ua,Ba,Ca,z8,Aa];cases hl:(bif bif decide ((w.length:Int)>600)then decide ((w.length:Int)<=4000)else false then true else decide ((w.length:Int)>4100))with
   |true=>rfl
   |false=>
    have hw:w.length<=600\/4000<w.length:=by
     by_cases a:w.length<=600
     ·exact .inl a
     ·by_cases b:w.length<=4000
      ·rw[Fa (by omega),Fa (by omega)]at hl;cases hl
      ·exact .inr (by omega)
    rw[Ba];rcases U7 (o:=o) (site:=site) hs hr hw with⟨e,he,h⟩|⟨h1,h2,h3,h4,h5,h6,h7,h8,h9⟩
    ·have:(e != 0)=true:=Xe.2 (by omega);simp only[h,Aa,this,Ca,Ba]
    ·have hA:=zKe (o:=o) (site:=site) hr h1 h2 h3 h4 h5 h6 h7;have hz:=zNf (o:=o) hs h2 h5;have hi:s.sheets.length<(addK s o site w).sheets.length:=by show _<(s.sheets++[_]).length;rw[Na,Mc];omega
     have p1:=R7 (s:=addK s o site w) (n:=s.next) (by omega) (Et hA).1 hi (zNg hr);have ed:(addK s o site w).sheets.take s.sheets.length++(addK s o site w).sheets.drop (s.sheets.length+1)=s.sheets:=by show(s.sheets++[_]).take s.sheets.length++(s.sheets++[_]).drop (s.sheets.length+1)=s.sheets;simp
     rw[ed,show(addK s o site w).next=s.next+1 from rfl]at p1;have hI:=zKf hr h7;have p2:=zvs (s:=⟨s.sheets,s.next+1⟩) (n:=s.next) (show zL Zt s.sheets<=big by omega) (Et hI).1 (zMp hr);have ew:w64 (s.next+1)=s.next+1:=QW (by omega) (by omega);have p3:=zCU (l:=s.sheets) (by omega);have el:((addK s o site w).sheets.length:Int)=((s.sheets.length+1:Nat):Int):=by show(((s.sheets++[_]).length:Nat):Int)=_;rw[Na,Mc]
     by_cases hn:s.next+1=1000
     ·have p4:=zvr (s:=⟨s.sheets,s.next+1⟩) (w:=w) (show zL Zt s.sheets<=big by omega) hI h3 h4 h5 hn;simp only[h9,Aa,Ni,Ba,p1,p2,p4,Ua,z8,p3,ew,Ya,Kc,Ca];simp only[hn,Kc,Ca]
     ·have p4:=oK (s:=⟨s.sheets,s.next+1⟩) (w:=w) (show zL Zt s.sheets<=1400000 by omega) hI h3 h4 h5 h6 (show s.next+1<1000 by omega) h8;have e0:(s.next+1==1000)=false:=Ea.2 hn;have e1:((s.sheets++[(⟨s.next+1,o,site,⟨yj w⟩⟩:qE)]).length:Int)=((s.sheets.length+1:Nat):Int):=by rw[Na,Mc]
      simp only[h9,Aa,Ni,Ba,p1,p2,p4,Ua,z8,p3,ew,Ya,e0,Kc,Ca,e1,el]
end Go.Lv.VT
