/- Conditions that are not great: few conditions, small declarations. -/
import Derived.Test.YtkecjfeffabgiaaGreatDoorXk
import Derived.Test.YtkecjfeffabgiaaGreatDoorXf
import Derived.Test.YtkecjfeffabgiaaGreatDoorXh
import Derived.Test.YtkecjfeffabgiaaGreatDoorXg
import Derived.Test.YtkecjfeffabgiaaGreatDoorXc
import Derived.Test.YtkecjfeffabgiaaGreatDoorXd
set_option linter.unusedSimpArgs false
set_option linter.unusedVariables false
namespace Go.Lv.VT
theorem zpf{c:zf}(h:zx (zm c)<=big): ∃g,Ol c=some g/\(g=false-> ∀d∈Zn c,d.name.length+szL d.value<=300):=by
 refine Ws znP (fun c=>zx (zm c)) (fun c=>zx (zm c)<=big) (fun c g=>g=false-> ∀d∈Zn c,d.name.length+szL d.value<=300) (fun S c hc hS=> ?_) h;have hd:=Pz (Ob (JB c) hc);obtain⟨g,hg,hg2⟩:=zJF (l:=[c.decl]) (fun d hd'=>by rw[Gc.1 hd'];exact⟨hd.1,hd.2⟩) (by show 1<=big;decide);have hlen:=Nl c;unfold Ky;rw[hg];simp only[ze,Aa];cases hb:(bif g then true else decide ((c.name.length:Int)>200))with
 |true=>exact⟨true,rfl,fun e=>by cases e⟩
 |false=>
  have hg0:g=false:=by cases g with|false=>rfl|true=>cases hb
  have hsm:=(hg2 hg0).2 c.decl (Ff _);simp only[Ba];refine Yw c.list.length (fun i (_:Unit)=>(i:Int)) (fun i _=> ∀y∈c.list.take i,∀d∈Zn y,d.name.length+szL d.value<=300) _ (a0:=()) rfl (fun y hy=>by cases hy) (fun i _ hi hI=> ?_) (fun _ hI=> ?_)
  ·have hm:=jb hi;obtain⟨r,hr,hr2⟩:=hS c.list[i] (by have:=qx hm;omega) (qx hm);simp only[ZF hi,Da,Zo hi,Aa,Zd,hr];cases r with
   |true=>exact .inr (.inl ⟨true,rfl,fun e=>by cases e⟩)
   |false=>
    refine .inl ⟨(),?_,fun y hy=> ?_⟩
    ·simp only[Ba,Zp hi (show c.list.length<=big by omega)]
    ·rw[Xb hi]at hy;rcases Ed.1 hy with hy|hy
     ·exact hI y hy
     ·rw[Gc.1 hy];exact hr2 rfl
  ·simp only[qA,Ba];refine .inl ⟨(),(by first|rfl|trivial),false,rfl,fun _ d hd=> ?_⟩;rw[Yc]at hI;rw[QK]at hd;cases h7:c.kind==7 with
   |true=>rw[h7,Da]at hd;rw[Gc.1 hd];exact hsm
   |false=> rw[h7,Ba]at hd;obtain⟨y,hy,hd⟩:=Pd.1 hd;exact hI y hy d hd
structure SmC (c:zf):Prop where
 n:sizC c<=100
 d: ∀d∈Zn c,d.name.length+szL d.value<=300
theorem RY{c:zf}(h:zx (zm c)<=big): ∃g,Tx c=some g/\(g=false->SmC c):=by
 obtain⟨r,hr,_,_,h2⟩:=zpe h (m:=100) (by decide);obtain⟨g,hg,hg2⟩:=zpf h;have hr:Qo (c,100)=some (r:Int):=hr;unfold Tx;simp only[Zd,hr,hg,ze,Aa];by_cases hq:r>100
 ·rw[Ga (by omega)];exact⟨true,rfl,fun e=>by cases e⟩
 ·rw[Db (by omega)];exact⟨g,rfl,fun e=>⟨by by_cases hs:sizC c<=100;exact hs;have:=h2 (by omega);omega,hg2 e⟩⟩
set_option maxRecDepth 100000
theorem kN(b:UInt8):digN b.toNat=digB b:=by
 have: ∀n:Nat,n<256->digN n=digB (UInt8.ofNat n):=by decide+kernel
 have h:=this b.toNat (Sb b)
 rwa [jd]at h
theorem Tp(c:UInt8)(r:Str):Bl (c::r)=((c==101||c==69)&&(digB (atS r 0)||(atS r 0==45&&digB (atS r 1)))):=by
 rw[NV,af];congr 1
 match r with
 |[]=>rfl
 |[b]=>
  rw[AL,kN,show atS [b] 0=b from rfl,show atS [b] 1=0 from rfl];by_cases hb:b=45
  ·subst hb;rfl
  ·rw[Ha.2 hb];show(digB b&& !([45,45]:Str).isPrefixOf [b])=(digB b||(false&&_));rw[show([45,45]:Str).isPrefixOf [b]=((45==b)&&false)from rfl];cases digB b<;>simp
 |b::d::t=>
  rw[AL,kN,show atS (b::d::t) 0=b from rfl,show atS (b::d::t) 1=d from rfl,show List.headD (d::t) 0=d from rfl,kN,show([45,45]:Str).isPrefixOf (b::d::t)=((45==b)&&((45==d)&&true))from rfl];by_cases hb:b=45
  ·subst hb;by_cases hd:d=45
   ·subst hd;rfl
   ·rw[Ha.2 (Ne.symm hd),show(d::t==[])=false from rfl,show digB 45=false from rfl];cases digB d<;>rfl
  ·rw[Ha.2 hb,Ha.2 (Ne.symm hb)];cases digB b<;>rfl
structure SmD (d:zD):Prop where
 s:d.name.length+szL d.value<=300
theorem SmD.ok{d:zD}(h:SmD d):OkD d:=zy8 (l:=[d]) (fun x hx=>by rw[Gc.1 hx];exact h.s) d (Ff _)
theorem II(sep x:Str)(r:List Str):jn sep (x::r)=x++Lib.joinTail sep r:=Lib.join_cons x r sep
theorem bS{K:Nat}{f:zf->Str}{sep:Str}(hs:sep.length<=5): ∀{l:List zf},(∀y∈l,(f y).length+8<=K*sizC y)->(Lib.joinTail sep (l.map f)).length+3*l.length<=K*(l.map sizC).sum
 |[],_=>Kc _
 |y::r,h=>by have ih:=bS hs (l:=r) fun z hz=>h z (by simp[hz]);have hy:=h y (by simp);have e:Lib.joinTail sep ((y::r).map f)=(sep++f y)++Lib.joinTail sep (r.map f):=rfl;rw[e,Ja,Ja,Yb,Me,Nat.mul_add,Fa];omega
theorem wE{K:Nat}{f:zf->Str}{sep:Str}(hs:sep.length<=5){l:List zf}(h: ∀y∈l,(f y).length+8<=K*sizC y):(jn sep (l.map f)).length<=K*(l.map sizC).sum:=by
 cases l with
 |nil=>exact Kc _
 |cons y r=> have ih:=bS hs (l:=r) fun z hz=>h z (by simp[hz]);have hy:=h y (by simp);rw[Yb,II,Ja,Yb,Me,Nat.mul_add];omega
mutual
def okW(md:Bool):zf->Bool
 |⟨k,n,m,d,l⟩=>bif k==4 then md&&(!n.isEmpty&&(Zy n&&decide (n.length<=64)))else bif k==5||k==6 then md&&(decide (0<=m)&&decide (m<=1000000000000))else
  bif k==7 then !md&&(Dg d&&decide (d.name.length+szL d.value<=300))else bif k==8 then !md else(bif k==3 then l.length==1 else k==1||k==2)&&okWs md l
def okWs(md:Bool):List zf->Bool
 |[]=>true
 |c::r=>okW md c&&okWs md r
end
theorem EQ(md:Bool): ∀l:List zf,okWs md l=l.all (okW md)
 |[]=>by rw[okWs];rfl
 |c::r=>by rw[okWs,EQ md r];rfl
theorem dm(md:Bool)(c:zf):okW md c=bif c.kind==4 then md&&(!c.name.isEmpty&&(Zy c.name&&decide (c.name.length<=64)))else bif c.kind==5||c.kind==6 then md&&(decide (0<=c.num)&&decide (c.num<=1000000000000))else
  bif c.kind==7 then !md&&(Dg c.decl&&decide (c.decl.name.length+szL c.decl.value<=300))else bif c.kind==8 then !md else(bif c.kind==3 then c.list.length==1 else c.kind==1||c.kind==2)&&c.list.all (okW md):=by
 obtain⟨⟩:=c;rw[okW,EQ]
theorem zH6{f:Bool}{y:zf}(h:ag f y=true):okW true y=true:=by
 unfold ag at h;simp only[Ca,Vb]at h;rw[dm];rcases h.2.2 with⟨_,h4,_,hm⟩|⟨hk,_,h0,hN⟩
 ·unfold medS keyS at hm;simp only[Ca,Lc,ic]at hm;obtain⟨⟨hne,_⟩,hl,_,hn⟩:=hm;have he:y.name.isEmpty=false:=by
   cases hx:y.name with
   |nil=>rw[hx]at hne;cases hne
   |cons a b=>rfl
  rw[h4,hn,hl,he];rfl
 ·unfold isN at hN;rw[Ca]at hN;have h4:(y.kind==4)=false:=by rcases hk with e|e<;>rw[eq_of_beq e]<;>rfl
  have h56:(y.kind==5||y.kind==6)=true:=by rw[Vb];exact hk
  rw[h4,h56,h0,hN.2];rfl
theorem AQ{c:zf}(h:qL c=true):okW true c=true:=by unfold qL at h;simp only[Ca,Bb]at h;rw[dm,h.1];exact aa.2 fun y hy=>let⟨_,e⟩:=yw h.2.2.2 hy;zH6 e
theorem zH4{c:zf}(h:Vg c=true):okW true c=true:=by
 unfold Vg at h;cases h3:c.kind==3 with
 |false=>rw[h3]at h;exact AQ h
 |true=>
  rw[h3,Da,Ca]at h;have:=h.2;revert this;rw[dm,eq_of_beq h3];cases hl:c.list with
  |nil=>intro h;cases h
  |cons y r=>
   cases r with
   |nil=> intro hq;simp only[Ca]at hq;simp[AQ hq.1]
   |cons z r=>intro hq;cases hq
theorem BQ{c:zf}(h:Zu c=true):okW true c=true:=by
 unfold Zu at h;simp only[Ca,Vb,Bb,Uc,aa]at h;rw[dm];rcases h.2 with⟨hk,hl⟩|⟨hk,_,_,hl⟩
 ·rw[hk,hl];rfl
 ·rw[hk];exact aa.2 fun y hy=>zH4 (hl y hy)
theorem R5: ∀{c:zf},supC c=true->(∀d∈Zn c,d.name.length+szL d.value<=300)->okW false c=true:=by
 have key: ∀(n:Nat) (c:zf),sizC c<=n->supC c=true->(∀d∈Zn c,d.name.length+szL d.value<=300)->okW false c=true:=by
  intro n
  induction n with
  |zero=>intro c hc;have:=Qe c;omega
  |succ n ih=>
   intro c hc hs hd;rw[Jj]at hs;rw[dm];rw[QK]at hd;have hsz:=QD c;cases h7:c.kind==7 with
   |true=> rw[h7,Da]at hs hd;simp only[Ca]at hs;have e:=eq_of_beq h7;rw[e,hs.2.2.2,Ga (hd c.decl (Ff _))];rfl
   |false=>
    rw[h7,Ba]at hs hd;cases h8:c.kind==8 with
    |true=>rw[eq_of_beq h8];rfl
    |false=>
     rw[h8,Ba]at hs;simp only[Ca]at hs;obtain⟨hk,_,hl,hall⟩:=hs;have h4:(c.kind==4)=false/\(c.kind==5||c.kind==6)=false:=by simp only[Vb,Bb]at hk;rcases hk with e|e|e<;>rw[e]<;>exact⟨rfl,rfl⟩
     have ha:c.list.all (okW false)=true:=aa.2 fun y hy=>ih y (by have:=Qx hy;omega) (aa.1 hall y hy) fun d h=>hd d (Pd.2 ⟨y,hy,h⟩);rw[h4.1,h4.2,ha,Ba,Ba,Ba,Ba,ib];cases h3:c.kind==3 with
     |true=>rw[h3]at hl;exact hl
     |false=>rw[h3,Jc]at hk;exact hk
 intro c hs hd;exact key _ c (Ua _) hs hd
abbrev KW:Nat:=9400
theorem pF(s:Str):(parW s).length=s.length+2:=by unfold parW;rw[Ja,Fa,Md]
theorem rF{n:Int}(h0:0<=n)(h:n<=1000000000000):(numT n false).length<=20:=by obtain⟨m,rfl⟩: ∃m:Nat,n=(m:Int):=⟨n.toNat,by omega⟩;have hm:m%1000<1000:=pg _ (by omega);have:=iJ 10 (m / 1000) (dotB (bk3 (m%1000)));have h2:=l9 hm;rw[FQ (by omega)]at this;unfold numT;rw[Ia (by omega),Pb];show(ig m false).length<=20;omega
theorem KI{c:zf}{s:Str}(h:s.length+10<=KW*sizC c):(bif Qk c then s else parW s).length+8<=KW*sizC c:=by
 cases Qk c with
 |true=>simp only[Da];omega
 |false=>simp only[Ba,pF];omega
theorem zKI{md:Bool}{wd:zD->Str}(hw: ∀d,Dg d=true->d.name.length+szL d.value<=300->(wd d).length<=9300): ∀{c:zf},okW md c=true->(wrC wd c).length+10<=KW*sizC c:=by
 have key: ∀(n:Nat) (c:zf),sizC c<=n->okW md c=true->(wrC wd c).length+10<=KW*sizC c:=by
  intro n
  induction n with
  |zero=>intro c hc;have:=Qe c;omega
  |succ n ih=>
   intro c hc hs;have hsz:=QD c;have hp:=Qe c;rw[dm]at hs;obtain⟨k,nm,m,d,l⟩:=c;rw[wrC];simp only at hs hsz;unfold KW;cases h4:k==4 with
   |true=> rw[h4,Da]at hs;simp only[Ca,Ab]at hs;have:=BL nm;simp only[Da];omega
   |false=>
   cases h5:k==5 with
   |true=> rw[h4,h5,Ba,Td,Da]at hs;simp only[Ca,Ab]at hs;have:=rF hs.2.1 hs.2.2;simp only[Ba,Da,Ja,uk,pxW,Fa,Eb];omega
   |false=>
   cases h6:k==6 with
   |true=> rw[h4,h5,h6,Ba,Df,Da]at hs;simp only[Ca,Ab]at hs;have:=rF hs.2.1 hs.2.2;simp only[Ba,Da,Ja,Al,pxW,Fa,Eb];omega
   |false=>
   cases h7:k==7 with
   |true=> rw[h4,h5,h6,h7,Ba,Nf,Ba,Da]at hs;simp only[Ca,Ab]at hs;have:=hw d hs.2.1 hs.2.2;simp only[Ba,Da,pF];omega
   |false=>
   cases h8:k==8 with
   |true=>simp only[Ba,Da,unkW,Fa,Eb];omega
   |false=>
    rw[h4,h5,h6,h7,h8,Ba,Nf,Ba,Ba,Ba]at hs;simp only[Ca,aa]at hs;have hm: ∀y∈l,(wrC wd y).length+10<=KW*sizC y:=fun y hy=>ih y (by have:=Qx hy;omega) (hs.2 y hy);have hj: ∀sep:Str,sep.length<=5->(jn sep (l.map (wrC wd))).length<=KW*(l.map sizC).sum:=fun sep h5=>wE h5 fun y hy=>by have:=hm y hy;omega
    have hi: ∀sep:Str,sep.length<=5->(jn sep (l.map fun c=>bif Qk c then wrC wd c else parW (wrC wd c))).length<=KW*(l.map sizC).sum:=fun sep h5=>wE h5 fun y hy=>KI (hm y hy);rw[xz,UF];unfold KW at hj hi hm;cases h3:k==3 with
    |true=>
     rw[h3,Da]at hs;obtain⟨y,rfl⟩: ∃y,l=[y]:=df.1 (eq_of_beq hs.1);have h1:=hm y (by simp);have h2:=KI (c:=y) h1;unfold KW at h2;simp only[Yb,ae,Me,List.sum_nil]at hsz;simp only[Ba,Da,Yb,ae,Jg];cases BD [y]with
     |true=>simp only[Da,Ja,nt4,Fa,Eb];omega
     |false=>simp only[Ba,Ja,nt4,Fa,Eb];omega
    |false=> have q1:=hj cma2 (by decide);have q2:=hj and5 (by decide);have q3:=hi or4 (by decide);have q4:=hi and5 (by decide);simp only[Ba];cases (l.isEmpty||(qL ⟨k,nm,m,d,l⟩||(k==2&&headA l)))<;>cases k==2<;>simp only[Da,Ba]<;>omega
 intro c hs;exact key _ c (Ua _) hs
theorem p9{g:zf->Str}{sep:Str}(hs:sep.length<=5){l:List zf}(h: ∀y∈l,(g y).length+8<=KW*sizC y)(hn:(l.map sizC).sum<=100)(i:Nat):(jn sep ((l.take i).map g)).length<=940000:=by have h1:=wE (K:=KW) hs (l:=l.take i) fun y hy=>h y (Ah hy);have h2:=yx sizC l i;unfold KW at h1;omega
theorem O9{g:zf->Str}{l:List zf}(h: ∀y∈l,(g y).length+8<=KW*sizC y)(hn:(l.map sizC).sum<=100){y:zf}(hy:y∈l):(g y).length<=940000:=by have h1:=h y hy;have h2:=Qx hy;unfold KW at h1;omega
theorem FI: ∀l:List zf,l.length<=(l.map sizC).sum
 |[]=>Ua _
 |c::r=>by have:=FI r;have:=Qe c;rw[Yb,Me,Fa];omega
theorem kW{S:zf->Option Str}{f:zf->Str}{l:List zf}{sep:Str}(hS: ∀y∈l,S y=some (f y))(hs:sep.length<=5)(h: ∀y∈l,(f y).length+8<=KW*sizC y)(hn:(l.map sizC).sum<=100):
  kw S (l,sep)=some (jn sep (l.map f)):=by
 have hlen:=FI l;unfold kw;refine(Dt l.length (fun i=>((i:Int),(l.take i).map f)) (l.map f) rfl (fun i hi=> ?_) ?_).trans ?_
 ·have hm:=jb hi;have ha:zW ((l.take i).map f).length 1 16=true:=QH (by rw[Ib,yc];omega);simp only[ZF hi,Da,Zo hi,ze,Aa,Zd,hS _ hm,ha,zK,Zp hi (show l.length<=big by unfold big;omega)];rw[Xb hi,We];rfl
 ·simp only[qA,Ba,Yc]
 ·have hj:=p9 hs h hn l.length;rw[Yc]at hj;have hj:(Lib.join (l.map f) sep).length<=940000:=hj;have hb:(Nat.ble (l.map f).length 1000000&&Nat.ble (Lib.join (l.map f) sep).length 1000000000)=true:=by rw[Ib,lg (by omega),lg (by omega)];rfl
  unfold jl;simp only[hb,zK,ze,Aa];rfl
theorem E9: ∀{c:zf},okW true c=true->(medT c).length+10<=KW*sizC c:=by
 have key: ∀(n:Nat) (c:zf),sizC c<=n->okW true c=true->(medT c).length+10<=KW*sizC c:=by
  intro n
  induction n with
  |zero=>intro c hc;have:=Qe c;omega
  |succ n ih=>
   intro c hc hs;have hsz:=QD c;have hp:=Qe c;rw[dm]at hs;obtain⟨k,nm,m,d,l⟩:=c;rw[medT,Pt];simp only at hs hsz;unfold KW;cases h4:k==4 with
   |true=> rw[h4,Da]at hs;simp only[Ca,Ab]at hs;have:=BL nm;simp only[Da];omega
   |false=>
    have hm:(k==5||k==6)=false-> ∀y∈l,(medT y).length+10<=KW*sizC y:=fun e y hy=>ih y (by have:=Qx hy;omega) (by
     rw[h4,e,Ba,Ba]at hs;cases h7:k==7 with
     |true=>rw[h7]at hs;cases hs
     |false=>
     cases h8:k==8 with
     |true=>rw[h7,h8]at hs;cases hs
     |false=>
      rw[h7,h8,Ba,Ba,Ca]at hs;exact aa.1 hs.2 y hy)
    have hj:(k==5||k==6)=false-> ∀sep:Str,sep.length<=5->(jn sep (l.map medT)).length<=KW*(l.map sizC).sum:=fun e sep h5=>wE h5 fun y hy=>by have:=hm e y hy;omega
    unfold KW at hj hm;have no: ∀q:Int,(k==q)=true->q=1\/q=2\/q=3->(k==5||k==6)=false:=fun q e h=>by rw[eq_of_beq e];rcases h with rfl|rfl|rfl<;>rfl
    cases h3:k==3 with
    |true=> have e:=no 3 h3 (.inr (.inr rfl));have k3:=eq_of_beq h3;subst k3;have hs:(l.length==1&&l.all (okW true))=true:=hs;rw[Ca]at hs;obtain⟨y,rfl⟩: ∃y,l=[y]:=df.1 (eq_of_beq hs.1);have h1:=hm e y (by simp);simp only[Yb,ae,Me,List.sum_nil]at hsz;simp only[Ba,Da,Yb,ae,Jg,Ja,nt4,Fa,Eb];omega
    |false=>
    cases h2:k==2 with
    |true=>have:=hj (no 2 h2 (.inr (.inl rfl))) cma2 (by decide);simp only[Ba,Da];omega
    |false=>
    cases h1:k==1 with
    |true=>have:=hj (no 1 h1 (.inl rfl)) and5 (by decide);simp only[Ba,Da];omega
    |false=>
     have h56:(k==5||k==6)=true:=by
      cases e:(k==5||k==6)with
      |true=>rfl
      |false=> rw[h4,e,h3,h2,h1]at hs;cases h7:k==7<;>cases h8:k==8<;>rw[h7,h8]at hs<;>cases hs
     rw[h4,h56,Ba,Da]at hs;simp only[Ca,Ab]at hs;have:=rF hs.2.1 hs.2.2;simp only[Ba];cases k==5<;>simp only[Da,Ba,Ja,uk,Al,pxW,Fa,Eb]<;>omega
 intro c hs;exact key _ c (Ua _) hs
theorem ul{a b:Nat}(h:a+b<=10000000):Ig a b=true:=Co.2 (by omega)
theorem zqu{c:zf}(hok:okW true c=true)(hn:sizC c<=100):ZJ c=some (medT c):=by
 refine Ul sizC (fun c=>okW true c=true/\sizC c<=100) medT (fun S c hc hS=> ?_) ⟨hok,hn⟩;obtain⟨hs,hn⟩:=hc;have hsz:=QD c;have hlen0:=E9 hs;have hs0:=hs;rw[dm]at hs;obtain⟨k,nm,m,d,l⟩:=c;unfold eG;rw[medT,Pt]at hlen0 ⊢;simp only at hs hsz ⊢;cases h4:k==4 with
 |true=> rw[h4,Da]at hs;simp only[Ca,Ab,Lc]at hs;simp only[Da,YP (show nm.length<=1000 by omega),hs.2.1,hs.2.2.1,Va,Nf,ze,Aa];rfl
 |false=>
  have hch:(k==5||k==6)=false->l.all (okW true)=true:=fun e=>by
   rw[h4,e,Ba,Ba]at hs;cases h7:k==7 with
   |true=>rw[h7]at hs;cases hs
   |false=>
   cases h8:k==8 with
   |true=>rw[h7,h8]at hs;cases hs
   |false=> rw[h7,h8,Ba,Ba,Ca]at hs;exact hs.2
  have no: ∀q:Int,(k==q)=true->q=1\/q=2\/q=3->(k==5||k==6)=false:=fun q e h=>by rw[eq_of_beq e];rcases h with rfl|rfl|rfl<;>rfl
  have hSy:(k==5||k==6)=false-> ∀y∈l,S y=some (medT y):=fun e y hy=>hS y ⟨aa.1 (hch e) y hy,by have:=Qx hy;omega⟩ (by have:=Qx hy;omega);have hLy:(k==5||k==6)=false-> ∀y∈l,(medT y).length+8<=KW*sizC y:=fun e y hy=>by have:=E9 (aa.1 (hch e) y hy);omega
  cases h3:k==3 with
  |true=> have e:=no 3 h3 (.inr (.inr rfl));have k3:=eq_of_beq h3;subst k3;have hs:(l.length==1&&l.all (okW true))=true:=hs;rw[Ca]at hs;obtain⟨y,rfl⟩: ∃y,l=[y]:=df.1 (eq_of_beq hs.1);have hSy:=hSy e y (by simp);have hl:=O9 (g:=medT) (hLy e) (by simp only[Yb,ae,Me,List.sum_nil]at hsz ⊢;omega) (Ff y);have hg:geti [y] 0=some y:=rfl;have c1:Ig ([110,111,116,32]:Str).length (medT y).length=true:=ul (by simp only[Fa,Eb];omega);simp only[Ba,Da,hg,ze,Aa,Zd,hSy,c1,zK];rfl
  |false=>
  cases h2:k==2 with
  |true=> have e:=no 2 h2 (.inr (.inl rfl));have:=kW (sep:=cma2) (hSy e) (by decide) (hLy e) (by omega);simp only[Ba,Da,show([44,32]:Str)=cma2 from rfl,this,ze,Aa]
  |false=>
  cases h1:k==1 with
  |true=> have e:=no 1 h1 (.inl rfl);have:=kW (sep:=and5) (hSy e) (by decide) (hLy e) (by omega);simp only[Ba,Da,show([32,97,110,100,32]:Str)=and5 from rfl,this,ze,Aa]
  |false=>
   have h56:(k==5||k==6)=true:=by
    cases e:(k==5||k==6)with
    |true=>rfl
    |false=> rw[h4,e,h3,h2,h1]at hs;cases h7:k==7<;>cases h8:k==8<;>rw[h7,h8]at hs<;>cases hs
   rw[h4,h56,Ba,Da]at hs;simp only[Ca,Ab]at hs;have hl:=rF hs.2.1 hs.2.2;obtain⟨q,rfl⟩: ∃q:Nat,m=(q:Int):=⟨m.toNat,by omega⟩;have c1:Ig uk.length (numT (q:Int) false).length=true:=ul (by simp only[uk,Fa,Eb];omega);have c2:Ig (uk++numT (q:Int) false).length pxW.length=true:=ul (by simp only[Ja,uk,pxW,Fa,Eb];omega);have c3:Ig Al.length (numT (q:Int) false).length=true:=ul (by simp only[Al,Fa,Eb];omega);have c4:Ig (Al++numT (q:Int) false).length pxW.length=true:=ul (by simp only[Ja,Al,pxW,Fa,Eb];omega);simp only[Ba,zoS (show q<=1000000000000 by omega),ze,Aa];cases k==5
   ·exact(zF c3 _).trans (zF c4 _)
   ·exact(zF c1 _).trans (zF c2 _)
def wdP(d:zD):Str:=(Uo d).1
def lgD(d:zD):Bool:=(Uo d).2 != 0
theorem J6: ∀d,Dg d=true->d.name.length+szL d.value<=300->(wdP d).length<=9300:=fun d h1 _=>by
 unfold wdP Uo;rw[Ka h1];split
 ·exact Kc _
 ·rename_i h;exact Ob (Nat.le_of_not_lt h) (by decide)
def inP(c:zf):Str:=bif Qk c then supT wdP c else parW (supT wdP c)
structure SupP (c:zf):Prop where
 s:supC c=true
 n:sizC c<=100
 d: ∀d∈Zn c,d.name.length+szL d.value<=300
theorem SupP.len{c:zf}(h:SupP c):(supT wdP c).length+10<=KW*sizC c:=by
 have:=zKI (wd:=wdP) J6 (R5 h.s h.d)
 rwa [GD h.s]at this
theorem SupP.lenI{c:zf}(h:SupP c):(inP c).length+8<=KW*sizC c:=KI h.len
theorem M8{S:zf×Bool->Option (Str×Bool)}{y:zf}{b b':Bool}(hS:S (y,b)=some (supT wdP y,b'))(h:(supT wdP y).length<=940000):Qr S (y,b)=some (inP y,b'):=by have c1:Ig ([40]:Str).length (supT wdP y).length=true:=ul (by simp only[Fa,Eb];omega);have c2:Ig (([40]:Str)++supT wdP y).length ([41]:Str).length=true:=ul (by simp only[Ja,Fa,Eb];omega);unfold Qr inP;simp only[Zd,hS,ze,Aa,jW,c1,c2,zK];cases Qk y<;>rfl
theorem CS{S:zf×Bool->Option (Str×Bool)}{l:List zf}{sep:Str}{b:Bool}(hS: ∀y∈l,∀b,S (y,b)=some (supT wdP y,b||(Zn y).any lgD))(hs:sep.length<=5)(h: ∀y∈l,SupP y)(hn:(l.map sizC).sum<=100):
  Yx S ((l,sep),b)=some (jn sep (l.map inP),b||(l.flatMap Zn).any lgD):=by
 have hlen:=FI l;have hL: ∀y∈l,(inP y).length+8<=KW*sizC y:=fun y hy=>(h y hy).lenI;unfold Yx;refine(Dt l.length (fun i=>((i:Int),(b||((l.take i).flatMap Zn).any lgD),(l.take i).map inP)) ((b||(l.flatMap Zn).any lgD),l.map inP) (by rw[Gi];simp) (fun i hi=> ?_) ?_).trans ?_
 ·have hm:=jb hi;have ha:zW ((l.take i).map inP).length 1 16=true:=QH (by rw[Ib,yc];omega);have hl:(supT wdP l[i]).length<=940000:=by have h1:=(h _ hm).len;have h2:=Qx hm;unfold KW at h1;omega
  simp only[ZF hi,Da,Zo hi,ze,Aa,Zd,M8 (hS _ hm _) hl,ha,zK,Zp hi (show l.length<=big by unfold big;omega)];rw[Xb hi,We,List.flatMap_append,List.any_append,Bool.or_assoc];simp
 ·simp only[qA,Ba,Yc]
 ·have hj:=p9 hs hL hn l.length;rw[Yc]at hj;have hj:(Lib.join (l.map inP) sep).length<=940000:=hj;have hb:(Nat.ble (l.map inP).length 1000000&&Nat.ble (Lib.join (l.map inP) sep).length 1000000000)=true:=by rw[Ib,lg (by omega),lg (by omega)];rfl
  unfold jl;simp only[hb,zK,ze,Aa];rfl
theorem nJ{d:zD}(h:d.name.length+szL d.value<=300):OkD d:=(SmD.mk h).ok
theorem zl8{c:zf}{b:Bool}(h:SupP c):zM (c,b)=some (supT wdP c,b||(Zn c).any lgD):=by
 refine Ul (fun x:zf×Bool=>sizC x.1) (fun x=>SupP x.1) (fun x=>(supT wdP x.1,x.2||(Zn x.1).any lgD)) (fun S x hx hS=> ?_) (x:=(c,b)) h;obtain⟨c,b⟩:=x;have hx:SupP c:=hx;obtain⟨hs,hn,hd⟩:=hx;have hsz:=QD c;unfold uG;rw[QK]at hd ⊢;rw[Jj]at hs;obtain⟨k,nm,m,d,l⟩:=c;rw[supT,bn];simp only at hs hd hsz hS ⊢;cases h7:k==7 with
 |true=>
  rw[h7,Da]at hs hd;simp only[Ca]at hs;have hsd:=hd d (Ff _);have hl:=J6 d hs.2.2.2 hsd;have c1:Ig ([40]:Str).length (wdP d).length=true:=ul (by simp only[Fa,Eb];omega);have c2:Ig (([40]:Str)++wdP d).length ([41]:Str).length=true:=ul (by simp only[Ja,Fa,Eb];omega);simp only[Da,zsU (nJ hsd),ze,Aa];refine((zF c1 _).trans (zF c2 _)).trans ?_;show some ((([40]:Str)++wdP d++([41]:Str)),bif b then true else lgD d)=some (parW (wdP d),b||([d].any lgD));simp only[List.any_cons,List.any_nil,Gd];cases b<;>rfl
 |false=>
  rw[h7,Ba]at hs hd;cases h8:k==8 with
  |true=> rw[h8,Da]at hs;simp only[Ca,Uc]at hs;rw[hs.1];simp only[Da,Ba,List.flatMap_nil,List.any_nil,Gd];rfl
  |false=>
   rw[h8,Ba]at hs;simp only[Ca]at hs;obtain⟨hk,_,hl,hall⟩:=hs;have hP: ∀y∈l,SupP y:=fun y hy=>⟨aa.1 hall y hy,by have:=Qx hy;omega,fun d hd'=>hd d (Pd.2 ⟨y,hy,hd'⟩)⟩;have hSy: ∀y∈l,∀b,S (y,b)=some (supT wdP y,b||(Zn y).any lgD):=fun y hy b=>hS (y,b) (hP y hy) (by have:=Qx hy;simp only;omega);cases h3:k==3 with
   |true=>
    rw[h3]at hl;obtain⟨y,rfl⟩: ∃y,l=[y]:=df.1 (eq_of_beq hl);have hm:=Ff y;have hl1:(supT wdP y).length<=940000:=by have h1:=(hP y hm).len;have h2:=Qx hm;unfold KW at h1;omega
    have hl2:=O9 (g:=inP) (fun z hz=>(hP z hz).lenI) (by omega) hm;have c1:Ig ([110,111,116,32]:Str).length (inP y).length=true:=ul (by simp only[Fa,Eb];omega);have hg:geti [y] 0=some y:=rfl;simp only[Ba,Da,hg,ze,Aa,Zd,M8 (hSy y hm b) hl1,c1,zK];simp only[Yb,ae,Jg,uf,List.flatMap_nil,Xa];rfl
   |false=>
    cases h2:k==2 with
    |true=> have:=CS (b:=b) (sep:=or4) hSy (by decide) hP (by omega);simp only[Ba,Da,show([32,111,114,32]:Str)=or4 from rfl,this,ze,Aa];rfl
    |false=> have:=CS (b:=b) (sep:=and5) hSy (by decide) hP (by omega);simp only[Ba,show([32,97,110,100,32]:Str)=and5 from rfl,this,ze,Aa];rfl
def Nh(c:zf):Str×Int:=bif !(Zu c||ZW c)then([],8)else bif decide (4000<(wrC wrD c).length)then([],28)else(wrC wrD c,0)
theorem zCT{wd wd':zD->Str}: ∀{c:zf},(∀d∈Zn c,wd d=wd' d)->supT wd c=supT wd' c:=by
 have key: ∀(n:Nat) (c:zf),sizC c<=n->(∀d∈Zn c,wd d=wd' d)->supT wd c=supT wd' c:=by
  intro n
  induction n with
  |zero=>intro c hc;have:=Qe c;omega
  |succ n ih=>
   intro c hc h;have hsz:=QD c;rw[QK]at h;obtain⟨k,nm,m,d,l⟩:=c;rw[supT,supT,bn,bn];simp only at h hsz;cases h7:k==7 with
   |true=>rw[h7,Da]at h;rw[h d (Ff _)];rfl
   |false=>
    rw[h7,Ba]at h;have hm:l.map (fun c=>bif Qk c then supT wd c else parW (supT wd c))=l.map (fun c=>bif Qk c then supT wd' c else parW (supT wd' c)):=
     He fun y hy=>by rw[ih y (by have:=Qx hy;omega) fun d hd=>h d (Pd.2 ⟨y,hy,hd⟩)]
    rw[hm];rfl
 intro c h;exact key _ c (Ua _) h
theorem M7{sep x:Str}: ∀{l:List Str},x∈l->x.length<=(jn sep l).length
 |[],h=>by cases h
 |y::r,h=>by
  rw[II,Ja];rcases Jb.1 h with rfl|h
  ·omega
  ·have: ∀r:List Str,x∈r->x.length<=(Lib.joinTail sep r).length:=by
    intro r
    induction r with
    |nil=>intro h;cases h
    |cons z t ih=>
     intro h;have e:Lib.joinTail sep (z::t)=(sep++z)++Lib.joinTail sep t:=rfl;rw[e,Ja,Ja];rcases Jb.1 h with rfl|h
     ·omega
     ·have:=ih h;omega
   have:=this r h;omega
theorem zJm{wd:zD->Str}: ∀{c:zf},lfC c=true-> ∀d∈Zn c,(wd d).length<=(supT wd c).length:=by
 have key: ∀(n:Nat) (c:zf),sizC c<=n->lfC c=true-> ∀d∈Zn c,(wd d).length<=(supT wd c).length:=by
  intro n
  induction n with
  |zero=>intro c hc;have:=Qe c;omega
  |succ n ih=>
   intro c hc hl d hd;have hsz:=QD c;rw[QK]at hd;rw[Np]at hl;obtain⟨k,nm,m,d0,l⟩:=c;rw[supT,bn];simp only at hd hsz hl;cases h7:k==7 with
   |true=>rw[h7,Da]at hd;rw[Gc.1 hd];simp only[Da,pF];omega
   |false=>
    rw[h7,Ba]at hd;obtain⟨y,hy,hd⟩:=Pd.1 hd;have hlf:(k==4||(k==5||(k==6||(k==7||k==8))))=false:=by
     cases e:(k==4||(k==5||(k==6||(k==7||k==8))))with
     |false=>rfl
     |true=>rw[e,Da,Uc]at hl;rw[hl]at hy;cases hy
    rw[hlf,Ba,Ca]at hl;have h8:(k==8)=false:=by
     cases e:k==8 with
     |false=>rfl
     |true=>rw[e]at hlf;simp at hlf
    have h1:=ih y (by have:=Qx hy;omega) (aa.1 hl.2 y hy) d hd;have h2:(supT wd y).length<=(bif Qk y then supT wd y else parW (supT wd y)).length:=by cases Qk y<;>simp only[Da,Ba,pF]<;>omega
    have hmem:(bif Qk y then supT wd y else parW (supT wd y))∈l.map (fun c=>bif Qk c then supT wd c else parW (supT wd c)):=Rb.2 ⟨y,hy,rfl⟩;have j1:=M7 (sep:=or4) hmem;have j2:=M7 (sep:=and5) hmem;cases h3:k==3 with
    |true=> rw[h3,Da]at hl;obtain⟨z,rfl⟩: ∃z,l=[z]:=df.1 (eq_of_beq hl.1);obtain rfl:=Gc.1 hy;simp only[h8,Ba,Da,Yb,ae,Jg,Ja];omega
    |false=>simp only[h8,Ba];cases k==2<;>simp only[Da,Ba]<;>omega
 intro c hl;exact key _ c (Ua _) hl
theorem zAC(n:Nat):decide ((n:Int)>4000)=decide (4000<n):=by rw[og];omega
theorem gG{c:zf}(hz:zx (zm c)<=big)(h:SmC c):Jm c=some (Nh c):=by
 unfold Jm Nh;simp only[Zd,PX hz,mY hz,ze,Aa];cases hm:Zu c with
 |true=>
  have hw:medT c=wrC wrD c:=(oP hm).symm;simp only[Td,Da,jf,Ba,Jd,zqu (BQ hm) h.n,Aa,zq,Va,zAC,hw];cases decide (4000<(wrC wrD c).length)<;>rfl
 |false=>
  cases hs:ZW c with
  |false=>rfl
  |true=>
   have hsc:=Sv hs;have hP:SupP c:=⟨hsc,h.n,h.d⟩;simp only[Jc,Da,jf,Ba,show((8:Int)==0)=false from rfl,zl8 hP,Aa,zq,Va,zAC];have hdP: ∀d∈Zn c,Dg d=true:=jR hsc;cases hl:(Zn c).any lgD with
   |true=>
    obtain⟨d,hd,hdl⟩:=List.any_eq_true.1 hl;have hw:4000<(wrD d).length:=by
     by_cases q:4000<(wrD d).length
     ·exact q
     ·unfold lgD Uo at hdl;rw[Ka (hdP d hd),Ia q]at hdl;cases hdl
    have:=zJm (wd:=wrD) (G6 hsc) d hd;rw[<-GD hsc]at this;rw[Ga (by omega:4000<(wrC wrD c).length)];rfl
   |false=>
    have e:supT wdP c=wrC wrD c:=by
     rw[GD hsc];refine zCT fun d hd=> ?_;have:=List.any_eq_false.1 hl d hd;unfold lgD Uo at this;unfold wdP Uo;rw[Ka (hdP d hd)]at this ⊢;by_cases q:4000<(wrD d).length
     ·rw[Ka q]at this;simp at this
     ·rw[Ia q]
    rw[e];simp only[Nf,Ba];cases decide (4000<(wrC wrD c).length)<;>rfl
theorem uY{c:zf}(h:zx (zm c)<=big):qY c=some (bif Zu c then 0 else 8):=by unfold qY;simp only[Zd,zoi h,ze,Aa];cases Zu c<;>rfl
theorem zEe(x:Int×List Bool):MC x=Gy x:=by
 unfold MC Gy;generalize w64 (w64 (x.1+1) - 1)=i;unfold geti;by_cases h:0<=i
 ·rw[Ga h,Cb,Da];by_cases h2:i<(x.2.length:Int)
  ·rw[Ga h2];rfl
  ·rw[Db h2,List.getElem?_eq_none (by omega)];rfl
 ·rw[Db h];rfl
theorem zEf:LC=Py:=by funext S x;unfold LC Py;simp only[zEe]
theorem zng(c:zf)(e:VEnv)(ys:List Bool):Fy ((c,e),ys)=Au (c,e,ys):=by unfold Fy Au Qh Q9;rw[zEf]
theorem FT{s:Str}(h1:(QZ s).2=0)(h2:(parS (QZ s).1).2=0):Nu s=some (parS (QZ s).1).1:=by unfold Nu parseF;simp only[KL,ze,Aa,h1,h2];rfl
def UD(c:zf):Bool:=decide (sizC c<=100)&&(Zn c).all fun d=>decide (d.name.length+szL d.value<=300)
theorem jS{c:zf}(h:UD c=true):SmC c:=by unfold UD at h;rw[Ca,aa]at h;exact⟨Ac h.1,fun d hd=>Ac (h.2 d hd)⟩
def okV(s:Str):Bool:=(QZ s).2==0&&((parS (QZ s).1).2==0&&decide (2*zL zo (parS (QZ s).1).1<=100000))
theorem zEF{s want:Str}{from_ to_:Int}(hv:okV s=true)(h:(let c:=lm (parS (QZ s).1).1;c.2==0&&(UD c.1&&(decide (zx (zm c.1)<=100000)&&(Nh c.1==(want,0)&&((List.range 30).all fun i=>ny c.1 (i:Int) []==((bif decide ((i:Int)>=from_)then decide ((i:Int)<=to_)else false),0))))))=true):
  UB (s,want,from_,to_)=some true:=by
 unfold okV at hv;simp only[Ca,Bb,Ab]at hv;obtain⟨v1,v2,v3⟩:=hv;simp only[Ca,Bb,Ab]at h;obtain⟨h1,h2,h3,h4,h5⟩:=h;unfold UB;simp only[FT v1 v2,ze,Aa,PR (x:=(parS (QZ s).1).1) (by unfold big;omega),Zd];generalize lm (parS (QZ s).1).1=c at*;have hz:zx (zm c.1)<=big:=by unfold big;omega
 simp only[gG hz (jS h2),Aa,h1,h4,jf,Ba,Jd,Va];refine(Dt 30 (fun i=>(i:Int)) () rfl (fun i hi=> ?_) rfl).trans rfl;have e:=eq_of_beq (aa.1 h5 i (Ad.2 hi));have d1:decide ((i:Int)<30)=true:=Ga (by omega);simp only[d1,Da,mM (e:=⟨(i:Int)⟩) (ys:=[]) hz (by decide),e,Aa,jf,Ba,Jd,Va];rw[Zp hi (by decide)]
theorem zwd{s want:Str}{all none_:Bool}(hv:okV s=true)(h:(let c:=supS (parS (QZ s).1).1;c.2==0&&(UD c.1&&(decide (zx (zm c.1)<=100000)&&(Nh c.1==(want,0)&&(ZW c.1&&((Zn c.1).length==1&&(ny c.1 0 [false]==(none_,0)&&ny c.1 0 [true]==(all,0))))))))=true):
  KC (s,want,all,none_)=some true:=by
 unfold okV at hv;simp only[Ca,Bb,Ab]at hv;obtain⟨v1,v2,v3⟩:=hv;simp only[Ca,Bb,Ab]at h;obtain⟨h1,h2,h3,h4,h5,h6,h7,h8⟩:=h;unfold KC;simp only[FT v1 v2,ze,Aa,nV (x:=(parS (QZ s).1).1) (by unfold big;omega),Zd];generalize supS (parS (QZ s).1).1=c at*;have hz:zx (zm c.1)<=big:=by unfold big;omega
 have hd:Ex c.1=some (Zn c.1,0):=by rw[zqr hz,h5];rfl
 have hr:List.replicate (((Zn c.1).length:Int)).toNat false=[false]:=by rw[h6];rfl
 have hn:(decide ((0:Int)<=((Zn c.1).length:Int))&&decide (((Zn c.1).length:Int)<=((Zn c.1).length:Int))&&decide (((Zn c.1).length:Int)*1<=140737488355328)&&decide (((Zn c.1).length:Int)<=9223372036854775807))=true:=by rw[h6];rfl
 simp only[gG hz (jS h2),Aa,h1,h4,hd,jf,Ba,Jd,Va,hn,zK,hr,zng,mM (e:=⟨0⟩) (ys:=[false]) hz (by decide),h7];refine(Dt 1 (fun i=>((i:Int),if i=0 then [false]else [true])) [true] rfl (fun i hi=> ?_) rfl).trans ?_
 ·obtain rfl:i=0:=by omega
  rfl
 ·simp only[mM (e:=⟨0⟩) (ys:=[true]) hz (by decide),h8,Aa,Jd,Da]
theorem Mq:rq ()=some true:=by unfold rq;rw[zEF (by decide+kernel) (by decide+kernel)];simp only[ze,Aa,zB];rw[zwd (by decide+kernel) (by decide+kernel)];rfl
end Go.Lv.VT
