/- Recursion and loops, by relations; what is monotone. -/
import Derived.Test.YtpodafkicdifmaaGreatDoorMo
import Derived.Test.YtpodafkicdifmaaGreatDoorLf
import Derived.Test.YtpodafkicdifmaaGreatDoorTx
import Derived.Test.YtpodafkicdifmaaGreatDoorIp
set_option linter.unusedSimpArgs false
set_option linter.unusedVariables false
namespace Go.Lv
theorem Le.lp{S X R:Type}{step step':S->Option (LO S X R)}{s:S}{k k':X->Option R}(h: ∀s,Le (step s) (step' s))(hk: ∀x,Le (k x) (k' x)):Le (zU step s k) (zU step' s k'):=by
 intro y hy;replace hy:((yg step s).bind fun x=>match x with| .out x=>k x| .ret r=>some r)=some y:=hy;cases hl:yg step s with
 |none=>rw[hl]at hy;cases hy
 |some r=>
  rw[hl]at hy;obtain⟨n,hn⟩:=LQ hl;rw[qD (oh (MC h n s r hn))];cases r with
  |out x=>exact hk x y hy
  |ret r=>exact hy
def dn{X Y:Type}(B:(X->Option Y)->X->Option Y):Prop:= ∀S S':X->Option Y,(∀x,Le (S x) (S' x))-> ∀x,Le (B S x) (B S' x)
theorem Vq {X Y:Type} {B:(X->Option Y)->X->Option Y} (hm:dn B) (μ:X->Nat) (ok:X->Prop) (R:X->Y->Prop)
  (hB: ∀(S:X->Option Y) (x:X),ok x->(∀z,ok z->μ z<μ x-> ∃y,S z=some y/\R z y)-> ∃y,B S x=some y/\R x y) {x:X} (hx:ok x): ∃y,recE B x=some y/\R x y:=by
 have step: ∀n x,Le (Uh B n x) (Uh B (n+1) x):=by
  intro n
  induction n with
  |zero=>intro x;exact Le.none
  |succ n ih=>intro x;exact hm _ _ ih x
 have up: ∀d n x,Le (Uh B n x) (Uh B (n+d) x):=by
  intro d
  induction d with
  |zero=>intro n x;exact Le.rfl
  |succ d ih=>intro n x y hy;exact step _ x y (ih n x y hy)
 have key: ∀(m:Nat) (x:X),μ x<m->ok x-> ∃y,Uh B m x=some y/\R x y:=by
  intro m
  induction m with
  |zero=>intro x h;omega
  |succ m ih=> intro x hm hok;exact hB _ x hok fun z hz hlt=>ih z (by omega) hz
 obtain⟨y,h1,h2⟩:=key (μ x+1) x (by omega) hx;refine⟨y,RO (N:=μ x+1) fun n hn=> ?_,h2⟩;obtain⟨d,rfl⟩:=Nat.le.dest hn;exact up d _ x y h1
theorem LC {A S X R:Type} {step:S->Option (LO S X R)} {k:X->Option R} (n:Nat) (st:Nat->A->S) (Inv:Nat->A->Prop) (Q:R->Prop) {s0:S} {a0:A} (h0:s0=st 0 a0) (hI:Inv 0 a0)
  (hg: ∀(i:Nat) (a:A),i<n->Inv i a->(∃a',step (st i a)=some (.again (st (i+1) a'))/\Inv (i+1) a')\/(∃r,step (st i a)=some (.ret r)/\Q r)\/(∃x,step (st i a)=some (.out x)/\ ∃r,k x=some r/\Q r))
  (hf: ∀a,Inv n a->(∃x,step (st n a)=some (.out x)/\ ∃r,k x=some r/\Q r)\/(∃r,step (st n a)=some (.ret r)/\Q r)): ∃r,zU step s0 k=some r/\Q r:=by
 have key: ∀(m i:Nat) (a:A),i+m=n->Inv i a-> ∃j x,Z6 step j (st i a)=some x/\ ∃r,LX.go x k=some r/\Q r:=by
  intro m
  induction m with
  |zero=>
   intro i a hi ha;obtain rfl:i=n:=by omega
   rcases hf a ha with⟨x,h1,r,h2,h3⟩|⟨r,h1,h2⟩
   ·exact⟨1, .out x,by simp only[Z6,h1],r,h2,h3⟩
   ·exact⟨1, .ret r,by simp only[Z6,h1],r,rfl,h2⟩
  |succ m ih=>
   intro i a hi ha;rcases hg i a (by omega) ha with⟨a',h1,h2⟩|⟨r,h1,h2⟩|⟨x,h1,r,h2,h3⟩
   ·obtain⟨j,x,g1,g2⟩:=ih (i+1) a' (by omega) h2;exact⟨j+1,x,by simp only[Z6,h1];exact g1,g2⟩
   ·exact⟨1, .ret r,by simp only[Z6,h1],r,rfl,h2⟩
   ·exact⟨1, .out x,by simp only[Z6,h1],r,h2,h3⟩
 obtain⟨j,x,h1,r,h2,h3⟩:=key n 0 a0 (by omega) hI;refine⟨r,?_,h3⟩;rw[h0,qD (oh h1),h2]
namespace VT
def mx{α:Type}(f:α->Nat):List α->Nat
 |[]=>0
 |v::l=>max (f v) (mx f l)
theorem nV{α:Type}{f:α->Nat}{v:α}: ∀{l:List α},v∈l->f v<=mx f l
 |[],h=>by cases h
 |x::l,h=>by
  rw[mx];rcases Kb.1 h with rfl|h
  ·omega
  ·have:=nV (f:=f) h;omega
theorem Ym {α S X R:Type} {step:S->Option (LO S X R)} {k:X->Option R} (l:List α) (f:α->Nat) (st:Nat->Nat->S) (out:Nat->X) {s0:S} {a0:Nat} (h0:s0=st a0 0)
  (hg: ∀(i a:Nat) (h:i<l.length),step (st a i)=some (.again (st (max a (f l[i])) (i+1))))
  (hf: ∀a:Nat,step (st a l.length)=some (.out (out a))):zU step s0 k=k (out (max a0 (mx f l))):=by
 have key: ∀(m:List α) (i a:Nat),l.drop i=m->i<=l.length-> ∃n,Z6 step n (st a i)=some (.out (out (max a (mx f m)))):=by
  intro m
  induction m with
  |nil=>
   intro i a hd hi;have:i=l.length:=by have:=Yc.1 hd;omega
   subst this;exact⟨1,by simp only[Z6,hf,mx];rw[Nat.max_zero]⟩
  |cons v m ih=>
   intro i a hd hi;have hlt:i<l.length:=by
    rcases Xd i l.length with h|h
    ·exact h
    ·rw[Jf h]at hd;cases hd
   have hv:l[i]=v:=by have:=ma hlt;rw[hd]at this;injection this with h1 _;exact h1.symm
   have hs:=hg i a hlt;rw[hv]at hs;obtain⟨n,hn⟩:=ih (i+1) (max a (f v)) (by rw[ma hlt]at hd;injection hd) (by omega);refine⟨n+1,?_⟩;simp only[Z6,hs];rw[hn,mx,Nat.max_assoc]
 obtain⟨n,hn⟩:=key l 0 a0 rfl (by omega);rw[h0,qD (oh hn)];rfl
theorem Ij(a b:Nat):(if(b:Int)>(a:Int)then(b:Int)else(a:Int))=((max a b:Nat):Int):=by split<;>omega
end VT
def Has{α:Type}(x:Option α)(Q:α->Prop):Prop:= ∃y,x=some y/\Q y
def LXq{X R:Type}(P:X->Prop)(Q:R->Prop):LX X R->Prop
 | .out x=>P x
 | .ret r=>Q r
def LOq{S X R:Type}(I:S->Prop)(P:X->Prop)(Q:R->Prop):LO S X R->Prop
 | .again s=>I s
 | .out x=>P x
 | .ret r=>Q r
section
variable {α β S X R:Type}
theorem Has.some{y:α}{Q:α->Prop}(h:Q y):Has (Option.some y) Q:=⟨y,rfl,h⟩
theorem Has.of{x:Option α}{y:α}{Q:α->Prop}(e:x=Option.some y)(h:Q y):Has x Q:=⟨y,e,h⟩
theorem Has.wk{x:Option α}{Q Q':α->Prop}(h:Has x Q)(g: ∀y,Q y->Q' y):Has x Q':=let⟨y,e,q⟩:=h;⟨y,e,g y q⟩
theorem Has.bind{x:Option α}{P:α->Prop}{f:α->Option β}{Q:β->Prop}(h:Has x P)(g: ∀y,P y->Has (f y) Q):Has (za x f) Q:=by obtain⟨y,rfl,p⟩:=h;exact g y p
theorem Has.eqb{x:Option α}{y:α}{f:α->Option β}{Q:β->Prop}(e:x=Option.some y)(g:Has (f y) Q):Has (za x f) Q:=by rw[e];exact g
theorem Has.bif{c:Bool}{a b:Option α}{Q:α->Prop}(h:c=true->Has a Q)(g:c=false->Has b Q):Has (bif c then a else b) Q:=by
 cases c
 ·exact g rfl
 ·exact h rfl
theorem Has.need{c:Bool}{a:Option α}{Q:α->Prop}(h:c=true)(g:Has a Q):Has (Lv.need c a) Q:=by rw[h];exact g
theorem Has.cond{c:Bool}{a:Option α}{d:α}{Q:α->Prop}(h:c=true->Has a Q)(g:c=false->Q d):Has (zD c a d) Q:=by
 cases c
 ·exact⟨d,rfl,g rfl⟩
 ·exact h rfl
theorem Has.join{m:Option (LX X R)}{k:X->Option R}{P:X->Prop}{Q:R->Prop}(h:Has m (LXq P Q))(g: ∀x,P x->Has (k x) Q):Has (Zh m k) Q:=by
 obtain⟨y,rfl,p⟩:=h;cases y with
 |out x=>exact g x p
 |ret r=>exact⟨r,rfl,p⟩
theorem Has.loop {step:S->Option (LO S X R)} {s:S} {k:X->Option R} (I:S->Prop) (μ:S->Nat) {P:X->Prop} {Q:R->Prop} (h0:I s)
  (h: ∀s,I s->Has (step s) (LOq (fun s'=>I s'/\μ s'<μ s) P Q)) (g: ∀x,P x->Has (k x) Q):Has (zU step s k) Q:=by
 have key: ∀(m:Nat) (s:S),μ s<m->I s-> ∃n r,Z6 step n s=Option.some r/\LXq P Q r:=by
  intro m
  induction m with
  |zero=>intro s h;omega
  |succ m ih=>
   intro s hm hs;obtain⟨y,e,q⟩:=h s hs;cases y with
   |again s'=> obtain⟨n,r,e',q'⟩:=ih s' (by have:=q.2;omega) q.1;exact⟨n+1,r,by simp only[Z6,e];exact e',q'⟩
   |out x=>exact⟨1, .out x,by simp only[Z6,e],q⟩
   |ret r=>exact⟨1, .ret r,by simp only[Z6,e],q⟩
 obtain⟨n,r,e,q⟩:=key _ s (jd _) h0;rw[qD (oh e)];cases r with
 |out x=>exact g x q
 |ret r=>exact⟨r,rfl,q⟩
end
end Go.Lv

namespace Go.Lv.VT
def Co(n:Nat):Nat:=if 65<=n/\n<=90 then n+32 else n
def Pm(b:UInt8):UInt8:=UInt8.ofNat (Co b.toNat)
theorem zGW{n:Nat}(h:n<256):Co n<256:=by unfold Co;split<;>omega
theorem zDz(b:UInt8):(Pm b).toNat=Co b.toNat:=by unfold Pm;rw[UInt8.toNat_ofNat'];exact jf (zGW (Tc b))
theorem zGu: ∀n:Nat,n<256->tu (n:Int)=some ((Co n:Nat):Int):=by decide+kernel
theorem zMl: ∀n:Nat,n<256->(bif decide (65<=(n:Int))then decide ((n:Int)<=90)else false)=true->QG (ibOr IntKind.u8 (n:Int) 32)=some (UInt8.ofNat (Co n)):=by decide+kernel
def lowS(l:Str):Str:=l.map Pm
theorem uH{α:Type}{l:List α}{i:Nat}(h:i<l.length)(f:α->α):((l.take i).map f++l.drop i).set i (f l[i])=(l.take (i+1)).map f++l.drop (i+1):=by
 apply List.ext_getElem
 ·simp;omega
 grind
theorem IX{α:Type}{l:List α}{i:Nat}(h:i<l.length)(f:α->α):((l.take i).map f++l.drop i)[i]? =some l[i]:=by
 grind
theorem eO{α:Type}{l:List α}{i:Nat}(h:i<=l.length)(f:α->α):((l.take i).map f++l.drop i).length=l.length:=by simp;omega
theorem zIC{α:Type}{l:List α}{i:Nat}(h:i<l.length)(f:α->α)(e:f l[i]=l[i]):(l.take i).map f++l.drop i=(l.take (i+1)).map f++l.drop (i+1):=by
 rw[<-uH h f,e];apply List.ext_getElem?
 grind
theorem EN(i:Nat):decide ((0:Int)<=(i:Int))=true:=Ga (by omega)
theorem Ky{l:Str}(h:l.length<=big):QC l=some (lowS l):=by
 unfold QC;rw[ZT (Ga (by unfold big at h;unfold maxLen;omega))];have d: ∀(k i:Nat),i+k=l.length-> ∃n,Z6 (X:=List UInt8) (R:=Str) (fun(a:Int×List UInt8)=>
   bif decide (a.1<(a.2.length:Int))then
    need (decide (0<=a.1)&&decide (a.1<(a.2.length:Int)))<|
    za a.2[a.1.toNat]? fun f=>
    za (tu (f.toNat:Int)) fun g=>
    need (decide (0<=a.1)&&decide (a.1<(a.2.length:Int)))<|
    za a.2[a.1.toNat]? fun p=>
    za (QG g) fun m=>
    some (LO.again (w64 (a.1+1),List.set a.2 a.1.toNat m))
   else
    some (LO.out a.2)) n ((i:Int),(l.take i).map Pm++l.drop i)=some (.out (lowS l)):=by
  intro k
  induction k with
  |zero=>
   intro i e;have e:i=l.length:=by omega
   subst e;refine⟨1,?_⟩;simp only[Z6,eO (Ta _),Ze,Ba];simp[lowS]
  |succ k o=>
   intro i e;have b:i<l.length:=by omega
   obtain⟨n,c⟩:=o (i+1) (by omega);refine⟨n+1,?_⟩;have j:=Tc l[i];simp only[Z6,eO (Nat.le_of_lt b),Zb b,Ca,EN,Sb,ZX,Ib,IX b,za,Aa,zGu _ j];rw[<-zDz,zHz,zK b h];simp only[Aa,uH b];exact c
 obtain⟨n,c⟩:=d l.length 0 (by omega);replace c:=oh c;simp only[List.take_zero,List.map_nil,Bc,List.drop_zero]at c;exact(qD c).trans rfl
theorem xq{l:Str}(h:l.length<=big):ZN l=some (lowS l):=by
 unfold ZN;rw[ZT (Ga (by unfold big at h;unfold maxLen;omega))];have d: ∀(k i:Nat),i+k=l.length-> ∃n,Z6 (X:=List UInt8) (R:=Str) (fun(a:Int×List UInt8)=>
   bif decide (a.1<(l.length:Int))then
    Zh (X:=Int×List UInt8) (
      need (decide (0<=a.1)&&decide (a.1<(a.2.length:Int)))<|
      za a.2[a.1.toNat]? fun j=>
      bif bif decide (65<=(j.toNat:Int))then decide ((j.toNat:Int)<=90)else false then
       need (decide (0<=a.1)&&decide (a.1<(a.2.length:Int)))<|
       za a.2[a.1.toNat]? fun o=>
       need (decide (0<=a.1)&&decide (a.1<(a.2.length:Int)))<|
       za a.2[a.1.toNat]? fun t=>
       za (QG (ibOr IntKind.u8 (o.toNat:Int) 32)) fun q=>
       some (LX.out (a.1,List.set a.2 a.1.toNat q))
      else
       some (LX.out (a.1,a.2))) fun m=>
    some (LO.again (w64 (m.1+1),m.2))
   else
    some (LO.out a.2)) n ((i:Int),(l.take i).map Pm++l.drop i)=some (.out (lowS l)):=by
  intro k
  induction k with
  |zero=>
   intro i f;have f:i=l.length:=by omega
   subst f;refine⟨1,?_⟩;simp only[Z6,Ze,Ba];simp[lowS]
  |succ k r=>
   intro i f;have b:i<l.length:=by omega
   obtain⟨n,c⟩:=r (i+1) (by omega);refine⟨n+1,?_⟩;have p:=Tc l[i];simp only[Z6,eO (Nat.le_of_lt b),Zb b,Ca,EN,Sb,ZX,Ib,IX b,za,Aa];cases g:(bif decide (65<=(l[i].toNat:Int))then decide ((l[i].toNat:Int)<=90)else false)with
   |true=> have e:=zMl _ p g;simp only[e,Ca,Aa,zH,zK b h];rw[show UInt8.ofNat (Co l[i].toNat)=Pm l[i]from rfl,uH b];exact c
   |false=>
    have e:Pm l[i]=l[i]:=by unfold Pm Co;rw[Ha,Xf];rintro⟨s,u⟩;rw[Ga (by omega),Ca,Ga (by omega)]at g;cases g
    simp only[Ba,zH,zK b h];rw[zIC b Pm e];exact c
 obtain⟨n,c⟩:=d l.length 0 (by omega);replace c:=oh c;simp only[List.take_zero,List.map_nil,Bc,List.drop_zero]at c;exact(qD c).trans rfl
def Qj(l:Str):Bool:=l.all fun b=> !(b==0)
theorem vN(c:UInt8): ∀l:Str,decide (Lib.indexByte l c>=0)=l.any fun b=>b==c
 |[]=>rfl
 |b::l=>by
  have d:=vN c l;have a:=Lib.indexByte_ge l c;rw[Pf,Lib.indexByte]
  grind
theorem zK3(l:Str):(l.any fun b=>b==0)= !Qj l:=by
 unfold Qj
 grind
theorem Mv(l:Str)(n:Int):strings_IndexByte (l,n)=some (Lib.indexByte l n.toNat.toUInt8):=rfl
theorem ow(l:Str):decide (Lib.indexByte l (0:Int).toNat.toUInt8>=0)= !Qj l:=(vN 0 l).trans (zK3 l)
def og(l:Str):Bool:= !(l==[])&&(decide (l.length<=64)&&Qj l)
theorem Xg(n m:Nat):decide ((n:Int)>(m:Int))= !decide (n<=m):=by
 grind
theorem byte_zero(b:UInt8):((b.toNat:Int)==0)=(b==0):=by
 by_cases h:b=0
 ·subst h;rfl
 ·have a:b.toNat≠0:=fun e=>h (Mf.1 e)
  grind
def Ll(l:Str):Bool:=og l&&lowS l==l
theorem JD(a b:Str):(a==b)=(b==a):=by
 grind
theorem gp(n m:Nat):decide ((n:Int)<=(m:Int))=decide (n<=m):=by
 grind
theorem xy{α:Type}(l:List α):decide ((l.length:Int)<1)=l.isEmpty:=by
 cases l with
 |nil=>rfl
 |cons a l=>grind
theorem Dl{f:Option Int}{p:Bool}{i:Int}(h:f=some i)(a:decide (i>=0)=p):(za f fun y=>some (decide (y>=0)))=some p:=by
 grind
def Mg(l:List Str):Bool:= !l.isEmpty&&(decide (l.length<=16)&&l.all og)
theorem Pq{α:Type}(p:α->Bool)(l:List α):(l.any fun v=> !p v)= !l.all p:=by
 grind
theorem Tp(l m:Str):strings_HasPrefix (l,m)=some (m.isPrefixOf l):=by
 have a: ∀m l:Str,m.isPrefixOf l=(decide (m.length<=l.length)&&l.take m.length==m):=by
  intro m l;rw[Xe];simp only[af,Ea,ja,Cb];constructor
  ·rintro⟨t,rfl⟩
   grind
  ·grind
 unfold strings_HasPrefix stringslite_HasPrefix;simp_all
theorem F6(l m:Str):strings_TrimPrefix (l,m)=some (bif m.isPrefixOf l then l.drop m.length else l):=by
 have h:stringslite_HasPrefix (l,m)=some (m.isPrefixOf l):=by
  have:=Tp l m;unfold strings_HasPrefix at this;cases hh:stringslite_HasPrefix (l,m)with
  |none=>grind
  |some b=>grind
 unfold strings_TrimPrefix stringslite_TrimPrefix;simp only[h,za,Aa];cases hp:m.isPrefixOf l with
 |false=>rfl
 |true=> have hl:=(af.1 hp).length_le;simp_all
theorem oo{a b:Str}(c:a.length<=big)(h2:b.length<=big):QB (a,b)=some (lowS a==lowS b):=by unfold QB;simp only[xq c,xq h2,za,Aa]
theorem zGr{a b:Str}(c:a.length<=big)(h2:b.length<=big):ul (a,b)=some (lowS a==lowS b):=by unfold ul;simp only[Ky c,Ky h2,za,Aa]
def Jo(n:Nat):Bool:=
 !(n==0||n==9||n==10||n==12||n==13||n==32||n==34||n==39||n==40||n==41||n==44||n==58||n==59||n==91||n==93||n==95||n==123||n==125)&&
  (decide (n<128)&& !((decide (48<=n)&&decide (n<=57))||(decide (65<=n)&&decide (n<=90))||(decide (97<=n)&&decide (n<=122))))
set_option maxRecDepth 100000 in
theorem zKq: ∀n:Nat,n<256-> @QD fuK (n:Int)=some (Jo n):=by decide+kernel
def gB:Prop:= ∀b:UInt8,QD (b.toNat:Int)=some (Jo b.toNat)
theorem ztW:gB:=fun b=>
 ztn _ _ (zKq _ (Tc b))
def digN(n:Nat):Bool:=decide (48<=n)&&decide (n<=57)
theorem zA0: ∀n:Nat,n<256->Qc (n:Int)=some (digN n):=by decide+kernel
theorem tO(b:UInt8):Qc (b.toNat:Int)=some (digN b.toNat):=(zA0 _ (Tc b))
theorem X3: ∀n:Nat,n<256->ku (n:Int)=some (digN n):=by decide+kernel
theorem A7(b:UInt8):ku (b.toNat:Int)=some (digN b.toNat):=(X3 _ (Tc b))
def namN(n:Nat):Bool:=digN n||(decide (65<=n)&&decide (n<=90))||(decide (97<=n)&&decide (n<=122))||n==95||n==45||decide (128<=n)
theorem U3: ∀n:Nat,n<256->eD (n:Int)=some (namN n):=by decide+kernel
theorem l6(b:UInt8):eD (b.toNat:Int)=some (namN b.toNat):=(U3 _ (Tc b))
def Hm:Str->Bool
 |[]=>false
 |b::r=>digN b.toNat||(b==45&&(r==[]||digN (r.headD 0).toNat))
theorem iB(b c:UInt8):((b.toNat:Int)==(c.toNat:Int))=(b==c):=by
 by_cases h:b=c
 ·subst h;simp
 ·have h2:b.toNat≠c.toNat:=fun e=>h (Mf.1 e);rw[Da.2 h,Da.2 (by omega)]
theorem zKe(b:UInt8):((b.toNat:Int)==45)=(b==45):=iB b 45
theorem K5(l:Str):YD l=some (Hm l):=by
 unfold YD;cases l with
 |nil=>rfl
 |cons b r=>
  have h0:geti (b::r) 0=some b:=rfl;have hn:(b::r==([]:Str))=false:=rfl;simp only[hn,Ba,h0,za,Aa,tO,zQ,zKe];cases r with
  |nil=>
   have e:(([b]:Str)==[45])=(b==45):=by show((b==45)&&true)=_;rw[Sb]
   simp only[e];unfold Hm;cases hb:(b==45)with
   |false=>cases h2:digN b.toNat<;>simp[hb,zD,h2]
   |true=>cases h2:digN b.toNat<;>simp[hb,zD,h2]
  |cons d r=>
   have h1:geti (b::d::r) 1=some d:=rfl;have e:((b::d::r:Str)==[45])=false:=by show((b==45)&&false)=_;rw[Jc]
   simp only[h1,e,zQ,Aa,tO,Hm,List.headD_cons];cases hb:(b==45)<;>cases h2:digN b.toNat<;>simp[hb]
def numS:Str->Bool
 |[]=>false
 |b::r=>bif b==45 then !(r==[])&&digN (r.headD 0).toNat else digN b.toNat
theorem zrf(l:Str):YE l=some (numS l):=by
 unfold YE;simp only[F6,za,Aa];have key: ∀m:Str,((zD (!(m==[])) (geti m 0) 0).bind fun y2=>(zD (!(m==[])) (ku (y2.toNat:Int)) (default:Bool)).bind fun y3=>some (bif !(m==[])then y3 else false))=some (!(m==[])&&digN (m.headD 0).toNat):=by
  intro m;cases m with
  |nil=>rfl
  |cons b r=> have h0:geti (b::r) 0=some b:=rfl;have hn:(b::r==([]:Str))=false:=rfl;simp only[hn,Xa,Zd,h0,Aa,A7,Ca,List.headD_cons,Ya]
 rw[key];cases l with
 |nil=>rfl
 |cons b r=>
  have e:List.isPrefixOf [45] (b::r)=(b==45):=by
   show((45==b)&&true)=_;rw[Sb];cases hb:(b==45)with
   |true=>rw[Cb]at hb;subst hb;rfl
   |false=>rw[Da]at hb;exact Da.2 (Ne.symm hb)
  rw[e];show _=some (bif b==45 then !(r==[])&&digN (r.headD 0).toNat else digN b.toNat);cases b==45<;>rfl
theorem zIK(l:Str):((numS l&& !(List.isPrefixOf [45,45] l))||l==[45])=Hm l:=by
 cases l with
 |nil=>rfl
 |cons b r=>
  cases hb:(b==45)with
  |false=>
   have e1:List.isPrefixOf [45,45] (b::r)=false:=by show((45==b)&&_)=_;rw[Da]at hb;rw[Da.2 (Ne.symm hb)];rfl
   have e2:((b::r:Str)==[45])=false:=by show((b==45)&&_)=_;rw[hb];rfl
   rw[e1,e2];unfold numS Hm;simp[hb]
  |true=>
   rw[Cb]at hb;subst hb;cases r with
   |nil=>rfl
   |cons d r=>
    have e2:((45::d::r:Str)==[45])=false:=rfl;rw[e2];unfold numS Hm;have e1:List.isPrefixOf [45,45] (45::d::r)=(45==d):=by show((45==(45:UInt8))&&((45==d)&&true))=_;rw[Sb];rfl
    rw[e1];simp only[List.headD_cons];have hd:digN 45=false:=by decide
    cases h:(45==d)with
    |false=>simp[hd]
    |true=>rw[Cb]at h;subst h;rfl
def delS(l:Str):Bool:=match l with
 |[b]=>Jo b.toNat
 |_=>false
def rngS(x:zf):Bool:=decide (-1000000000000<=x.num)&&(decide (x.num<=1000000000000)&&(!x.flag||Int.tmod x.num 1000==0))
def bv(x:zf):Bool:=
 bif x.kind==1||x.kind==2||x.kind==3 then !(x.text==[])&&(Qj x.text&&(x.num==0&&(x.unit==[]&& !x.flag)))
 else bif x.kind==4 then !(x.text==[])&&(Qj x.text&&((x.flag||Hm x.text)&&(x.num==0&&x.unit==[])))
 else bif x.kind==5||x.kind==7 then Qj x.text&&(x.num==0&&(x.unit==[]&& !x.flag))
 else bif x.kind==9 then delS x.text&&(x.num==0&&(x.unit==[]&& !x.flag))
 else bif x.kind==10||x.kind==11||x.kind==12 then rngS x&&((!(x.unit==[])==(x.kind==12))&&(Qj x.unit&&((!(x.kind==11)|| !x.flag)&&x.text==[])))
 else(decide (13<=x.kind)&&decide (x.kind<=24))&&(x.text==[]&&(x.num==0&&(x.unit==[]&& !x.flag)))
theorem TS{l:Str}(h:l.length<=big):Kr l=some (Qj l):=by
 unfold Kr;refine(qc l (fun b=>bif (!(b==0))then none else some false) () (fun i a=> ?_) ?_).trans ?_
 ·simp only[Zb a,Ca,zN a,za,Aa,byte_zero,zK a h]
  grind
 ·grind
 ·rw[Ci];show _=some (Qj l);unfold Qj
  grind
theorem one_byte(l:Str)(p:Nat->Bool)(d:Bool)(f:Int->Option Bool)(hf: ∀b:UInt8,f (b.toNat:Int)=some (p b.toNat))(g:Bool):
  ((zD (g&&(l.length:Int)==1) (geti l 0) (0:UInt8)).bind fun y=>zD (g&&(l.length:Int)==1) (f (y.toNat:Int)) d)=some (bif g&&(l.length:Int)==1 then(match l with|[b]=>p b.toNat|_=>false)else d):=by
 cases g with
 |false=>rfl
 |true=>
  cases l with
  |nil=>rfl
  |cons b r=>
   cases r with
   |nil=> show((geti [b] 0).bind fun y=>f (y.toNat:Int))=some (p b.toNat);rw[show geti [b] 0=some b from rfl];exact hf b
   |cons c r=> have:(((b::c::r).length:Int)==1)=false:=Da.2 (by grind);rw[this];rfl
theorem zCS(a:gB)(l:Str)(g:Bool):((zD (g&&(l.length:Int)==1) (geti l 0) (0:UInt8)).bind fun y=>zD (g&&(l.length:Int)==1) (QD (y.toNat:Int)) (default:Bool))=some (bif g&&(l.length:Int)==1 then delS l else default):=
 one_byte l Jo default QD a g
theorem zHZ(l:Str):(((l.length:Int)==1)&&delS l)=delS l:=by
 cases l with
 |nil=>rfl
 |cons b r=>
  cases r with
  |nil=>rfl
  |cons c r=> have:(((b::c::r).length:Int)==1)=false:=Da.2 (by grind);rw[this];rfl
theorem J5(C:gB){x:zf}(v:x.text.length<=big)(h2:x.unit.length<=big):XD x=some (bv x):=by
 have n:=zCS C x.text true;simp only[Ya]at n;have q:((zD ((x.text.length:Int)==1) (geti x.text 0) (0:UInt8)).bind fun o=>(zD ((x.text.length:Int)==1) (QD (o.toNat:Int)) (default:Bool)).bind fun D=>some (bif bif (x.text.length:Int)==1 then D else false then x.kind==x.kind&&(([]:Str)==[]&&(x.num==0&&(x.unit==[]&&(x.flag==false&&true))))else false))=some (delS x.text&&(x.num==0&&(x.unit==[]&& !x.flag))):=by
  have e: ∀(k:Bool->Option Bool),((zD ((x.text.length:Int)==1) (geti x.text 0) (0:UInt8)).bind fun o=>(zD ((x.text.length:Int)==1) (QD (o.toNat:Int)) (default:Bool)).bind k)=(((zD ((x.text.length:Int)==1) (geti x.text 0) (0:UInt8)).bind fun y=>zD ((x.text.length:Int)==1) (QD (y.toNat:Int)) (default:Bool))).bind k:=by intro k;rw[Option.bind_assoc]
  rw[e,n,Aa,<-zHZ x.text];simp only[Vd];cases (x.text.length:Int)==1<;>cases delS x.text<;>cases x.flag<;>rfl
 unfold XD;simp only[za,TS v,TS h2,K5,zQ,Aa,ge_iff_le];unfold bv rngS;by_cases B:x.kind=9
 ·simp_all
 clear n q;have E:=Da.2 B;generalize delS x.text=J;generalize Qj x.text=p;generalize Qj x.unit=M;generalize Hm x.text=H;generalize c:(x.text==[])=i;generalize d:(x.unit==[])=j;generalize a:(x.num==0)=m;generalize b:x.flag=l;generalize decide (-1000000000000<=x.num)=N;generalize decide (x.num<=1000000000000)=L;generalize (Int.tmod x.num 1000==0)=z;by_cases r:x.kind=1
 ·simp only[r,zH,Ca,Ba,c,d,a,b,Int.reduceBEq];cases p<;>cases i<;>cases j<;>cases m<;>cases l<;>rfl
 by_cases s:x.kind=2
 ·simp only[s,zH,Ca,Ba,c,d,a,b,Int.reduceBEq];cases p<;>cases i<;>cases j<;>cases m<;>cases l<;>rfl
 by_cases t:x.kind=3
 ·simp only[t,zH,Ca,Ba,c,d,a,b,Int.reduceBEq];cases p<;>cases i<;>cases j<;>cases m<;>cases l<;>rfl
 by_cases u:x.kind=4
 ·simp only[u,zH,Ca,Ba,c,d,a,b,Int.reduceBEq]
  grind
 by_cases G:x.kind=5
 ·simp_all
 by_cases F:x.kind=7
 ·simp_all
 by_cases g:x.kind=10
 ·simp only[g,zH,Ca,Ba,c,d,a,b,Int.reduceBEq]
  grind
 by_cases h:x.kind=11
 ·simp only[h,zH,Ca,Ba,c,d,a,b,Int.reduceBEq]
  grind
 by_cases f:x.kind=12
 ·simp only[f,zH,Ca,Ba,c,d,a,b,Int.reduceBEq]
  grind
 simp only[E,Da.2 r,Da.2 s,Da.2 t,Da.2 u,Da.2 G,Da.2 F,Da.2 g,Da.2 h,Da.2 f,zH,Ca,Ba,c,d,a,b,Vd,Jg];by_cases w:x.kind=6
 ·simp_all
 by_cases A:x.kind=8
 ·simp_all
 simp only[Da.2 w,Da.2 A,zH,Ca,Ba];have e:(decide (1<=x.kind)&&decide (x.kind<=24))=(decide (13<=x.kind)&&decide (x.kind<=24)):=by
  by_cases K:13<=x.kind
  ·grind
  ·grind
 rw[<-e];cases decide (1<=x.kind)<;>cases decide (x.kind<=24)<;>cases i<;>cases j<;>cases m<;>cases l<;>rfl
abbrev Rw:Str:=[32,9,10,12,13,34,39,58,59,44,91,93,40,41,123,125]
theorem TJ: ∀(m:Str) (c:UInt8),Lib.index m [c]=Lib.indexByte m c
 |[],c=>rfl
 |b::l,c=>by
  have h:List.isPrefixOf [c] (b::l)=(b==c):=by
   show(c==b&&List.isPrefixOf [] l)=_;rw[List.isPrefixOf,Sb];by_cases e:b=c
   ·subst e;rfl
   ·grind
  rw[Lib.index,Lib.indexByte,h,TJ l c]
theorem contains_one(m:Str)(c:UInt8)(a:short m=true:=by decide):strings_Contains (m,[c])=some (m.any fun b=>b==c):=by unfold strings_Contains;simp only[Km,a,ZX,za,Aa,TJ,vN]
theorem ztk(c:UInt8):strings_Contains ([32,9,10,12,13,34,39,58,59,44,91,93,40,41,123,125],[c])=some (Rw.any fun b=>b==c):=contains_one Rw c
theorem zCR: ∀n:Nat,n<256->((bif bif !(UInt8.ofNat n==0)then !namN n else false then true else UInt8.ofNat n==45)&&(!(Rw.any fun b=>b==UInt8.ofNat n)))=Jo n:=by decide+kernel
theorem zH0(b:UInt8):((bif bif !(b==0)then !namN b.toNat else false then true else b==45)&&(!(Rw.any fun c=>c==b)))=Jo b.toNat:=by have:=zCR b.toNat (Tc b);simp_all
theorem I4(a b:Str):Qj (a++b)=(Qj a&&Qj b):=by unfold Qj;grind
theorem EX(n:Int):decide (n<0)= !decide (n>=0):=by
 grind
theorem zMr(g d:Bool)(b c:UInt8):(bif g then namN (bif g then b else c).toNat else d)=bif g then namN b.toNat else d:=by cases g<;>rfl
theorem V3{x:zf}(h1:x.text.length<=big)(h2:x.unit.length<=big):TD x=some (bv x):=by
 unfold TD;rw[ZT (yx.2 (by grind))];simp only[za,Mv,Aa];have hn:decide (Lib.indexByte (x.text++x.unit) (0:Int).toNat.toUInt8<0)=(Qj x.text&&Qj x.unit):=by rw[EX,ow,I4,Cf]
 simp only[hn,zrf,Tp,zQ,Aa,ge_iff_le,bne];have hb:=zIK x.text;unfold bv rngS;by_cases k9:x.kind=9
 ·simp only[k9,Int.reduceBEq,Ca,Ba,zH,Sd,ic];cases ht:x.text with
  |nil=>
   have:Qj ([]:Str)=true:=rfl;simp only[this,Ya];cases Qj x.unit<;>rfl
  |cons b r=>
   cases r with
   |nil=>
    have hd:=zH0 b;have e1:((([b]:Str).length:Int)==1)=true:=rfl;have e2:geti [b] 0=some b:=rfl;have e3:(([b]:Str)==[45])=(b==45):=by show((b==45)&&true)=_;rw[Sb]
    have e4:Qj [b]= !(b==0):=by show((!(b==0))&&true)=_;rw[Sb]
    have e5:delS [b]=Jo b.toNat:=rfl;simp only[e1,e2,e3,e4,e5,ztk,l6,zQ,Aa,zMr,<-hd];cases hu:x.unit with
    |nil=>
     have:Qj ([]:Str)=true:=rfl;simp only[this,Sb];generalize (Rw.any fun c=>c==b)=a1;cases namN b.toNat<;>cases (b==0)<;>cases (b==45)<;>cases a1<;>cases (x.num==0)<;>cases x.flag<;>rfl
    |cons c s=> simp_all
   |cons c r=>
    have e1:(((b::c::r:Str).length:Int)==1)=false:=Da.2 (by grind);have e3:((b::c::r:Str)==[45])=false:=by show((b==45)&&false)=_;rw[Jc]
    have e5:delS (b::c::r)=false:=rfl;simp only[e1,e3,e5];simp_all
 have b9:=Da.2 k9;have hu:(x.unit==[])=true->Qj x.unit=true:=fun h=>by rw[Cb]at h;rw[h];rfl
 have htx:(x.text==[])=true->Qj x.text=true:=fun h=>by rw[Cb]at h;rw[h];rfl
 rw[<-hb];generalize hl45:(x.text==[45])=a11 at*;generalize (List.isPrefixOf [45,45] x.text)=a12 at*;generalize numS x.text=a3 at*;generalize Qj x.text=a1 at*;generalize Qj x.unit=a2 at*;generalize (x.text==[])=a4 at*;generalize (x.unit==[])=a5 at*;generalize (x.num==0)=a6 at*;generalize x.flag=a7 at*;generalize decide (-1000000000000<=x.num)=a8 at*;generalize decide (x.num<=1000000000000)=a9 at*;generalize (Int.tmod x.num 1000==0)=a10 at*;clear hb hn hl45;have K: ∀k:Int,k∈[1,2,3,4,5,7,10,11,12]->x.kind=k->True:=fun _ _ _=>trivial;clear K;by_cases k1:x.kind=1
 ·simp only[k1,zH,Ca,Ba,Int.reduceBEq]
  grind
 by_cases k2:x.kind=2
 ·simp only[k2,zH,Ca,Ba,Int.reduceBEq]
  grind
 by_cases k3:x.kind=3
 ·simp only[k3,zH,Ca,Ba,Int.reduceBEq]
  grind
 by_cases k4:x.kind=4
 ·simp only[k4,zH,Ca,Ba,Int.reduceBEq]
  grind
 by_cases k5:x.kind=5
 ·simp only[k5,zH,Ca,Ba,Int.reduceBEq]
  grind
 by_cases k7:x.kind=7
 ·simp only[k7,zH,Ca,Ba,Int.reduceBEq]
  grind
 by_cases k10:x.kind=10
 ·simp only[k10,zH,Ca,Ba,Int.reduceBEq]
  grind
 by_cases k11:x.kind=11
 ·simp only[k11,zH,Ca,Ba,Int.reduceBEq]
  grind
 by_cases k12:x.kind=12
 ·simp only[k12,zH,Ca,Ba,Int.reduceBEq]
  grind
 simp only[b9,Da.2 k1,Da.2 k2,Da.2 k3,Da.2 k4,Da.2 k5,Da.2 k7,Da.2 k10,Da.2 k11,Da.2 k12,zH,Ca,Ba,Jg];cases decide (13<=x.kind)<;>cases decide (x.kind<=24)<;>cases a4<;>cases a5<;>cases a6<;>cases a7<;>rfl
theorem gy {R:Type} {step:Int->Option (LO Int Unit R)} {k:Unit->Option R} (n:Nat) (p:Nat->Bool) (r:R)
  (c: ∀(i:Nat),i<n->step (i:Int)=some (bif p i then .again ((i+1:Nat):Int)else .ret r)) (a:step (n:Int)=some (.out ())):
  zU step 0 k=bif (List.range n).all p then k ()else some r:=by
 have e:=qc (k:=k) (List.range n) (fun i=>bif p i then none else some r) () (fun i b=> ?_) (by simpa using a)
 ·rw[e,Ci]
  grind
 grind
def mr:List zf->Bool
 |[]=>false
 |s::r=>bif s.kind==13 then(match r with|u::_=>u.kind==5|[]=>false)else s.kind==5
def dH:List zf->Bool
 |[]=>false
 |s::_=>s.kind==13
def Cw(t:zf):Bool:=t.kind==2&&lowS t.text==[117,114,108]
def okAt:List zf->Bool
 |[]=>true
 |t::r=>(!(t.kind==9&&t.text==[92])||dH r)&&(!(Cw t)||mr r)
def KA(l:List zf)(i:Nat):Bool:=bv (l.getD i default)&&okAt (l.drop i)
def gluS(l:List zf):Int:=bif decide (l.length<=1500)then(bif (List.range l.length).all (KA l)then 0 else 8)else 4
theorem WO(l:List zf)(i:Nat)(k:Int):Jp (((i:Int),k),l)=some (match l[i]? with|some t=>t.kind==k|none=>false):=by
 unfold Jp;by_cases h:i<l.length
 ·simp only[Zb h,Zd,zN h,za,Aa,Ca,Va h]
 ·have e:decide ((i:Int)<(l.length:Int))=false:=Ua (by omega);simp only[e,ZM,za,Aa,Ba,Tg (Nat.le_of_not_lt h)]
theorem iO:lowS [117,114,108]=[117,114,108]:=by decide
theorem Y6{t:zf}{r:List zf}(h:t.text.length<=big): ∃n:Int,dD (t::r)=some n/\(n==0)= !okAt (t::r):=by
 have e0:geti (t::r) 0=some t:=rfl;have p1:=WO (t::r) 1 13;have p15:=WO (t::r) 1 5;have p25:=WO (t::r) 2 5;unfold dD;simp only[e0,za,Aa,oo h (show([117,114,108]:Str).length<=big by decide),iO,zQ];simp only[Int.natCast_one]at p1 p15;replace p25:Jp ((2,5),t::r)=_:=p25;rw[p1];unfold okAt Cw;cases hd:(t.kind==9&&t.text==[92])with
 |true=>
  have hk:t.kind=9:=by rw[Ea,Cb]at hd;exact hd.1
  have ht:(t.text==[92])=true:=by rw[Ea]at hd;exact hd.2
  simp only[hk,ht,Int.reduceBEq,Ca,Ba,Aa];cases r with
  |nil=>exact⟨_,rfl,rfl⟩
  |cons s r=>
   show∃n:Int,(bif !(s.kind==13)then some 0 else some 2)=some n/\(n==0)= !((!true||s.kind==13)&&_);cases s.kind==13
   ·simp_all
   simp_all
 |false=>
  have hc:(bif t.kind==9 then t.text==[92]else false)=false:=by
   cases h9:t.kind==9
   ·rfl
   ·grind
  simp only[hc,hd,Ba,Xa,Lf,Ya];cases hu:(t.kind==2&&lowS t.text==[117,114,108])with
  |false=>
   have:(bif t.kind==2 then bif t.kind==2 then lowS t.text==[117,114,108]else default else false)=false:=by
    cases h2:t.kind==2
    ·rfl
    ·grind
   rw[this]
   grind
  |true=>
   rw[Ea]at hu;rw[hu.1,hu.2];simp only[Ca,Aa];cases r with
   |nil=>exact⟨0,by simp[p15],rfl⟩
   |cons s r=>
    cases hs:s.kind==13 with
    |false=>
     have e1:(match(t::s::r)[1]? with|some t=>t.kind==13|none=>false)=false:=hs;have e5:Jp ((1,5),t::s::r)=some (s.kind==5):=p15;simp only[e1,Ba,zH,e5,Aa,mr,hs];cases s.kind==5
     ·grind
     ·exact⟨2,by rfl,rfl⟩
    |true=>
     have e1:(match(t::s::r)[1]? with|some t=>t.kind==13|none=>false)=true:=hs;simp only[e1,Ca,zH,p25,Aa,mr,hs];cases r with
     |nil=>grind
     |cons u r=>
      show∃n:Int,(bif !(u.kind==5)then some 0 else some (w64 (2+1)))=some n/\(n==0)= !(!true||u.kind==5);cases u.kind==5
      ·grind
      ·exact⟨3,rfl,rfl⟩
theorem NQ(l:List zf):decide ((l.length:Int)>1500)= !decide (l.length<=1500):=Xg _ 1500
theorem D7{l:List zf}(h: ∀t∈l,t.text.length<=big/\t.unit.length<=big):Sy l=some (gluS l):=by
 unfold Sy gluS;rw[NQ];cases e:decide (l.length<=1500)with
 |false=>rfl
 |true=>
  have e:=Fb e;simp only[aa,Ba,Ca];refine(gy l.length (KA l) 8 (fun i a=> ?_) ?_).trans ?_
  ·obtain⟨d,j⟩:=h _ (Ja a);have b:l.getD i default=l[i]:=by simp[a]
   have c:=ma a;obtain⟨n,f,k⟩:=Y6 (t:=l[i]) (r:=l.drop (i+1)) d;rw[<-c]at f k;have g:decide ((i:Int)<=(l.length:Int))=true:=Ga (by omega);unfold KA;simp only[Zb a,Ca,zN a,za,Aa,V3 d j,EN,g,Ya,Lf,ZX,Ib,f,zQ,zK a (show l.length<=big by unfold big;omega),b]
   grind
  ·grind
  grind
theorem MJ{α:Type}{l:List α}{i:Nat}{s:α}{r:List α}(h:l.drop i=s::r):i<l.length/\geti l (i:Int)=some s/\l.drop (i+1)=r:=by
 have a:i<l.length:=by
  rcases Xd i l.length with b|b
  ·exact b
  ·rw[Jf b]at h;cases h
 rw[ma a]at h;injection h with d c;exact⟨a,by rw[zN a,d],c⟩
theorem LJ{α:Type}{l:List α}{i:Nat}(h:l.drop i=[])(hi:i<=l.length):i=l.length:=by have:=Yc.1 h;omega
theorem gH(n m:Int):decide (n>=m)= !decide (n<m):=by
 grind
theorem zJl{l:List zf}{i:Nat}(hi:i<l.length)(v:l.length<=1500):
  Zh (X:=Int) (R:=LX Unit (LO Int Unit Int)) (za (zD (decide (((i+1:Nat):Int)<(l.length:Int))) (geti l ((i+1:Nat):Int)) (default:zf)) fun m=>bif bif decide (((i+1:Nat):Int)<(l.length:Int))then m.kind==13 else false then some (LX.out (w64 (((i+1:Nat):Int)+1)))else some (LX.out ((i+1:Nat):Int)))
   (fun a=>za (zD (!(decide (a>=(l.length:Int)))) (geti l a) (default:zf)) fun h=>bif bif decide (a>=(l.length:Int))then true else h.kind != 5 then some (LX.ret (LO.ret 8))else some (LX.out ()))=bif mr (l.drop (i+1))then some (LX.out ())else some (LX.ret (LO.ret 8)):=by
 cases f:l.drop (i+1)with
 |nil=> have k:=LJ f (by omega);have o:decide (((i+1:Nat):Int)<(l.length:Int))=false:=Ua (by omega);have b:decide (((i+1:Nat):Int)>=(l.length:Int))=true:=Ga (by omega);simp only[o,b,ZM,za,Aa,Ba,Ca,zH,aa,mr]
 |cons s r=>
  obtain⟨c,e,d⟩:=MJ f;have b:decide (((i+1:Nat):Int)>=(l.length:Int))=false:=Ua (by omega);have n:w64 (((i+1:Nat):Int)+1)=((i+1+1:Nat):Int):=zK c (by unfold big;omega);simp only[Zb c,Zd,e,za,Aa,Ca,n,mr];cases p:s.kind==13 with
  |false=>
   simp only[Ba,zH,b,Xa,Zd,e,Aa,bne]
   grind
  |true=>
   simp only[Ca,zH];cases r with
   |nil=> have k:=LJ d (by omega);simp_all
   |cons u r=>
    obtain⟨t,j,q⟩:=MJ d;have g:decide (((i+1+1:Nat):Int)>=(l.length:Int))=false:=Ua (by omega);simp only[g,Xa,Zd,j,Aa,Ba,bne]
    grind
theorem zH1{l:List zf}{i:Nat}(hi:i<l.length)(d:Bool)(A B:Option (LO Int Unit Int)):
  (za (zD (!(((i+1:Nat):Int)==(l.length:Int))&&d) (geti l ((i+1:Nat):Int)) (default:zf)) fun a=>bif bif d then bif ((i+1:Nat):Int)==(l.length:Int)then true else a.kind != 13 else false then A else B)=bif !d||dH (l.drop (i+1))then B else A:=by
 cases d with
 |false=>simp_all
 |true=>
  cases c:l.drop (i+1)with
  |nil=> have h:=LJ c (by omega);have b:(((i+1:Nat):Int)==(l.length:Int))=true:=Cb.2 (by omega);simp only[b,aa,Dc,ZM,za,Aa,Ca,dH,Jg,Ba]
  |cons s r=>
   obtain⟨f,e,g⟩:=MJ c;have b:(((i+1:Nat):Int)==(l.length:Int))=false:=Da.2 (by omega);simp only[b,Xa,Ya,Zd,e,za,Aa,Ca,dH,Ba,aa,ic,bne]
   grind
theorem zKa(b:Bool)(t u:zf)(p:zf->Bool):(bif b then p (bif b then t else u)else false)=(b&&p t):=by cases b<;>rfl
theorem ztV(k:gB){l:List zf}(h: ∀t∈l,t.text.length<=big/\t.unit.length<=big):su l=some (gluS l):=by
 unfold su gluS;rw[NQ];cases e:decide (l.length<=1500)with
 |false=>rfl
 |true=>
  have e:=Fb e;simp only[aa,Ba,Ca];refine(gy l.length (KA l) 8 (fun i a=> ?_) ?_).trans ?_
  ·obtain⟨g,p⟩:=h _ (Ja a);have d:l.getD i default=l[i]:=by simp[a]
   have f:=ma a;have q:w64 ((i:Int)+1)=((i+1:Nat):Int):=zK a (by unfold big;omega);have m:w64 (((i+1:Nat):Int)+1)=((i+2:Nat):Int):=zK (n:=i+2) (by omega) (by unfold big;omega);unfold KA;rw[f,d];simp only[Zb a,Ca,zN a,za,Aa,J5 k g p,q];cases s:bv l[i]with
   |false=>rfl
   |true=>
    simp only[aa,Ba,zQ,Aa,Ya];have j:=zJl a e;have o:=zH1 a (l[i].kind==9&&l[i].text==[92]) (some (LO.ret 8)) (some (LO.again ((i+1:Nat):Int)));simp only[za]at j o;have b:(bif l[i].kind==2 then bif l[i].kind==2 then lowS (bif l[i].kind==2 then l[i]else default).text==[117,114,108]else default else false)=Cw l[i]:=by unfold Cw;cases l[i].kind==2<;>rfl
    have r:(zD (l[i].kind==2) (ul ((bif l[i].kind==2 then l[i]else default).text,[117,114,108])) (default:Bool))=some (bif l[i].kind==2 then lowS (bif l[i].kind==2 then l[i]else default).text==[117,114,108]else default):=by
     cases u:l[i].kind==2 with
     |false=>rfl
     |true=> show ul (l[i].text,[117,114,108])=some (lowS l[i].text==[117,114,108]);rw[zGr g (by decide),iO]
    have c:(bif l[i].kind==9 then(bif l[i].kind==9 then l[i]else default).text==[92]else false)=(l[i].kind==9&&l[i].text==[92]):=zKa (l[i].kind==9) l[i] default fun t=>t.text==[92];simp only[r,Aa,b,c,j,okAt];cases Cw l[i]with
    |false=>
     simp only[Ba,zH,Xa,Lf,Sb]
     grind
    |true=>
     simp only[Ca,aa,ic];cases mr (l.drop (i+1))with
     |false=>simp_all
     |true=>
      simp only[Ca,zH,Sb]
      grind
  ·grind
  grind
theorem ztU{l:List zf}(h: ∀t∈l,t.text.length<=big/\t.unit.length<=big):su l=some (gluS l):=ztV ztW h
def zL{α:Type}(f:α->List PV)(l:List α):Nat:=Im (l.map f)
theorem Dh{α:Type}(f:α->List PV):zL f []=0:=rfl
theorem Z5{α:Type}(f:α->List PV)(v:α)(l:List α):zL f (v::l)=zt (f v)+zL f l:=rfl
theorem qV{α:Type}{f:α->List PV}{v:α}: ∀{l:List α},v∈l->zt (f v)<=zL f l
 |[],h=>by cases h
 |x::l,h=>by
  rw[Z5];rcases Kb.1 h with rfl|h
  ·omega
  ·have:=qV (f:=f) h;omega
theorem ZZ{α:Type}{f:α->List PV}(a: ∀v,1<=zt (f v)): ∀(l:List α),l.length<=zL f l
 |[]=>Ta _
 |v::l=>by rw[Z5,Fa];have:=ZZ a l;grind
theorem Hw{α:Type}{f:α->List PV}{a b:List α}(h:a.Sublist b):zL f a<=zL f b:=by
 induction h with
 |slnil=>grind
 |cons v _ c=>rw[Z5];omega
 |cons_cons v _ c=>rw[Z5,Z5];omega
theorem yV: ∀l:List UInt8,Im (l.map fun y=>[PV.at (.int .u8 ((y.toNat:Nat):Int))])=l.length
 |[]=>rfl
 |b::l=>by have:=yV l;simp only[Oc,Im,zt,bPV,Fa]at this ⊢;omega
theorem Xx(x:zb):zt (zA x)=6+x.token.text.length+x.token.unit.length+zL zA x.list:=by rw[oK];simp only[zt,bPV,zL];omega
mutual
/-- How large values are. -/
def szV:zb->Nat
 |⟨t,l⟩=>1+t.text.length+t.unit.length+szL l
def szL:List zb->Nat
 |[]=>0
 |v::r=>szV v+szL r
end
theorem Mi(v:zb):szV v=1+v.token.text.length+v.token.unit.length+szL v.list:=by obtain⟨t,l⟩:=v;rw[szV]
theorem Bl{v:zb}: ∀{l:List zb},v∈l->szV v<=szL l
 |[],h=>by cases h
 |x::l,h=>by
  rw[szL];rcases Kb.1 h with rfl|h
  ·omega
  ·have:=Bl h;omega
theorem Fh: ∀(l:List zb),l.length<=szL l
 |[]=>Ta _
 |v::r=>by rw[szL,Mi,Fa];have:=Fh r;omega
theorem Ut(n:Nat):decide ((n:Int)>0)=decide (0<n):=by
 grind
theorem gJ(k:Int):Jv k=some (Zf k):=by
 unfold Jv Zf;by_cases b:k=19
 ·subst b;rfl
 by_cases d:k=21
 ·subst d;rfl
 by_cases c:k=2
 ·subst c;rfl
 by_cases a:k=23
 ·subst a;rfl
 have g:(k==19)=false:=Da.2 b;have h:(k==21)=false:=Da.2 d;have e:(k==2)=false:=Da.2 c;have f:(k==23)=false:=Da.2 a;simp only[g,h,e,f,Ba,zH,b,d,c,a,Yd,or_self]
theorem nK(k:Int):uu k=some (Zf k):=by
 unfold uu Zf;by_cases b:k=19
 ·subst b;rfl
 by_cases d:k=21
 ·subst d;rfl
 by_cases c:k=2
 ·subst c;rfl
 by_cases a:k=23
 ·subst a;rfl
 have g:(k==19)=false:=Da.2 b;have h:(k==21)=false:=Da.2 d;have e:(k==2)=false:=Da.2 c;have f:(k==23)=false:=Da.2 a;simp only[g,h,e,f,Ba,zH,b,d,c,a,Yd,or_self]
mutual
/-- The depth of values. -/
def Mh:zb->Nat
 |⟨t,l⟩=>if Zf t.kind=0 then 0 else 1+Za l
def Za:List zb->Nat
 |[]=>0
 |v::r=>max (Mh v) (Za r)
end
theorem VC(v:zb):Mh v=if Zf v.token.kind=0 then 0 else 1+Za v.list:=by obtain⟨t,l⟩:=v;rw[Mh]
mutual
theorem zHY: ∀v:zb,Mh v<=szV v
 |⟨t,l⟩=>by rw[Mh,szV];have:=jm l;split<;>omega
theorem jm: ∀l:List zb,Za l<=szL l
 |[]=>Ta _
 |v::r=>by rw[Za,szL];have:=zHY v;have:=jm r;omega
end
theorem uP(f:zb->Nat): ∀(l:List zb) (a:Nat),l.foldl (fun a v=>max a (f v)) a=max a (l.foldr (fun v a=>max (f v) a) 0)
 |[],a=>by simp
 |v::l,a=>by rw[Ld,uP f l,List.foldr_cons];omega
theorem IZ: ∀(l:List zb),Za l=l.foldr (fun v a=>max (Mh v) a) 0
 |[]=>by rw[Za];rfl
 |v::l=>by rw[Za,IZ l];rfl
theorem wH{l:List zb}(h:szL l<=big):Rk l=some (Za l:Int):=by
 refine ZP (fun l=>szL l) (fun l=>szL l<=big) (fun l=>(Za l:Int)) (fun S l n j=> ?_) h;unfold UE;have e:=Fh l;refine(EI l (fun i (a:Nat)=>((a:Int),(i:Int))) (fun v a=>some (.again (max a (Mh v)))) (fun a=>some (.out (a:Int))) (a:=0) rfl (fun i a b=> ?_) (fun a=> ?_) (r:= .out (Za l:Int)) ?_)
 ·have f:=Bl (Ja b);have k:=Mi l[i];have c:=VC l[i];have g:=jm l[i].list;simp only[Zb b,Ca,za,zN b,Aa,gJ];by_cases d:Zf l[i].token.kind=0
  ·rw[Ka d]at c;simp[d,c,zK b (by omega)]
  ·rw[Ha d]at c;rw[j l[i].list (by omega) (by omega)];have m:w64 (1+(Za l[i].list:Int))=((1+Za l[i].list:Nat):Int):=by rw[w64,ZY (by omega) (by grind)];omega
   simp only[Df.2 d,Ca,Aa,zH,zK b (by omega),m,c,Ac]
   grind
 ·grind
 ·rw[vo (fun a v=>max a (Mh v)) (fun v a=>rfl),uP,<-IZ];simp
theorem AC{l:List zb}: ∀{i:Nat} (h:i<l.length),szL (l.take (i+1))=szL (l.take i)+szV l[i]:=by
 induction l with
 |nil=>grind
 |cons v r a=>
  intro i h;cases i with
  |zero=>simp[szL]
  |succ i=>
   simp only[Oe,szL,List.getElem_cons_succ]
   grind
theorem IE(l:List zb)(i:Nat):szL (l.take i)<=szL l:=by
 induction l generalizing i with
 |nil=>simp
 |cons v r a=>
  cases i with
  |zero=>simp[szL]
  |succ i=>simp only[Oe,szL];grind
mutual
/-- The tokens of values. -/
def tokV:zb->List zf
 |⟨t,l⟩=>t::if Zf t.kind=0 then []else tokL l++[⟨Zf t.kind,[],0,[],false⟩]
def tokL:List zb->List zf
 |[]=>[]
 |v::r=>tokV v++tokL r
end
theorem Iq(v:zb):tokV v=v.token::if Zf v.token.kind=0 then []else tokL v.list++[⟨Zf v.token.kind,[],0,[],false⟩]:=by obtain⟨t,l⟩:=v;rw[tokV]
mutual
theorem Uw: ∀v:zb,(tokV v).length<=2*szV v
 |⟨t,l⟩=>by
  rw[tokV,szV];have:=ut l
  grind
theorem ut: ∀l:List zb,(tokL l).length<=2*szL l
 |[]=>Ta _
 |v::r=>by rw[tokL,szL,Ma];have:=Uw v;have:=ut r;omega
end
theorem xC: ∀(l:List zb) (a:List zf),l.foldl (fun a v=>a++tokV v) a=a++tokL l
 |[],a=>by simp[tokL]
 |v::l,a=>by rw[Ld,xC l,tokL,Jb]
theorem fJ{l:List zb}(h:szL l<=big):Qr l=some (tokL l):=by
 refine ZP (fun l=>szL l) (fun l=>szL l<=big) (fun l=>tokL l) (fun S l j o=> ?_) h;unfold EG;have f:=Fh l;refine(fq l (fun i (a:List zf)=>((i:Int),a)) (fun v a=>some (.again (a++tokV v))) (fun a=>some (.out a)) (fun i a=>a.length<=2*szL (l.take i)) (a:=[]) rfl (by simp) (fun i a c u=> ?_) (fun a _=> ?_) (r:= .out (tokL l)) ?_)
 ·have g:=Bl (Ja c);have t:=Mi l[i];have d:=Iq l[i];have k:=ut l[i].list;have w:=AC c;have q:=IE l (i+1);have s:=Uw l[i];unfold big at j;have b: ∀n m:Nat,n+m<=100000000->ZE n m 56=true:=fun n m h=>qI (by omega);refine⟨?_,fun x y=> ?_⟩
  ·simp only[Zb c,Ca,za,zN c,Aa,gJ];by_cases e:Zf l[i].token.kind=0
   ·rw[Ka e]at d;simp[e,d,zK c (by unfold big;omega),b a.length 1 (by omega)]
   ·rw[Ha e]at d;rw[o l[i].list (by unfold big;omega) (by omega)];have p:(Zf l[i].token.kind != 0)=true:=Df.2 e;simp[p,d,zK c (by unfold big;omega),b a.length 1 (by omega),b (a.length+1) (tokL l[i].list).length (by omega),b (a.length+((tokL l[i].list).length+1)) 1 (by omega)]
  ·grind
 ·grind
 ·rw[vo (fun a v=>a++tokV v) (fun v a=>rfl),xC];simp
mutual
/-- Whether lists are those of blocks, and have not their closers. -/
def shV:zb->Int->Bool
 |⟨t,l⟩,c=> !((Zf t.kind==0&&decide (0<l.length))||(c != 0&&t.kind==c)||(Zf t.kind != 0&& !(shL l (Zf t.kind))))
def shL:List zb->Int->Bool
 |[],_=>true
 |v::r,c=>shV v c&&shL r c
end
theorem XV(v:zb)(c:Int):shV v c= !((Zf v.token.kind==0&&decide (0<v.list.length))||(c != 0&&v.token.kind==c)||(Zf v.token.kind != 0&& !(shL v.list (Zf v.token.kind)))):=by obtain⟨t,l⟩:=v;rw[shV]
theorem zDt{l:List zb}{c:Int}(h:szL l<=big):Rn (l,c)=some (shL l c):=by
 refine ZP (fun x:List zb×Int=>szL x.1) (fun x=>szL x.1<=big) (fun x=>shL x.1 x.2) (fun S x A q=> ?_) h;obtain⟨l,c⟩:=x;simp only at A q ⊢;unfold CG;have m:=Fh l;have f: ∀l:List zb,uh (fun v (_:Unit)=>if shV v c=true then some (.again ())else some (.ret false)) (fun _=>some (.out ())) l ()=some (if shL l c=true then .out ()else .ret false):=by
  intro l
  induction l with
  |nil=>simp[uh,shL]
  |cons v r y=>
   by_cases n:shV v c=true
   ·simpa [uh,shL,n] using y
   ·simp[uh,shL,n]
 refine(EI l (fun i (_:Unit)=>(i:Int)) (fun v (_:Unit)=>if shV v c=true then some (.again ())else some (.ret false)) (fun _=>some (.out ())) (a:=()) rfl (fun i a d=> ?_) (fun a=> ?_) (f l)).trans ?_
 ·have C:=Bl (Ja d);have w:=Mi l[i];have z:=XV l[i] c;simp only[Zb d,Ca,za,zN d,Aa,gJ];have g:szL l[i].list<=big:=by omega
  have j:szL l[i].list<szL l:=by omega
  have e: ∀b,S (l[i].list,b)=some (shL l[i].list b):=fun b=>q (l[i].list,b) g j;rw[z];have o:decide ((l[i].list.length:Int)>0)=decide (0<l[i].list.length):=Ut _;have B:=zK d (by omega);simp only[bne,o];rcases Xc (Zf l[i].token.kind==0)with k|k<;>rcases Xc (decide (0<l[i].list.length))with u|u<;>rcases Xc (c==0)with s|s<;>rcases Xc (l[i].token.kind==c)with p|p<;>rcases Xc (shL l[i].list (Zf l[i].token.kind))with t|t<;>
   simp only[e,o,k,u,s,p,t,B,Ca,Ba,aa,Xa,Sb,Jc,Ya,Dc,Bool.or_true,Sd,Lf,ic,Zd,ZM,Aa,Ee,Yd,Ac,Vb]
 ·grind
 ·cases h:shL l c<;>simp
def Io(l:List zb)(c:Int):ZG:=⟨Za l,(tokL l).length, !(shL l c)⟩
theorem EQ(c:Int): ∀(l:List zb) (a:Nat×Nat×Bool),l.foldl (fun a v=>(max a.1 (Mh v),a.2.1+(tokV v).length,a.2.2|| !(shV v c))) a=(max a.1 (Za l),a.2.1+(tokL l).length,a.2.2|| !(shL l c))
 |[],a=>by simp[Za,tokL,shL]
 |v::l,a=>by
  rw[Ld,EQ c l,Za,tokL,shL,Ma];simp only[Prod.mk.injEq]
  grind
theorem VX(a b:Bool):(bif a then true else b)=(a||b):=by cases a<;>rfl
theorem zHN(a b:Bool):(bif a then b else false)=(a&&b):=by cases a<;>rfl
theorem XR{l:List zb}{c:Int}(h:szL l<=big):jl (l,c)=some (Io l c):=by
 refine ZP (fun x:List zb×Int=>szL x.1) (fun x=>szL x.1<=big) (fun x=>Io x.1 x.2) (fun S x C E=> ?_) h;obtain⟨l,c⟩:=x;simp only at C E ⊢;unfold yD;have B:=Fh l;refine(fq l (fun i (a:Nat×Nat×Bool)=>((i:Int),(⟨(a.1:Int),(a.2.1:Int),a.2.2⟩:ZG))) (fun v a=>some (.again (max a.1 (Mh v),a.2.1+(tokV v).length,a.2.2|| !(shV v c)))) (fun a=>some (.out (⟨(a.1:Int),(a.2.1:Int),a.2.2⟩:ZG))) (fun i a=>a.2.1<=2*szL (l.take i)) (a:=(0,0,false)) rfl (by simp) (fun i a j J=> ?_) (fun a _=> ?_) (r:= .out (Io l c)) ?_)
 ·have N:=Bl (Ja j);have H:=Mi l[i];have m:=VC l[i];have O:=jm l[i].list;have o:=Iq l[i];have P:=ut l[i].list;have e:=XV l[i] c;have K:=AC j;have G:=IE l (i+1);have Q:=Uw l[i];have w:szL l[i].list<=big:=by omega
  have y:szL l[i].list<szL l:=by omega
  have p:S (l[i].list,Zf l[i].token.kind)=some (Io l[i].list (Zf l[i].token.kind)):=E (l[i].list,Zf l[i].token.kind) w y;obtain⟨d,n,b⟩:=a;simp only at J;have D:=zK j (by omega);unfold big at C;have u:w64 ((n:Int)+1)=((n+1:Nat):Int):=by rw[w64,ZY (by omega) (by omega)];omega
  refine⟨?_,fun R T=> ?_⟩
  ·have L:decide ((l[i].list.length:Int)>0)=decide (0<l[i].list.length):=Ut _;simp only[Zb j,Ca,za,zN j,Aa,nK,Ac,u,bne,L,VX,zHN];by_cases k:Zf l[i].token.kind=0
   ·rw[Ka k]at m o;simp only[k,Vd,Ya,aa,Dc,Sd,bne]at e ⊢;rw[e,m,o];rcases Xc (decide (0<l[i].list.length))with F|F<;>rcases Xc (c==0)with g|g<;>rcases Xc (l[i].token.kind==c)with f|f<;>
     simp[F,g,f,D,Ca,Ba]
   ·rw[Ha k]at m o;have s:(Zf l[i].token.kind==0)=false:=Da.2 k;have z:w64 ((Za l[i].list:Int)+1)=((1+Za l[i].list:Nat):Int):=by rw[w64,ZY (by omega) (by omega)];omega
    have t:w64 (((n+1:Nat):Int)+((tokL l[i].list).length:Int))=((n+1+(tokL l[i].list).length:Nat):Int):=by rw[w64,ZY (by omega) (by omega)];omega
    have A:w64 (((n+1+(tokL l[i].list).length:Nat):Int)+1)=((n+(1+((tokL l[i].list).length+1)):Nat):Int):=by rw[w64,ZY (by omega) (by omega)];omega
    have q:(tokV l[i]).length=1+((tokL l[i].list).length+1):=by rw[o];simp;omega
    have M:(if((1+Za l[i].list:Nat):Int)>(d:Int)then((1+Za l[i].list:Nat):Int)else(d:Int))=((max d (1+Za l[i].list):Nat):Int):=by split<;>omega
    rw[e,m,q];simp only[s,p,Dc,Xa,Ya,Sd,ic,Ba,bne,Aa,Io];rcases Xc (c==0)with g|g<;>rcases Xc (l[i].token.kind==c)with f|f<;>
     simp only[g,f,D,z,t,A,M,Ca,Ba,zH,aa,Xa,Ya,Sb,Jc,Dc,Bool.or_true,Sd,Lf,ic,Cf]
  grind
 ·grind
 ·rw[vo (fun a v=>(max a.1 (Mh v),a.2.1+(tokV v).length,a.2.2|| !(shV v c))) (fun v a=>rfl),EQ];simp[Io]
theorem Al{a b:List zb}(h:a.Sublist b):szL a<=szL b:=by
 induction h with
 |slnil=>grind
 |cons v _ c=>rw[szL];omega
 |cons_cons v _ c=>rw[szL,szL];omega
theorem Bp(l:List zb):l=[]\/ ∃t v,l=t++[v]:=by
 rcases List.eq_nil_or_concat l with h|⟨t,v,h⟩
 ·exact .inl h
 grind
def isSp(v:zb):Bool:=v.token.kind==13
def trimB(l:List zb):List zb:=(l.reverse.dropWhile isSp).reverse
theorem zHg:trimB []=[]:=rfl
theorem uq(t:List zb)(v:zb):trimB (t++[v])=if isSp v then trimB t else t++[v]:=by
 unfold trimB;rw[List.reverse_append];simp only[List.reverse_cons,List.reverse_nil,Bc,Ab,Kc]
 grind
theorem Ul(l:List zb):(trimB l).Sublist l:=by
 unfold trimB
 grind
def trimS(l:List zb):List zb:=trimB (l.dropWhile isSp)
theorem zJf(l:List zb):szL (trimS l)<=szL l:=Al ((Ul _).trans (jb _))
theorem cB(p:zb->Bool): ∀(l:List zb),l.drop (l.length - (l.dropWhile p).length)=l.dropWhile p
 |[]=>rfl
 |v::r=>by
  rw[Kc];split
  ·have h:=List.Sublist.length_le (jb p (l:=r));rw[Fa,Nat.succ_sub h,List.drop_succ_cons];exact cB p r
  ·simp
theorem zA1{l:List zb}(h:szL l<=big):gF l=some (trimS l):=by
 unfold gF;refine(qD (r:= .out (l.dropWhile isSp)) (Qq (fun s=>s.dropWhile isSp=l.dropWhile isSp) (fun s=>s.length) _ (fun s c=> ?_) rfl)).trans ?_
 ·cases s with
  |nil=>simp_all
  |cons v t=>
   have e:decide (((v::t).length:Int)>0)=true:=by rw[Ut];simp
   have f:geti (v::t) 0=some v:=rfl;have n:decide ((1:Int)<=((v::t).length:Int))=true:=by simp;omega
   rw[Kc]at c;cases b:isSp v with
   |true=> rw[b]at c;unfold isSp at b;simp_all
   |false=> rw[b]at c;unfold isSp at b;refine .inr (.inl ⟨v::t,?_,by rw[<-c];rfl⟩);simp only[e,f,Zd,za,Aa,b,Ca,Ba]
 ·rw[zm8];have i:szL (l.dropWhile isSp)<=big:=Db (Al (jb _)) h;unfold trimS;generalize l.dropWhile isSp=d at i;refine(qD (r:= .out (trimB d)) (Qq (fun s=>trimB s=trimB d/\szL s<=big) (fun s=>s.length) _ (fun s c=> ?_) ⟨rfl,i⟩)).trans ?_
  ·rcases Bp s with rfl|⟨t,v,rfl⟩
   ·exact .inr (.inl ⟨[],by simp,by rw[<-c.1];rfl⟩)
   ·have g:=Fh (t++[v]);have k:(t++[v]).length=t.length+1:=by simp
    have m:=c.2;unfold big at m;have e:decide (((t++[v]).length:Int)>0)=true:=by rw[Ut];simp
    have j:w64 (((t++[v]).length:Int) - 1)=(t.length:Int):=by rw[w64,ZY (by omega) (by omega)];omega
    have f:geti (t++[v]) (t.length:Int)=some v:=by rw[zN (by omega)];simp
    have n:(decide ((0:Int)<=(t.length:Int))&&decide ((t.length:Int)<=((t++[v]).length:Int)))=true:=by simp;omega
    have a:=c.1;rw[uq]at a;cases b:isSp v with
    |true=> rw[Ka b]at a;unfold isSp at b;refine .inl ⟨t,?_,⟨a,Db (Al (Ff t [v])) c.2⟩,by simp⟩;simp_all
    |false=> rw[Ha (by rw[b];simp)]at a;unfold isSp at b;refine .inr (.inl ⟨t++[v],?_,by rw[<-a]⟩);simp only[e,j,f,Zd,za,Aa,b,Ca,Ba]
  ·rw[zm8]
def errS(l:List zb):Int:=if 16<Za l then 20 else if 1500<(tokL l).length then 4 else if shL l 0 then 0 else 8
theorem zGt{l:List zb}(h:szL l<=big):wD l=some (errS l):=by
 unfold wD errS;simp only[za,wH h,fJ h,zDt h,Aa]
 grind
theorem Br{l:List zb}(h:szL l<=big):Yl l=some (errS l):=by
 unfold Yl errS;simp only[za,XR h,Aa,Io]
 grind
theorem nJ{l:List zb}(h:szL l<=big):wo l=some (if errS l=0 then((Za l:Int),0)else(0,errS l)):=by
 unfold wo;simp only[za,Br h,XR h,Aa,Io]
 grind
theorem xh: ∀l:List zb,szL l<=zL zA l:=by
 have a: ∀(n:Nat) (l:List zb),zL zA l<n->szL l<=zL zA l:=by
  intro n
  induction n with
  |zero=>intro l h;omega
  |succ n d=>
   intro l
   induction l with
   |nil=>intro _;rw[szL];grind
   |cons v l b=>
    intro h;rw[Z5]at h ⊢;rw[szL,Mi];have c:=Xx v
    grind
 grind
theorem zIb{l:List zb}{a:List zf}(h:szL l<=big)(e:a.length+2*szL l<=4*big):Sn (l,a)=some (a++tokL l):=by
 refine ZP (fun z=>szL z.1) (fun z=>szL z.1<=big/\z.2.length+2*szL z.1<=4*big) (fun z=>z.2++tokL z.1) (fun S z q s=> ?_) (x:=(l,a)) ⟨h,e⟩;obtain⟨l,a⟩:=z;obtain⟨h,e⟩:=q;have h:szL l<=big:=h;have e:a.length+2*szL l<=4*big:=e;have j:=Fh l;unfold WF;refine(fq l (fun i (b:List zf)=>((i:Int),b)) (fun v b=>some (.again (b++tokV v))) (fun b=>some (.out b)) (fun i b=>b.length<=a.length+2*szL (l.take i)) (a:=a) rfl (by simp) (fun i b d A=> ?_) (fun b _=> ?_) (r:= .out (a++tokL l)) ?_).trans rfl
 ·have o:=Bl (Ja d);have y:=Mi l[i];have f:=Iq l[i];have p:=ut l[i].list;have B:=AC d;have u:=IE l (i+1);have w:=Uw l[i];unfold big at h e;have c: ∀n m:Nat,n+m<=100000000->ZE n m 56=true:=fun n m h=>qI (by omega);refine⟨?_,fun C k=> ?_⟩
  ·simp only[Zb d,Ca,za,zN d,Aa,nK];by_cases g:Zf l[i].token.kind=0
   ·rw[Ka g]at f;simp[g,f,zK d (by unfold big;omega),c b.length 1 (by omega)]
   ·rw[Ha g]at f;rw[s (l[i].list,b++[l[i].token]) ⟨by grind,by grind⟩ (by grind)];have t:(Zf l[i].token.kind != 0)=true:=Df.2 g;simp[t,f,zK d (by unfold big;omega),c b.length 1 (by omega),c (b.length+((tokL l[i].list).length+1)) 1 (by omega)]
  ·grind
 ·grind
 ·rw[vo (fun a v=>a++tokV v) (fun v a=>rfl),xC]
theorem zIa{l:List zb}(h:szL l<=big):CE l=some (tokL l):=by
 have g:=Fh l;unfold CE;refine(fq l (fun i (b:List zf)=>((i:Int),b)) (fun v b=>some (.again (b++tokV v))) (fun b=>some (.out b)) (fun i b=>b.length<=2*szL (l.take i)) (a:=[]) rfl (by simp) (fun i b d u=> ?_) (fun b _=> ?_) (r:= .out (tokL l)) ?_).trans rfl
 ·have k:=Bl (Ja d);have t:=Mi l[i];have e:=Iq l[i];have o:=ut l[i].list;have w:=AC d;have q:=IE l (i+1);have s:=Uw l[i];unfold big at h;have c: ∀n m:Nat,n+m<=100000000->ZE n m 56=true:=fun n m h=>qI (by omega);refine⟨?_,fun x j=> ?_⟩
  ·simp only[Zb d,Ca,za,zN d,Aa,nK];by_cases f:Zf l[i].token.kind=0
   ·rw[Ka f]at e;simp[f,e,zK d (by unfold big;omega),c b.length 1 (by omega)]
   ·rw[Ha f]at e;rw[zIb (a:=b++[l[i].token]) (show szL l[i].list<=big by unfold big;omega) (by grind)];have p:(Zf l[i].token.kind != 0)=true:=Df.2 f;simp[p,e,zK d (by unfold big;omega),c b.length 1 (by omega),c (b.length+((tokL l[i].list).length+1)) 1 (by omega)]
  ·grind
 ·grind
 ·rw[vo (fun a v=>a++tokV v) (fun v a=>rfl),xC];simp
theorem YR{l:List zb}(h:szL l<=big):Gy l=some (if errS l=0 then(tokL l,0)else([],errS l)):=by
 unfold Gy;simp only[Br h,za,Aa];by_cases he:errS l=0
 ·have:(errS l != 0)=false:=by rw[he];rfl
  rw[this,Ba,zIa h,Ka he];rfl
 grind
set_option maxRecDepth 100000
theorem ZH{α:Type}(l:List α):((l.length:Int)==0)=l.isEmpty:=by
 cases l with
 |nil=>rfl
 |cons a l=>exact Da.2 (by simp only[Fa];omega)
theorem Nu(v:zb):(⟨v.token,v.list⟩:zb)=v:=by cases v;rfl
def Vj(x:Str):Bool:= !(x==[])&&(decide (x.length<=64)&&(Qj x&&(bif List.isPrefixOf [45,45] x then !(x==[45,45])else lowS x==x)))
theorem S9{x:Str}(h:x.length<=big):fD x=some (Vj x):=by
 have e:decide ((x.length:Int)>64)= !decide (x.length<=64):=Xg _ 64;have e1:decide (Lib.indexByte x (0:Int).toNat.toUInt8>=0)= !Qj x:=ow x;have ec:=JD x (lowS x);unfold fD Vj;simp only[Mv,zQ,za,Aa,Tp,xq h,e,ec];cases x==[]<;>cases decide (x.length<=64)<;>try rfl
 simp only[Ca,Ba,aa,Xa,Ya,Sd,e1];cases Qj x<;>cases List.isPrefixOf [45,45] x<;>rfl
theorem VY(x:Str):(bif decide ((x.length:Int)>=2)then List.take 2 x==[45,45]else false)=List.isPrefixOf [45,45] x:=by
 cases x with
 |nil=>rfl
 |cons a x=>
  cases x with
  |nil=>show(bif decide _ then _ else _)=((45==a)&&false);rw[Jc];rfl
  |cons b x=> have:decide ((((a::b::x:Str)).length:Int)>=2)=true:=Ga (by simp only[Fa];omega);rw[this];show((a==45)&&((b==45)&&true))=((45==a)&&((45==b)&&true));rw[Bool.beq_comm (a:=a),Bool.beq_comm (a:=b)]
theorem JZ{x:Str}(h:List.isPrefixOf [45,45] x=true):decide ((x.length:Int)>2)= !(x==[45,45]):=by
 obtain⟨t,rfl⟩:=af.1 h;cases t with
 |nil=>rfl
 |cons a t=> have:decide ((([45,45]++a::t:Str).length:Int)>2)=true:=Ga (by simp only[Ma,Fa];omega);rw[this];rfl
theorem ztY{x:Str}(h:x.length<=big):vD x=some (Vj x):=by
 have e:decide ((x.length:Int)>64)= !decide (x.length<=64):=Xg _ 64;have en:decide ((x.length:Int)<1)=(x==[]):=by cases x with
  |nil=>rfl
  |cons a x=>exact Ua (by simp only[Fa];omega)
 have ec:=JD x (lowS x);have hk:(need (decide ((2:Int)<=(x.length:Int))|| !(decide ((x.length:Int)>=2)))<|
   bif bif decide ((x.length:Int)>=2)then List.take 2 x==[45,45]else false then some (decide ((x.length:Int)>2))else za (QC x) fun y4=>some (x==y4))=some (bif List.isPrefixOf [45,45] x then !(x==[45,45])else lowS x==x):=by
  have e2:(decide ((2:Int)<=(x.length:Int))|| !(decide ((x.length:Int)>=2)))=true:=by show(decide _|| !decide ((2:Int)<=_))=true;cases decide ((2:Int)<=(x.length:Int))<;>rfl
  rw[e2,ZX,VY];cases hp:List.isPrefixOf [45,45] x with
  |true=>rw[Ca,Ca,JZ hp]
  |false=>simp only[Ba,Ky h,za,Aa,ec]
 unfold vD Vj;rw[hk];have hl: ∀b:Bool,zU (fun(s1:Int)=>bif decide (s1<(x.length:Int))then
    za (geti x s1) fun y2=>bif (y2.toNat:Int)==0 then some (LO.ret false)else some (LO.again (w64 (s1+1)))
   else some (LO.out ()):Int->Option (LO (Int) (Unit) _)) 0 (fun _=>some b)=some (Qj x&&b):=by
  intro b;refine(qc x (fun b=>bif (!(b==0))then none else some false) () (fun i hi=> ?_) ?_).trans ?_
  ·simp only[Zb hi,Ca,zN hi,za,Aa,byte_zero,zK hi h];cases x[i]==0<;>rfl
  ·simp only[Ze,Ba]
  ·rw[Ci];unfold Qj;cases x.all (fun b=> !(b==0))<;>rfl
 rw[hl,e,en];cases x==[]<;>cases decide (x.length<=64)<;>rfl
def clK(v:zb):Bool:=v.token.kind==20||(v.token.kind==22||v.token.kind==24)
mutual
def clV:zb->Bool
 |⟨t,l⟩=>clK ⟨t,l⟩||clL l
def clL:List zb->Bool
 |[]=>false
 |v::r=>clV v||clL r
end
theorem NV(v:zb):clV v=(clK v||clL v.list):=by obtain⟨t,l⟩:=v;rw[clV]
theorem bX(l:List zb):clL l=l.any clV:=by
 induction l with
 |nil=>rw[clL];rfl
 |cons v l ih=>rw[clL,ih];rfl
theorem zqX{l:List zb}(h:szL l<=big):Zr l=some (clL l):=by
 refine ZP (fun l=>szL l) (fun l=>szL l<=big) (fun l=>clL l) (fun S l hl hS=> ?_) h;have hlen:=Fh l;unfold KG oL NL;have:=Dl (ni (step:=fun(s1:Int)=>
   bif decide (s1<(l.length:Int))then
    za (geti l s1) fun y2=>
    za (rz S (⟨y2.token,y2.list⟩:zb)) fun y3=>
    bif y3 then some (LO.ret s1)else some (LO.again (w64 (s1+1)))
   else some (LO.out ())) l clV (by omega) (fun i hi=> ?_) ?_) (Jk _ _)
 ·rw[this,bX];rfl
 ·have hsz:=Bl (Ja hi);have hv2:=Mi l[i];have hs:=hS l[i].list (by omega) (by omega);have:rz S l[i]=some (clV l[i]):=by unfold rz QA;simp only[Nu,zQ,za,Aa,hs,NV,clK];cases l[i].token.kind==20<;>cases l[i].token.kind==22<;>cases l[i].token.kind==24<;>rfl
  simp only[Zb hi,Ca,zN hi,za,Aa,Nu,this]
 ·simp only[Ze,Ba]
theorem zpZ{l:List zb}(h:szL l<=big):QN l=some (clL l):=by
 refine ZP (fun l=>szL l) (fun l=>szL l<=big) (fun l=>clL l) (fun S l hl hS=> ?_) h;have hlen:=Fh l;unfold oF;refine(qc l (fun v=>bif clV v then some true else none) () (fun i hi=> ?_) ?_).trans ?_
 ·have hsz:=Bl (Ja hi);have hv2:=Mi l[i];have hs:=hS l[i].list (by omega) (by omega);simp only[Zb hi,Ca,zN hi,za,Aa,NV,clK,zK hi (show l.length<=big by omega)];cases h1:l[i].token.kind==20<;>cases h2:l[i].token.kind==22<;>cases h3:l[i].token.kind==24<;>
   first|rfl|(simp only[Ba,Xa,Zd,Aa,hs,ic];cases clL l[i].list<;>rfl)
 ·simp only[Ze,Ba]
 ·rw[YI,bX];cases l.any clV<;>rfl
def Yn(l:List zb):Bool:=match l with
 |[]=>false
 |v::r=>isSp v||isSp ((v::r).getLast (by simp))
theorem zCU(t:List zb)(v:zb):Yn (t++[v])=((match t with|[]=>isSp v|a::_=>isSp a)||isSp v):=by
 cases t with
 |nil=>rfl
 |cons a t=> show(isSp a||isSp ((a::(t++[v])).getLast _))=_;congr 2;have:(a::(t++[v]))=(a::t)++[v]:=rfl;simp only[this,List.getLast_append_of_ne_nil,List.getLast_singleton,ne_eq,reduceCtorEq,Gg]
theorem FP(l:List zb):(trimB l).length<=l.length:=(Ul l).length_le
theorem zDE(l:List zb):((trimS l).length==l.length)= !Yn l:=by
 rcases Bp l with rfl|⟨t,v,rfl⟩
 ·rfl
 ·rw[zCU];have hl:(t++[v]).length=t.length+1:=by simp
  cases t with
  |nil=>
   show((trimB (List.dropWhile isSp [v])).length==1)= !(isSp v||isSp v);cases hv:isSp v with
   |true=>simp only[Kc,hv];rfl
   |false=> simp only[Kc,hv];have:=uq [] v;rw[hv]at this;show((trimB [v]).length==1)=true;rw[show trimB [v]=[v]from this];rfl
  |cons a t=>
   show((trimB (List.dropWhile isSp (a::(t++[v])))).length==_)= !(isSp a||isSp v);have hb:=FP (List.dropWhile isSp (a::(t++[v])));cases ha:isSp a with
   |true=> simp only[Kc,ha,Ee]at hb ⊢;have hd:=(jb isSp (l:=t++[v])).length_le;rw[Lf,aa,Da];rw[hl,Fa];rw[Ma,Gd]at hd;omega
   |false=>
    have e:List.dropWhile isSp (a::(t++[v]))=(a::t)++[v]:=by rw[Kc,ha];rfl
    rw[e,uq];cases hv:isSp v with
    |true=> have:=FP (a::t);rw[Ka rfl,Bool.or_true,aa,Da,hl];omega
    |false=>simp
theorem zEJ{l:List zb}(h:l.length<=big)(g:Bool)(hg:(l.isEmpty&&g)=false)(k:Bool->Option Int):
  (za (zD (decide ((l.length:Int)>0)&& !g) (geti l 0) (default:zb)) fun y7=>
   za (zD (decide ((l.length:Int)>0)&& !g) (QA ((⟨y7.token,y7.list⟩:zb),13)) (default:Bool)) fun y8=>
   za (zD (!y8&&(decide ((l.length:Int)>0)&& !g)) (geti l (w64 ((l.length:Int) - 1))) (default:zb)) fun y9=>
   za (zD (!y8&&(decide ((l.length:Int)>0)&& !g)) (QA ((⟨y9.token,y9.list⟩:zb),13)) (default:Bool)) fun y10=>
   k (bif decide ((l.length:Int)>0)then bif y8 then true else y10 else false))=(if g=true/\l≠[]then(k (bif decide ((l.length:Int)>0)then bif (default:Bool)then true else(default:Bool)else false))else k (Yn l)):=by
 cases l with
 |nil=> have:decide ((([]:List zb).length:Int)>0)=false:=rfl;simp only[this,Dc,ZM,za,Aa,Jc,Ba,ne_eq,not_true_eq_false,and_false,Yd,Yn]
 |cons v r=>
  have e1:decide (((v::r).length:Int)>0)=true:=Ga (by simp only[Fa];omega);have e2:geti (v::r) 0=some v:=rfl;cases g with
  |true=>simp only[e1,aa,Jc,ZM,za,Aa,Ca,ne_eq,reduceCtorEq,Gg,and_self,Ee]
  |false=>
   simp only[e1,Xa,Sb,Zd,za,Aa,Ca,e2,QA,false_and,Yd,reduceCtorEq];have e3:w64 (((v::r).length:Int) - 1)=(r.length:Int):=by rw[Fa]at h ⊢;rw[w64,ZY (by omega) (by unfold big at h;omega)];omega
   have e4:geti (v::r) (r.length:Int)=some ((v::r).getLast (by simp)):=by rw[zN (by simp),List.getLast_eq_getElem];simp
   rw[e3,e4];simp only[zQ,Aa,Yn,isSp];cases v.token.kind==13<;>rfl
def badV(v:zb):Bool:=v.token.kind==17||(v.token.kind==9&&v.token.text==[33])
def dA(custom:Bool)(l:List zb):Bool:= !(l.any badV)&&(!(l.isEmpty&& !custom)&& !Yn l)
def Tf(d:Zx):Bool:=Vj d.name&&(errS d.value==0&&(gluS (tokL d.value)==0&&(!clL d.value&&dA (List.isPrefixOf [45,45] d.name) d.value)))
mutual
theorem zJc: ∀(v:zb) (t:zf),t∈tokV v->t.text.length<=szV v/\t.unit.length<=szV v
 |⟨t,l⟩,u,h=>by
  rw[tokV]at h;rw[szV];rcases Kb.1 h with rfl|h
  ·constructor<;>omega
  ·split at h
   ·cases h
   ·rcases Ec.1 h with h|h
    ·have:=xB l u h;omega
    ·obtain rfl:=Ic.1 h;exact⟨Ra _,Ra _⟩
theorem xB: ∀(l:List zb) (t:zf),t∈tokL l->t.text.length<=szL l/\t.unit.length<=szL l
 |[],_,h=>by rw[tokL]at h;cases h
 |v::r,u,h=>by
  rw[tokL]at h;rw[szL];rcases Ec.1 h with h|h
  ·have:=zJc v u h;omega
  ·have:=xB r u h;omega
end
theorem zIg{l:List zb}(h:szL l<=big):Sy (tokL l)=some (gluS (tokL l)):=
 D7 fun t ht=>by have:=xB l t ht;omega
theorem zKy{l:List zb}(h:szL l<=big):su (tokL l)=some (gluS (tokL l)):=
 ztU fun t ht=>by have:=xB l t ht;omega
theorem D6{l:List zb}(h:l.length<=big):qN l=some (l.any badV):=by
 unfold qN bL;refine Dl (ni l badV h (fun i hi=> ?_) ?_) (Jk _ _)
 ·have:bE l[i]=some (badV l[i]):=by unfold bE rq QA badV;simp only[Nu,zQ,za,Aa];cases l[i].token.kind==17<;>cases l[i].token.kind==9<;>rfl
  simp only[Zb hi,Ca,zN hi,za,Aa,Nu,this]
 ·simp only[Ze,Ba]
theorem yR{d:Zx}(hv:szL d.value<=big)(hn:d.name.length<=big):Gn d=some (bif Tf d then 0 else 8):=by
 have hlen:=Fh d.value;unfold Gn Tf;rw[YR hv];simp only[za,Aa,S9 hn];cases Vj d.name with
 |false=>simp only[Xa,Ca,aa,ZM,Aa,Dc,Ba]
 |true=>
  by_cases he:errS d.value=0
  ·rw[Ka he];have he':(errS d.value==0)=true:=Cb.2 he;have this:((0:Int)==0)=true:=rfl;simp only[he',this,aa,Ba,Xa,Zd,zIg hv,Aa,Ya,bne];cases hg:gluS (tokL d.value)==0 with
   |false=>simp only[Xa,Ca,aa,ZM,Aa,Dc,Ba]
   |true=>
    simp only[aa,Ba,Xa,Zd,zqX hv,Aa,Ya];cases clL d.value with
    |true=>rfl
    |false=>
     simp only[Ba,D6 (show d.value.length<=big by omega),Aa,dA,Xa,Ya];cases d.value.any badV with
     |true=>rfl
     |false=>
      simp only[Ba,Tp,zQ,Aa,ZH,Xa,Ya];have hp:=zEJ (l:=d.value) (by omega) (bif d.value.isEmpty then !(bif d.value.isEmpty then List.isPrefixOf [45,45] d.name else default)else false);cases hd:d.value with
      |nil=>
       cases List.isPrefixOf [45,45] d.name<;>rfl
      |cons v r=> have hp':=hp (by rw[hd];rfl) (fun b=>bif b then some 8 else some 0);rw[hd]at hp';simp only[List.isEmpty_cons,Ba,Vb,false_and,Yd]at hp';simp only[List.isEmpty_cons,Ba,Dc,Xa,Ya];refine Eq.trans hp' ?_;cases Yn (v::r)<;>rfl
  ·rw[Ha he];have he':(errS d.value==0)=false:=Da.2 he;simp only[he',bne,aa,Ba,Xa,Ca,ZM,Aa,Dc,Jc]
theorem zEu{x:Str}(hn:Vj x=true):NF x=some (List.isPrefixOf [45,45] x):=by
 unfold NF;have e2:(decide ((2:Int)<=(x.length:Int))|| !(decide ((x.length:Int)>2)))=true:=by
  by_cases h:2<=x.length
  ·rw[Ga (show(2:Int)<=(x.length:Int) by omega)];rfl
  ·rw[Ua (show¬((x.length:Int)>2) by omega)];simp
 rw[ZT e2];have hp:=VY x;cases hpp:List.isPrefixOf [45,45] x with
 |true=> rw[hpp]at hp;have h3:=JZ hpp;unfold Vj at hn;rw[hpp]at hn;simp only[Ca,Ea]at hn;rw[hn.2.2.2]at h3;rw[h3];have:decide ((x.length:Int)>=2)=true:=Ga (by have:=Fb h3;omega);rw[this]at hp;exact congrArg some hp
 |false=>
  rw[hpp]at hp;cases h3:decide ((x.length:Int)>2)with
  |false=>rfl
  |true=> have:decide ((x.length:Int)>=2)=true:=Ga (by have:=Fb h3;omega);rw[this]at hp;exact congrArg some hp
theorem zKL{α:Type}(a b:List α):((a.length:Int)==(b.length:Int))=(a.length==b.length):=by rw[Xe,Cb,Cb];omega
theorem zsa{x:Str}{l:List zb}(h:szL l<=big)(hn:Vj x=true):
  MF (x,l)=some (errS l==0&&(gluS (tokL l)==0&&(!clL l&&dA (List.isPrefixOf [45,45] x) l))):=by
 have hlen:=Fh l;unfold MF;simp only[zGt h,fJ h,za,Aa,bne,zQ];cases he:errS l==0 with
 |false=>simp only[Xa,Ca,aa,ZM,Aa,Dc,Ba]
 |true=>
  simp only[aa,Ba,Xa,Ca,Zd,zKy h,Aa,Ya];cases hg:gluS (tokL l)==0 with
  |false=>simp only[Xa,Ca,aa,ZM,Aa,Dc,Ba]
  |true=>
   simp only[aa,Ba,Xa,Zd,zpZ h,Aa,Ya];cases clL l with
   |true=>rfl
   |false=>
    simp only[Ba,zA1 h,Aa,zKL,zDE,ZH,Cf,Xa,Ya,zEu hn,zQ];have hl:zU (fun(s7:Int)=>
     bif decide (s7<(l.length:Int))then
      za (geti l s7) fun y8=>
      bif bif y8.token.kind==17 then true else bif y8.token.kind==9 then y8.token.text==[33]else false then
       some (LO.ret false)
      else
       some (LO.again (w64 (s7+1)))
     else
      some (LO.out ()):Int->Option (LO (Int) (Unit) _)) 0 (fun _=>some true)=some (!(l.any badV)):=by
     refine(qc l (fun v=>bif badV v then some false else none) () (fun i hi=> ?_) ?_).trans ?_
     ·simp only[Zb hi,Ca,zN hi,za,Aa,badV,zK hi (show l.length<=big by omega)];cases l[i].token.kind==17<;>cases l[i].token.kind==9<;>cases l[i].token.text==[33]<;>rfl
     ·simp only[Ze,Ba]
     ·rw[YI];cases l.any badV<;>rfl
    unfold dA;simp only[za]at hl;rw[hl];cases Yn l<;>cases l.isEmpty<;>cases List.isPrefixOf [45,45] x<;>cases l.any badV<;>rfl
theorem ztX{d:Zx}(hv:szL d.value<=big)(hn:d.name.length<=big):Jr d=some (bif Tf d then 0 else 8):=by
 unfold Jr Tf;simp only[ztY hn,za,Aa];cases hnd:Vj d.name with
 |false=>rfl
 |true=> simp only[aa,Xa,Zd,zsa hv hnd,Aa,Ya];cases (errS d.value==0&&(gluS (tokL d.value)==0&&(!clL d.value&&dA (List.isPrefixOf [45,45] d.name) d.value)))<;>rfl
end Go.Lv.VT
