/- Recursion and loops, by relations; what is monotone. -/
import Derived.Test.YtbgmaekmfjhfoaaGreatDoorMo
import Derived.Test.YtbgmaekmfjhfoaaGreatDoorLf
import Derived.Test.YtbgmaekmfjhfoaaGreatDoorTx
import Derived.Test.YtbgmaekmfjhfoaaGreatDoorIp
set_option linter.unusedSimpArgs false
set_option linter.unusedVariables false
namespace Go.Lv
theorem Le.lp{S X R:Type}{step step':S->Option (LO S X R)}{s:S}{k k':X->Option R}(h: ∀s,Le (step s) (step' s))(hk: ∀x,Le (k x) (k' x)):Le (Zl step s k) (Zl step' s k'):=by
 intro y hy;replace hy:((ag step s).bind fun x=>match x with| .out x=>k x| .ret r=>some r)=some y:=hy;cases hl:ag step s with
 |none=>rw[hl]at hy;cases hy
 |some r=>
  rw[hl]at hy;obtain⟨n,hn⟩:=XO hl;rw[qU (oh (eF h n s r hn))];cases r with
  |out x=>exact hk x y hy
  |ret r=>exact hy
def Eu{X Y:Type}(B:(X->Option Y)->X->Option Y):Prop:= ∀S S':X->Option Y,(∀x,Le (S x) (S' x))-> ∀x,Le (B S x) (B S' x)
theorem wy {X Y:Type} {B:(X->Option Y)->X->Option Y} (hm:Eu B) (μ:X->Nat) (ok:X->Prop) (R:X->Y->Prop)
  (hB: ∀(S:X->Option Y) (x:X),ok x->(∀z,ok z->μ z<μ x-> ∃y,S z=some y/\R z y)-> ∃y,B S x=some y/\R x y) {x:X} (hx:ok x): ∃y,recE B x=some y/\R x y:=by
 have step: ∀n x,Le (kg B n x) (kg B (n+1) x):=by
  intro n
  induction n with
  |zero=>intro x;exact Le.none
  |succ n ih=>intro x;exact hm _ _ ih x
 have up: ∀d n x,Le (kg B n x) (kg B (n+d) x):=by
  intro d
  induction d with
  |zero=>intro n x;exact Le.rfl
  |succ d ih=>intro n x y hy;exact step _ x y (ih n x y hy)
 have key: ∀(m:Nat) (x:X),μ x<m->ok x-> ∃y,kg B m x=some y/\R x y:=by
  intro m
  induction m with
  |zero=>intro x h;omega
  |succ m ih=> intro x hm hok;exact hB _ x hok fun z hz hlt=>ih z (by omega) hz
 obtain⟨y,h1,h2⟩:=key (μ x+1) x (by omega) hx;refine⟨y,dE (N:=μ x+1) fun n hn=> ?_,h2⟩;obtain⟨d,rfl⟩:=Nat.le.dest hn;exact up d _ x y h1
theorem zB4 {A S X R:Type} {step:S->Option (LO S X R)} {k:X->Option R} (n:Nat) (st:Nat->A->S) (Inv:Nat->A->Prop) (Q:R->Prop) {s0:S} {a0:A} (h0:s0=st 0 a0) (hI:Inv 0 a0)
  (hg: ∀(i:Nat) (a:A),i<n->Inv i a->(∃a',step (st i a)=some (.again (st (i+1) a'))/\Inv (i+1) a')\/(∃r,step (st i a)=some (.ret r)/\Q r)\/(∃x,step (st i a)=some (.out x)/\ ∃r,k x=some r/\Q r))
  (hf: ∀a,Inv n a->(∃x,step (st n a)=some (.out x)/\ ∃r,k x=some r/\Q r)\/(∃r,step (st n a)=some (.ret r)/\Q r)): ∃r,Zl step s0 k=some r/\Q r:=by
 have key: ∀(m i:Nat) (a:A),i+m=n->Inv i a-> ∃j x,qa step j (st i a)=some x/\ ∃r,LX.go x k=some r/\Q r:=by
  intro m
  induction m with
  |zero=>
   intro i a hi ha;obtain rfl:i=n:=by omega
   rcases hf a ha with⟨x,h1,r,h2,h3⟩|⟨r,h1,h2⟩
   ·exact⟨1, .out x,by simp only[qa,h1],r,h2,h3⟩
   ·exact⟨1, .ret r,by simp only[qa,h1],r,rfl,h2⟩
  |succ m ih=>
   intro i a hi ha;rcases hg i a (by omega) ha with⟨a',h1,h2⟩|⟨r,h1,h2⟩|⟨x,h1,r,h2,h3⟩
   ·obtain⟨j,x,g1,g2⟩:=ih (i+1) a' (by omega) h2;exact⟨j+1,x,by simp only[qa,h1];exact g1,g2⟩
   ·exact⟨1, .ret r,by simp only[qa,h1],r,rfl,h2⟩
   ·exact⟨1, .out x,by simp only[qa,h1],r,h2,h3⟩
 obtain⟨j,x,h1,r,h2,h3⟩:=key n 0 a0 (by omega) hI;refine⟨r,?_,h3⟩;rw[h0,qU (oh h1),h2]
namespace VT
def mx{α:Type}(f:α->Nat):List α->Nat
 |[]=>0
 |v::l=>max (f v) (mx f l)
theorem NT(a b:Nat):(if(b:Int)>(a:Int)then(b:Int)else(a:Int))=((max a b:Nat):Int):=by split<;>omega
end VT
def Has{α:Type}(x:Option α)(Q:α->Prop):Prop:= ∃y,x=some y/\Q y
def LXq{X R:Type}(P:X->Prop)(Q:R->Prop):LX X R->Prop
 | .out x=>P x
 | .ret r=>Q r
def LOq{S X R:Type}(I:S->Prop)(P:X->Prop)(Q:R->Prop):LO S X R->Prop
 | .again s=>I s
 | .out x=>P x
 | .ret r=>Q r
section
variable {α β S X R:Type}
theorem Has.some{y:α}{Q:α->Prop}(h:Q y):Has (Option.some y) Q:=⟨y,rfl,h⟩
theorem Has.of{x:Option α}{y:α}{Q:α->Prop}(e:x=Option.some y)(h:Q y):Has x Q:=⟨y,e,h⟩
theorem Has.wk{x:Option α}{Q Q':α->Prop}(h:Has x Q)(g: ∀y,Q y->Q' y):Has x Q':=let⟨y,e,q⟩:=h;⟨y,e,g y q⟩
theorem Has.bind{x:Option α}{P:α->Prop}{f:α->Option β}{Q:β->Prop}(h:Has x P)(g: ∀y,P y->Has (f y) Q):Has (ze x f) Q:=by obtain⟨y,rfl,p⟩:=h;exact g y p
theorem Has.eqb{x:Option α}{y:α}{f:α->Option β}{Q:β->Prop}(e:x=Option.some y)(g:Has (f y) Q):Has (ze x f) Q:=by rw[e];exact g
theorem Has.bif{c:Bool}{a b:Option α}{Q:α->Prop}(h:c=true->Has a Q)(g:c=false->Has b Q):Has (bif c then a else b) Q:=by
 cases c
 ·exact g rfl
 ·exact h rfl
theorem Has.need{c:Bool}{a:Option α}{Q:α->Prop}(h:c=true)(g:Has a Q):Has (Lv.need c a) Q:=by rw[h];exact g
theorem Has.cond{c:Bool}{a:Option α}{d:α}{Q:α->Prop}(h:c=true->Has a Q)(g:c=false->Q d):Has (zI c a d) Q:=by
 cases c
 ·exact⟨d,rfl,g rfl⟩
 ·exact h rfl
theorem Has.join{m:Option (LX X R)}{k:X->Option R}{P:X->Prop}{Q:R->Prop}(h:Has m (LXq P Q))(g: ∀x,P x->Has (k x) Q):Has (Zt m k) Q:=by
 obtain⟨y,rfl,p⟩:=h;cases y with
 |out x=>exact g x p
 |ret r=>exact⟨r,rfl,p⟩
theorem Has.loop {step:S->Option (LO S X R)} {s:S} {k:X->Option R} (I:S->Prop) (μ:S->Nat) {P:X->Prop} {Q:R->Prop} (h0:I s)
  (h: ∀s,I s->Has (step s) (LOq (fun s'=>I s'/\μ s'<μ s) P Q)) (g: ∀x,P x->Has (k x) Q):Has (Zl step s k) Q:=by
 have key: ∀(m:Nat) (s:S),μ s<m->I s-> ∃n r,qa step n s=Option.some r/\LXq P Q r:=by
  intro m
  induction m with
  |zero=>intro s h;omega
  |succ m ih=>
   intro s hm hs;obtain⟨y,e,q⟩:=h s hs;cases y with
   |again s'=> obtain⟨n,r,e',q'⟩:=ih s' (by have:=q.2;omega) q.1;exact⟨n+1,r,by simp only[qa,e];exact e',q'⟩
   |out x=>exact⟨1, .out x,by simp only[qa,e],q⟩
   |ret r=>exact⟨1, .ret r,by simp only[qa,e],q⟩
 obtain⟨n,r,e,q⟩:=key _ s (Ie _) h0;rw[qU (oh e)];cases r with
 |out x=>exact g x q
 |ret r=>exact⟨r,rfl,q⟩
end
end Go.Lv

namespace Go.Lv.VT
def Gx(n:Nat):Nat:=if 65<=n/\n<=90 then n+32 else n
def Nq(b:UInt8):UInt8:=UInt8.ofNat (Gx b.toNat)
theorem zGb: ∀n:Nat,n<256->(bif decide (65<=(n:Int))then decide ((n:Int)<=90)else false)=true->Df (ibOr IntKind.u8 (n:Int) 32)=some (UInt8.ofNat (Gx n)):=by decide+kernel
def lowS(l:Str):Str:=l.map Nq
theorem xK{α:Type}{l:List α}{i:Nat}(h:i<l.length)(f:α->α):((l.take i).map f++l.drop i).set i (f l[i])=(l.take (i+1)).map f++l.drop (i+1):=by
 apply List.ext_getElem
 ·simp;omega
 ·intro j h1 h2;rw[List.getElem_set];split
  ·rename_i hij;subst hij;rw[List.getElem_append_left (by simp;omega)];simp
  ·rename_i hij;simp only[List.getElem_append,Ab,Tc,List.getElem_map,List.getElem_take,List.getElem_drop];split
   ·rename_i hlt;rw[dif_pos (by omega)]
   ·rename_i hlt;rw[dif_neg (by omega)];congr 1;omega
theorem YJ{α:Type}{l:List α}{i:Nat}(h:i<l.length)(f:α->α):((l.take i).map f++l.drop i)[i]? =some l[i]:=by rw[pg (by simp;omega)];simp[h,Nat.min_eq_left (Nat.le_of_lt h)]
theorem XJ{α:Type}{l:List α}{i:Nat}(h:i<=l.length)(f:α->α):((l.take i).map f++l.drop i).length=l.length:=by simp;omega
theorem zB9{α:Type}{l:List α}{i:Nat}(h:i<l.length)(f:α->α)(e:f l[i]=l[i]):(l.take i).map f++l.drop i=(l.take (i+1)).map f++l.drop (i+1):=by
 rw[<-xK h f,e];apply List.ext_getElem?;intro j;rw[List.getElem?_set];split
 ·rename_i hij;subst hij;rw[YJ h,XJ (Nat.le_of_lt h),Ka h]
 ·rfl
theorem Px(i:Nat):decide ((0:Int)<=(i:Int))=true:=Fa (by omega)
theorem Ym{l:Str}(h:l.length<=big):ZJ l=some (lowS l):=by
 unfold ZJ;rw[ZN (Fa (by unfold big at h;unfold maxLen;omega))];have key: ∀(k i:Nat),i+k=l.length-> ∃n,qa (X:=List UInt8) (R:=Str) (fun(s1:Int×List UInt8)=>
   bif decide (s1.1<(l.length:Int))then
    Zt (X:=Int×List UInt8) (
      need (decide (0<=s1.1)&&decide (s1.1<(s1.2.length:Int)))<|
      ze s1.2[s1.1.toNat]? fun y2=>
      bif bif decide (65<=(y2.toNat:Int))then decide ((y2.toNat:Int)<=90)else false then
       need (decide (0<=s1.1)&&decide (s1.1<(s1.2.length:Int)))<|
       ze s1.2[s1.1.toNat]? fun y3=>
       need (decide (0<=s1.1)&&decide (s1.1<(s1.2.length:Int)))<|
       ze s1.2[s1.1.toNat]? fun y4=>
       ze (Df (ibOr IntKind.u8 (y3.toNat:Int) 32)) fun y5=>
       some (LX.out (s1.1,List.set s1.2 s1.1.toNat y5))
      else
       some (LX.out (s1.1,s1.2))) fun j6=>
    some (LO.again (w64 (j6.1+1),j6.2))
   else
    some (LO.out s1.2)) n ((i:Int),(l.take i).map Nq++l.drop i)=some (.out (lowS l)):=by
  intro k
  induction k with
  |zero=>
   intro i hi;have hi:i=l.length:=by omega
   subst hi;refine⟨1,?_⟩;simp only[qa,ZM,Ba];simp[lowS]
  |succ k ih=>
   intro i hi;have hlt:i<l.length:=by omega
   obtain⟨n,hn⟩:=ih (i+1) (by omega);refine⟨n+1,?_⟩;have hb:=Uc l[i];simp only[qa,XJ (Nat.le_of_lt hlt),ZY hlt,Ca,Px,Ic,Zy,Ib,YJ hlt,ze,Aa];cases hc:(bif decide (65<=(l[i].toNat:Int))then decide ((l[i].toNat:Int)<=90)else false)with
   |true=> have e:=zGb _ hb hc;simp only[e,Ca,Aa,zG,Zw hlt h];rw[show UInt8.ofNat (Gx l[i].toNat)=Nq l[i]from rfl,xK hlt];exact hn
   |false=>
    have e:Nq l[i]=l[i]:=by unfold Nq Gx;rw[Ha,Re];rintro⟨h1,h2⟩;rw[Fa (by omega),Ca,Fa (by omega)]at hc;cases hc
    simp only[Ba,zG,Zw hlt h];rw[zB9 hlt Nq e];exact hn
 obtain⟨n,hn⟩:=key l.length 0 (by omega);replace hn:=oh hn;simp only[List.take_zero,List.map_nil,Gc,List.drop_zero]at hn;exact(qU hn).trans rfl
def Q6(l:Str):Bool:=l.all fun b=> !(b==0)
theorem oD(c:UInt8): ∀l:Str,decide (Lib.indexByte l c>=0)=l.any fun b=>b==c
 |[]=>rfl
 |b::l=>by
  have ih:=oD c l;have hg:=Lib.indexByte_ge l c;rw[List.any_cons,Lib.indexByte];cases hb:(b==c)with
  |true=>rfl
  |false=>
   rw[yf,<-ih,Ha (by simp)];by_cases h:Lib.indexByte l c= -1
   ·rw[Ka (by rw[h];rfl),h]
   ·rw[Ha (by simpa using h)];rw[Fa (by omega),Fa (by omega)]
theorem zEJ(l:Str):(l.any fun b=>b==0)= !Q6 l:=by
 unfold Q6
 induction l with
 |nil=>rfl
 |cons b l ih=>rw[List.any_cons,Ke,ih];cases (b==0)<;>simp
theorem Gt(l:Str)(n:Int):strings_IndexByte (l,n)=some (Lib.indexByte l n.toNat.toUInt8):=rfl
theorem su(l:Str):decide (Lib.indexByte l (0:Int).toNat.toUInt8>=0)= !Q6 l:=(oD 0 l).trans (zEJ l)
def Ak(l:Str):Bool:= !(l==[])&&(decide (l.length<=64)&&Q6 l)
theorem ik(n m:Nat):decide ((n:Int)>(m:Int))= !decide (n<=m):=by
 by_cases h:n<=m
 ·rw[Fa h,Ta (by omega)];rfl
 ·rw[Ta h,Fa (by omega)];rfl
def Mq(l:Str):Bool:=Ak l&&lowS l==l
theorem FW(a b:Str):(a==b)=(b==a):=by
 cases h:(a==b)with
 |true=>rw[Ob]at h;subst h;exact(He a).symm
 |false=>rw[Ga]at h;exact(Ga.2 (Ne.symm h)).symm
theorem uC(n m:Nat):decide ((n:Int)<=(m:Int))=decide (n<=m):=by
 by_cases h:n<=m
 ·rw[Fa h,Fa (by omega)]
 ·rw[Ta h,Ta (by omega)]
theorem Ir{f:Option Int}{p:Bool}{i:Int}(h:f=some i)(hp:decide (i>=0)=p):(ze f fun y=>some (decide (y>=0)))=some p:=by rw[h];exact congrArg some hp
theorem bK{α:Type}(p:α->Bool)(l:List α):(l.any fun v=> !p v)= !l.all p:=by
 induction l with
 |nil=>rfl
 |cons v l ih=>rw[List.any_cons,Ke,ih];cases p v<;>rfl
theorem Q8(l m:Str):strings_HasPrefix (l,m)=some (m.isPrefixOf l):=by
 have key: ∀m l:Str,m.isPrefixOf l=(decide (m.length<=l.length)&&l.take m.length==m):=by
  intro m l;rw[Lg];simp only[List.isPrefixOf_iff_prefix,Ea,Ua,Ob];constructor
  ·rintro⟨t,rfl⟩;exact⟨by simp,by simp⟩
  ·rintro⟨h1,h2⟩;exact⟨l.drop m.length,by rw[<-h2,Tc,Nat.min_eq_left h1,Xf]⟩
 unfold strings_HasPrefix stringslite_HasPrefix;have e1:decide ((l.length:Int)>=(m.length:Int))=decide (m.length<=l.length):=uC _ _;have e2:decide ((m.length:Int)<=(l.length:Int))=decide (m.length<=l.length):=uC _ _;simp only[e1,e2,Px,Kb,key];cases decide (m.length<=l.length)<;>rfl
theorem gZ(l m:Str):strings_TrimPrefix (l,m)=some (bif m.isPrefixOf l then l.drop m.length else l):=by
 have h:stringslite_HasPrefix (l,m)=some (m.isPrefixOf l):=by
  have:=Q8 l m;unfold strings_HasPrefix at this;cases hh:stringslite_HasPrefix (l,m)with
  |none=>simp only[hh]at this;cases this
  |some b=>simp only[hh]at this;exact this
 unfold strings_TrimPrefix stringslite_TrimPrefix;simp only[h,ze,Aa];cases hp:m.isPrefixOf l with
 |false=>rfl
 |true=> have hl:=(List.isPrefixOf_iff_prefix.1 hp).length_le;simp only[Ca,Px,Kb];rw[ZN (Fa (by omega))];rfl
theorem dm{a b:Str}(h1:a.length<=big)(h2:b.length<=big):ZW (a,b)=some (lowS a==lowS b):=by unfold ZW;simp only[Ym h1,Ym h2,ze,Aa]
def Wu(n:Nat):Bool:=
 !(n==0||n==9||n==10||n==12||n==13||n==32||n==34||n==39||n==40||n==41||n==44||n==58||n==59||n==91||n==93||n==95||n==123||n==125)&&
  (decide (n<128)&& !((decide (48<=n)&&decide (n<=57))||(decide (65<=n)&&decide (n<=90))||(decide (97<=n)&&decide (n<=122))))
def digN(n:Nat):Bool:=decide (48<=n)&&decide (n<=57)
theorem BZ: ∀n:Nat,n<256->Ps (n:Int)=some (digN n):=by decide+kernel
theorem O3(b:UInt8):Ps (b.toNat:Int)=some (digN b.toNat):=(BZ _ (Uc b))
def namN(n:Nat):Bool:=digN n||(decide (65<=n)&&decide (n<=90))||(decide (97<=n)&&decide (n<=122))||n==95||n==45||decide (128<=n)
theorem yY: ∀n:Nat,n<256->KA (n:Int)=some (namN n):=by decide+kernel
theorem M3(b:UInt8):KA (b.toNat:Int)=some (namN b.toNat):=(yY _ (Uc b))
def Gu:Str->Bool
 |[]=>false
 |b::r=>digN b.toNat||(b==45&&(r==[]||digN (r.headD 0).toNat))
theorem fE(b c:UInt8):((b.toNat:Int)==(c.toNat:Int))=(b==c):=by
 by_cases h:b=c
 ·subst h;simp
 ·have h2:b.toNat≠c.toNat:=fun e=>h (Gf.1 e);rw[Ga.2 h,Ga.2 (by omega)]
def numS:Str->Bool
 |[]=>false
 |b::r=>bif b==45 then !(r==[])&&digN (r.headD 0).toNat else digN b.toNat
theorem K7(l:Str):JB l=some (numS l):=by
 unfold JB;simp only[gZ,ze,Aa];have key: ∀m:Str,((zI (!(m==[])) (geti m 0) 0).bind fun y2=>(zI (!(m==[])) (Ps (y2.toNat:Int)) (default:Bool)).bind fun y3=>some (bif !(m==[])then y3 else false))=some (!(m==[])&&digN (m.headD 0).toNat):=by
  intro m;cases m with
  |nil=>rfl
  |cons b r=> have h0:geti (b::r) 0=some b:=rfl;have hn:(b::r==([]:Str))=false:=rfl;simp only[hn,Xa,Zk,h0,Aa,O3,Ca,List.headD_cons,Kb]
 rw[key];cases l with
 |nil=>rfl
 |cons b r=>
  have e:List.isPrefixOf [45] (b::r)=(b==45):=by
   show((45==b)&&true)=_;rw[Ic];cases hb:(b==45)with
   |true=>rw[Ob]at hb;subst hb;rfl
   |false=>rw[Ga]at hb;exact Ga.2 (Ne.symm hb)
  rw[e];show _=some (bif b==45 then !(r==[])&&digN (r.headD 0).toNat else digN b.toNat);cases b==45<;>rfl
theorem zCh(l:Str):((numS l&& !(List.isPrefixOf [45,45] l))||l==[45])=Gu l:=by
 cases l with
 |nil=>rfl
 |cons b r=>
  cases hb:(b==45)with
  |false=>
   have e1:List.isPrefixOf [45,45] (b::r)=false:=by show((45==b)&&_)=_;rw[Ga]at hb;rw[Ga.2 (Ne.symm hb)];rfl
   have e2:((b::r:Str)==[45])=false:=by show((b==45)&&_)=_;rw[hb];rfl
   rw[e1,e2];unfold numS Gu;simp[hb]
  |true=>
   rw[Ob]at hb;subst hb;cases r with
   |nil=>rfl
   |cons d r=>
    have e2:((45::d::r:Str)==[45])=false:=rfl;rw[e2];unfold numS Gu;have e1:List.isPrefixOf [45,45] (45::d::r)=(45==d):=by show((45==(45:UInt8))&&((45==d)&&true))=_;rw[Ic];rfl
    rw[e1];simp only[List.headD_cons];have hd:digN 45=false:=by decide
    cases h:(45==d)with
    |false=>simp[hd]
    |true=>rw[Ob]at h;subst h;rfl
def delS(l:Str):Bool:=match l with
 |[b]=>Wu b.toNat
 |_=>false
def rngS(x:zk):Bool:=decide (-1000000000000<=x.num)&&(decide (x.num<=1000000000000)&&(!x.flag||Int.tmod x.num 1000==0))
def DJ(x:zk):Bool:=
 bif x.kind==1||x.kind==2||x.kind==3 then !(x.text==[])&&(Q6 x.text&&(x.num==0&&(x.unit==[]&& !x.flag)))
 else bif x.kind==4 then !(x.text==[])&&(Q6 x.text&&((x.flag||Gu x.text)&&(x.num==0&&x.unit==[])))
 else bif x.kind==5||x.kind==7 then Q6 x.text&&(x.num==0&&(x.unit==[]&& !x.flag))
 else bif x.kind==9 then delS x.text&&(x.num==0&&(x.unit==[]&& !x.flag))
 else bif x.kind==10||x.kind==11||x.kind==12 then rngS x&&((!(x.unit==[])==(x.kind==12))&&(Q6 x.unit&&((!(x.kind==11)|| !x.flag)&&x.text==[])))
 else(decide (13<=x.kind)&&decide (x.kind<=24))&&(x.text==[]&&(x.num==0&&(x.unit==[]&& !x.flag)))
abbrev Ku:Str:=[32,9,10,12,13,34,39,58,59,44,91,93,40,41,123,125]
theorem eG: ∀(m:Str) (c:UInt8),Lib.index m [c]=Lib.indexByte m c
 |[],c=>rfl
 |b::l,c=>by
  have h:List.isPrefixOf [c] (b::l)=(b==c):=by
   show(c==b&&List.isPrefixOf [] l)=_;rw[List.isPrefixOf,Ic];by_cases e:b=c
   ·subst e;rfl
   ·rw[Ga.2 e,Ga.2 (fun h=>e h.symm)]
  rw[Lib.index,Lib.indexByte,h,eG l c]
theorem contains_one(m:Str)(c:UInt8)(hm:short m=true:=by decide):strings_Contains (m,[c])=some (m.any fun b=>b==c):=by unfold strings_Contains;simp only[ek,hm,Zy,ze,Aa,eG,oD]
theorem R5(c:UInt8):strings_Contains ([32,9,10,12,13,34,39,58,59,44,91,93,40,41,123,125],[c])=some (Ku.any fun b=>b==c):=contains_one Ku c
theorem nW: ∀n:Nat,n<256->((bif bif !(UInt8.ofNat n==0)then !namN n else false then true else UInt8.ofNat n==45)&&(!(Ku.any fun b=>b==UInt8.ofNat n)))=Wu n:=by decide+kernel
theorem zBD(b:UInt8):((bif bif !(b==0)then !namN b.toNat else false then true else b==45)&&(!(Ku.any fun c=>c==b)))=Wu b.toNat:=by
 have:=nW b.toNat (Uc b)
 rwa [Re]at this
theorem DY(a b:Str):Q6 (a++b)=(Q6 a&&Q6 b):=by unfold Q6;rw[List.all_append]
theorem sJ(n:Int):decide (n<0)= !decide (n>=0):=by
 by_cases h:n<0
 ·rw[Fa h,Ta (by omega)];rfl
 ·rw[Ta h,Fa (by omega)];rfl
theorem zGi(g d:Bool)(b c:UInt8):(bif g then namN (bif g then b else c).toNat else d)=bif g then namN b.toNat else d:=by cases g<;>rfl
theorem AZ{x:zk}(h1:x.text.length<=big)(h2:x.unit.length<=big):nz x=some (DJ x):=by
 unfold nz;rw[ZN (Uv.2 (by grind))];simp only[ze,Gt,Aa];have hn:decide (Lib.indexByte (x.text++x.unit) (0:Int).toNat.toUInt8<0)=(Q6 x.text&&Q6 x.unit):=by rw[sJ,su,DY,Bool.not_not]
 simp only[hn,K7,Q8,ZF,Aa,ge_iff_le,bne];have hb:=zCh x.text;unfold DJ rngS;by_cases k9:x.kind=9
 ·simp only[k9,Int.reduceBEq,Ca,Ba,zG,Ff,yf];cases ht:x.text with
  |nil=>
   have:Q6 ([]:Str)=true:=rfl;simp only[this,Kb];cases Q6 x.unit<;>rfl
  |cons b r=>
   cases r with
   |nil=>
    have hd:=zBD b;have e1:((([b]:Str).length:Int)==1)=true:=rfl;have e2:geti [b] 0=some b:=rfl;have e3:(([b]:Str)==[45])=(b==45):=by show((b==45)&&true)=_;rw[Ic]
    have e4:Q6 [b]= !(b==0):=by show((!(b==0))&&true)=_;rw[Ic]
    have e5:delS [b]=Wu b.toNat:=rfl;simp only[e1,e2,e3,e4,e5,R5,M3,ZF,Aa,zGi,<-hd];cases hu:x.unit with
    |nil=>
     have:Q6 ([]:Str)=true:=rfl;simp only[this,Ic];generalize (Ku.any fun c=>c==b)=a1;cases namN b.toNat<;>cases (b==0)<;>cases (b==45)<;>cases a1<;>cases (x.num==0)<;>cases x.flag<;>rfl
    |cons c s=> simp_all
   |cons c r=>
    have e1:(((b::c::r:Str).length:Int)==1)=false:=Ga.2 (by grind);have e3:((b::c::r:Str)==[45])=false:=by show((b==45)&&false)=_;rw[Jd]
    have e5:delS (b::c::r)=false:=rfl;simp only[e1,e3,e5];simp_all
 have b9:=Ga.2 k9;have hu:(x.unit==[])=true->Q6 x.unit=true:=fun h=>by rw[Ob]at h;rw[h];rfl
 have htx:(x.text==[])=true->Q6 x.text=true:=fun h=>by rw[Ob]at h;rw[h];rfl
 rw[<-hb];generalize hl45:(x.text==[45])=a11 at*;generalize (List.isPrefixOf [45,45] x.text)=a12 at*;generalize numS x.text=a3 at*;generalize Q6 x.text=a1 at*;generalize Q6 x.unit=a2 at*;generalize (x.text==[])=a4 at*;generalize (x.unit==[])=a5 at*;generalize (x.num==0)=a6 at*;generalize x.flag=a7 at*;generalize decide (-1000000000000<=x.num)=a8 at*;generalize decide (x.num<=1000000000000)=a9 at*;generalize (Int.tmod x.num 1000==0)=a10 at*;clear hb hn hl45;have K: ∀k:Int,k∈[1,2,3,4,5,7,10,11,12]->x.kind=k->True:=fun _ _ _=>trivial;clear K;by_cases k1:x.kind=1
 ·simp only[k1,zG,Ca,Ba,Int.reduceBEq]
  grind
 by_cases k2:x.kind=2
 ·simp only[k2,zG,Ca,Ba,Int.reduceBEq]
  grind
 by_cases k3:x.kind=3
 ·simp only[k3,zG,Ca,Ba,Int.reduceBEq]
  grind
 by_cases k4:x.kind=4
 ·simp only[k4,zG,Ca,Ba,Int.reduceBEq]
  grind
 by_cases k5:x.kind=5
 ·simp only[k5,zG,Ca,Ba,Int.reduceBEq]
  grind
 by_cases k7:x.kind=7
 ·simp only[k7,zG,Ca,Ba,Int.reduceBEq]
  grind
 by_cases k10:x.kind=10
 ·simp only[k10,zG,Ca,Ba,Int.reduceBEq]
  grind
 by_cases k11:x.kind=11
 ·simp only[k11,zG,Ca,Ba,Int.reduceBEq]
  grind
 by_cases k12:x.kind=12
 ·simp only[k12,zG,Ca,Ba,Int.reduceBEq]
  grind
 simp only[b9,Ga.2 k1,Ga.2 k2,Ga.2 k3,Ga.2 k4,Ga.2 k5,Ga.2 k7,Ga.2 k10,Ga.2 k11,Ga.2 k12,zG,Ca,Ba,Bool.or_self];cases decide (13<=x.kind)<;>cases decide (x.kind<=24)<;>cases a4<;>cases a5<;>cases a6<;>cases a7<;>rfl
theorem gX {R:Type} {step:Int->Option (LO Int Unit R)} {k:Unit->Option R} (n:Nat) (p:Nat->Bool) (r:R)
  (c: ∀(i:Nat),i<n->step (i:Int)=some (bif p i then .again ((i+1:Nat):Int)else .ret r)) (a:step (n:Int)=some (.out ())):
  Zl step 0 k=bif (List.range n).all p then k ()else some r:=by
 have e:=IA (k:=k) (List.range n) (fun i=>bif p i then none else some r) () (fun i b=> ?_) (by simpa using a)
 ·rw[e,Nv]
  grind
 grind
def FI:List zk->Bool
 |[]=>false
 |s::r=>bif s.kind==13 then(match r with|u::_=>u.kind==5|[]=>false)else s.kind==5
def zGm:List zk->Bool
 |[]=>false
 |s::_=>s.kind==13
def VI(t:zk):Bool:=t.kind==2&&lowS t.text==[117,114,108]
def okAt:List zk->Bool
 |[]=>true
 |t::r=>(!(t.kind==9&&t.text==[92])||zGm r)&&(!(VI t)||FI r)
def aI(l:List zk)(i:Nat):Bool:=DJ (l.getD i default)&&okAt (l.drop i)
def gluS(l:List zk):Int:=bif decide (l.length<=1500)then(bif (List.range l.length).all (aI l)then 0 else 8)else 4
theorem ME(l:List zk)(i:Nat)(k:Int):Q7 (((i:Int),k),l)=some (match l[i]? with|some t=>t.kind==k|none=>false):=by
 unfold Q7;by_cases h:i<l.length
 ·simp only[ZY h,Zk,Zu h,ze,Aa,Ca,Ra h]
 ·have e:decide ((i:Int)<(l.length:Int))=false:=Ta (by omega);simp only[e,qI,ze,Aa,Ba,af (Nat.le_of_not_lt h)]
theorem bJ:lowS [117,114,108]=[117,114,108]:=by decide
theorem K3{t:zk}{r:List zk}(h:t.text.length<=big): ∃n:Int,JA (t::r)=some n/\(n==0)= !okAt (t::r):=by
 have e0:geti (t::r) 0=some t:=rfl;have p1:=ME (t::r) 1 13;have p15:=ME (t::r) 1 5;have p25:=ME (t::r) 2 5;unfold JA;simp only[e0,ze,Aa,dm h (show([117,114,108]:Str).length<=big by decide),bJ,ZF];simp only[Int.natCast_one]at p1 p15;replace p25:Q7 ((2,5),t::r)=_:=p25;rw[p1];unfold okAt VI;cases hd:(t.kind==9&&t.text==[92])with
 |true=>
  have hk:t.kind=9:=by rw[Ea,Ob]at hd;exact hd.1
  have ht:(t.text==[92])=true:=by rw[Ea]at hd;exact hd.2
  simp only[hk,ht,Int.reduceBEq,Ca,Ba,Aa];cases r with
  |nil=>exact⟨_,rfl,rfl⟩
  |cons s r=>
   show∃n:Int,(bif !(s.kind==13)then some 0 else some 2)=some n/\(n==0)= !((!true||s.kind==13)&&_);cases s.kind==13
   ·simp_all
   simp_all
 |false=>
  have hc:(bif t.kind==9 then t.text==[92]else false)=false:=by
   cases h9:t.kind==9
   ·rfl
   ·grind
  simp only[hc,hd,Ba,Xa,Bool.true_or,Kb];cases hu:(t.kind==2&&lowS t.text==[117,114,108])with
  |false=>
   have:(bif t.kind==2 then bif t.kind==2 then lowS t.text==[117,114,108]else default else false)=false:=by
    cases h2:t.kind==2
    ·rfl
    ·grind
   rw[this]
   grind
  |true=>
   rw[Ea]at hu;rw[hu.1,hu.2];simp only[Ca,Aa];cases r with
   |nil=>exact⟨0,by simp[p15],rfl⟩
   |cons s r=>
    cases hs:s.kind==13 with
    |false=>
     have e1:(match(t::s::r)[1]? with|some t=>t.kind==13|none=>false)=false:=hs;have e5:Q7 ((1,5),t::s::r)=some (s.kind==5):=p15;simp only[e1,Ba,zG,e5,Aa,FI,hs];cases s.kind==5
     ·grind
     ·exact⟨2,by rfl,rfl⟩
    |true=>
     have e1:(match(t::s::r)[1]? with|some t=>t.kind==13|none=>false)=true:=hs;simp only[e1,Ca,zG,p25,Aa,FI,hs];cases r with
     |nil=>grind
     |cons u r=>
      show∃n:Int,(bif !(u.kind==5)then some 0 else some (w64 (2+1)))=some n/\(n==0)= !(!true||u.kind==5);cases u.kind==5
      ·grind
      ·exact⟨3,rfl,rfl⟩
theorem kW(l:List zk):decide ((l.length:Int)>1500)= !decide (l.length<=1500):=ik _ 1500
theorem R3{l:List zk}(h: ∀t∈l,t.text.length<=big/\t.unit.length<=big):Ew l=some (gluS l):=by
 unfold Ew gluS;rw[kW];cases e:decide (l.length<=1500)with
 |false=>rfl
 |true=>
  have e:=Ub e;simp only[Eb,Ba,Ca];refine(gX l.length (aI l) 8 (fun i a=> ?_) ?_).trans ?_
  ·obtain⟨d,j⟩:=h _ (Nb a);have b:l.getD i default=l[i]:=by simp[a]
   have c:=Fb a;obtain⟨n,f,k⟩:=K3 (t:=l[i]) (r:=l.drop (i+1)) d;rw[<-c]at f k;have g:decide ((i:Int)<=(l.length:Int))=true:=Fa (by omega);unfold aI;simp only[ZY a,Ca,Zu a,ze,Aa,AZ d j,Px,g,Kb,Bool.true_or,Zy,Ib,f,ZF,Zw a (show l.length<=big by unfold big;omega),b]
   grind
  ·grind
  grind
theorem WT(n m:Int):decide (n>=m)= !decide (n<m):=by
 by_cases h:n<m
 ·rw[Fa h,Ta (by omega)];rfl
 ·rw[Ta h,Fa (by omega)];rfl
def zL{α:Type}(f:α->List PV)(l:List α):Nat:=Rk (l.map f)
theorem Lh{α:Type}(f:α->List PV):zL f []=0:=rfl
theorem ZI{α:Type}(f:α->List PV)(v:α)(l:List α):zL f (v::l)=zy (f v)+zL f l:=rfl
theorem Vg{α:Type}{f:α->List PV}{v:α}: ∀{l:List α},v∈l->zy (f v)<=zL f l
 |[],h=>by cases h
 |x::l,h=>by
  rw[ZI];rcases Db.1 h with rfl|h
  ·omega
  ·have:=Vg (f:=f) h;omega
theorem Qw{α:Type}{f:α->List PV}(a: ∀v,1<=zy (f v)): ∀(l:List α),l.length<=zL f l
 |[]=>Sa _
 |v::l=>by rw[ZI,Da];have:=Qw a l;grind
theorem Gg{α:Type}{f:α->List PV}{a b:List α}(h:a.Sublist b):zL f a<=zL f b:=by
 induction h with
 |slnil=>grind
 |cons v _ c=>rw[ZI];omega
 |cons_cons v _ c=>rw[ZI,ZI];omega
theorem YT: ∀l:List UInt8,Rk (l.map fun y=>[PV.at (.int .u8 ((y.toNat:Nat):Int))])=l.length
 |[]=>rfl
 |b::l=>by have:=YT l;simp only[Bc,Rk,zy,bPV,Da]at this ⊢;omega
theorem Q5(x:za):zy (zf x)=6+x.token.text.length+x.token.unit.length+zL zf x.list:=by rw[fH];simp only[zy,bPV,zL];omega
mutual
/-- How large values are. -/
def szV:za->Nat
 |⟨t,l⟩=>1+t.text.length+t.unit.length+szL l
def szL:List za->Nat
 |[]=>0
 |v::r=>szV v+szL r
end
theorem Wi(v:za):szV v=1+v.token.text.length+v.token.unit.length+szL v.list:=by obtain⟨t,l⟩:=v;rw[szV]
theorem Jm{v:za}: ∀{l:List za},v∈l->szV v<=szL l
 |[],h=>by cases h
 |x::l,h=>by
  rw[szL];rcases Db.1 h with rfl|h
  ·omega
  ·have:=Jm h;omega
theorem Mh: ∀(l:List za),l.length<=szL l
 |[]=>Sa _
 |v::r=>by rw[szL,Wi,Da];have:=Mh r;omega
theorem KE(n:Nat):decide ((n:Int)>0)=decide (0<n):=by
 by_cases h:0<n
 ·rw[Fa h,Fa (by omega)]
 ·rw[Ta h,Ta (by omega)]
theorem iV(k:Int):FB k=some (Zb k):=by
 unfold FB Zb;by_cases h1:k=19
 ·subst h1;rfl
 by_cases h2:k=21
 ·subst h2;rfl
 by_cases h3:k=2
 ·subst h3;rfl
 by_cases h4:k=23
 ·subst h4;rfl
 have e1:(k==19)=false:=Ga.2 h1;have e2:(k==21)=false:=Ga.2 h2;have e3:(k==2)=false:=Ga.2 h3;have e4:(k==23)=false:=Ga.2 h4;simp only[e1,e2,e3,e4,Ba,zG,h1,h2,h3,h4,Od,or_self]
theorem eH(k:Int):Ws k=some (Zb k):=by
 unfold Ws Zb;by_cases h1:k=19
 ·subst h1;rfl
 by_cases h2:k=21
 ·subst h2;rfl
 by_cases h3:k=2
 ·subst h3;rfl
 by_cases h4:k=23
 ·subst h4;rfl
 have e1:(k==19)=false:=Ga.2 h1;have e2:(k==21)=false:=Ga.2 h2;have e3:(k==2)=false:=Ga.2 h3;have e4:(k==23)=false:=Ga.2 h4;simp only[e1,e2,e3,e4,Ba,zG,h1,h2,h3,h4,Od,or_self]
mutual
/-- The depth of values. -/
def Nk:za->Nat
 |⟨t,l⟩=>if Zb t.kind=0 then 0 else 1+jf l
def jf:List za->Nat
 |[]=>0
 |v::r=>max (Nk v) (jf r)
end
theorem yL(v:za):Nk v=if Zb v.token.kind=0 then 0 else 1+jf v.list:=by obtain⟨t,l⟩:=v;rw[Nk]
mutual
theorem zBC: ∀v:za,Nk v<=szV v
 |⟨t,l⟩=>by rw[Nk,szV];have:=Ov l;split<;>omega
theorem Ov: ∀l:List za,jf l<=szL l
 |[]=>Sa _
 |v::r=>by rw[jf,szL];have:=zBC v;have:=Ov r;omega
end
theorem ny{l:List za}: ∀{i:Nat} (h:i<l.length),szL (l.take (i+1))=szL (l.take i)+szV l[i]:=by
 induction l with
 |nil=>intro i h;cases h
 |cons v r ih=>
  intro i h;cases i with
  |zero=>simp[szL]
  |succ i=> simp only[Ce,szL,List.getElem_cons_succ];rw[ih (by simpa using h)];omega
theorem TA(l:List za)(i:Nat):szL (l.take i)<=szL l:=by
 induction l generalizing i with
 |nil=>simp
 |cons v r ih=>
  cases i with
  |zero=>simp[szL]
  |succ i=>simp only[Ce,szL];have:=ih i;omega
mutual
/-- The tokens of values. -/
def tokV:za->List zk
 |⟨t,l⟩=>t::if Zb t.kind=0 then []else tokL l++[⟨Zb t.kind,[],0,[],false⟩]
def tokL:List za->List zk
 |[]=>[]
 |v::r=>tokV v++tokL r
end
theorem Hm(v:za):tokV v=v.token::if Zb v.token.kind=0 then []else tokL v.list++[⟨Zb v.token.kind,[],0,[],false⟩]:=by obtain⟨t,l⟩:=v;rw[tokV]
mutual
theorem ku: ∀v:za,(tokV v).length<=2*szV v
 |⟨t,l⟩=>by
  rw[tokV,szV];have:=Yq l;split
  ·simp;omega
  ·simp;omega
theorem Yq: ∀l:List za,(tokL l).length<=2*szL l
 |[]=>Sa _
 |v::r=>by rw[tokL,szL,Ia];have:=ku v;have:=Yq r;omega
end
theorem Uz: ∀(l:List za) (a:List zk),l.foldl (fun a v=>a++tokV v) a=a++tokL l
 |[],a=>by simp[tokL]
 |v::l,a=>by rw[Xd,Uz l,tokL,ja]
theorem gV{l:List za}(h:szL l<=big):QE l=some (tokL l):=by
 refine ai (fun l=>szL l) (fun l=>szL l<=big) (fun l=>tokL l) (fun S l hl hS=> ?_) h;unfold XB;have hlen:=Mh l;refine(Uo l (fun i (a:List zk)=>((i:Int),a)) (fun v a=>some (.again (a++tokV v))) (fun a=>some (.out a)) (fun i a=>a.length<=2*szL (l.take i)) (a:=[]) rfl (by simp) (fun i a hi hI=> ?_) (fun a _=> ?_) (r:= .out (tokL l)) ?_)
 ·have hsz:=Jm (Nb hi);have hv2:=Wi l[i];have hd:=Hm l[i];have hd2:=Yq l[i].list;have ht:=ny hi;have ht2:=TA l (i+1);have hv3:=ku l[i];unfold big at hl;have hap: ∀n m:Nat,n+m<=100000000->Zp n m 56=true:=fun n m h=>ZU (by omega);refine⟨?_,fun a' ha=> ?_⟩
  ·simp only[ZY hi,Ca,ze,Zu hi,Aa,iV];by_cases hc:Zb l[i].token.kind=0
   ·rw[Ka hc]at hd;simp[hc,hd,Zw hi (by unfold big;omega),hap a.length 1 (by omega)]
   ·rw[Ha hc]at hd;rw[hS l[i].list (by unfold big;omega) (by omega)];have hb:(Zb l[i].token.kind != 0)=true:=Ve.2 hc;simp[hb,hd,Zw hi (by unfold big;omega),hap a.length 1 (by omega),hap (a.length+1) (tokL l[i].list).length (by omega),hap (a.length+((tokL l[i].list).length+1)) 1 (by omega)]
  ·cases ha;rw[Ia,ht];omega
 ·simp only[ZM,Ba];rfl
 ·rw[uo (fun a v=>a++tokV v) (fun v a=>rfl),Uz];simp
mutual
/-- Whether lists are those of blocks, and have not their closers. -/
def shV:za->Int->Bool
 |⟨t,l⟩,c=> !((Zb t.kind==0&&decide (0<l.length))||(c != 0&&t.kind==c)||(Zb t.kind != 0&& !(shL l (Zb t.kind))))
def shL:List za->Int->Bool
 |[],_=>true
 |v::r,c=>shV v c&&shL r c
end
theorem GJ(v:za)(c:Int):shV v c= !((Zb v.token.kind==0&&decide (0<v.list.length))||(c != 0&&v.token.kind==c)||(Zb v.token.kind != 0&& !(shL v.list (Zb v.token.kind)))):=by obtain⟨t,l⟩:=v;rw[shV]
def ol(l:List za)(c:Int):ZA:=⟨jf l,(tokL l).length, !(shL l c)⟩
theorem dM(c:Int): ∀(l:List za) (a:Nat×Nat×Bool),l.foldl (fun a v=>(max a.1 (Nk v),a.2.1+(tokV v).length,a.2.2|| !(shV v c))) a=(max a.1 (jf l),a.2.1+(tokL l).length,a.2.2|| !(shL l c))
 |[],a=>by simp[jf,tokL,shL]
 |v::l,a=>by rw[Xd,dM c l,jf,tokL,shL,Ia];simp only[Prod.mk.injEq];refine⟨by omega,by omega,?_⟩;cases a.2.2<;>cases shV v c<;>cases shL l c<;>rfl
theorem GK(a b:Bool):(bif a then true else b)=(a||b):=by cases a<;>rfl
theorem zBt(a b:Bool):(bif a then b else false)=(a&&b):=by cases a<;>rfl
theorem eP{l:List za}{c:Int}(h:szL l<=big):yj (l,c)=some (ol l c):=by
 refine ai (fun x:List za×Int=>szL x.1) (fun x=>szL x.1<=big) (fun x=>ol x.1 x.2) (fun S x hl hS=> ?_) h;obtain⟨l,c⟩:=x;simp only at hl hS ⊢;unfold XA;have hlen:=Mh l;refine(Uo l (fun i (a:Nat×Nat×Bool)=>((i:Int),(⟨(a.1:Int),(a.2.1:Int),a.2.2⟩:ZA))) (fun v a=>some (.again (max a.1 (Nk v),a.2.1+(tokV v).length,a.2.2|| !(shV v c)))) (fun a=>some (.out (⟨(a.1:Int),(a.2.1:Int),a.2.2⟩:ZA))) (fun i a=>a.2.1<=2*szL (l.take i)) (a:=(0,0,false)) rfl (by simp) (fun i a hi hI=> ?_) (fun a _=> ?_) (r:= .out (ol l c)) ?_)
 ·have hsz:=Jm (Nb hi);have hv2:=Wi l[i];have hd:=yL l[i];have hd2:=Ov l[i].list;have ht:=Hm l[i];have ht2:=Yq l[i].list;have hsh:=GJ l[i] c;have htk:=ny hi;have htk2:=TA l (i+1);have hv3:=ku l[i];have hs1:szL l[i].list<=big:=by omega
  have hs2:szL l[i].list<szL l:=by omega
  have hSq:S (l[i].list,Zb l[i].token.kind)=some (ol l[i].list (Zb l[i].token.kind)):=hS (l[i].list,Zb l[i].token.kind) hs1 hs2;obtain⟨d,n,b⟩:=a;simp only at hI;have hw:=Zw hi (by omega);unfold big at hl;have hw1:w64 ((n:Int)+1)=((n+1:Nat):Int):=by rw[w64,Qb (by omega) (by omega)];omega
  refine⟨?_,fun a' ha=> ?_⟩
  ·have hp:decide ((l[i].list.length:Int)>0)=decide (0<l[i].list.length):=KE _;simp only[ZY hi,Ca,ze,Zu hi,Aa,eH,ib,hw1,bne,hp,GK,zBt];by_cases hc:Zb l[i].token.kind=0
   ·rw[Ka hc]at hd ht;simp only[hc,He,Kb,Eb,Gd,Ff,bne]at hsh ⊢;rw[hsh,hd,ht];rcases Xe (decide (0<l[i].list.length))with h2|h2<;>rcases Xe (c==0)with h3|h3<;>rcases Xe (l[i].token.kind==c)with h4|h4<;>
     simp[h2,h3,h4,hw,Ca,Ba]
   ·rw[Ha hc]at hd ht;have hcb:(Zb l[i].token.kind==0)=false:=Ga.2 hc;have hw2:w64 ((jf l[i].list:Int)+1)=((1+jf l[i].list:Nat):Int):=by rw[w64,Qb (by omega) (by omega)];omega
    have hw3:w64 (((n+1:Nat):Int)+((tokL l[i].list).length:Int))=((n+1+(tokL l[i].list).length:Nat):Int):=by rw[w64,Qb (by omega) (by omega)];omega
    have hw4:w64 (((n+1+(tokL l[i].list).length:Nat):Int)+1)=((n+(1+((tokL l[i].list).length+1)):Nat):Int):=by rw[w64,Qb (by omega) (by omega)];omega
    have htl:(tokV l[i]).length=1+((tokL l[i].list).length+1):=by rw[ht];simp;omega
    have hm:(if((1+jf l[i].list:Nat):Int)>(d:Int)then((1+jf l[i].list:Nat):Int)else(d:Int))=((max d (1+jf l[i].list):Nat):Int):=by split<;>omega
    rw[hsh,hd,htl];simp only[hcb,hSq,Gd,Xa,Kb,Ff,yf,Ba,bne,Aa,ol];rcases Xe (c==0)with h3|h3<;>rcases Xe (l[i].token.kind==c)with h4|h4<;>
     simp only[h3,h4,hw,hw2,hw3,hw4,hm,Ca,Ba,zG,Eb,Xa,Kb,Ic,Jd,Gd,Bool.or_true,Ff,Bool.true_or,yf,Bool.not_not]
  ·cases ha;simp only;omega
 ·simp only[ZM,Ba];rfl
 ·rw[uo (fun a v=>(max a.1 (Nk v),a.2.1+(tokV v).length,a.2.2|| !(shV v c))) (fun v a=>rfl),dM];simp[ol]
theorem Al{a b:List za}(h:a.Sublist b):szL a<=szL b:=by
 induction h with
 |slnil=>exact Sa _
 |cons v _ ih=>rw[szL];omega
 |cons_cons v _ ih=>rw[szL,szL];omega
theorem Vs(l:List za):l=[]\/ ∃t v,l=t++[v]:=by
 rcases df l with h|⟨t,v,h⟩
 ·exact .inl h
 ·exact .inr ⟨t,v,by rw[h,xe]⟩
def isSp(v:za):Bool:=v.token.kind==13
def trimB(l:List za):List za:=(l.reverse.dropWhile isSp).reverse
theorem zAX:trimB []=[]:=rfl
theorem AA(t:List za)(v:za):trimB (t++[v])=if isSp v then trimB t else t++[v]:=by
 unfold trimB;rw[List.reverse_append];simp only[List.reverse_cons,List.reverse_nil,Gc,Bb,Nc];split
 ·rfl
 ·simp
theorem uj(l:List za):(trimB l).Sublist l:=by unfold trimB;have:=Ac isSp (l:=l.reverse);simpa using this.reverse
def trimS(l:List za):List za:=trimB (l.dropWhile isSp)
theorem zCO(l:List za):szL (trimS l)<=szL l:=Al ((uj _).trans (Ac _))
theorem Vy(p:za->Bool): ∀(l:List za),l.drop (l.length - (l.dropWhile p).length)=l.dropWhile p
 |[]=>rfl
 |v::r=>by
  rw[Nc];split
  ·have h:=List.Sublist.length_le (Ac p (l:=r));rw[Da,Nat.succ_sub h,List.drop_succ_cons];exact Vy p r
  ·simp
def errS(l:List za):Int:=if 16<jf l then 20 else if 1500<(tokL l).length then 4 else if shL l 0 then 0 else 8
theorem wo{l:List za}(h:szL l<=big):aj l=some (errS l):=by
 unfold aj errS;simp only[ze,eP h,Aa,ol];by_cases h1:16<jf l
 ·have:decide ((jf l:Int)>16)=true:=Fa (by omega);simp[this,h1]
 ·have:decide ((jf l:Int)>16)=false:=Ta (by omega);by_cases h2:1500<(tokL l).length
  ·have h3:decide (((tokL l).length:Int)>1500)=true:=Fa (by omega);simp[this,h1,h2,h3]
  ·have h3:decide (((tokL l).length:Int)>1500)=false:=Ta (by omega);cases h4:shL l 0<;>simp[this,h1,h2,h3]
theorem BX{l:List za}(h:szL l<=big):Ms l=some (if errS l=0 then((jf l:Int),0)else(0,errS l)):=by
 unfold Ms;simp only[ze,wo h,eP h,Aa,ol];by_cases h1:errS l=0
 ·simp[h1]
 ·have h2:(errS l != 0)=true:=Ve.2 h1;simp[h1,h2]
theorem Dj: ∀l:List za,szL l<=zL zf l:=by
 have key: ∀(n:Nat) (l:List za),zL zf l<n->szL l<=zL zf l:=by
  intro n
  induction n with
  |zero=>intro l h;omega
  |succ n ih=>
   intro l
   induction l with
   |nil=>intro _;rw[szL];exact Va _
   |cons v l ihl=> intro h;rw[ZI]at h ⊢;rw[szL,Wi];have hz:=Q5 v;have h1:=ih v.list (by omega);have h2:=ihl (by omega);omega
 exact fun l=>key _ l (Ie _)
theorem zBL{l:List za}{a:List zk}(h:szL l<=big)(ha:a.length+2*szL l<=4*big):Nl (l,a)=some (a++tokL l):=by
 refine ai (fun z=>szL z.1) (fun z=>szL z.1<=big/\z.2.length+2*szL z.1<=4*big) (fun z=>z.2++tokL z.1) (fun S z hz hS=> ?_) (x:=(l,a)) ⟨h,ha⟩;obtain⟨l,a⟩:=z;obtain⟨h,ha⟩:=hz;have h:szL l<=big:=h;have ha:a.length+2*szL l<=4*big:=ha;have hlen:=Mh l;unfold WB;refine(Uo l (fun i (b:List zk)=>((i:Int),b)) (fun v b=>some (.again (b++tokV v))) (fun b=>some (.out b)) (fun i b=>b.length<=a.length+2*szL (l.take i)) (a:=a) rfl (by simp) (fun i b hi hI=> ?_) (fun b _=> ?_) (r:= .out (a++tokL l)) ?_).trans rfl
 ·have hsz:=Jm (Nb hi);have hv2:=Wi l[i];have hd:=Hm l[i];have hd2:=Yq l[i].list;have ht:=ny hi;have ht2:=TA l (i+1);have hv3:=ku l[i];unfold big at h ha;have hap: ∀n m:Nat,n+m<=100000000->Zp n m 56=true:=fun n m h=>ZU (by omega);refine⟨?_,fun a' ha'=> ?_⟩
  ·simp only[ZY hi,Ca,ze,Zu hi,Aa,eH];by_cases hc:Zb l[i].token.kind=0
   ·rw[Ka hc]at hd;simp[hc,hd,Zw hi (by unfold big;omega),hap b.length 1 (by omega)]
   ·rw[Ha hc]at hd;rw[hS (l[i].list,b++[l[i].token]) ⟨by show szL l[i].list<=big;unfold big;omega,by show(b++[l[i].token]).length+2*szL l[i].list<=4*big;unfold big;rw[Ia,Mc];omega⟩ (by show szL l[i].list<szL l;omega)];have hb:(Zb l[i].token.kind != 0)=true:=Ve.2 hc;simp[hb,hd,Zw hi (by unfold big;omega),hap b.length 1 (by omega),hap (b.length+((tokL l[i].list).length+1)) 1 (by omega)]
  ·cases ha';rw[Ia,ht];omega
 ·simp only[ZM,Ba];rfl
 ·rw[uo (fun a v=>a++tokV v) (fun v a=>rfl),Uz]
theorem zBK{l:List za}(h:szL l<=big):YA l=some (tokL l):=by
 have hlen:=Mh l;unfold YA;refine(Uo l (fun i (b:List zk)=>((i:Int),b)) (fun v b=>some (.again (b++tokV v))) (fun b=>some (.out b)) (fun i b=>b.length<=2*szL (l.take i)) (a:=[]) rfl (by simp) (fun i b hi hI=> ?_) (fun b _=> ?_) (r:= .out (tokL l)) ?_).trans rfl
 ·have hsz:=Jm (Nb hi);have hv2:=Wi l[i];have hd:=Hm l[i];have hd2:=Yq l[i].list;have ht:=ny hi;have ht2:=TA l (i+1);have hv3:=ku l[i];unfold big at h;have hap: ∀n m:Nat,n+m<=100000000->Zp n m 56=true:=fun n m h=>ZU (by omega);refine⟨?_,fun a' ha'=> ?_⟩
  ·simp only[ZY hi,Ca,ze,Zu hi,Aa,eH];by_cases hc:Zb l[i].token.kind=0
   ·rw[Ka hc]at hd;simp[hc,hd,Zw hi (by unfold big;omega),hap b.length 1 (by omega)]
   ·rw[Ha hc]at hd;rw[zBL (a:=b++[l[i].token]) (show szL l[i].list<=big by unfold big;omega) (by unfold big;rw[Ia,Mc];omega)];have hb:(Zb l[i].token.kind != 0)=true:=Ve.2 hc;simp[hb,hd,Zw hi (by unfold big;omega),hap b.length 1 (by omega),hap (b.length+((tokL l[i].list).length+1)) 1 (by omega)]
  ·cases ha';rw[Ia,ht];omega
 ·simp only[ZM,Ba];rfl
 ·rw[uo (fun a v=>a++tokV v) (fun v a=>rfl),Uz];simp
theorem gP{l:List za}(h:szL l<=big):Yv l=some (if errS l=0 then(tokL l,0)else([],errS l)):=by
 unfold Yv;simp only[wo h,ze,Aa];by_cases he:errS l=0
 ·have:(errS l != 0)=false:=by rw[he];rfl
  rw[this,Ba,zBK h,Ka he];rfl
 ·rw[Ve.2 he,Ca,Ha he]
set_option maxRecDepth 100000
theorem wm{α:Type}(l:List α):((l.length:Int)==0)=l.isEmpty:=by
 cases l with
 |nil=>rfl
 |cons a l=>exact Ga.2 (by simp only[Da];omega)
theorem Cs(v:za):(⟨v.token,v.list⟩:za)=v:=by cases v;rfl
def Yt(x:Str):Bool:= !(x==[])&&(decide (x.length<=64)&&(Q6 x&&(bif List.isPrefixOf [45,45] x then !(x==[45,45])else lowS x==x)))
theorem V3{x:Str}(h:x.length<=big):LA x=some (Yt x):=by
 have e:decide ((x.length:Int)>64)= !decide (x.length<=64):=ik _ 64;have e1:decide (Lib.indexByte x (0:Int).toNat.toUInt8>=0)= !Q6 x:=su x;have ec:=FW x (lowS x);unfold LA Yt;simp only[Gt,ZF,ze,Aa,Q8,Ym h,e,ec];cases x==[]<;>cases decide (x.length<=64)<;>try rfl
 simp only[Ca,Ba,Eb,Xa,Kb,Ff,e1];cases Q6 x<;>cases List.isPrefixOf [45,45] x<;>rfl
def clK(v:za):Bool:=v.token.kind==20||(v.token.kind==22||v.token.kind==24)
mutual
def clV:za->Bool
 |⟨t,l⟩=>clK ⟨t,l⟩||clL l
def clL:List za->Bool
 |[]=>false
 |v::r=>clV v||clL r
end
theorem zFS(v:za):clV v=(clK v||clL v.list):=by obtain⟨t,l⟩:=v;rw[clV]
theorem zDU(l:List za):clL l=l.any clV:=by
 induction l with
 |nil=>rw[clL];rfl
 |cons v l ih=>rw[clL,ih];rfl
theorem D9{l:List za}(h:szL l<=big):Zh l=some (clL l):=by
 refine ai (fun l=>szL l) (fun l=>szL l<=big) (fun l=>clL l) (fun S l hl hS=> ?_) h;have hlen:=Mh l;unfold YB QJ vH;have:=Ir (Uj (step:=fun(s1:Int)=>
   bif decide (s1<(l.length:Int))then
    ze (geti l s1) fun y2=>
    ze (jw S (⟨y2.token,y2.list⟩:za)) fun y3=>
    bif y3 then some (LO.ret s1)else some (LO.again (w64 (s1+1)))
   else some (LO.out ())) l clV (by omega) (fun i hi=> ?_) ?_) (Vo _ _)
 ·rw[this,zDU];rfl
 ·have hsz:=Jm (Nb hi);have hv2:=Wi l[i];have hs:=hS l[i].list (by omega) (by omega);have:jw S l[i]=some (clV l[i]):=by unfold jw qX;simp only[Cs,ZF,ze,Aa,hs,zFS,clK];cases l[i].token.kind==20<;>cases l[i].token.kind==22<;>cases l[i].token.kind==24<;>rfl
  simp only[ZY hi,Ca,Zu hi,ze,Aa,Cs,this]
 ·simp only[ZM,Ba]
def yt(l:List za):Bool:=match l with
 |[]=>false
 |v::r=>isSp v||isSp ((v::r).getLast (by simp))
theorem mU{l:List za}(h:l.length<=big)(g:Bool)(hg:(l.isEmpty&&g)=false)(k:Bool->Option Int):
  (ze (zI (decide ((l.length:Int)>0)&& !g) (geti l 0) (default:za)) fun y7=>
   ze (zI (decide ((l.length:Int)>0)&& !g) (qX ((⟨y7.token,y7.list⟩:za),13)) (default:Bool)) fun y8=>
   ze (zI (!y8&&(decide ((l.length:Int)>0)&& !g)) (geti l (w64 ((l.length:Int) - 1))) (default:za)) fun y9=>
   ze (zI (!y8&&(decide ((l.length:Int)>0)&& !g)) (qX ((⟨y9.token,y9.list⟩:za),13)) (default:Bool)) fun y10=>
   k (bif decide ((l.length:Int)>0)then bif y8 then true else y10 else false))=(if g=true/\l≠[]then(k (bif decide ((l.length:Int)>0)then bif (default:Bool)then true else(default:Bool)else false))else k (yt l)):=by
 cases l with
 |nil=> have:decide ((([]:List za).length:Int)>0)=false:=rfl;simp only[this,Gd,qI,ze,Aa,Jd,Ba,ne_eq,not_true_eq_false,and_false,Od,yt]
 |cons v r=>
  have e1:decide (((v::r).length:Int)>0)=true:=Fa (by simp only[Da];omega);have e2:geti (v::r) 0=some v:=rfl;cases g with
  |true=>simp only[e1,Eb,Jd,qI,ze,Aa,Ca,ne_eq,reduceCtorEq,Ph,and_self,Vd]
  |false=>
   simp only[e1,Xa,Ic,Zk,ze,Aa,Ca,e2,qX,false_and,Od,reduceCtorEq];have e3:w64 (((v::r).length:Int) - 1)=(r.length:Int):=by rw[Da]at h ⊢;rw[w64,Qb (by omega) (by unfold big at h;omega)];omega
   have e4:geti (v::r) (r.length:Int)=some ((v::r).getLast (by simp)):=by rw[Zu (by simp),List.getLast_eq_getElem];simp
   rw[e3,e4];simp only[ZF,Aa,yt,isSp];cases v.token.kind==13<;>rfl
def badV(v:za):Bool:=v.token.kind==17||(v.token.kind==9&&v.token.text==[33])
def BS(custom:Bool)(l:List za):Bool:= !(l.any badV)&&(!(l.isEmpty&& !custom)&& !yt l)
def Bh(d:Zm):Bool:=Yt d.name&&(errS d.value==0&&(gluS (tokL d.value)==0&&(!clL d.value&&BS (List.isPrefixOf [45,45] d.name) d.value)))
mutual
theorem zCK: ∀(v:za) (t:zk),t∈tokV v->t.text.length<=szV v/\t.unit.length<=szV v
 |⟨t,l⟩,u,h=>by
  rw[tokV]at h;rw[szV];rcases Db.1 h with rfl|h
  ·constructor<;>omega
  ·split at h
   ·cases h
   ·rcases Jc.1 h with h|h
    ·have:=DF l u h;omega
    ·obtain rfl:=Oc.1 h;exact⟨Va _,Va _⟩
theorem DF: ∀(l:List za) (t:zk),t∈tokL l->t.text.length<=szL l/\t.unit.length<=szL l
 |[],_,h=>by rw[tokL]at h;cases h
 |v::r,u,h=>by
  rw[tokL]at h;rw[szL];rcases Jc.1 h with h|h
  ·have:=zCK v u h;omega
  ·have:=DF r u h;omega
end
theorem zBQ{l:List za}(h:szL l<=big):Ew (tokL l)=some (gluS (tokL l)):=
 R3 fun t ht=>by have:=DF l t ht;omega
theorem lY{l:List za}(h:l.length<=big):qA l=some (l.any badV):=by
 unfold qA QZ;refine Ir (Uj l badV h (fun i hi=> ?_) ?_) (Vo _ _)
 ·have:LB l[i]=some (badV l[i]):=by unfold LB mo qX badV;simp only[Cs,ZF,ze,Aa];cases l[i].token.kind==17<;>cases l[i].token.kind==9<;>rfl
  simp only[ZY hi,Ca,Zu hi,ze,Aa,Cs,this]
 ·simp only[ZM,Ba]
theorem vP{d:Zm}(hv:szL d.value<=big)(hn:d.name.length<=big):yo d=some (bif Bh d then 0 else 8):=by
 have hlen:=Mh d.value;unfold yo Bh;rw[gP hv];simp only[ze,Aa,V3 hn];cases Yt d.name with
 |false=>simp only[Xa,Ca,Eb,qI,Aa,Gd,Ba]
 |true=>
  by_cases he:errS d.value=0
  ·rw[Ka he];have he':(errS d.value==0)=true:=Ob.2 he;have this:((0:Int)==0)=true:=rfl;simp only[he',this,Eb,Ba,Xa,Zk,zBQ hv,Aa,Kb,bne];cases hg:gluS (tokL d.value)==0 with
   |false=>simp only[Xa,Ca,Eb,qI,Aa,Gd,Ba]
   |true=>
    simp only[Eb,Ba,Xa,Zk,D9 hv,Aa,Kb];cases clL d.value with
    |true=>rfl
    |false=>
     simp only[Ba,lY (show d.value.length<=big by omega),Aa,BS,Xa,Kb];cases d.value.any badV with
     |true=>rfl
     |false=>
      simp only[Ba,Q8,ZF,Aa,wm,Xa,Kb];have hp:=mU (l:=d.value) (by omega) (bif d.value.isEmpty then !(bif d.value.isEmpty then List.isPrefixOf [45,45] d.name else default)else false);cases hd:d.value with
      |nil=>
       cases List.isPrefixOf [45,45] d.name<;>rfl
      |cons v r=> have hp':=hp (by rw[hd];rfl) (fun b=>bif b then some 8 else some 0);rw[hd]at hp';simp only[List.isEmpty_cons,Ba,Sb,false_and,Od]at hp';simp only[List.isEmpty_cons,Ba,Gd,Xa,Kb];refine Eq.trans hp' ?_;cases yt (v::r)<;>rfl
  ·rw[Ha he];have he':(errS d.value==0)=false:=Ga.2 he;simp only[he',bne,Eb,Ba,Xa,Ca,qI,Aa,Gd,Jd]
theorem K5:Eu Bt:=by intro bi cond_look' h_cond_look x;unfold Bt;exact(.bif .rfl (.bif (.bind .rfl fun _=>(.bind .rfl fun _=> .rfl)) (.bif (.bind .rfl fun _=> .rfl) (.join (.bif .rfl (.bif .rfl .rfl)) fun _=>(.bif (.bind .rfl fun _=>(.bif .rfl (.lp (fun _=>(.bif (.bind .rfl fun _=>(.bind (h_cond_look _) fun _=>(.bif .rfl (.join (.bind .rfl fun _=>(.bif .rfl .rfl)) fun _=> .rfl)))) .rfl)) fun _=> .rfl))) .rfl)))))
theorem T9(zB seltext_parts':List za×zg×Bool×Bool->Option (List zu×Bool))(h_seltext_parts: ∀z,Le (zB z) (seltext_parts' z))(x:zH×List za×zg):Le (Ep zB x) (Ep seltext_parts' x):=by unfold Ep;exact(.bind .rfl fun _=>(.join (.bif (.bind .rfl fun _=>(.need (.bind (h_seltext_parts _) fun _=>(.bif .rfl (.need .rfl))))) .rfl) fun _=>(.bind .rfl fun _=>(.bif .rfl (.bind .rfl fun _=> .rfl)))))
theorem zg7(zB seltext_parts':List za×zg×Bool×Bool->Option (List zu×Bool))(h_seltext_parts: ∀z,Le (zB z) (seltext_parts' z))(x:Str×List za×zg):Le (qY zB x) (qY seltext_parts' x):=by unfold qY;exact(.bind .rfl fun _=>(.bind .rfl fun _=>(.bind .rfl fun _=>(.bif .rfl (.bif (.bind (T9 _ _ h_seltext_parts _) fun _=> .rfl) (.bind .rfl fun _=>(.bif .rfl (.bind (h_seltext_parts _) fun _=> .rfl))))))))
theorem zdN(zB seltext_parts':List za×zg×Bool×Bool->Option (List zu×Bool))(h_seltext_parts: ∀z,Le (zB z) (seltext_parts' z))(x:zg×zq):Le (ZR zB x) (ZR seltext_parts' x):=by unfold ZR;exact(.lp (fun _=>(.bind .rfl fun _=>(.join (.bind .rfl fun _=>(.bif .rfl (.bif .rfl (.bif (.bind .rfl fun _=>(.bind .rfl fun _=> .rfl)) (.bif (.join (.bif (.bind .rfl fun _=> .rfl) (.bif (.bind .rfl fun _=>(.bind (zg7 _ _ h_seltext_parts _) fun _=> .rfl)) .rfl)) fun _=> .rfl) .rfl))))) fun _=>(.bif .rfl (.need .rfl))))) fun _=> .rfl)
theorem zgD(zB seltext_parts':List za×zg×Bool×Bool->Option (List zu×Bool))(h_seltext_parts: ∀z,Le (zB z) (seltext_parts' z))(x:List za×zg×Bool):Le (qL zB x) (qL seltext_parts' x):=by unfold qL;exact(.bind .rfl fun _=>(.join (.bif (.bind .rfl fun _=>(.bif .rfl .rfl)) .rfl) fun _=>(.join .rfl fun _=>(.lp (fun _=>(.join (.bind .rfl fun _=>(.bif (.bind .rfl fun _=> .rfl) (.bind .rfl fun _=>(.bif .rfl .rfl)))) fun _=>(.bind (zdN _ _ h_seltext_parts _) fun _=>(.bind .rfl fun _=>(.bif .rfl (.need (.bind .rfl fun _=>(.bind .rfl fun _=>(.bif .rfl (.bind .rfl fun _=>(.join (.bif .rfl (.bif .rfl .rfl)) fun _=>(.bind .rfl fun _=>(.need .rfl))))))))))))) fun _=> .rfl))))
theorem zj5:Eu Qs:=by intro zB seltext_parts' h_seltext_parts x;unfold Qs;exact(.lp (fun _=>(.bif (.join (.bind .rfl fun _=>(.bif .rfl (.join (.need (.bind (zgD _ _ h_seltext_parts _) fun _=>(.bif (.need .rfl) (.bif .rfl .rfl)))) fun _=> .rfl))) fun _=> .rfl) .rfl)) fun _=> .rfl)
theorem uH(z8 cond_reader_told':zh->Option ((zt×Bool)×zh))(h_cond_reader_told: ∀z,Le (z8 z) (cond_reader_told' z))(x:zh):Le (qb z8 x) (qb cond_reader_told' x):=by unfold qb;exact(.bind .rfl fun _=>(.bif (.bind .rfl fun _=> .rfl) (.bif (.bind .rfl fun _=>(.bind .rfl fun _=>(.bif .rfl (.bind (h_cond_reader_told _) fun _=>(.bif .rfl .rfl))))) .rfl)))
theorem zg6:Eu qx:=by intro z8 cond_reader_told' h_cond_reader_told x;unfold qx;exact(.bind .rfl fun _=>(.bind .rfl fun _=>(.bif (.bind .rfl fun _=>(.bind (uH _ _ h_cond_reader_told _) fun _=>(.bind .rfl fun _=> .rfl))) (.bind (uH _ _ h_cond_reader_told _) fun _=>(.bif .rfl (.bind .rfl fun _=>(.bif .rfl (.lp (fun _=>(.bif (.bind .rfl fun _=>(.bif .rfl (.bind .rfl fun _=>(.bind (uH _ _ h_cond_reader_told _) fun _=>(.bif .rfl (.need (.bind .rfl fun _=> .rfl))))))) .rfl)) fun _=> .rfl))))))))
theorem zgE(zQ sheet_parser_rules':(List za×Bool)×zo->Option (List zJ×zo))(h_sheet_parser_rules: ∀z,Le (zQ z) (sheet_parser_rules' z))(x:(Bool×Str×List za×za)×zo):Le (ql zQ x) (ql sheet_parser_rules' x):=by unfold ql;exact(.join (.bif (.bind .rfl fun _=> .rfl) (.bif (.bind .rfl fun _=> .rfl) (.bif (.bind .rfl fun _=> .rfl) (.bif (.bind .rfl fun _=> .rfl) .rfl)))) fun _=>(.bif .rfl (.join (.bif (.bind (h_sheet_parser_rules _) fun _=> .rfl) .rfl) fun _=> .rfl)))
theorem zfV:Eu Z8:=by intro zQ sheet_parser_rules' h_sheet_parser_rules x;unfold Z8;exact(.lp (fun _=>(.bif (.bind .rfl fun _=>(.bif (.need .rfl) (.join (.bif .rfl .rfl) fun _=>(.join (.bif (.bind .rfl fun _=>(.bind .rfl fun _=>(.need (.need .rfl)))) .rfl) fun _=>(.bind .rfl fun _=>(.bind .rfl fun _=>(.bif (.bind .rfl fun _=>(.join (.bif (.need .rfl) .rfl) fun _=>(.bif .rfl (.bind (zgE _ _ h_sheet_parser_rules _) fun _=>(.bif (.need .rfl) .rfl))))) (.join (.bif (.need .rfl) .rfl) fun _=>(.bif .rfl (.bind .rfl fun _=>(.bif (.need .rfl) .rfl))))))))))) .rfl)) fun _=> .rfl)
theorem Q3(x:Zm):zy (ZH x)=3+x.name.length+zL zf x.value:=by simp only[ZH,zy,bPV,zL];omega
theorem El(x:zt):zy (zw x)=4+x.name.length+zy (ZH x.decl)+zL zw x.list - 1+1:=by rw[Q3];rw[VH];simp only[zy,bPV,zL];omega
theorem az(x:Zm):1<=zy (ZH x):=by have:=Q3 x;omega
theorem wu{α:Type}(l:List α):decide ((l.length:Int)>0)= !l.isEmpty:=by
 cases l with
 |nil=>rfl
 |cons a l=>exact Fa (by simp only[Da];omega)
theorem zA3(x:zt):1<=zy (zw x):=by have:=El x;omega
theorem gD{a b:Nat}(h:a+b<=big):w64 ((a:Int)+(b:Int))=((a+b:Nat):Int):=by rw[w64,Qb (by omega) (by unfold big at h;omega)];omega
theorem JU{d:Zm}(h:zy (ZH d)<=big):szL d.value<=big/\d.name.length<=big:=by have:=Q3 d;have:=Dj d.value;constructor<;>omega
theorem P5{d:Zm}(h:zy (ZH d)<=big):yo d=some (bif Bh d then 0 else 8):=vP (JU h).1 (JU h).2
theorem Qd(c:zt):(⟨c.kind,c.name,c.num,c.decl,c.list⟩:zt)=c:=by cases c;rfl
def uS(d:Zm):Bool:=d.name==[]&&(d.value.isEmpty&& !d.important)
def Cj(c:zt):Bool:=c.name==[]&&(c.num==0&&uS c.decl)
theorem LP(c:zt):Ml c=some (Cj c):=by unfold Ml Cj uS;rw[wm];cases c.name==[]<;>cases c.num==0<;>cases c.decl.name==[]<;>cases c.decl.value.isEmpty<;>rfl
def keyS(x:Str):Bool:=x==[]||(x==[97,110,100]||(x==[111,114]||(x==[110,111,116]||x==[111,110,108,121])))
def medS(x:Str):Bool:= !keyS x&&(decide (x.length<=64)&&(lowS x==x&&Q6 x))
theorem zjG(l:List Str)(x:Str)(h:l.length<=big):slices_Contains_string (l,x)=some (l.any fun v=>x==v):=by
 unfold slices_Contains_string slices_Index_string;refine Ir (Uj l (fun v=>x==v) h (fun i hi=> ?_) ?_) (Vo _ _)
 ·simp only[ZY hi,Ca,Zu hi,ze,Aa]
 ·simp only[ZM,Ba]
theorem zEo(x:Str):(([[],[97,110,100],[111,114],[110,111,116],[111,110,108,121]]:List Str).any fun v=>x==v)=keyS x:=by simp only[List.any_cons,List.any_nil,Ff];rfl
theorem U5{x:Str}(h:x.length<=big):Nw x=some (medS x):=by
 have e:decide ((x.length:Int)<=64)=decide (x.length<=64):=uC _ 64;have e1:decide (Lib.indexByte x (0:Int).toNat.toUInt8<0)=Q6 x:=by rw[sJ,su,Bool.not_not]
 have hcs:=zjG [[],[97,110,100],[111,114],[110,111,116],[111,110,108,121]] x (by decide);unfold Nw medS;simp only[hcs,zEo,Ym h,Gt,ZF,ze,Aa,e];cases keyS x<;>cases decide (x.length<=64)<;>try rfl
 simp only[Xa,Ca,Kb];cases lowS x==x
 ·rfl
 ·exact congrArg some e1
def isN(n:Int):Bool:=decide (-1000000000000<=n)&&decide (n<=1000000000000)
theorem M5(n:Int):Jp n=some (bif isN n then 0 else 8):=by
 unfold Jp wG;have e1:decide (n< -1000000000000)= !decide (-1000000000000<=n):=by have:=WT n (-1000000000000);show _= !decide (n>=_);rw[this,Bool.not_not]
 have e2:decide (n>1000000000000)= !decide (n<=1000000000000):=by have:=WT 1000000000000 n;show decide (1000000000000<n)= !decide (1000000000000>=n);rw[this,Bool.not_not]
 have:Zl (fun(s1:Int)=>
   bif decide (s1<(([n]:List Int).length:Int))then
    ze (geti [n] s1) fun y2=>
    bif bif decide (y2<(-1000000000000))then true else decide (y2>1000000000000)then
     some (LO.ret (8:Int))
    else
     some (LO.again (w64 (s1+1)))
   else
    some (LO.out ()):Int->Option (LO (Int) (Unit) Int)) 0 (fun o3=>some (0:Int))=some (bif isN n then 0 else 8):=by
  refine(IA [n] (fun n=>bif isN n then none else some 8) () (fun i hi=> ?_) ?_).trans ?_
  ·obtain rfl:i=0:=by simpa using hi
   simp only[ZY hi,Ca,Zu hi,ze,Aa,List.getElem_cons_zero,e1,e2,isN];cases decide (-1000000000000<=n)<;>cases decide (n<=1000000000000)<;>rfl
  ·simp only[ZM,Ba]
  ·rw[Nv];simp only[Ke,List.all_nil,Ic];cases isN n<;>rfl
 rw[this];rfl
theorem iF{c y:zt}(h:y∈c.list):zy (zw y)<zy (zw c):=by have hz:=El c;have:=Vg (f:=zw) h;have:=az c.decl;omega
theorem bO(c:zt):c.list.length<=zy (zw c):=by have hz:=El c;have:=Qw zA3 c.list;have:=az c.decl;omega
theorem cO(c:zt):zy (ZH c.decl)<=zy (zw c):=by have hz:=El c;omega
end Go.Lv.VT
