/- CondBack: what is written is read as the same; there is one text for each condition. -/
import Derived.Test.YtkecjfeffabgiaaGreatDoorXj
import Derived.Test.YtkecjfeffabgiaaGreatDoorXk
import Derived.Test.YtkecjfeffabgiaaGreatDoorXl
set_option linter.unusedSimpArgs false
set_option linter.unusedVariables false
namespace Go.Lv.VT
set_option maxRecDepth 100000
theorem zFv{c:zf}(hs:supC c=true):Mh (vlC c)=some c:=by
 obtain⟨h1,h2⟩:=zC0 hs;cases hk:(c.kind==7||c.kind==8)with
 |false=>exact h1 hk
 |true=>
  have hv:vlC c=[bk c]:=by have:=rZ c;unfold Qk at this;rw[hk,Da]at this;exact this
  rw[hv,nz];have hsp:sp [bk c]=[bk c]:=by show [bk c].dropWhile isSp=_;rw[Bc,Ia (by unfold isSp;rw[Um];decide)]
  have hnw:isW notW (bk c)=false:=by unfold isW;rw[Um];rfl
  unfold Ni;rw[hsp];simp only[hnw,Ba,h2];rfl
theorem wZ{sep:Str}(hs:clB sep=true): ∀{l:List Str},(∀x∈l,clB x=true)->clB (jn sep l)=true
 |[],_=>rfl
 |x::r,h=>by
  have tl: ∀r:List Str,(∀x∈r,clB x=true)->clB (Lib.joinTail sep r)=true:=by
   intro r
   induction r with
   |nil=>intro _;rfl
   |cons z t ih=> intro h;have e:Lib.joinTail sep (z::t)=(sep++z)++Lib.joinTail sep t:=rfl;rw[e,qw,qw,hs,h z (by simp),ih fun y hy=>h y (ja _ hy)];rfl
  rw[II,qw,h x (by simp),tl r fun y hy=>h y (ja _ hy)];rfl
theorem X6{s:Str}(h:clB s=true):clB (parW s)=true:=by have e:parW s=[40]++(s++[41]):=rfl;rw[e,qw,qw,h];rfl
theorem zG1(l:Str):clB (ZB l)=true:=Dm _ _ l
theorem zKN{md:Bool}: ∀{c:zf},okW md c=true->clB (wrC wrD c)=true:=by
 have key: ∀(n:Nat) (c:zf),sizC c<=n->okW md c=true->clB (wrC wrD c)=true:=by
  intro n
  induction n with
  |zero=>intro c hc;have:=Qe c;omega
  |succ n ih=>
   intro c hc hs;have hsz:=QD c;rw[dm]at hs;obtain⟨k,nm,m,d,l⟩:=c;rw[wrC,xz,UF];simp only at hs hsz;have p1:clB uk=true:=by decide
   have p2:clB Al=true:=by decide
   have p3:clB pxW=true:=by decide
   cases h4:k==4 with
   |true=>exact zG1 nm
   |false=>
   cases h5:k==5 with
   |true=>simp only[Ba,Da,qw,p1,p3,cl_T];rfl
   |false=>
   cases h6:k==6 with
   |true=>simp only[Ba,Da,qw,p2,p3,cl_T];rfl
   |false=>
   cases h7:k==7 with
   |true=> rw[h4,h5,h6,h7,Ba,Nf,Ba,Da]at hs;simp only[Ca,Ab]at hs;exact X6 (cl_D hs.2.1 (nJ hs.2.2).t)
   |false=>
   cases h8:k==8 with
   |true=>rfl
   |false=>
    rw[h4,h5,h6,h7,h8,Ba,Nf,Ba,Ba,Ba]at hs;simp only[Ca,aa]at hs;have hm: ∀y∈l,clB (wrC wrD y)=true:=fun y hy=>ih y (by have:=Qx hy;omega) (hs.2 y hy);have hi: ∀y∈l,clB (bif Qk y then wrC wrD y else parW (wrC wrD y))=true:=fun y hy=>by
     cases Qk y with
     |true=>exact hm y hy
     |false=>exact X6 (hm y hy)
    have j1: ∀sep:Str,clB sep=true->clB (jn sep (l.map (wrC wrD)))=true:=fun sep h=>wZ h fun x hx=>by obtain⟨y,hy,rfl⟩:=Rb.1 hx;exact hm y hy
    have j2: ∀sep:Str,clB sep=true->clB (jn sep (l.map fun c=>bif Qk c then wrC wrD c else parW (wrC wrD c)))=true:=fun sep h=>wZ h fun x hx=>by obtain⟨y,hy,rfl⟩:=Rb.1 hx;exact hi y hy
    cases h3:k==3 with
    |true=>
     rw[h3,Da]at hs;obtain⟨y,rfl⟩: ∃y,l=[y]:=df.1 (eq_of_beq hs.1);have n4:clB nt4=true:=by decide
     simp only[Ba,Da,Yb,ae,Jg,qw,n4,Cb];cases BD [y]with
     |true=>exact hm y (by simp)
     |false=>exact hi y (by simp)
    |false=> have q1:=j1 cma2 (by decide);have q2:=j1 and5 (by decide);have q3:=j2 or4 (by decide);have q4:=j2 and5 (by decide);simp only[Ba];cases (l.isEmpty||(qL ⟨k,nm,m,d,l⟩||(k==2&&headA l)))<;>cases k==2<;>simp only[Da,Ba]<;>assumption
 intro c hs;exact key _ c (Ua _) hs
theorem zDc{c:zf}(h:SmC c)(hv:(Zu c||ZW c)=true): ∃md,okW md c=true:=by
 rw[Vb]at hv;rcases hv with hv|hv
 ·exact⟨true,BQ hv⟩
 ·exact⟨false,R5 (Sv hv) h.d⟩
theorem AR{c:zf}(h:(Nh c).2=0):(Zu c||ZW c)=true/\(wrC wrD c).length<=4000/\(Nh c).1=wrC wrD c:=by
 unfold Nh at h ⊢;cases hv:(Zu c||ZW c)with
 |false=>rw[hv]at h;cases h
 |true=>
  rw[hv]at h;by_cases hl:4000<(wrC wrD c).length
  ·rw[Ga hl]at h;cases h
  ·rw[Db hl]at h ⊢;exact⟨rfl,Nat.le_of_not_lt hl,rfl⟩
def valC(c:zf):List zb:=bif Zu c then mvC c else vlC c
theorem MJ{c:zf}(h:SmC c)(hv:(Zu c||ZW c)=true):Zb (wrC wrD c)=tokL (valC c)/\parS (tokL (valC c))=(if 1500<(tokL (valC c)).length then([],4)else(valC c,0)):=by
 unfold valC;cases hm:Zu c with
 |true=>rw[oP hm,Da];exact⟨zEE hm,zId c⟩
 |false=>
  rw[hm,Jc]at hv;have hs:=Sv hv;rw[GD hs,Ba];refine⟨?_,zIf hv⟩;have:=(zFk hs (fun d hd=>(nJ (h.d d hd)).t)).1 []
  rwa [Xa,Rv,Xa]at this
theorem zHl{c:zf}(hs:ZW c=true)(h:(tokL (vlC c)).length<=1500):errS (vlC c)=0:=by have h0:=hs;unfold ZW at hs;simp only[Ca,Ab]at hs;exact oK.2 ⟨by rw[dR hs.1];exact hs.2.2,h,(V8 hs.1).1⟩
theorem uP{c:zf}(hv:(Zu c||ZW c)=true)(h:(tokL (valC c)).length<=1500):(Zu c=true->lm (valC c)=(c,0))/\(Zu c=false->supS (valC c)=(c,0)):=by
 unfold valC at*;refine⟨fun hm=> ?_,fun hm=> ?_⟩
 ·rw[hm,Da]at h ⊢;exact zED hm h
 ·rw[hm,Ba]at h ⊢;rw[hm,Jc]at hv;unfold supS;rw[Ka (zHl hv h),zFv (Sv hv)];simp only[hv,Da]
theorem zL_8: ∀l:List zb,zL zo l<=8*szL l:=by
 have key: ∀(n:Nat) (l:List zb),zL zo l<n->zL zo l<=8*szL l:=by
  intro n
  induction n with
  |zero=>intro l h;omega
  |succ n ih=>
   intro l h;cases l with
   |nil=>rw[I6];omega
   |cons v r=> rw[Qf]at h ⊢;rw[szL];have h1:=Im v;have h2:=Aj v;have h3:=ih v.list (by omega);have h4:=ih r (by omega);omega
 exact fun l=>key _ l (Bf _)
theorem zuO{a b:zf}(hza:zx (zm a)<=1048576)(hzb:zx (zm b)<=1048576):xG (a,b)=some true:=by
 have hbig:big=4194304:=rfl;have ha:zx (zm a)<=big:=by omega
 have hb:zx (zm b)<=big:=by omega
 obtain⟨ga,hga,ga2⟩:=RY ha;obtain⟨gb,hgb,gb2⟩:=RY hb;unfold xG;simp only[Zd,hga,hgb,ze,Aa];cases ga with
 |true=>simp only[Va,Zw,Aa,Da,Mq]
 |false=>
 simp only[Ta,zB,Aa,Ba];cases gb with
 |true=>simp only[Da,Mq,Aa]
 |false=>
 have sa:=ga2 rfl;have sb:=gb2 rfl;simp only[Ba,gG ha sa,gG hb sb,Aa];have err: ∀c:zf,(Nh c).2=0\/(Nh c).2=8\/(Nh c).2=28:=fun c=>by
  unfold Nh;cases (Zu c||ZW c)with
  |false=>exact .inr (.inl rfl)
  |true=>
   cases decide (4000<(wrC wrD c).length)with
   |true=>exact .inr (.inr rfl)
   |false=>exact .inl rfl
 cases he:(bif (Nh a).2 != 0 then true else(Nh b).2 != 0)with
 |true=>
  have hc:(bif bif bif (Nh a).2==0 then true else(Nh a).2==8 then true else(Nh a).2==28 then bif bif (Nh b).2==0 then true else(Nh b).2==8 then true else(Nh b).2==28 else false)=true:=by rcases err a with e|e|e<;>rcases err b with e'|e'|e'<;>rw[e,e']<;>rfl
  simp only[Da,hc,zB,Mq,Aa]
 |false=>
  have ea:(Nh a).2=0:=by
   rcases err a with e|e|e
   ·exact e
   ·rw[e]at he;cases he
   ·rw[e]at he;cases he
  have eb:(Nh b).2=0:=by
   rw[ea]at he;rcases err b with e|e|e
   ·exact e
   ·rw[e]at he;cases he
   ·rw[e]at he;cases he
  obtain⟨va,la,ta⟩:=AR ea;obtain⟨vb,lb,tb⟩:=AR eb;obtain⟨ka,pa⟩:=MJ sa va;obtain⟨kb,_⟩:=MJ sb vb;have cla:Proofs.Cl.cleanS (wrC wrD a)=wrC wrD a:=by obtain⟨md,h⟩:=zDc sa va;exact sJ _ (zKN h)
  have hts:QZ (wrC wrD a)=if 1500<(tokL (valC a)).length then([],4)else(tokL (valC a),0):=by unfold QZ;rw[Ia (by omega),cla,ka]
  rw[ta];simp only[Ba,KL,Aa,hts];by_cases h15:1500<(tokL (valC a)).length
  ·rw[Ka h15];obtain⟨y,hy⟩: ∃y,parseF ([]:List zg)=some y:=⟨_,rfl⟩;simp only[hy,Aa,show((4:Int) != 0)=true from rfl,show((4:Int)==4)=true from rfl,Da,zB,Mq]
  ·rw[Ia h15];have hp:parseF (tokL (valC a))=some (valC a,0):=by unfold parseF;rw[pa,Ia h15]
   obtain⟨b1,b2⟩:=uP va (by omega);have hzv:2*zL zo (valC a)<=big:=by have h1:=zL_8 (valC a);have h2:=zIc (tokL (valC a));rw[pa,Ia h15]at h2;have h3:=L6 (wrC wrD a);rw[ka]at h3;have h2:szL (valC a)<=wtT (tokL (valC a)):=h2;omega
   simp only[hp,Aa,show((0:Int) != 0)=false from rfl,Ba,nV hzv,PR (x:=valC a) (by omega),uY ha,uY hb];have hj:Zk (X:=Int×zf) (R:=Bool) (bif (bif Zu a then(0:Int)else 8)==0 then some (LX.out ((lm (valC a)).2,(lm (valC a)).1))else some (LX.out ((supS (valC a)).2,(supS (valC a)).1)))=Zk (some (LX.out ((0:Int),a))):=by
    cases hm:Zu a with
    |true=>rw[b1 hm];rfl
    |false=>rw[b2 hm];rfl
   rw[hj];obtain⟨r,hr,hri⟩:=zDF (a:=a) (b:=b) ha;simp only[zq,Zd,show((0:Int)==0)=true from rfl,zB,zz2 ha,Aa,Da,hr,tb];have hkey:Zu a=Zu b->((wrC wrD a==wrC wrD b)==r)=true:=fun hk=>by
    have hiff:wrC wrD a=wrC wrD b↔a=b:=by
     refine⟨fun e=> ?_,fun e=>by rw[e]⟩;have hv:tokL (valC a)=tokL (valC b):=by rw[<-ka,<-kb,e]
     have pb:=(MJ sb vb).2;rw[<-hv,pa,Ia h15,Ia h15]at pb;have hvv:valC a=valC b:=(Prod.mk.inj pb).1;obtain⟨c1,c2⟩:=uP vb (by rw[<-hv];omega);cases hm:Zu a with
     |true=> have e1:=b1 hm;have e2:=c1 (by rw[<-hk];exact hm);rw[hvv,e2]at e1;exact(Prod.mk.inj e1).1.symm
     |false=> have e1:=b2 hm;have e2:=c2 (by rw[<-hk];exact hm);rw[hvv,e2]at e1;exact(Prod.mk.inj e1).1.symm
    cases r with
    |true=>rw[hiff.2 (hri.1 rfl),Jd];rfl
    |false=> have:(wrC wrD a==wrC wrD b)=false:=Ha.2 fun e=>absurd (hri.2 (hiff.1 e)) (by decide);rw[this];rfl
   cases ma:Zu a<;>cases mb:Zu b
   ·have:=hkey (by rw[ma,mb]);simp only[Ba,show((8:Int)==0)=false from rfl,Jd,Va,Ta,vg,zB,Aa,this,Da,Mq]
   ·simp only[Ba,Da,show((8:Int)==0)=false from rfl,show((0:Int)==0)=true from rfl,show(false==true)=false from rfl,Va,Ta,ib,Ub,zB,Zw,Aa,Mq]
   ·simp only[Ba,Da,show((8:Int)==0)=false from rfl,show((0:Int)==0)=true from rfl,show(true==false)=false from rfl,Va,Ta,ib,Ub,zB,Zw,Aa,Mq]
   ·have:=hkey (by rw[ma,mb]);simp only[Da,Ba,show((0:Int)==0)=true from rfl,Jd,Va,Ta,vg,zB,Aa,this,Mq]
end Go.Lv.VT
