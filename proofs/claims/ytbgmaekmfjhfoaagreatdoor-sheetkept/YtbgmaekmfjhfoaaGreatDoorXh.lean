/- What is written piece by piece is there: its tokens, and where each piece begins. -/
import Derived.Test.YtbgmaekmfjhfoaaGreatDoorXg
import Derived.Test.YtbgmaekmfjhfoaaGreatDoorXa
import Derived.Test.YtbgmaekmfjhfoaaGreatDoorXf
import Derived.Test.YtbgmaekmfjhfoaaGreatDoorXc
import Derived.Test.YtbgmaekmfjhfoaaGreatDoorXb
import Derived.Test.YtbgmaekmfjhfoaaGreatDoorXd
set_option linter.unusedSimpArgs false
set_option linter.unusedVariables false
namespace Go.Lv.VT
set_option maxRecDepth 100000
def clnB(c:UInt8):Str:=if c=0 then [239,191,189]else if c=12\/c=13 then [10]else [c]
def clR:Bool->Str->Str
 |_,[]=>[]
 |cr,c::r=>(if c=10/\cr=true then []else clnB c)++clR (c==13) r
theorem nN{c:UInt8}{r:Str}(h:c=13-> ∀q,r≠10::q):Proofs.Cl.cleanS (c::r)=clnB c++Proofs.Cl.cleanS r:=by
 rw[Proofs.Cl.cleanS]
 ·unfold clnB;by_cases h0:c=0
  ·subst h0;rfl
  ·have e0:(c==0)=false:=Ga.2 h0;rw[e0,Ha h0,Ba];by_cases h1:c=12\/c=13
   ·rw[Ka h1];rcases h1 with rfl|rfl<;>rfl
   ·rw[Ha h1];have e1:(c==12||c==13)=false:=by simp only[Ue,Ga];exact⟨fun q=>h1 (.inl q),fun q=>h1 (.inr q)⟩
    rw[e1,Ba];rfl
 ·intro r' e1 e2;exact h e1 r' e2
theorem dn: ∀(n:Nat) (s:Str),s.length<=n->clR false s=Proofs.Cl.cleanS s
 |0,s,h=>by obtain rfl:=Mf.1 (Nat.le_zero.1 h);rw[clR,Proofs.Cl.cleanS]
 |n+1,[],_=>by rw[clR,Proofs.Cl.cleanS]
 |n+1,c::r,h=>by
  rw[Da]at h;rw[clR,Ha (fun q=>by cases q.2)];by_cases hc:c=13
  ·subst hc;rcases r with _|⟨d,r⟩
   ·rfl
   ·rw[Da]at h;by_cases hd:d=10
    ·subst hd;rw[Proofs.Cl.cleanS,clR,Ka ⟨rfl,rfl⟩,<-dn n r (by omega)];rfl
    ·rw[nN (fun _ q e=>hd (List.cons.inj e).1)];rw[<-dn n (d::r) (by rw[Da];omega),clR,clR,Ha (fun q=>hd q.1),Ha (fun q=>hd q.1)]
  ·rw[nN (fun q=>absurd q hc),<-dn n r (by omega),show(c==13)=false from Ga.2 hc]
def Oj(a:List Zm)(p:List za):List Zm:=bif (oneS p).2&&decide (a.length<32)then a++[(oneS p).1]else a
def Ii(ps:List (List za)):List Zm:=ps.foldl Oj []
theorem zCH{a:List Zm}{p:List za}(h:a.length<=32):(Oj a p).length<=32:=by
 unfold Oj;cases hb:(oneS p).2&&decide (a.length<32)with
 |false=>exact h
 |true=> rw[Ea,Ua]at hb;rw[Ca,Ia,Mc];omega
theorem JV{ps:List (List za)}{i:Nat}(h:i<ps.length):Ii (ps.take (i+1))=Oj (Ii (ps.take i)) ps[i]:=by unfold Ii;rw[Lc h,List.foldl_append];rfl
theorem pU(ps:List (List za)):(Ii ps).length<=32:=by
 unfold Ii;have key: ∀(ps:List (List za)) (a:List Zm),a.length<=32->(ps.foldl Oj a).length<=32:=by
  intro ps
  induction ps with
  |nil=>intro a h;exact h
  |cons p ps ih=>intro a h;exact ih _ (zCH h)
 exact key ps [] (Va _)
theorem aU{x:List za}(h:szL x<big):(Tf 17 x).length<=big/\ ∀p∈Tf 17 x,szL p<=big:=by have h1:=zBx 17 x;have h2:=IU (Tf 17 x);exact⟨by omega,fun p hp=>by have:=GU hp;omega⟩
theorem ap48{n:Nat}(h:n<=32):Zp n 1 48=true:=ZU (by omega)
theorem zHa{x:List za}(h:szL x<big):Wy x=some (if errS x=0 then(Ii (Tf 17 x),0)else([],errS x)):=by
 unfold Wy;rw[pG (k:=17) (by omega)];simp only[ze,Aa];by_cases he:errS x=0
 ·rw[Ka he,Ha (by omega),Ka he];obtain⟨hl,hp⟩:=aU h;simp only[show((0:Int) != 0)=false from rfl,Ba];generalize Tf 17 x=ps at*;refine sF (fun z=> ∃i:Nat,z=((i:Int),Ii (ps.take i))/\i<=ps.length) (fun z=>ps.length - z.1.toNat) _ ?_ ⟨0,rfl,Va _⟩;rintro _ ⟨i,rfl,hi⟩;rcases Ud i ps.length with hh|hh
  ·refine .inl ⟨_,?_,⟨i+1,rfl,hh⟩,by simp only[Ib];omega⟩;have hq:=pU (ps.take i);rw[JV hh];simp only[ZY hh,Ca,Zu hh,Aa,JP (hp _ (Nb hh))];obtain⟨a,ha⟩: ∃a,Ii (ps.take i)=a:=⟨_,rfl⟩;rw[ha]at hq ⊢;unfold Oj;have hd:decide ((a.length:Int)<32)=decide (a.length<32):=by
    by_cases q:a.length<32
    ·rw[Fa q,Fa (by omega)]
    ·rw[Ta q,Ta (by omega)]
   rw[hd,ZN (ap48 hq)];have hw:w64 ((i:Int)+1)=((i+1:Nat):Int):=Zw hh hl;cases (oneS ps[i]).2<;>cases decide (a.length<32)<;>simp only[Ca,Ba,zG,hw,Kb,Gd]
  ·have:i=ps.length:=by omega
   subst this;refine .inr (.inl ⟨Ii ps,?_,rfl⟩);simp only[ZM,Ba,Cf]
 ·rw[Ha he,Ha he];simp only[Ve.2 he,Ca]
abbrev zV(l:List za):Nat:=zL zf l
theorem yl{a b:List za}(h:a.Sublist b):zV a<=zV b:=Gg h
theorem Q4(v:za)(l:List za):zV (v::l)=6+v.token.text.length+v.token.unit.length+zV v.list+zV l:=by show zL zf (v::l)=_;rw[ZI,Q5]
theorem spL(l:List za):zV (sp l)<=zV l:=yl (Q0 l)
theorem zEF(s:Str):(nmD s).length=s.length:=by
 unfold nmD;cases List.isPrefixOf [45,45] s
 ·exact Un s
 ·rfl
theorem GR{x:List za}(h:(oneS x).2=true):zy (ZH (oneS x).1)<=zV x:=by
 have hx:=yl (xN x);unfold oneS at h ⊢;cases e:trimS x with
 |nil=>simp only[e]at h;cases h
 |cons n r=>
  rw[e,Q4]at hx;simp only[e]at h ⊢;cases hk:n.token.kind==1 with
  |false=>rw[hk]at h;cases h
  |true=>
   rw[hk,Ca]at h;simp only[Ca];have h2:=yl (Ac isSp (l:=r));cases e2:r.dropWhile isSp with
   |nil=>simp only[e2]at h;cases h
   |cons c q=>
    rw[e2,Q4]at h2;simp only[e2]at h ⊢;cases hc:c.token.kind==16 with
    |false=>rw[hc]at h;cases h
    |true=>
     rw[hc,Ca]at h;simp only[Ca];cases hd:Bh ⟨nmD n.token.text,(Fg (q.dropWhile isSp)).1,(Fg (q.dropWhile isSp)).2⟩with
     |false=>rw[hd]at h;cases h
     |true=> simp only[Ca];have h3:=yl (Ac isSp (l:=q));have h4:zV (Fg (q.dropWhile isSp)).1<=zV (q.dropWhile isSp):=yl (WL _);rw[Q3,zEF];show 3+n.token.text.length+zV (Fg (q.dropWhile isSp)).1<=zV x;omega
def zP(ps:List (List za)):Nat:=(ps.map zV).sum
theorem Dx(a b:List (List za)):zP (a++b)=zP a+zP b:=by unfold zP;rw[Oe,List.sum_append]
theorem CK(k:Int): ∀(l:List za) (a:List (List za)×List za),zP (l.foldl (Vf k) a).1+zV (l.foldl (Vf k) a).2+6*(l.foldl (Vf k) a).1.length<=zP a.1+zV a.2+6*a.1.length+zV l
 |[],a=>by show _<=_+zV [];rw[show zV []=0 from rfl];exact Sa _
 |v::l,a=>by
  rw[Xd];have ih:=CK k l (Vf k a v);have hv:=Q4 v l;refine ma ih ?_;unfold Vf;split
  ·rw[Dx,Ia,show zP [a.2]=zV a.2 from rfl,show zV []=0 from rfl,Mc];omega
  ·have h1:zV (a.2++[v])=zV a.2+zV [v]:=jh zf a.2 [v];have h2:zV [v]=6+v.token.text.length+v.token.unit.length+zV v.list:=Q4 v [];show zP a.1+zV (a.2++[v])+6*a.1.length+zV l<=_;omega
theorem JD(k:Int)(l:List za):zP (Tf k l)+6*(Tf k l).length<=zV l+6:=by have h:=CK k l ([],[]);unfold Tf Pf;rw[Dx,Ia,Mc,show∀p:List za,zP [p]=zV p from fun _=>rfl];simp only[show zP []=0 from rfl,show zV []=0 from rfl,Ya]at h;omega
theorem zGZ(a:List Zm)(p:List za):zL ZH (Oj a p)<=zL ZH a+zV p:=by
 unfold Oj;cases hb:(oneS p).2&&decide (a.length<32)with
 |false=>exact rf ..
 |true=> rw[Ea]at hb;have:=GR hb.1;rw[Ca,jh,ZI,Lh];omega
theorem yJ: ∀(ps:List (List za)) (a:List Zm),zL ZH (ps.foldl Oj a)<=zL ZH a+zP ps
 |[],a=>rf ..
 |p::ps,a=>by rw[Xd];have h1:=yJ ps (Oj a p);have h2:=zGZ a p;have h3:zP (p::ps)=zV p+zP ps:=rfl;omega
theorem zBA(x:List za):zL ZH (Ii (Tf 17 x))<=zV x+6:=by have h1:=yJ (Tf 17 x) [];have h2:=JD 17 x;unfold Ii;rw[Lh]at h1;omega
theorem zC(c:zt):zy (zw c)=7+c.name.length+c.decl.name.length+zV c.decl.value+zL zw c.list:=by have h1:zy (ZH c.decl)=3+c.decl.name.length+zV c.decl.value:=Q3 _;rw[El,h1];omega
theorem Jj(k:Int)(s:Str)(n:Int)(l:List zt):zy (zw ⟨k,s,n,noDC,l⟩)=7+s.length+zL zw l:=by rw[zC];show 7+s.length+0+0+zL zw l=_;omega
theorem NK{k:Int}{r:List za}{c:zt}(h:Bq k r=some c):zy (zw c)=7:=by
 unfold Bq at h;split at h
 ·cases h
 ·rename_i a r2 e;cases ha:a.token.kind==16 with
  |false=>rw[ha]at h;cases h
  |true=>
   rw[ha,Ca]at h;split at h
   ·cases h
   ·rename_i t r3 _;cases hb:(sp r3).isEmpty&&pxS t.token with
    |true=>rw[hb]at h;cases h;exact Jj ..
    |false=>rw[hb]at h;cases h
theorem fT{a:za}{c:zt}(h:Ai a=some c):zy (zw c)=7:=by
 unfold Ai EJ at h;cases ha:a.token.kind==21 with
 |false=>rw[ha]at h;cases h
 |true=>
  rw[ha,Ca]at h;split at h
  ·cases h
  ·rename_i w r e;cases h1:isW minW w with
   |true=>rw[h1,Ca]at h;exact NK h
   |false=>
    rw[h1,Ba]at h;cases h2:isW maxW w with
    |true=>rw[h2,Ca]at h;exact NK h
    |false=>rw[h2]at h;cases h
theorem kS: ∀(n:Nat) (l:List za) (r:List zt),Jk n l=some r->zL zw r<=zV l
 |0,_,_,h=>by cases h
 |n+1,l,r,h=>by
  have h0:=spL l;unfold Jk at h;split at h
  ·cases h;exact Va _
  ·rename_i a q e;rw[e,Q4]at h0;have h1:=spL q;cases ha:isW andW a with
   |false=>rw[ha]at h;cases h
   |true=>
    rw[ha,Ca]at h;split at h
    ·cases h
    ·rename_i b q' e2;rw[e2,Q4]at h1;split at h
     ·cases h
     ·rename_i x hx;obtain⟨r',h2,rfl⟩:=Ja.1 h;have h3:=kS n q' r' h2;rw[ZI,fT hx];omega
theorem XD{no only:Bool}{l:List za}{c:zt}(h:Yl no only l=some c):zy (zw c)<=21+2*zV l:=by
 unfold Yl at h;split at h
 ·cases h
 ·rename_i x hx;split at h
  ·cases h
  ·rename_i r hr;have h1:=kS _ _ _ hr;have h2:zy (zw x)+zV l.tail<=7+zV l:=by
    unfold Jq at hx;split at hx
    ·cases hx
    ·rename_i a t;have:=Q4 a t;show _+zV t<=_;cases ha:a.token.kind==1 with
     |true=>
      rw[ha,Ca]at hx;cases hm:medS (lowS a.token.text)with
      |false=>rw[hm]at hx;cases hx
      |true=> rw[hm,Ca]at hx;cases hx;have h3:zy (zw (medC (lowS a.token.text)))=7+(lowS a.token.text).length+0:=Jj ..;rw[Un]at h3;omega
     |false=>
      rw[ha,Ba]at hx;cases ho:only with
      |true=>rw[ho]at hx;cases hx
      |false=>rw[ho,Ba]at hx;have:=fT hx;omega
   have h3:zy (zw (allC (x::r)))=7+0+(zy (zw x)+zL zw r):=Jj ..;injection h with h;subst h;cases no with
   |false=>show zy (zw (allC (x::r)))<=_;omega
   |true=> have h4:zy (zw (notC (allC (x::r))))=7+0+(zy (zw (allC (x::r)))+0):=Jj ..;show zy (zw (notC (allC (x::r))))<=_;omega
theorem zHA(l:List za):zV l.tail<=zV l:=yl (Uh l)
theorem zE9(l:List za):zy (zw (orN (og l)))<=24+2*zV l:=by
 cases hq:og l with
 |none=>exact ma (by decide:zy (zw Rx)<=24) (rf ..)
 |some c=>
  show zy (zw c)<=_;have h0:=spL l;have h1:=zHA (sp l);have h2:=spL (sp l).tail;unfold og at hq;cases ha:headW notW (sp l)with
  |true=>rw[ha,Ca]at hq;have:=XD hq;omega
  |false=>
   rw[ha,Ba]at hq;cases hb:headW Tt (sp l)with
   |true=>rw[hb,Ca]at hq;have:=XD hq;omega
   |false=>rw[hb,Ba]at hq;have:=XD hq;omega
theorem zDJ(x:List za):zy (zw (Su x))<=31+6*zV x:=by
 have key: ∀ps:List (List za),zL zw (ps.map fun p=>orN (og p))<=24*ps.length+2*zP ps:=by
  intro ps
  induction ps with
  |nil=>exact Va _
  |cons p ps ih=> have:=zE9 p;rw[Bc,ZI,Da];show _<=_+2*(zV p+zP ps);omega
 have h1:=key (Tf 18 x);have h2:=JD 18 x;have h3:zy (zw (Su x))=7+0+zL zw ((Tf 18 x).map fun p=>orN (og p)):=Jj ..;omega
theorem zED(x:List za):zy (zw (ll x).1)<=31+6*zV x:=by
 have h0: ∀k,zy (zw ⟨k,[],0,noDC,[]⟩)<=31+6*zV x:=fun k=>by rw[Jj];show 7+0+0<=_;omega
 unfold ll;split
 ·split
  ·exact h0 _
  ·split
   ·exact h0 _
   ·exact zDJ x
 ·exact h0 _
section
variable {f:List za->Option zt} {N:Nat} (hf: ∀l c,zV l<N->f l=some c->zy (zw c)<=3*zV l)
include hf
theorem OJ{a:za}{c:zt}(ha:zV a.list<N)(h:Mg f a=some c):zy (zw c)<=18+3*zV a.list:=by
 have h8:zy (zw Rq)<=18+3*zV a.list:=by have:zy (zw Rq)=7+0+0:=Jj ..;omega
 unfold Mg at h;cases h2:a.token.kind==2 with
 |true=>rw[h2,Ca]at h;cases h;exact h8
 |false=>
  rw[h2,Ba]at h;cases h3:a.token.kind==21 with
  |false=>rw[h3]at h;cases h
  |true=>
   rw[h3,Ca]at h;split at h
   ·rename_i d hd;cases h;unfold oneO at hd;cases ho:(oneS a.list).2 with
    |false=>rw[ho]at hd;cases hd
    |true=> rw[ho,Ca]at hd;cases hd;have h4:=GR ho;rw[Q3]at h4;rw[zC];show 7+0+(oneS a.list).1.name.length+zV (oneS a.list).1.value+0<=_;show 7+0+(oneS a.list).1.name.length+zL zf (oneS a.list).1.value+0<=_;omega
   ·split at h
    ·cases h;rename_i c' hc;have:=hf _ _ ha hc;omega
    ·cases h;exact h8
theorem KT(op:Str): ∀(n:Nat) (flag:Bool) (l:List za) (r:List zt),zV l<=N->si f op n flag l=some r->(l=[]/\r=[])\/zL zw r+18<=3*zV l
 |0,_,_,_,_,h=>by cases h
 |n+1,_,[],r,_,h=>by cases h;exact .inl ⟨rfl,rfl⟩
 |n+1,flag,a::q,r,hN,h=>by
  rw[RO]at h;have h0:=Q4 a q;have h1:=spL q;cases ha:flag&&(isW op a&&decide ((sp q).length<q.length))with
  |false=>rw[ha]at h;cases h
  |true=>
   rw[ha,Ca]at h;split at h
   ·cases h
   ·rename_i b q' e2;rw[e2,Q4]at h1;have h2:=spL q';split at h
    ·cases h
    ·rename_i x hx;obtain⟨r',h3,rfl⟩:=Ja.1 h;have h5:=OJ hf (by omega) hx;refine .inr ?_;rw[ZI];rcases KT op n _ _ r' (by omega) h3 with⟨_,e⟩|h4
     ·rw[e,Lh];omega
     ·omega
theorem zFr{l:List za}{c:zt}(hl:zV l<=N)(h:Ih f l=some c):zy (zw c)<=3*zV l:=by
 unfold Ih at h;have h0:=spL l;split at h
 ·cases h
 ·rename_i a r e;rw[e,Q4]at h0;have h1:=spL r;cases ha:isW notW a with
  |true=>
   rw[ha,Ca]at h;cases hb:decide ((sp r).length<r.length)&&(sp (sp r).tail).isEmpty with
   |false=>rw[hb]at h;cases h
   |true=>
    rw[hb,Ca]at h;obtain⟨x,h3,rfl⟩:=Ja.1 h;have h4:zy (zw (notC x))=7+0+(zy (zw x)+0):=Jj ..;unfold ui at h3;split at h3
    ·cases h3
    ·rename_i b t e3;rw[e3,Q4]at h1;have:=OJ hf (by omega) h3;omega
  |false=>
   rw[ha,Ba]at h;split at h
   ·cases h
   ·rename_i x hx;have h2:=OJ hf (by omega) hx;split at h
    ·cases h;omega
    ·rename_i w t e3;rw[e3]at h1;have key: ∀op k q,Ug f op (decide ((sp r).length<r.length)) (w::t)=some q->zy (zw ⟨k,[],0,noDC,x::q⟩)<=3*zV l:=fun op k q hq=>by
      have h4:zy (zw ⟨k,[],0,noDC,x::q⟩)=7+0+(zy (zw x)+zL zw q):=Jj ..;rcases KT hf op _ _ _ q (by omega) hq with⟨e,_⟩|h5
      ·cases e
      ·omega
     cases ho:isW orW w with
     |true=> rw[ho,Ca]at h;obtain⟨q,h6,rfl⟩:=Ja.1 h;exact key _ _ _ h6
     |false=> rw[ho,Ba]at h;obtain⟨q,h6,rfl⟩:=Ja.1 h;exact key _ _ _ h6
end
theorem DU: ∀(n:Nat) (l:List za) (c:zt),Wl n l=some c->zy (zw c)<=3*zV l
 |0,_,_,h=>by cases h
 |n+1,l,c,h=>zFr (N:=zV l) (fun l c _ h=>DU n l c h) (Sa _) h
theorem zHx(x:List za):zy (zw (supS x).1)<=7+3*zV x:=by
 have h0:zy (zw nilC)<=7+3*zV x:=by have:zy (zw nilC)=7+0+0:=Jj ..;omega
 unfold supS;split
 ·split
  ·rename_i c hc;have h1:=DU _ _ _ hc;cases Bv c with
   |true=>show zy (zw c)<=_;omega
   |false=>exact h0
  ·exact h0
 ·exact h0
abbrev encN:List Str->List PV:=fun l=>[.sl (l.map fun y=>[.str y])]
abbrev encT:Str->List PV:=fun y=>[.str y]
theorem pR(n:List Str):zy (encN n)=1+zL encT n:=by exact dD n
theorem zR(x:zJ):zy (zD x)=5+zL zA x.selectors+zL ZH x.decls+zy (zw x.cond)+zL encN x.names+zL zD x.rules:=Mm x
def noR:zJ:=⟨0,[],[],⟨0,[],0,⟨[],[],false⟩,[]⟩,[],[]⟩
theorem zNoC:zy (zw ⟨0,[],0,⟨[],[],false⟩,[]⟩)=7:=Jj ..
theorem zAK{p b:List za}(hp:4*zV p+8<=big)(hb:zV b<big):Has (Pw (p,b)) fun y=>zy (zD y.1)<=18+3*zV p+zV b/\y.1.rules=[]/\(y.1.kind=0\/y.1.kind=1):=by
 have h0:zy (zD noR)<=18+3*zV p+zV b:=by rw[zR];show 5+0+0+zy (zw ⟨0,[],0,⟨[],[],false⟩,[]⟩)+0+0<=_;rw[zNoC];omega
 unfold Pw;refine Has.bind (zAr (v:=p) hp) fun y hy=> ?_;refine Has.bif (fun _=>Has.some ⟨h0,rfl, .inl rfl⟩) fun _=> ?_;refine Has.eqb (zHa (x:=b) (Nat.lt_of_le_of_lt (Dj b) hb)) ?_;refine Has.some ⟨?_,rfl, .inr rfl⟩;have hd:zL ZH (if errS b=0 then(Ii (Tf 17 b),(0:Int))else([],errS b)).1<=zV b+6:=by
  split
  ·exact zBA b
  ·exact Va _
 have hy:zL zA y.1<=3*zV p:=hy;rw[zR];show 5+zL zA y.1+zL ZH (if errS b=0 then(Ii (Tf 17 b),(0:Int))else([],errS b)).1+zy (zw ⟨0,[],0,⟨[],[],false⟩,[]⟩)+0+0<=_;rw[zNoC];omega
theorem CX{x:List Str}(h:x.length<=big):Has (SB x) fun _=>True:=by
 unfold SB;refine Has.bind (P:=fun _=>True) (Has.cond (fun _=> ?_) fun _=>trivial) fun _ _=>Has.some trivial;unfold Qf QL;refine Has.bind (P:=fun _=>True) (Has.of (Uj x (fun v=> !Ak v) h (fun i hi=> ?_) ?_) trivial) fun _ _=>Has.some trivial
 ·have e:(decide ((0:Int)<=(i:Int))&&decide ((i:Int)<(x.length:Int)))=true:=PS hi;simp only[ZY hi,Ca,e,Zy,Ib,Ra hi,ze,Aa,CP];rw[show decide ((0:Int)<=(i:Int))=true from Fa (by omega)];rfl
 ·simp only[ZM,Ba]
theorem CR(v:List za)(n:Nat):zT v n<=zV v:=Mi v n
theorem zCu{v:List za}(hz:zV v<=big):Has (BA v) fun y=>zL encT y.1<=zV v:=by
 have hs:szL v<=zV v:=Dj v;unfold BA;refine Has.eqb (pF (l:=v) (by omega)) ?_;refine Has.bif (fun _=>Has.some (Va _)) fun _=> ?_;obtain⟨w,hw⟩: ∃w,(if errS v=0 then(trimS v,(0:Int))else([],errS v)).1=w:=⟨_,rfl⟩;have hwz:zV w<=zV v:=by
  rw[<-hw];split
  ·exact yl (xN v)
  ·exact Va _
 simp only[hw];have hl:=zLen w;have hl':w.length<=zV w:=hl;refine Has.loop (fun s=> ∃i:Nat,i<=w.length/\s.1=(i:Int)/\zL encT s.2<=zT w i) (fun s=>w.length - s.1.toNat) (P:=fun l=>zL encT l<=zV v) ⟨0,Va _,rfl,Va _⟩ (fun⟨s1,l⟩ ⟨i,hi,e,h1⟩=> ?_) fun l hl2=> ?_
 ·have e:s1=_:=e;subst e;dsimp only at h1 ⊢;have hti:=CR w i;refine Has.bif (fun hlt=> ?_) fun _=>Has.some (by show zL encT l<=_;omega);have hlt:i<w.length:=by have:=Ub hlt;omega
  have ht:=Fj hlt;have hti1:=CR w (i+1);have hlen:l.length<=zL encT l:=Qw (fun y=>by simp[zy,bPV]) l;have e1:w64 ((i:Int)+1)=((i+1:Nat):Int):=wh (by unfold big at *; omega);refine Has.join (P:=fun j=>j.1=(i:Int)/\zL encT j.2<=zT w (i+1)) ?_ fun⟨j1,j2⟩ ⟨e2,h2⟩=> ?_
  ·refine Has.eqb (Zu hlt) ?_;refine Has.bif (fun _=>Has.bif (fun _=>Has.some (Va _)) fun _=>Has.some ⟨rfl,by show zL encT l<=_;omega⟩) fun _=>Has.bif (fun _=>Has.some (Va _)) fun _=> ?_;refine Has.need (ZU (by unfold big at *; omega)) (Has.some ⟨rfl,?_⟩);show zL encT (l++[w[i].token.text])<=_;have e3:zy (encT w[i].token.text)=1+w[i].token.text.length:=by simp only[zy,bPV];omega
   rw[kF hlt]at ht;rw[jh,ZI,Lh,e3];omega
  ·have e2:j1=_:=e2;subst e2;refine Has.some ⟨⟨i+1,hlt,e1,h2⟩,?_⟩;show w.length - (w64 ((i:Int)+1)).toNat<w.length - (i:Int).toNat;rw[e1];omega
 ·have hlen:l.length<=zL encT l:=Qw (fun y=>by simp[zy,bPV]) l;exact Has.bind (CX (x:=l) (by omega)) fun _ _=>Has.some hl2
theorem fM{v:List za}(hz:zV v+100<=big)(b:Bool):Has (Dp (v,b)) fun y=>zy (zD y.1)<=18+2*zV v/\y.1.rules=[]/\(b=false->y.1.kind=0\/y.1.kind=5):=by
 have hs:szL v<=zV v:=Dj v;have fin: ∀(k:Int) (ns:List (List Str)),zL encN ns<=2*zV v+6->zy (zD ⟨k,[],[],⟨0,[],0,⟨[],[],false⟩,[]⟩,ns,[]⟩)<=18+2*zV v:=fun k ns hn=>by rw[zR];show 5+0+0+zy (zw ⟨0,[],0,⟨[],[],false⟩,[]⟩)+zL encN ns+0<=_;rw[zNoC];omega
 have fin0: ∀k:Int,zy (zD ⟨k,[],[],⟨0,[],0,⟨[],[],false⟩,[]⟩,[],[]⟩)<=18+2*zV v:=fun k=>fin k [] (Va _);unfold Dp;refine Has.eqb (pG (l:=v) (k:=18) (by omega)) ?_;obtain⟨w,hw⟩: ∃w,(if errS v=0 then(if(18:Int)<1\/(24:Int)<18 then([],(2:Int))else(Tf 18 v,0))else([],errS v))=w:=⟨_,rfl⟩;have hwz:zP w.1+6*w.1.length<=zV v+6:=by
  rw[<-hw];split
  ·rw[Ha (by decide)];exact JD 18 v
  ·exact Va _
 rw[hw];refine Has.bif (fun _=>Has.some ⟨fin0 0,rfl,fun _=> .inl rfl⟩) fun h64=> ?_;refine Has.join (P:=fun j=> ∃k,j.2=(k,0,[],0,[],false)/\(b=false->k=5)) ?_ fun⟨j1,j2⟩ ⟨k,e,hk5⟩=> ?_
 ·refine Has.bif (fun hb=> ?_) fun _=>Has.some ⟨5,rfl,fun _=>rfl⟩;refine Has.eqb (pF (l:=v) (by omega)) ?_;exact Has.bif (fun _=>Has.some ⟨fin0 4,rfl,fun h=>by rw[h]at hb;cases hb⟩) fun _=>Has.some ⟨4,rfl,fun h=>by rw[h]at hb;cases hb⟩
 have e:j2=_:=e;subst e;have wl:w.1.length<=big:=by omega
 refine Has.loop (fun s=> ∃i:Nat,i<=w.1.length/\s.1=(i:Int)/\s.2.2.1=(k,0,[],0,[],false)/\zL encN s.2.2.2<=i+zP (w.1.take i)) (fun s=>w.1.length - s.1.toNat) (P:=fun s=>s.2.1=(k,0,[],0,[],false)/\zL encN s.2.2<=2*zV v+6)
  ⟨0,Va _,rfl,rfl,Va _⟩ (fun⟨s1,s2,s3,ns⟩ ⟨i,hi,e,e2,h1⟩=> ?_) fun⟨o1,o2,o3⟩ ⟨e,h1⟩=> ?_
 ·have e:s1=_:=e;have e2:s3=_:=e2;subst e e2;dsimp only at h1 ⊢;have hPm: ∀n,zP (w.1.take n)<=zP w.1:=fun n=>by have:=Dx (w.1.take n) (w.1.drop n);rw[Xf]at this;omega
  have hp:=hPm i;refine Has.bif (fun hlt=> ?_) fun _=>Has.some ⟨rfl,by show zL encN ns<=_;omega⟩;have hlt:i<w.1.length:=by have:=Ub hlt;omega
  have e1:w64 ((i:Int)+1)=((i+1:Nat):Int):=wh (by unfold big at *; omega);have e3:zP (w.1.take (i+1))=zP (w.1.take i)+zV w.1[i]:=by rw[Lc hlt,Dx];rfl
  have hp1:=hPm (i+1);have hlen:ns.length<=zL encN ns:=Qw (fun y=>by rw[pR];omega) ns;refine Has.eqb (Zu hlt) ?_;refine Has.bind (zCu (v:=w.1[i]) (by omega)) fun y hy=> ?_;refine Has.bif (fun _=>Has.some ⟨fin0 0,rfl,fun _=> .inl rfl⟩) fun _=> ?_;refine Has.need (ZU (by unfold big at *; omega)) (Has.some ⟨⟨i+1,hlt,e1,rfl,?_⟩,?_⟩)
  ·show zL encN (ns++[y.1])<=_;rw[jh,ZI,Lh,pR,e3];omega
  ·show w.1.length - (w64 ((i:Int)+1)).toNat<w.1.length - (i:Int).toNat;rw[e1];omega
 ·have e:o2=_:=e;subst e;exact Has.some ⟨fin k o3 h1,rfl,fun h=> .inr (hk5 h)⟩
end Go.Lv.VT
