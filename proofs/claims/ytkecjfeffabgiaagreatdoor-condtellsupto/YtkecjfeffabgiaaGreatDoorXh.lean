/- NestSplit: parts are the values; trimming takes spaces at both ends. -/
import Derived.Test.YtkecjfeffabgiaaGreatDoorXg
import Derived.Test.YtkecjfeffabgiaaGreatDoorMo
import Derived.KernelRfl
import Derived.Test.YtkecjfeffabgiaaGreatDoorXa
import Derived.Test.YtkecjfeffabgiaaGreatDoorXb
import Derived.Test.YtkecjfeffabgiaaGreatDoorXc
import Derived.Test.YtkecjfeffabgiaaGreatDoorXf
set_option linter.unusedSimpArgs false
set_option linter.unusedVariables false
namespace Go.Lv.VT
set_option maxRecDepth 100000
inductive Cuts (k:Int):List zh->List (List zh)->Prop
 |one (p:List zh) (h: ∀x∈p,(x.token.kind==k)=false):Cuts k p [p]
 |more (p:List zh) (s:zh) (v:List zh) (ps:List (List zh)) (h: ∀x∈p,(x.token.kind==k)=false) (hs:(s.token.kind==k)=true) (hc:Cuts k v ps):Cuts k (p++s::v) (p::ps)
theorem zAm(v:List zh):(trimS v).Sublist v:=(KF _).trans (Xf _)
def wN(l:List zh):Prop:= ∀t v,l=t++[v]->isSp v=false
def Bu(l:List zh):Prop:= ∀a t,l=a::t->isSp a=false
theorem wN.id{l:List zh}(h:wN l):trimB l=l:=by
 rcases UL l with rfl|⟨t,v,rfl⟩
 ·rfl
 ·rw[pz,h t v rfl];rfl
theorem Bu.pre{a b:List zh}(h:Bu (a++b)):Bu a:=fun x t e=>h x (t++b) (by rw[e];rfl)
theorem Bu.id{l:List zh}(h:Bu l):l.dropWhile isSp=l:=by
 cases l with
 |nil=>rfl
 |cons a t=>rw[yc,h a t rfl];rfl
--< pulled
--p zValue_pos
--p sp
abbrev sp(l:List zh):List zh:=l.dropWhile isSp
--p sp_nil
--p sp_cons
--p sp_sub
--p sp_len
--p sp_idem
--p EndS
--p trimB_idem
--p end_tail
--p end_sp
--p trimS_end
--p sp_pre
--p loop_fold
--> pulled
theorem zDB{l:List zh}(h:(trimS l).length=l.length):trimS l=l:=(zAm l).eq_of_length h
theorem zBf{d:z8}(h:Ng d=true):trimS d.value=d.value:=by unfold Ng Yp at h;simp only[Da]at h;refine zDB ?_;have:=EU d.value;rw[h.2.2.2.2.2.2]at this;exact eq_of_beq this
theorem Y9{d:z8}(h:Ng d=true)(hz:szL d.value<=big):wm d.value=some (d.value,0):=by
 have he:errS d.value=0:=by unfold Ng at h;simp only[Da,ma]at h;exact h.2.1
 rw[zCo hz,Ka he,zBf h]
theorem jm{S X R:Type}{step:S->Option (LO S X R)}{k:X->Option R}(n:Nat)(st:Nat->S)(x:X){s0:S}(h0:s0=st 0)(hg: ∀i,i<n->step (st i)=some (.again (st (i+1))))(hf:step (st n)=some (.out x)):zS step s0 k=k x:=by
 have key: ∀(m i:Nat),i+m=n-> ∃j,Z7 step j (st i)=some (.out x):=by
  intro m
  induction m with
  |zero=>
   intro i hi;obtain rfl:i=n:=by omega
   exact⟨1,by simp only[Z7,hf]⟩
  |succ m ih=> intro i hi;obtain⟨j,hj⟩:=ih (i+1) (by omega);exact⟨j+1,by simp only[Z7,hg i (by omega)];exact hj⟩
 obtain⟨j,hj⟩:=key n 0 (by omega);rw[h0,Go.Lv.Zk (QY hj)]
theorem Jv{α β:Type}(f:α->List β){l:List α}{i:Nat}(h:i<l.length):(l.take (i+1)).flatMap f=(l.take i).flatMap f++f l[i]:=by rw[jb h,List.flatMap_append];simp
theorem MV{α β:Type}(f:α->List β)(l:List α)(i:Nat):((l.take i).flatMap f).length<=(l.flatMap f).length:=by have:=congrArg (fun l=>(l.flatMap f).length) (ig i l);simp only[List.flatMap_append,Ea]at this;omega
theorem WJ{α β:Type}(f:α->List β)(g:α->Nat): ∀{l:List α},(∀y∈l,(f y).length<=g y)->(l.flatMap f).length<=(l.map g).sum
 |[],_=>ja _
 |c::r,h=>by rw[df,Ea,ib,Ke];have h1:=h c (by simp);have h2:=WJ f g (l:=r) fun y hy=>h y (by simp[hy]);omega
theorem bJ: ∀c:zg,(Za c).length<=sizC c:=by
 have key: ∀(n:Nat) (c:zg),sizC c<=n->(Za c).length<=sizC c:=by
  intro n
  induction n with
  |zero=>intro c hc;have:=ji c;omega
  |succ n ih=>
   intro c hc;have hs:=dh c;rw[QL];cases c.kind==7 with
   |true=>have:=ji c;simp only[Ca,Fa,Va];omega
   |false=> have:=WJ Za sizC (l:=c.list) fun y hy=>ih y (by have:=QO hy;omega);simp only[Ba];omega
 exact fun c=>key _ c (ja _)
theorem zBg{l:List zg}{i:Nat}(hi:i<l.length):((l.take i).flatMap Za).length+(Za l[i]).length<=(l.map sizC).sum:=by have h1:=WJ Za sizC (l:=l.take i) fun y _=>bJ y;have h2:=bJ l[i];have h3:=Xo sizC hi;have h4:=bv sizC l (i+1);omega
theorem NQ{c:zg}(h:zx (zn c)<=big){i:Nat}(hi:i<c.list.length):Zj ((c.list.take i).flatMap Za).length (Za c.list[i]).length 48=true:=by have h1:=zBg hi;have h2:=dh c;have h3:=PD c;unfold big at h;exact oq (by omega)
theorem NW{c:zg}(h:zx (zn c)<=big)(ht: ∀d∈Za c,wm d.value=some (d.value,0)):QQ c=some (Za c):=by
 refine ZX (fun c=>zx (zn c)) (fun c=>zx (zn c)<=big/\ ∀d∈Za c,wm d.value=some (d.value,0)) Za (fun S c hc hS=> ?_) ⟨h,ht⟩;obtain⟨hc,ht⟩:=hc;unfold wF;rw[QL]at ht ⊢;cases h7:c.kind==7 with
 |true=> rw[h7,Ca]at ht;simp only[Ca,ht c.decl (by simp),za,Aa]
 |false=>
  rw[h7,Ba]at ht;simp only[Ba];have hlen:=QA c;refine(jm c.list.length (fun i=>((i:Int),(c.list.take i).flatMap Za)) (c.list.flatMap Za) rfl (fun i hi=> ?_) ?_).trans rfl
  ·have hm:=Kb hi;have hs:=hS c.list[i] ⟨by have:=ZA hm;omega,fun d hd=>ht d (Ae.2 ⟨_,hm,hd⟩)⟩ (ZA hm);simp only[Zr hi,Ca,Zb hi,za,Aa,Zc,hs,NQ hc hi,zF,Jv Za hi,zX hi (show c.list.length<=big by omega)]
  ·simp only[ql,Ba,Oc]
theorem BN{c:zg}(h:zx (zn c)<=big):Zy c=some (Za c):=by
 refine ZX (fun c=>zx (zn c)) (fun c=>zx (zn c)<=big) Za (fun S c hc hS=> ?_) h;unfold pG;rw[QL];cases h7:c.kind==7 with
 |true=>rfl
 |false=>
  simp only[Ba];have hlen:=QA c;refine(jm c.list.length (fun i=>((i:Int),(c.list.take i).flatMap Za)) (c.list.flatMap Za) rfl (fun i hi=> ?_) ?_).trans rfl
  ·have hm:=Kb hi;have hs:=hS c.list[i] (by have:=ZA hm;omega) (ZA hm);simp only[Zr hi,Ca,Zb hi,za,Aa,Zc,hs,NQ hc hi,zF,Jv Za hi,zX hi (show c.list.length<=big by omega)]
  ·simp only[ql,Ba,Oc]
mutual
def lfC:zg->Bool
 |⟨k,_,_,_,l⟩=>bif k==4||(k==5||(k==6||(k==7||k==8)))then l.isEmpty else(bif k==3 then l.length==1 else k==1||k==2)&&lfCs l
def lfCs:List zg->Bool
 |[]=>true
 |c::r=>lfC c&&lfCs r
end
theorem gQ: ∀l:List zg,lfCs l=l.all lfC
 |[]=>by rw[lfCs];rfl
 |c::r=>by rw[lfCs,gQ r];rfl
theorem Hm(c:zg):lfC c=bif c.kind==4||(c.kind==5||(c.kind==6||(c.kind==7||c.kind==8)))then c.list.isEmpty else(bif c.kind==3 then c.list.length==1 else c.kind==1||c.kind==2)&&c.list.all lfC:=by obtain⟨⟩:=c;rw[lfC,gQ]
theorem zHL{f:Bool}{y:zg}(h:Dh f y=true):lfC y=true:=by
 unfold Dh at h;simp only[Da]at h;rw[Hm,h.1];have:(y.kind==4||(y.kind==5||(y.kind==6||(y.kind==7||y.kind==8))))=true:=by have h2:=h.2;clear h;cases h4:y.kind==4<;>cases h5:y.kind==5<;>cases h6:y.kind==6<;>simp[h4,h5,h6]at h2 ⊢
 rw[this];rfl
theorem fQ{c:zg}(h:qZ c=true):lfC c=true:=by unfold qZ at h;simp only[Da,ma]at h;rw[Hm,h.1];exact Ab.2 fun y hy=>let⟨_,e⟩:=bz h.2.2.2 hy;zHL e
theorem zHK{c:zg}(h:mg c=true):lfC c=true:=by
 unfold mg at h;cases h3:c.kind==3 with
 |false=>rw[h3]at h;exact fQ h
 |true=>
  rw[h3,Ca,Da]at h;have:=h.2;revert this;rw[Hm,eq_of_beq h3];cases hl:c.list with
  |nil=>intro h;cases h
  |cons y r=>
   cases r with
   |nil=> intro hq;simp only[Da]at hq;simp[fQ hq.1]
   |cons z r=>intro hq;cases hq
theorem zEO{c:zg}(h:ZE c=true):lfC c=true:=by
 unfold ZE at h;simp only[Da,Sb,ma,Be,Ab]at h;rw[Hm];rcases h.2 with⟨hk,hl⟩|⟨hk,_,_,hl⟩
 ·rw[hk,hl];rfl
 ·rw[hk];exact Ab.2 fun y hy=>zHK (hl y hy)
theorem U4: ∀{c:zg},supC c=true->lfC c=true:=by
 have key: ∀(n:Nat) (c:zg),sizC c<=n->supC c=true->lfC c=true:=by
  intro n
  induction n with
  |zero=>intro c hc;have:=ji c;omega
  |succ n ih=>
   intro c hc hs;rw[Kl]at hs;rw[Hm];have hsz:=dh c;have ha:(c.list.all supC)=true->c.list.all lfC=true:=fun h=>Ab.2 fun y hy=>ih y (by have:=QO hy;omega) (Ab.1 h y hy);cases h7:c.kind==7 with
   |true=> rw[h7,Ca]at hs;simp only[Da]at hs;simp only[jc,Fe,Ca];exact hs.1
   |false=>
    cases h8:c.kind==8 with
    |true=> rw[h7,h8,Ba,Ca]at hs;simp only[Da]at hs;simp only[jc,Fe,Ca];exact hs.1
    |false=>
     rw[h7,h8,Ba,Ba]at hs;simp only[Da]at hs;obtain⟨hk,_,hl,hall⟩:=hs;have h4:(c.kind==4||(c.kind==5||(c.kind==6||(false||false))))=false:=by simp only[Sb,ma]at hk;rcases hk with e|e|e<;>rw[e]<;>rfl
     rw[h4,Ba,ha hall,Lb];cases h3:c.kind==3 with
     |true=>rw[h3]at hl;exact hl
     |false=>rw[h3,Xb]at hk;exact hk
 intro c hs;exact key _ c (ja _) hs
theorem nT(w:Int): ∀(a b:List zg) (ys:List Bool),ag w (a++b) ys=(ag w a ys&&ag w b (ys.drop (a.flatMap Za).length))
 |[],b,ys=>by rw[Vb,ag];rfl
 |c::a,b,ys=>by rw[Bb,ag,ag,nT w a b,Rf,Td,df,Ea]
theorem lT(w:Int): ∀(a b:List zg) (ys:List Bool),QE w (a++b) ys=(QE w a ys||QE w b (ys.drop (a.flatMap Za).length))
 |[],b,ys=>by rw[Vb,QE];rfl
 |c::a,b,ys=>by rw[Bb,QE,QE,lT w a b,Bool.or_assoc,Td,df,Ea]
theorem uU(w:Int): ∀(l:List zg) (ys:List Bool) (m:Nat),(l.flatMap Za).length<=m->ag w l (ys.take m)=ag w l ys
 |[],ys,m,_=>by rw[ag,ag]
 |c::a,ys,m,h=>by rw[df,Ea]at h;rw[ag,ag,List.take_take,Nat.min_eq_left (by omega),uf,uU w a _ _ (by omega)]
theorem rU(w:Int): ∀(l:List zg) (ys:List Bool) (m:Nat),(l.flatMap Za).length<=m->QE w l (ys.take m)=QE w l ys
 |[],ys,m,_=>by rw[QE,QE]
 |c::a,ys,m,h=>by rw[df,Ea]at h;rw[QE,QE,List.take_take,Nat.min_eq_left (by omega),uf,rU w a _ _ (by omega)]
theorem vU{w:Int}{l:List zg}{i:Nat}(hi:i<l.length)(ys:List Bool):ag w (l.take (i+1)) ys=(ag w (l.take i) ys&&holC w l[i] ((ys.drop ((l.take i).flatMap Za).length).take (Za l[i]).length)):=by rw[jb hi,nT,ag,ag,Lb]
theorem sU{w:Int}{l:List zg}{i:Nat}(hi:i<l.length)(ys:List Bool):QE w (l.take (i+1)) ys=(QE w (l.take i) ys||holC w l[i] ((ys.drop ((l.take i).flatMap Za).length).take (Za l[i]).length)):=by rw[jb hi,lT,QE,QE,Rc]
def arrB(s:Str):Str:=List.replicate (20 - s.length) 0++s
def atB(s:Str):Int:=((20 - s.length:Nat):Int)
theorem KR{s:Str}(h:s.length<=20):(arrB s).length=20:=by unfold arrB;rw[Ea,List.length_replicate];omega
theorem K3{c:Nat}{s:Str}(hc:c<256)(hs:s.length<20):Z8 ((c:Int),atB s,arrB s)=some (atB (UInt8.ofNat c::s),arrB (UInt8.ofNat c::s)):=by
 have e1:w64 (atB s - 1)=((20 - (s.length+1):Nat):Int):=by unfold atB;rw[w64,Zx (by omega) (by omega)];omega
 have hl:=KR (s:=s) (by omega);have hn:(decide ((0:Int)<=((20 - (s.length+1):Nat):Int))&&(decide (((20 - (s.length+1):Nat):Int)<20)&&decide (((20 - (s.length+1):Nat):Int)<((arrB s).length:Int))))=true:=by rw[hl,Ga (by omega),Ga (by omega)];exact Ga (by omega)
 obtain⟨k,hk⟩: ∃k,20 - s.length=k+1:=⟨19 - s.length,by omega⟩;have hk2:20 - (s.length+1)=k:=by omega
 have ha:arrB s=List.replicate k 0++0::s:=by unfold arrB;rw[hk,List.replicate_succ'];simp
 have g:(List.replicate k (0:UInt8)++0::s)[k]? =some 0:=by rw[rf (by simp)];simp
 have hset:List.set (List.replicate k (0:UInt8)++0::s) k (UInt8.ofNat c)=List.replicate k 0++UInt8.ofNat c::s:=by rw[List.set_append_right _ _ (by simp)];simp
 rw[hk2]at hn;unfold Z8;simp only[e1,hk2];rw[hn,zF,Oa,ha,g];simp only[za,Aa,ZJ hc,hset];unfold atB arrB;rw[Fa,hk2]
theorem O0: ∀d:Nat,d<10->wu8 (w64 (48+(d:Int)))=((48+d:Nat):Int):=by decide+kernel
theorem dZ{d:Nat}{s:Str}(hd:d<10)(hs:s.length<20):Z8 (wu8 (w64 (48+(d:Int))),atB s,arrB s)=some (atB (d48 d::s),arrB (d48 d::s)):=by rw[O0 d hd];exact K3 (by omega) hs
theorem uZ(s:Str)(h:s.length<=20):decide (atB s<20)= !s.isEmpty:=by
 unfold atB;cases s with
 |nil=>rfl
 |cons a r=>exact Ga (by simp only[Fa]at *; omega)
theorem zFi{R:Type}{p:Nat}{acc:Str}(ha:acc.length<20):
  ((bif bif Int.tmod (p:Int) 10 != 0 then true else decide (atB acc<20)then
   za (Z8 (wu8 (w64 (48+Int.tmod (p:Int) 10)),atB acc,arrB acc)) fun y4=>some (LX.out ((p:Int),y4.2,y4.1))
  else some (LX.out ((p:Int),arrB acc,atB acc))):Option (LX (Int×List UInt8×Int) R))=some (LX.out ((p:Int),arrB (Pj acc (p%10)),atB (Pj acc (p%10)))):=by
 have e:Int.tmod (p:Int) 10=((p%10:Nat):Int):=rfl;rw[e,uZ acc (by omega),dZ (Uf _ (by omega)) ha];simp only[za,Aa];have e2:(((p%10:Nat):Int) != 0)= !(p%10==0):=by
  cases h:p%10==0 with
  |true=>rw[eq_of_beq h];rfl
  |false=>have:=ne_of_beq_false h;simp only[Ra,Jg];omega
 rw[e2];unfold Pj;cases p%10==0<;>cases acc.isEmpty<;>rfl
def ccB(r:Nat):Nat->Str
 |0=>[]
 |1=>Pj [] (r%10)
 |2=>Pj (Pj [] (r%10)) (r / 10%10)
 |_=>dotB (bk3 r)
def ppB(r:Nat):Nat->Nat
 |0=>r
 |1=>r / 10
 |2=>r / 10 / 10
 |_=>r / 10 / 10 / 10
theorem YR(acc:Str)(d:Nat):(Pj acc d).length<=acc.length+1:=by unfold Pj;cases d==0&&acc.isEmpty<;>simp only[Ca,Ba,Fa]<;>omega
theorem H8{r:Nat}(h:r<1000):(dotB (bk3 r)).length<=4:=by have:=NP h;unfold dotB;cases (bk3 r).isEmpty<;>simp only[Ca,Ba,Fa]<;>omega
theorem YT {R:Type} {step:Int×List UInt8×Int->Option (LO (Int×List UInt8×Int) (List UInt8×Int) R)}
  (hstep: ∀(m:Nat) (s:Str),s.length<20->m<10000000000->step ((m:Int),arrB s,atB s)=if m<10 then some (.out (arrB (d48 m::s),atB (d48 m::s)))else some (.again (((m / 10:Nat):Int),arrB (d48 (m%10)::s),atB (d48 (m%10)::s)))):
  ∀(f m:Nat) (s:Str),m<10 ^ f->m<10000000000->0<f->s.length+f<=20-> ∃j,Z7 step j ((m:Int),arrB s,atB s)=some (.out (arrB (putD f m s),atB (putD f m s)))
 |0,_,_,_,_,h,_=>absurd h (by omega)
 |f+1,m,s,h,hm,_,hl=>by
  have e:=hstep m s (by omega) hm;rw[putD];by_cases h1:m<10
  ·rw[Ka h1]at e ⊢;exact⟨1,by simp only[Z7,e]⟩
  ·rw[Ja h1]at e ⊢;have h2:m / 10<10 ^ f:=by rw[Dg]at h;omega
   have hf:0<f:=by
    rcases Vf f with rfl|hf
    ·simp at h;omega
    ·exact hf
   obtain⟨j,hj⟩:=YT hstep f (m / 10) (d48 (m%10)::s) h2 (by omega) hf (by rw[Fa];omega);exact⟨j+1,by simp only[Z7,e];exact hj⟩
theorem NJ: ∀(f m:Nat) (s:Str),(putD f m s).length<=s.length+f
 |0,_,s=>by rw[putD];omega
 |f+1,m,s=>by
  rw[putD];split
  ·rw[Fa];omega
  ·have:=NJ f (m / 10) (d48 (m%10)::s);rw[Fa]at this;omega
theorem zu6{n:Int}(h0: -1000000000000<=n)(h:n<=1000000000000):Gp [n]=some 0:=by
 have:=jX n;unfold Ur isN at this;rw[Ga h0,Ga h]at this;cases hc:Gp [n]with
 |none=>rw[hc]at this;cases this
 |some z=>rw[hc]at this;simpa [za] using this
theorem zqw{n:Nat}(h:n<=1000000000000):uz (n:Int)=some (numT n false,0):=by
 have hr:n%1000<1000:=Uf _ (by omega);have hneg:decide ((n:Int)<0)=false:=La (by omega);have hT:numT n false=putD 10 (n / 1000) (dotB (bk3 (n%1000))):=by rw[WQ h];unfold numT;rw[Ja (by omega)];rfl
 have hlen:=NJ 10 (n / 1000) (dotB (bk3 (n%1000)));have hdl:=H8 hr;have e1:Int.tmod (n:Int) 1000=((n%1000:Nat):Int):=rfl;have e2:w64 (Int.tdiv (n:Int) 1000)=((n / 1000:Nat):Int):=by rw[show Int.tdiv (n:Int) 1000=((n / 1000:Nat):Int)from rfl,zM (by omega) (by omega)]
 unfold uz;rw[zu6 (by omega) (by omega)];simp only[za,Aa,bne_self_eq_false,Ba,hneg,zk,e1,e2];refine(jm 3 (fun i=>(((ppB (n%1000) i:Int),(i:Int)),arrB (ccB (n%1000) i),atB (ccB (n%1000) i))) (arrB (dotB (bk3 (n%1000))),atB (dotB (bk3 (n%1000)))) rfl (fun i hi=> ?_) rfl).trans ?_
 ·have hp: ∀i,ppB (n%1000) i<1000:=fun i=>by unfold ppB;split<;>omega
  have hc:(ccB (n%1000) i).length<20:=by have a1:=YR [] (n%1000%10);have a2:=YR (Pj [] (n%1000%10)) (n%1000 / 10%10);unfold ccB;split<;>simp only[Va]at* <;>omega
  have hs:=zFi (R:=LX ((Int×Int)×List UInt8×Int) (LO ((Int×Int)×List UInt8×Int) (List UInt8×Int) (Str×Int))) (p:=ppB (n%1000) i) hc;simp only[za]at hs;have d1:decide ((i:Int)<3)=true:=Ga (by omega);have hd10:w64 (Int.tdiv (ppB (n%1000) i:Int) 10)=((ppB (n%1000) i / 10:Nat):Int):=by rw[show Int.tdiv (ppB (n%1000) i:Int) 10=((ppB (n%1000) i / 10:Nat):Int)from rfl,zM (by omega) (by have:=hp i;omega)]
  simp only[d1,Ca];rw[hs];simp only[zk,hd10]
  match i,hi with
  |0,_=>rfl
  |1,_=>rfl
  |2,_=> show zP (bif bif ((2:Int)==2)then decide (atB (bk3 (n%1000))<20)else false then _ else _) _=_;rw[uZ _ (by have:=NP hr;omega)];show zP (bif !(bk3 (n%1000)).isEmpty then(Z8 (46,atB (bk3 (n%1000)),arrB (bk3 (n%1000)))).bind _ else _) _=_;rw[show((46:Int),atB (bk3 (n%1000)),arrB (bk3 (n%1000)))=(((46:Nat):Int),atB (bk3 (n%1000)),arrB (bk3 (n%1000)))from rfl,K3 (by omega) (by have:=NP hr;omega)];show _=some (LO.again (((_,_)),arrB (dotB (bk3 (n%1000))),atB (dotB (bk3 (n%1000)))));unfold dotB;cases (bk3 (n%1000)).isEmpty<;>rfl
 ·obtain⟨j,hj⟩:=YT (R:=Str×Int) (step:=fun(s9:Int×List UInt8×Int)=>
    (Z8 (wu8 (w64 (48+Int.tmod s9.1 10)),s9.2.2,s9.2.1)).bind fun y10=>
    bif decide (s9.1<10)then
     some (LO.out (y10.2,y10.1))
    else
     some (LO.again (w64 (Int.tdiv s9.1 10),y10.2,y10.1))) (fun m s hs hm=>by
   simp only[show Int.tmod (m:Int) 10=((m%10:Nat):Int)from rfl,dZ (Uf m (show 0<10 by omega)) hs,Aa];by_cases h1:m<10
   ·rw[Ka h1,Ga (by omega),Ca,ve h1]
   ·rw[Ja h1,La (by omega),Ba,show Int.tdiv (m:Int) 10=((m / 10:Nat):Int)from rfl,zM (by omega) (by omega)]) 10 (n / 1000) (dotB (bk3 (n%1000))) (by omega) (by omega) (by omega) (by omega)
  rw[Go.Lv.Zk (QY hj)];simp only[zk];rw[<-hT]at hlen ⊢;have hs20:(numT (n:Int) false).length<=20:=by omega
  have hL:=KR hs20;have n1:(decide ((0:Int)<=atB (numT (n:Int) false))&&decide (atB (numT (n:Int) false)<=20)&&Nat.beq (arrB (numT (n:Int) false)).length 20)=true:=by rw[hL];unfold atB;rw[Ga (by omega),Ga (by omega)];rfl
  have t1:(atB (numT (n:Int) false)).toNat=20 - (numT (n:Int) false).length:=Oa _;rw[n1,zF,t1,zo (Ga (by rw[hL];omega))];have hdrop:List.drop (20 - (numT (n:Int) false).length) (arrB (numT (n:Int) false))=numT n false:=by
   unfold arrB;have:=List.drop_left (l₁:=List.replicate (20 - (numT (n:Int) false).length) (0:UInt8)) (l₂:=numT n false)
   rwa [List.length_replicate]at this
  rw[hdrop,Sg (by omega)]
theorem aS: ∀{n:Nat},n<=1000000000000->qG (n:Int)=some (Lib.decDigits n):=by
 intro n hn;refine ZX (fun x:Int=>x.toNat) (fun x=>0<=x/\x<=1000000000000) (fun x=>Lib.decDigits x.toNat) (fun S x hx hS=> ?_) ⟨by omega,by omega⟩;obtain⟨m,rfl⟩: ∃m:Nat,x=(m:Int):=⟨x.toNat,by omega⟩;unfold YG;have hb:qb (wu8 (w64 (48+Int.tmod (m:Int) 10)))=some (d48 (m%10)):=by rw[show Int.tmod (m:Int) 10=((m%10:Nat):Int)from rfl,O0 _ (Uf _ (by omega)),ZJ (by omega)];rfl
 rw[Oa,Lib.decDigits,hb];simp only[za,Aa];by_cases h:m<10
 ·rw[Ga (by omega),Ca,dif_pos h,ve h];rfl
 ·have e1:w64 (Int.tdiv (m:Int) 10)=((m / 10:Nat):Int):=by rw[show Int.tdiv (m:Int) 10=((m / 10:Nat):Int)from rfl,zM (by omega) (by omega)]
  rw[La (by omega),Ba,dif_neg h,e1,hS _ ⟨by omega,by omega⟩ (by omega),Oa];simp only[Aa];rw[zo (zV.2 (by have:=ym (u:=m / 10) (by omega);rw[Jb];omega))];rfl
def byF:Nat->Nat
 |0=>0
 |1=>0
 |k+2=>10 ^ k
theorem zGU(k:Nat):byF (k+2) / 10=byF (k+1):=by
 cases k with
 |zero=>rfl
 |succ k=>show 10 ^ (k+1) / 10=10 ^ k;rw[Dg];omega
theorem C8 {R:Type} {step:Str×Int×Int->Option (LO (Str×Int×Int) Str R)}
  (hz: ∀s b,step (s,0,b)=some (.out s)) (hp: ∀(s:Str) (p b:Nat),0<p->0<b->p<=1000->b<=100->s.length<=1000->step (s,(p:Int),(b:Int))=some (.again (s++Lib.decDigits (p / b),((p%b:Nat):Int),((b / 10:Nat):Int)))):
  ∀(f p:Nat) (s:Str),f<=3->p<10 ^ f->s.length+20*f<=1000-> ∃j,Z7 step j (s,(p:Int),(byF (f+1):Int))=some (.out (s++fr3 (f+1) (byF (f+1)) p))
 |0,p,s,_,h,_=>by
  obtain rfl:p=0:=by simp at h;omega
  exact⟨1,by simp only[Z7];rw[show((0:Nat):Int)=0 from rfl,hz];simp[fr3]⟩
 |f+1,p,s,hf,h,hl=>by
  rw[fr3];by_cases h0:p>0
  ·rw[Ka h0];have hb:0<byF (f+2):=jf (by omega);have hb2:byF (f+2)<=100:=by show 10 ^ f<=100;exact vg (n:=10) (j:=2) (by omega) (by omega)
   have hp1000:p<=1000:=by have:10 ^ (f+1)<=1000:=vg (n:=10) (j:=3) (by omega) (by omega);omega
   have e:=hp s p (byF (f+2)) h0 hb hp1000 hb2 (by omega);have hdl:(Lib.decDigits (p / byF (f+2))).length<=20:=ym (by have:=Nat.div_le_self p (byF (f+2));omega);obtain⟨j,hj⟩:=C8 hz hp f (p%byF (f+2)) (s++Lib.decDigits (p / byF (f+2))) (by omega) (Uf _ hb) (by rw[Ea];omega);have hbd:=zGU f;rw[hbd]at e ⊢;exact⟨j+1,by simp only[Z7,e];rw[hj,Na]⟩
  ·obtain rfl:p=0:=by omega
   rw[Ja h0,Db];exact⟨1,by simp only[Z7];rw[show((0:Nat):Int)=0 from rfl,hz]⟩
theorem wV{n:Nat}(h:n<=1000000000000):nk (n:Int)=some (numT n false):=by
 refine ZX (fun _:Int=>0) (fun x=>0<=x/\x<=1000000000000) (fun x=>numT x false) (fun S x hx hS=> ?_) ⟨by omega,by omega⟩;obtain⟨n,rfl⟩: ∃m:Nat,x=(m:Int):=⟨x.toNat,by omega⟩;have hn:n<=1000000000000:=by omega
 have hr:n%1000<1000:=Uf _ (by omega);unfold GG;have hneg:decide ((n:Int)<0)=false:=La (by omega);have e2:w64 (Int.tdiv (n:Int) 1000)=((n / 1000:Nat):Int):=by rw[show Int.tdiv (n:Int) 1000=((n / 1000:Nat):Int)from rfl,zM (by omega) (by omega)]
 have hd:=ym (u:=n / 1000) (by omega);have hT:numT (n:Int) false=Lib.decDigits (n / 1000)++(bif n%1000==0 then []else 46::fr3 4 100 (n%1000)):=by rw[zHt hr];unfold numT;rw[Ja (by omega)];rfl
 rw[hT,hneg,Ba,e2,aS (by omega)];simp only[za,Aa];have e3:(Int.tmod (n:Int) 1000==0)=(n%1000==0):=by rw[show Int.tmod (n:Int) 1000=((n%1000:Nat):Int)from rfl,Ef,ma,ma];omega
 rw[e3];cases n%1000==0 with
 |true=>simp only[Ca,Db]
 |false=>
  simp only[Ba];rw[zo (zV.2 (by rw[Jb];omega))];obtain⟨j,hj⟩:=C8 (R:=Str) (step:=fun(s3:Str×Int×Int)=>
     bif decide (s3.2.1>0)then
      need (s3.2.2 != 0)<|
      (qG (w64 (Int.tdiv s3.2.1 s3.2.2))).bind fun y4=>
      need (zO s3.1.length y4.length)<|
      need (s3.2.2 != 0)<|
      some (LO.again (s3.1++y4,Int.tmod s3.2.1 s3.2.2,w64 (Int.tdiv s3.2.2 10)))
     else
      some (LO.out s3.1)) (fun s b=>rfl) (fun s p b hp hb hp1 hb1 hs=>by
   have q1:decide ((p:Int)>0)=true:=Ga (by omega);have q2:((b:Int) != 0)=true:=by rw[Jg];omega
   have q3:w64 (Int.tdiv (p:Int) (b:Int))=((p / b:Nat):Int):=by have:=Nat.div_le_self p b;rw[show Int.tdiv (p:Int) (b:Int)=((p / b:Nat):Int)from rfl];generalize p / b=q at this ⊢;rw[zM (by omega) (by omega)]
   have q4:w64 (Int.tdiv (b:Int) 10)=((b / 10:Nat):Int):=by rw[show Int.tdiv (b:Int) 10=((b / 10:Nat):Int)from rfl,zM (by omega) (by omega)]
   have q5:=ym (u:=p / b) (by have:=Nat.div_le_self p b;omega);have q6:zO s.length (Lib.decDigits (p / b)).length=true:=zV.2 (by omega);simp only[q1,q2,q3,q4,Ca,zF,aS (show p / b<=1000000000000 by have:=Nat.div_le_self p b;omega),Aa,q6];rfl) 3 (n%1000) (Lib.decDigits (n / 1000)++([46]:Str)) (by omega) hr (by rw[Ea,Jb];omega)
  have e4:Int.tmod (n:Int) 1000=((n%1000:Nat):Int):=rfl;rw[e4];refine(Go.Lv.Zk (QY hj)).trans ?_;rw[Na];rfl
def hldF(x:(zg×Int)×Int×List Bool):Bool×Int:=
 (holC x.1.2 x.1.1 ((x.2.2.drop x.2.1.toNat).take (Za x.1.1).length),((x.2.1.toNat+(Za x.1.1).length:Nat):Int))
theorem lC{c:zg}(hl:lfC c=true)(hk:c.kind=4\/c.kind=5\/c.kind=6\/c.kind=8):Za c=[]:=by rw[Hm]at hl;rw[QL];rcases hk with e|e|e|e<;>rw[e]at hl ⊢ <;>(have:=Be.1 hl;rw[this];rfl)
theorem jQ{c:zg}(h:(c.kind==7)=false):Za c=c.list.flatMap Za:=by rw[QL,h];rfl
theorem zsc{c:zg}{w:Int}{a:Nat}{ys:List Bool}(h:zx (zn c)<=big)(hl:lfC c=true)(hb:ys.length<=big)(ha:a+(Za c).length<=ys.length):
  jl ((c,w),(a:Int),ys)=some (hldF ((c,w),(a:Int),ys)):=by
 refine ZX (fun x:(zg×Int)×Int×List Bool=>zx (zn x.1.1)) (fun x=>zx (zn x.1.1)<=big/\lfC x.1.1=true/\x.2.2.length<=big/\ ∃a:Nat,x.2.1=a/\a+(Za x.1.1).length<=x.2.2.length) hldF (fun S x hx hS=> ?_) ⟨h,hl,hb,a,rfl,ha⟩;obtain⟨⟨c,w⟩,at_,ys⟩:=x;obtain⟨hc,hl,hb,a,ea,ha⟩:=hx;simp only at hc hl hb ea ha;subst ea;clear h;have hlen:=QA c;unfold vF hldF;simp only[Oa];rw[M8];cases h4:c.kind==4 with
 |true=>
  rw[lC hl (.inl (eq_of_beq h4))];show some (bif c.name==allW then true else c.name==Xu,(a:Int))=some (c.name==allW||c.name==Xu,((a+0:Nat):Int));cases c.name==allW<;>rfl
 |false=>
 cases h5:c.kind==5 with
 |true=>rw[lC hl (.inr (.inl (eq_of_beq h5)))];rfl
 |false=>
 cases h6:c.kind==6 with
 |true=>rw[lC hl (.inr (.inr (.inl (eq_of_beq h6))))];rfl
 |false=>
 cases h7:c.kind==7 with
 |true=>
  have hd:Za c=[c.decl]:=by rw[QL,h7];rfl
  rw[hd]at ha ⊢;simp only[Fa,Va]at ha ⊢;have hi:a<ys.length:=by omega
  unfold yF;have e1:w64 ((a:Int)+1)=((a+1:Nat):Int):=zX hi hb;have e2:w64 (((a+1:Nat):Int) - 1)=(a:Int):=by rw[show(((a+1:Nat):Int) - 1)=(a:Int) by omega,w64,Zx (by omega) (by unfold big at hb;omega)]
  have e3:((ys.drop a).take (0+1)).headD false=ys[a]:=by rw[Cb hi];rfl
  simp only[Ba,Ca,e1,e2,Zb hi,za,Aa,e3]
 |false=>
 cases h8:c.kind==8 with
 |true=>rw[lC hl (.inr (.inr (.inr (eq_of_beq h8))))];rfl
 |false=>
  have hlf:c.list.all lfC=true:=by rw[Hm,h4,h5,h6,h7,h8]at hl;simp only[Ue,Ba,Da]at hl;exact hl.2
  have hd:=jQ h7;simp only[Ba];refine(jm c.list.length (fun i=>((ag w (c.list.take i) (ys.drop a),QE w (c.list.take i) (ys.drop a),(i:Int)),((a+((c.list.take i).flatMap Za).length:Nat):Int))) ((ag w c.list (ys.drop a),QE w c.list (ys.drop a)),((a+(c.list.flatMap Za).length:Nat):Int)) ?_ (fun i hi=> ?_) ?_).trans ?_
  ·rw[mf,ag,QE];rfl
  ·have hm:=Kb hi;have hq:((c.list.take i).flatMap Za).length+(Za c.list[i]).length<=(Za c).length:=by rw[hd];have e:=Jv Za hi;have e2:((c.list.take (i+1)).flatMap Za).length<=(c.list.flatMap Za).length:=MV Za _ _;rw[e,Ea]at e2;exact e2
   have hs:=hS ((c.list[i],w),((a+((c.list.take i).flatMap Za).length:Nat):Int),ys) ⟨by have:=ZA hm;simp only;omega,Ab.1 hlf _ hm,hb,_,rfl,by simp only;omega⟩ (ZA hm);simp only[hldF,Oa]at hs;simp only[Zr hi,Ca,Zb hi,za,Aa,Zc,hs,zX hi (show c.list.length<=big by omega)];rw[vU hi,sU hi,Jv Za hi,Ea,Td,Nf];cases ag w (c.list.take i) (ys.drop a)<;>cases QE w (c.list.take i) (ys.drop a)<;>rfl
  ·simp only[ql,Ba,Oc]
  ·rw[hd,uU w _ _ _ (ja _),rU w _ _ _ (ja _)];cases c.kind==1<;>cases c.kind==2<;>rfl
theorem ztT{c:zg}{e:VEnv}{ys:List Bool}(h:zx (zn c)<=big)(hl:lfC c=true)(hy:ys.length=(Za c).length):
  jk (c,e,ys)=some (holC (w64 (1000*e.width)) c ys):=by
 refine ZX (fun x:zg×VEnv×List Bool=>zx (zn x.1)) (fun x=>zx (zn x.1)<=big/\lfC x.1=true/\x.2.2.length=(Za x.1).length) (fun x=>holC (w64 (1000*x.2.1.width)) x.1 x.2.2) (fun S x hx hS=> ?_) (x:=(c,e,ys)) ⟨h,hl,hy⟩;obtain⟨c,e,ys⟩:=x;obtain⟨hc,hl,hy⟩:=hx;simp only at hc hl hy hS;have hlen:=QA c;unfold CG;simp only;rw[M8];cases h4:c.kind==4 with
 |true=>
  show some (bif c.name==allW then true else c.name==Xu)=some (c.name==allW||c.name==Xu);cases c.name==allW<;>rfl
 |false=>
 cases h5:c.kind==5 with
 |true=>rfl
 |false=>
 cases h6:c.kind==6 with
 |true=>rfl
 |false=>
 cases h7:c.kind==7 with
 |true=>
  have hd:Za c=[c.decl]:=by rw[QL,h7];rfl
  rw[hd]at hy;cases ys with
  |nil=>cases hy
  |cons b r=>rfl
 |false=>
 cases h8:c.kind==8 with
 |true=>rfl
 |false=>
  have hd:=jQ h7;rw[Hm,h4,h5,h6,h7,h8]at hl;simp only[Ue,Ba,Da]at hl;obtain⟨hk,hlf⟩:=hl;simp only[Ba];cases h3:c.kind==3 with
  |true=>
   rw[h3,Ca]at hk;obtain⟨y,hl1⟩: ∃y,c.list=[y]:=Ff.1 (eq_of_beq hk);have hm:y∈c.list:=by rw[hl1];simp
   have hdy:Za c=Za y:=by rw[hd,hl1];simp
   have hs:=hS (y,e,ys) ⟨by have:=ZA hm;simp only;omega,Ab.1 hlf _ hm,by rw[hy,hdy]⟩ (ZA hm);have h1:(c.kind==1)=false:=by rw[eq_of_beq h3];rfl
   have h2:(c.kind==2)=false:=by rw[eq_of_beq h3];rfl
   have hg:geti [y] 0=some y:=rfl;rw[hl1,h1,h2];simp only[Ca,Ba,hg,za,Aa,Zc,hs];rw[QE,QE,<-hdy,<-hy,Oc,Rc]
  |false=>
   rw[h3,Ba]at hk;simp only[Ba];refine(jm c.list.length (fun i=>(ys.drop ((c.list.take i).flatMap Za).length,(bif c.kind==1 then ag (w64 (1000*e.width)) (c.list.take i) ys else QE (w64 (1000*e.width)) (c.list.take i) ys),(i:Int))) (bif c.kind==1 then ag (w64 (1000*e.width)) c.list ys else QE (w64 (1000*e.width)) c.list ys) ?_ (fun i hi=> ?_) ?_).trans ?_
   ·rw[mf,ag,QE];cases c.kind==1<;>rfl
   ·have hm:=Kb hi;have hq:((c.list.take i).flatMap Za).length+(Za c.list[i]).length<=ys.length:=by rw[hy,hd];have e:=Jv Za hi;have e2:((c.list.take (i+1)).flatMap Za).length<=(c.list.flatMap Za).length:=MV Za _ _;rw[e,Ea]at e2;exact e2
    have hz:zx (zn c.list[i])<=big:=by have:=ZA hm;omega
    have hs:=hS (c.list[i],e,(ys.drop ((c.list.take i).flatMap Za).length).take (Za c.list[i]).length) ⟨hz,Ab.1 hlf _ hm,by simp only[Lc,Dc];omega⟩ (ZA hm);simp only at hs;have hn:(decide ((0:Int)<=((Za c.list[i]).length:Int))&&decide (((Za c.list[i]).length:Int)<=((ys.drop ((c.list.take i).flatMap Za).length).length:Int)))=true:=by rw[Dc,Ga (by omega),Ga (by omega)];rfl
    simp only[Zr hi,Ca,Zb hi,za,Aa,Zc,BN hz,hn,zF,hs];cases h1:c.kind==1<;>simp only[Ca,Ba,zk,zX hi (show c.list.length<=big by omega),vU hi,sU hi,Jv Za hi,Ea,Td]
    ·cases QE (w64 (1000*e.width)) (c.list.take i) ys<;>rfl
    ·cases ag (w64 (1000*e.width)) (c.list.take i) ys<;>rfl
   ·simp only[ql,Ba,Oc]
   ·cases h1:c.kind==1 with
    |true=>rfl
    |false=>rw[h1,Xb]at hk;rw[hk];rfl
theorem OW{c:zg}(h:zx (zn c)<=big):Ir c=some (bif ZE c||Zv c then 0 else 8):=by unfold Ir;simp only[Zc,EN h,KN h,za,Aa];cases ZE c<;>rfl
theorem w_in{w:Int}(h:(decide (w<0)||decide (w>1000000000))=false):w64 (1000*w)=1000*w:=by simp only[Xe,decide_eq_false_iff_not]at h;rw[w64,Zx (by omega) (by omega)]
theorem KC{c:zg}(h:Zv c=true):supC c=true:=by unfold Zv at h;exact(Da _ _▸h).1
theorem WZ{c:zg}(h:(ZE c||Zv c)=true):lfC c=true:=by rw[Sb]at h;exact h.elim zEO fun h=>U4 (KC h)
theorem jS: ∀{c:zg},∀d∈Za c,zx (QW d)<=zx (zn c):=by
 have key: ∀(n:Nat) (c:zg),sizC c<=n-> ∀d∈Za c,zx (QW d)<=zx (zn c):=by
  intro n
  induction n with
  |zero=>intro c hc;have:=ji c;omega
  |succ n ih=>
   intro c hc d hd;rw[QL]at hd;cases h7:c.kind==7 with
   |true=>rw[h7,Ca]at hd;rw[xc.1 hd];exact VF c
   |false=> rw[h7,Ba]at hd;obtain⟨y,hy,hd⟩:=Ae.1 hd;have h1:=dh c;have h2:=QO hy;have h3:=ZA hy;have:=ih y (by omega) d hd;omega
 intro c d hd;exact key _ c (ja _) d hd
theorem A7{c:zg}(h:zx (zn c)<=big)(hv:(ZE c||Zv c)=true): ∀d∈Za c,wm d.value=some (d.value,0):=by
 intro d hd;rw[Sb]at hv;rcases hv with hv|hv
 ·rw[zz1 hv]at hd;cases hd
 ·exact Y9 (MQ (KC hv) d hd) (Wu (Gc (jS d hd) h)).1
theorem I4(a b:Nat):((a:Int) != (b:Int))= !(a==b):=by
 cases h:a==b with
 |true=>rw[eq_of_beq h];simp
 |false=>have:=ne_of_beq_false h;simp only[Ra,Jg];omega
theorem zsb{c:zg}{e:VEnv}{ys:List Bool}(h:zx (zn c)<=big)(hb:ys.length<=big):oz (c,e,ys)=some (oC c e.width ys):=by
 unfold oz oC;simp only[Zc,OW h,za,Aa];cases hv:ZE c||Zv c with
 |false=>rfl
 |true=>
  simp only[Ca,NW h (A7 h hv),show((0:Int) != 0)=false from rfl,Ba,Ta];have hor:(bif decide (e.width<0)then true else decide (e.width>1000000000))=(decide (e.width<0)||decide (e.width>1000000000)):=by cases decide (e.width<0)<;>rfl
  rw[hor,<-Bool.or_assoc];cases ho:decide (e.width<0)||decide (e.width>1000000000)with
  |true=>rfl
  |false=>
   simp only[Ra,zu,Aa,Ba,Xb,I4];cases hy:ys.length==(Za c).length with
   |false=>rfl
   |true=> have hy:=eq_of_beq hy;have hh:=zsc (a:=0) (w:=w64 (1000*e.width)) (ys:=ys) h (WZ hv) hb (by omega);simp only[Ta,Ba,show(0:Int)=((0:Nat):Int)from rfl,hh,Aa];simp only[hldF,Oa,Tg,<-hy,Oc,w_in ho]
theorem zq4{c:zg}{e:VEnv}{ys:List Bool}(h:zx (zn c)<=big):xz (c,e,ys)=some (oC c e.width ys):=by
 unfold xz oC;simp only[Zc,sM h,MH h,za,Aa];have hco:zq (!ZE c) (some (Zv c)) (default:Bool)=some (!ZE c&&Zv c):=by cases ZE c<;>rfl
 rw[hco,Aa];have hvv:(bif !ZE c then !(!ZE c&&Zv c)else false)= !(ZE c||Zv c):=by cases ZE c<;>cases Zv c<;>rfl
 rw[hvv];cases hv:ZE c||Zv c with
 |false=>rfl
 |true=>
  simp only[Ta,Ba,BN h];have hor:(bif decide (e.width<0)then true else decide (e.width>1000000000))=(decide (e.width<0)||decide (e.width>1000000000)):=by cases decide (e.width<0)<;>rfl
  rw[hor,<-Bool.or_assoc];cases ho:decide (e.width<0)||decide (e.width>1000000000)with
  |true=>rfl
  |false=>
   simp only[Ra,zu,Aa,Ba,Xb,I4];cases hy:ys.length==(Za c).length with
   |false=>rfl
   |true=> have hy:=eq_of_beq hy;simp only[Ta,Ba,ztT h (WZ hv) hy,Aa,w_in ho]
theorem zsa{c:zg}(h:zx (zn c)<=big):Sz c=some (bif Zv c then(Za c,0)else([],8)):=by
 unfold Sz;simp only[Zc,KN h,za,Aa];cases hv:Zv c with
 |false=>rfl
 |true=>simp only[Ca,NW h (A7 h (by rw[hv,Fe])),show((0:Int) != 0)=false from rfl,Ba,Aa]
theorem zq3{c:zg}(h:zx (zn c)<=big):AA c=some (bif Zv c then(Za c,0)else([],8)):=by unfold AA;simp only[Zc,MH h,za,Aa,BN h];cases Zv c<;>rfl
structure Sf (d:UInt8) (y:Str):Prop where
 f:fstB d=false
 l:letB d=false
 g:digB d=false
 s:Lg d=false
 a:(d==45)=false
 b:(d==46)=false
 c:(d==92)=false
 n:(d==10)=false
 e:(d==40)=false
 p:(d==37)=false
 m:d≠42
 o:[33,45,45].isPrefixOf (d::y)=false
 x:(d==101||d==69)=false
 k:d≠60/\d≠62
end Go.Lv.VT
