/- Names as glue writes them (glue.Name); beside PdWrt. -/
import Derived.Test.YtcdeccnjlkkejaaGreatDoorNd
import Derived.Test.YtcdeccnjlkkejaaGreatDoorNf
import Derived.KernelRfl
set_option linter.unusedSimpArgs false
set_option linter.unusedVariables false
namespace Go.Lv.VT
set_option maxRecDepth 100000
theorem JU{l:Str}{k:Nat}(hl:l.length<=100000):Vm (l,(k:Int))=some (encW (yg k l) k l):=by
 unfold Vm;rw[qD (eH (dash:=yg k l) (k:=k) (l:=l) (acc:=[]) hl (by simp) (fun i a hi ha=> ?_) (fun a=> ?_))]
 ·rfl
 ·have d1:decide ((i:Int)<(l.length:Int))=true:=Ga (by omega);have d2:geti l (i:Int)=some l[i]:=qI hi;have d3:decide ((i:Int)>=(k:Int))=(k - i==0):=by
   by_cases h:k<=i
   ·rw[Ga (by omega),show k - i=0 by omega];rfl
   ·rw[aa (by omega)];symm;rw[Ja];omega
  have d4:((k:Int)==0)=(k==0):=by
   by_cases h:k=0
   ·subst h;rfl
   ·rw[Ja.2 h,Ja];omega
  simp only[d1,Ea,d2,d3,d4,zg,Aa,UI,IB];have hd:(bif k==0 then true else !(l==[45]))= !yg k l:=by unfold yg;cases k==0<;>cases l==[45]<;>rfl
  rw[hd];unfold pcW;cases letB l[i]with
  |false=>
   cases k - i==0<;>simp only[zx,Ib,Xa,Pd,Nb,Sb,Ea,Da,Aa,Tk l[i] (show a.length<=1000000000 by omega),zh]
  |true=> cases k - i==0<;>cases digB l[i]<;>cases yg k l<;>simp only[zx,Ib,Xa,Pd,Nb,Sb,Gg,He,Ab,xc,Ae,Ea,Da,Aa,Ir,zA (Fg (show a.length+1<=2000000000 by omega)),Tk l[i] (show a.length<=1000000000 by omega),zh]
 ·simp only;rw[aa (by omega),Da]
theorem lT{l:Str}(hl:l.length<=1000):Km l=some (if l.isEmpty|| !Zt l then([],8)else(ZQ l,0)):=by
 unfold Km;simp only[zg,Xp];cases l with
 |nil=>rfl
 |cons c r=>
  rw[show((c::r:Str)==[])=false from rfl];simp only[zx,Xa,Ea,Da,Aa,yA];rw[show(c::r:Str).isEmpty=false from rfl,xc];cases Zt (c::r)with
  |false=>rfl
  |true=>
   rw[Ib,Da,Uo];simp only[Aa,JU (show(c::r:Str).length<=100000 by omega)];have hd:yg (Qi (c::r)) (c::r)=((c::r:Str)==[45]):=by unfold yg Qi;split<;>rfl
   rw[hd];have:=Xl ((c::r:Str)==[45]) (Qi (c::r)) (c::r);rw[aa (by omega),Da,aa (by omega),Da];rfl
structure Sf (d:UInt8) (y:Str):Prop where
 f:fstB d=false
 l:letB d=false
 g:digB d=false
 s:Jf d=false
 a:(d==45)=false
 b:(d==46)=false
 c:(d==92)=false
 n:(d==10)=false
 e:(d==40)=false
 p:(d==37)=false
 m:d≠42
 o:[33,45,45].isPrefixOf (d::y)=false
 x:(d==101||d==69)=false
 k:d≠60/\d≠62
def okT(x:List ze):Prop:= ∀t∈x,t.text.length<=5000/\t.unit.length<=5000
structure OkD (d:zT):Prop where
 v:szL d.value<=big
 n:d.name.length<=big
 t:okT (tokL d.value)
theorem EQ{v:List zb}(hv:szL v<=big)(h:errS v=0)(hg:gluS (tokL v)=0)(ht:okT (tokL v)):Gm v=some (if 4000<(wrS (tokL v)).length then([],28)else(wrS (tokL v),0)):=by unfold Gm;simp only[zg,Rt hv,h,Aa];rw[show((0:Int) != 0)=false from rfl,Da,gJ hv,Aa,SV ht,Ia hg,Aa]
abbrev impT:Str:=[32,33,105,109,112,111,114,116,97,110,116]
def wrD(d:zT):Str:=ZQ d.name++([58,32]:Str)++wrS (tokL d.value)++(bif d.important then impT else [])
def Ug(d:zT):Str×Int:=if mf d=true then(if 4000<(wrD d).length then([],28)else(wrD d,0))else([],8)
structure zz5 (d:zT):Prop where
 name:Ri d.name=true
 err:errS d.value=0
 glu:gluS (tokL d.value)=0
 body:Wm (List.isPrefixOf [45,45] d.name) d.value=true
theorem AR{d:zT}(h:mf d=true):zz5 d:=by unfold mf at h;simp only[Ca,Db]at h;exact⟨h.1,h.2.1,h.2.2.1,h.2.2.2.2⟩
theorem uP{x:Str}(h:Ri x=true):x≠[]/\x.length<=64/\Zt x=true/\(bif List.isPrefixOf [45,45] x then !(x==[45,45])else lowS x==x)=true:=by unfold Ri at h;simp only[Ca,Be,Ja,Eb]at h;exact⟨h.1,h.2.1,h.2.2.1,h.2.2.2⟩
theorem PX(l:Str):(ZQ l).length<=4*l.length:=Xl _ _ l
theorem nE{d:zT}(h:OkD d):Qu d=some (Ug d):=by
 have hbig:big=4194304:=rfl;unfold Qu Ug;rw[uE h.v h.n];simp only[zg,Aa];cases hd:mf d with
 |false=>rw[Da,Fa (by decide)];rfl
 |true=>
  obtain⟨h1,h2,h3,_⟩:=AR hd;obtain⟨n1,n2,n3,_⟩:=uP h1;have hne:d.name.isEmpty=false:=by cases hx:d.name with|nil=>exact absurd hx n1|cons a b=>rfl
  have hl:=PX d.name;rw[Ea,Ia rfl,show((0:Int) != 0)=false from rfl,Da,lT (by omega),hne,n3];simp only[Ib,Bool.or_self,Ob,Ld,Aa,show((0:Int) != 0)=false from rfl,Da,EQ h.v h2 h3 h.t];by_cases hw:4000<(wrS (tokL d.value)).length
  ·have:4000<(wrD d).length:=by unfold wrD;rw[Ha,Ha];omega
   rw[Ia hw,Ia this];rfl
  ·rw[Fa hw];have c1:df (ZQ d.name).length ([58,32]:Str).length=true:=Kj.2 (by simp only[Ka,Jb];omega);have c2:df (ZQ d.name++([58,32]:Str)).length (wrS (tokL d.value)).length=true:=Kj.2 (by simp only[Ha,Ka,Jb];omega);have c3:df (ZQ d.name++([58,32]:Str)++wrS (tokL d.value)).length impT.length=true:=Kj.2 (by simp only[Ha,Ka,Jb];omega);simp only[show((0:Int) != 0)=false from rfl,Da,c1,c2,c3,zR];have hg: ∀n:Nat,decide ((n:Int)>4000)=decide (4000<n):=fun n=>by rw[decide_eq_decide];omega
   unfold wrD;cases d.important with
   |true=>
    simp only[Ea,zh,hg];by_cases q:4000<(ZQ d.name++([58,32]:Str)++wrS (tokL d.value)++impT).length
    ·rw[Ga q,Ia q];rfl
    ·rw[aa q,Fa q];rfl
   |false=>
    simp only[Da,zh,hg,Cb];by_cases q:4000<(ZQ d.name++([58,32]:Str)++wrS (tokL d.value)).length
    ·rw[Ga q,Ia q];rfl
    ·rw[aa q,Fa q];rfl
def Fq(l:List zT):Str:=(l.map fun d=>([59,32]:Str)++wrD d).flatten
def Si:List zT->Str
 |[]=>[]
 |d::r=>wrD d++Fq r
theorem AQ(l:List zT):Lib.join (l.map wrD) [59,32]=Si l:=by
 cases l with
 |nil=>rfl
 |cons d r=> rw[Oc,Lib.join_cons,Si];unfold Lib.joinTail Fq;rw[List.map_map];rfl
theorem II{M:Nat}: ∀l:List Str,(∀x∈l,x.length<=M)->(Lib.joinTail [59,32] l).length<=(M+2)*l.length
 |[],_=>Ua _
 |x::r,h=>by have h1:=II r (fun y hy=>h y (Lb _ hy));have h2:=h x (ib ..);have e:Lib.joinTail [59,32] (x::r)=(([59,32]:Str)++x)++Lib.joinTail [59,32] r:=rfl;have e3:(M+2)*(x::r).length=(M+2)*r.length+(M+2):=Nat.mul_succ ..;rw[e,e3,Ha,Ha];simp only[Ka,Jb];omega
theorem kR{M:Nat}(l:List Str)(h: ∀x∈l,x.length<=M):(Lib.join l [59,32]).length<=(M+2)*l.length:=by
 cases l with
 |nil=>exact Vb _
 |cons x r=> have h1:=II r (fun y hy=>h y (Lb _ hy));have h2:=h x (ib ..);have e3:(M+2)*(x::r).length=(M+2)*r.length+(M+2):=Nat.mul_succ ..;rw[Lib.join_cons,Ha,e3];omega
theorem LJ{d:zT}: ∀{l:List zT},d∈l->(wrD d).length<=(Fq l).length
 |x::r,h=>by
  have e:Fq (x::r)=(([59,32]:Str)++wrD x)++Fq r:=rfl;rw[e,Ha,Ha];rcases Kb.1 h with rfl|h
  ·omega
  ·have:=LJ h;omega
theorem EW{d:zT}{l:List zT}(h:d∈l):(wrD d).length<=(Si l).length:=by
 cases l with
 |nil=>cases h
 |cons x r=>
  rw[Si,Ha];rcases Kb.1 h with rfl|h
  ·omega
  ·have:=LJ h;omega
def oh(d:zT):Bool:=decide (4000<(wrD d).length)
def Sj(l:List zT):Str×Int:=if 32<l.length then([],4)else if l.all mf=true then(if 4000<(Si l).length then([],28)else(Si l,0))else([],8)
theorem Lx{d:zT}(h:mf d=true):Ug d=if oh d=true then([],28)else(wrD d,0):=by
 unfold Ug oh;rw[Ia h];by_cases q:4000<(wrD d).length
 ·rw[Ia q,Ga q,Ia rfl]
 ·rw[Fa q,aa q,Fa (by decide)]
theorem jB{l:List zT}(h: ∀d∈l,OkD d):qd l=some (Sj l):=by
 have hbig:big=4194304:=rfl;unfold qd;by_cases h32:32<l.length
 ·rw[Ga (by omega),Ea];unfold Sj;rw[Ia h32]
 ·rw[aa (by omega),Da];refine Sk (fun z=> ∃i:Nat,z=(((l.take i).any oh,(i:Int)),(l.take i).map (fun d=>(Ug d).1))/\i<=l.length/\(l.take i).all mf=true) (fun z=>l.length - z.1.2.toNat) _ ?_ ⟨0,rfl,Vb _,rfl⟩;rintro _ ⟨i,rfl,hi,ha⟩;rcases Yc i l.length with hh|hh
  ·have hd:=nE (h _ (Gd hh));have hw:w64 ((i:Int)+1)=((i+1:Nat):Int):=QK hh (by omega);have hap:zD ((l.take i).map (fun d=>(Ug d).1)).length 1 16=true:=dh (by rw[ja,Lc];omega);simp only[Dh hh,Ea,qI hh,zg,Aa,hd];cases hs:mf l[i]with
   |false=>
    refine .inr (.inr ?_);have e:Ug l[i]=([],8):=by unfold Ug;rw[hs,Fa (by decide)]
    have hall:l.all mf=false:=by rw[List.all_eq_false];exact⟨_,Gd hh,by rw[hs];decide⟩
    rw[e];unfold Sj;rw[Fa h32,hall,Fa (by decide)];rfl
   |true=>
    refine .inl ⟨_,?_,⟨i+1,rfl,hh,?_⟩,by simp only[Va];omega⟩
    ·have e:=Lx hs;have h8:((Ug l[i]).2==8)=false:=by rw[e];cases oh l[i]<;>rfl
     have h0:((Ug l[i]).2 != 0)=oh l[i]:=by rw[e];cases oh l[i]<;>rfl
     rw[h8,Da,zA hap,h0,hw,Gc hh,List.any_append,Me];simp only[List.any_cons,List.any_nil,He,Oc,List.map_nil,bB]
    ·rw[Gc hh,List.all_append,ha,Nc,hs];rfl
  ·have:i=l.length:=by omega
   subst this;rw[List.take_length]at ha ⊢;refine .inr (.inl ⟨(l.any oh,l.map (fun d=>(Ug d).1)),?_,?_⟩)
   ·simp only[uj,Da]
   ·have hall: ∀d∈l,mf d=true:=Rb.1 ha;have hM: ∀x∈l.map (fun d=>(Ug d).1),x.length<=4000:=by
     intro x hx;obtain⟨d,hd,rfl⟩:=Fb.1 hx;rw[Lx (hall d hd)];unfold oh;by_cases q:4000<(wrD d).length
     ·rw[Ga q,Ia rfl];exact Vb _
     ·rw[aa q,Fa (by decide)];exact Nat.le_of_not_lt q
    have hle:=kR _ hM;rw[ja]at hle;have hn:(Nat.ble (l.map (fun d=>(Ug d).1)).length 1000000&&Nat.ble (Lib.join (l.map (fun d=>(Ug d).1)) [59,32]).length 1000000000)=true:=by rw[Ca,Nat.ble_eq,Nat.ble_eq,ja];have:(4000+2)*l.length<=(4000+2)*32:=Nat.mul_le_mul_left _ (by omega);omega
    unfold Vj Sj;simp only;rw[zA hn,Fa h32,ha,Ia rfl];simp only[Aa];cases hb:l.any oh with
    |true=> obtain⟨d,hd,hl⟩:=List.any_eq_true.1 hb;have h1:=EW hd;unfold oh at hl;rw[Eb]at hl;rw[Ia (show 4000<(Si l).length by omega)];rfl
    |false=>
     have he:l.map (fun d=>(Ug d).1)=l.map wrD:=Bf fun d hd=>by rw[Lx (hall d hd),Fa (List.any_eq_false.1 hb d hd)]
     rw[he,AQ,Da];by_cases q:4000<(Si l).length
     ·rw[Ia q,Ga (by omega)];rfl
     ·rw[Fa q,aa (by omega)];rfl
abbrev leaf(t:ze):zb:=⟨t,[]⟩
abbrev tkId(n:Str):ze:=⟨1,n,0,[],false⟩
theorem gG{n:Str}(h0:n≠[])(h:Zt n=true):PcT (ZQ n) [tkId n]:=by
 have:=PcT.one (tkId n) (.cId n h0 h) (fun e=>by cases e.1) rfl
 rwa [nk]at this
structure zAp (v:List zb):Prop where
 r:Vq (tokL v)
 h:Bh v
 e:jg v
theorem pW{t:ze}(h:zJ t.kind=0)(r:List zb):tokL (leaf t::r)=t::tokL r:=by rw[tokL,tokV,Ia h];rfl
structure Shp (v:List zb):Prop where
 s:shL v 0=true
 d:Hf v<=16
theorem tX(a b:List zb):Hf (a++b)=max (Hf a) (Hf b):=by
 induction a with
 |nil=>rw[Xb,Hf];omega
 |cons v a ih=>rw[Ta,Hf,Hf,ih];omega
theorem Shp.app{a b:List zb}(ha:Shp a)(hb:Shp b):Shp (a++b):=⟨by rw[yH,ha.s,hb.s];rfl,by rw[tX];have:=ha.d;have:=hb.d;omega⟩
theorem mQ:Shp []:=⟨by rw[shL],by rw[Hf];exact Vb _⟩
theorem gU{t:ze}(h:zJ t.kind=0){r:List zb}(hr:Shp r):Shp (leaf t::r):=by
 refine⟨?_,?_⟩
 ·rw[shL,hr.s,shV,h];rfl
 ·rw[Hf,Ph,Ia h];have:=hr.d;omega
theorem oW(s:Str):wtT (Qf s).1<big:=by
 have hbig:big=4194304:=rfl;unfold Qf;split
 ·rw[wtT];omega
 split
 ·rw[wtT];omega
 have h1:=jL s;have h2:=OH (Proofs.Cl.cleanS s);show wtT (qB (Proofs.Cl.cleanS s))<big;omega
theorem kP{v:List zb}(h:szL v<=5000):okT (tokL v):=fun t ht=>by have:=Tw v t ht;omega
theorem TA{x:List zb}(h:szL x<big):Nr x=some (if errS x=0 then(0,Kh (Rh 17 x))else(errS x,[])):=by
 unfold Nr;rw[bY (k:=17) (by omega)];simp only[zg,Aa];by_cases he:errS x=0
 ·rw[Ia he,Fa (by omega),Ia he];obtain⟨hl,hp⟩:=bW h;simp only[show((0:Int) != 0)=false from rfl,Da];generalize Rh 17 x=ps at*;refine Sk (fun z=> ∃i:Nat,z=((i:Int),Kh (ps.take i))/\i<=ps.length) (fun z=>ps.length - z.1.toNat) _ ?_ ⟨0,rfl,Vb _⟩;rintro _ ⟨i,rfl,hi⟩;rcases Yc i ps.length with hh|hh
  ·refine .inl ⟨_,?_,⟨i+1,rfl,hh⟩,by simp only[Va];omega⟩;have hq:=uX (ps.take i);rw[IY hh];simp only[Dh hh,Ea,qI hh,Aa,uZ (hp _ (Gd hh))];obtain⟨a,ha⟩: ∃a,Kh (ps.take i)=a:=⟨_,rfl⟩;rw[ha]at hq ⊢;unfold um;have hd:decide ((a.length:Int)<32)=decide (a.length<32):=by
    by_cases q:a.length<32
    ·rw[Ga q,Ga (by omega)]
    ·rw[aa q,aa (by omega)]
   rw[hd,zA (ap48 hq)];have hw:w64 ((i:Int)+1)=((i+1:Nat):Int):=QK hh hl;cases (oneS ps[i]).2<;>cases decide (a.length<32)<;>simp only[Ea,Da,zh,hw,Ab,Nb]
  ·have:i=ps.length:=by omega
   subst this;refine .inr (.inl ⟨Kh ps,?_,rfl⟩);simp only[uj,Da,List.take_length]
 ·rw[Fa he,Fa he];simp only[Ef.2 he,Ea]
theorem TV(s:Str):qm s=some ((Su s).2,(Su s).1):=by
 have hw:=oW s;have hs:=UT (Qf s).1;unfold qm Su;simp only[wL,zg,Aa,parseF];by_cases h1:(Qf s).2=0
 ·rw[Ia h1,h1];simp only[show((0:Int) != 0)=false from rfl,Da];by_cases h2:(parS (Qf s).1).2=0
  ·have h3:=(UX h2).1;rw[Ia h2,h2];simp only[show((0:Int) != 0)=false from rfl,Da,TA (x:=(parS (Qf s).1).1) (by omega),Ia h3,Aa]
  ·rw[Fa h2];simp only[Ef.2 h2,Ea]
 ·rw[Fa h1];simp only[Ef.2 h1,Ea]
theorem RV:Wt ()=some true:=by
 have h1:=Yy 400 tx5 tk5 (rz (by decide+kernel));have h2:parseF tk5.1=some vv5:=rz (by decide+kernel);have h3:=sN 400 dd5 ls5 (rz (by decide+kernel));have h4:tk5.2=0/\vv5.2=0/\szL vv5.1<big/\errS vv5.1=0:=by decide+kernel
 obtain⟨e1,e2,e3,e4⟩:=h4;unfold Wt Z6 qm;simp only[h1,zg,Aa,e1,bne_self_eq_false,Da,h2,e2,TA e3,Ia e4];rw[show Kh (Rh 17 vv5.1)=dd5 from rfl,h3];exact congrArg some (by decide+kernel)
noncomputable def rdC(s:Str):Option (List zT):=match Au 400 s with
 |none=>none
 |some tk=>bif tk.2==0&&((parS tk.1).2==0&&(Nat.blt (szL (parS tk.1).1) big&&errS (parS tk.1).1==0))then some (Kh (Rh 17 (parS tk.1).1))else none
theorem WH{s:Str}{l:List zT}(h:rdC s=some l):qm s=some (0,l):=by
 unfold rdC at h;split at h
 ·cases h
 ·rename_i tk ht;cases hb:tk.2==0&&((parS tk.1).2==0&&(Nat.blt (szL (parS tk.1).1) big&&errS (parS tk.1).1==0))with
  |false=>rw[hb]at h;cases h
  |true=> rw[hb,Ea]at h;simp only[Ca,Db]at hb;obtain⟨b1,b2,b3,b4⟩:=hb;have h1:=Yy 400 s tk ht;have b3:szL (parS tk.1).1<big:=Ac b3;unfold qm parseF;simp only[h1,zg,Aa,b1,bne_self_eq_false,Da,b2,TA b3,Ia b4];rw[Option.some.inj h]
noncomputable def reC(s want:Str)(n:Nat):Bool:=match rdC s with
 |none=>false
 |some l=>match Fy 400 l with
  |none=>false
  |some t=>t.2==0&&(t.1==want&&l.length==n)
theorem Oo{s want:Str}{n:Nat}(h:reC s want n=true):Z6 (s,want,(n:Int))=some true:=by
 unfold reC at h;split at h
 ·cases h
 ·rename_i l hl;split at h
  ·cases h
  ·rename_i t ht;simp only[Ca,Db]at h;obtain⟨a,b,c⟩:=h;unfold Z6;simp only[WH hl,zg,Aa,sN 400 l t ht,a,b,c,beq_self_eq_true,Ea]
theorem dK{R:Type}{p:Str}{n:Nat}{N:Int}(hN:N=(n:Int))(hn:n<=1000)(hp:p.length<=1000)(K:Str->Option R){r:R}(hK:K (List.replicate n p).flatten=some r){s0:Str}(h0:s0=[]):
  ZR (fun(s7:Str×Int)=>
   bif decide (s7.2<N)then
    need (df s7.1.length p.length)<|
    some (LO.again (s7.1++p,w64 (s7.2+1)))
   else
    some (LO.out s7.1):Str×Int->Option (LO (Str×Int) (Str) R)) (s0,0) K=some r:=by
 subst hN;subst h0;refine Sk (fun z=> ∃i:Nat,i<=n/\z=((List.replicate i p).flatten,(i:Int))) (fun z=>n - z.2.toNat) r ?_ ⟨0,Vb _,rfl⟩;rintro _ ⟨i,hi,rfl⟩;rcases Yc i n with h|h
 ·refine .inl ⟨_,?_,⟨i+1,h,rfl⟩,by simp only[Va];omega⟩;have hl:((List.replicate i p).flatten).length=i*p.length:=by simp
  have hm:i*p.length<=1000*1000:=Nat.mul_le_mul (by omega) hp;have c1:df ((List.replicate i p).flatten).length p.length=true:=Kj.2 (by rw[hl];omega);have e:(List.replicate (i+1) p).flatten=(List.replicate i p).flatten++p:=by rw[af,List.flatten_append];simp
  simp only[Ga (show(i:Int)<(n:Int) by omega),Ea,c1,zR,e];rw[Zd (by omega) (by omega)];rfl
 ·have:i=n:=by omega
  subst this;refine .inr (.inl ⟨_,?_,hK⟩);simp only[uj,Da]
abbrev vA1:zb:=⟨⟨1,[97],0,[],false⟩,[]⟩
theorem lQ{n:Nat}(hn:n<=1000):Np (n:Int)=some (List.replicate n vA1):=by
 unfold Np;have hd:(decide ((0:Int)<=(n:Int))&&decide ((n:Int)<=(n:Int))&&decide ((n:Int)*80<=140737488355328)&&decide ((n:Int)<=9223372036854775807))=true:=by rw[Ga (show(0:Int)<=(n:Int) by omega),Ga (show(n:Int)<=(n:Int) by omega),Ga (show(n:Int)*80<=140737488355328 by omega),Ga (show(n:Int)<=9223372036854775807 by omega)];rfl
 rw[hd,zR,Va];refine Sk (fun z=> ∃i m:Nat,i+m=n/\z=((i:Int),List.replicate i vA1++List.replicate m (⟨⟨0,[],0,[],false⟩,[]⟩:zb))) (fun z=>n - z.1.toNat) _ ?_ ⟨0,n,by omega,rfl⟩;rintro _ ⟨i,m,hi,rfl⟩;cases m with
 |zero=>
  have:i=n:=by omega
  subst this;refine .inr (.inl ⟨List.replicate i vA1,?_,rfl⟩);simp only[uj,Da,List.replicate_zero,Cb]
 |succ m=>
  have hl:(List.replicate i vA1++List.replicate (m+1) (⟨⟨0,[],0,[],false⟩,[]⟩:zb)).length=n:=by simp only[Ha,Vd];exact hi
  refine .inl ⟨_,?_,⟨i+1,m,by omega,rfl⟩,by simp only[Va];omega⟩;have h1:(List.replicate i vA1++List.replicate (m+1) (⟨⟨0,[],0,[],false⟩,[]⟩:zb))[i]? =some (⟨⟨0,[],0,[],false⟩,[]⟩:zb):=by rw[Ng (by simp)];simp
  have h2:(List.replicate i vA1++List.replicate (m+1) (⟨⟨0,[],0,[],false⟩,[]⟩:zb)).set i vA1=List.replicate (i+1) vA1++List.replicate m (⟨⟨0,[],0,[],false⟩,[]⟩:zb):=by rw[List.set_append_right _ _ (by simp),Vd,Nat.sub_self,jc,List.set_cons_zero,af,Oa];rfl
  have hq:(decide ((0:Int)<=(i:Int))&&decide ((i:Int)<(n:Int)))=true:=by rw[Ga (show(0:Int)<=(i:Int) by omega),Ga (show(i:Int)<(n:Int) by omega)];rfl
  simp only[Ga (show(i:Int)<(n:Int) by omega),Ea,hl,hq,zR,Va,zg,h1,Aa];rw[h2,Zd (by omega) (by omega)];rfl
abbrev tkA:ze:=⟨1,[97],0,[],false⟩
def bufA:Nat->Str
 |0=>[97]
 |k+1=>bufA k++cmtW++[97]
theorem pcA:PcT [97] [tkA]:=by
 have:=gG (n:=[97]) (by decide) (by decide)
 rwa [show ZQ [97]=[97] by decide+kernel]at this
theorem pcAA:PcT [97,97] [tkId [97,97]]:=by
 have:=gG (n:=[97,97]) (by decide) (by decide)
 rwa [show ZQ [97,97]=[97,97] by decide+kernel]at this
theorem jI: ∀k,bufA k≠[]
 |0=>by rw[bufA];simp
 |k+1=>by rw[bufA];simp
theorem nK: ∀k,∃st,Syn (bufA k) (List.replicate (k+1) tkA) st
 |0=>⟨_, .no [] [97] [] [tkA] [] .nil pcA (Br pcA)⟩
 |k+1=>by obtain⟨st,h⟩:=nK k;exact⟨_,by rw[af];exact .cmt (bufA k) [97] _ [tkA] st h (jI k) pcA⟩
theorem dX(k:Nat):(qB (bufA k++[97])).length=k+1:=by
 cases k with
 |zero=>rw[bufA,show([97]:Str)++[97]=[97,97]from rfl,Br pcAA];rfl
 |succ k=> obtain⟨st,h⟩:=nK k;have:=(RH (.cmt (bufA k) [97,97] _ [tkId [97,97]] st h (jI k) pcAA)).tok;rw[bufA,show bufA k++cmtW++[97]++[97]=bufA k++cmtW++[97,97] by simp,this];simp
theorem Uu(r:List ze):pcN (tkA::r)=1:=by rw[Po];rfl
theorem UG: ∀(m k:Nat),wrF m (List.replicate (k+1) tkA) (bufA k) (List.replicate m tkA)=bufA (k+m)
 |0,k=>by rw[wrF];rfl
 |m+1,k=>by
  have hs:Vf (qB (bufA k++[97])) (List.replicate (k+1) tkA++[tkA])=false:=BD (by rw[dX];simp);have htx:pcS [tkA]=[97]:=by decide+kernel
  rw[show List.replicate (m+1) tkA=tkA::List.replicate m tkA from rfl,YC (P:=[tkA]) (s:=[97]) (by rw[Uu];rfl) htx,hs,Fa (by decide),Uu];have e:List.replicate (k+1) tkA++[tkA]=List.replicate (k+1+1) tkA:=af.symm;rw[e,show bufA k++cmtW++[97]=bufA (k+1)from rfl,show(tkA::List.replicate m tkA).drop 1=List.replicate m tkA from rfl,UG m (k+1)];congr 1;omega
theorem V8(m:Nat):wrS (List.replicate (m+1) tkA)=bufA m:=by
 unfold wrS;rw[Vd,jc,YC (P:=[tkA]) (s:=[97]) (by rw[Uu];rfl) (by decide+kernel)];have h1:Vf (qB ([]++[97])) ([]++[tkA])=true:=by rw[Xb,Xb,Br pcA];exact Dm.2 rfl
 rw[h1,Ia rfl,Uu,Xb,Xb,show(tkA::List.replicate m tkA).drop 1=List.replicate m tkA from rfl];have h2:wrF m [tkA] [97] (List.replicate m tkA)=bufA (0+m):=UG m 0
 rwa [Sd]at h2
theorem oK: ∀k,(bufA k).length=5*k+1
 |0=>rfl
 |k+1=>by rw[bufA,Ha,Ha,oK k];simp only[Ka,Jb];omega
theorem fq: ∀n,tokL (List.replicate n vA1)=List.replicate n tkA
 |0=>by rw[List.replicate_zero,tokL];rfl
 |n+1=>by rw[jc,pW rfl,fq n];rfl
abbrev dBig(n:Nat):zT:=⟨[97],List.replicate n vA1,false⟩
theorem jy: ∀n,szL (List.replicate n vA1)=2*n
 |0=>by rw[List.replicate_zero,szL]
 |n+1=>by rw[jc,szL,szV,jy n,szL];simp only[Ka,Jb];omega
section
variable {n:Nat} (h0:900<=n) (h1:n<=1000)
include h0 h1
theorem Fz:OkD (dBig n):=by
 have hbig:big=4194304:=rfl;refine⟨?_,?_,fun t ht=> ?_⟩
 ·show szL (List.replicate n vA1)<=big;rw[jy];omega
 ·show([97]:Str).length<=big;rw[Kc];omega
 ·have ht:t∈tokL (List.replicate n vA1):=ht;rw[fq]at ht;rw[(List.mem_replicate.1 ht).2];exact⟨by decide,by decide⟩
theorem aI:4000<(wrD (dBig n)).length:=by
 have:(wrS (tokL (List.replicate n vA1))).length=5*(n - 1)+1:=by rw[fq,show n=(n - 1)+1 by omega,V8,oK,Nat.add_sub_cancel]
 unfold wrD;rw[Ha,Ha,Ha];show 4000<(ZQ [97]).length+([58,32]:Str).length+(wrS (tokL (List.replicate n vA1))).length+_;omega
end
theorem ky: ∀n,Shp (List.replicate n vA1)
 |0=>mQ
 |n+1=>by rw[jc];exact gU rfl (ky n)
theorem UR{n:Nat}(h1:n<=1000):gluS (List.replicate n tkA)=0:=by
 unfold gluS;rw[Vd,Ga (by omega),Ea];have:(List.range n).all (Al (List.replicate n tkA))=true:=by
  rw[Rb];intro i hi;have hi:=Mc.1 hi;unfold Al;have e:(List.replicate n tkA).drop i=tkA::List.replicate (n - 1 - i) tkA:=by rw[List.drop_replicate,show n - i=(n - 1 - i)+1 by omega,jc]
  rw[e,FD,show(List.replicate n tkA).getD i default=tkA by rw[xe,List.getElem?_replicate,Ia hi];rfl];rfl
 rw[this,Ea]
section
variable {n:Nat} (h0:900<=n) (h1:n<=1000)
include h0 h1
theorem SI:mf (dBig n)=true:=by
 have e1:Ri [97]=true:=by decide+kernel
 have e2:errS (List.replicate n vA1)=0:=by unfold errS;rw[Fa (by have:=(ky n).d;omega),Fa (by rw[fq,Vd];omega),Ia (ky n).s]
 have e4:clL (List.replicate n vA1)=false:=by rw[vI,List.any_eq_false];intro v hv;rw[(List.mem_replicate.1 hv).2];decide+kernel
 have e5:Wm (List.isPrefixOf [45,45] ([97]:Str)) (List.replicate n vA1)=true:=by
  have a:(List.replicate n vA1).any badV=false:=by rw[List.any_eq_false];intro v hv;rw[(List.mem_replicate.1 hv).2];decide+kernel
  have hn:n=(n - 2)+1+1:=by omega
  have b:Gl (List.replicate n vA1)=false:=by rw[hn,af,wY,jc];rfl
  have c:(List.replicate n vA1).isEmpty=false:=by rw[hn,jc];rfl
  unfold Wm;rw[a,b,c];rfl
 unfold mf;show(Ri [97]&&(errS (List.replicate n vA1)==0&&(gluS (tokL (List.replicate n vA1))==0&&(!clL (List.replicate n vA1)&&Wm (List.isPrefixOf [45,45] ([97]:Str)) (List.replicate n vA1)))))=true;rw[e1,e2,fq,UR h1,e4,e5];rfl
theorem iQ:Qu (dBig n)=some ([],28):=by rw[nE (Fz h0 h1),Lx (SI h0 h1),show oh (dBig n)=true from Ga (aI h0 h1),Ia rfl]
end
abbrev dNo:zT:=⟨[],[],false⟩
theorem okNo:OkD dNo:=⟨by show szL []<=big;rw[szL];exact Vb _,Vb _,fun t ht=>by rw[show dNo.value=[]from rfl,tokL]at ht;cases ht⟩
theorem YG:mf dNo=false:=by decide+kernel
theorem ok2{a b:zT}(ha:OkD a)(hb:OkD b): ∀d∈[a,b],OkD d:=fun d hd=>by
 rcases Kb.1 hd with rfl|hd
 ·exact ha
 ·rw[Ad.1 hd];exact hb
theorem bad2{a:zT}:Sj [a,dNo]=([],8):=by
 have:[a,dNo].all mf=false:=by rw[List.all_eq_false];exact⟨dNo,by simp,by rw[YG];decide⟩
 unfold Sj;rw[Fa (by simp),this,Fa (by decide)]
theorem FT{n:Nat}(h0:900<=n)(h1:n<=1000):Sj [dBig n]=([],28):=by
 have h2:[dBig n].all mf=true:=by rw[Nc,SI h0 h1];rfl
 unfold Sj;rw[Fa (by simp),h2,Ia rfl,Ia];rw[Si,Ha];have:=aI h0 h1;omega
abbrev dA1:zT:=⟨[97],[⟨⟨1,[98],0,[],false⟩,[]⟩],false⟩
abbrev txL:Str:=(List.replicate 33 ([97,58,98,59]:Str)).flatten
theorem p8:qm txL=some (0,List.replicate 32 dA1):=WH (by kernel_rfl)
theorem Y8:qm (List.replicate (Int.toNat 4001) (0:UInt8))=some (28,[]):=by
 rw[TV];have:Qf (List.replicate (Int.toNat 4001) (0:UInt8))=([],28):=by unfold Qf;rw[Ia (by rw[Vd];decide)]
 unfold Su;rw[this];rfl
abbrev txP:Str:=[40,40,40,40,40,40,40,40,40,40,40,40,40,40,40,40,40,40]
theorem l8:qm txP=some (20,[]):=by
 have h1:=Yy 400 txP (List.replicate 18 ⟨21,[],0,[],false⟩,0) (by kernel_rfl);have h2:parS (List.replicate 18 ⟨21,[],0,[],false⟩)=([],20):=by kernel_rfl
 unfold qm parseF;simp only[h1,zg,Aa,h2];rfl
theorem chk{n:Str}{v:List zb}{b:Bool}(hn:n.length<=1000)(hv:szL v<=1000)(h:mf ⟨n,v,false⟩=b):zW (⟨n,v,false⟩:zT)=some (bif b then 0 else 8):=by have hbig:big=4194304:=rfl;rw[uE (d:=⟨n,v,false⟩) (show szL v<=big by omega) (show n.length<=big by omega),h]
theorem WS{n:Nat}(h0:900<=n)(h1:n<=1000):Gs [(⟨(⟨18,[],0,[],false⟩:ze),List.replicate n vA1⟩:zb)]=some (dNo,false,8):=by
 have hbig:big=4194304:=rfl;have hc:zJ 18=0:=rfl;have hs:szL [(⟨(⟨18,[],0,[],false⟩:ze),List.replicate n vA1⟩:zb)]<=big:=by rw[szL,szV,jy,szL];simp only[Jb];omega
 have he:errS [(⟨(⟨18,[],0,[],false⟩:ze),List.replicate n vA1⟩:zb)]=8:=by
  have d:Hf [(⟨(⟨18,[],0,[],false⟩:ze),List.replicate n vA1⟩:zb)]=0:=by rw[Hf,Ph,Ia hc,Hf];rfl
  have t:tokL [(⟨(⟨18,[],0,[],false⟩:ze),List.replicate n vA1⟩:zb)]=[⟨18,[],0,[],false⟩]:=by rw[tokL,tokV,Ia hc,tokL];rfl
  have s:shL [(⟨(⟨18,[],0,[],false⟩:ze),List.replicate n vA1⟩:zb)] 0=false:=by rw[shL,shV,Vd,hc,Ga (show 0<n by omega)];rfl
  unfold errS;rw[d,t,s,Fa (by decide),Fa (by decide)];rfl
 unfold Gs;simp only[Rt hs,he,zg,Aa];rfl
abbrev vB1:List zb:=[(⟨(⟨1,[98],0,[],false⟩:ze),[]⟩:zb)]
theorem szB:szL vB1<=1000:=by decide+kernel
theorem M4:SF ()=some true:=by
 have hbig:big=4194304:=rfl;obtain⟨N,hN⟩: ∃N:Nat,N=900:=⟨_,rfl⟩;have h0:900<=N:=by omega
 have h1:N<=1000:=by omega
 have e1:=Oo (n:=2) (s:=[97,58,40,98,59,99,41,59,100,58,101]) (want:=[97,58,32,40,98,59,99,41,59,32,100,58,32,101]) (by decide+kernel);have e2:=Oo (n:=1) (s:=[97,58,98,33,105,109,112,111,114,116,97,110,116,32,99,59,100,58,101,33,105,109,112,59,102,58,33,105,109,112,111,114,116,97,110,116,59,45,45,103,58,33,105,109,112,111,114,116,97,110,116]) (want:=[45,45,103,58,32,32,33,105,109,112,111,114,116,97,110,116]) (by decide+kernel);have e3:=Oo (n:=2) (s:=[97,58,98,59,59,97,58,99,59]) (want:=[97,58,32,98,59,32,97,58,32,99]) (by decide+kernel);have e4:=Oo (n:=2) (s:=[45,45,58,120,59,45,97,58,121,59,45,45,98,58,123,59,125,59,99]) (want:=[45,97,58,32,121,59,32,45,45,98,58,32,123,59,125]) (by decide+kernel);have e5:=Oo (n:=1) (s:=[97,32,98,58,99,59,32,49,58,50,59,32,97,58,117,114,108,40,98,32,99,41,59,32,100,58,39,10,59,101,58,102]) (want:=[101,58,32,102]) (by decide+kernel);have e6:=Oo (n:=1) (s:=[97,58,91,41,93,59,98,58,99]) (want:=[98,58,32,99]) (by decide+kernel);have e7:qd (List.replicate 32 dA1++[dA1])=some ([],4):=by unfold qd;rw[Ga (by simp),Ea]
 have okA:OkD dA1:=⟨by show szL vB1<=big;have:=szB;omega,by show 1<=big;omega,kP (by show szL vB1<=5000;have:=szB;omega)⟩;have e8:qd [dA1,dNo]=some ([],8):=by rw[jB (ok2 okA okNo),bad2]
 have e9:Qu dNo=some ([],8):=by rw[nE okNo];unfold Ug;rw[YG,Fa (by decide)]
 have e10:qd [dBig N,dNo]=some ([],8):=by rw[jB (ok2 (Fz h0 h1) okNo),bad2]
 have e11:qd [dBig N]=some ([],28):=by rw[jB (fun d hd=>by rw[Ad.1 hd];exact Fz h0 h1),FT h0 h1]
 have e12:Np 900=some (List.replicate N vA1):=by
  have:=lQ h1
  rwa [show(N:Int)=900 by omega]at this
 have c1:zW (⟨[65],vB1,false⟩:zT)=some 8:=chk (b:=false) (by simp) szB (by decide+kernel);have c2:zW (⟨[45,45],vB1,false⟩:zT)=some 8:=chk (b:=false) (by simp) szB (by decide+kernel);have c3:zW (⟨[45,45,65],vB1,false⟩:zT)=some 0:=chk (b:=true) (by simp) szB (by decide+kernel);have c4:zW (⟨(List.replicate 65 ([97]:Str)).flatten,vB1,false⟩:zT)=some 8:=chk (b:=false) (by decide+kernel) szB (by decide+kernel);have c5:zW (⟨List.drop 1 (List.replicate 65 ([97]:Str)).flatten,vB1,false⟩:zT)=some 0:=chk (b:=true) (by decide+kernel) szB (by decide+kernel);have c6:zW (⟨[97],[],false⟩:zT)=some 8:=chk (b:=false) (by simp) (by rw[szL];omega) (by decide+kernel);have c7:zW (⟨[45,45,97],[],false⟩:zT)=some 0:=chk (b:=true) (by simp) (by rw[szL];omega) (by decide+kernel);have c8:zW (⟨[97,0],vB1,false⟩:zT)=some 8:=chk (b:=false) (by simp) szB (by decide+kernel);have n1:(decide (0<((List.replicate 32 dA1).length:Int)))=true:=rfl;have n2:(List.replicate 32 dA1)[0]? =some dA1:=rfl;have n3:Nat.ble 1 (List.replicate 32 dA1).length=true:=rfl;have n4:zD (List.replicate 32 dA1).length 1 48=true:=dh (by simp);have n5:geti (List.replicate 32 dA1) 0=some dA1:=rfl;have n6:(((List.replicate 32 dA1).length:Int) != 32)=false:=rfl;have n7:decide ((1:Int)<=(((List.replicate 65 ([97]:Str)).flatten).length:Int))=true:=by decide+kernel
 unfold SF;simp only[Int.natCast_one,show((2:Nat):Int)=2 from rfl]at e1 e2 e3 e4 e5 e6;simp only[zg,e1,e2,e3,e4,e5,e6,Aa,zS,Ea];refine dK (n:=33) rfl (by omega) (by decide) _ ?_ rfl;simp only[p8,Aa,show((0:Int) != 0)=false from rfl,n6,Da,Y8,l8,n1,n2,n3,n4,n5,zR,e7,e8,e9,e10,e11,e12,iQ h0 h1,WS h0 h1];refine dK (n:=65) rfl (by omega) (by decide) _ ?_ rfl;simp only[c1,c2,c3,c4,c5,c6,c7,c8,n7,RV,Aa,show((8:Int)==8)=true from rfl,show((0:Int)==0)=true from rfl,show((28:Int)==28)=true from rfl,show((20:Int)==20)=true from rfl,show((4:Int)==4)=true from rfl,Ea,zS,Ae,zR,Xa]
end Go.Lv.VT
