/- Names as glue writes them (glue.Name); beside PdWrt. -/
import Derived.Test.YtcdeccnjlkkejaaGreatDoorNd
import Derived.Test.YtcdeccnjlkkejaaGreatDoorNf
set_option linter.unusedSimpArgs false
set_option linter.unusedVariables false
namespace Go.Lv.VT
set_option maxRecDepth 100000
theorem KW{l:Str}{k:Nat}(hl:l.length<=100000):Yv (l,(k:Int))=some (encW (Ih k l) k l):=by
 unfold Yv;rw[Ze (nJ (dash:=Ih k l) (k:=k) (l:=l) (acc:=[]) hl (by simp) (fun i a hi ha=> ?_) (fun a=> ?_))]
 ·rfl
 ·have d1:decide ((i:Int)<(l.length:Int))=true:=Ea (by omega);have d2:geti l (i:Int)=some l[i]:=Zo hi;have d3:decide ((i:Int)>=(k:Int))=(k - i==0):=by
   by_cases h:k<=i
   ·rw[Ea (by omega),show k - i=0 by omega];rfl
   ·rw[Ra (by omega)];symm;rw[Ha];omega
  have d4:((k:Int)==0)=(k==0):=by
   by_cases h:k=0
   ·subst h;rfl
   ·rw[Ha.2 h,Ha];omega
  simp only[d1,Ca,d2,d3,d4,zb,Aa,gK,sD];have hd:(bif k==0 then true else !(l==[45]))= !Ih k l:=by unfold Ih;cases k==0<;>cases l==[45]<;>rfl
  rw[hd];unfold pcW;cases letB l[i]with
  |false=>
   cases k - i==0<;>simp only[zq,Ya,Va,lc,Pb,Lb,Ca,Ba,Aa,Ll l[i] (show a.length<=1000000000 by omega),zh]
  |true=> cases k - i==0<;>cases digB l[i]<;>cases Ih k l<;>simp only[zq,Ya,Va,lc,Pb,Lb,Xe,Be,ma,Gc,Wd,Ca,Ba,Aa,Su,zm (Jg (show a.length+1<=2000000000 by omega)),Ll l[i] (show a.length<=1000000000 by omega),zh]
 ·simp only;rw[Ra (by omega),Ba]
theorem bU{l:Str}(hl:l.length<=1000):yu l=some (if l.isEmpty|| !Zm l then([],8)else(Zx l,0)):=by
 unfold yu;simp only[zb,Dr];cases l with
 |nil=>rfl
 |cons c r=>
  rw[show((c::r:Str)==[])=false from rfl];simp only[zq,Va,Ca,Ba,Aa,SE];rw[show(c::r:Str).isEmpty=false from rfl,Gc];cases Zm (c::r)with
  |false=>rfl
  |true=>
   rw[Ya,Ba,Rq];simp only[Aa,KW (show(c::r:Str).length<=100000 by omega)];have hd:Ih (ZN (c::r)) (c::r)=((c::r:Str)==[45]):=by unfold Ih ZN;split<;>rfl
   rw[hd];have:=uh ((c::r:Str)==[45]) (ZN (c::r)) (c::r);rw[Ra (by omega),Ba,Ra (by omega),Ba];rfl
structure Sf (d:UInt8) (y:Str):Prop where
 f:fstB d=false
 l:letB d=false
 g:digB d=false
 s:Lf d=false
 a:(d==45)=false
 b:(d==46)=false
 c:(d==92)=false
 n:(d==10)=false
 e:(d==40)=false
 p:(d==37)=false
 m:d≠42
 o:[33,45,45].isPrefixOf (d::y)=false
 x:(d==101||d==69)=false
 k:d≠60/\d≠62
def okT(x:List ze):Prop:= ∀t∈x,t.text.length<=5000/\t.unit.length<=5000
structure OkD (d:Zj):Prop where
 v:szL d.value<=big
 n:d.name.length<=big
 t:okT (tokL d.value)
theorem zCu{x:List ze}(hg:gluS x=0)(h:okT x):ik x:=by obtain⟨_,h1,h2⟩:=pE hg;exact⟨fun t ht=>⟨h1 t ht,h t ht⟩,h2⟩
theorem zCG{v:List zg}(hv:szL v<=big)(h:errS v=0)(hg:gluS (tokL v)=0)(ht:okT (tokL v)):pu v=some (if 4000<(wrS (tokL v)).length then([],28)else(wrS (tokL v),0)):=by unfold pu;simp only[zb,tO hv,h,Aa];rw[show((0:Int) != 0)=false from rfl,Ba,WL hv,Aa,lX ht,Ka hg,Aa]
abbrev impT:Str:=[32,33,105,109,112,111,114,116,97,110,116]
def wrD(d:Zj):Str:=Zx d.name++([58,32]:Str)++wrS (tokL d.value)++(bif d.important then impT else [])
def ig(d:Zj):Str×Int:=if yf d=true then(if 4000<(wrD d).length then([],28)else(wrD d,0))else([],8)
structure zCN (d:Zj):Prop where
 name:Wh d.name=true
 err:errS d.value=0
 glu:gluS (tokL d.value)=0
 body:Vo (List.isPrefixOf [45,45] d.name) d.value=true
theorem Gy{d:Zj}(h:yf d=true):zCN d:=by unfold yf at h;simp only[Fa,Cb]at h;exact⟨h.1,h.2.1,h.2.2.1,h.2.2.2.2⟩
theorem MC{x:Str}(h:Wh x=true):x≠[]/\x.length<=64/\Zm x=true/\(bif List.isPrefixOf [45,45] x then !(x==[45,45])else lowS x==x)=true:=by unfold Wh at h;simp only[Fa,Fe,Ha,Kb]at h;exact⟨h.1,h.2.1,h.2.2.1,h.2.2.2⟩
theorem GG(l:Str):(Zx l).length<=4*l.length:=uh _ _ l
theorem sP{d:Zj}(h:OkD d):Vn d=some (ig d):=by
 have hbig:big=4194304:=rfl;unfold Vn ig;rw[UQ h.v h.n];simp only[zb,Aa];cases hd:yf d with
 |false=>rw[Ba,Ja (by decide)];rfl
 |true=>
  obtain⟨h1,h2,h3,_⟩:=Gy hd;obtain⟨n1,n2,n3,_⟩:=MC h1;have hne:d.name.isEmpty=false:=by cases hx:d.name with|nil=>exact absurd hx n1|cons a b=>rfl
  have hl:=GG d.name;rw[Ca,Ka rfl,show((0:Int) != 0)=false from rfl,Ba,bU (by omega),hne,n3];simp only[Ya,Bool.or_self,Sb,Ad,Aa,show((0:Int) != 0)=false from rfl,Ba,zCG h.v h2 h3 h.t];by_cases hw:4000<(wrS (tokL d.value)).length
  ·have:4000<(wrD d).length:=by unfold wrD;rw[Ga,Ga];omega
   rw[Ka hw,Ka this];rfl
  ·rw[Ja hw];have c1:Zf (Zx d.name).length ([58,32]:Str).length=true:=zO.2 (by simp only[Ia,Eb];omega);have c2:Zf (Zx d.name++([58,32]:Str)).length (wrS (tokL d.value)).length=true:=zO.2 (by simp only[Ga,Ia,Eb];omega);have c3:Zf (Zx d.name++([58,32]:Str)++wrS (tokL d.value)).length impT.length=true:=zO.2 (by simp only[Ga,Ia,Eb];omega);simp only[show((0:Int) != 0)=false from rfl,Ba,c1,c2,c3,Zi];have hg: ∀n:Nat,decide ((n:Int)>4000)=decide (4000<n):=fun n=>by rw[bf];omega
   unfold wrD;cases d.important with
   |true=>
    simp only[Ca,zh,hg];by_cases q:4000<(Zx d.name++([58,32]:Str)++wrS (tokL d.value)++impT).length
    ·rw[Ea q,Ka q];rfl
    ·rw[Ra q,Ja q];rfl
   |false=>
    simp only[Ba,zh,hg,ja];by_cases q:4000<(Zx d.name++([58,32]:Str)++wrS (tokL d.value)).length
    ·rw[Ea q,Ka q];rfl
    ·rw[Ra q,Ja q];rfl
def Ji(l:List Zj):Str:=(l.map fun d=>([59,32]:Str)++wrD d).flatten
def Dg:List Zj->Str
 |[]=>[]
 |d::r=>wrD d++Ji r
theorem FJ(l:List Zj):Lib.join (l.map wrD) [59,32]=Dg l:=by
 cases l with
 |nil=>rfl
 |cons d r=> rw[Uc,Lib.join_cons,Dg];unfold Lib.joinTail Ji;rw[List.map_map];rfl
theorem sJ{M:Nat}: ∀l:List Str,(∀x∈l,x.length<=M)->(Lib.joinTail [59,32] l).length<=(M+2)*l.length
 |[],_=>aa _
 |x::r,h=>by have h1:=sJ r (fun y hy=>h y (Xb _ hy));have h2:=h x (jb ..);have e:Lib.joinTail [59,32] (x::r)=(([59,32]:Str)++x)++Lib.joinTail [59,32] r:=rfl;have e3:(M+2)*(x::r).length=(M+2)*r.length+(M+2):=Nat.mul_succ ..;rw[e,e3,Ga,Ga];simp only[Ia,Eb];omega
theorem EK{M:Nat}(l:List Str)(h: ∀x∈l,x.length<=M):(Lib.join l [59,32]).length<=(M+2)*l.length:=by
 cases l with
 |nil=>exact Cc _
 |cons x r=> have h1:=sJ r (fun y hy=>h y (Xb _ hy));have h2:=h x (jb ..);have e3:(M+2)*(x::r).length=(M+2)*r.length+(M+2):=Nat.mul_succ ..;rw[Lib.join_cons,Ga,e3];omega
theorem gL{d:Zj}: ∀{l:List Zj},d∈l->(wrD d).length<=(Ji l).length
 |x::r,h=>by
  have e:Ji (x::r)=(([59,32]:Str)++wrD x)++Ji r:=rfl;rw[e,Ga,Ga];rcases Nb.1 h with rfl|h
  ·omega
  ·have:=gL h;omega
theorem iW{d:Zj}{l:List Zj}(h:d∈l):(wrD d).length<=(Dg l).length:=by
 cases l with
 |nil=>cases h
 |cons x r=>
  rw[Dg,Ga];rcases Nb.1 h with rfl|h
  ·omega
  ·have:=gL h;omega
def Aj(d:Zj):Bool:=decide (4000<(wrD d).length)
def Po(l:List Zj):Str×Int:=if 32<l.length then([],4)else if l.all yf=true then(if 4000<(Dg l).length then([],28)else(Dg l,0))else([],8)
theorem pF{d:Zj}(h:yf d=true):ig d=if Aj d=true then([],28)else(wrD d,0):=by
 unfold ig Aj;rw[Ka h];by_cases q:4000<(wrD d).length
 ·rw[Ka q,Ea q,Ka rfl]
 ·rw[Ja q,Ra q,Ja (by decide)]
theorem dU{l:List Zj}(h: ∀d∈l,OkD d):Av l=some (Po l):=by
 have hbig:big=4194304:=rfl;unfold Av;by_cases h32:32<l.length
 ·rw[Ea (by omega),Ca];unfold Po;rw[Ka h32]
 ·rw[Ra (by omega),Ba];refine Qv (fun z=> ∃i:Nat,z=(((l.take i).any Aj,(i:Int)),(l.take i).map (fun d=>(ig d).1))/\i<=l.length/\(l.take i).all yf=true) (fun z=>l.length - z.1.2.toNat) _ ?_ ⟨0,rfl,Cc _,rfl⟩;rintro _ ⟨i,rfl,hi,ha⟩;rcases Lc i l.length with hh|hh
  ·have hd:=sP (h _ (Ac hh));have hw:w64 ((i:Int)+1)=((i+1:Nat):Int):=ZC hh (by omega);have hap:Zc ((l.take i).map (fun d=>(ig d).1)).length 1 16=true:=pz (by rw[Fb,Oc];omega);simp only[qD hh,Ca,Zo hh,zb,Aa,hd];cases hs:yf l[i]with
   |false=>
    refine .inr (.inr ?_);have e:ig l[i]=([],8):=by unfold ig;rw[hs,Ja (by decide)]
    have hall:l.all yf=false:=by rw[List.all_eq_false];exact⟨_,Ac hh,by rw[hs];decide⟩
    rw[e];unfold Po;rw[Ja h32,hall,Ja (by decide)];rfl
   |true=>
    refine .inl ⟨_,?_,⟨i+1,rfl,hh,?_⟩,by simp only[Sa];omega⟩
    ·have e:=pF hs;have h8:((ig l[i]).2==8)=false:=by rw[e];cases Aj l[i]<;>rfl
     have h0:((ig l[i]).2 != 0)=Aj l[i]:=by rw[e];cases Aj l[i]<;>rfl
     rw[h8,Ba,zm hap,h0,hw,Kc hh,List.any_append,Re];simp only[List.any_cons,List.any_nil,Be,Uc,Lg,YK]
    ·rw[Kc hh,Cg,ha,Rc,hs];rfl
  ·have:i=l.length:=by omega
   subst this;rw[Ue]at ha ⊢;refine .inr (.inl ⟨(l.any Aj,l.map (fun d=>(ig d).1)),?_,?_⟩)
   ·simp only[Bi,Ba]
   ·have hall: ∀d∈l,yf d=true:=Rb.1 ha;have hM: ∀x∈l.map (fun d=>(ig d).1),x.length<=4000:=by
     intro x hx;obtain⟨d,hd,rfl⟩:=Jb.1 hx;rw[pF (hall d hd)];unfold Aj;by_cases q:4000<(wrD d).length
     ·rw[Ea q,Ka rfl];exact Cc _
     ·rw[Ra q,Ja (by decide)];exact Nat.le_of_not_lt q
    have hle:=EK _ hM;rw[Fb]at hle;have hn:(Nat.ble (l.map (fun d=>(ig d).1)).length 1000000&&Nat.ble (Lib.join (l.map (fun d=>(ig d).1)) [59,32]).length 1000000000)=true:=by rw[Fa,Nat.ble_eq,Nat.ble_eq,Fb];have:(4000+2)*l.length<=(4000+2)*32:=Nat.mul_le_mul_left _ (by omega);omega
    unfold Gm Po;simp only;rw[zm hn,Ja h32,ha,Ka rfl];simp only[Aa];cases hb:l.any Aj with
    |true=> obtain⟨d,hd,hl⟩:=List.any_eq_true.1 hb;have h1:=iW hd;unfold Aj at hl;rw[Kb]at hl;rw[Ka (show 4000<(Dg l).length by omega)];rfl
    |false=>
     have he:l.map (fun d=>(ig d).1)=l.map wrD:=Ff fun d hd=>by rw[pF (hall d hd),Ja (List.any_eq_false.1 hb d hd)]
     rw[he,FJ,Ba];by_cases q:4000<(Dg l).length
     ·rw[Ka q,Ea (by omega)];rfl
     ·rw[Ja q,Ra (by omega)];rfl
structure zDa (v:List zg):Prop where
 r:ik (tokL v)
 h:vo v
 e:vB v
structure Shp (v:List zg):Prop where
 s:shL v 0=true
 d:Rf v<=16
theorem lY(a b:List zg):Rf (a++b)=max (Rf a) (Rf b):=by
 induction a with
 |nil=>rw[Ub,Rf];omega
 |cons v a ih=>rw[Xa,Rf,Rf,ih];omega
theorem Shp.app{a b:List zg}(ha:Shp a)(hb:Shp b):Shp (a++b):=⟨by rw[bJ,ha.s,hb.s];rfl,by rw[lY];have:=ha.d;have:=hb.d;omega⟩
theorem zB8{v:List zg}(h:szL v<=5000):okT (tokL v):=fun t ht=>by have:=Xu v t ht;omega
structure SzD (d:Zj):Prop where
 v:szL d.value<=big
 n:d.name.length<=big
theorem KM(x:Zj):Qc (Qi x)=3+x.name.length+zL Zp x.value:=by unfold Qi;simp only[Qc,bPV,zL];omega
theorem uJ{d:Zj}(h:Qc (Qi d)<=1048576):SzD d:=by have hbig:big=4194304:=rfl;have h1:=zCD d.value;rw[KM]at h;exact⟨by omega,by omega⟩
theorem zA9{l:List Zj}(h:Qc [.sl (l.map Qi)]<=1048576):(∀d∈l,SzD d)/\l.length<=big:=by
 have hbig:big=4194304:=rfl;have h1:zL Qi l<=1048576:=by simp only[Qc,bPV]at h;unfold zL;omega
 have h2:=YI (f:=Qi) (fun v=>by rw[KM];omega) l;exact⟨fun d hd=>uJ (Ic (GJ hd) h1),by omega⟩
theorem NJ{l:List Zj}(h: ∀d∈l,SzD d)(hlen:l.length<=big): ∃g,Jr l=some g/\(g=false->l.length<=40/\ ∀d∈l,d.name.length+szL d.value<=300):=by
 have hbig:big=4194304:=rfl;unfold Jr;by_cases h40:40<l.length
 ·rw[Ea (by omega),Ca];exact⟨true,rfl,fun e=>by cases e⟩
 ·rw[Ra (by omega),Ba];refine xO (fun s=> ∃(i n:Nat),s=((n:Int),(i:Int))/\i<=l.length/\n<=300/\ ∀d∈l.take i,d.name.length+szL d.value<=300) (fun s=>l.length - s.2.toNat) (fun g=>g=false->l.length<=40/\ ∀d∈l,d.name.length+szL d.value<=300) ?_ ⟨0,0,rfl,by omega,by omega,(fun d hd=>by cases hd)⟩;rintro _ ⟨i,n,rfl,hi,hn,hlt⟩;simp only[zb];rcases Lc i l.length with hh|hh
  ·obtain⟨hv,hnm⟩:=h _ (Ac hh);obtain⟨r,hr,r0,r1,r2⟩:=size_le (m:=300) hv (by omega);replace hr:qV (l[i].value,300)=some r:=hr;obtain⟨k,rfl⟩: ∃k:Nat,r=(k:Int):=⟨r.toNat,by omega⟩;have e2:w64 ((n:Int)+w64 ((l[i].name.length:Int)+(k:Int)))=((n+(l[i].name.length+k):Nat):Int):=by rw[zJ (n:=(l[i].name.length:Int)+(k:Int)) (by omega) (by omega),zJ (by omega) (by omega)];omega
   simp only[qD hh,Ca,Zo hh,Aa,hr,e2];by_cases hb:n+(l[i].name.length+k)>300
   ·rw[Ea (show((n+(l[i].name.length+k):Nat):Int)>300 by omega)];simp only[Ya,zP,Aa,Ca];exact .inr (.inr ⟨true,rfl,fun e=>by cases e⟩)
   ·rw[Ra (show¬((n+(l[i].name.length+k):Nat):Int)>300 by omega)];simp only[Va,zx,Aa,Ba,vL hv];cases hd:decide ((Rf l[i].value:Int)>40)with
    |true=>exact .inr (.inr ⟨true,rfl,fun e=>by cases e⟩)
    |false=>
     refine .inl ⟨_,rfl,⟨i+1,n+(l[i].name.length+k),by rw[zJ (by omega) (by omega)];rfl,by omega,by omega,?_⟩,by simp only;rw[zJ (by omega) (by omega)];omega⟩;rw[Kc hh];intro d hd;rcases Jd.1 hd with hd|hd
     ·exact hlt d hd
     ·rw[Sd]at hd;subst hd;omega
  ·have:i=l.length:=by omega
   subst this;simp only[Bi,Ba];rw[Ue]at hlt;exact .inr (.inl ⟨(),false,(by first|rfl|trivial),rfl,fun _=>⟨by omega,hlt⟩⟩)
theorem XZ{l:List Zj}(h: ∀d∈l,d.name.length+szL d.value<=300): ∀d∈l,OkD d:=fun d hd=>by have hbig:big=4194304:=rfl;have:=h d hd;exact⟨by omega,by omega,zB8 (by omega)⟩
theorem bI: ∀(n:Nat) (ts:List ze) (b:Str) (r:List ze),(∀t∈r,Pf t=true)->(wrF n ts b r).length<=b.length+wtS r
 |0,_,b,r,_=>by rw[wrF];omega
 |n+1,_,b,[],_=>by rw[wrF,wtS];omega
 |n+1,ts,b,t::r,h=>by
  rw[wrF];have hk0:=Sy (t:=t) (r:=r);have ih:=bI n (ts++(t::r).take (pcN (t::r))) ((if af (qz (b++pcS ((t::r).take (pcN (t::r))))) (ts++(t::r).take (pcN (t::r)))then b else b++cmtW)++pcS ((t::r).take (pcN (t::r)))) ((t::r).drop (pcN (t::r))) (fun u hu=>h u (List.mem_of_mem_drop hu));have hw:wtS (t::r)=wtS ((t::r).take (pcN (t::r)))+wtS ((t::r).drop (pcN (t::r))):=by rw[<-Ws,List.take_append_drop]
  have hc:=KC (l:=(t::r).take (pcN (t::r))) (fun u hu=>h u (Me hu));have hp:(pcS ((t::r).take (pcN (t::r)))).length+4<=wtS ((t::r).take (pcN (t::r))):=by
   rw[XE];obtain⟨k,hk⟩: ∃k,pcN (t::r)=k+1:=⟨pcN (t::r) - 1,by omega⟩;rw[hk,He]at hc ⊢;rw[Ia]at hc;have:=Cs t.kind;cases t.kind==9&&t.text==[92]with
   |true=>rw[Ca,wtS];simp only[Ia,Eb];omega
   |false=>rw[Ba];omega
  have hb:(if af (qz (b++pcS ((t::r).take (pcN (t::r))))) (ts++(t::r).take (pcN (t::r)))then b else b++cmtW).length<=b.length+4:=by
   split
   ·omega
   ·rw[Ga];exact aa _
  rw[Ga]at ih;omega
structure SmD (d:Zj):Prop where
 s:d.name.length+szL d.value<=300
theorem SmD.ok{d:Zj}(h:SmD d):OkD d:=XZ (l:=[d]) (fun x hx=>by rw[Sd.1 hx];exact h.s) d (List.mem_singleton_self _)
theorem aI{d:Zj}(h:SmD d)(hd:yf d=true):(wrS (tokL d.value)).length<=9000:=by have h1:=bI (tokL d.value).length [] [] (tokL d.value) (pE (Gy hd).glu).2.1;have h2:=Ty d.value;have:=h.s;rw[Eb]at h1;unfold wrS;omega
theorem dI{d:Zj}(h:SmD d)(hd:yf d=true):(wrD d).length<=9300:=by have h1:=aI h hd;have h2:=GG d.name;have h3:=(MC (Gy hd).name).2.1;unfold wrD;rw[Ga,Ga,Ga];cases d.important<;>simp only[Ca,Ba,Ia,Eb]<;>omega
theorem vG{d:Zj}(h:SmD d)(hd:yf d=true):QJ d=some (wrD d):=by
 have hbig:big=4194304:=rfl;have hsm:=h.s;obtain⟨h1,h2,h3,_⟩:=Gy hd;have hn:=(MC h1).2.1;have hl:=GG d.name;have hw:=aI h hd;have hN:ZV (d.name,false)=some (Zx d.name):=Oz false (by omega);have hwt:=Ty d.value;have hlen:=om d.value;have hW:Kr (tokL d.value)=some (wrS (tokL d.value)):=JX (zCu h3 h.ok.t) (by omega) (by omega);have c1:Zf (Zx d.name).length ([58,32]:Str).length=true:=zO.2 (by simp only[Ia,Eb];omega);have c2:Zf (Zx d.name++([58,32]:Str)).length (wrS (tokL d.value)).length=true:=zO.2 (by simp only[Ga,Ia,Eb];omega);have c3:Zf (Zx d.name++([58,32]:Str)++wrS (tokL d.value)).length impT.length=true:=zO.2 (by simp only[Ga,Ia,Eb];omega);unfold QJ wrD;simp only[hN,zb,Aa,c1,eG h.ok.v,hW,c2,c3,Zi];cases d.important with
 |true=>rfl
 |false=>simp only[Ba,zh,ja]
theorem sU{d:Zj}(h:SmD d):Fv d=some (ig d):=by
 unfold Fv ig;rw[eH h.ok.v h.ok.n];simp only[zb,Aa];cases hd:yf d with
 |false=>rw[Ba,Ja (by decide)];rfl
 |true=>
  rw[Ca,Ka rfl,show((0:Int) != 0)=false from rfl,Ba,vG h hd];simp only[Aa];by_cases q:4000<(wrD d).length
  ·rw[Ka q,Ra (by omega)];rfl
  ·rw[Ja q,Ea (by omega)];rfl
theorem bV(a b:List Zj):Ji (a++b)=Ji a++Ji b:=by unfold Ji;rw[Re,List.flatten_append]
theorem tX(a:List Zj)(d:Zj):Dg (a++[d])=(if a=[]then []else Dg a++([59,32]:Str))++wrD d:=by
 have e:Ji [d]=([59,32]:Str)++wrD d:=by show(([59,32]:Str)++wrD d)++[]=_;rw[ja]
 cases a with
 |nil=> show wrD d++Ji []=_;rw[Ka rfl];show wrD d++[]=[]++wrD d;rw[ja,Ub]
 |cons x r=> rw[Ja (by simp),Xa,Dg,Dg,bV,e];simp only[Oa]
theorem jW{l:List Zj}(h: ∀d∈l,SmD d/\yf d=true):(Dg l).length<=9302*l.length:=by
 have:=EK (M:=9300) (l.map wrD) (fun x hx=>by
  obtain⟨d,hd,rfl⟩:=Jb.1 hx;exact dI (h d hd).1 (h d hd).2)
 rw[FJ,Fb]at this;exact this
theorem vU{l:List Zj}(h: ∀d∈l,SmD d/\yf d=true)(hl:l.length<=40):Jv l=some (Dg l):=by
 have hbig:big=4194304:=rfl;unfold Jv;refine Qv (fun z=> ∃i:Nat,z=(Dg (l.take i),(i:Int))/\i<=l.length) (fun z=>l.length - z.2.toNat) _ ?_ ⟨0,rfl,Cc _⟩;rintro _ ⟨i,rfl,hi⟩;rcases Lc i l.length with hh|hh
 ·obtain⟨d1,d2⟩:=h _ (Ac hh);have hw:w64 ((i:Int)+1)=((i+1:Nat):Int):=ZC hh (by omega);have hj:=jW (l:=l.take i) (fun d hd=>h d (Me hd));have hti:(l.take i).length<=40:=by rw[Oc];omega
  have hj2:(Dg (l.take i)).length<=9302*40:=Ic hj (Nat.mul_le_mul_left _ hti);have hwd:=dI d1 d2;refine .inl ⟨_,?_,⟨i+1,rfl,hh⟩,by simp only[Sa];omega⟩;rw[Kc hh,tX];have c1:Zf (Dg (l.take i)).length ([59,32]:Str).length=true:=zO.2 (by simp only[Ia,Eb];omega);have c2:Zf (Dg (l.take i)++([59,32]:Str)).length (wrD l[i]).length=true:=zO.2 (by simp only[Ga,Ia,Eb];omega);have c3:Zf ([]:Str).length (wrD l[i]).length=true:=zO.2 (by simp only[Eb];omega);by_cases h0:i=0
  ·subst h0;have e0:Dg (l.take 0)=[]:=rfl;simp only[qD hh,Ca,show decide ((0:Int)>0)=false from rfl,Int.natCast_zero,Ba,zh,zb];simp only[show geti l 0=some l[0]from Zo hh,Aa,vG d1 d2,e0,c3,Zi];rw[Ea (show(0:Int)<(l.length:Int) by omega)];rfl
  ·have hne:l.take i≠[]:=by intro e;have:=congrArg List.length e;rw[Oc,Eb]at this;omega
   rw[Ja hne];simp only[qD hh,Ca,Ea (show(i:Int)>0 by omega),c1,Zi,zh,zb,Zo hh,Aa,vG d1 d2,c2,hw]
 ·have:i=l.length:=by omega
  subst this;rw[Ue];refine .inr (.inl ⟨Dg l,?_,rfl⟩);simp only[Bi,Ba]
theorem uU{l:List Zj}(h: ∀d∈l,SmD d):Gv l=some (Po l):=by
 have hbig:big=4194304:=rfl;unfold Gv Po;by_cases h32:32<l.length
 ·rw[Ea (by omega),Ca,Ka h32]
 ·rw[Ra (by omega),Ba,Ja h32];refine Qv (fun z=> ∃i:Nat,z=(i:Int)/\i<=l.length/\(l.take i).all yf=true) (fun z=>l.length - z.toNat) _ ?_ ⟨0,rfl,Cc _,rfl⟩;rintro _ ⟨i,rfl,hi,ha⟩;rcases Lc i l.length with hh|hh
  ·have ho:=(h _ (Ac hh)).ok;simp only[qD hh,Ca,Zo hh,zb,Aa,eH ho.v ho.n];cases hd:yf l[i]with
   |false=>
    refine .inr (.inr ?_);have hall:l.all yf=false:=by rw[List.all_eq_false];exact⟨_,Ac hh,by rw[hd];decide⟩
    rw[hall,Ja (by decide)];rfl
   |true=>
    refine .inl ⟨_,?_,⟨i+1,rfl,hh,?_⟩,by omega⟩
    ·simp only[Ca,show((0:Int) != 0)=false from rfl,Ba,ZC hh (show l.length<=big by omega)]
    ·rw[Kc hh,Cg,ha,Rc,hd];rfl
  ·have:i=l.length:=by omega
   subst this;rw[Ue]at ha;refine .inr (.inl ⟨(),?_,?_⟩)
   ·simp only[Bi,Ba]
   ·rw[vU (fun d hd=>⟨h d hd,Rb.1 ha d hd⟩) (by omega),ha,Ka rfl];simp only[zb,Aa];by_cases q:4000<(Dg l).length
    ·rw[Ka q,Ra (by omega)];rfl
    ·rw[Ja q,Ea (by omega)];rfl
theorem X7{d:Zj}{l:List Zj}(h:SzD d)(hl: ∀x∈l,SzD x)(hlen:l.length<=big):cB (d,l)=some true:=by
 unfold cB;obtain⟨g,hg,hg2⟩:=NJ (l:=[d]) (fun x hx=>by rw[Sd.1 hx];exact h) (by show 1<=4194304;omega);obtain⟨k,hk,hk2⟩:=NJ hl hlen;simp only[hg,zb,Aa];cases g with
 |true=>simp only[Ya,zP,Aa,Ca]
 |false=>
  simp only[Va,zx,hk,Aa,Ba];cases k with
  |true=>rfl
  |false=> have s1:SmD d:=⟨(hg2 rfl).2 d (List.mem_singleton_self _)⟩;have s2: ∀x∈l,SmD x:=fun x hx=>⟨(hk2 rfl).2 x hx⟩;simp only[Ba,sP s1.ok,sU s1,dU (fun x hx=>(s2 x hx).ok),uU s2,UQ h.v h.n,eH h.v h.n,Aa,df,Ca]
end Go.Lv.VT
