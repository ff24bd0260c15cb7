/- Parsing of tokens: what the machine of nest.Parse computes is what the reference's recursion computes. -/
import Derived.Test.YtkecjfeffabgiaaGreatDoorXa
import Derived.Test.YtkecjfeffabgiaaGreatDoorTy
import Derived.Test.YtkecjfeffabgiaaGreatDoorXd
import Derived.Test.YtkecjfeffabgiaaGreatDoorXg
import Derived.KernelRfl
import Derived.Test.YtkecjfeffabgiaaGreatDoorXf
import Derived.Test.YtkecjfeffabgiaaGreatDoorXh
import Derived.Test.YtkecjfeffabgiaaGreatDoorTx
import Derived.Test.YtkecjfeffabgiaaGreatDoorMo
set_option linter.unusedSimpArgs false
set_option linter.unusedVariables false
namespace Go.Lv.VT
set_option maxRecDepth 100000
theorem size_le{l:List zh}{m:Nat}(h:szL l<=big)(hm:m<=1000): ∃r:Int,Qz (l,(m:Int))=some r/\0<=r/\r<=szL l/\(r<=m->r=szL l):=by
 have: ∃r,Qz (l,(m:Int))=some r/\(0<=r/\r<=(szL l:Int)/\(r<=(m:Int)->r=(szL l:Int))):=by
  refine IE zpj (fun x=>szL x.1) (fun x=>szL x.1<=big/\0<=x.2/\x.2<=1000) (fun x r=>0<=r/\r<=(szL x.1:Int)/\(r<=x.2->r=(szL x.1:Int))) (fun S x hx hS=> ?_) (x:=(l,(m:Int))) ⟨h,by omega,by omega⟩;obtain⟨l,m⟩:=x;obtain⟨hx,hm0,hm1⟩:=hx;simp only at hx hm0 hm1;have hlen:=wh l;unfold big at hx;unfold Hw;refine jE (A:=Int) l.length (fun i a=>(a,(i:Int))) (fun i a=>0<=a/\a<=(szL (l.take i):Int)/\(a<=m->a=(szL (l.take i):Int))) _ (a0:=0) rfl ⟨by omega,by simp[szL],fun _=>by simp[szL]⟩ (fun i a hi ha=> ?_) (fun a ha=> ?_)
  ·obtain⟨ha0,ha1,ha2⟩:=ha;have hsz:=Wy hi;have hsz2:=wz l (i+1);have hv:=Dj l[i];have hm2:=Vj (Kb hi);cases hc:decide (a<=m)with
   |false=> simp only[Zr hi,Ca,Ba,hc];have hc:=of_decide_eq_false hc;exact .inr (.inr ⟨_,rfl,_,rfl,ha0,by omega,fun q=>absurd q hc⟩)
   |true=>
    have hc':=Ub hc;have e0:w64 (m - a)=m - a:=by rw[w64,Zx (by omega) (by omega)]
    obtain⟨r,hr,hr0,hr1,hr2⟩:=hS (l[i].list,w64 (m - a)) ⟨by show szL l[i].list<=4194304;omega,by show 0<=w64 (m - a);omega,by show w64 (m - a)<=1000;omega⟩ (by show szL l[i].list<szL l;omega);simp only[e0]at hr2 hr1;have e1:w64 (a+w64 (w64 (w64 (1+(l[i].token.text.length:Int))+(l[i].token.unit.length:Int))+r))=a+(1+l[i].token.text.length+l[i].token.unit.length+r):=by rw[w64,w64,w64,w64,Zx (n:=1+(l[i].token.text.length:Int)) (by omega) (by omega),Zx (n:=1+(l[i].token.text.length:Int)+(l[i].token.unit.length:Int)) (by omega) (by omega),Zx (n:=1+(l[i].token.text.length:Int)+(l[i].token.unit.length:Int)+r) (by omega) (by omega),Zx (by omega) (by omega)]
    simp only[Zr hi,Ca,hc,Zb hi,za,Aa,hr,e1,zX hi (show l.length<=big by unfold big;omega)];exact .inl ⟨_,rfl,by omega,by omega,fun q=>by have:=ha2 hc';have:=hr2 (by omega);omega⟩
  ·obtain⟨ha0,ha1,ha2⟩:=ha;rw[Oc]at ha1 ha2;simp only[ql,Ba];exact .inl ⟨_,rfl,_,rfl,ha0,ha1,ha2⟩
 obtain⟨r,hr,h0,h1,h2⟩:=this;exact⟨r,hr,h0,h1,h2⟩
theorem M6: ∀(a b:List zh) (c:Int),shL (a++b) c=(shL a c&&shL b c)
 |[],b,c=>by rw[Vb,shL,aa]
 |v::a,b,c=>by rw[Bb,shL,shL,M6 a b c,Rf]
theorem zEX{l:Str}{k:Nat}(hl:l.length<=100000):rz (l,(k:Int))=some (encW (Yi k l) k l):=by
 unfold rz;rw[Zk (X6 (dash:=Yi k l) (k:=k) (l:=l) (acc:=[]) hl (by simp) (fun i a hi ha=> ?_) (fun a=> ?_))]
 ·rfl
 ·have d1:decide ((i:Int)<(l.length:Int))=true:=Ga (by omega);have d2:geti l (i:Int)=some l[i]:=Zb hi;have d3:decide ((i:Int)>=(k:Int))=(k - i==0):=by
   by_cases h:k<=i
   ·rw[Ga (by omega),show k - i=0 by omega];rfl
   ·rw[La (by omega)];symm;rw[Ia];omega
  have d4:((k:Int)==0)=(k==0):=by
   by_cases h:k=0
   ·subst h;rfl
   ·rw[Ia.2 h,Ia];omega
  simp only[d1,Ca,d2,d3,d4,za,Aa,A8,BJ];have hd:(bif k==0 then true else !(l==[45]))= !Yi k l:=by unfold Yi;cases k==0<;>cases l==[45]<;>rfl
  rw[hd];unfold pcW;cases letB l[i]with
  |false=>
   cases k - i==0<;>simp only[zq,Ta,Ra,Ec,Ob,Lb,Ca,Ba,Aa,ko l[i] (show a.length<=1000000000 by omega),zk]
  |true=> cases k - i==0<;>cases digB l[i]<;>cases Yi k l<;>simp only[zq,Ta,Ra,Ec,Ob,Lb,Fe,Rc,aa,Xb,jc,Ca,Ba,Aa,Ey,zo (Lh (show a.length+1<=2000000000 by omega)),ko l[i] (show a.length<=1000000000 by omega),zk]
 ·simp only;rw[La (by omega),Ba]
theorem l8{l:Str}(hl:l.length<=1000):uq l=some (if l.isEmpty|| !Zz l then([],8)else(ZU l,0)):=by
 unfold uq;simp only[za,mr];cases l with
 |nil=>rfl
 |cons c r=>
  rw[show((c::r:Str)==[])=false from rfl];simp only[zq,Ra,Ca,Ba,Aa,mD];rw[show(c::r:Str).isEmpty=false from rfl,Xb];cases Zz (c::r)with
  |false=>rfl
  |true=>
   rw[Ta,Ba,ku];simp only[Aa,zEX (show(c::r:Str).length<=100000 by omega)];have hd:Yi (qm (c::r)) (c::r)=((c::r:Str)==[45]):=by unfold Yi qm;split<;>rfl
   rw[hd];have:=Lj ((c::r:Str)==[45]) (qm (c::r)) (c::r);rw[La (by omega),Ba,La (by omega),Ba];rfl
def okT(x:List ze):Prop:= ∀t∈x,t.text.length<=5000/\t.unit.length<=5000
structure OkD (d:z8):Prop where
 v:szL d.value<=big
 n:d.name.length<=big
 t:okT (tokL d.value)
theorem zJY{x:List ze}(hg:gluS x=0)(h:okT x):Bo x:=by obtain⟨_,h1,h2⟩:=uJ hg;exact⟨fun t ht=>⟨h1 t ht,h t ht⟩,h2⟩
theorem zKa{v:List zh}(hv:szL v<=big)(h:errS v=0)(hg:gluS (tokL v)=0)(ht:okT (tokL v)):Cz v=some (if 4000<(wrS (tokL v)).length then([],28)else(wrS (tokL v),0)):=by unfold Cz;simp only[za,XF hv,h,Aa];rw[show((0:Int) != 0)=false from rfl,Ba,BQ hv,Aa,zDV ht,Ka hg,Aa]
abbrev impT:Str:=[32,33,105,109,112,111,114,116,97,110,116]
def wrD(d:z8):Str:=ZU d.name++([58,32]:Str)++wrS (tokL d.value)++(bif d.important then impT else [])
def Nn(d:z8):Str×Int:=if Ng d=true then(if 4000<(wrD d).length then([],28)else(wrD d,0))else([],8)
structure zKj (d:z8):Prop where
 name:Si d.name=true
 err:errS d.value=0
 glu:gluS (tokL d.value)=0
 body:Yp (List.isPrefixOf [45,45] d.name) d.value=true
theorem WC{d:z8}(h:Ng d=true):zKj d:=by unfold Ng at h;simp only[Da,ma]at h;exact⟨h.1,h.2.1,h.2.2.1,h.2.2.2.2⟩
theorem aO{x:Str}(h:Si x=true):x≠[]/\x.length<=64/\Zz x=true/\(bif List.isPrefixOf [45,45] x then !(x==[45,45])else lowS x==x)=true:=by unfold Si at h;simp only[Da,He,Ia,Eb]at h;exact⟨h.1,h.2.1,h.2.2.1,h.2.2.2⟩
theorem Ez(l:Str):(ZU l).length<=4*l.length:=Lj _ _ l
theorem zuX{d:z8}(h:OkD d):Kz d=some (Nn d):=by
 have hbig:big=4194304:=rfl;unfold Kz Nn;rw[AX h.v h.n];simp only[za,Aa];cases hd:Ng d with
 |false=>rw[Ba,Ja (by decide)];rfl
 |true=>
  obtain⟨h1,h2,h3,_⟩:=WC hd;obtain⟨n1,n2,n3,_⟩:=aO h1;have hne:d.name.isEmpty=false:=by cases hx:d.name with|nil=>exact absurd hx n1|cons a b=>rfl
  have hl:=Ez d.name;rw[Ca,Ka rfl,show((0:Int) != 0)=false from rfl,Ba,l8 (by omega),hne,n3];simp only[Ta,Ue,Yb,Ud,Aa,show((0:Int) != 0)=false from rfl,Ba,zKa h.v h2 h3 h.t];by_cases hw:4000<(wrS (tokL d.value)).length
  ·have:4000<(wrD d).length:=by unfold wrD;rw[Ea,Ea];omega
   rw[Ka hw,Ka this];rfl
  ·rw[Ja hw];have c1:zO (ZU d.name).length ([58,32]:Str).length=true:=zV.2 (by simp only[Fa,Va];omega);have c2:zO (ZU d.name++([58,32]:Str)).length (wrS (tokL d.value)).length=true:=zV.2 (by simp only[Ea,Fa,Va];omega);have c3:zO (ZU d.name++([58,32]:Str)++wrS (tokL d.value)).length impT.length=true:=zV.2 (by simp only[Ea,Fa,Va];omega);simp only[show((0:Int) != 0)=false from rfl,Ba,c1,c2,c3,zF];have hg: ∀n:Nat,decide ((n:Int)>4000)=decide (4000<n):=fun n=>by rw[Bg];omega
   unfold wrD;cases d.important with
   |true=>
    simp only[Ca,zk,hg];by_cases q:4000<(ZU d.name++([58,32]:Str)++wrS (tokL d.value)++impT).length
    ·rw[Ga q,Ka q];rfl
    ·rw[La q,Ja q];rfl
   |false=>
    simp only[Ba,zk,hg,Db];by_cases q:4000<(ZU d.name++([58,32]:Str)++wrS (tokL d.value)).length
    ·rw[Ga q,Ka q];rfl
    ·rw[La q,Ja q];rfl
end Go.Lv.VT
