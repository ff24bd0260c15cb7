/- The reference's reading: the value of a number. -/
import Derived.Test.YtkecjfeffabgiaaGreatDoorXg
import Derived.Test.YtkecjfeffabgiaaGreatDoorXd
import Derived.Test.YtkecjfeffabgiaaGreatDoorTx
import Derived.Test.YtkecjfeffabgiaaGreatDoorMo
import Derived.Test.YtkecjfeffabgiaaGreatDoorXf
set_option linter.unusedSimpArgs false
set_option linter.unusedVariables false
namespace Go.Lv.VT
set_option maxRecDepth 100000
theorem size_le{l:List zb}{m:Nat}(h:szL l<=big)(hm:m<=1000): ∃r:Int,Qm (l,(m:Int))=some r/\0<=r/\r<=szL l/\(r<=m->r=szL l):=by
 have: ∃r,Qm (l,(m:Int))=some r/\(0<=r/\r<=(szL l:Int)/\(r<=(m:Int)->r=(szL l:Int))):=by
  refine Ws znM (fun x=>szL x.1) (fun x=>szL x.1<=big/\0<=x.2/\x.2<=1000) (fun x r=>0<=r/\r<=(szL x.1:Int)/\(r<=x.2->r=(szL x.1:Int))) (fun S x hx hS=> ?_) (x:=(l,(m:Int))) ⟨h,by omega,by omega⟩;obtain⟨l,m⟩:=x;obtain⟨hx,hm0,hm1⟩:=hx;simp only at hx hm0 hm1;have hlen:=Wi l;unfold big at hx;unfold Oy;refine Yw (A:=Int) l.length (fun i a=>(a,(i:Int))) (fun i a=>0<=a/\a<=(szL (l.take i):Int)/\(a<=m->a=(szL (l.take i):Int))) _ (a0:=0) rfl ⟨by omega,by simp[szL],fun _=>by simp[szL]⟩ (fun i a hi ha=> ?_) (fun a ha=> ?_)
  ·obtain⟨ha0,ha1,ha2⟩:=ha;have hsz:=bF hi;have hsz2:=WG l (i+1);have hv:=Aj l[i];have hm2:=Am (jb hi);cases hc:decide (a<=m)with
   |false=> simp only[ZF hi,Da,Ba,hc];have hc:=of_decide_eq_false hc;exact .inr (.inr ⟨_,rfl,_,rfl,ha0,by omega,fun q=>absurd q hc⟩)
   |true=>
    have hc':=Ac hc;have e0:w64 (m - a)=m - a:=by rw[w64,Zz (by omega) (by omega)]
    obtain⟨r,hr,hr0,hr1,hr2⟩:=hS (l[i].list,w64 (m - a)) ⟨by show szL l[i].list<=4194304;omega,by show 0<=w64 (m - a);omega,by show w64 (m - a)<=1000;omega⟩ (by show szL l[i].list<szL l;omega);simp only[e0]at hr2 hr1;have e1:w64 (a+w64 (w64 (w64 (1+(l[i].token.text.length:Int))+(l[i].token.unit.length:Int))+r))=a+(1+l[i].token.text.length+l[i].token.unit.length+r):=by rw[w64,w64,w64,w64,Zz (n:=1+(l[i].token.text.length:Int)) (by omega) (by omega),Zz (n:=1+(l[i].token.text.length:Int)+(l[i].token.unit.length:Int)) (by omega) (by omega),Zz (n:=1+(l[i].token.text.length:Int)+(l[i].token.unit.length:Int)+r) (by omega) (by omega),Zz (by omega) (by omega)]
    simp only[ZF hi,Da,hc,Zo hi,ze,Aa,hr,e1,Zp hi (show l.length<=big by unfold big;omega)];exact .inl ⟨_,rfl,by omega,by omega,fun q=>by have:=ha2 hc';have:=hr2 (by omega);omega⟩
  ·obtain⟨ha0,ha1,ha2⟩:=ha;rw[Yc]at ha1 ha2;simp only[qA,Ba];exact .inl ⟨_,rfl,_,rfl,ha0,ha1,ha2⟩
 obtain⟨r,hr,h0,h1,h2⟩:=this;exact⟨r,hr,h0,h1,h2⟩
abbrev vSp:zb:=⟨⟨13,[],0,[],false⟩,[]⟩
theorem vI: ∀(a b:List zb) (c:Int),shL (a++b) c=(shL a c&&shL b c)
 |[],b,c=>by rw[Pb,shL,Cb]
 |v::a,b,c=>by rw[Sa,shL,shL,vI a b c,af]
theorem zEI{l:Str}{k:Nat}(hl:l.length<=100000):VB (l,(k:Int))=some (encW (Fj k l) k l):=by
 unfold VB;rw[qK (Y7 (dash:=Fj k l) (k:=k) (l:=l) (acc:=[]) hl (by simp) (fun i a hi ha=> ?_) (fun a=> ?_))]
 ·rfl
 ·have d1:decide ((i:Int)<(l.length:Int))=true:=Ga (by omega);have d2:geti l (i:Int)=some l[i]:=Zo hi;have d3:decide ((i:Int)>=(k:Int))=(k - i==0):=by
   by_cases h:k<=i
   ·rw[Ga (by omega),show k - i=0 by omega];rfl
   ·rw[Db (by omega)];symm;rw[Ha];omega
  have d4:((k:Int)==0)=(k==0):=by
   by_cases h:k=0
   ·subst h;rfl
   ·rw[Ha.2 h,Ha];omega
  simp only[d1,Da,d2,d3,d4,ze,Aa,zAA,RI];have hd:(bif k==0 then true else !(l==[45]))= !Fj k l:=by unfold Fj;cases k==0<;>cases l==[45]<;>rfl
  rw[hd];unfold pcW;cases letB l[i]with
  |false=>
   cases k - i==0<;>simp only[zA,Va,Ta,Ic,Ub,ib,Da,Ba,Aa,Xq l[i] (show a.length<=1000000000 by omega),zq]
  |true=> cases k - i==0<;>cases digB l[i]<;>cases Fj k l<;>simp only[zA,Va,Ta,Ic,Ub,ib,Df,Gd,Cb,Jc,Td,Da,Ba,Aa,gz,zF (jh (show a.length+1<=2000000000 by omega)),Xq l[i] (show a.length<=1000000000 by omega),zq]
 ·simp only;rw[Db (by omega),Ba]
theorem YP{l:Str}(hl:l.length<=1000):Tt l=some (if l.isEmpty|| !Zy l then([],8)else(ZB l,0)):=by
 unfold Tt;simp only[ze,Ou];cases l with
 |nil=>rfl
 |cons c r=>
  rw[show((c::r:Str)==[])=false from rfl];simp only[zA,Ta,Da,Ba,Aa,dE];rw[show(c::r:Str).isEmpty=false from rfl,Jc];cases Zy (c::r)with
  |false=>rfl
  |true=>
   rw[Va,Ba,Mw];simp only[Aa,zEI (show(c::r:Str).length<=100000 by omega)];have hd:Fj (ng (c::r)) (c::r)=((c::r:Str)==[45]):=by unfold Fj ng;split<;>rfl
   rw[hd];have:=Gt ((c::r:Str)==[45]) (ng (c::r)) (c::r);rw[Db (by omega),Ba,Db (by omega),Ba];rfl
def okT(x:List zg):Prop:= ∀t∈x,t.text.length<=5000/\t.unit.length<=5000
structure OkD (d:zD):Prop where
 v:szL d.value<=big
 n:d.name.length<=big
 t:okT (tokL d.value)
theorem zKn{x:List zg}(hg:gluS x=0)(h:okT x):Il x:=by obtain⟨_,h1,h2⟩:=NS hg;exact⟨fun t ht=>⟨h1 t ht,h t ht⟩,h2⟩
theorem zKB{v:List zb}(hv:szL v<=big)(h:errS v=0)(hg:gluS (tokL v)=0)(ht:okT (tokL v)):SA v=some (if 4000<(wrS (tokL v)).length then([],28)else(wrS (tokL v),0)):=by unfold SA;simp only[ze,ut hv,h,Aa];rw[show((0:Int) != 0)=false from rfl,Ba,VR hv,Aa,zDl ht,Ka hg,Aa]
abbrev impT:Str:=[32,33,105,109,112,111,114,116,97,110,116]
def wrD(d:zD):Str:=ZB d.name++([58,32]:Str)++wrS (tokL d.value)++(bif d.important then impT else [])
def Uo(d:zD):Str×Int:=if Dg d=true then(if 4000<(wrD d).length then([],28)else(wrD d,0))else([],8)
structure zKL (d:zD):Prop where
 name:Sm d.name=true
 err:errS d.value=0
 glu:gluS (tokL d.value)=0
 body:Xu (List.isPrefixOf [45,45] d.name) d.value=true
theorem pu{d:zD}(h:Dg d=true):zKL d:=by unfold Dg at h;simp only[Ca,Bb]at h;exact⟨h.1,h.2.1,h.2.2.1,h.2.2.2.2⟩
theorem nO{x:Str}(h:Sm x=true):x≠[]/\x.length<=64/\Zy x=true/\(bif List.isPrefixOf [45,45] x then !(x==[45,45])else lowS x==x)=true:=by unfold Sm at h;simp only[Ca,Lc,Ha,Ab]at h;exact⟨h.1,h.2.1,h.2.2.1,h.2.2.2⟩
theorem BL(l:Str):(ZB l).length<=4*l.length:=Gt _ _ l
theorem zsU{d:zD}(h:OkD d):xA d=some (Uo d):=by
 have hbig:big=4194304:=rfl;unfold xA Uo;rw[lM h.v h.n];simp only[ze,Aa];cases hd:Dg d with
 |false=>rw[Ba,Ia (by decide)];rfl
 |true=>
  obtain⟨h1,h2,h3,_⟩:=pu hd;obtain⟨n1,n2,n3,_⟩:=nO h1;have hne:d.name.isEmpty=false:=by cases hx:d.name with|nil=>exact absurd hx n1|cons a b=>rfl
  have hl:=BL d.name;rw[Da,Ka rfl,show((0:Int) != 0)=false from rfl,Ba,YP (by omega),hne,n3];simp only[Va,Nf,Cc,De,Aa,show((0:Int) != 0)=false from rfl,Ba,zKB h.v h2 h3 h.t];by_cases hw:4000<(wrS (tokL d.value)).length
  ·have:4000<(wrD d).length:=by unfold wrD;rw[Ja,Ja];omega
   rw[Ka hw,Ka this];rfl
  ·rw[Ia hw];have c1:Ig (ZB d.name).length ([58,32]:Str).length=true:=Co.2 (by simp only[Fa,Eb];omega);have c2:Ig (ZB d.name++([58,32]:Str)).length (wrS (tokL d.value)).length=true:=Co.2 (by simp only[Ja,Fa,Eb];omega);have c3:Ig (ZB d.name++([58,32]:Str)++wrS (tokL d.value)).length impT.length=true:=Co.2 (by simp only[Ja,Fa,Eb];omega);simp only[show((0:Int) != 0)=false from rfl,Ba,c1,c2,c3,zK];have hg: ∀n:Nat,decide ((n:Int)>4000)=decide (4000<n):=fun n=>by rw[og];omega
   unfold wrD;cases d.important with
   |true=>
    simp only[Da,zq,hg];by_cases q:4000<(ZB d.name++([58,32]:Str)++wrS (tokL d.value)++impT).length
    ·rw[Ga q,Ka q];rfl
    ·rw[Db q,Ia q];rfl
   |false=>
    simp only[Ba,zq,hg,Xa];by_cases q:4000<(ZB d.name++([58,32]:Str)++wrS (tokL d.value)).length
    ·rw[Ga q,Ka q];rfl
    ·rw[Db q,Ia q];rfl
end Go.Lv.VT
