/- Cleaning: what the reference's text computes is what the program's does; the reference's tokens of a text. -/
import Derived.Test.YtkecjfeffabgiaaGreatDoorXh
import Derived.Test.YtkecjfeffabgiaaGreatDoorXe
import Derived.Test.YtkecjfeffabgiaaGreatDoorXc
import Derived.Test.YtkecjfeffabgiaaGreatDoorXb
import Derived.Test.YtkecjfeffabgiaaGreatDoorTx
import Derived.Test.YtkecjfeffabgiaaGreatDoorMo
import Derived.Test.YtkecjfeffabgiaaGreatDoorXg
import Derived.Test.YtkecjfeffabgiaaGreatDoorXa
set_option linter.unusedSimpArgs false
set_option linter.unusedVariables false
namespace Go.Lv.VT
set_option maxRecDepth 100000
theorem size_le{l:List ze}{m:Nat}(h:szL l<=big)(hm:m<=1000): ∃r:Int,Ql (l,(m:Int))=some r/\0<=r/\r<=szL l/\(r<=m->r=szL l):=by
 have: ∃r,Ql (l,(m:Int))=some r/\(0<=r/\r<=(szL l:Int)/\(r<=(m:Int)->r=(szL l:Int))):=by
  refine Ux H5 (fun x=>szL x.1) (fun x=>szL x.1<=big/\0<=x.2/\x.2<=1000) (fun x r=>0<=r/\r<=(szL x.1:Int)/\(r<=x.2->r=(szL x.1:Int))) (fun S x hx hS=> ?_) (x:=(l,(m:Int))) ⟨h,by omega,by omega⟩;obtain⟨l,m⟩:=x;obtain⟨hx,hm0,hm1⟩:=hx;simp only at hx hm0 hm1;have hlen:=Jg l;unfold big at hx;unfold Xp;refine ax (A:=Int) l.length (fun i a=>(a,(i:Int))) (fun i a=>0<=a/\a<=(szL (l.take i):Int)/\(a<=m->a=(szL (l.take i):Int))) _ (a0:=0) rfl ⟨by omega,by simp[szL],fun _=>by simp[szL]⟩ (fun i a hi ha=> ?_) (fun a ha=> ?_)
  ·obtain⟨ha0,ha1,ha2⟩:=ha;have hsz:=mr hi;have hsz2:=yt l (i+1);have hv:=xg l[i];have hm2:=Uh (Fb hi);cases hc:decide (a<=m)with
   |false=> simp only[Zw hi,Ea,Da,hc];have hc:=of_decide_eq_false hc;exact .inr (.inr ⟨_,rfl,_,rfl,ha0,by omega,fun q=>absurd q hc⟩)
   |true=>
    have hc':=Db hc;have e0:w64 (m - a)=m - a:=by rw[w64,Zo (by omega) (by omega)]
    obtain⟨r,hr,hr0,hr1,hr2⟩:=hS (l[i].list,w64 (m - a)) ⟨by show szL l[i].list<=4194304;omega,by show 0<=w64 (m - a);omega,by show w64 (m - a)<=1000;omega⟩ (by show szL l[i].list<szL l;omega);simp only[e0]at hr2 hr1;have e1:w64 (a+w64 (w64 (w64 (1+(l[i].token.text.length:Int))+(l[i].token.unit.length:Int))+r))=a+(1+l[i].token.text.length+l[i].token.unit.length+r):=by rw[w64,w64,w64,w64,Zo (n:=1+(l[i].token.text.length:Int)) (by omega) (by omega),Zo (n:=1+(l[i].token.text.length:Int)+(l[i].token.unit.length:Int)) (by omega) (by omega),Zo (n:=1+(l[i].token.text.length:Int)+(l[i].token.unit.length:Int)+r) (by omega) (by omega),Zo (by omega) (by omega)]
    simp only[Zw hi,Ea,hc,ZF hi,zb,Aa,hr,e1,Zh hi (show l.length<=big by unfold big;omega)];exact .inl ⟨_,rfl,by omega,by omega,fun q=>by have:=ha2 hc';have:=hr2 (by omega);omega⟩
  ·obtain⟨ha0,ha1,ha2⟩:=ha;rw[jc]at ha1 ha2;simp only[af,Da];exact .inl ⟨_,rfl,_,rfl,ha0,ha1,ha2⟩
 obtain⟨r,hr,h0,h1,h2⟩:=this;exact⟨r,hr,h0,h1,h2⟩
theorem WI: ∀(a b:List ze) (c:Int),shL (a++b) c=(shL a c&&shL b c)
 |[],b,c=>by rw[Uc,shL,aa]
 |v::a,b,c=>by rw[Dc,shL,shL,WI a b c,Te]
def okT(x:List zf):Prop:= ∀t∈x,t.text.length<=5000/\t.unit.length<=5000
structure OkD (d:zB):Prop where
 v:szL d.value<=big
 n:d.name.length<=big
 t:okT (tokL d.value)
structure zC5 (d:zB):Prop where
 name:vg d.name=true
 err:errS d.value=0
 glu:gluS (tokL d.value)=0
 body:Jk (List.isPrefixOf [45,45] d.name) d.value=true
structure zC7 (v:List ze):Prop where
 r:zCI (tokL v)
 h:Pn v
 e:BI v
structure Shp (v:List ze):Prop where
 s:shL v 0=true
 d:Xe v<=16
theorem eU(a b:List ze):Xe (a++b)=max (Xe a) (Xe b):=by
 induction a with
 |nil=>rw[Uc,Xe];omega
 |cons v a ih=>rw[Dc,Xe,Xe,ih];omega
theorem Shp.app{a b:List ze}(ha:Shp a)(hb:Shp b):Shp (a++b):=⟨by rw[WI,ha.s,hb.s];rfl,by rw[eU];have:=ha.d;have:=hb.d;omega⟩
structure SzD (d:zB):Prop where
 v:szL d.value<=big
 n:d.name.length<=big
theorem zCl{l:List zB}(h: ∀d∈l,SzD d)(hlen:l.length<=big): ∃g,Du l=some g/\(g=false->l.length<=40/\ ∀d∈l,d.name.length+szL d.value<=300):=by
 have hbig:big=4194304:=rfl;unfold Du;by_cases h40:40<l.length
 ·rw[Ta (by omega),Ea];exact⟨true,rfl,fun e=>by cases e⟩
 ·rw[Eb (by omega),Da];refine YV (fun s=> ∃(i n:Nat),s=((n:Int),(i:Int))/\i<=l.length/\n<=300/\ ∀d∈l.take i,d.name.length+szL d.value<=300) (fun s=>l.length - s.2.toNat) (fun g=>g=false->l.length<=40/\ ∀d∈l,d.name.length+szL d.value<=300) ?_ ⟨0,0,rfl,by omega,by omega,(fun d hd=>by cases hd)⟩;rintro _ ⟨i,n,rfl,hi,hn,hlt⟩;simp only[zb];rcases Fe i l.length with hh|hh
  ·obtain⟨hv,hnm⟩:=h _ (Fb hh);obtain⟨r,hr,r0,r1,r2⟩:=size_le (m:=300) hv (by omega);replace hr:Ql (l[i].value,300)=some r:=hr;obtain⟨k,rfl⟩: ∃k:Nat,r=(k:Int):=⟨r.toNat,by omega⟩;have e2:w64 ((n:Int)+w64 ((l[i].name.length:Int)+(k:Int)))=((n+(l[i].name.length+k):Nat):Int):=by rw[kv (n:=(l[i].name.length:Int)+(k:Int)) (by omega) (by omega),kv (by omega) (by omega)];omega
   simp only[Zw hh,Ea,ZF hh,Aa,hr,e2];by_cases hb:n+(l[i].name.length+k)>300
   ·rw[Ta (show((n+(l[i].name.length+k):Nat):Int)>300 by omega)];simp only[ja,Zi,Aa,Ea];exact .inr (.inr ⟨true,rfl,fun e=>by cases e⟩)
   ·rw[Eb (show¬((n+(l[i].name.length+k):Nat):Int)>300 by omega)];simp only[Ua,zU,Aa,Da,GD hv];cases hd:decide ((Xe l[i].value:Int)>40)with
    |true=>exact .inr (.inr ⟨true,rfl,fun e=>by cases e⟩)
    |false=>
     refine .inl ⟨_,rfl,⟨i+1,n+(l[i].name.length+k),by rw[kv (by omega) (by omega)];rfl,by omega,by omega,?_⟩,by simp only;rw[kv (by omega) (by omega)];omega⟩;rw[Mc hh];intro d hd;rcases Xc.1 hd with hd|hd
     ·exact hlt d hd
     ·rw[Yb]at hd;subst hd;omega
  ·have:i=l.length:=by omega
   subst this;simp only[af,Da];rw[jc]at hlt;exact .inr (.inl ⟨(),false,(by first|rfl|trivial),rfl,fun _=>⟨by omega,hlt⟩⟩)
theorem K3{c:zh}(h:zC (zq c)<=big): ∃g,jh c=some g/\(g=false-> ∀d∈Zc c,d.name.length+szL d.value<=300):=by
 refine Ux E5 (fun c=>zC (zq c)) (fun c=>zC (zq c)<=big) (fun c g=>g=false-> ∀d∈Zc c,d.name.length+szL d.value<=300) (fun S c hc hS=> ?_) h;have hd:=Ho (Lb (ky c) hc);obtain⟨g,hg,hg2⟩:=zCl (l:=[c.decl]) (fun d hd'=>by rw[Yb.1 hd'];exact⟨hd.1,hd.2⟩) (by show 1<=big;decide);have hlen:=Yi c;unfold Vp;rw[hg];simp only[zb,Aa];cases hb:(bif g then true else decide ((c.name.length:Int)>200))with
 |true=>exact⟨true,rfl,fun e=>by cases e⟩
 |false=>
  have hg0:g=false:=by cases g with|false=>rfl|true=>cases hb
  have hsm:=(hg2 hg0).2 c.decl (List.mem_singleton_self _);simp only[Da];refine ax c.list.length (fun i (_:Unit)=>(i:Int)) (fun i _=> ∀y∈c.list.take i,∀d∈Zc y,d.name.length+szL d.value<=300) _ (a0:=()) rfl (fun y hy=>by cases hy) (fun i _ hi hI=> ?_) (fun _ hI=> ?_)
  ·have hm:=Fb hi;obtain⟨r,hr,hr2⟩:=hS c.list[i] (by have:=Qc hm;omega) (Qc hm);simp only[Zw hi,Ea,ZF hi,Aa,qO,hr];cases r with
   |true=>exact .inr (.inl ⟨true,rfl,fun e=>by cases e⟩)
   |false=>
    refine .inl ⟨(),?_,fun y hy=> ?_⟩
    ·simp only[Da,Zh hi (show c.list.length<=big by omega)]
    ·rw[Mc hi]at hy;rcases Xc.1 hy with hy|hy
     ·exact hI y hy
     ·rw[Yb.1 hy];exact hr2 rfl
  ·simp only[af,Da];refine .inl ⟨(),(by first|rfl|trivial),false,rfl,fun _ d hd=> ?_⟩;rw[jc]at hI;rw[Og]at hd;cases h7:c.kind==7 with
   |true=>rw[h7,Ea]at hd;rw[Yb.1 hd];exact hsm
   |false=> rw[h7,Da]at hd;obtain⟨y,hy,hd⟩:=Wd.1 hd;exact hI y hy d hd
structure SmC (c:zh):Prop where
 n:sizC c<=100
 d: ∀d∈Zc c,d.name.length+szL d.value<=300
theorem XP{c:zh}(h:zC (zq c)<=big): ∃g,Bp c=some g/\(g=false->SmC c):=by
 obtain⟨r,hr,_,_,h2⟩:=sO h (m:=100) (by decide);obtain⟨g,hg,hg2⟩:=K3 h;have hr:qj (c,100)=some (r:Int):=hr;unfold Bp;simp only[qO,hr,hg,zb,Aa];by_cases hq:r>100
 ·rw[Ta (by omega)];exact⟨true,rfl,fun e=>by cases e⟩
 ·rw[Eb (by omega)];exact⟨g,rfl,fun e=>⟨by by_cases hs:sizC c<=100;exact hs;have:=h2 (by omega);omega,hg2 e⟩⟩
theorem aK(l:List Bool):l.length<=zC [.sl (l.map fun z=>[.at (.bool z)])]:=by have:=bA (f:=fun z:Bool=>[PV.at (.bool z)]) (fun v=>by simp only[zC,bPV];omega) l;simp only[zC,bPV];unfold zL at this;omega
end Go.Lv.VT
