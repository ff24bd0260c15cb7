/- Cleaning: what the reference's text computes is what the program's does; the reference's tokens of a text. -/
import Derived.Test.YtkecjfeffabgiaaGreatDoorXh
import Derived.Test.YtkecjfeffabgiaaGreatDoorXe
import Derived.Test.YtkecjfeffabgiaaGreatDoorXc
import Derived.Test.YtkecjfeffabgiaaGreatDoorXb
import Derived.Test.YtkecjfeffabgiaaGreatDoorTx
import Derived.Test.YtkecjfeffabgiaaGreatDoorMo
import Derived.Test.YtkecjfeffabgiaaGreatDoorXg
import Derived.Test.YtkecjfeffabgiaaGreatDoorXa
set_option linter.unusedSimpArgs false
set_option linter.unusedVariables false
namespace Go.Lv.VT
set_option maxRecDepth 100000
theorem size_le{l:List ze}{m:Nat}(h:szL l<=big)(hm:m<=1000): ∃r:Int,qR (l,(m:Int))=some r/\0<=r/\r<=szL l/\(r<=m->r=szL l):=by
 have: ∃r,qR (l,(m:Int))=some r/\(0<=r/\r<=(szL l:Int)/\(r<=(m:Int)->r=(szL l:Int))):=by
  refine Rv vZ (fun x=>szL x.1) (fun x=>szL x.1<=big/\0<=x.2/\x.2<=1000) (fun x r=>0<=r/\r<=(szL x.1:Int)/\(r<=x.2->r=(szL x.1:Int))) (fun S x hx hS=> ?_) (x:=(l,(m:Int))) ⟨h,by omega,by omega⟩;obtain⟨l,m⟩:=x;obtain⟨hx,hm0,hm1⟩:=hx;simp only at hx hm0 hm1;have hlen:=Dh l;unfold big at hx;unfold Ho;refine jv (A:=Int) l.length (fun i a=>(a,(i:Int))) (fun i a=>0<=a/\a<=(szL (l.take i):Int)/\(a<=m->a=(szL (l.take i):Int))) _ (a0:=0) rfl ⟨by omega,by simp[szL],fun _=>by simp[szL]⟩ (fun i a hi ha=> ?_) (fun a ha=> ?_)
  ·obtain⟨ha0,ha1,ha2⟩:=ha;have hsz:=Pv hi;have hsz2:=jw l (i+1);have hv:=Xh l[i];have hm2:=Yi (Ib hi);cases hc:decide (a<=m)with
   |false=> simp only[ZK hi,Ia,Ea,hc];have hc:=Ag hc;exact .inr (.inr ⟨_,rfl,_,rfl,ha0,by omega,fun q=>absurd q hc⟩)
   |true=>
    have hc':=Bb hc;have e0:w64 (m - a)=m - a:=by rw[w64,ZG (by omega) (by omega)]
    obtain⟨r,hr,hr0,hr1,hr2⟩:=hS (l[i].list,w64 (m - a)) ⟨by show szL l[i].list<=4194304;omega,by show 0<=w64 (m - a);omega,by show w64 (m - a)<=1000;omega⟩ (by show szL l[i].list<szL l;omega);simp only[e0]at hr2 hr1;have e1:w64 (a+w64 (w64 (w64 (1+(l[i].token.text.length:Int))+(l[i].token.unit.length:Int))+r))=a+(1+l[i].token.text.length+l[i].token.unit.length+r):=by rw[w64,w64,w64,w64,ZG (n:=1+(l[i].token.text.length:Int)) (by omega) (by omega),ZG (n:=1+(l[i].token.text.length:Int)+(l[i].token.unit.length:Int)) (by omega) (by omega),ZG (n:=1+(l[i].token.text.length:Int)+(l[i].token.unit.length:Int)+r) (by omega) (by omega),ZG (by omega) (by omega)]
    simp only[ZK hi,Ia,hc,ZT hi,zb,Ba,hr,e1,Zo hi (show l.length<=big by unfold big;omega)];exact .inl ⟨_,rfl,by omega,by omega,fun q=>by have:=ha2 hc';have:=hr2 (by omega);omega⟩
  ·obtain⟨ha0,ha1,ha2⟩:=ha;rw[Md]at ha1 ha2;simp only[QY,Ea];exact .inl ⟨_,rfl,_,rfl,ha0,ha1,ha2⟩
 obtain⟨r,hr,h0,h1,h2⟩:=this;exact⟨r,hr,h0,h1,h2⟩
theorem sG: ∀(a b:List ze) (c:Int),shL (a++b) c=(shL a c&&shL b c)
 |[],b,c=>by rw[Rc,shL,Ya]
 |v::a,b,c=>by rw[Dc,shL,shL,sG a b c,Je]
def okT(x:List zk):Prop:= ∀t∈x,t.text.length<=5000/\t.unit.length<=5000
structure OkD (d:zA):Prop where
 v:szL d.value<=big
 n:d.name.length<=big
 t:okT (tokL d.value)
structure zz7 (d:zA):Prop where
 name:Bl d.name=true
 err:errS d.value=0
 glu:gluS (tokL d.value)=0
 body:Fu (List.isPrefixOf [45,45] d.name) d.value=true
structure zz9 (v:List ze):Prop where
 r:NP (tokL v)
 h:Wl v
 e:uy v
structure Shp (v:List ze):Prop where
 s:shL v 0=true
 d:Te v<=16
theorem mU(a b:List ze):Te (a++b)=max (Te a) (Te b):=by
 induction a with
 |nil=>rw[Rc,Te];omega
 |cons v a ih=>rw[Dc,Te,Te,ih];omega
theorem Shp.app{a b:List ze}(ha:Shp a)(hb:Shp b):Shp (a++b):=⟨by rw[sG,ha.s,hb.s];rfl,by rw[mU];have:=ha.d;have:=hb.d;omega⟩
structure SzD (d:zA):Prop where
 v:szL d.value<=big
 n:d.name.length<=big
theorem jO{l:List zA}(h: ∀d∈l,SzD d)(hlen:l.length<=big): ∃g,Jr l=some g/\(g=false->l.length<=40/\ ∀d∈l,d.name.length+szL d.value<=300):=by
 have hbig:big=4194304:=rfl;unfold Jr;by_cases h40:40<l.length
 ·rw[Va (by omega),Ia];exact⟨true,rfl,fun e=>by cases e⟩
 ·rw[Xb (by omega),Ea];refine wU (fun s=> ∃(i n:Nat),s=((n:Int),(i:Int))/\i<=l.length/\n<=300/\ ∀d∈l.take i,d.name.length+szL d.value<=300) (fun s=>l.length - s.2.toNat) (fun g=>g=false->l.length<=40/\ ∀d∈l,d.name.length+szL d.value<=300) ?_ ⟨0,0,rfl,by omega,by omega,(fun d hd=>by cases hd)⟩;rintro _ ⟨i,n,rfl,hi,hn,hlt⟩;simp only[zb];rcases ve i l.length with hh|hh
  ·obtain⟨hv,hnm⟩:=h _ (Ib hh);obtain⟨r,hr,r0,r1,r2⟩:=size_le (m:=300) hv (by omega);replace hr:qR (l[i].value,300)=some r:=hr;obtain⟨k,rfl⟩: ∃k:Nat,r=(k:Int):=⟨r.toNat,by omega⟩;have e2:w64 ((n:Int)+w64 ((l[i].name.length:Int)+(k:Int)))=((n+(l[i].name.length+k):Nat):Int):=by rw[Ru (n:=(l[i].name.length:Int)+(k:Int)) (by omega) (by omega),Ru (by omega) (by omega)];omega
   simp only[ZK hh,Ia,ZT hh,Ba,hr,e2];by_cases hb:n+(l[i].name.length+k)>300
   ·rw[Va (show((n+(l[i].name.length+k):Nat):Int)>300 by omega)];simp only[Jb,qY,Ba,Ia];exact .inr (.inr ⟨true,rfl,fun e=>by cases e⟩)
   ·rw[Xb (show¬((n+(l[i].name.length+k):Nat):Int)>300 by omega)];simp only[Ab,ZN,Ba,Ea,vQ hv];cases hd:decide ((Te l[i].value:Int)>40)with
    |true=>exact .inr (.inr ⟨true,rfl,fun e=>by cases e⟩)
    |false=>
     refine .inl ⟨_,rfl,⟨i+1,n+(l[i].name.length+k),by rw[Ru (by omega) (by omega)];rfl,by omega,by omega,?_⟩,by simp only;rw[Ru (by omega) (by omega)];omega⟩;rw[Vb hh];intro d hd;rcases Tc.1 hd with hd|hd
     ·exact hlt d hd
     ·rw[Pb]at hd;subst hd;omega
  ·have:i=l.length:=by omega
   subst this;simp only[QY,Ea];rw[Md]at hlt;exact .inr (.inl ⟨(),false,(by first|rfl|trivial),rfl,fun _=>⟨by omega,hlt⟩⟩)
theorem jZ{c:zg}(h:zF (zo c)<=big): ∃g,Q0 c=some g/\(g=false-> ∀d∈Zn c,d.name.length+szL d.value<=300):=by
 refine Rv U2 (fun c=>zF (zo c)) (fun c=>zF (zo c)<=big) (fun c g=>g=false-> ∀d∈Zn c,d.name.length+szL d.value<=300) (fun S c hc hS=> ?_) h;have hd:=fu (Ob (rC c) hc);obtain⟨g,hg,hg2⟩:=jO (l:=[c.decl]) (fun d hd'=>by rw[Pb.1 hd'];exact⟨hd.1,hd.2⟩) (by show 1<=big;decide);have hlen:=Q8 c;unfold Co;rw[hg];simp only[zb,Ba];cases hb:(bif g then true else decide ((c.name.length:Int)>200))with
 |true=>exact⟨true,rfl,fun e=>by cases e⟩
 |false=>
  have hg0:g=false:=by cases g with|false=>rfl|true=>cases hb
  have hsm:=(hg2 hg0).2 c.decl (List.mem_singleton_self _);simp only[Ea];refine jv c.list.length (fun i (_:Unit)=>(i:Int)) (fun i _=> ∀y∈c.list.take i,∀d∈Zn y,d.name.length+szL d.value<=300) _ (a0:=()) rfl (fun y hy=>by cases hy) (fun i _ hi hI=> ?_) (fun _ hI=> ?_)
  ·have hm:=Ib hi;obtain⟨r,hr,hr2⟩:=hS c.list[i] (by have:=Z5 hm;omega) (Z5 hm);simp only[ZK hi,Ia,ZT hi,Ba,qA,hr];cases r with
   |true=>exact .inr (.inl ⟨true,rfl,fun e=>by cases e⟩)
   |false=>
    refine .inl ⟨(),?_,fun y hy=> ?_⟩
    ·simp only[Ea,Zo hi (show c.list.length<=big by omega)]
    ·rw[Vb hi]at hy;rcases Tc.1 hy with hy|hy
     ·exact hI y hy
     ·rw[Pb.1 hy];exact hr2 rfl
  ·simp only[QY,Ea];refine .inl ⟨(),(by first|rfl|trivial),false,rfl,fun _ d hd=> ?_⟩;rw[Md]at hI;rw[Yg]at hd;cases h7:c.kind==7 with
   |true=>rw[h7,Ia]at hd;rw[Pb.1 hd];exact hsm
   |false=> rw[h7,Ea]at hd;obtain⟨y,hy,hd⟩:=Wd.1 hd;exact hI y hy d hd
structure SmC (c:zg):Prop where
 n:sizC c<=100
 d: ∀d∈Zn c,d.name.length+szL d.value<=300
theorem AZ{c:zg}(h:zF (zo c)<=big): ∃g,Ir c=some g/\(g=false->SmC c):=by
 obtain⟨r,hr,_,_,h2⟩:=kZ h (m:=100) (by decide);obtain⟨g,hg,hg2⟩:=jZ h;have hr:qU (c,100)=some (r:Int):=hr;unfold Ir;simp only[qA,hr,hg,zb,Ba];by_cases hq:r>100
 ·rw[Va (by omega)];exact⟨true,rfl,fun e=>by cases e⟩
 ·rw[Xb (by omega)];exact⟨g,rfl,fun e=>⟨by by_cases hs:sizC c<=100;exact hs;have:=h2 (by omega);omega,hg2 e⟩⟩
end Go.Lv.VT
