/- Cleaning: what the reference's text computes is what the program's does; the reference's tokens of a text. -/
import Derived.Test.YtkecjfeffabgiaaGreatDoorXh
import Derived.Test.YtkecjfeffabgiaaGreatDoorXe
import Derived.Test.YtkecjfeffabgiaaGreatDoorXc
import Derived.Test.YtkecjfeffabgiaaGreatDoorXb
import Derived.Test.YtkecjfeffabgiaaGreatDoorTx
import Derived.Test.YtkecjfeffabgiaaGreatDoorMo
import Derived.Test.YtkecjfeffabgiaaGreatDoorXg
import Derived.Test.YtkecjfeffabgiaaGreatDoorXa
set_option linter.unusedSimpArgs false
set_option linter.unusedVariables false
namespace Go.Lv.VT
set_option maxRecDepth 100000
theorem size_le{l:List ze}{m:Nat}(h:szL l<=big)(hm:m<=1000): ∃r:Int,Qi (l,(m:Int))=some r/\0<=r/\r<=szL l/\(r<=m->r=szL l):=by
 have: ∃r,Qi (l,(m:Int))=some r/\(0<=r/\r<=(szL l:Int)/\(r<=(m:Int)->r=(szL l:Int))):=by
  refine Px H5 (fun x=>szL x.1) (fun x=>szL x.1<=big/\0<=x.2/\x.2<=1000) (fun x r=>0<=r/\r<=(szL x.1:Int)/\(r<=x.2->r=(szL x.1:Int))) (fun S x hx hS=> ?_) (x:=(l,(m:Int))) ⟨h,by omega,by omega⟩;obtain⟨l,m⟩:=x;obtain⟨hx,hm0,hm1⟩:=hx;simp only at hx hm0 hm1;have hlen:=Eg l;unfold big at hx;unfold Xp;refine Wx (A:=Int) l.length (fun i a=>(a,(i:Int))) (fun i a=>0<=a/\a<=(szL (l.take i):Int)/\(a<=m->a=(szL (l.take i):Int))) _ (a0:=0) rfl ⟨by omega,by simp[szL],fun _=>by simp[szL]⟩ (fun i a hi ha=> ?_) (fun a ha=> ?_)
  ·obtain⟨ha0,ha1,ha2⟩:=ha;have hsz:=mr hi;have hsz2:=ut l (i+1);have hv:=ag l[i];have hm2:=Dh (ja hi);cases hc:decide (a<=m)with
   |false=> simp only[Zl hi,Ea,Da,hc];have hc:=of_decide_eq_false hc;exact .inr (.inr ⟨_,rfl,_,rfl,ha0,by omega,fun q=>absurd q hc⟩)
   |true=>
    have hc':=Eb hc;have e0:w64 (m - a)=m - a:=by rw[w64,Zp (by omega) (by omega)]
    obtain⟨r,hr,hr0,hr1,hr2⟩:=hS (l[i].list,w64 (m - a)) ⟨by show szL l[i].list<=4194304;omega,by show 0<=w64 (m - a);omega,by show w64 (m - a)<=1000;omega⟩ (by show szL l[i].list<szL l;omega);simp only[e0]at hr2 hr1;have e1:w64 (a+w64 (w64 (w64 (1+(l[i].token.text.length:Int))+(l[i].token.unit.length:Int))+r))=a+(1+l[i].token.text.length+l[i].token.unit.length+r):=by rw[w64,w64,w64,w64,Zp (n:=1+(l[i].token.text.length:Int)) (by omega) (by omega),Zp (n:=1+(l[i].token.text.length:Int)+(l[i].token.unit.length:Int)) (by omega) (by omega),Zp (n:=1+(l[i].token.text.length:Int)+(l[i].token.unit.length:Int)+r) (by omega) (by omega),Zp (by omega) (by omega)]
    simp only[Zl hi,Ea,hc,Zo hi,zb,Ba,hr,e1,Zb hi (show l.length<=big by unfold big;omega)];exact .inl ⟨_,rfl,by omega,by omega,fun q=>by have:=ha2 hc';have:=hr2 (by omega);omega⟩
  ·obtain⟨ha0,ha1,ha2⟩:=ha;rw[Od]at ha1 ha2;simp only[Qc,Da];exact .inl ⟨_,rfl,_,rfl,ha0,ha1,ha2⟩
 obtain⟨r,hr,h0,h1,h2⟩:=this;exact⟨r,hr,h0,h1,h2⟩
theorem jI: ∀(a b:List ze) (c:Int),shL (a++b) c=(shL a c&&shL b c)
 |[],b,c=>by rw[Uc,shL,aa]
 |v::a,b,c=>by rw[Dc,shL,shL,jI a b c,Pe]
def okT(x:List zf):Prop:= ∀t∈x,t.text.length<=5000/\t.unit.length<=5000
structure OkD (d:zA):Prop where
 v:szL d.value<=big
 n:d.name.length<=big
 t:okT (tokL d.value)
structure zDc (d:zA):Prop where
 name:xg d.name=true
 err:errS d.value=0
 glu:gluS (tokL d.value)=0
 body:Ck (List.isPrefixOf [45,45] d.name) d.value=true
structure zDe (v:List ze):Prop where
 r:zCO (tokL v)
 h:Kn v
 e:KI v
structure Shp (v:List ze):Prop where
 s:shL v 0=true
 d:Ve v<=16
theorem IV(a b:List ze):Ve (a++b)=max (Ve a) (Ve b):=by
 induction a with
 |nil=>rw[Uc,Ve];omega
 |cons v a ih=>rw[Dc,Ve,Ve,ih];omega
theorem Shp.app{a b:List ze}(ha:Shp a)(hb:Shp b):Shp (a++b):=⟨by rw[jI,ha.s,hb.s];rfl,by rw[IV];have:=ha.d;have:=hb.d;omega⟩
structure SzD (d:zA):Prop where
 v:szL d.value<=big
 n:d.name.length<=big
theorem zCs{l:List zA}(h: ∀d∈l,SzD d)(hlen:l.length<=big): ∃g,Eu l=some g/\(g=false->l.length<=40/\ ∀d∈l,d.name.length+szL d.value<=300):=by
 have hbig:big=4194304:=rfl;unfold Eu;by_cases h40:40<l.length
 ·rw[Xa (by omega),Ea];exact⟨true,rfl,fun e=>by cases e⟩
 ·rw[Fb (by omega),Da];refine FW (fun s=> ∃(i n:Nat),s=((n:Int),(i:Int))/\i<=l.length/\n<=300/\ ∀d∈l.take i,d.name.length+szL d.value<=300) (fun s=>l.length - s.2.toNat) (fun g=>g=false->l.length<=40/\ ∀d∈l,d.name.length+szL d.value<=300) ?_ ⟨0,0,rfl,by omega,by omega,(fun d hd=>by cases hd)⟩;rintro _ ⟨i,n,rfl,hi,hn,hlt⟩;simp only[zb];rcases Ce i l.length with hh|hh
  ·obtain⟨hv,hnm⟩:=h _ (ja hh);obtain⟨r,hr,r0,r1,r2⟩:=size_le (m:=300) hv (by omega);replace hr:Qi (l[i].value,300)=some r:=hr;obtain⟨k,rfl⟩: ∃k:Nat,r=(k:Int):=⟨r.toNat,by omega⟩;have e2:w64 ((n:Int)+w64 ((l[i].name.length:Int)+(k:Int)))=((n+(l[i].name.length+k):Nat):Int):=by rw[kv (n:=(l[i].name.length:Int)+(k:Int)) (by omega) (by omega),kv (by omega) (by omega)];omega
   simp only[Zl hh,Ea,Zo hh,Ba,hr,e2];by_cases hb:n+(l[i].name.length+k)>300
   ·rw[Xa (show((n+(l[i].name.length+k):Nat):Int)>300 by omega)];simp only[Ab,Zy,Ba,Ea];exact .inr (.inr ⟨true,rfl,fun e=>by cases e⟩)
   ·rw[Fb (show¬((n+(l[i].name.length+k):Nat):Int)>300 by omega)];simp only[Ya,zY,Ba,Da,wC hv];cases hd:decide ((Ve l[i].value:Int)>40)with
    |true=>exact .inr (.inr ⟨true,rfl,fun e=>by cases e⟩)
    |false=>
     refine .inl ⟨_,rfl,⟨i+1,n+(l[i].name.length+k),by rw[kv (by omega) (by omega)];rfl,by omega,by omega,?_⟩,by simp only;rw[kv (by omega) (by omega)];omega⟩;rw[Mc hh];intro d hd;rcases Xc.1 hd with hd|hd
     ·exact hlt d hd
     ·rw[Yb]at hd;subst hd;omega
  ·have:i=l.length:=by omega
   subst this;simp only[Qc,Da];rw[Od]at hlt;exact .inr (.inl ⟨(),false,(by first|rfl|trivial),rfl,fun _=>⟨by omega,hlt⟩⟩)
theorem J3{c:zh}(h:zJ (zq c)<=big): ∃g,Xh c=some g/\(g=false-> ∀d∈Zh c,d.name.length+szL d.value<=300):=by
 refine Px E5 (fun c=>zJ (zq c)) (fun c=>zJ (zq c)<=big) (fun c g=>g=false-> ∀d∈Zh c,d.name.length+szL d.value<=300) (fun S c hc hS=> ?_) h;have hd:=Co (Jb (jy c) hc);obtain⟨g,hg,hg2⟩:=zCs (l:=[c.decl]) (fun d hd'=>by rw[Yb.1 hd'];exact⟨hd.1,hd.2⟩) (by show 1<=big;decide);have hlen:=yh c;unfold Vp;rw[hg];simp only[zb,Ba];cases hb:(bif g then true else decide ((c.name.length:Int)>200))with
 |true=>exact⟨true,rfl,fun e=>by cases e⟩
 |false=>
  have hg0:g=false:=by cases g with|false=>rfl|true=>cases hb
  have hsm:=(hg2 hg0).2 c.decl (List.mem_singleton_self _);simp only[Da];refine Wx c.list.length (fun i (_:Unit)=>(i:Int)) (fun i _=> ∀y∈c.list.take i,∀d∈Zh y,d.name.length+szL d.value<=300) _ (a0:=()) rfl (fun y hy=>by cases hy) (fun i _ hi hI=> ?_) (fun _ hI=> ?_)
  ·have hm:=ja hi;obtain⟨r,hr,hr2⟩:=hS c.list[i] (by have:=qJ hm;omega) (qJ hm);simp only[Zl hi,Ea,Zo hi,Ba,qB,hr];cases r with
   |true=>exact .inr (.inl ⟨true,rfl,fun e=>by cases e⟩)
   |false=>
    refine .inl ⟨(),?_,fun y hy=> ?_⟩
    ·simp only[Da,Zb hi (show c.list.length<=big by omega)]
    ·rw[Mc hi]at hy;rcases Xc.1 hy with hy|hy
     ·exact hI y hy
     ·rw[Yb.1 hy];exact hr2 rfl
  ·simp only[Qc,Da];refine .inl ⟨(),(by first|rfl|trivial),false,rfl,fun _ d hd=> ?_⟩;rw[Od]at hI;rw[mg]at hd;cases h7:c.kind==7 with
   |true=>rw[h7,Ea]at hd;rw[Yb.1 hd];exact hsm
   |false=> rw[h7,Da]at hd;obtain⟨y,hy,hd⟩:=Wd.1 hd;exact hI y hy d hd
structure SmC (c:zh):Prop where
 n:sizC c<=100
 d: ∀d∈Zh c,d.name.length+szL d.value<=300
theorem Y5{c:zh}(h:zJ (zq c)<=big): ∃g,Bu c=some g/\(g=false->SmC c):=by
 obtain⟨r,hr,_,_,h2⟩:=rO h (m:=100) (by decide);obtain⟨g,hg,hg2⟩:=J3 h;have hr:qh (c,100)=some (r:Int):=hr;unfold Bu;simp only[qB,hr,hg,zb,Ba];by_cases hq:r>100
 ·rw[Xa (by omega)];exact⟨true,rfl,fun e=>by cases e⟩
 ·rw[Fb (by omega)];exact⟨g,rfl,fun e=>⟨by by_cases hs:sizC c<=100;exact hs;have:=h2 (by omega);omega,hg2 e⟩⟩
end Go.Lv.VT
