/- The statement about the reading of conditions: the law. -/
import Derived.Test.YtkecjfeffabgiaaGreatDoorXj
import Derived.Test.YtkecjfeffabgiaaGreatDoorMo
import Derived.Test.YtkecjfeffabgiaaGreatDoorXc
import Derived.Test.YtkecjfeffabgiaaGreatDoorXi
set_option linter.unusedSimpArgs false
set_option linter.unusedVariables false
namespace Go.Lv.VT
theorem aU{a:List ze}(h:szL a<=big):Bi (a,a)=some true:=by
 refine ng (fun x:List ze×List ze=>szL x.1) (fun x=>szL x.1<=big/\x.1=x.2) (fun x=>true) (fun S x hl hS=> ?_) (show szL (a,a).1<=big/\(a,a).1=(a,a).2 from⟨h,rfl⟩);obtain⟨l,l'⟩:=x;obtain⟨hl,he⟩:=hl;simp only at hl hS he;subst he;unfold Dz;have hlen:=Eg l;have hne:((l.length:Int) != (l.length:Int))=false:=by simp
 simp only[hne,Da];refine(KD l (fun i (_:Unit)=>(i:Int)) (fun v (_:Unit)=>some (.again ())) (fun _=>some (.out ())) (a:=()) rfl (fun i a hi=> ?_) (fun a=> ?_) (r:= .out ()) ?_)
 ·have hsz:=Dh (ja hi);have hv2:=ag l[i];have hs1:szL l[i].list<=big:=by omega
  have hs2:szL l[i].list<szL l:=by omega
  have hSq:S (l[i].list,l[i].list)=some true:=hS (l[i].list,l[i].list) ⟨hs1,rfl⟩ hs2;simp[hi,Zo hi,hSq,Zb hi (by omega)]
 ·simp only[Qc,Da];rfl
 ·rw[Pj (fun a v=>a) (fun v a=>rfl)]
theorem nV{d:zA}(h:zL Za d.value<=big):Cu (d,d)=some true:=by unfold Cu;have:=Cr d.value;have e1:(d.name==d.name)=true:=Ef _;have e2:(d.important==d.important)=true:=Ef _;simp only[e1,e2,Ea,zY,aU (show szL d.value<=big by omega),zb,Ba]
set_option maxRecDepth 100000
theorem MC:Ul ()=some true:=uZ 400 _ _ (by decide+kernel)
theorem X9{c:zh}(h:zJ (zq c)<=big):Qu c=some (bif qm c then 0 else 8):=by unfold Qu;simp only[qB,I8 h,zb,Ba];cases qm c<;>rfl
theorem KW{c:zh}{w:Int}{ys:List Bool}(hv:(Tg c||qm c)=true)(h0:0<=w)(h1:w<=1000000000):Hw c w ys=bif ys.length==(Zh c).length then(holC (1000*w) c ys,0)else(false,2):=by unfold Hw;rw[hv,Fb (by omega: ¬w<0),Fb (by omega: ¬w>1000000000)];cases ys.length==(Zh c).length<;>rfl
theorem bS{c y:zh}(h:qm c=true)(hy:y∈c.list):qm y=true:=by
 unfold qm at h ⊢;simp only[Ca,ma]at h ⊢;obtain⟨hs,hn,hd⟩:=h;rw[Mr]at hs;rw[dx]at hd;have hsz:=uh c;have hm:=Eo hy;have hp:=Po y;cases h7:c.kind==7 with
 |true=>
  rw[h7,Ea]at hs;simp only[Ca,Jd]at hs;rw[hs.1]at hy;cases hy
 |false=>
 cases h8:c.kind==8 with
 |true=>
  rw[h7,h8,Da,Ea]at hs;simp only[Ca,Jd]at hs;rw[hs.1]at hy;cases hy
 |false=>
  rw[h7,h8,Da,Da]at hs hd;simp only[Ca]at hs;have h1:=uR (f:=Gg) hy;have h2:Cf y<=Gg y:=by unfold Gg;omega
  exact⟨Cb.1 hs.2.2.2 y hy,by omega,by omega⟩
theorem WO{c:zh}(h:zJ (zq c)<=big)(hs:qm c=true):dh c=some (Zh c,0):=by rw[aZ h,hs];rfl
theorem mV{l:List zA}(hl:l.length<=big)(h: ∀d∈l,zL Za d.value<=big):mo (l,l)=some true:=by
 unfold mo;simp only[bne_self_eq_false,Da];refine(Ms l.length (fun i=>(i:Int)) () rfl (fun i hi=> ?_) ?_).trans rfl
 ·simp only[Zl hi,Ea,Zo hi,zb,Ba,nV (h _ (ja hi)),Ab,Da,Zb hi hl]
 ·simp only[Qc,Da]
theorem lV{c:zh}(h:zJ (zq c)<=big):mo (Zh c,Zh c)=some true:=by
 have h1:=yx c;have h2:=Nr c;exact mV (by omega) fun d hd=>by have h3:=sD d hd;have h4:=uk d;omega
theorem TY{c:zh}(hz:zJ (zq c)<=big):KA c=some true:=by
 obtain⟨g,hg,_⟩:=Y5 hz;unfold KA;simp only[qB,hg,X9 hz,zb,Ba];cases g with
 |true=>simp only[Ab,Zy,Ba,Ea,MC]
 |false=>
 simp only[Ya,zY,Ba,Da];cases hs:qm c with
 |false=>simp only[Da,show((8:Int) != 0)=true from rfl,Ea,MC,Ba]
 |true=>
 have hlen:=yh c;have hdl:=yx c;have hsl:=Nr c;simp only[Ea,show((0:Int) != 0)=false from rfl,Da,WO hz hs,Ba];refine(Ms c.list.length (fun i=>((i:Int),(c.list.take i).flatMap Zh)) (c.list.flatMap Zh) rfl (fun i hi=> ?_) ?_).trans ?_
 ·have hm:=ja hi;simp only[Zl hi,Ea,Zo hi,Ba,WO (show zJ (zq c.list[i])<=big by have:=qJ hm;omega) (bS hs hm),show((0:Int) != 0)=false from rfl,Da,pJ hz hi,Qo,Ty Zh hi,Zb hi (show c.list.length<=big by omega)]
 ·simp only[Qc,Da,Od]
 have hj:(bif c.kind==7 then some (LX.out [c.decl])else some (LX.out (c.list.flatMap Zh)):Option (LX (List zA) Bool))=some (LX.out (Zh c)):=by rw[mg];cases c.kind==7<;>rfl
 rw[hj];simp only[zQ];refine(Ms (Zh c).length (fun i=>(i:Int)) () rfl (fun i hi=> ?_) ?_).trans ?_
 ·have hm:=ja hi;have hd:=dP (d:=(Zh c)[i]) (Jb (sD _ hm) hz);rw[oJ (jA hs) _ hm]at hd;simp only[Zl hi,Ea,Zo hi,Ba,hd,show((0:Int) != 0)=false from rfl,Da,Zb hi (show(Zh c).length<=big by omega)]
 ·simp only[Qc,Da]
 have hv:(Tg c||qm c)=true:=by rw[hs,Af]
 simp only[YZ (e:=⟨0⟩) (ys:=[]) hz (by decide),lV hz,Ba,KW hv (Int.le_refl 0) (show(0:Int)<=1000000000 by decide),Ea];have he:(((bif ([]:List Bool).length==(Zh c).length then(holC (1000*0) c [],(0:Int))else(false,2)).2==0)==(((Zh c).length:Int)==0))=true:=by
  cases h:Zh c with
  |nil=>rfl
  |cons d r=> have:(((d::r).length:Int)==0)=false:=Ja.2 (by simp only[Bb];omega);rw[this];rfl
 rw[he];simp only[zY,MC,Ba,Ea]
end Go.Lv.VT
