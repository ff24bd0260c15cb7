/- The statement about the reading of conditions: the law. -/
import Derived.Test.YtkecjfeffabgiaaGreatDoorXj
import Derived.Test.YtkecjfeffabgiaaGreatDoorMo
import Derived.Test.YtkecjfeffabgiaaGreatDoorXc
import Derived.Test.YtkecjfeffabgiaaGreatDoorXi
set_option linter.unusedSimpArgs false
set_option linter.unusedVariables false
namespace Go.Lv.VT
set_option maxRecDepth 100000
theorem Wh:di ()=some true:=X0 400 _ _ (by decide+kernel)
theorem FT(x:Int×List Bool):Kq x=ll x:=by
 unfold Kq ll;generalize w64 (w64 (x.1+1) - 1)=i;unfold geti;by_cases h:0<=i
 ·rw[Ta h,aa,Ea];by_cases h2:i<(x.2.length:Int)
  ·rw[Ta h2];rfl
  ·rw[Eb h2,List.getElem?_eq_none (by omega)];rfl
 ·rw[Eb h];rfl
theorem DT:Q0=sj:=by funext S x;unfold Q0 sj;simp only[FT]
theorem X6(c:zh)(e:VEnv)(ys:List Bool):qF ((c,e),ys)=Qk (c,e,ys):=by unfold qF Qk Zq Z0;rw[DT]
theorem QC{c:zh}(h:zC (zq c)<=big):ZB c=some (bif ZH c then 0 else 8):=by unfold ZB;simp only[qO,H8 h,zb,Aa];cases ZH c<;>rfl
theorem zNoD:zC (Qq (⟨[],[],false⟩:zB))=3:=by rw[Bl];rfl
theorem gH(k:Int)(l:List zh):zC (zq ⟨k,[],0,⟨[],[],false⟩,l⟩)=7+zL zq l:=by rw[Wi];simp only[zNoD,List.length_nil];omega
theorem Nt{c:zh}{w:Int}{ys:List Bool}(hv:(yf c||ZH c)=true)(h0:0<=w)(h1:w<=1000000000):Nw c w ys=bif ys.length==(Zc c).length then(holC (1000*w) c ys,0)else(false,2):=by unfold Nw;rw[hv,Eb (by omega: ¬w<0),Eb (by omega: ¬w>1000000000)];cases ys.length==(Zc c).length<;>rfl
theorem yX{a b:zh}{x y:List Bool}(hz:zC (zq a)+zC (zq b)<=2000000)(hx:x.length<=big)(hy:y.length<=big):GA (a,b,x,y)=some true:=by
 have hbig:big=4194304:=rfl;obtain⟨ga,hga,_⟩:=XP (c:=a) (by omega);obtain⟨gb,hgb,_⟩:=XP (c:=b) (by omega);have ha:=QC (c:=a) (by omega);have hb:=QC (c:=b) (by omega);unfold GA;simp only[qO,hga,hgb,ha,hb,zb,Aa];cases ga with
 |true=>simp only[ja,Zi,Aa,Ea,Wh]
 |false=>
 simp only[Ua,zU,Aa,Da];cases gb with
 |true=>simp only[ja,Zi,Aa,Ea,Wh]
 |false=>
 simp only[Ua,zU,Aa,Da];cases hsa:ZH a with
 |false=>simp only[Da,show((8:Int) != 0)=true from rfl,ja,Zi,Aa,Ea,Wh]
 |true=>
 simp only[Ea,show((0:Int) != 0)=false from rfl,Ua,zU,Aa,Da];cases hsb:ZH b with
 |false=>simp only[Da,show((8:Int) != 0)=true from rfl,Ea,Wh,Aa]
 |true=>
 simp only[Ea,show((0:Int) != 0)=false from rfl,Da];cases hxl:decide ((x.length:Int)>110)with
 |true=>simp only[Ea,Wh,Aa]
 |false=>
 cases hyl:decide ((y.length:Int)>110)with
 |true=>simp only[Ea,Da,Wh,Aa]
 |false=>
 have hxl:x.length<=110:=by have:=of_decide_eq_false hxl;omega
 have hyl:y.length<=110:=by have:=of_decide_eq_false hyl;omega
 have va:(yf a||ZH a)=true:=by rw[hsa,jd]
 have vb:(yf b||ZH b)=true:=by rw[hsb,jd]
 simp only[Da,uu (c:=a) (e:=⟨100⟩) (by omega) hx,uu (c:=b) (e:=⟨100⟩) (by omega) hy,Aa,Nt va (show(0:Int)<=100 by decide) (by decide),Nt vb (show(0:Int)<=100 by decide) (by decide)];cases hxe:x.length==(Zc a).length with
 |false=>
  cases y.length==(Zc b).length<;>simp only[Da,Ea,show((2:Int) != 0)=true from rfl,show((2:Int)==0)=false from rfl,show((0:Int)==0)=true from rfl,show((2:Int)==2)=true from rfl,zU,Wh,Aa]
 |true=>
 cases hye:y.length==(Zc b).length with
 |false=>simp only[Da,Ea,show((0:Int) != 0)=false from rfl,show((2:Int) != 0)=true from rfl,show((2:Int)==0)=false from rfl,show((0:Int)==0)=true from rfl,show((2:Int)==2)=true from rfl,zU,Wh,Aa]
 |true=>
 have hxe:=eq_of_beq hxe;have hye:=eq_of_beq hye;have a1:zQ 0 x.length 1=true:=Yh (by omega);have a2:zQ x.length y.length 1=true:=Yh (by omega);have z1:zC (zq (cNot a))<=big:=by unfold cNot;rw[gH,Rh,jv];omega
 have z2:zC (zq (cAnd a b))<=big:=by unfold cAnd;rw[gH,Rh,Rh,jv];omega
 have z3:zC (zq (cOr a b))<=big:=by unfold cOr;rw[gH,Rh,Rh,jv];omega
 have e1:(⟨3,[],0,(⟨[],[],false⟩:zB),[a]⟩:zh)=cNot a:=rfl;have e2:(⟨1,[],0,(⟨[],[],false⟩:zB),[a,b]⟩:zh)=cAnd a b:=rfl;have e3:(⟨2,[],0,(⟨[],[],false⟩:zB),[a,b]⟩:zh)=cOr a b:=rfl;simp only[e1,e2,e3,Ea,Da,show((0:Int) != 0)=false from rfl,a1,a2,Qs,QC z1,QC z2,Aa];cases h1:ZH (cNot a)with
 |false=>simp only[Da,show((8:Int) != 0)=true from rfl,ja,Zi,Aa,Ea,Wh]
 |true=>
 simp only[Ea,show((0:Int) != 0)=false from rfl,Ua,zU,Aa,Da];cases h2:ZH (cAnd a b)with
 |false=>simp only[Da,show((8:Int) != 0)=true from rfl,Ea,Wh,Aa]
 |true=>
 have h3:ZH (cOr a b)=true:=by rw[zCN];exact h2
 have v1:(yf (cNot a)||ZH (cNot a))=true:=by rw[h1,jd]
 have v2:(yf (cAnd a b)||ZH (cAnd a b))=true:=by rw[h2,jd]
 have v3:(yf (cOr a b)||ZH (cOr a b))=true:=by rw[h3,jd]
 have l1:(x.length==(Zc (cNot a)).length)=true:=by rw[CS,hxe];exact De _
 have l2:((x++y).length==(Zc (cAnd a b)).length)=true:=by rw[KS,Ma,Ma,hxe,hye];exact De _
 have l3:((x++y).length==(Zc (cOr a b)).length)=true:=by rw[zBd,Ma,Ma,hxe,hye];exact De _
 have hxy:(x++y).length<=big:=by rw[Ma];omega
 simp only[Ea,show((0:Int) != 0)=false from rfl,Da,X6,uu (e:=⟨100⟩) z1 hx,uu (e:=⟨100⟩) z2 hxy,uu (e:=⟨100⟩) z3 hxy,Aa,Nt v1 (show(0:Int)<=100 by decide) (by decide),Nt v2 (show(0:Int)<=100 by decide) (by decide),Nt v3 (show(0:Int)<=100 by decide) (by decide),l1,l2,l3,zBp hxe,zBo hxe hye,zCm hxe hye,show((0:Int)==0)=true from rfl,De];have b1: ∀p q:Bool,((p&&q)==(bif p then q else false))=true:=by decide
 have b2: ∀p q:Bool,((p||q)==(bif p then true else q))=true:=by decide
 simp only[b1,b2,Ea,zU,Wh,Aa]
end Go.Lv.VT
