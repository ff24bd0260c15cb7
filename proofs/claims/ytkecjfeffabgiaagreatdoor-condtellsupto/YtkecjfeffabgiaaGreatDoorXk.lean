/- The texts of supports conditions, and of all: the program's functions and the reference's. -/
import Derived.Test.YtkecjfeffabgiaaGreatDoorXj
import Derived.Test.YtkecjfeffabgiaaGreatDoorXh
import Derived.Test.YtkecjfeffabgiaaGreatDoorXg
set_option linter.unusedSimpArgs false
set_option linter.unusedVariables false
namespace Go.Lv.VT
set_option maxRecDepth 100000
def wdP(d:z8):Str:=(Nn d).1
def lgD(d:z8):Bool:=(Nn d).2 != 0
theorem I5: ∀d,Ng d=true->d.name.length+szL d.value<=300->(wdP d).length<=9300:=fun d h1 _=>by
 unfold wdP Nn;rw[Ka h1];split
 ·exact Mc _
 ·rename_i h;exact Gc (Nat.le_of_not_lt h) (by decide)
def inP(c:zg):Str:=bif Fg c then supT wdP c else parW (supT wdP c)
structure SupP (c:zg):Prop where
 s:supC c=true
 n:sizC c<=100
 d: ∀d∈Za c,d.name.length+szL d.value<=300
theorem SupP.len{c:zg}(h:SupP c):(supT wdP c).length+10<=KW*sizC c:=by
 have:=D5 (wd:=wdP) I5 (X3 h.s h.d)
 rwa [WO h.s]at this
theorem SupP.lenI{c:zg}(h:SupP c):(inP c).length+8<=KW*sizC c:=lD h.len
theorem I6{S:zg×Bool->Option (Str×Bool)}{y:zg}{b b':Bool}(hS:S (y,b)=some (supT wdP y,b'))(h:(supT wdP y).length<=940000):QC S (y,b)=some (inP y,b'):=by have c1:zO ([40]:Str).length (supT wdP y).length=true:=yg (by simp only[Fa,Va];omega);have c2:zO (([40]:Str)++supT wdP y).length ([41]:Str).length=true:=yg (by simp only[Ea,Fa,Va];omega);unfold QC inP;simp only[Zc,hS,za,Aa,OV,c1,c2,zF];cases Fg y<;>rfl
theorem kQ{S:zg×Bool->Option (Str×Bool)}{l:List zg}{sep:Str}{b:Bool}(hS: ∀y∈l,∀b,S (y,b)=some (supT wdP y,b||(Za y).any lgD))(hs:sep.length<=5)(h: ∀y∈l,SupP y)(hn:(l.map sizC).sum<=100):
  Yv S ((l,sep),b)=some (jn sep (l.map inP),b||(l.flatMap Za).any lgD):=by
 have hlen:=gD l;have hL: ∀y∈l,(inP y).length+8<=KW*sizC y:=fun y hy=>(h y hy).lenI;unfold Yv;refine(jm l.length (fun i=>((i:Int),(b||((l.take i).flatMap Za).any lgD),(l.take i).map inP)) ((b||(l.flatMap Za).any lgD),l.map inP) (by rw[mf];simp) (fun i hi=> ?_) ?_).trans ?_
 ·have hm:=Kb hi;have ha:Zj ((l.take i).map inP).length 1 16=true:=oq (by rw[Fb,Lc];omega);have hl:(supT wdP l[i]).length<=940000:=by have h1:=(h _ hm).len;have h2:=QO hm;unfold KW at h1;omega
  simp only[Zr hi,Ca,Zb hi,za,Aa,Zc,I6 (hS _ hm _) hl,ha,zF,zX hi (show l.length<=big by unfold big;omega)];rw[jb hi,Te,List.flatMap_append,List.any_append,Bool.or_assoc];simp
 ·simp only[ql,Ba,Oc]
 ·have hj:=II hs hL hn l.length;rw[Oc]at hj;have hj:(Lib.join (l.map inP) sep).length<=940000:=hj;have hb:(Nat.ble (l.map inP).length 1000000&&Nat.ble (Lib.join (l.map inP) sep).length 1000000000)=true:=by rw[Fb,bg (by omega),bg (by omega)];rfl
  unfold Bl;simp only[hb,zF,za,Aa];rfl
theorem zFw{d:z8}(h:d.name.length+szL d.value<=300):OkD d:=(SmD.mk h).ok
theorem znx{c:zg}{b:Bool}(h:SupP c):zG (c,b)=some (supT wdP c,b||(Za c).any lgD):=by
 refine ZX (fun x:zg×Bool=>sizC x.1) (fun x=>SupP x.1) (fun x=>(supT wdP x.1,x.2||(Za x.1).any lgD)) (fun S x hx hS=> ?_) (x:=(c,b)) h;obtain⟨c,b⟩:=x;have hx:SupP c:=hx;obtain⟨hs,hn,hd⟩:=hx;have hsz:=dh c;unfold wG;rw[QL]at hd ⊢;rw[Kl]at hs;obtain⟨k,nm,m,d,l⟩:=c;rw[supT,fu];simp only at hs hd hsz hS ⊢;cases h7:k==7 with
 |true=>
  rw[h7,Ca]at hs hd;simp only[Da]at hs;have hsd:=hd d (Ve _);have hl:=I5 d hs.2.2.2 hsd;have c1:zO ([40]:Str).length (wdP d).length=true:=yg (by simp only[Fa,Va];omega);have c2:zO (([40]:Str)++wdP d).length ([41]:Str).length=true:=yg (by simp only[Ea,Fa,Va];omega);simp only[Ca,zuX (zFw hsd),za,Aa];refine((zo c1 _).trans (zo c2 _)).trans ?_;show some ((([40]:Str)++wdP d++([41]:Str)),bif b then true else lgD d)=some (parW (wdP d),b||([d].any lgD));simp only[List.any_cons,List.any_nil,Rc];cases b<;>rfl
 |false=>
  rw[h7,Ba]at hs hd;cases h8:k==8 with
  |true=> rw[h8,Ca]at hs;simp only[Da,Be]at hs;rw[hs.1];simp only[Ca,Ba,List.flatMap_nil,List.any_nil,Rc];rfl
  |false=>
   rw[h8,Ba]at hs;simp only[Da]at hs;obtain⟨hk,_,hl,hall⟩:=hs;have hP: ∀y∈l,SupP y:=fun y hy=>⟨Ab.1 hall y hy,by have:=QO hy;omega,fun d hd'=>hd d (Ae.2 ⟨y,hy,hd'⟩)⟩;have hSy: ∀y∈l,∀b,S (y,b)=some (supT wdP y,b||(Za y).any lgD):=fun y hy b=>hS (y,b) (hP y hy) (by have:=QO hy;simp only;omega);cases h3:k==3 with
   |true=>
    rw[h3]at hl;obtain⟨y,rfl⟩: ∃y,l=[y]:=Ff.1 (eq_of_beq hl);have hm:=Ve y;have hl1:(supT wdP y).length<=940000:=by have h1:=(hP y hm).len;have h2:=QO hm;unfold KW at h1;omega
    have hl2:=yH (g:=inP) (fun z hz=>(hP z hz).lenI) (by omega) hm;have c1:zO ([110,111,116,32]:Str).length (inP y).length=true:=yg (by simp only[Fa,Va];omega);have hg:geti [y] 0=some y:=rfl;simp only[Ba,Ca,hg,za,Aa,Zc,I6 (hSy y hm b) hl1,c1,zF];simp only[ib,Re,Yf,df,List.flatMap_nil,Db];rfl
   |false=>
    cases h2:k==2 with
    |true=> have:=kQ (b:=b) (sep:=or4) hSy (by decide) hP (by omega);simp only[Ba,Ca,show([32,111,114,32]:Str)=or4 from rfl,this,za,Aa];rfl
    |false=> have:=kQ (b:=b) (sep:=and5) hSy (by decide) hP (by omega);simp only[Ba,show([32,97,110,100,32]:Str)=and5 from rfl,this,za,Aa];rfl
theorem AY{c:zg}(h:zx (zn c)<=big):Xr c=some (qZ c):=by unfold Xr;simp only[Zc,nL h,za,Aa]
theorem nR{S:zg->Option Str}{y:zg}{s:Str}(hS:S y=some s)(h:s.length<=940000):Vr S y=some (bif Fg y then s else parW s):=by
 have c1:zO ([40]:Str).length s.length=true:=yg (by simp only[Fa,Va];omega);have c2:zO (([40]:Str)++s).length ([41]:Str).length=true:=yg (by simp only[Ea,Fa,Va];omega);have hlf:(bif y.kind==7 then true else y.kind==8)=Fg y:=by unfold Fg;cases y.kind==7<;>rfl
 unfold Vr;simp only[Zc,hS,za,Aa,hlf,c1,c2,zF];cases Fg y<;>rfl
theorem wE{S:zg->Option Str}{f:zg->Str}{l:List zg}{sep:Str}{terms:Bool}(hS: ∀y∈l,S y=some (f y))(hs:sep.length<=5)(h: ∀y∈l,(f y).length+10<=KW*sizC y)(hn:(l.map sizC).sum<=100):
  Yr S (l,sep,terms)=some (jn sep (l.map fun y=>bif terms then(bif Fg y then f y else parW (f y))else f y)):=by
 have hlen:=gD l;have hL: ∀y∈l,(bif terms then(bif Fg y then f y else parW (f y))else f y).length+8<=KW*sizC y:=fun y hy=>by
  have:=h y hy;cases terms with
  |true=>exact lD this
  |false=>simp only[Ba];omega
 unfold Yr;refine(jm l.length (fun i=>(jn sep ((l.take i).map fun y=>bif terms then(bif Fg y then f y else parW (f y))else f y),(i:Int))) (jn sep (l.map fun y=>bif terms then(bif Fg y then f y else parW (f y))else f y)) rfl (fun i hi=> ?_) ?_).trans rfl
 ·have hm:=Kb hi;have h1:=II hs hL hn i;have h2:=yH hL hn hm;have h3:(f l[i]).length<=940000:=by have a1:=h _ hm;have a2:=QO hm;unfold KW at a1;omega
  have hw:=nR (hS _ hm) h3;have hi0:decide ((i:Int)>0)= !decide (i=0):=by
   by_cases e:i=0
   ·subst e;rfl
   ·rw[Ga (by omega),La e];rfl
  rw[zJN hi];generalize hG:jn sep ((l.take i).map fun y=>bif terms then(bif Fg y then f y else parW (f y))else f y)=G at h1 ⊢;have c1:zO G.length sep.length=true:=yg (by omega);have hj: ∀R:Type,(zP (X:=Str) (bif decide ((i:Int)>0)then need (zO G.length sep.length) (some (LX.out (G++sep)))else some (LX.out G)) fun j2=>some j2)=some (if i=0 then []else G++sep):=fun R=>by
   rw[hi0];by_cases e:i=0
   ·subst e;rw[<-hG];rfl
   ·rw[La e,Ja e,c1];rfl
  have c2: ∀x:Str,x.length<=940000->zO (if i=0 then []else G++sep).length x.length=true:=fun x hx=>yg (by
   split
   ·simp only[Va];omega
   ·rw[Ea];omega)
  simp only[Zr hi,Ca,Zb hi,za,Aa,Zc,hw,hS _ hm];rw[hi0];by_cases e:i=0
  ·have hG0:G=[]:=by rw[<-hG,e];rfl
   have d2:=c2;rw[Ga e,Ka e]at*;simp only[Ta,Ba,zk,hG0];cases terms with
   |true=>simp only[Ca]at h2 ⊢;simp only[c2 _ h2,zF,zk,zX hi (show l.length<=big by unfold big;omega)]
   |false=>simp only[Ba]at h2 ⊢;simp only[c2 _ h2,zF,zk,zX hi (show l.length<=big by unfold big;omega)]
  ·rw[Ja e]at*;rw[La e];simp only[Ra,Ca,c1,zF,zk];cases terms with
   |true=>simp only[Ca]at h2 ⊢;simp only[c2 _ h2,zF,zk,zX hi (show l.length<=big by unfold big;omega)]
   |false=>simp only[Ba]at h2 ⊢;simp only[c2 _ h2,zF,zk,zX hi (show l.length<=big by unfold big;omega)]
 ·simp only[ql,Ba,Oc]
end Go.Lv.VT
