/- The value of a number's text, in thousandths: what the program's function computes. -/
import Derived.Test.YtpcfcdmidhbkmaaGreatDoorXa
set_option linter.unusedSimpArgs false
set_option linter.unusedVariables false
namespace Go.Lv.VT
set_option maxRecDepth 100000
def capF(cap:Nat):Nat->Str->Nat
 |n,[]=>n
 |n,c::r=>capF cap (min cap (decN n c)) r
theorem bM(cap:Nat): ∀(l:Str) (n:Nat) (c:UInt8),capF cap n (l++[c])=min cap (decN (capF cap n l) c)
 |[],_,_=>rfl
 |d::l,n,c=>by show capF cap (min cap (decN n d)) (l++[c])=_;rw[bM cap l];rfl
theorem Gx(cap:Nat): ∀(l:Str) (n:Nat),n<=cap->capF cap n l<=cap
 |[],_,h=>h
 |c::l,n,_=>Gx cap l _ (Nat.min_le_left ..)
theorem xK {R:Type} {step:Int×Int->Option (LO (Int×Int) Int R)} {l:Str} {cap:Nat} (b:l.all digB=true) (j:l.length<=100000) (f:cap<=1000000000000)
  (a: ∀(v:Int) (i:Nat) (hi:i<l.length),step (v,(i:Int))=some (.again (if(cap:Int)<w64 (w64 (10*v)+w64 (wu8 ((l[i].toNat:Int) - 48)))then(cap:Int)else w64 (w64 (10*v)+w64 (wu8 ((l[i].toNat:Int) - 48))),w64 ((i:Int)+1))))
  (h2: ∀v:Int,step (v,(l.length:Int))=some (.out v)):Ng step (0,0)=some (.out ((capF cap 0 l:Nat):Int)):=by
 refine qO (fun s=> ∃i:Nat,i<=l.length/\s=(((capF cap 0 (l.take i):Nat):Int),(i:Int))) (fun s=>l.length - s.2.toNat) _ ?_ ⟨0,by omega,rfl⟩;rintro _ ⟨i,hi,rfl⟩;rcases ic i l.length with h|h
 ·refine .inl ⟨_,a _ i h,⟨i+1,by omega,?_⟩,by simp only;rw[zZ (by omega) (by omega)];omega⟩;have e:=Gq (Ub.1 b _ (Gf h));have d:capF cap 0 (l.take (i+1))=min cap (decN (capF cap 0 (l.take i)) l[i]):=by rw[Ve h,bM]
  have g:=Gx cap (l.take i) 0 (Xd _);have c:wu8 ((l[i].toNat:Int) - 48)=((l[i].toNat - 48:Nat):Int):=by show IntKind.u8.wrap _=_;rw[IntKind.wrap_u8];omega
  unfold decN at d;rw[c,zZ (n:=10*_) (by omega) (by omega),zZ (n:=((l[i].toNat - 48:Nat):Int)) (by omega) (by omega),zZ (n:=(i:Int)+1) (by omega) (by omega),zZ (by omega) (by omega)];refine Hf ?_ ?_
  ·grind
  ·grind
 grind
theorem aL: ∀(k n:Nat),n<=ag->QN k n<=ag
 |0,_,h=>h
 |k+1,n,h=>by
  unfold QN;split
  ·exact h
  ·exact aL k _ (Nat.min_le_left ..)
theorem iY {R:Type} {step:Int×Int->Option (LO (Int×Int) Int R)} {v:Nat} {p:Int} (n:p<=4000000) (d: -4000000<=p) (i:v<=1000000000000)
  (h: ∀(a b:Int),step (a,b)=bif bif bif decide (a>0)then decide (b>0)else false then decide (b<1000000000000)else false then some (.again (w64 (a - 1),if 1000000000000<w64 (10*b)then 1000000000000 else w64 (10*b)))else some (.out b)):
  Ng step (p,(v:Int))=some (.out ((QN p.toNat v:Nat):Int)):=by
 have o:ag=1000000000000:=rfl;refine qO (fun s=> ∃(a:Int) (b:Nat),s=(a,(b:Int))/\a<=4000000/\ -4000000<=a/\b<=1000000000000/\QN a.toNat b=QN p.toNat v) (fun s=>s.1.toNat) _ ?_ ⟨p,v,rfl,n,d,i,rfl⟩;rintro _ ⟨a,b,rfl,r,f,q,c⟩;rw[h];by_cases e:a>0
 ·obtain⟨k,l⟩: ∃k,a.toNat=k+1:=⟨a.toNat - 1,by omega⟩;rw[l,QN]at c;rw[La e,Ha];by_cases g:b=0\/ag<=b
  ·grind
  ·rw[Fa g]at c;have m:decide (((b:Nat):Int)>0)=true:=La (by omega);have j:decide (((b:Nat):Int)<1000000000000)=true:=La (by omega);rw[m,Ha,j,Ha];refine .inl ⟨_,rfl,⟨a - 1,min ag (10*b),?_,by omega,by omega,by omega,?_⟩,by simp only;rw[zZ (by omega) (by omega)];omega⟩
   ·rw[zZ (by omega) (by omega),zZ (by omega) (by omega)]
    grind
   grind
 ·rw[Ob e,Ja];refine .inr (.inl ⟨_,rfl,?_⟩);rw[<-c,show a.toNat=0 by omega];rfl
structure NumP where
 sg:Str
 D:Str
 F:Option Str
 X:Option (UInt8×Str×Str)
def dotS:Option Str->Str
 |none=>[]
 |some f=>46::f
def expT:Option (UInt8×Str×Str)->Str
 |none=>[]
 |some (e,s,x)=>e::(s++x)
def NumP.txt(n:NumP):Str:=n.sg++(n.D++(dotS n.F++expT n.X))
def sgB(s:Str):Bool:=s==[]||s==[43]||s==[45]
def NumP.ok(n:NumP):Bool:=sgB n.sg&&n.D.all digB&&(match n.F with|none=> !n.D.isEmpty|some f=> !f.isEmpty&&f.all digB)&&
 (match n.X with|none=>true|some (e,s,x)=>(e==101||e==69)&&sgB s&& !x.isEmpty&&x.all digB)
def expV:Option (UInt8×Str×Str)->Int
 |none=>0
 |some (_,s,x)=>if s==[45]then -((capF 1048576 0 x:Nat):Int)else((capF 1048576 0 x:Nat):Int)
def thoV(A:Str)(p:Int):Nat:=QN p.toNat (capF ag 0 (if p<0 then A.take ((A.length:Int)+p).toNat else A))
def NumP.val(n:NumP):Int:=
 let v:=thoV (n.D++n.F.getD []) (3+expV n.X - ((n.F.getD []).length:Int))
 if n.sg==[45]then -(v:Int)else(v:Int)
theorem Uy{s:Str}(h:sgB s=true):s=[]\/s=[43]\/s=[45]:=by
 unfold sgB at h
 grind
theorem YI{s q:Str}(h:sgB s=true)(b: ∀c r,q=c::r->List.contains [43,45] c=false):Lib.trimLeftS (s++q) [43,45]=q:=by
 have a:Lib.trimLeftS q [43,45]=q:=by
  unfold Lib.trimLeftS;cases q with
  |nil=>rfl
  |cons c r=>simp_all
 rcases Uy h with rfl|rfl|rfl
 ·exact a
 ·show List.dropWhile _ (43::q)=_;rw[List.dropWhile_cons];exact a
 ·show List.dropWhile _ (45::q)=_;rw[List.dropWhile_cons];exact a
theorem RJ{e:UInt8}(he:e=101\/e=69)(t:Str): ∀(l:Str),(l.all fun b=>digB b||b==46)=true->Lib.indexAny (l++e::t) [101,69]=(l.length:Int)
 |[],_=>by
  rw[Ya,Lib.indexAny]
  grind
 |c::l,h=>by
  rw[Ic,Ba]at h;have hc:List.contains [101,69] c=false:=by
   have: ∀n:Nat,n<256->(digB (UInt8.ofNat n)||UInt8.ofNat n==46)=true->List.contains [101,69] (UInt8.ofNat n)=false:=by decide+kernel
   have:=this c.toNat (ma c);rw[Jd]at this;exact this h.1
  rw[Ta,Lib.indexAny,hc,RJ he t l h.2]
  grind
theorem vH{l:Str}(h:l.all digB=true):(l.all fun b=>digB b||b==46)=true:=by
 grind
theorem Lu{l:Str}(h: ∀b∈l,b.toNat<128):Vg l=true:=by
 unfold Vg
 grind
theorem gU{l:Str}(h:Vg l=true): ∀b∈l,b.toNat<128:=by
 unfold Vg at h
 grind
theorem xR{D:Str}(a:D.all digB=true)(F:Option Str): ∃f,Lib.cut (D++dotS F) [46]=(D,F.getD [],f):=by
 unfold Lib.cut;rw[Xz];cases F with
 |none=> rw[show dotS none=[]from rfl,Xa,YD _ a,Fa (by decide)];simp_all
 |some g=> rw[show dotS (some g)=46::g from rfl,aD _ _ a,Ea (by omega)];simp_all
theorem lK {D:Str} {F:Option Str} {E:Int} (w:D.all digB=true) (y:(F.getD []).all digB=true) (R:D.length+(F.getD []).length<=50000) (Q:E<=2000000) (C: -2000000<=E) (s:UInt8) (r:Str)
  (M:((s.toNat:Int)==45)=(r==[45])) (u:short (D++dotS F)=true):
  (ze (cutF (D++dotS F,[46])) fun c=>
 need (Vf c.1.length c.2.1.length)<|
 zN (X:=Str×Int) (
   bif decide (w64 ((3+E) - (c.2.1.length:Int))<0)then
    need (decide (0<=(if w64 (((c.1++c.2.1).length:Int)+w64 ((3+E) - (c.2.1.length:Int)))>0 then w64 (((c.1++c.2.1).length:Int)+w64 ((3+E) - (c.2.1.length:Int)))else 0))&&decide ((if w64 (((c.1++c.2.1).length:Int)+w64 ((3+E) - (c.2.1.length:Int)))>0 then w64 (((c.1++c.2.1).length:Int)+w64 ((3+E) - (c.2.1.length:Int)))else 0)<=((c.1++c.2.1).length:Int)))<|
    some (LX.out (List.take (if w64 (((c.1++c.2.1).length:Int)+w64 ((3+E) - (c.2.1.length:Int)))>0 then w64 (((c.1++c.2.1).length:Int)+w64 ((3+E) - (c.2.1.length:Int)))else 0).toNat (c.1++c.2.1),w64 ((3+E) - (c.2.1.length:Int))))
   else
    some (LX.out (c.1++c.2.1,w64 ((3+E) - (c.2.1.length:Int))))) fun j=>
 need (decide (j.1.length<=maxLen))<|
 ZP (fun(d:Int×Int)=>
   bif decide (d.2<(j.1.length:Int))then
    need (decide (0<=d.2)&&decide (d.2<(j.1.length:Int)))<|
    ze j.1[d.2.toNat]? fun g=>
    some (LO.again (if 1000000000000<w64 (w64 (10*d.1)+w64 (wu8 ((g.toNat:Int) - 48)))then 1000000000000 else w64 (w64 (10*d.1)+w64 (wu8 ((g.toNat:Int) - 48))),w64 (d.2+1)))
   else
    some (LO.out d.1):Int×Int->Option (LO (Int×Int) (Int) _)) (0,0) fun l=>
 ZP (fun(e:Int×Int)=>
   bif bif bif decide (e.1>0)then decide (e.2>0)else false then decide (e.2<1000000000000)else false then
    some (LO.again (w64 (e.1 - 1),if 1000000000000<w64 (10*e.2)then 1000000000000 else w64 (10*e.2)))
   else
    some (LO.out e.2):Int×Int->Option (LO (Int×Int) (Int) _)) (j.2,l) fun h=>
 zN (X:=Int) (
   bif (s.toNat:Int)==45 then
    some (LX.out (w64 (0 - h)))
   else
    some (LX.out h)) fun k=>
 some k)=some (if r==[45]then -((thoV (D++F.getD []) (3+E - ((F.getD []).length:Int)):Nat):Int)else((thoV (D++F.getD []) (3+E - ((F.getD []).length:Int)):Nat):Int)):=by
 obtain⟨f,m⟩:=xR w F;have O:cutF (D++dotS F,[46])=some (D,F.getD [],f):=by unfold cutF;rw[zG (by exact u)];exact congrArg some m
 have x:maxLen=9223372036854775807:=rfl;have t:ag=1000000000000:=rfl;simp only[ze,O,Aa];generalize F.getD []=G at*;rw[zG (Tu.2 (by omega))];obtain⟨p,L⟩: ∃p:Int,p=3+E - (G.length:Int):=⟨_,rfl⟩;rw[<-L,zZ (n:=p) (by omega) (by omega)];have S:(D++G).all digB=true:=by rw[Ue,w,y];rfl
 have K:(D++G).length<=50000:=by rw[Ga];omega
 generalize D++G=A at*;have H: ∀B:Str,B.all digB=true->B.length<=50000->(need (decide (B.length<=maxLen))<|
 ZP (fun(d:Int×Int)=>
   bif decide (d.2<(B.length:Int))then
    need (decide (0<=d.2)&&decide (d.2<(B.length:Int)))<|
    (B[d.2.toNat]?).bind fun g=>
    some (LO.again (if 1000000000000<w64 (w64 (10*d.1)+w64 (wu8 ((g.toNat:Int) - 48)))then 1000000000000 else w64 (w64 (10*d.1)+w64 (wu8 ((g.toNat:Int) - 48))),w64 (d.2+1)))
   else
    some (LO.out d.1):Int×Int->Option (LO (Int×Int) (Int) _)) (0,0) fun l=>
 ZP (fun(e:Int×Int)=>
   bif bif bif decide (e.1>0)then decide (e.2>0)else false then decide (e.2<1000000000000)else false then
    some (LO.again (w64 (e.1 - 1),if 1000000000000<w64 (10*e.2)then 1000000000000 else w64 (10*e.2)))
   else
    some (LO.out e.2):Int×Int->Option (LO (Int×Int) (Int) _)) (p,l) fun h=>
 zN (X:=Int) (
   bif (s.toNat:Int)==45 then
    some (LX.out (w64 (0 - h)))
   else
    some (LX.out h)) fun k=>
 some k)=some (if r==[45]then -((QN p.toNat (capF ag 0 B):Nat):Int)else((QN p.toNat (capF ag 0 B):Nat):Int)):=by
  intro B J z;have o:=Gx ag B 0 (Xd _);rw[zG (La (by omega))];rw[qP (xK (cap:=ag) J (by omega) (by omega) (fun v i U=> ?_) (fun v=> ?_))]
  ·have N:=aL p.toNat _ o;rw[qP (iY (by omega) (by omega) (by omega) (fun a b=> ?_)),M]
   ·cases T:r==[45]with
    |true=> rw[Ha,zh,zZ (by omega) (by omega),Ea rfl];congr 1;omega
    |false=>simp_all
   ·simp only
  ·simp_all
  ·grind
 unfold thoV;by_cases q:p<0
 ·rw[La q,Ha,Ea q];have P:(if w64 ((A.length:Int)+p)>0 then w64 ((A.length:Int)+p)else 0)=((((A.length:Int)+p).toNat:Nat):Int):=by rw[zZ (by omega) (by omega)];split<;>omega
  rw[P,zG (by grind),zh,Yb]
  grind
 ·rw[Ob q,Ja,Fa q,zh]
  grind
theorem oG{n:NumP}(h:n.ok=true)(hl:n.txt.length<=40000):Zl n.txt=some n.val:=by
 obtain⟨sg,D,F,X⟩:=n;unfold NumP.ok at h;simp only[Ba]at h;obtain⟨⟨⟨hsg,hD⟩,hFo⟩,hX⟩:=h;have hF:(F.getD []).all digB=true:=by
  cases F with
  |none=>rfl
  |some f=>grind
 have hne:D++dotS F≠[]:=by
  cases F with
  |none=>simp_all
  |some f=>simp[dotS]
 have hpar:((D++dotS F).all fun b=>digB b||b==46)=true:=by
  rw[Ue,vH hD];cases F with
  |none=>rfl
  |some f=>rw[show dotS (some f)=46::f from rfl,Ic,vH (show f.all digB=true from hF)];rfl
 have hlen:sg.length+(D.length+((dotS F).length+(expT X).length))<=40000:=by
  have:(NumP.txt ⟨sg,D,F,X⟩).length=sg.length+(D.length+((dotS F).length+(expT X).length)):=by unfold NumP.txt;simp only[Ga]
  omega
 have hFl:(F.getD []).length<=(dotS F).length:=by
  cases F with
  |none=>grind
  |some f=>show f.length<=(46::f).length;grind
 have hhead: ∀c r,D++(dotS F++expT X)=c::r->List.contains [43,45] c=false:=by
  rw[<-Ia];intro c r e;cases hq:D++dotS F with
  |nil=>grind
  |cons d q=>
   rw[hq,Ta]at e;injection e with e1 _;subst e1;rw[hq,Ic,Ba,Pb]at hpar;rcases hpar.1 with hd|hd
   ·exact(qd hd).2.2.2.2
   grind
 have hy1: ∃b,geti (NumP.txt ⟨sg,D,F,X⟩) 0=some b/\(((b.toNat:Int)==45)=(sg==[45])):=by
  unfold NumP.txt;show∃b,geti (sg++(D++(dotS F++expT X))) 0=some b/\_;rcases Uy hsg with rfl|rfl|rfl
  ·cases hq:D++(dotS F++expT X)with
   |nil=>simp_all
   |cons c r=>
    refine⟨c,rfl,?_⟩;have:=hhead c r hq;refine Da.2 (fun e=> ?_);have:c=45:=Oe.1 (by grind)
    grind
  ·exact⟨43,rfl,rfl⟩
  ·exact⟨45,rfl,rfl⟩
 obtain⟨y1,hg,hyy⟩:=hy1;have t1:Wh (NumP.txt ⟨sg,D,F,X⟩,[43,45])=some (D++(dotS F++expT X)):=by unfold Wh;rw[zG (show(short ([43,45]:Str)&&Vg [43,45])=true by decide)];exact congrArg some (YI hsg hhead)
 unfold Zl;simp only[ze,hg,t1,Aa];have hsh:short (D++dotS F)=true:=La (by grind);have hasc:Vg (D++dotS F)=true:=NJ hpar;cases X with
 |none=>
  have t2:Qw (D++(dotS F++expT none),[101,69])=some (-1):=by show Qw (D++(dotS F++[]),[101,69])=_;rw[Xa];unfold Qw;rw[zG (by simp only[hsh,hasc,Vb,Nb];decide)];exact congrArg some (VD _ hpar)
  simp only[t2,Aa,show decide ((-1:Int)>=0)=false from rfl,Ja,zh];rw[show D++(dotS F++expT none)=D++dotS F by show D++(dotS F++[])=_;grind];have:=lK (E:=0) hD hF (by omega) (by omega) (by omega) y1 sg hyy hsh;exact this
 |some ex=>
  obtain⟨e,s,x⟩:=ex;simp only[Ba]at hX;obtain⟨⟨⟨he,hs⟩,hxne⟩,hx⟩:=hX;have he':e=101\/e=69:=by rw[Pb,Sa,Sa]at he;exact he
  have hexl:(expT (some (e,s,x))).length=1+(s.length+x.length):=by show(e::(s++x)).length=_;rw[Ka,Ga];omega
  have hass:D++(dotS F++expT (some (e,s,x)))=(D++dotS F)++e::(s++x):=by rw[<-Ia];rfl
  have hasx:Vg ((D++dotS F)++e::(s++x))=true:=by
   refine Lu (fun b hb=> ?_);rcases Tc.1 hb with hb|hb
   ·exact gU hasc b hb
   ·rcases Bb.1 hb with hb|hb
    ·subst hb;rcases he' with rfl|rfl<;>decide
    ·rcases Tc.1 hb with hb|hb
     ·rcases Uy hs with rfl|rfl|rfl
      ·cases hb
      ·simp_all
      simp_all
     ·have:=Gq (Ub.1 hx b hb);omega
  have hlt:((D++dotS F)++e::(s++x)).length<=40000:=by rw[Ga,Ka,Ga,Ga];omega
  have t2:Qw (D++(dotS F++expT (some (e,s,x))),[101,69])=some ((D++dotS F).length:Int):=by rw[hass];unfold Qw;show need (short ((D++dotS F)++e::(s++x))&&short [101,69]&&Vg ((D++dotS F)++e::(s++x))&&Vg [101,69]) _=_;rw[show short ((D++dotS F)++e::(s++x))=true from La (by omega),hasx];exact congrArg some (RJ he' (s++x) _ hpar)
  have hdrop:List.drop (D++dotS F).length ((D++dotS F)++e::(s++x))=e::(s++x):=List.drop_left;have hdrop1:List.drop ((D++dotS F).length+1) ((D++dotS F)++e::(s++x))=s++x:=by rw[<-Je,hdrop];rfl
  have hd0:(D++dotS F).length<=40000:=by rw[Ga];omega
  have hw1:w64 (((D++dotS F).length:Int)+1)=(((D++dotS F).length+1:Nat):Int):=by rw[zZ (by omega) (by omega)];omega
  simp only[t2,Aa];rw[La (show(((D++dotS F).length:Nat):Int)>=0 by omega),Ha,hw1,hass];have hlt2:(D++dotS F).length+1<=((D++dotS F)++e::(s++x)).length:=by rw[Ga (bs:=e::(s++x)),Ka];omega
  rw[zG (by grind),Yb,hdrop1];have hxh: ∀c r,x=c::r->List.contains [43,45] c=false:=by intro c r e;subst e;rw[Ic,Ba]at hx;exact(qd hx.1).2.2.2.2
  have t4:Wh (s++x,[43,45])=some x:=by unfold Wh;rw[zG (show(short ([43,45]:Str)&&Vg [43,45])=true by decide)];exact congrArg some (YI hs hxh)
  have hxl:x.length<=40000:=by omega
  have hml:maxLen=9223372036854775807:=rfl;simp only[t4,Aa];rw[zG (La (by omega))];have hcap:=Gx 1048576 x 0 (Xd _);rw[qP (xK (cap:=1048576) hx (by omega) (by omega) (fun v i hi=> ?_) (fun v=> ?_))]
  ·have hg8: ∃y8,geti ((D++dotS F)++e::(s++x)) (((D++dotS F).length+1:Nat):Int)=some y8/\(((y8.toNat:Int)==45)=(s==[45])):=by
    have hgg: ∀(b:UInt8) (r:Str),s++x=b::r->geti ((D++dotS F)++e::(s++x)) (((D++dotS F).length+1:Nat):Int)=some b:=by
     intro b r e1;unfold geti;have:((D++dotS F)++e::(s++x))[(D++dotS F).length+1]? =some b:=by rw[List.getElem?_append_right (by omega),show(D++dotS F).length+1 - (D++dotS F).length=1 by omega,Mf,e1];rfl
     rw[Yb,this,La (by omega)];rfl
    rcases Uy hs with rfl|rfl|rfl
    ·cases hxx:x with
     |nil=>grind
     |cons c r=>
      refine⟨c,by grind,?_⟩;have:=hxh c r hxx;refine Da.2 (fun e=> ?_);have h45:c=45:=Oe.1 (by grind)
      grind
    ·grind
    ·grind
   obtain⟨y8,h8,h8'⟩:=hg8;simp only[h8,Aa];rw[h8'];have hj:(bif s==[45]then(some (LX.out ((D++dotS F)++e::(s++x),3,w64 (0 - ((capF 1048576 0 x:Nat):Int)))):Option (LX (Str×Int×Int) (LX (Str×Int) Int)))else some (LX.out ((D++dotS F)++e::(s++x),3,((capF 1048576 0 x:Nat):Int))))
     =some (LX.out ((D++dotS F)++e::(s++x),3,expV (some (e,s,x)))):=by
    unfold expV;simp only;cases s==[45]with
    |true=>rw[Ha,Ea rfl,zZ (by omega) (by omega)];simp
    |false=>grind
   have hEb:expV (some (e,s,x))<=1048576/\ -1048576<=expV (some (e,s,x)):=by unfold expV;simp only;split<;>omega
   refine(congrArg (fun o=>zN (zN o _) _) hj).trans ?_;simp only[zh];rw[show decide ((((D++dotS F).length:Nat):Int)<=((((D++dotS F)++e::(s++x)).length:Nat):Int))=true from La (by omega),zG (by rfl)];simp only[zh,Yb,List.take_left];rw[zZ (by omega) (by omega)];exact lK (E:=expV (some (e,s,x))) hD hF (by omega) (by omega) (by omega) y1 sg hyy hsh
  ·simp_all
  ·grind
theorem Zw{n:Nat}(h:n<256):Zq ((n:Nat):Int)=some (UInt8.ofNat n):=by
 unfold Zq
 grind
theorem RD(n k:Nat)(a:k<=32):bg .i32 (n:Int) (k:Int)=((n / 2 ^ k:Nat):Int):=by
 unfold bg;rw[show(min ((k:Int).toNat) IntKind.i32.bits)=k by show min k 32=k;omega]
 grind
theorem shr6(n:Nat):bg .i32 (n:Int) 6=((n / 64:Nat):Int):=RD n 6 (by omega)
theorem JP(n:Nat):bg .i32 (n:Int) 12=((n / 4096:Nat):Int):=RD n 12 (by omega)
theorem IP(n:Nat):bg .i32 (n:Int) 18=((n / 262144:Nat):Int):=RD n 18 (by omega)
theorem zA1(n:Int):IntKind.u8.wrap n=n%256:=by simp[IntKind.wrap,IntKind.bits,IntKind.signed]
theorem aP(n:Int):IntKind.u32.wrap n=n%4294967296:=by simp[IntKind.wrap,IntKind.bits,IntKind.signed]
theorem Vk{n:Nat}(h:n<2147483648):w32 (n:Int)=(n:Int):=by show IntKind.i32.wrap _=_;simp only[IntKind.wrap,IntKind.bits,IntKind.signed];simp;omega
theorem iJ{n:Nat}(h:n<2147483648):wu32 (n:Int)=(n:Int):=by show IntKind.u32.wrap _=_;rw[aP];omega
theorem Dt(n:Nat):wu8 (n:Int)=((n%256:Nat):Int):=by show IntKind.u8.wrap (n:Int)=_;rw[zA1];omega
theorem tJ(n:Nat):ibOr .u8 128 (Ah .u8 (wu8 (n:Int)) 63)=((128+n%64:Nat):Int):=by
 have: ∀m:Nat,m<256->ibOr .u8 128 (Ah .u8 ((m:Nat):Int) 63)=((128+m%64:Nat):Int):=by decide+kernel
 rw[Dt,this _ (Nat.mod_lt _ (by omega)),show n%256%64=n%64 by omega]
theorem vO{n:Nat}(h:n<32):ibOr .u8 192 (wu8 (n:Int))=((192+n:Nat):Int):=by
 have: ∀m:Nat,m<32->ibOr .u8 192 (wu8 ((m:Nat):Int))=((192+m:Nat):Int):=by decide+kernel
 exact this n h
theorem yu{n:Nat}(h:n<16):ibOr .u8 224 (wu8 (n:Int))=((224+n:Nat):Int):=by
 have: ∀m:Nat,m<16->ibOr .u8 224 (wu8 ((m:Nat):Int))=((224+m:Nat):Int):=by decide+kernel
 exact this n h
theorem uO{n:Nat}(h:n<8):ibOr .u8 240 (wu8 (n:Int))=((240+n:Nat):Int):=by
 have: ∀m:Nat,m<8->ibOr .u8 240 (wu8 ((m:Nat):Int))=((240+m:Nat):Int):=by decide+kernel
 exact this n h
theorem Pg{n m:Nat}(h:n+m<=2000000000):zR n m 1=true:=by unfold zR;grind
theorem LP{n:Nat}(o:n≠0)(h:n<16777216){l:Str}(m:l.length<=1000000000):ZC (w32 (n:Int),l)=some (l++Hg n):=by
 have j:zR l.length 1 1=true:=Pg (by omega);have f:zR l.length 2 1=true:=Pg (by omega);have d:zR l.length 3 1=true:=Pg (by omega);have g:zR l.length 4 1=true:=Pg (by omega);have c:(128+n%64)<256:=by omega
 have a:(128+n / 64%64)<256:=by omega
 have b:(128+n / 4096%64)<256:=by omega
 unfold ZC qL Hg;simp only[Vk (show n<2147483648 by omega),iJ (show n<2147483648 by omega),ze,shr6,JP,IP,tJ,Zw c,Zw a,Zw b,Aa];by_cases e:n<128
 ·rw[La (by omega),Ha,Dt,Zw (by omega),Aa,zG j,Fa (by omega),Ea e,Ff (by omega)]
 ·rw[Ob (by omega),Ja];by_cases i:n<2048
  ·rw[La (by omega),Ha,vO (by omega),Zw (by omega)];simp only[Aa];rw[zG f,Fa (by omega),Fa (by omega),Ea i];rfl
  ·rw[Ob (by omega),Ja];by_cases p:n<55296
   ·rw[La (by omega),Ha,zh];simp only[Ha];rw[yu (by omega),Zw (by omega)];simp only[Aa];rw[zG d,Fa (by omega),Fa (by omega),Fa (by omega),Ea (by omega)];rfl
   ·rw[Ob (by omega),Ja,zh];simp only[xH];by_cases k:57343<n/\n<65536
    ·rw[La (by omega),La (by omega),Vb,Ha,yu (by omega),Zw (by omega)];simp only[Aa];rw[zG d,Fa (by omega),Fa (by omega),Fa (by omega),Ea (by omega)];rfl
    ·rw[show(decide ((57343:Int)<(n:Int))&&decide ((n:Int)<=65535))=false by grind,Ja];by_cases q:65535<n/\n<=1114111
     ·rw[La (by omega),La (by omega),Vb,Ha,uO (by omega),Zw (by omega)];simp only[Aa];rw[zG g,Fa (by omega),Fa (by omega),Fa (by omega),Fa (by omega)];rfl
     ·rw[show(decide ((n:Int)>65535)&&decide ((n:Int)<=1114111))=false by grind,Ja,zG d,Ea (by omega)];rfl
theorem PM{l:Str}(a:l.length<=1000000000):ZC (65533,l)=some (l++Ak):=by have h:=LP (n:=65533) (by omega) (by omega) a;rw[Vk (by omega)]at h;exact h
theorem uh{s:Str}{c:UInt8}{l:Str}(h:c::l<:+s):l<:+s:=(Ed c l).trans h
theorem ug{s:Str}{c:UInt8}{l:Str}(d:s.length<=big)(h:c::l<:+s):w64 ((beh s (c::l):Int)+1)=(beh s l:Int):=by
 have b:big=4194304:=rfl;have a:=h.length_le;rw[Ka]at a;have e:beh s (c::l)+1=beh s l:=by unfold beh;rw[Ka];omega
 have:=Oj s l;rw[zZ (by omega) (by omega)];omega
theorem Hm(c:UInt8)(l:Str):pk (c::l) 0=(c.toNat:Int):=rfl
theorem Su(c:UInt8):Zq (wu8 ((c.toNat:Nat):Int))=some c:=by rw[Dt,Ff (ma c),Zw (ma c),Jd]
theorem ow{b:UInt8}(h:qy b=true):hexN b<16:=jb h
theorem YH{n d:Nat}(hn:n<16777216)(hd:d<16):ibOr .i64 (Yl .i64 (n:Int) 4) (d:Int)=((16*n+d:Nat):Int):=by
 have h1:Yl .i64 (n:Int) 4=((16*n:Nat):Int):=by unfold Yl;rw[show(2:Int) ^ (min (4:Int).toNat IntKind.i64.bits)=16 from rfl];rw[Sz (by omega) (by omega)];omega
 rw[h1];unfold ibOr;have e:(BitVec.ofInt IntKind.i64.bits ((16*n:Nat):Int) ||| BitVec.ofInt IntKind.i64.bits (d:Int)).toNat=16*n+d:=by
  rw[BitVec.toNat_or,BitVec.toNat_ofInt,BitVec.toNat_ofInt];rw[show((((16*n:Nat):Int)%((2 ^ IntKind.i64.bits:Nat):Int)).toNat)=16*n by show(((16*n:Nat):Int)%18446744073709551616).toNat=_;omega,
   show(((d:Int)%((2 ^ IntKind.i64.bits:Nat):Int)).toNat)=d by show((d:Int)%18446744073709551616).toNat=_;omega]
  have:=Nat.two_pow_add_eq_or_of_lt (i:=4) (b:=d) hd n;rw[show 2 ^ 4*n=16*n from rfl]at this;exact this.symm
 rw[e,Sz (by omega) (by omega)]
theorem ay(b:UInt8):decide (hexI b<0)= !qy b:=by
 unfold hexI
 grind
theorem bD: ∀(k n:Nat) (l:Str),qy (atS l 0)=false->hexes k n l=(n,l)
 |0,_,_,_=>rfl
 |_+1,_,[],_=>rfl
 |k+1,n,c::r,h=>by unfold hexes;rw[Fa (by rw[show qy c=false from h];decide)]
theorem JK {R:Type} {step:(Int×Int)×za->Option (LO ((Int×Int)×za) (Int×za) R)} {s l:Str} (j:l<:+s)
  (h: ∀(n i:Nat) (q:Str),q<:+s->n<16777216->i<=6->step (((n:Int),(i:Int)),sr s q)=some (bif decide (i<6)&&qy (atS q 0)then .again ((((16*n+hexN (atS q 0):Nat):Int),((i+1:Nat):Int)),sr s (q.drop 1))else .out ((n:Int),sr s q))):
  Ng step ((0,0),sr s l)=some (.out (((hexes 6 0 l).1:Int),sr s (hexes 6 0 l).2)):=by
 refine qO (fun z=> ∃(n i:Nat) (q:Str),z=(((n:Int),(i:Int)),sr s q)/\q<:+s/\i<=6/\n<16 ^ i/\hexes (6 - i) n q=hexes 6 0 l) (fun z=>6 - z.1.2.toNat) _ ?_ ⟨0,0,l,rfl,j,by omega,by decide,rfl⟩;rintro _ ⟨n,i,q,rfl,g,f,k,d⟩;have e:n<16777216:=Ac k (yf (by omega) f:16 ^ i<=16 ^ 6);rw[h n i q g e f];rcases ic i 6 with b|m
 ·rw[La b,Nb];cases a:qy (atS q 0)with
  |true=>
   cases q with
   |nil=>exact absurd a (by decide)
   |cons c r=>
    have o:=ow a;refine .inl ⟨_,rfl,⟨16*n+hexN (atS (c::r) 0),i+1,r,rfl,uh g,by omega,?_,?_⟩,by grind⟩
    ·grind
    ·rw[<-d,show 6 - i=(6 - (i+1))+1 by omega];rw[hexes.eq_def ((6 - (i+1))+1) n (c::r)];simp only;rw[Ea (show qy c=true from a)];rfl
  |false=> refine .inr (.inl ⟨_,rfl,?_⟩);rw[<-d,bD _ _ _ a]
 ·rw[Ob (by omega),Lc];refine .inr (.inl ⟨_,rfl,?_⟩);rw[<-d,show 6 - i=0 by omega];rfl
theorem yE: ∀(k n:Nat) (l:Str),(hexes k n l).1<16 ^ k*(n+1)
 |0,n,l=>by unfold hexes;omega
 |k+1,n,[]=>by have:0<16 ^ (k+1):=Bf (by omega);unfold hexes;exact Ac (Nat.lt_succ_self n) (Nat.le_mul_of_pos_left _ this)
 |k+1,n,c::r=>by
  unfold hexes;cases hx:qy c with
  |true=> rw[Ea rfl];have h1:=yE k (16*n+hexN c) r;have:=ow hx;refine Ac h1 ?_;rw[Jg,bf];exact Nat.mul_le_mul_left _ (by omega)
  |false=> rw[Fa (by decide)];have:0<16 ^ (k+1):=Bf (by omega);exact Ac (Nat.lt_succ_self n) (Nat.le_mul_of_pos_left _ this)
theorem YF{s l acc:Str}{c:UInt8}(hs:s.length<=big)(hr:c::l<:+s)(ha:acc.length<=1000000000):
  zX (sr s (c::l),acc)=some (sr s (zm l).2,acc++(zm l).1):=by
 have hl:=uh hr;unfold zX;simp only[ug hs hr,ze,Og hs hl,Aa,ul];cases l with
 |nil=> rw[show([]:Str).isEmpty=true from rfl,Ha,PM ha];rfl
 |cons d r=>
  rw[show(d::r).isEmpty=false from rfl,Ja,Fv];simp only[Aa,ay];cases hx:qy (atS (d::r) 0)with
  |false=>
   rw[Cb,Ha,Hm,Su];simp only[Aa,ug hs hl];rw[zG (Pg (by omega))];have:zm (d::r)=([d],r):=by show(if qy d then _ else _)=_;rw[Fa (by rw[show qy d=false from hx];decide)]
   rw[this]
  |true=>
   rw[Lb,Ja];have he:zm (d::r)=(Hg (hexes 6 0 (d::r)).1,unsp (hexes 6 0 (d::r)).2):=by show(if qy d then _ else _)=_;rw[Ea (show qy d=true from hx)]
   rw[he];rw[qP (JK (l:=d::r) hl (fun n i q hq hn hi=> ?_))]
   ·have hq:(hexes 6 0 (d::r)).2<:+s:=(Bz 6 0 _).trans hl;have hlt:=yE 6 0 (d::r);rw[show 16 ^ 6*(0+1)=16777216 from rfl]at hlt;simp only[Og hs hq,Aa,Gt];have hj:(bif spB (atS (hexes 6 0 (d::r)).2 0)then some (LX.out (((hexes 6 0 (d::r)).1:Int),(⟨s,w64 ((beh s (hexes 6 0 (d::r)).2:Int)+1)⟩:za),acc))else some (LX.out (((hexes 6 0 (d::r)).1:Int),sr s (hexes 6 0 (d::r)).2,acc)):Option (LX (Int×za×List UInt8) (za×List UInt8)))
      =some (LX.out (((hexes 6 0 (d::r)).1:Int),sr s (unsp (hexes 6 0 (d::r)).2),acc)):=by
     cases hh:(hexes 6 0 (d::r)).2 with
     |nil=>rfl
     |cons e t=>
      rw[hh]at hq;rw[show atS (e::t) 0=e from rfl,ug hs hq];show _=some (LX.out (_,sr s (if spB e then t else e::t),acc))
      grind
    rw[hj,zh];simp only;by_cases h0:(hexes 6 0 (d::r)).1=0
    ·rw[h0,show((((0:Nat):Int))==0)=true from rfl,Ha,zh];simp only[Vk (show 65533<2147483648 by omega),show w32 (65533:Int)=65533 from Vk (n:=65533) (by omega),PM ha,Aa];rfl
    ·rw[show(((hexes 6 0 (d::r)).1:Int)==0)=false by grind,Ja,zh];simp only[LP h0 hlt ha,Aa]
   ·simp only[Og hs hq,Aa,Fv,ay];have hb6:decide ((i:Int)<6)=decide (i<6):=by rw[decide_eq_decide];omega
    rw[hb6];cases decide (i<6)with
    |false=>rfl
    |true=>
     rw[Ha,Nb];cases hx2:qy (atS q 0)with
     |false=>rfl
     |true=>
      cases q with
      |nil=>exact absurd hx2 (by decide)
      |cons e t=>
       have hI:hexI (atS (e::t) 0)=(hexN (atS (e::t) 0):Int):=by unfold hexI;rw[Ea hx2]
       rw[hI,YH hn (ow hx2),ug hs hq,zZ (by omega) (by omega)];rfl
theorem aS{s r:Str}{k:Nat}(b:s.length<=big)(c:r<:+s)(d:k<=4):zC ((k:Int),sr s r)=some (escS (r.drop k)&&decide (k<r.length)):=by
 unfold zC;simp only[ze,Ml b c (show k<=8 by omega),Aa,RP];rw[show w64 ((k:Int)+1)=((k+1:Nat):Int) by rw[zZ (by omega) (by omega)];omega,Ml b c (by omega)];unfold escS;rw[qV,qV,Nc];cases h:(atS r k==92)with
 |false=>simp_all
 |true=> have a:k<r.length:=Vn (by grind);rw[La a];simp only[zu,Ha,Aa,Nb,Vb];unfold bne;rw[OB]
theorem bS{l:Str}(h:escS l=true):0<l.length:=by unfold escS at h;rw[Ba]at h;exact Vn (by grind)
theorem ky{s r:Str}{k:Nat}(hs:s.length<=big)(hr:r<:+s)(hk:k<=4):zC ((k:Int),sr s r)=some (escS (r.drop k)):=by
 rw[aS hs hr hk];cases h:escS (r.drop k)with
 |false=>rfl
 |true=> have:=bS h;rw[ja]at this;rw[La (by omega)];rfl
theorem TE{s r:Str}(a:s.length<=big)(b:r<:+s):zC (0,sr s r)=some (escS r):=ky (k:=0) a b (by omega)
theorem iA{s r:Str}{k:Nat}(a:s.length<=big)(b:r<:+s)(d:k<=2):zH ((k:Int),sr s r)=some (nmS (r.drop k)):=by
 unfold zH;have c:w64 ((k:Int)+1)=((k+1:Nat):Int):=by rw[zZ (by omega) (by omega)];omega
 simp only[c,ze,Ml a b (show k<=8 by omega),Ml a b (show k+1<=8 by omega),Aa,mP,ky a b (show k<=4 by omega),ky a b (show k+1<=4 by omega)];unfold nmS;rw[qV,qV,Je];unfold bne;rw[fq,Nc];cases atS r k==45 with
 |true=>
  simp only[Lb,Ja,Pd];cases fstB (atS r (k+1))with
  |true=>rfl
  |false=>
   simp only[Cb,zu,Ha,Ja,Aa,fq]
   grind
 |false=> simp only[Cb,Ha];cases fstB (atS r k)<;>cases escS (r.drop k)<;>rfl
theorem uT(n:Nat):(Hg n).length<=4:=by
 unfold Hg Ak
 grind
theorem Ez(l:Str):(zm l).1.length<=4:=by
 cases l with
 |nil=>show Ak.length<=4;decide
 |cons c r=>
  show(if qy c then(Hg (hexes 6 0 (c::r)).1,unsp (hexes 6 0 (c::r)).2)else([c],r)).1.length<=4;split
  ·exact uT _
  grind
theorem zI(c:UInt8)(r:Str):zg (c::r)=if letB c then((c::(zg r).1),(zg r).2)
  else if escS (c::r)then((zm r).1++(zg (zm r).2).1,(zg (zm r).2).2)
  else([],c::r):=by rw[zg]
theorem Z9:zg []=([],[]):=by rw[zg]
theorem zAD(l:Str):(pk l 0 != -1)= !l.isEmpty:=by unfold bne;rw[ul]
theorem Ev{s r:Str}(i:s.length<=big)(k:r<:+s):zS (sr s r)=some ((zg r).1,sr s (zg r).2):=by
 have m:big=4194304:=rfl;unfold zS;refine UF (r:=((zg r).1,sr s (zg r).2)) ?_;refine qO (fun z=> ∃(q a:Str),z=(sr s q,a)/\q<:+s/\a.length+4*q.length<=4*s.length/\a++(zg q).1=(zg r).1/\(zg q).2=(zg r).2) (fun z=>s.length - z.1.at_.toNat) _ ?_ ⟨r,[],rfl,k,by grind,rfl,rfl⟩;rintro _ ⟨q,a,rfl,f,j,d,b⟩;simp only[ze,Og i f,Aa,nK];cases q with
 |nil=>
  refine .inr (.inr ⟨_,rfl,?_⟩);rw[Z9]at d b
  grind
 |cons c t=>
  have g:=f.length_le;rw[Ka]at g j;rw[show atS (c::t) 0=c from rfl];rw[zI]at d b;cases e:letB c with
  |true=>
   rw[e,Ea rfl]at d b;refine .inl ⟨(sr s t,a++[c]),?_,⟨t,a++[c],rfl,uh f,by grind,by grind,b⟩,?_⟩
   ·rw[Ha,Hm,Su];simp only[Aa];rw[zG (Pg (by omega)),ug i f]
   ·show s.length - beh s t<s.length - beh s (c::t);unfold beh;grind
  |false=>
   rw[e,Fa (by decide)]at d b;rw[Ja,zAD,show(c::t).isEmpty=false from rfl,TE i f];cases h:escS (c::t)with
   |true=>
    rw[h,Ea rfl]at d b;have l:=Ez t;have n:=zP t;refine .inl ⟨(sr s (zm t).2,a++(zm t).1),?_,⟨_,_,rfl,(ZF t).trans (uh f),by grind,by grind,b⟩,?_⟩
    ·simp only[Cb,zu,Ha,Aa,YF i f (show a.length<=1000000000 by omega)]
    ·show s.length - beh s (zm t).2<s.length - beh s (c::t);unfold beh;grind
   |false=> simp_all
theorem QX(l:Str):(zg l).2<:+l:=by
 match l with
 |[]=>rw[Z9];grind
 |c::r=>
  rw[zI];split
  ·exact(QX r).trans (Ed c r)
  ·split
   ·have:=zP r;exact(QX (zm r).2).trans ((ZF r).trans (Ed c r))
   grind
termination_by l.length
decreasing_by
 all_goals grind
def escC(c:UInt8):Str:=bif decide (32<c.toNat)&&decide (c.toNat<127)&& !digB c&& !alB c then [92,c]else 92::(hexS c.toNat++[32])
def pcW(dash:Bool)(k:Nat)(c:UInt8):Str:=bif letB c&&(k==0|| !digB c)&& !dash then [c]else escC c
def encW(dash:Bool):Nat->Str->Str
 |_,[]=>[]
 |k,c::r=>pcW dash k c++encW dash (k - 1) r
theorem YV(c:UInt8):namN c.toNat=letB c:=by
 have: ∀n:Nat,n<256->namN (UInt8.ofNat n).toNat=letB (UInt8.ofNat n):=by decide+kernel
 have h:=this c.toNat (ma c);simp_all
theorem wQ(c:UInt8):Rn (c.toNat:Int)=some (letB c):=by rw[vN,YV]
theorem uI(c:UInt8):Qg (c.toNat:Int)=some (digB c):=wN c
theorem BV(c:UInt8):BA (c.toNat:Int)=some (alB c):=of_n (by decide+kernel) c
theorem oU(c:UInt8):wu64 (c.toNat:Int)=(c.toNat:Int):=by
 have:=ma c;show IntKind.u64.wrap _=_;have h: ∀n:Int,IntKind.u64.wrap n=n%18446744073709551616:=fun n=>by simp[IntKind.wrap,IntKind.bits,IntKind.signed]
 rw[h];omega
theorem Yx(c:UInt8):Zq ((c.toNat:Nat):Int)=some c:=by simp_all
theorem wJ(n:Nat):(hexS n).length<=2:=by unfold hexS;split<;>simp
theorem Fq(c:UInt8){acc:Str}(j:acc.length<=1000000000):Zt ((c.toNat:Int),acc)=some (acc++escC c):=by
 have i:=ma c;unfold Zt escC;simp only[ze,uI,BV];have g:decide ((c.toNat:Int)>32)=decide (32<c.toNat):=by rw[decide_eq_decide];omega
 have f:decide ((c.toNat:Int)<127)=decide (c.toNat<127):=by rw[decide_eq_decide];omega
 rw[g,f];have b:short (acc++[(92:UInt8)])=true:=La (by grind);have e:Rp ((wu64 (c.toNat:Int),16),acc++[(92:UInt8)])=some (acc++[(92:UInt8)]++hexS c.toNat):=by unfold Rp;simp only[oU,b];rw[zG (by simp;omega)];rfl
 have h:=wJ c.toNat;have a:need (zR acc.length 1 1) (ze (Rp ((wu64 (c.toNat:Int),16),acc++[(92:UInt8)])) fun d=>need (zR d.length 1 1) (some (d++[(32:UInt8)])))=some (acc++92::(hexS c.toNat++[32])):=by rw[zG (Pg (by omega)),e];simp only[ze,Aa];rw[zG (Pg (by grind))];simp
 simp only[ze]at a;rw[a];cases decide (32<c.toNat)with
 |false=>rfl
 |true=>
  cases decide (c.toNat<127)with
  |false=>rfl
  |true=>
   cases digB c with
   |true=>rfl
   |false=>
    cases alB c with
    |true=>rfl
    |false=> simp only[zu,Ha,Cb,Bool.and_self,Aa,Yx];rw[zG (Pg (by omega))]
theorem Bu(c:UInt8):(escC c).length<=4:=by
 have:=wJ c.toNat;unfold escC
 grind
theorem EJ(dash:Bool)(k:Nat)(c:UInt8):(pcW dash k c).length<=4:=by
 have:=Bu c;unfold pcW
 grind
theorem Nu(dash:Bool): ∀(k:Nat) (l:Str),(encW dash k l).length<=4*l.length
 |_,[]=>by unfold encW;simp
 |k,c::r=>by
  have:=EJ dash k c;have:=Nu dash (k - 1) r;unfold encW
  grind
theorem dS{dash:Bool}{k i:Nat}{l:Str}(h:i<l.length):encW dash (k - i) (l.drop i)=pcW dash (k - i) l[i]++encW dash (k - (i+1)) (l.drop (i+1)):=by rw[Eb h,encW,show k - i - 1=k - (i+1) by omega]
theorem bP {R:Type} {step:Int×List UInt8->Option (LO (Int×List UInt8) (List UInt8) R)} {l acc:Str} {k:Nat} {dash:Bool} (hl:l.length<=100000) (ha:acc.length<=100000000)
  (h1: ∀(i:Nat) (a:Str) (hi:i<l.length),a.length<=500000000->step ((i:Int),a)=some (.again (w64 ((i:Int)+1),a++pcW dash (k - i) l[i])))
  (h2: ∀a,step ((l.length:Int),a)=some (.out a)):Ng step (0,acc)=some (.out (acc++encW dash k l)):=by
 refine qO (fun z=> ∃(i:Nat) (a:Str),z=((i:Int),a)/\i<=l.length/\a.length<=acc.length+4*i/\a++encW dash (k - i) (l.drop i)=acc++encW dash k l) (fun z=>l.length - z.1.toNat) _ ?_ ⟨0,acc,rfl,by omega,by omega,rfl⟩;rintro _ ⟨i,a,rfl,hi,hal,he⟩;rcases ic i l.length with h|h
 ·refine .inl ⟨_,h1 i a h (by omega),⟨i+1,_,by rw[zZ (by omega) (by omega)];rfl,by omega,?_,?_⟩,by simp only;rw[zZ (by omega) (by omega)];omega⟩
  ·have:=EJ dash (k - i) l[i]
   grind
  ·rw[<-he,dS h,Ia]
 ·have:i=l.length:=by omega
  subst this;refine .inr (.inl ⟨_,h2 a,?_⟩);rw[<-he,xe (Va _)];rw[show encW dash (k - l.length) []=[] by rw[encW],Xa]
def il(k:Nat)(l:Str):Bool:= !(k==0)&&l==[45]
def Qv(l:Str):Nat:=if [45].isPrefixOf l then 2 else 1
theorem Au(l:Str):Z8 l=some ((Qv l:Nat):Int):=by
 unfold Z8 Qv;simp only[ze,Vq,Aa]
 grind
def Z0(l:Str):Str:=encW (l==[45]) (Qv l) l
theorem Rt{n:Nat}(h:n<16):qy (hexD n)=true/\hexN (hexD n)=n/\(hexD n==10)=false/\letB (hexD n)=true:=by
 have: ∀n:Nat,n<16->qy (hexD n)=true/\hexN (hexD n)=n/\(hexD n==10)=false/\letB (hexD n)=true:=by decide+kernel
 exact this n h
theorem wF{k n:Nat}{c:UInt8}{r:Str}(h:qy c=true):hexes (k+1) n (c::r)=hexes k (16*n+hexN c) r:=by rw[hexes,Ea h]
theorem oI{n:Nat}(h:n<256)(R:Str):hexes 6 0 (hexS n++32::R)=(n,32::R):=by
 unfold hexS;by_cases c:n<16
 ·obtain⟨a,b,_⟩:=Rt c;rw[Ea c,Xc,wF a,b,bD _ _ (32::R) (show qy 32=false by decide)];simp
 ·obtain⟨a,b,_⟩:=Rt (show n / 16<16 by omega);obtain⟨e,d,_⟩:=Rt (show n%16<16 by omega);rw[Fa c,Ta,Xc,wF a,wF e,b,d,bD _ _ (32::R) (show qy 32=false by decide)]
  grind
theorem XF{n:Nat}(h:n<256)(R:Str): ∃d t,hexS n++R=d::t/\qy d=true/\(d==10)=false:=by
 unfold hexS;by_cases c:n<16
 ·obtain⟨a,_,b,_⟩:=Rt c;simp_all
 ·obtain⟨a,_,b,_⟩:=Rt (show n / 16<16 by omega);exact⟨_,_,by rw[Fa c];rfl,a,b⟩
theorem UL{c:UInt8}(a:c≠0)(h:c.toNat<128):Hg c.toNat=[c]:=by
 have b:c.toNat≠0:=by intro e;exact a (Oe.1 e)
 unfold Hg;rw[Fa (by omega),Ea h,Jd]
theorem KM{r:Str}(h:escS (92::r)=true):zg (92::r)=((zm r).1++(zg (zm r).2).1,(zg (zm r).2).2):=by rw[zI,Fa (by decide),Ea h]
theorem XK{c:UInt8}(h0:c≠0)(h:c.toNat<128)(R:Str):zg (escC c++R)=(c::(zg R).1,(zg R).2):=by
 unfold escC;cases hg:decide (32<c.toNat)&&decide (c.toNat<127)&& !digB c&& !alB c with
 |true=>
  rw[Ha];have hx:qy c=false/\(c==10)=false:=by
   have: ∀n:Nat,n<256->(decide (32<(UInt8.ofNat n).toNat)&&decide ((UInt8.ofNat n).toNat<127)&& !digB (UInt8.ofNat n)&& !alB (UInt8.ofNat n))=true->qy (UInt8.ofNat n)=false/\(UInt8.ofNat n==10)=false:=by decide+kernel
   have:=this c.toNat (ma c);rw[Jd]at this;exact this hg
  have he:zm (c::R)=([c],R):=by show(if qy c then _ else _)=_;rw[Fa (by rw[hx.1];decide)]
  rw[show [92,c]++R=92::c::R from rfl,KM (by unfold escS;rw[show atS (92::c::R) 0=92 from rfl,show atS (92::c::R) 1=c from rfl,hx.2];rfl),he];rfl
 |false=>
  rw[Ja,Ta,Ia];obtain⟨d,t,e,hd,h10⟩:=XF (n:=c.toNat) (ma c) ([32]++R);have he:zm (hexS c.toNat++([32]++R))=([c],R):=by have hh:=oI (n:=c.toNat) (ma c) R;rw[show(32::R:Str)=[32]++R from rfl,e]at hh;rw[e];show(if qy d then(Hg (hexes 6 0 (d::t)).1,unsp (hexes 6 0 (d::t)).2)else _)=_;rw[Ea hd,hh,UL h0 h];rfl
  rw[KM (by rw[e];unfold escS;rw[show atS (92::d::t) 0=92 from rfl,show atS (92::d::t) 1=d from rfl,h10];rfl),he];rfl
theorem Ux{c:UInt8}(h: ¬c.toNat<128):letB c=true/\digB c=false:=by
 have: ∀n:Nat,n<256-> ¬(UInt8.ofNat n).toNat<128->letB (UInt8.ofNat n)=true/\digB (UInt8.ofNat n)=false:=by decide+kernel
 have:=this c.toNat (ma c);simp_all
theorem SI{dash:Bool}{k:Nat}{c:UInt8}(e:c≠0)(f:dash=true->c.toNat<128)(R:Str):zg (pcW dash k c++R)=(c::(zg R).1,(zg R).2):=by
 unfold pcW;cases d:letB c&&(k==0|| !digB c)&& !dash with
 |true=> rw[Ba,Ba]at d;rw[Ha,Xc,zI,Ea d.1.1]
 |false=>
  rw[Ja];refine XK e ?_ R;by_cases h:c.toNat<128
  ·exact h
  ·obtain⟨a,b⟩:=Ux h
   grind
theorem YK{dash:Bool}: ∀(k:Nat) (l:Str),Zc l=true->(dash=true-> ∀c∈l,c.toNat<128)->zg (encW dash k l)=(l,[])
 |_,[],_,_=>by rw[encW,Z9]
 |k,c::r,h,a=>by unfold Zc at h;rw[Ic,Ba]at h;rw[encW,SI (by grind) (fun e=>a e c (Xb ..)),YK (k - 1) r h.2 (fun e x b=>a e x (Fb _ b))]
theorem kV{l:Str}(h:Zc l=true):zg (Z0 l)=(l,[]):=by refine YK _ _ h (fun e c a=> ?_);simp_all
theorem Wy{dash:Bool}{k:Nat}(hk:0<k)(c:UInt8)(R:Str): ∃d t,pcW dash k c++R=d::t/\(d=92/\escS (d::t)=true\/(d=c/\dash=false/\letB d=true/\digB d=false/\t=R)):=by
 have hk0:(k==0)=false:=by rw[Da];omega
 unfold pcW;rw[hk0,xc];cases hg:letB c&& !digB c&& !dash with
 |true=> rw[Ba,Ba,Me,Me]at hg;exact⟨c,R,rfl, .inr ⟨rfl,hg.2,hg.1.1,hg.1.2,rfl⟩⟩
 |false=>
  rw[Ja];unfold escC;cases hg2:decide (32<c.toNat)&&decide (c.toNat<127)&& !digB c&& !alB c with
  |true=>
   refine⟨92,c::R,rfl, .inl ⟨rfl,?_⟩⟩;have:c≠10:=by rintro rfl;revert hg2;decide
   unfold escS;rw[show atS (92::c::R) 1=c from rfl,Da.2 this];rfl
  |false=> obtain⟨d,t,e,hd,h10⟩:=XF (n:=c.toNat) (ma c) ([32]++R);refine⟨92,_,by rw[Ja,Ta,Ia], .inl ⟨rfl,?_⟩⟩;rw[e];unfold escS;rw[show atS (92::d::t) 1=d from rfl,h10];rfl
theorem gL{d:UInt8}(h:letB d=true)(h2:digB d=false):fstB d=true\/d=45:=by
 unfold letB at h
 grind
theorem Yv{d:UInt8}{t:Str}(a:d=92)(h:escS (d::t)=true):nmS (d::t)=true:=by subst a;unfold nmS;rw[show atS (92::t) 0=92 from rfl,Fa (by decide),h,Tf]
theorem ai{l:Str}(h:l≠[]):nmS (Z0 l)=true:=by
 cases l with
 |nil=>grind
 |cons c r=>
  unfold Z0 encW;obtain⟨d,t,e,u⟩:=Wy (dash:=(c::r:Str)==[45]) (k:=Qv (c::r)) (by unfold Qv;split<;>omega) c (encW ((c::r:Str)==[45]) (Qv (c::r) - 1) r);rw[e];rcases u with⟨q,j⟩|⟨rfl,j,x,v,o⟩
  ·exact Yv q j
  ·rcases gL x v with p|rfl
   ·by_cases m:d=45
    ·subst m;exact absurd p (by decide)
    ·unfold nmS;rw[show atS (d::t) 0=d from rfl,Fa (by grind),p,Ee]
   ·have C:r≠[]:=by rintro rfl;exact absurd j (by decide)
    cases r with
    |nil=>grind
    |cons f g=>
     have A:Qv (45::f::g)=2:=rfl;rw[A]at o;obtain⟨a,b,y,n⟩:=Wy (dash:=(45::f::g:Str)==[45]) (k:=2 - 1) (by omega) f (encW ((45::f::g:Str)==[45]) (2 - 1 - 1) g);have z:t=a::b:=by rw[o,encW,y]
     rw[z];unfold nmS;rw[show atS (45::a::b) 0=45 from rfl,Ea (show((45:UInt8)==45)=true from rfl),show atS (45::a::b) 1=a from rfl,show(45::a::b:Str).drop 1=a::b from rfl];rcases n with⟨_,B⟩|⟨_,_,s,w,_⟩
     ·grind
     ·rcases gL s w with i|rfl
      ·rw[i];rfl
      ·simp
def hdB(b:UInt8):Bool:=b==45||fstB b||b==92
theorem Dj{q:Str}(h:nmS q=true):hdB (atS q 0)=true:=by
 unfold nmS at h;unfold hdB;cases a:atS q 0==45 with
 |true=>rfl
 |false=>
  rw[a,Fa (by decide),Pb]at h;rcases h with h|h
  ·rw[h];rfl
  ·unfold escS at h
   grind
theorem Oo{b:UInt8}(h:hdB b=true):spB b=false/\(b==34)=false/\(b==39)=false/\(b==35)=false/\(b==64)=false/\(b==47)=false/\(b==60)=false/\(b==43)=false/\(b==46)=false/\digB b=false/\b≠0:=by
 have: ∀n:Nat,n<256->hdB (UInt8.ofNat n)=true->spB (UInt8.ofNat n)=false/\(UInt8.ofNat n==34)=false/\(UInt8.ofNat n==39)=false/\(UInt8.ofNat n==35)=false/\(UInt8.ofNat n==64)=false/\(UInt8.ofNat n==47)=false/\(UInt8.ofNat n==60)=false/\(UInt8.ofNat n==43)=false/\(UInt8.ofNat n==46)=false/\digB (UInt8.ofNat n)=false/\UInt8.ofNat n≠0:=by decide+kernel
 have:=this b.toNat (ma b);simp_all
theorem IB{q:Str}(h:nmS q=true):nbS q=false:=by
 obtain⟨_,_,_,_,_,_,_,a,j,f,_⟩:=Oo (Dj h);unfold nbS unsign Qo;rw[a,xc];cases b:atS q 0==45 with
 |false=>
  rw[Fa (by decide)];unfold undot
  grind
 |true=>
  rw[Ea rfl];unfold nmS at h;rw[b,Ea rfl]at h;have i:hdB (atS q 1)=true:=by
   unfold hdB;cases e:fstB (atS q 1)with
   |true=>simp
   |false=>
    cases g:atS q 1==45 with
    |true=>rfl
    |false=> rw[e,g,xc,xc]at h;unfold escS at h;rw[Ba,qV]at h;rw[h.1];rfl
  obtain⟨_,_,_,_,_,_,_,_,d,c,_⟩:=Oo i;unfold undot;rw[qV,d,Fa (by decide),qV,c]
theorem MH{s r:Str}:(decide ((0:Int)<=(beh s r:Int))&&decide ((beh s r:Int)<=(s.length:Int)))=true:=by
 have:=Oj s r
 grind
theorem SC{s r:Str}(a:r<:+s):List.drop ((beh s r:Int)).toNat s=r:=by rw[Yb,Pp a]
theorem Cw{a b:UInt8}{m t:Str}(h:(b==a)=false):(a::m).isPrefixOf (b::t)=false:=by
 grind
theorem kR{a:UInt8}{m q:Str}(c:a≠0)(h:(atS q 0==a)=false):(a::m).isPrefixOf q=false:=by
 cases q with
 |nil=>rfl
 |cons b t=>exact Cw h
theorem QA(m:UInt8):zK m []=(some [],[]):=by rw[zK]
theorem Z7(m c:UInt8)(r:Str):zK m (c::r)=if c==m then(some [],r)
  else if c==10 then(none,c::r)
  else if c==92 then
   (if r.isEmpty then(some [],[])
   else if atS r 0==10 then zK m (r.drop 1)
   else((zK m (zm r).2).1.map ((zm r).1++ ·),(zK m (zm r).2).2))
  else((zK m r).1.map (c:: ·),(zK m r).2):=by rw[zK]
theorem nz(m:UInt8)(l:Str):(zK m l).2<:+l:=by
 match l with
 |[]=>rw[QA];grind
 |c::r=>
  rw[Z7];have a:=Ed c r;split
  ·exact a
  ·split
   ·grind
   ·split
    ·split
     ·grind
     ·split
      ·exact(nz m (r.drop 1)).trans ((He 1 r).trans a)
      ·have:=zP r;exact(nz m (zm r).2).trans ((ZF r).trans a)
    ·exact(nz m r).trans a
termination_by l.length
decreasing_by
 all_goals grind
theorem uD(a b:Str)(x:Option Str):(x.map (b++ ·)).map (a++ ·)=x.map ((a++b)++ ·):=by
 cases x with
 |none=>rfl
 |some t=>grind
theorem pJ(a:Str)(b:UInt8)(x:Option Str):(x.map (b:: ·)).map (a++ ·)=x.map ((a++[b])++ ·):=uD a [b] x
def Ei:Option Str->zb
 |some t=>⟨5,t,0,[],false⟩
 |none=>⟨6,[],0,[],false⟩
theorem xP{s q:Str}{m:UInt8}(k:s.length<=big)(w:m::q<:+s):ZL (sr s (m::q))=some (Ei (zK m q).1,sr s (zK m q).2):=by
 have J:big=4194304:=rfl;have D:=uh w;unfold ZL;simp only[ze,Og k w,Aa,Hm,ug k w]
 let g:LX (za×zb×List UInt8) (zb×za):=match(zK m q).1 with
  |some t=> .out (sr s (zK m q).2,⟨0,[],0,[],false⟩,t)
  |none=> .ret (⟨6,[],0,[],false⟩,sr s (zK m q).2)
 rw[gm (r:=g)]
 ·show LX.go g _=_;cases h:(zK m q).1 with
  |some t=>simp only[g,h];rfl
  |none=>simp only[g,h];rfl
 refine qO (fun z=> ∃(p e:Str),z=(sr s p,⟨0,[],0,[],false⟩,e)/\p<:+s/\e.length+4*p.length<=4*s.length/\(zK m q).1=(zK m p).1.map (e++ ·)/\(zK m q).2=(zK m p).2) (fun z=>s.length - z.1.at_.toNat) _ ?_
  ⟨q,[],rfl,D,by grind,by simp,rfl⟩
 rintro _ ⟨p,e,rfl,j,C,b,a⟩;simp only[Og k j,Aa,ul,OB,RP];cases p with
 |nil=>
  refine .inr (.inl ⟨_,rfl,?_⟩);rw[QA]at b a
  grind
 |cons c t=>
  have i:=j.length_le;rw[Ka]at i C;have n:=uh j;rw[Z7]at b a;rw[show(c::t).isEmpty=false from rfl,Ja,Hm,show((c.toNat:Int)==(m.toNat:Int))=(c==m)from Xx c m,show atS (c::t) 0=c from rfl,ug k j];have f: ∀u:Str,u.length<=t.length->u<:+s->s.length - beh s u<s.length - beh s (c::t):=by intro u A F;unfold beh;rw[Ka];omega
  cases v:c==m with
  |true=>
   grind
  |false=>
   rw[v,Fa (by decide)]at b a;rw[Ja];cases y:c==10 with
   |true=>
    grind
   |false=>
    rw[y,Fa (by decide)]at b a;rw[Ja];cases l:c==92 with
    |false=> rw[l,Fa (by decide)]at b a;simp only[zu,Ja,Aa,Df,Su];rw[zG (Pg (by omega))];exact .inl ⟨_,rfl,⟨t,e++[c],rfl,n,by grind,by rw[b,pJ],a⟩,f t (by omega) n⟩
    |true=>
     rw[l,Ea rfl]at b a;simp only[zu,Ha,Cs k j,Aa,Vb];have x:pk (c::t) 1=pk t 0:=rfl;rw[x,ul];cases t with
     |nil=>
      rw[show([]:Str).isEmpty=true from rfl,Ea rfl]at b a;have o:beh s [c]=s.length - 1:=rfl;have G:(if((s.length:Int)<w64 ((beh s [c]:Int)+2))then(s.length:Int)else w64 ((beh s [c]:Int)+2))=((beh s []:Nat):Int):=by rw[zZ (by omega) (by omega),Ea (by omega)];unfold beh;rw[Gc];omega
      refine .inl ⟨(sr s [],⟨0,[],0,[],false⟩,e),?_,⟨[],e,rfl,List.nil_suffix,by grind,by rw[b,QA],by rw[a,QA]⟩,f [] (by simp) List.nil_suffix⟩
      grind
     |cons d u=>
      rw[show(d::u).isEmpty=false from rfl,Fa (by decide)]at b a;simp only[show(d::u).isEmpty=false from rfl,Cb,Ha,Ja,Aa,OB];cases B:atS (d::u) 0==10 with
      |true=>
       rw[B,Ea rfl]at b a;have A:=uh n;rw[Ka]at i C;have o:beh s (c::d::u)=s.length - (u.length+1+1):=by unfold beh;rw[Ka,Ka]
       have G:(if((s.length:Int)<w64 ((beh s (c::d::u):Int)+2))then(s.length:Int)else w64 ((beh s (c::d::u):Int)+2))=((beh s u:Nat):Int):=by rw[zZ (by omega) (by omega),Fa (by omega)];unfold beh;rw[Ka,Ka];omega
       refine .inl ⟨(sr s u,⟨0,[],0,[],false⟩,e),?_,⟨u,e,rfl,A,by omega,b,a⟩,f u (by grind) A⟩
       grind
      |false=> rw[B,Fa (by decide)]at b a;have H:=Ez (d::u);have E:=zP (d::u);refine .inl ⟨(sr s (zm (d::u)).2,⟨0,[],0,[],false⟩,e++(zm (d::u)).1),?_,⟨_,_,rfl,(ZF _).trans n,by grind,by rw[b,uD],a⟩,f _ E ((ZF _).trans n)⟩;simp only[Ja,YF k j (show e.length<=1000000000 by omega),Aa]
theorem MP{n:Nat}(l:n≠0)(h:n<16777216):ZB (w32 (n:Int))=some (Hg n):=by
 have j:zR 0 1 1=true:=Pg (by omega);have f:zR 0 2 1=true:=Pg (by omega);have d:zR 0 3 1=true:=Pg (by omega);have g:zR 0 4 1=true:=Pg (by omega);have c:(128+n%64)<256:=by omega
 have a:(128+n / 64%64)<256:=by omega
 have b:(128+n / 4096%64)<256:=by omega
 unfold ZB qK Hg;simp only[Vk (show n<2147483648 by omega),iJ (show n<2147483648 by omega),ze,shr6,JP,IP,tJ,Zw c,Zw a,Zw b,Aa];by_cases e:n<128
 ·rw[La (by omega),Ha,Dt,Zw (by omega),Aa,zG j,Fa (by omega),Ea e,Ff (by omega)]
 ·rw[Ob (by omega),Ja];by_cases i:n<2048
  ·rw[La (by omega),Ha,vO (by omega),Zw (by omega)];simp only[Aa];rw[zG f,Fa (by omega),Fa (by omega),Ea i];rfl
  ·rw[Ob (by omega),Ja];by_cases m:n<55296
   ·rw[La (by omega),Ha,zh];simp only[Ha];rw[yu (by omega),Zw (by omega)];simp only[Aa];rw[zG d,Fa (by omega),Fa (by omega),Fa (by omega),Ea (by omega)];rfl
   ·rw[Ob (by omega),Ja,zh];simp only[xH];by_cases k:57343<n/\n<65536
    ·rw[La (by omega),La (by omega),Vb,Ha,yu (by omega),Zw (by omega)];simp only[Aa];rw[zG d,Fa (by omega),Fa (by omega),Fa (by omega),Ea (by omega)];rfl
    ·rw[show(decide ((57343:Int)<(n:Int))&&decide ((n:Int)<=65535))=false by grind,Ja];by_cases o:65535<n/\n<=1114111
     ·rw[La (by omega),La (by omega),Vb,Ha,uO (by omega),Zw (by omega)];simp only[Aa];rw[zG g,Fa (by omega),Fa (by omega),Fa (by omega),Fa (by omega)];rfl
     ·rw[show(decide ((n:Int)>65535)&&decide ((n:Int)<=1114111))=false by grind,Ja,zG d,Ea (by omega)];rfl
theorem uM:ZB 65533=some Ak:=by have h:=MP (n:=65533) (by omega) (by omega);rw[Vk (by omega)]at h;exact h
theorem RX{s l:Str}{c:UInt8}(hs:s.length<=big)(hr:c::l<:+s):
  Zk (sr s (c::l))=some (sr s (zm l).2,(zm l).1):=by
 have hl:=uh hr;unfold Zk;simp only[ug hs hr,ze,Og hs hl,Aa,ul];cases l with
 |nil=> rw[show([]:Str).isEmpty=true from rfl,Ha,uM];rfl
 |cons d r=>
  rw[show(d::r).isEmpty=false from rfl,Ja,Fv];simp only[Aa,ay];cases hx:qy (atS (d::r) 0)with
  |false=>
   rw[Cb,Ha,Hm,Su];simp only[Aa,ug hs hl];rw[zG (Pg (n:=0) (by omega))];have:zm (d::r)=([d],r):=by show(if qy d then _ else _)=_;rw[Fa (by rw[show qy d=false from hx];decide)]
   rw[this]
  |true=>
   rw[Lb,Ja];have he:zm (d::r)=(Hg (hexes 6 0 (d::r)).1,unsp (hexes 6 0 (d::r)).2):=by show(if qy d then _ else _)=_;rw[Ea (show qy d=true from hx)]
   rw[he];rw[qP (JK (l:=d::r) hl (fun n i q hq hn hi=> ?_))]
   ·have hq:(hexes 6 0 (d::r)).2<:+s:=(Bz 6 0 _).trans hl;have hlt:=yE 6 0 (d::r);rw[show 16 ^ 6*(0+1)=16777216 from rfl]at hlt;simp only[Og hs hq,Aa,Gt];have hj:(bif spB (atS (hexes 6 0 (d::r)).2 0)then some (LX.out (((hexes 6 0 (d::r)).1:Int),(⟨s,w64 ((beh s (hexes 6 0 (d::r)).2:Int)+1)⟩:za)))else some (LX.out (((hexes 6 0 (d::r)).1:Int),sr s (hexes 6 0 (d::r)).2)):Option (LX (Int×za) (za×List UInt8)))
      =some (LX.out (((hexes 6 0 (d::r)).1:Int),sr s (unsp (hexes 6 0 (d::r)).2))):=by
     cases hh:(hexes 6 0 (d::r)).2 with
     |nil=>rfl
     |cons e t=>
      rw[hh]at hq;rw[show atS (e::t) 0=e from rfl,ug hs hq];show _=some (LX.out (_,sr s (if spB e then t else e::t)))
      grind
    rw[hj,zh];simp only;by_cases h0:(hexes 6 0 (d::r)).1=0
    ·rw[h0,show((((0:Nat):Int))==0)=true from rfl,Ha,zh];simp only[Vk (show 65533<2147483648 by omega),show w32 (65533:Int)=65533 from Vk (n:=65533) (by omega),uM,Aa];rfl
    ·rw[show(((hexes 6 0 (d::r)).1:Int)==0)=false by grind,Ja,zh];simp only[MP h0 hlt,Aa]
   ·simp only[Og hs hq,Aa,Fv,ay];have hb6:decide ((i:Int)<6)=decide (i<6):=by rw[decide_eq_decide];omega
    rw[hb6];cases decide (i<6)with
    |false=>rfl
    |true=>
     rw[Ha,Nb];cases hx2:qy (atS q 0)with
     |false=>rfl
     |true=>
      cases q with
      |nil=>exact absurd hx2 (by decide)
      |cons e t=>
       have hI:hexI (atS (e::t) 0)=(hexN (atS (e::t) 0):Int):=by unfold hexI;rw[Ea hx2]
       rw[hI,YH hn (ow hx2),ug hs hq,zZ (by omega) (by omega)];rfl
theorem Ku:badS []=[]:=by rw[badS]
theorem fu(c:UInt8)(r:Str):badS (c::r)=if c==41 then r else if escS (c::r)then badS (zm r).2 else badS r:=by rw[badS]
theorem dx(l:Str):badS l<:+l:=by
 match l with
 |[]=>rw[Ku];grind
 |c::r=>
  rw[fu];have a:=Ed c r;split
  ·exact a
  ·split
   ·have:=zP r;exact(dx (zm r).2).trans ((ZF r).trans a)
   ·exact(dx r).trans a
termination_by l.length
decreasing_by
 all_goals grind
theorem bQ{s t:Str}{c:UInt8}(e:s.length<=big)(h:c::t<:+s):geti s (w64 ((beh s t:Int) - 1))=some c:=by
 have f:big=4194304:=rfl;have b:=h.length_le;rw[Ka]at b;have d:=Pp h;have g:beh s t=beh s (c::t)+1:=by unfold beh;rw[Ka];omega
 have a:beh s (c::t)<s.length:=by unfold beh;rw[Ka];omega
 rw[zZ (by omega) (by omega),show(beh s t:Int) - 1=((beh s (c::t):Nat):Int) by omega,lh a];rw[Eb a]at d
 grind
theorem badR{s q:Str}(e:s.length<=big)(j:q<:+s):Zx (sr s q)=some (⟨8,[],0,[],false⟩,sr s (badS q)):=by
 unfold Zx;refine UF ?_;refine qO (fun z=> ∃(p:Str),z=(sr s p,(⟨0,[],0,[],false⟩:zb))/\p<:+s/\badS q=badS p) (fun z=>s.length - z.1.at_.toNat) _ ?_ ⟨q,rfl,j,rfl⟩;rintro _ ⟨p,rfl,b,g⟩;simp only[ze,Og e b,Aa,ul];cases p with
 |nil=>exact .inr (.inr ⟨_,rfl,by rw[g,Ku]⟩)
 |cons c t=>
  have d:=b.length_le;rw[Ka]at d;have i:=uh b;have f: ∀u:Str,u.length<=t.length->u<:+s->s.length - beh s u<s.length - beh s (c::t):=by intro u l k;unfold beh;rw[Ka];omega
  rw[show(c::t).isEmpty=false from rfl,Ja,TE e b];rw[fu]at g;simp only[Aa];cases a:escS (c::t)with
  |true=>
   have h:(c==41)=false:=by unfold escS at a;rw[Ba,Sa]at a;rw[show c=92 from a.1];decide
   rw[a,h,Fa (by decide),Ea rfl]at g;rw[Ha,RX e b];exact .inl ⟨_,rfl,⟨_,rfl,(ZF t).trans i,g⟩,f _ (zP t) ((ZF t).trans i)⟩
  |false=>
   rw[Ja,ug e b,bQ e b];simp only[Aa];rw[show((c.toNat:Int)==41)=(c==41)from Xx c 41]
   grind
theorem Il:urlS []=(some [],[]):=by rw[urlS]
theorem Q5(c:UInt8)(r:Str):urlS (c::r)=if c==41 then(some [],r)
  else if spB c then(match past spB r with
   |[]=>(some [],[])
   |d::a=>if d==41 then(some [],a)else(none,badS (d::a)))
  else if c==34||c==39||c==40||unB c||c==92&& !escS (c::r)then(none,badS (c::r))
  else if c==92 then((urlS (zm r).2).1.map ((zm r).1++ ·),(urlS (zm r).2).2)
  else((urlS r).1.map (c:: ·),(urlS r).2):=by rw[urlS];grind
theorem KD(l:Str):(urlS l).2<:+l:=by
 match l with
 |[]=>rw[Il];grind
 |c::r=>
  rw[Q5];have a:=Ed c r;split
  ·exact a
  ·split
   ·have b:=(qB spB r).trans a;cases e:past spB r with
    |nil=>grind
    |cons d f=>
     rw[e]at b;simp only;split
     ·exact(Ed d f).trans b
     ·exact(dx _).trans b
   ·split
    ·exact dx _
    ·split
     ·have:=zP r;exact(KD (zm r).2).trans ((ZF r).trans a)
     ·exact(KD r).trans a
termination_by l.length
decreasing_by
 all_goals grind
def Ni:Option Str->zb
 |some t=>⟨7,t,0,[],false⟩
 |none=>⟨8,[],0,[],false⟩
theorem jP(c:UInt8): ∃y,zu (!(bif bif bif bif (c.toNat:Int)==34 then true else(c.toNat:Int)==39 then true else(c.toNat:Int)==40 then true else decide ((c.toNat:Int)<=8)then true else(c.toNat:Int)==11)) (qD ((c.toNat:Int),14,31)) (default:Bool)=some y/\
  (bif bif bif bif bif bif (c.toNat:Int)==34 then true else(c.toNat:Int)==39 then true else(c.toNat:Int)==40 then true else decide ((c.toNat:Int)<=8)then true else(c.toNat:Int)==11 then true else y then true else(c.toNat:Int)==127)=(c==34||c==39||c==40||unB c):=by
 have a: ∀n:Nat,n<256->((zu (!(bif bif bif bif (n:Int)==34 then true else(n:Int)==39 then true else(n:Int)==40 then true else decide ((n:Int)<=8)then true else(n:Int)==11)) (qD ((n:Int),14,31)) (default:Bool)).elim false fun y=>
  (bif bif bif bif bif bif (n:Int)==34 then true else(n:Int)==39 then true else(n:Int)==40 then true else decide ((n:Int)<=8)then true else(n:Int)==11 then true else y then true else(n:Int)==127)==(UInt8.ofNat n==34||UInt8.ofNat n==39||UInt8.ofNat n==40||unB (UInt8.ofNat n)))=true:=by decide+kernel
 have h:=a c.toNat (ma c);rw[Jd]at h;cases b:zu (!(bif bif bif bif (c.toNat:Int)==34 then true else(c.toNat:Int)==39 then true else(c.toNat:Int)==40 then true else decide ((c.toNat:Int)<=8)then true else(c.toNat:Int)==11)) (qD ((c.toNat:Int),14,31)) (default:Bool)with
 |none=>grind
 |some y=>
  grind
theorem JB(c:UInt8)(t:Str):(pk (c::t) 0== -1)=false:=by rw[ul];rfl
theorem urlR{s w:Str}(f:s.length<=big)(v:w<:+s):qb (sr s w)=some (Ni (urlS (past spB w)).1,sr s (urlS (past spB w)).2):=by
 have L:big=4194304:=rfl;unfold qb;rw[Vv f v];simp only[ze,Aa];have E:=Rm spB v;generalize past spB w=q at E ⊢;refine UF ?_;refine qO (fun z=> ∃(p e:Str),z=(sr s p,(⟨0,[],0,[],false⟩:zb),e)/\p<:+s/\e.length+4*p.length<=4*s.length/\(urlS q).1=(urlS p).1.map (e++ ·)/\(urlS q).2=(urlS p).2) (fun z=>s.length - z.1.at_.toNat) _ ?_
  ⟨q,[],rfl,E,by grind,by simp,rfl⟩
 rintro _ ⟨p,e,rfl,h,G,b,a⟩;simp only[Og f h,Aa,Gt];cases p with
 |nil=> refine .inr (.inr ⟨_,rfl,?_⟩);rw[Il]at b a;rw[b,a];simp only[Jf,Xa,Ni]
 |cons c t=>
  have m:=h.length_le;rw[Ka]at m G;have r:=uh h;have k: ∀u:Str,u.length<=t.length->u<:+s->s.length - beh s u<s.length - beh s (c::t):=by intro u M J;unfold beh;rw[Ka];omega
  rw[Q5]at b a;rw[show atS (c::t) 0=c from rfl];cases j:spB c with
  |true=>
   have i:(c==41)=false:=by rw[Da];rintro rfl;exact absurd j (by decide)
   rw[i,j,Fa (by decide),Ea rfl]at b a;have D:past spB (c::t)=past spB t:=by rw[past,Ea j]
   have g:past spB t<:+s:=Rm spB r;rw[Ha,Vv f h,D];simp only[Aa,Og f g];cases o:past spB t with
   |nil=> rw[o]at b a;refine .inr (.inr ⟨_,rfl,?_⟩);simp only at b a;rw[b,a];simp only[Jf,Xa,Ni]
   |cons d F=>
    rw[o]at b a g;simp only at b a;unfold bne;rw[NB,JB,show atS (d::F) 0=d from rfl];cases C:d==41 with
    |true=> rw[C,Ea rfl]at b a;refine .inr (.inr ⟨_,?_,rfl⟩);simp only[Lb,Ja,zh,JB,NB,show atS (d::F) 0=d from rfl,C,Ha,ug f g];rw[b,a];simp only[Jf,Xa,Ni]
    |false=> rw[C,Fa (by decide)]at b a;refine .inr (.inr ⟨_,?_,rfl⟩);simp only[Cb,Ha,badR f g,Aa,zty];rw[b,a];rfl
  |false=>
   rw[Ja,zh];simp only[JB,NB,show atS (c::t) 0=c from rfl,Ja,ug f h];cases i:c==41 with
   |true=> rw[i,Ea rfl]at b a;refine .inr (.inr ⟨_,by rw[Ha],?_⟩);rw[b,a];simp only[Jf,Xa,Ni]
   |false=>
    rw[i,Fa (by decide),j,Fa (by decide)]at b a;rw[Ja];obtain⟨y,B,A⟩:=jP c;rw[Hm,B];simp only[Aa];rw[A];cases x:(c==34||c==39||c==40||unB c)with
    |true=> rw[x,Ee,Ea rfl]at b a;refine .inr (.inr ⟨_,?_,rfl⟩);rw[Ha,badR f h];simp only[Aa];rw[b,a];rfl
    |false=>
     rw[x,xc]at b a;rw[Ja];unfold bne;rw[show((c.toNat:Int)==92)=(c==92)from Xx c 92];cases n:c==92 with
     |false=> rw[n,Lc,Fa (by decide),Fa (by decide)]at b a;rw[Cb,Ha,Su];simp only[Aa];rw[zG (Pg (by omega))];exact .inl ⟨_,rfl,⟨t,e++[c],rfl,r,by grind,by rw[b,pJ],a⟩,k t (Va _) r⟩
     |true=>
      rw[n,Nb]at b a;rw[Lb,Ja,TE f h];simp only[Aa];cases l:escS (c::t)with
      |true=> rw[l,Lb,Fa (by decide),Ea rfl]at b a;have K:=Ez t;have H:=zP t;refine .inl ⟨(sr s (zm t).2,⟨0,[],0,[],false⟩,e++(zm t).1),?_,⟨_,_,rfl,(ZF _).trans r,by grind,by rw[b,uD],a⟩,k _ H ((ZF _).trans r)⟩;simp only[Ha,YF f h (show e.length<=1000000000 by omega),Aa]
      |false=> rw[l,Cb,Ea rfl]at b a;refine .inr (.inr ⟨_,?_,rfl⟩);rw[Ja,badR f h];simp only[Aa];rw[b,a];rfl
end Go.Lv.VT
