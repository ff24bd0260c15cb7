/- The value of a number's text, in thousandths: what the program's function computes. -/
import Derived.Test.YtbgmaekmfjhfoaaGreatDoorXd
set_option linter.unusedSimpArgs false
set_option linter.unusedVariables false
namespace Go.Lv.VT
set_option maxRecDepth 100000
def capF(cap:Nat):Nat->Str->Nat
 |n,[]=>n
 |n,c::r=>capF cap (min cap (decN n c)) r
theorem WN(cap:Nat): ∀(l:Str) (n:Nat) (c:UInt8),capF cap n (l++[c])=min cap (decN (capF cap n l) c)
 |[],_,_=>rfl
 |d::l,n,c=>by show capF cap (min cap (decN n d)) (l++[c])=_;rw[WN cap l];rfl
theorem Ky(cap:Nat): ∀(l:Str) (n:Nat),n<=cap->capF cap n l<=cap
 |[],_,h=>h
 |c::l,n,_=>Ky cap l _ (Nat.min_le_left ..)
theorem KL {R:Type} {step:Int×Int->Option (LO (Int×Int) Int R)} {l:Str} {cap:Nat} (b:l.all digB=true) (j:l.length<=100000) (f:cap<=1000000000000)
  (a: ∀(v:Int) (i:Nat) (hi:i<l.length),step (v,(i:Int))=some (.again (if(cap:Int)<w64 (w64 (10*v)+w64 (wu8 ((l[i].toNat:Int) - 48)))then(cap:Int)else w64 (w64 (10*v)+w64 (wu8 ((l[i].toNat:Int) - 48))),w64 ((i:Int)+1))))
  (h2: ∀v:Int,step (v,(l.length:Int))=some (.out v)):ag step (0,0)=some (.out ((capF cap 0 l:Nat):Int)):=by
 refine Qm (fun s=> ∃i:Nat,i<=l.length/\s=(((capF cap 0 (l.take i):Nat):Int),(i:Int))) (fun s=>l.length - s.2.toNat) _ ?_ ⟨0,by omega,rfl⟩;rintro _ ⟨i,hi,rfl⟩;rcases Ud i l.length with h|h
 ·refine .inl ⟨_,a _ i h,⟨i+1,by omega,?_⟩,by simp only;rw[Qi (by omega) (by omega)];omega⟩;have e:=Wv (Dc.1 b _ (Nb h));have d:capF cap 0 (l.take (i+1))=min cap (decN (capF cap 0 (l.take i)) l[i]):=by rw[Lc h,WN]
  have g:=Ky cap (l.take i) 0 (Va _);have c:wu8 ((l[i].toNat:Int) - 48)=((l[i].toNat - 48:Nat):Int):=by show IntKind.u8.wrap _=_;rw[IntKind.wrap_u8];omega
  unfold decN at d;rw[c,Qi (n:=10*_) (by omega) (by omega),Qi (n:=((l[i].toNat - 48:Nat):Int)) (by omega) (by omega),Qi (n:=(i:Int)+1) (by omega) (by omega),Qi (by omega) (by omega)];refine Prod.ext ?_ ?_
  ·grind
  ·grind
 grind
theorem rM: ∀(k n:Nat),n<=Ci->Pj k n<=Ci
 |0,_,h=>h
 |k+1,n,h=>by
  unfold Pj;split
  ·exact h
  ·exact rM k _ (Nat.min_le_left ..)
theorem FX {R:Type} {step:Int×Int->Option (LO (Int×Int) Int R)} {v:Nat} {p:Int} (n:p<=4000000) (d: -4000000<=p) (i:v<=1000000000000)
  (h: ∀(a b:Int),step (a,b)=bif bif bif decide (a>0)then decide (b>0)else false then decide (b<1000000000000)else false then some (.again (w64 (a - 1),if 1000000000000<w64 (10*b)then 1000000000000 else w64 (10*b)))else some (.out b)):
  ag step (p,(v:Int))=some (.out ((Pj p.toNat v:Nat):Int)):=by
 have o:Ci=1000000000000:=rfl;refine Qm (fun s=> ∃(a:Int) (b:Nat),s=(a,(b:Int))/\a<=4000000/\ -4000000<=a/\b<=1000000000000/\Pj a.toNat b=Pj p.toNat v) (fun s=>s.1.toNat) _ ?_ ⟨p,v,rfl,n,d,i,rfl⟩;rintro _ ⟨a,b,rfl,r,f,q,c⟩;rw[h];by_cases e:a>0
 ·obtain⟨k,l⟩: ∃k,a.toNat=k+1:=⟨a.toNat - 1,by omega⟩;rw[l,Pj]at c;rw[Fa e,Ca];by_cases g:b=0\/Ci<=b
  ·grind
  ·rw[Ha g]at c;have m:decide (((b:Nat):Int)>0)=true:=Fa (by omega);have j:decide (((b:Nat):Int)<1000000000000)=true:=Fa (by omega);rw[m,Ca,j,Ca];refine .inl ⟨_,rfl,⟨a - 1,min Ci (10*b),?_,by omega,by omega,by omega,?_⟩,by simp only;rw[Qi (by omega) (by omega)];omega⟩
   ·rw[Qi (by omega) (by omega),Qi (by omega) (by omega)]
    grind
   grind
 ·rw[Ta e,Ba];refine .inr (.inl ⟨_,rfl,?_⟩);rw[<-c,show a.toNat=0 by omega];rfl
structure NumP where
 sg:Str
 D:Str
 F:Option Str
 X:Option (UInt8×Str×Str)
def dotS:Option Str->Str
 |none=>[]
 |some f=>46::f
def expT:Option (UInt8×Str×Str)->Str
 |none=>[]
 |some (e,s,x)=>e::(s++x)
def NumP.txt(n:NumP):Str:=n.sg++(n.D++(dotS n.F++expT n.X))
def sgB(s:Str):Bool:=s==[]||s==[43]||s==[45]
def NumP.ok(n:NumP):Bool:=sgB n.sg&&n.D.all digB&&(match n.F with|none=> !n.D.isEmpty|some f=> !f.isEmpty&&f.all digB)&&
 (match n.X with|none=>true|some (e,s,x)=>(e==101||e==69)&&sgB s&& !x.isEmpty&&x.all digB)
def expV:Option (UInt8×Str×Str)->Int
 |none=>0
 |some (_,s,x)=>if s==[45]then -((capF 1048576 0 x:Nat):Int)else((capF 1048576 0 x:Nat):Int)
def thoV(A:Str)(p:Int):Nat:=Pj p.toNat (capF Ci 0 (if p<0 then A.take ((A.length:Int)+p).toNat else A))
def NumP.val(n:NumP):Int:=
 let v:=thoV (n.D++n.F.getD []) (3+expV n.X - ((n.F.getD []).length:Int))
 if n.sg==[45]then -(v:Int)else(v:Int)
theorem ry{s:Str}(h:sgB s=true):s=[]\/s=[43]\/s=[45]:=by
 unfold sgB at h
 grind
theorem CU{s q:Str}(h:sgB s=true)(b: ∀c r,q=c::r->List.contains [43,45] c=false):Lib.trimLeftS (s++q) [43,45]=q:=by
 have a:Lib.trimLeftS q [43,45]=q:=by
  unfold Lib.trimLeftS;cases q with
  |nil=>rfl
  |cons c r=>simp_all
 rcases ry h with rfl|rfl|rfl
 ·exact a
 ·show List.dropWhile _ (43::q)=_;rw[Nc];exact a
 ·show List.dropWhile _ (45::q)=_;rw[Nc];exact a
theorem dK{e:UInt8}(he:e=101\/e=69)(t:Str): ∀(l:Str),(l.all fun b=>digB b||b==46)=true->Lib.indexAny (l++e::t) [101,69]=(l.length:Int)
 |[],_=>by
  rw[Gc,Lib.indexAny]
  grind
 |c::l,h=>by
  rw[Ke,Ea]at h;have hc:List.contains [101,69] c=false:=by
   have: ∀n:Nat,n<256->(digB (UInt8.ofNat n)||UInt8.ofNat n==46)=true->List.contains [101,69] (UInt8.ofNat n)=false:=by decide+kernel
   have:=this c.toNat (Uc c);rw[Re]at this;exact this h.1
  rw[Bb,Lib.indexAny,hc,dK he t l h.2]
  grind
theorem lT{l:Str}(h:l.all digB=true):(l.all fun b=>digB b||b==46)=true:=by
 grind
theorem Kr{l:Str}(h: ∀b∈l,b.toNat<128):jg l=true:=by
 unfold jg
 grind
theorem zA9{l:Str}(h:jg l=true): ∀b∈l,b.toNat<128:=by
 unfold jg at h
 grind
theorem zDZ{D:Str}(a:D.all digB=true)(F:Option Str): ∃f,Lib.cut (D++dotS F) [46]=(D,F.getD [],f):=by
 unfold Lib.cut;rw[eG];cases F with
 |none=> rw[show dotS none=[]from rfl,Rb,WK _ a,Ha (by decide)];simp_all
 |some g=> rw[show dotS (some g)=46::g from rfl,XK _ _ a,Ka (by omega)];simp_all
theorem mK {D:Str} {F:Option Str} {E:Int} (w:D.all digB=true) (y:(F.getD []).all digB=true) (R:D.length+(F.getD []).length<=50000) (Q:E<=2000000) (C: -2000000<=E) (s:UInt8) (r:Str)
  (M:((s.toNat:Int)==45)=(r==[45])) (u:short (D++dotS F)=true):
  (ze (cutF (D++dotS F,[46])) fun c=>
 need (Nj c.1.length c.2.1.length)<|
 Zt (X:=Str×Int) (
   bif decide (w64 ((3+E) - (c.2.1.length:Int))<0)then
    need (decide (0<=(if w64 (((c.1++c.2.1).length:Int)+w64 ((3+E) - (c.2.1.length:Int)))>0 then w64 (((c.1++c.2.1).length:Int)+w64 ((3+E) - (c.2.1.length:Int)))else 0))&&decide ((if w64 (((c.1++c.2.1).length:Int)+w64 ((3+E) - (c.2.1.length:Int)))>0 then w64 (((c.1++c.2.1).length:Int)+w64 ((3+E) - (c.2.1.length:Int)))else 0)<=((c.1++c.2.1).length:Int)))<|
    some (LX.out (List.take (if w64 (((c.1++c.2.1).length:Int)+w64 ((3+E) - (c.2.1.length:Int)))>0 then w64 (((c.1++c.2.1).length:Int)+w64 ((3+E) - (c.2.1.length:Int)))else 0).toNat (c.1++c.2.1),w64 ((3+E) - (c.2.1.length:Int))))
   else
    some (LX.out (c.1++c.2.1,w64 ((3+E) - (c.2.1.length:Int))))) fun j=>
 need (decide (j.1.length<=maxLen))<|
 Zl (fun(d:Int×Int)=>
   bif decide (d.2<(j.1.length:Int))then
    need (decide (0<=d.2)&&decide (d.2<(j.1.length:Int)))<|
    ze j.1[d.2.toNat]? fun g=>
    some (LO.again (if 1000000000000<w64 (w64 (10*d.1)+w64 (wu8 ((g.toNat:Int) - 48)))then 1000000000000 else w64 (w64 (10*d.1)+w64 (wu8 ((g.toNat:Int) - 48))),w64 (d.2+1)))
   else
    some (LO.out d.1):Int×Int->Option (LO (Int×Int) (Int) _)) (0,0) fun l=>
 Zl (fun(e:Int×Int)=>
   bif bif bif decide (e.1>0)then decide (e.2>0)else false then decide (e.2<1000000000000)else false then
    some (LO.again (w64 (e.1 - 1),if 1000000000000<w64 (10*e.2)then 1000000000000 else w64 (10*e.2)))
   else
    some (LO.out e.2):Int×Int->Option (LO (Int×Int) (Int) _)) (j.2,l) fun h=>
 Zt (X:=Int) (
   bif (s.toNat:Int)==45 then
    some (LX.out (w64 (0 - h)))
   else
    some (LX.out h)) fun k=>
 some k)=some (if r==[45]then -((thoV (D++F.getD []) (3+E - ((F.getD []).length:Int)):Nat):Int)else((thoV (D++F.getD []) (3+E - ((F.getD []).length:Int)):Nat):Int)):=by
 obtain⟨f,m⟩:=zDZ w F;have O:cutF (D++dotS F,[46])=some (D,F.getD [],f):=by unfold cutF;rw[ZN (by exact u)];exact congrArg some m
 have x:maxLen=9223372036854775807:=rfl;have t:Ci=1000000000000:=rfl;simp only[ze,O,Aa];generalize F.getD []=G at*;rw[ZN (Uv.2 (by omega))];obtain⟨p,L⟩: ∃p:Int,p=3+E - (G.length:Int):=⟨_,rfl⟩;rw[<-L,Qi (n:=p) (by omega) (by omega)];have S:(D++G).all digB=true:=by rw[List.all_append,w,y];rfl
 have K:(D++G).length<=50000:=by rw[Ia];omega
 generalize D++G=A at*;have H: ∀B:Str,B.all digB=true->B.length<=50000->(need (decide (B.length<=maxLen))<|
 Zl (fun(d:Int×Int)=>
   bif decide (d.2<(B.length:Int))then
    need (decide (0<=d.2)&&decide (d.2<(B.length:Int)))<|
    (B[d.2.toNat]?).bind fun g=>
    some (LO.again (if 1000000000000<w64 (w64 (10*d.1)+w64 (wu8 ((g.toNat:Int) - 48)))then 1000000000000 else w64 (w64 (10*d.1)+w64 (wu8 ((g.toNat:Int) - 48))),w64 (d.2+1)))
   else
    some (LO.out d.1):Int×Int->Option (LO (Int×Int) (Int) _)) (0,0) fun l=>
 Zl (fun(e:Int×Int)=>
   bif bif bif decide (e.1>0)then decide (e.2>0)else false then decide (e.2<1000000000000)else false then
    some (LO.again (w64 (e.1 - 1),if 1000000000000<w64 (10*e.2)then 1000000000000 else w64 (10*e.2)))
   else
    some (LO.out e.2):Int×Int->Option (LO (Int×Int) (Int) _)) (p,l) fun h=>
 Zt (X:=Int) (
   bif (s.toNat:Int)==45 then
    some (LX.out (w64 (0 - h)))
   else
    some (LX.out h)) fun k=>
 some k)=some (if r==[45]then -((Pj p.toNat (capF Ci 0 B):Nat):Int)else((Pj p.toNat (capF Ci 0 B):Nat):Int)):=by
  intro B J z;have o:=Ky Ci B 0 (Va _);rw[ZN (Fa (by omega))];rw[Tm (KL (cap:=Ci) J (by omega) (by omega) (fun v i U=> ?_) (fun v=> ?_))]
  ·have N:=rM p.toNat _ o;rw[Tm (FX (by omega) (by omega) (by omega) (fun a b=> ?_)),M]
   ·cases T:r==[45]with
    |true=> rw[Ca,zG,Qi (by omega) (by omega),Ka rfl];congr 1;omega
    |false=>simp_all
   ·simp only
  ·simp_all
  ·grind
 unfold thoV;by_cases q:p<0
 ·rw[Fa q,Ca,Ka q];have P:(if w64 ((A.length:Int)+p)>0 then w64 ((A.length:Int)+p)else 0)=((((A.length:Int)+p).toNat:Nat):Int):=by rw[Qi (by omega) (by omega)];split<;>omega
  rw[P,ZN (by grind),zG,Ib]
  grind
 ·rw[Ta q,Ba,Ha q,zG]
  grind
theorem G5{n:NumP}(h:n.ok=true)(hl:n.txt.length<=40000):EC n.txt=some n.val:=by
 obtain⟨sg,D,F,X⟩:=n;unfold NumP.ok at h;simp only[Ea]at h;obtain⟨⟨⟨hsg,hD⟩,hFo⟩,hX⟩:=h;have hF:(F.getD []).all digB=true:=by
  cases F with
  |none=>rfl
  |some f=>grind
 have hne:D++dotS F≠[]:=by
  cases F with
  |none=>simp_all
  |some f=>simp[dotS]
 have hpar:((D++dotS F).all fun b=>digB b||b==46)=true:=by
  rw[List.all_append,lT hD];cases F with
  |none=>rfl
  |some f=>rw[show dotS (some f)=46::f from rfl,Ke,lT (show f.all digB=true from hF)];rfl
 have hlen:sg.length+(D.length+((dotS F).length+(expT X).length))<=40000:=by
  have:(NumP.txt ⟨sg,D,F,X⟩).length=sg.length+(D.length+((dotS F).length+(expT X).length)):=by unfold NumP.txt;simp only[Ia]
  omega
 have hFl:(F.getD []).length<=(dotS F).length:=by
  cases F with
  |none=>grind
  |some f=>show f.length<=(46::f).length;grind
 have hhead: ∀c r,D++(dotS F++expT X)=c::r->List.contains [43,45] c=false:=by
  rw[<-ja];intro c r e;cases hq:D++dotS F with
  |nil=>grind
  |cons d q=>
   rw[hq,Bb]at e;injection e with e1 _;subst e1;rw[hq,Ke,Ea,Yd]at hpar;rcases hpar.1 with hd|hd
   ·exact(xJ hd).2.2.2.2
   grind
 have hy1: ∃b,geti (NumP.txt ⟨sg,D,F,X⟩) 0=some b/\(((b.toNat:Int)==45)=(sg==[45])):=by
  unfold NumP.txt;show∃b,geti (sg++(D++(dotS F++expT X))) 0=some b/\_;rcases ry hsg with rfl|rfl|rfl
  ·cases hq:D++(dotS F++expT X)with
   |nil=>simp_all
   |cons c r=>
    refine⟨c,rfl,?_⟩;have:=hhead c r hq;refine Ga.2 (fun e=> ?_);have:c=45:=Gf.1 (by grind)
    grind
  ·exact⟨43,rfl,rfl⟩
  ·exact⟨45,rfl,rfl⟩
 obtain⟨y1,hg,hyy⟩:=hy1;have t1:Am (NumP.txt ⟨sg,D,F,X⟩,[43,45])=some (D++(dotS F++expT X)):=by unfold Am;rw[ZN (show(short ([43,45]:Str)&&jg [43,45])=true by decide)];exact congrArg some (CU hsg hhead)
 unfold EC;simp only[ze,hg,t1,Aa];have hsh:short (D++dotS F)=true:=Fa (by grind);have hasc:jg (D++dotS F)=true:=zDI hpar;cases X with
 |none=>
  have t2:Um (D++(dotS F++expT none),[101,69])=some (-1):=by show Um (D++(dotS F++[]),[101,69])=_;rw[Rb];unfold Um;rw[ZN (by simp only[hsh,hasc,Ic,Kb];decide)];exact congrArg some (cK _ hpar)
  simp only[t2,Aa,show decide ((-1:Int)>=0)=false from rfl,Ba,zG];rw[show D++(dotS F++expT none)=D++dotS F by show D++(dotS F++[])=_;grind];have:=mK (E:=0) hD hF (by omega) (by omega) (by omega) y1 sg hyy hsh;exact this
 |some ex=>
  obtain⟨e,s,x⟩:=ex;simp only[Ea]at hX;obtain⟨⟨⟨he,hs⟩,hxne⟩,hx⟩:=hX;have he':e=101\/e=69:=by rw[Yd,Ob,Ob]at he;exact he
  have hexl:(expT (some (e,s,x))).length=1+(s.length+x.length):=by show(e::(s++x)).length=_;rw[Da,Ia];omega
  have hass:D++(dotS F++expT (some (e,s,x)))=(D++dotS F)++e::(s++x):=by rw[<-ja];rfl
  have hasx:jg ((D++dotS F)++e::(s++x))=true:=by
   refine Kr (fun b hb=> ?_);rcases Jc.1 hb with hb|hb
   ·exact zA9 hasc b hb
   ·rcases Db.1 hb with hb|hb
    ·subst hb;rcases he' with rfl|rfl<;>decide
    ·rcases Jc.1 hb with hb|hb
     ·rcases ry hs with rfl|rfl|rfl
      ·cases hb
      ·simp_all
      simp_all
     ·have:=Wv (Dc.1 hx b hb);omega
  have hlt:((D++dotS F)++e::(s++x)).length<=40000:=by rw[Ia,Da,Ia,Ia];omega
  have t2:Um (D++(dotS F++expT (some (e,s,x))),[101,69])=some ((D++dotS F).length:Int):=by rw[hass];unfold Um;show need (short ((D++dotS F)++e::(s++x))&&short [101,69]&&jg ((D++dotS F)++e::(s++x))&&jg [101,69]) _=_;rw[show short ((D++dotS F)++e::(s++x))=true from Fa (by omega),hasx];exact congrArg some (dK he' (s++x) _ hpar)
  have hdrop:List.drop (D++dotS F).length ((D++dotS F)++e::(s++x))=e::(s++x):=List.drop_left;have hdrop1:List.drop ((D++dotS F).length+1) ((D++dotS F)++e::(s++x))=s++x:=by rw[<-Bf,hdrop];rfl
  have hd0:(D++dotS F).length<=40000:=by rw[Ia];omega
  have hw1:w64 (((D++dotS F).length:Int)+1)=(((D++dotS F).length+1:Nat):Int):=by rw[Qi (by omega) (by omega)];omega
  simp only[t2,Aa];rw[Fa (show(((D++dotS F).length:Nat):Int)>=0 by omega),Ca,hw1,hass];have hlt2:(D++dotS F).length+1<=((D++dotS F)++e::(s++x)).length:=by rw[Ia (bs:=e::(s++x)),Da];omega
  rw[ZN (by grind),Ib,hdrop1];have hxh: ∀c r,x=c::r->List.contains [43,45] c=false:=by intro c r e;subst e;rw[Ke,Ea]at hx;exact(xJ hx.1).2.2.2.2
  have t4:Am (s++x,[43,45])=some x:=by unfold Am;rw[ZN (show(short ([43,45]:Str)&&jg [43,45])=true by decide)];exact congrArg some (CU hs hxh)
  have hxl:x.length<=40000:=by omega
  have hml:maxLen=9223372036854775807:=rfl;simp only[t4,Aa];rw[ZN (Fa (by omega))];have hcap:=Ky 1048576 x 0 (Va _);rw[Tm (KL (cap:=1048576) hx (by omega) (by omega) (fun v i hi=> ?_) (fun v=> ?_))]
  ·have hg8: ∃y8,geti ((D++dotS F)++e::(s++x)) (((D++dotS F).length+1:Nat):Int)=some y8/\(((y8.toNat:Int)==45)=(s==[45])):=by
    have hgg: ∀(b:UInt8) (r:Str),s++x=b::r->geti ((D++dotS F)++e::(s++x)) (((D++dotS F).length+1:Nat):Int)=some b:=by
     intro b r e1;unfold geti;have:((D++dotS F)++e::(s++x))[(D++dotS F).length+1]? =some b:=by rw[pg (by omega),show(D++dotS F).length+1 - (D++dotS F).length=1 by omega,Nf,e1];rfl
     rw[Ib,this,Fa (by omega)];rfl
    rcases ry hs with rfl|rfl|rfl
    ·cases hxx:x with
     |nil=>grind
     |cons c r=>
      refine⟨c,by grind,?_⟩;have:=hxh c r hxx;refine Ga.2 (fun e=> ?_);have h45:c=45:=Gf.1 (by grind)
      grind
    ·grind
    ·grind
   obtain⟨y8,h8,h8'⟩:=hg8;simp only[h8,Aa];rw[h8'];have hj:(bif s==[45]then(some (LX.out ((D++dotS F)++e::(s++x),3,w64 (0 - ((capF 1048576 0 x:Nat):Int)))):Option (LX (Str×Int×Int) (LX (Str×Int) Int)))else some (LX.out ((D++dotS F)++e::(s++x),3,((capF 1048576 0 x:Nat):Int))))
     =some (LX.out ((D++dotS F)++e::(s++x),3,expV (some (e,s,x)))):=by
    unfold expV;simp only;cases s==[45]with
    |true=>rw[Ca,Ka rfl,Qi (by omega) (by omega)];simp
    |false=>grind
   have hEb:expV (some (e,s,x))<=1048576/\ -1048576<=expV (some (e,s,x)):=by unfold expV;simp only;split<;>omega
   refine(congrArg (fun o=>Zt (Zt o _) _) hj).trans ?_;simp only[zG];rw[show decide ((((D++dotS F).length:Nat):Int)<=((((D++dotS F)++e::(s++x)).length:Nat):Int))=true from Fa (by omega),ZN (by rfl)];simp only[zG,Ib,List.take_left];rw[Qi (by omega) (by omega)];exact mK (E:=expV (some (e,s,x))) hD hF (by omega) (by omega) (by omega) y1 sg hyy hsh
  ·simp_all
  ·grind
theorem qi{n:Nat}(h:n<256):Df ((n:Nat):Int)=some (UInt8.ofNat n):=by
 unfold Df
 grind
theorem YE(n k:Nat)(a:k<=32):xg .i32 (n:Int) (k:Int)=((n / 2 ^ k:Nat):Int):=by
 unfold xg;rw[show(min ((k:Int).toNat) IntKind.i32.bits)=k by show min k 32=k;omega]
 grind
theorem shr6(n:Nat):xg .i32 (n:Int) 6=((n / 64:Nat):Int):=YE n 6 (by omega)
theorem YR(n:Nat):xg .i32 (n:Int) 12=((n / 4096:Nat):Int):=YE n 12 (by omega)
theorem XR(n:Nat):xg .i32 (n:Int) 18=((n / 262144:Nat):Int):=YE n 18 (by omega)
theorem zG5(n:Int):IntKind.u8.wrap n=n%256:=by simp[IntKind.wrap,IntKind.bits,IntKind.signed]
theorem zFA(n:Int):IntKind.u32.wrap n=n%4294967296:=by simp[IntKind.wrap,IntKind.bits,IntKind.signed]
theorem Gm{n:Nat}(h:n<2147483648):w32 (n:Int)=(n:Int):=by show IntKind.i32.wrap _=_;simp only[IntKind.wrap,IntKind.bits,IntKind.signed];simp;omega
theorem iK{n:Nat}(h:n<2147483648):wu32 (n:Int)=(n:Int):=by show IntKind.u32.wrap _=_;rw[zFA];omega
theorem gu(n:Nat):wu8 (n:Int)=((n%256:Nat):Int):=by show IntKind.u8.wrap (n:Int)=_;rw[zG5];omega
theorem aL(n:Nat):ibOr .u8 128 (ah .u8 (wu8 (n:Int)) 63)=((128+n%64:Nat):Int):=by
 have: ∀m:Nat,m<256->ibOr .u8 128 (ah .u8 ((m:Nat):Int) 63)=((128+m%64:Nat):Int):=by decide+kernel
 rw[gu,this _ (Nat.mod_lt _ (by omega)),show n%256%64=n%64 by omega]
theorem FR{n:Nat}(h:n<32):ibOr .u8 192 (wu8 (n:Int))=((192+n:Nat):Int):=by
 have: ∀m:Nat,m<32->ibOr .u8 192 (wu8 ((m:Nat):Int))=((192+m:Nat):Int):=by decide+kernel
 exact this n h
theorem NC{n:Nat}(h:n<16):ibOr .u8 224 (wu8 (n:Int))=((224+n:Nat):Int):=by
 have: ∀m:Nat,m<16->ibOr .u8 224 (wu8 ((m:Nat):Int))=((224+m:Nat):Int):=by decide+kernel
 exact this n h
theorem ER{n:Nat}(h:n<8):ibOr .u8 240 (wu8 (n:Int))=((240+n:Nat):Int):=by
 have: ∀m:Nat,m<8->ibOr .u8 240 (wu8 ((m:Nat):Int))=((240+m:Nat):Int):=by decide+kernel
 exact this n h
theorem Ei{n m:Nat}(h:n+m<=2000000000):Zp n m 1=true:=by unfold Zp;grind
theorem dR{n:Nat}(o:n≠0)(h:n<16777216){l:Str}(m:l.length<=1000000000):Ql (w32 (n:Int),l)=some (l++xh n):=by
 have j:Zp l.length 1 1=true:=Ei (by omega);have f:Zp l.length 2 1=true:=Ei (by omega);have d:Zp l.length 3 1=true:=Ei (by omega);have g:Zp l.length 4 1=true:=Ei (by omega);have c:(128+n%64)<256:=by omega
 have a:(128+n / 64%64)<256:=by omega
 have b:(128+n / 4096%64)<256:=by omega
 unfold Ql QN xh;simp only[Gm (show n<2147483648 by omega),iK (show n<2147483648 by omega),ze,shr6,YR,XR,aL,qi c,qi a,qi b,Aa];by_cases e:n<128
 ·rw[Fa (by omega),Ca,gu,qi (by omega),Aa,ZN j,Ha (by omega),Ka e,mf (by omega)]
 ·rw[Ta (by omega),Ba];by_cases i:n<2048
  ·rw[Fa (by omega),Ca,FR (by omega),qi (by omega)];simp only[Aa];rw[ZN f,Ha (by omega),Ha (by omega),Ka i];rfl
  ·rw[Ta (by omega),Ba];by_cases p:n<55296
   ·rw[Fa (by omega),Ca,zG];simp only[Ca];rw[NC (by omega),qi (by omega)];simp only[Aa];rw[ZN d,Ha (by omega),Ha (by omega),Ha (by omega),Ka (by omega)];rfl
   ·rw[Ta (by omega),Ba,zG];simp only[aT];by_cases k:57343<n/\n<65536
    ·rw[Fa (by omega),Fa (by omega),Ic,Ca,NC (by omega),qi (by omega)];simp only[Aa];rw[ZN d,Ha (by omega),Ha (by omega),Ha (by omega),Ka (by omega)];rfl
    ·rw[show(decide ((57343:Int)<(n:Int))&&decide ((n:Int)<=65535))=false by grind,Ba];by_cases q:65535<n/\n<=1114111
     ·rw[Fa (by omega),Fa (by omega),Ic,Ca,ER (by omega),qi (by omega)];simp only[Aa];rw[ZN g,Ha (by omega),Ha (by omega),Ha (by omega),Ha (by omega)];rfl
     ·rw[show(decide ((n:Int)>65535)&&decide ((n:Int)<=1114111))=false by grind,Ba,ZN d,Ka (by omega)];rfl
theorem vM{l:Str}(a:l.length<=1000000000):Ql (65533,l)=some (l++Iq):=by have h:=dR (n:=65533) (by omega) (by omega) a;rw[Gm (by omega)]at h;exact h
theorem Ki{s:Str}{c:UInt8}{l:Str}(h:c::l<:+s):l<:+s:=(Ed c l).trans h
theorem Jh{s:Str}{c:UInt8}{l:Str}(d:s.length<=big)(h:c::l<:+s):w64 ((beh s (c::l):Int)+1)=(beh s l:Int):=by
 have b:big=4194304:=rfl;have a:=h.length_le;rw[Da]at a;have e:beh s (c::l)+1=beh s l:=by unfold beh;rw[Da];omega
 have:=Yk s l;rw[Qi (by omega) (by omega)];omega
theorem Ko(c:UInt8)(l:Str):pk (c::l) 0=(c.toNat:Int):=rfl
theorem Gv(c:UInt8):Df (wu8 ((c.toNat:Nat):Int))=some c:=by rw[gu,mf (Uc c),qi (Uc c),Re]
theorem Oy{b:UInt8}(h:Uf b=true):hexN b<16:=Ub h
theorem YS{n d:Nat}(hn:n<16777216)(hd:d<16):ibOr .i64 (Bu .i64 (n:Int) 4) (d:Int)=((16*n+d:Nat):Int):=by
 have h1:Bu .i64 (n:Int) 4=((16*n:Nat):Int):=by unfold Bu;rw[show(2:Int) ^ (min (4:Int).toNat IntKind.i64.bits)=16 from rfl];rw[Qb (by omega) (by omega)];omega
 rw[h1];unfold ibOr;have e:(BitVec.ofInt IntKind.i64.bits ((16*n:Nat):Int) ||| BitVec.ofInt IntKind.i64.bits (d:Int)).toNat=16*n+d:=by
  rw[BitVec.toNat_or,BitVec.toNat_ofInt,BitVec.toNat_ofInt];rw[show((((16*n:Nat):Int)%((2 ^ IntKind.i64.bits:Nat):Int)).toNat)=16*n by show(((16*n:Nat):Int)%18446744073709551616).toNat=_;omega,
   show(((d:Int)%((2 ^ IntKind.i64.bits:Nat):Int)).toNat)=d by show((d:Int)%18446744073709551616).toNat=_;omega]
  have:=Nat.two_pow_add_eq_or_of_lt (i:=4) (b:=d) hd n;rw[show 2 ^ 4*n=16*n from rfl]at this;exact this.symm
 rw[e,Qb (by omega) (by omega)]
theorem Ez(b:UInt8):decide (hexI b<0)= !Uf b:=by
 unfold hexI
 grind
theorem zEh: ∀(k n:Nat) (l:Str),Uf (atS l 0)=false->hexes k n l=(n,l)
 |0,_,_,_=>rfl
 |_+1,_,[],_=>rfl
 |k+1,n,c::r,h=>by unfold hexes;rw[Ha (by rw[show Uf c=false from h];decide)]
theorem uL {R:Type} {step:(Int×Int)×zb->Option (LO ((Int×Int)×zb) (Int×zb) R)} {s l:Str} (j:l<:+s)
  (h: ∀(n i:Nat) (q:Str),q<:+s->n<16777216->i<=6->step (((n:Int),(i:Int)),sr s q)=some (bif decide (i<6)&&Uf (atS q 0)then .again ((((16*n+hexN (atS q 0):Nat):Int),((i+1:Nat):Int)),sr s (q.drop 1))else .out ((n:Int),sr s q))):
  ag step ((0,0),sr s l)=some (.out (((hexes 6 0 l).1:Int),sr s (hexes 6 0 l).2)):=by
 refine Qm (fun z=> ∃(n i:Nat) (q:Str),z=(((n:Int),(i:Int)),sr s q)/\q<:+s/\i<=6/\n<16 ^ i/\hexes (6 - i) n q=hexes 6 0 l) (fun z=>6 - z.1.2.toNat) _ ?_ ⟨0,0,l,rfl,j,by omega,by decide,rfl⟩;rintro _ ⟨n,i,q,rfl,g,f,k,d⟩;have e:n<16777216:=jb k (Nat.pow_le_pow_right (by omega) f:16 ^ i<=16 ^ 6);rw[h n i q g e f];rcases Ud i 6 with b|m
 ·rw[Fa b,Kb];cases a:Uf (atS q 0)with
  |true=>
   cases q with
   |nil=>exact absurd a (by decide)
   |cons c r=>
    have o:=Oy a;refine .inl ⟨_,rfl,⟨16*n+hexN (atS (c::r) 0),i+1,r,rfl,Ki g,by omega,?_,?_⟩,by grind⟩
    ·grind
    ·rw[<-d,show 6 - i=(6 - (i+1))+1 by omega];rw[hexes.eq_def ((6 - (i+1))+1) n (c::r)];simp only;rw[Ka (show Uf c=true from a)];rfl
  |false=> refine .inr (.inl ⟨_,rfl,?_⟩);rw[<-d,zEh _ _ _ a]
 ·rw[Ta (by omega),Gd];refine .inr (.inl ⟨_,rfl,?_⟩);rw[<-d,show 6 - i=0 by omega];rfl
theorem KF: ∀(k n:Nat) (l:Str),(hexes k n l).1<16 ^ k*(n+1)
 |0,n,l=>by unfold hexes;omega
 |k+1,n,[]=>by have:0<16 ^ (k+1):=Nat.pow_pos (by omega);unfold hexes;exact jb (Ie n) (Nat.le_mul_of_pos_left _ this)
 |k+1,n,c::r=>by
  unfold hexes;cases hx:Uf c with
  |true=> rw[Ka rfl];have h1:=KF k (16*n+hexN c) r;have:=Oy hx;refine jb h1 ?_;rw[Nat.pow_succ,Nat.mul_assoc];exact Nat.mul_le_mul_left _ (by omega)
  |false=> rw[Ha (by decide)];have:0<16 ^ (k+1):=Nat.pow_pos (by omega);exact jb (Ie n) (Nat.le_mul_of_pos_left _ this)
theorem yF{s l acc:Str}{c:UInt8}(hs:s.length<=big)(hr:c::l<:+s)(ha:acc.length<=1000000000):
  Z5 (sr s (c::l),acc)=some (sr s (zK l).2,acc++(zK l).1):=by
 have hl:=Ki hr;unfold Z5;simp only[Jh hs hr,ze,ig hs hl,Aa,Yn];cases l with
 |nil=> rw[show([]:Str).isEmpty=true from rfl,Ca,vM ha];rfl
 |cons d r=>
  rw[show(d::r).isEmpty=false from rfl,Ba,aC];simp only[Aa,Ez];cases hx:Uf (atS (d::r) 0)with
  |false=>
   rw[Xa,Ca,Ko,Gv];simp only[Aa,Jh hs hl];rw[ZN (Ei (by omega))];have:zK (d::r)=([d],r):=by show(if Uf d then _ else _)=_;rw[Ha (by rw[show Uf d=false from hx];decide)]
   rw[this]
  |true=>
   rw[Eb,Ba];have he:zK (d::r)=(xh (hexes 6 0 (d::r)).1,unsp (hexes 6 0 (d::r)).2):=by show(if Uf d then _ else _)=_;rw[Ka (show Uf d=true from hx)]
   rw[he];rw[Tm (uL (l:=d::r) hl (fun n i q hq hn hi=> ?_))]
   ·have hq:(hexes 6 0 (d::r)).2<:+s:=(av 6 0 _).trans hl;have hlt:=KF 6 0 (d::r);rw[show 16 ^ 6*(0+1)=16777216 from rfl]at hlt;simp only[ig hs hq,Aa,lu];have hj:(bif spB (atS (hexes 6 0 (d::r)).2 0)then some (LX.out (((hexes 6 0 (d::r)).1:Int),(⟨s,w64 ((beh s (hexes 6 0 (d::r)).2:Int)+1)⟩:zb),acc))else some (LX.out (((hexes 6 0 (d::r)).1:Int),sr s (hexes 6 0 (d::r)).2,acc)):Option (LX (Int×zb×List UInt8) (zb×List UInt8)))
      =some (LX.out (((hexes 6 0 (d::r)).1:Int),sr s (unsp (hexes 6 0 (d::r)).2),acc)):=by
     cases hh:(hexes 6 0 (d::r)).2 with
     |nil=>rfl
     |cons e t=>
      rw[hh]at hq;rw[show atS (e::t) 0=e from rfl,Jh hs hq];show _=some (LX.out (_,sr s (if spB e then t else e::t),acc))
      grind
    rw[hj,zG];simp only;by_cases h0:(hexes 6 0 (d::r)).1=0
    ·rw[h0,show((((0:Nat):Int))==0)=true from rfl,Ca,zG];simp only[Gm (show 65533<2147483648 by omega),show w32 (65533:Int)=65533 from Gm (n:=65533) (by omega),vM ha,Aa];rfl
    ·rw[show(((hexes 6 0 (d::r)).1:Int)==0)=false by grind,Ba,zG];simp only[dR h0 hlt ha,Aa]
   ·simp only[ig hs hq,Aa,aC,Ez];have hb6:decide ((i:Int)<6)=decide (i<6):=by rw[decide_eq_decide];omega
    rw[hb6];cases decide (i<6)with
    |false=>rfl
    |true=>
     rw[Ca,Kb];cases hx2:Uf (atS q 0)with
     |false=>rfl
     |true=>
      cases q with
      |nil=>exact absurd hx2 (by decide)
      |cons e t=>
       have hI:hexI (atS (e::t) 0)=(hexN (atS (e::t) 0):Int):=by unfold hexI;rw[Ka hx2]
       rw[hI,YS hn (Oy hx2),Jh hs hq,Qi (by omega) (by omega)];rfl
theorem zD6{s r:Str}{k:Nat}(b:s.length<=big)(c:r<:+s)(d:k<=4):Zo ((k:Int),sr s r)=some (escS (r.drop k)&&decide (k<r.length)):=by
 unfold Zo;simp only[ze,Nn b c (show k<=8 by omega),Aa,kR];rw[show w64 ((k:Int)+1)=((k+1:Nat):Int) by rw[Qi (by omega) (by omega)];omega,Nn b c (by omega)];unfold escS;rw[di,di,Kc];cases h:(atS r k==92)with
 |false=>simp_all
 |true=> have a:k<r.length:=Hu (by grind);rw[Fa a];simp only[zI,Ca,Aa,Kb,Ic];unfold bne;rw[sI]
theorem zD5{l:Str}(h:escS l=true):0<l.length:=by unfold escS at h;rw[Ea]at h;exact Hu (by grind)
theorem Gz{s r:Str}{k:Nat}(hs:s.length<=big)(hr:r<:+s)(hk:k<=4):Zo ((k:Int),sr s r)=some (escS (r.drop k)):=by
 rw[zD6 hs hr hk];cases h:escS (r.drop k)with
 |false=>rfl
 |true=> have:=zD5 h;rw[Vb]at this;rw[Fa (by omega)];rfl
theorem SF{s r:Str}(a:s.length<=big)(b:r<:+s):Zo (0,sr s r)=some (escS r):=Gz (k:=0) a b (by omega)
theorem kI{s r:Str}{k:Nat}(a:s.length<=big)(b:r<:+s)(d:k<=2):Zq ((k:Int),sr s r)=some (nmS (r.drop k)):=by
 unfold Zq;have c:w64 ((k:Int)+1)=((k+1:Nat):Int):=by rw[Qi (by omega) (by omega)];omega
 simp only[c,ze,Nn a b (show k<=8 by omega),Nn a b (show k+1<=8 by omega),Aa,zFn,Gz a b (show k<=4 by omega),Gz a b (show k+1<=4 by omega)];unfold nmS;rw[di,di,Bf];unfold bne;rw[ut,Kc];cases atS r k==45 with
 |true=>
  simp only[Eb,Ba,Vd];cases fstB (atS r (k+1))with
  |true=>rfl
  |false=>
   simp only[Xa,zI,Ca,Ba,Aa,ut]
   grind
 |false=> simp only[Xa,Ca];cases fstB (atS r k)<;>cases escS (r.drop k)<;>rfl
theorem zCU(n:Nat):(xh n).length<=4:=by
 unfold xh Iq
 grind
theorem jv(l:Str):(zK l).1.length<=4:=by
 cases l with
 |nil=>show Iq.length<=4;decide
 |cons c r=>
  show(if Uf c then(xh (hexes 6 0 (c::r)).1,unsp (hexes 6 0 (c::r)).2)else([c],r)).1.length<=4;split
  ·exact zCU _
  grind
theorem Bn(c:UInt8)(r:Str):Zc (c::r)=if letB c then((c::(Zc r).1),(Zc r).2)
  else if escS (c::r)then((zK r).1++(Zc (zK r).2).1,(Zc (zK r).2).2)
  else([],c::r):=by rw[Zc]
theorem Ns:Zc []=([],[]):=by rw[Zc]
theorem zGH(l:Str):(pk l 0 != -1)= !l.isEmpty:=by unfold bne;rw[Yn]
theorem XC{s r:Str}(i:s.length<=big)(k:r<:+s):ZL (sr s r)=some ((Zc r).1,sr s (Zc r).2):=by
 have m:big=4194304:=rfl;unfold ZL;refine rF (r:=((Zc r).1,sr s (Zc r).2)) ?_;refine Qm (fun z=> ∃(q a:Str),z=(sr s q,a)/\q<:+s/\a.length+4*q.length<=4*s.length/\a++(Zc q).1=(Zc r).1/\(Zc q).2=(Zc r).2) (fun z=>s.length - z.1.at_.toNat) _ ?_ ⟨r,[],rfl,k,by grind,rfl,rfl⟩;rintro _ ⟨q,a,rfl,f,j,d,b⟩;simp only[ze,ig i f,Aa,nK];cases q with
 |nil=>
  refine .inr (.inr ⟨_,rfl,?_⟩);rw[Ns]at d b
  grind
 |cons c t=>
  have g:=f.length_le;rw[Da]at g j;rw[show atS (c::t) 0=c from rfl];rw[Bn]at d b;cases e:letB c with
  |true=>
   rw[e,Ka rfl]at d b;refine .inl ⟨(sr s t,a++[c]),?_,⟨t,a++[c],rfl,Ki f,by grind,by grind,b⟩,?_⟩
   ·rw[Ca,Ko,Gv];simp only[Aa];rw[ZN (Ei (by omega)),Jh i f]
   ·show s.length - beh s t<s.length - beh s (c::t);unfold beh;grind
  |false=>
   rw[e,Ha (by decide)]at d b;rw[Ba,zGH,show(c::t).isEmpty=false from rfl,SF i f];cases h:escS (c::t)with
   |true=>
    rw[h,Ka rfl]at d b;have l:=jv t;have n:=Zx t;refine .inl ⟨(sr s (zK t).2,a++(zK t).1),?_,⟨_,_,rfl,(qK t).trans (Ki f),by grind,by grind,b⟩,?_⟩
    ·simp only[Xa,zI,Ca,Aa,yF i f (show a.length<=1000000000 by omega)]
    ·show s.length - beh s (zK t).2<s.length - beh s (c::t);unfold beh;grind
   |false=> simp_all
theorem Kl(l:Str):(Zc l).2<:+l:=by
 match l with
 |[]=>rw[Ns];grind
 |c::r=>
  rw[Bn];split
  ·exact(Kl r).trans (Ed c r)
  ·split
   ·have:=Zx r;exact(Kl (zK r).2).trans ((qK r).trans (Ed c r))
   grind
termination_by l.length
decreasing_by
 all_goals grind
def escC(c:UInt8):Str:=bif decide (32<c.toNat)&&decide (c.toNat<127)&& !digB c&& !alB c then [92,c]else 92::(hexS c.toNat++[32])
def pcW(dash:Bool)(k:Nat)(c:UInt8):Str:=bif letB c&&(k==0|| !digB c)&& !dash then [c]else escC c
def encW(dash:Bool):Nat->Str->Str
 |_,[]=>[]
 |k,c::r=>pcW dash k c++encW dash (k - 1) r
def zF0(l:Str):Nat:=if [45].isPrefixOf l then 2 else 1
def Gq(l:Str):Str:=encW (l==[45]) (zF0 l) l
theorem CS{s r:Str}:(decide ((0:Int)<=(beh s r:Int))&&decide ((beh s r:Int)<=(s.length:Int)))=true:=by
 have:=Yk s r
 grind
theorem ED{s r:Str}(a:r<:+s):List.drop ((beh s r:Int)).toNat s=r:=by rw[Ib,Jr a]
theorem zGK{a b:UInt8}{m t:Str}(h:(b==a)=false):(a::m).isPrefixOf (b::t)=false:=by
 grind
theorem Gp(m:UInt8):Zv m []=(some [],[]):=by rw[Zv]
theorem Et(m c:UInt8)(r:Str):Zv m (c::r)=if c==m then(some [],r)
  else if c==10 then(none,c::r)
  else if c==92 then
   (if r.isEmpty then(some [],[])
   else if atS r 0==10 then Zv m (r.drop 1)
   else((Zv m (zK r).2).1.map ((zK r).1++ ·),(Zv m (zK r).2).2))
  else((Zv m r).1.map (c:: ·),(Zv m r).2):=by rw[Zv]
theorem Gs(m:UInt8)(l:Str):(Zv m l).2<:+l:=by
 match l with
 |[]=>rw[Gp];grind
 |c::r=>
  rw[Et];have a:=Ed c r;split
  ·exact a
  ·split
   ·grind
   ·split
    ·split
     ·grind
     ·split
      ·exact(Gs m (r.drop 1)).trans ((Ae 1 r).trans a)
      ·have:=Zx r;exact(Gs m (zK r).2).trans ((qK r).trans a)
    ·exact(Gs m r).trans a
termination_by l.length
decreasing_by
 all_goals grind
theorem UE(a b:Str)(x:Option Str):(x.map (b++ ·)).map (a++ ·)=x.map ((a++b)++ ·):=by
 cases x with
 |none=>rfl
 |some t=>grind
theorem XL(a:Str)(b:UInt8)(x:Option Str):(x.map (b:: ·)).map (a++ ·)=x.map ((a++[b])++ ·):=UE a [b] x
def Rj:Option Str->zk
 |some t=>⟨5,t,0,[],false⟩
 |none=>⟨6,[],0,[],false⟩
theorem zFa{s q:Str}{m:UInt8}(k:s.length<=big)(w:m::q<:+s):QR (sr s (m::q))=some (Rj (Zv m q).1,sr s (Zv m q).2):=by
 have J:big=4194304:=rfl;have D:=Ki w;unfold QR;simp only[ze,ig k w,Aa,Ko,Jh k w]
 let g:LX (zb×zk×List UInt8) (zk×zb):=match(Zv m q).1 with
  |some t=> .out (sr s (Zv m q).2,⟨0,[],0,[],false⟩,t)
  |none=> .ret (⟨6,[],0,[],false⟩,sr s (Zv m q).2)
 rw[qU (r:=g)]
 ·show LX.go g _=_;cases h:(Zv m q).1 with
  |some t=>simp only[g,h];rfl
  |none=>simp only[g,h];rfl
 refine Qm (fun z=> ∃(p e:Str),z=(sr s p,⟨0,[],0,[],false⟩,e)/\p<:+s/\e.length+4*p.length<=4*s.length/\(Zv m q).1=(Zv m p).1.map (e++ ·)/\(Zv m q).2=(Zv m p).2) (fun z=>s.length - z.1.at_.toNat) _ ?_
  ⟨q,[],rfl,D,by grind,by simp,rfl⟩
 rintro _ ⟨p,e,rfl,j,C,b,a⟩;simp only[ig k j,Aa,Yn,sI,kR];cases p with
 |nil=>
  refine .inr (.inl ⟨_,rfl,?_⟩);rw[Gp]at b a
  grind
 |cons c t=>
  have i:=j.length_le;rw[Da]at i C;have n:=Ki j;rw[Et]at b a;rw[show(c::t).isEmpty=false from rfl,Ba,Ko,show((c.toNat:Int)==(m.toNat:Int))=(c==m)from fE c m,show atS (c::t) 0=c from rfl,Jh k j];have f: ∀u:Str,u.length<=t.length->u<:+s->s.length - beh s u<s.length - beh s (c::t):=by intro u A F;unfold beh;rw[Da];omega
  cases v:c==m with
  |true=>
   grind
  |false=>
   rw[v,Ha (by decide)]at b a;rw[Ba];cases y:c==10 with
   |true=>
    grind
   |false=>
    rw[y,Ha (by decide)]at b a;rw[Ba];cases l:c==92 with
    |false=> rw[l,Ha (by decide)]at b a;simp only[zI,Ba,Aa,Jd,Gv];rw[ZN (Ei (by omega))];exact .inl ⟨_,rfl,⟨t,e++[c],rfl,n,by grind,by rw[b,XL],a⟩,f t (by omega) n⟩
    |true=>
     rw[l,Ka rfl]at b a;simp only[zI,Ca,Nu k j,Aa,Ic];have x:pk (c::t) 1=pk t 0:=rfl;rw[x,Yn];cases t with
     |nil=>
      rw[show([]:Str).isEmpty=true from rfl,Ka rfl]at b a;have o:beh s [c]=s.length - 1:=rfl;have G:(if((s.length:Int)<w64 ((beh s [c]:Int)+2))then(s.length:Int)else w64 ((beh s [c]:Int)+2))=((beh s []:Nat):Int):=by rw[Qi (by omega) (by omega),Ka (by omega)];unfold beh;rw[Ya];omega
      refine .inl ⟨(sr s [],⟨0,[],0,[],false⟩,e),?_,⟨[],e,rfl,List.nil_suffix,by grind,by rw[b,Gp],by rw[a,Gp]⟩,f [] (by simp) List.nil_suffix⟩
      grind
     |cons d u=>
      rw[show(d::u).isEmpty=false from rfl,Ha (by decide)]at b a;simp only[show(d::u).isEmpty=false from rfl,Xa,Ca,Ba,Aa,sI];cases B:atS (d::u) 0==10 with
      |true=>
       rw[B,Ka rfl]at b a;have A:=Ki n;rw[Da]at i C;have o:beh s (c::d::u)=s.length - (u.length+1+1):=by unfold beh;rw[Da,Da]
       have G:(if((s.length:Int)<w64 ((beh s (c::d::u):Int)+2))then(s.length:Int)else w64 ((beh s (c::d::u):Int)+2))=((beh s u:Nat):Int):=by rw[Qi (by omega) (by omega),Ha (by omega)];unfold beh;rw[Da,Da];omega
       refine .inl ⟨(sr s u,⟨0,[],0,[],false⟩,e),?_,⟨u,e,rfl,A,by omega,b,a⟩,f u (by grind) A⟩
       grind
      |false=> rw[B,Ha (by decide)]at b a;have H:=jv (d::u);have E:=Zx (d::u);refine .inl ⟨(sr s (zK (d::u)).2,⟨0,[],0,[],false⟩,e++(zK (d::u)).1),?_,⟨_,_,rfl,(qK _).trans n,by grind,by rw[b,UE],a⟩,f _ E ((qK _).trans n)⟩;simp only[Ba,yF k j (show e.length<=1000000000 by omega),Aa]
theorem iR{n:Nat}(l:n≠0)(h:n<16777216):Qk (w32 (n:Int))=some (xh n):=by
 have j:Zp 0 1 1=true:=Ei (by omega);have f:Zp 0 2 1=true:=Ei (by omega);have d:Zp 0 3 1=true:=Ei (by omega);have g:Zp 0 4 1=true:=Ei (by omega);have c:(128+n%64)<256:=by omega
 have a:(128+n / 64%64)<256:=by omega
 have b:(128+n / 4096%64)<256:=by omega
 unfold Qk QM xh;simp only[Gm (show n<2147483648 by omega),iK (show n<2147483648 by omega),ze,shr6,YR,XR,aL,qi c,qi a,qi b,Aa];by_cases e:n<128
 ·rw[Fa (by omega),Ca,gu,qi (by omega),Aa,ZN j,Ha (by omega),Ka e,mf (by omega)]
 ·rw[Ta (by omega),Ba];by_cases i:n<2048
  ·rw[Fa (by omega),Ca,FR (by omega),qi (by omega)];simp only[Aa];rw[ZN f,Ha (by omega),Ha (by omega),Ka i];rfl
  ·rw[Ta (by omega),Ba];by_cases m:n<55296
   ·rw[Fa (by omega),Ca,zG];simp only[Ca];rw[NC (by omega),qi (by omega)];simp only[Aa];rw[ZN d,Ha (by omega),Ha (by omega),Ha (by omega),Ka (by omega)];rfl
   ·rw[Ta (by omega),Ba,zG];simp only[aT];by_cases k:57343<n/\n<65536
    ·rw[Fa (by omega),Fa (by omega),Ic,Ca,NC (by omega),qi (by omega)];simp only[Aa];rw[ZN d,Ha (by omega),Ha (by omega),Ha (by omega),Ka (by omega)];rfl
    ·rw[show(decide ((57343:Int)<(n:Int))&&decide ((n:Int)<=65535))=false by grind,Ba];by_cases o:65535<n/\n<=1114111
     ·rw[Fa (by omega),Fa (by omega),Ic,Ca,ER (by omega),qi (by omega)];simp only[Aa];rw[ZN g,Ha (by omega),Ha (by omega),Ha (by omega),Ha (by omega)];rfl
     ·rw[show(decide ((n:Int)>65535)&&decide ((n:Int)<=1114111))=false by grind,Ba,ZN d,Ka (by omega)];rfl
theorem JO:Qk 65533=some Iq:=by have h:=iR (n:=65533) (by omega) (by omega);rw[Gm (by omega)]at h;exact h
theorem MV{s l:Str}{c:UInt8}(hs:s.length<=big)(hr:c::l<:+s):
  Qg (sr s (c::l))=some (sr s (zK l).2,(zK l).1):=by
 have hl:=Ki hr;unfold Qg;simp only[Jh hs hr,ze,ig hs hl,Aa,Yn];cases l with
 |nil=> rw[show([]:Str).isEmpty=true from rfl,Ca,JO];rfl
 |cons d r=>
  rw[show(d::r).isEmpty=false from rfl,Ba,aC];simp only[Aa,Ez];cases hx:Uf (atS (d::r) 0)with
  |false=>
   rw[Xa,Ca,Ko,Gv];simp only[Aa,Jh hs hl];rw[ZN (Ei (n:=0) (by omega))];have:zK (d::r)=([d],r):=by show(if Uf d then _ else _)=_;rw[Ha (by rw[show Uf d=false from hx];decide)]
   rw[this]
  |true=>
   rw[Eb,Ba];have he:zK (d::r)=(xh (hexes 6 0 (d::r)).1,unsp (hexes 6 0 (d::r)).2):=by show(if Uf d then _ else _)=_;rw[Ka (show Uf d=true from hx)]
   rw[he];rw[Tm (uL (l:=d::r) hl (fun n i q hq hn hi=> ?_))]
   ·have hq:(hexes 6 0 (d::r)).2<:+s:=(av 6 0 _).trans hl;have hlt:=KF 6 0 (d::r);rw[show 16 ^ 6*(0+1)=16777216 from rfl]at hlt;simp only[ig hs hq,Aa,lu];have hj:(bif spB (atS (hexes 6 0 (d::r)).2 0)then some (LX.out (((hexes 6 0 (d::r)).1:Int),(⟨s,w64 ((beh s (hexes 6 0 (d::r)).2:Int)+1)⟩:zb)))else some (LX.out (((hexes 6 0 (d::r)).1:Int),sr s (hexes 6 0 (d::r)).2)):Option (LX (Int×zb) (zb×List UInt8)))
      =some (LX.out (((hexes 6 0 (d::r)).1:Int),sr s (unsp (hexes 6 0 (d::r)).2))):=by
     cases hh:(hexes 6 0 (d::r)).2 with
     |nil=>rfl
     |cons e t=>
      rw[hh]at hq;rw[show atS (e::t) 0=e from rfl,Jh hs hq];show _=some (LX.out (_,sr s (if spB e then t else e::t)))
      grind
    rw[hj,zG];simp only;by_cases h0:(hexes 6 0 (d::r)).1=0
    ·rw[h0,show((((0:Nat):Int))==0)=true from rfl,Ca,zG];simp only[Gm (show 65533<2147483648 by omega),show w32 (65533:Int)=65533 from Gm (n:=65533) (by omega),JO,Aa];rfl
    ·rw[show(((hexes 6 0 (d::r)).1:Int)==0)=false by grind,Ba,zG];simp only[iR h0 hlt,Aa]
   ·simp only[ig hs hq,Aa,aC,Ez];have hb6:decide ((i:Int)<6)=decide (i<6):=by rw[decide_eq_decide];omega
    rw[hb6];cases decide (i<6)with
    |false=>rfl
    |true=>
     rw[Ca,Kb];cases hx2:Uf (atS q 0)with
     |false=>rfl
     |true=>
      cases q with
      |nil=>exact absurd hx2 (by decide)
      |cons e t=>
       have hI:hexI (atS (e::t) 0)=(hexN (atS (e::t) 0):Int):=by unfold hexI;rw[Ka hx2]
       rw[hI,YS hn (Oy hx2),Jh hs hq,Qi (by omega) (by omega)];rfl
theorem Kv:badS []=[]:=by rw[badS]
theorem Xv(c:UInt8)(r:Str):badS (c::r)=if c==41 then r else if escS (c::r)then badS (zK r).2 else badS r:=by rw[badS]
theorem ay(l:Str):badS l<:+l:=by
 match l with
 |[]=>rw[Kv];grind
 |c::r=>
  rw[Xv];have a:=Ed c r;split
  ·exact a
  ·split
   ·have:=Zx r;exact(ay (zK r).2).trans ((qK r).trans a)
   ·exact(ay r).trans a
termination_by l.length
decreasing_by
 all_goals grind
theorem zF1{s t:Str}{c:UInt8}(e:s.length<=big)(h:c::t<:+s):geti s (w64 ((beh s t:Int) - 1))=some c:=by
 have f:big=4194304:=rfl;have b:=h.length_le;rw[Da]at b;have d:=Jr h;have g:beh s t=beh s (c::t)+1:=by unfold beh;rw[Da];omega
 have a:beh s (c::t)<s.length:=by unfold beh;rw[Da];omega
 rw[Qi (by omega) (by omega),show(beh s t:Int) - 1=((beh s (c::t):Nat):Int) by omega,Zu a];rw[Fb a]at d
 grind
theorem badR{s q:Str}(e:s.length<=big)(j:q<:+s):Qj (sr s q)=some (⟨8,[],0,[],false⟩,sr s (badS q)):=by
 unfold Qj;refine rF ?_;refine Qm (fun z=> ∃(p:Str),z=(sr s p,(⟨0,[],0,[],false⟩:zk))/\p<:+s/\badS q=badS p) (fun z=>s.length - z.1.at_.toNat) _ ?_ ⟨q,rfl,j,rfl⟩;rintro _ ⟨p,rfl,b,g⟩;simp only[ze,ig e b,Aa,Yn];cases p with
 |nil=>exact .inr (.inr ⟨_,rfl,by rw[g,Kv]⟩)
 |cons c t=>
  have d:=b.length_le;rw[Da]at d;have i:=Ki b;have f: ∀u:Str,u.length<=t.length->u<:+s->s.length - beh s u<s.length - beh s (c::t):=by intro u l k;unfold beh;rw[Da];omega
  rw[show(c::t).isEmpty=false from rfl,Ba,SF e b];rw[Xv]at g;simp only[Aa];cases a:escS (c::t)with
  |true=>
   have h:(c==41)=false:=by unfold escS at a;rw[Ea,Ob]at a;rw[show c=92 from a.1];decide
   rw[a,h,Ha (by decide),Ka rfl]at g;rw[Ca,MV e b];exact .inl ⟨_,rfl,⟨_,rfl,(qK t).trans i,g⟩,f _ (Zx t) ((qK t).trans i)⟩
  |false=>
   rw[Ba,Jh e b,zF1 e b];simp only[Aa];rw[show((c.toNat:Int)==41)=(c==41)from fE c 41]
   grind
theorem Mo:urlS []=(some [],[]):=by rw[urlS]
theorem Lr(c:UInt8)(r:Str):urlS (c::r)=if c==41 then(some [],r)
  else if spB c then(match past spB r with
   |[]=>(some [],[])
   |d::a=>if d==41 then(some [],a)else(none,badS (d::a)))
  else if c==34||c==39||c==40||unB c||c==92&& !escS (c::r)then(none,badS (c::r))
  else if c==92 then((urlS (zK r).2).1.map ((zK r).1++ ·),(urlS (zK r).2).2)
  else((urlS r).1.map (c:: ·),(urlS r).2):=by rw[urlS];grind
theorem Xq(l:Str):(urlS l).2<:+l:=by
 match l with
 |[]=>rw[Mo];grind
 |c::r=>
  rw[Lr];have a:=Ed c r;split
  ·exact a
  ·split
   ·have b:=(Hl spB r).trans a;cases e:past spB r with
    |nil=>grind
    |cons d f=>
     rw[e]at b;simp only;split
     ·exact(Ed d f).trans b
     ·exact(ay _).trans b
   ·split
    ·exact ay _
    ·split
     ·have:=Zx r;exact(Xq (zK r).2).trans ((qK r).trans a)
     ·exact(Xq r).trans a
termination_by l.length
decreasing_by
 all_goals grind
def Sk:Option Str->zk
 |some t=>⟨7,t,0,[],false⟩
 |none=>⟨8,[],0,[],false⟩
theorem zFw(c:UInt8): ∃y,zI (!(bif bif bif bif (c.toNat:Int)==34 then true else(c.toNat:Int)==39 then true else(c.toNat:Int)==40 then true else decide ((c.toNat:Int)<=8)then true else(c.toNat:Int)==11)) (Q9 ((c.toNat:Int),14,31)) (default:Bool)=some y/\
  (bif bif bif bif bif bif (c.toNat:Int)==34 then true else(c.toNat:Int)==39 then true else(c.toNat:Int)==40 then true else decide ((c.toNat:Int)<=8)then true else(c.toNat:Int)==11 then true else y then true else(c.toNat:Int)==127)=(c==34||c==39||c==40||unB c):=by
 have a: ∀n:Nat,n<256->((zI (!(bif bif bif bif (n:Int)==34 then true else(n:Int)==39 then true else(n:Int)==40 then true else decide ((n:Int)<=8)then true else(n:Int)==11)) (Q9 ((n:Int),14,31)) (default:Bool)).elim false fun y=>
  (bif bif bif bif bif bif (n:Int)==34 then true else(n:Int)==39 then true else(n:Int)==40 then true else decide ((n:Int)<=8)then true else(n:Int)==11 then true else y then true else(n:Int)==127)==(UInt8.ofNat n==34||UInt8.ofNat n==39||UInt8.ofNat n==40||unB (UInt8.ofNat n)))=true:=by decide+kernel
 have h:=a c.toNat (Uc c);rw[Re]at h;cases b:zI (!(bif bif bif bif (c.toNat:Int)==34 then true else(c.toNat:Int)==39 then true else(c.toNat:Int)==40 then true else decide ((c.toNat:Int)<=8)then true else(c.toNat:Int)==11)) (Q9 ((c.toNat:Int),14,31)) (default:Bool)with
 |none=>grind
 |some y=>
  grind
theorem mI(c:UInt8)(t:Str):(pk (c::t) 0== -1)=false:=by rw[Yn];rfl
theorem urlR{s w:Str}(f:s.length<=big)(v:w<:+s):FC (sr s w)=some (Sk (urlS (past spB w)).1,sr s (urlS (past spB w)).2):=by
 have L:big=4194304:=rfl;unfold FC;rw[Ex f v];simp only[ze,Aa];have E:=Po spB v;generalize past spB w=q at E ⊢;refine rF ?_;refine Qm (fun z=> ∃(p e:Str),z=(sr s p,(⟨0,[],0,[],false⟩:zk),e)/\p<:+s/\e.length+4*p.length<=4*s.length/\(urlS q).1=(urlS p).1.map (e++ ·)/\(urlS q).2=(urlS p).2) (fun z=>s.length - z.1.at_.toNat) _ ?_
  ⟨q,[],rfl,E,by grind,by simp,rfl⟩
 rintro _ ⟨p,e,rfl,h,G,b,a⟩;simp only[ig f h,Aa,lu];cases p with
 |nil=> refine .inr (.inr ⟨_,rfl,?_⟩);rw[Mo]at b a;rw[b,a];simp only[ib,Rb,Sk]
 |cons c t=>
  have m:=h.length_le;rw[Da]at m G;have r:=Ki h;have k: ∀u:Str,u.length<=t.length->u<:+s->s.length - beh s u<s.length - beh s (c::t):=by intro u M J;unfold beh;rw[Da];omega
  rw[Lr]at b a;rw[show atS (c::t) 0=c from rfl];cases j:spB c with
  |true=>
   have i:(c==41)=false:=by rw[Ga];rintro rfl;exact absurd j (by decide)
   rw[i,j,Ha (by decide),Ka rfl]at b a;have D:past spB (c::t)=past spB t:=by rw[past,Ka j]
   have g:past spB t<:+s:=Po spB r;rw[Ca,Ex f h,D];simp only[Aa,ig f g];cases o:past spB t with
   |nil=> rw[o]at b a;refine .inr (.inr ⟨_,rfl,?_⟩);simp only at b a;rw[b,a];simp only[ib,Rb,Sk]
   |cons d F=>
    rw[o]at b a g;simp only at b a;unfold bne;rw[pI,mI,show atS (d::F) 0=d from rfl];cases C:d==41 with
    |true=> rw[C,Ka rfl]at b a;refine .inr (.inr ⟨_,?_,rfl⟩);simp only[Eb,Ba,zG,mI,pI,show atS (d::F) 0=d from rfl,C,Ca,Jh f g];rw[b,a];simp only[ib,Rb,Sk]
    |false=> rw[C,Ha (by decide)]at b a;refine .inr (.inr ⟨_,?_,rfl⟩);simp only[Xa,Ca,badR f g,Aa,zj0];rw[b,a];rfl
  |false=>
   rw[Ba,zG];simp only[mI,pI,show atS (c::t) 0=c from rfl,Ba,Jh f h];cases i:c==41 with
   |true=> rw[i,Ka rfl]at b a;refine .inr (.inr ⟨_,by rw[Ca],?_⟩);rw[b,a];simp only[ib,Rb,Sk]
   |false=>
    rw[i,Ha (by decide),j,Ha (by decide)]at b a;rw[Ba];obtain⟨y,B,A⟩:=zFw c;rw[Ko,B];simp only[Aa];rw[A];cases x:(c==34||c==39||c==40||unB c)with
    |true=> rw[x,Bool.true_or,Ka rfl]at b a;refine .inr (.inr ⟨_,?_,rfl⟩);rw[Ca,badR f h];simp only[Aa];rw[b,a];rfl
    |false=>
     rw[x,yf]at b a;rw[Ba];unfold bne;rw[show((c.toNat:Int)==92)=(c==92)from fE c 92];cases n:c==92 with
     |false=> rw[n,Gd,Ha (by decide),Ha (by decide)]at b a;rw[Xa,Ca,Gv];simp only[Aa];rw[ZN (Ei (by omega))];exact .inl ⟨_,rfl,⟨t,e++[c],rfl,r,by grind,by rw[b,XL],a⟩,k t (Sa _) r⟩
     |true=>
      rw[n,Kb]at b a;rw[Eb,Ba,SF f h];simp only[Aa];cases l:escS (c::t)with
      |true=> rw[l,Eb,Ha (by decide),Ka rfl]at b a;have K:=jv t;have H:=Zx t;refine .inl ⟨(sr s (zK t).2,⟨0,[],0,[],false⟩,e++(zK t).1),?_,⟨_,_,rfl,(qK _).trans r,by grind,by rw[b,UE],a⟩,k _ H ((qK _).trans r)⟩;simp only[Ca,yF f h (show e.length<=1000000000 by omega),Aa]
      |false=> rw[l,Xa,Ka rfl]at b a;refine .inr (.inr ⟨_,?_,rfl⟩);rw[Ba,badR f h];simp only[Aa];rw[b,a];rfl
end Go.Lv.VT
