/- The value of a number's text, in thousandths: what the program's function computes. -/
import Derived.Test.YtoiadnecjabbeaaGreatDoorXa
set_option linter.unusedSimpArgs false
set_option linter.unusedVariables false
namespace Go.Lv.VT
set_option maxRecDepth 100000
def capF(cap:Nat):Nat->Str->Nat
 |n,[]=>n
 |n,c::r=>capF cap (min cap (decN n c)) r
theorem FO(cap:Nat): ∀(l:Str) (n:Nat) (c:UInt8),capF cap n (l++[c])=min cap (decN (capF cap n l) c)
 |[],_,_=>rfl
 |d::l,n,c=>by show capF cap (min cap (decN n d)) (l++[c])=_;rw[FO cap l];rfl
theorem vz(cap:Nat): ∀(l:Str) (n:Nat),n<=cap->capF cap n l<=cap
 |[],_,h=>h
 |c::l,n,_=>vz cap l _ (Nat.min_le_left ..)
theorem YM {R:Type} {step:Int×Int->Option (LO (Int×Int) Int R)} {l:Str} {cap:Nat} (b:l.all digB=true) (j:l.length<=100000) (f:cap<=1000000000000)
  (a: ∀(v:Int) (i:Nat) (hi:i<l.length),step (v,(i:Int))=some (.again (if(cap:Int)<w64 (w64 (10*v)+w64 (wu8 ((l[i].toNat:Int) - 48)))then(cap:Int)else w64 (w64 (10*v)+w64 (wu8 ((l[i].toNat:Int) - 48))),w64 ((i:Int)+1))))
  (h2: ∀v:Int,step (v,(l.length:Int))=some (.out v)):bg step (0,0)=some (.out ((capF cap 0 l:Nat):Int)):=by
 refine Qq (fun s=> ∃i:Nat,i<=l.length/\s=(((capF cap 0 (l.take i):Nat):Int),(i:Int))) (fun s=>l.length - s.2.toNat) _ ?_ ⟨0,by omega,rfl⟩;rintro _ ⟨i,hi,rfl⟩;rcases Wd i l.length with h|h
 ·refine .inl ⟨_,a _ i h,⟨i+1,by omega,?_⟩,by simp only;rw[Ql (by omega) (by omega)];omega⟩;have e:=Uw (Ec.1 b _ (Pb h));have d:capF cap 0 (l.take (i+1))=min cap (decN (capF cap 0 (l.take i)) l[i]):=by rw[Kc h,FO]
  have g:=vz cap (l.take i) 0 (Ya _);have c:wu8 ((l[i].toNat:Int) - 48)=((l[i].toNat - 48:Nat):Int):=by show IntKind.u8.wrap _=_;rw[IntKind.wrap_u8];omega
  unfold decN at d;rw[c,Ql (n:=10*_) (by omega) (by omega),Ql (n:=((l[i].toNat - 48:Nat):Int)) (by omega) (by omega),Ql (n:=(i:Int)+1) (by omega) (by omega),Ql (by omega) (by omega)];refine Prod.ext ?_ ?_
  ·grind
  ·grind
 grind
theorem oM: ∀(k n:Nat),n<=Gi->Vj k n<=Gi
 |0,_,h=>h
 |k+1,n,h=>by
  unfold Vj;split
  ·exact h
  ·exact oM k _ (Nat.min_le_left ..)
theorem rX {R:Type} {step:Int×Int->Option (LO (Int×Int) Int R)} {v:Nat} {p:Int} (n:p<=4000000) (d: -4000000<=p) (i:v<=1000000000000)
  (h: ∀(a b:Int),step (a,b)=bif bif bif decide (a>0)then decide (b>0)else false then decide (b<1000000000000)else false then some (.again (w64 (a - 1),if 1000000000000<w64 (10*b)then 1000000000000 else w64 (10*b)))else some (.out b)):
  bg step (p,(v:Int))=some (.out ((Vj p.toNat v:Nat):Int)):=by
 have o:Gi=1000000000000:=rfl;refine Qq (fun s=> ∃(a:Int) (b:Nat),s=(a,(b:Int))/\a<=4000000/\ -4000000<=a/\b<=1000000000000/\Vj a.toNat b=Vj p.toNat v) (fun s=>s.1.toNat) _ ?_ ⟨p,v,rfl,n,d,i,rfl⟩;rintro _ ⟨a,b,rfl,r,f,q,c⟩;rw[h];by_cases e:a>0
 ·obtain⟨k,l⟩: ∃k,a.toNat=k+1:=⟨a.toNat - 1,by omega⟩;rw[l,Vj]at c;rw[Ha e,Da];by_cases g:b=0\/Gi<=b
  ·grind
  ·rw[Ia g]at c;have m:decide (((b:Nat):Int)>0)=true:=Ha (by omega);have j:decide (((b:Nat):Int)<1000000000000)=true:=Ha (by omega);rw[m,Da,j,Da];refine .inl ⟨_,rfl,⟨a - 1,min Gi (10*b),?_,by omega,by omega,by omega,?_⟩,by simp only;rw[Ql (by omega) (by omega)];omega⟩
   ·rw[Ql (by omega) (by omega),Ql (by omega) (by omega)]
    grind
   grind
 ·rw[Ta e,Ca];refine .inr (.inl ⟨_,rfl,?_⟩);rw[<-c,show a.toNat=0 by omega];rfl
structure NumP where
 sg:Str
 D:Str
 F:Option Str
 X:Option (UInt8×Str×Str)
def dotS:Option Str->Str
 |none=>[]
 |some f=>46::f
def expT:Option (UInt8×Str×Str)->Str
 |none=>[]
 |some (e,s,x)=>e::(s++x)
def NumP.txt(n:NumP):Str:=n.sg++(n.D++(dotS n.F++expT n.X))
def sgB(s:Str):Bool:=s==[]||s==[43]||s==[45]
def NumP.ok(n:NumP):Bool:=sgB n.sg&&n.D.all digB&&(match n.F with|none=> !n.D.isEmpty|some f=> !f.isEmpty&&f.all digB)&&
 (match n.X with|none=>true|some (e,s,x)=>(e==101||e==69)&&sgB s&& !x.isEmpty&&x.all digB)
def expV:Option (UInt8×Str×Str)->Int
 |none=>0
 |some (_,s,x)=>if s==[45]then -((capF 1048576 0 x:Nat):Int)else((capF 1048576 0 x:Nat):Int)
def thoV(A:Str)(p:Int):Nat:=Vj p.toNat (capF Gi 0 (if p<0 then A.take ((A.length:Int)+p).toNat else A))
def NumP.val(n:NumP):Int:=
 let v:=thoV (n.D++n.F.getD []) (3+expV n.X - ((n.F.getD []).length:Int))
 if n.sg==[45]then -(v:Int)else(v:Int)
theorem JA{s:Str}(h:sgB s=true):s=[]\/s=[43]\/s=[45]:=by
 unfold sgB at h
 grind
theorem WU{s q:Str}(h:sgB s=true)(b: ∀c r,q=c::r->List.contains [43,45] c=false):Lib.trimLeftS (s++q) [43,45]=q:=by
 have a:Lib.trimLeftS q [43,45]=q:=by
  unfold Lib.trimLeftS;cases q with
  |nil=>rfl
  |cons c r=>simp_all
 rcases JA h with rfl|rfl|rfl
 ·exact a
 ·show List.dropWhile _ (43::q)=_;rw[Nc];exact a
 ·show List.dropWhile _ (45::q)=_;rw[Nc];exact a
theorem nK{e:UInt8}(he:e=101\/e=69)(t:Str): ∀(l:Str),(l.all fun b=>digB b||b==46)=true->Lib.indexAny (l++e::t) [101,69]=(l.length:Int)
 |[],_=>by
  rw[Mc,Lib.indexAny]
  grind
 |c::l,h=>by
  rw[Oe,Fa]at h;have hc:List.contains [101,69] c=false:=by
   have: ∀n:Nat,n<256->(digB (UInt8.ofNat n)||UInt8.ofNat n==46)=true->List.contains [101,69] (UInt8.ofNat n)=false:=by decide+kernel
   have:=this c.toNat (Uc c);rw[Te]at this;exact this h.1
  rw[Db,Lib.indexAny,hc,nK he t l h.2]
  grind
theorem rT{l:Str}(h:l.all digB=true):(l.all fun b=>digB b||b==46)=true:=by
 grind
theorem Js{l:Str}(h: ∀b∈l,b.toNat<128):kg l=true:=by
 unfold kg
 grind
theorem zBR{l:Str}(h:kg l=true): ∀b∈l,b.toNat<128:=by
 unfold kg at h
 grind
theorem zEE{D:Str}(a:D.all digB=true)(F:Option Str): ∃f,Lib.cut (D++dotS F) [46]=(D,F.getD [],f):=by
 unfold Lib.cut;rw[fH];cases F with
 |none=> rw[show dotS none=[]from rfl,Ub,bK _ a,Ia (by decide)];simp_all
 |some g=> rw[show dotS (some g)=46::g from rfl,cK _ _ a,Ka (by omega)];simp_all
theorem PM {D:Str} {F:Option Str} {E:Int} (w:D.all digB=true) (y:(F.getD []).all digB=true) (R:D.length+(F.getD []).length<=50000) (Q:E<=2000000) (C: -2000000<=E) (s:UInt8) (r:Str)
  (M:((s.toNat:Int)==45)=(r==[45])) (u:short (D++dotS F)=true):
  (ze (cutF (D++dotS F,[46])) fun c=>
 need (Sj c.1.length c.2.1.length)<|
 Zv (X:=Str×Int) (
   bif decide (w64 ((3+E) - (c.2.1.length:Int))<0)then
    need (decide (0<=(if w64 (((c.1++c.2.1).length:Int)+w64 ((3+E) - (c.2.1.length:Int)))>0 then w64 (((c.1++c.2.1).length:Int)+w64 ((3+E) - (c.2.1.length:Int)))else 0))&&decide ((if w64 (((c.1++c.2.1).length:Int)+w64 ((3+E) - (c.2.1.length:Int)))>0 then w64 (((c.1++c.2.1).length:Int)+w64 ((3+E) - (c.2.1.length:Int)))else 0)<=((c.1++c.2.1).length:Int)))<|
    some (LX.out (List.take (if w64 (((c.1++c.2.1).length:Int)+w64 ((3+E) - (c.2.1.length:Int)))>0 then w64 (((c.1++c.2.1).length:Int)+w64 ((3+E) - (c.2.1.length:Int)))else 0).toNat (c.1++c.2.1),w64 ((3+E) - (c.2.1.length:Int))))
   else
    some (LX.out (c.1++c.2.1,w64 ((3+E) - (c.2.1.length:Int))))) fun j=>
 need (decide (j.1.length<=maxLen))<|
 Zp (fun(d:Int×Int)=>
   bif decide (d.2<(j.1.length:Int))then
    need (decide (0<=d.2)&&decide (d.2<(j.1.length:Int)))<|
    ze j.1[d.2.toNat]? fun g=>
    some (LO.again (if 1000000000000<w64 (w64 (10*d.1)+w64 (wu8 ((g.toNat:Int) - 48)))then 1000000000000 else w64 (w64 (10*d.1)+w64 (wu8 ((g.toNat:Int) - 48))),w64 (d.2+1)))
   else
    some (LO.out d.1):Int×Int->Option (LO (Int×Int) (Int) _)) (0,0) fun l=>
 Zp (fun(e:Int×Int)=>
   bif bif bif decide (e.1>0)then decide (e.2>0)else false then decide (e.2<1000000000000)else false then
    some (LO.again (w64 (e.1 - 1),if 1000000000000<w64 (10*e.2)then 1000000000000 else w64 (10*e.2)))
   else
    some (LO.out e.2):Int×Int->Option (LO (Int×Int) (Int) _)) (j.2,l) fun h=>
 Zv (X:=Int) (
   bif (s.toNat:Int)==45 then
    some (LX.out (w64 (0 - h)))
   else
    some (LX.out h)) fun k=>
 some k)=some (if r==[45]then -((thoV (D++F.getD []) (3+E - ((F.getD []).length:Int)):Nat):Int)else((thoV (D++F.getD []) (3+E - ((F.getD []).length:Int)):Nat):Int)):=by
 obtain⟨f,m⟩:=zEE w F;have O:cutF (D++dotS F,[46])=some (D,F.getD [],f):=by unfold cutF;rw[ZO (by exact u)];exact congrArg some m
 have x:maxLen=9223372036854775807:=rfl;have t:Gi=1000000000000:=rfl;simp only[ze,O,Aa];generalize F.getD []=G at*;rw[ZO (Sw.2 (by omega))];obtain⟨p,L⟩: ∃p:Int,p=3+E - (G.length:Int):=⟨_,rfl⟩;rw[<-L,Ql (n:=p) (by omega) (by omega)];have S:(D++G).all digB=true:=by rw[List.all_append,w,y];rfl
 have K:(D++G).length<=50000:=by rw[La];omega
 generalize D++G=A at*;have H: ∀B:Str,B.all digB=true->B.length<=50000->(need (decide (B.length<=maxLen))<|
 Zp (fun(d:Int×Int)=>
   bif decide (d.2<(B.length:Int))then
    need (decide (0<=d.2)&&decide (d.2<(B.length:Int)))<|
    (B[d.2.toNat]?).bind fun g=>
    some (LO.again (if 1000000000000<w64 (w64 (10*d.1)+w64 (wu8 ((g.toNat:Int) - 48)))then 1000000000000 else w64 (w64 (10*d.1)+w64 (wu8 ((g.toNat:Int) - 48))),w64 (d.2+1)))
   else
    some (LO.out d.1):Int×Int->Option (LO (Int×Int) (Int) _)) (0,0) fun l=>
 Zp (fun(e:Int×Int)=>
   bif bif bif decide (e.1>0)then decide (e.2>0)else false then decide (e.2<1000000000000)else false then
    some (LO.again (w64 (e.1 - 1),if 1000000000000<w64 (10*e.2)then 1000000000000 else w64 (10*e.2)))
   else
    some (LO.out e.2):Int×Int->Option (LO (Int×Int) (Int) _)) (p,l) fun h=>
 Zv (X:=Int) (
   bif (s.toNat:Int)==45 then
    some (LX.out (w64 (0 - h)))
   else
    some (LX.out h)) fun k=>
 some k)=some (if r==[45]then -((Vj p.toNat (capF Gi 0 B):Nat):Int)else((Vj p.toNat (capF Gi 0 B):Nat):Int)):=by
  intro B J z;have o:=vz Gi B 0 (Ya _);rw[ZO (Ha (by omega))];rw[Tm (YM (cap:=Gi) J (by omega) (by omega) (fun v i U=> ?_) (fun v=> ?_))]
  ·have N:=oM p.toNat _ o;rw[Tm (rX (by omega) (by omega) (by omega) (fun a b=> ?_)),M]
   ·cases T:r==[45]with
    |true=> rw[Da,zJ,Ql (by omega) (by omega),Ka rfl];congr 1;omega
    |false=>simp_all
   ·simp only
  ·simp_all
  ·grind
 unfold thoV;by_cases q:p<0
 ·rw[Ha q,Da,Ka q];have P:(if w64 ((A.length:Int)+p)>0 then w64 ((A.length:Int)+p)else 0)=((((A.length:Int)+p).toNat:Nat):Int):=by rw[Ql (by omega) (by omega)];split<;>omega
  rw[P,ZO (by grind),zJ,Lb]
  grind
 ·rw[Ta q,Ca,Ia q,zJ]
  grind
theorem X6{n:NumP}(h:n.ok=true)(hl:n.txt.length<=40000):aD n.txt=some n.val:=by
 obtain⟨sg,D,F,X⟩:=n;unfold NumP.ok at h;simp only[Fa]at h;obtain⟨⟨⟨hsg,hD⟩,hFo⟩,hX⟩:=h;have hF:(F.getD []).all digB=true:=by
  cases F with
  |none=>rfl
  |some f=>grind
 have hne:D++dotS F≠[]:=by
  cases F with
  |none=>simp_all
  |some f=>simp[dotS]
 have hpar:((D++dotS F).all fun b=>digB b||b==46)=true:=by
  rw[List.all_append,rT hD];cases F with
  |none=>rfl
  |some f=>rw[show dotS (some f)=46::f from rfl,Oe,rT (show f.all digB=true from hF)];rfl
 have hlen:sg.length+(D.length+((dotS F).length+(expT X).length))<=40000:=by
  have:(NumP.txt ⟨sg,D,F,X⟩).length=sg.length+(D.length+((dotS F).length+(expT X).length)):=by unfold NumP.txt;simp only[La]
  omega
 have hFl:(F.getD []).length<=(dotS F).length:=by
  cases F with
  |none=>grind
  |some f=>show f.length<=(46::f).length;grind
 have hhead: ∀c r,D++(dotS F++expT X)=c::r->List.contains [43,45] c=false:=by
  rw[<-Ib];intro c r e;cases hq:D++dotS F with
  |nil=>grind
  |cons d q=>
   rw[hq,Db]at e;injection e with e1 _;subst e1;rw[hq,Oe,Fa,Fe]at hpar;rcases hpar.1 with hd|hd
   ·exact(yK hd).2.2.2.2
   grind
 have hy1: ∃b,geti (NumP.txt ⟨sg,D,F,X⟩) 0=some b/\(((b.toNat:Int)==45)=(sg==[45])):=by
  unfold NumP.txt;show∃b,geti (sg++(D++(dotS F++expT X))) 0=some b/\_;rcases JA hsg with rfl|rfl|rfl
  ·cases hq:D++(dotS F++expT X)with
   |nil=>simp_all
   |cons c r=>
    refine⟨c,rfl,?_⟩;have:=hhead c r hq;refine Ga.2 (fun e=> ?_);have:c=45:=Hf.1 (by grind)
    grind
  ·exact⟨43,rfl,rfl⟩
  ·exact⟨45,rfl,rfl⟩
 obtain⟨y1,hg,hyy⟩:=hy1;have t1:Am (NumP.txt ⟨sg,D,F,X⟩,[43,45])=some (D++(dotS F++expT X)):=by unfold Am;rw[ZO (show(short ([43,45]:Str)&&kg [43,45])=true by decide)];exact congrArg some (WU hsg hhead)
 unfold aD;simp only[ze,hg,t1,Aa];have hsh:short (D++dotS F)=true:=Ha (by grind);have hasc:kg (D++dotS F)=true:=zEn hpar;cases X with
 |none=>
  have t2:Um (D++(dotS F++expT none),[101,69])=some (-1):=by show Um (D++(dotS F++[]),[101,69])=_;rw[Ub];unfold Um;rw[ZO (by simp only[hsh,hasc,Gc,Kb];decide)];exact congrArg some (mK _ hpar)
  simp only[t2,Aa,show decide ((-1:Int)>=0)=false from rfl,Ca,zJ];rw[show D++(dotS F++expT none)=D++dotS F by show D++(dotS F++[])=_;grind];have:=PM (E:=0) hD hF (by omega) (by omega) (by omega) y1 sg hyy hsh;exact this
 |some ex=>
  obtain⟨e,s,x⟩:=ex;simp only[Fa]at hX;obtain⟨⟨⟨he,hs⟩,hxne⟩,hx⟩:=hX;have he':e=101\/e=69:=by rw[Fe,Ob,Ob]at he;exact he
  have hexl:(expT (some (e,s,x))).length=1+(s.length+x.length):=by show(e::(s++x)).length=_;rw[Ea,La];omega
  have hass:D++(dotS F++expT (some (e,s,x)))=(D++dotS F)++e::(s++x):=by rw[<-Ib];rfl
  have hasx:kg ((D++dotS F)++e::(s++x))=true:=by
   refine Js (fun b hb=> ?_);rcases Ic.1 hb with hb|hb
   ·exact zBR hasc b hb
   ·rcases ja.1 hb with hb|hb
    ·subst hb;rcases he' with rfl|rfl<;>decide
    ·rcases Ic.1 hb with hb|hb
     ·rcases JA hs with rfl|rfl|rfl
      ·cases hb
      ·simp_all
      simp_all
     ·have:=Uw (Ec.1 hx b hb);omega
  have hlt:((D++dotS F)++e::(s++x)).length<=40000:=by rw[La,Ea,La,La];omega
  have t2:Um (D++(dotS F++expT (some (e,s,x))),[101,69])=some ((D++dotS F).length:Int):=by rw[hass];unfold Um;show need (short ((D++dotS F)++e::(s++x))&&short [101,69]&&kg ((D++dotS F)++e::(s++x))&&kg [101,69]) _=_;rw[show short ((D++dotS F)++e::(s++x))=true from Ha (by omega),hasx];exact congrArg some (nK he' (s++x) _ hpar)
  have hdrop:List.drop (D++dotS F).length ((D++dotS F)++e::(s++x))=e::(s++x):=List.drop_left;have hdrop1:List.drop ((D++dotS F).length+1) ((D++dotS F)++e::(s++x))=s++x:=by rw[<-Cf,hdrop];rfl
  have hd0:(D++dotS F).length<=40000:=by rw[La];omega
  have hw1:w64 (((D++dotS F).length:Int)+1)=(((D++dotS F).length+1:Nat):Int):=by rw[Ql (by omega) (by omega)];omega
  simp only[t2,Aa];rw[Ha (show(((D++dotS F).length:Nat):Int)>=0 by omega),Da,hw1,hass];have hlt2:(D++dotS F).length+1<=((D++dotS F)++e::(s++x)).length:=by rw[La (bs:=e::(s++x)),Ea];omega
  rw[ZO (by grind),Lb,hdrop1];have hxh: ∀c r,x=c::r->List.contains [43,45] c=false:=by intro c r e;subst e;rw[Oe,Fa]at hx;exact(yK hx.1).2.2.2.2
  have t4:Am (s++x,[43,45])=some x:=by unfold Am;rw[ZO (show(short ([43,45]:Str)&&kg [43,45])=true by decide)];exact congrArg some (WU hs hxh)
  have hxl:x.length<=40000:=by omega
  have hml:maxLen=9223372036854775807:=rfl;simp only[t4,Aa];rw[ZO (Ha (by omega))];have hcap:=vz 1048576 x 0 (Ya _);rw[Tm (YM (cap:=1048576) hx (by omega) (by omega) (fun v i hi=> ?_) (fun v=> ?_))]
  ·have hg8: ∃y8,geti ((D++dotS F)++e::(s++x)) (((D++dotS F).length+1:Nat):Int)=some y8/\(((y8.toNat:Int)==45)=(s==[45])):=by
    have hgg: ∀(b:UInt8) (r:Str),s++x=b::r->geti ((D++dotS F)++e::(s++x)) (((D++dotS F).length+1:Nat):Int)=some b:=by
     intro b r e1;unfold geti;have:((D++dotS F)++e::(s++x))[(D++dotS F).length+1]? =some b:=by rw[pg (by omega),show(D++dotS F).length+1 - (D++dotS F).length=1 by omega,Nf,e1];rfl
     rw[Lb,this,Ha (by omega)];rfl
    rcases JA hs with rfl|rfl|rfl
    ·cases hxx:x with
     |nil=>grind
     |cons c r=>
      refine⟨c,by grind,?_⟩;have:=hxh c r hxx;refine Ga.2 (fun e=> ?_);have h45:c=45:=Hf.1 (by grind)
      grind
    ·grind
    ·grind
   obtain⟨y8,h8,h8'⟩:=hg8;simp only[h8,Aa];rw[h8'];have hj:(bif s==[45]then(some (LX.out ((D++dotS F)++e::(s++x),3,w64 (0 - ((capF 1048576 0 x:Nat):Int)))):Option (LX (Str×Int×Int) (LX (Str×Int) Int)))else some (LX.out ((D++dotS F)++e::(s++x),3,((capF 1048576 0 x:Nat):Int))))
     =some (LX.out ((D++dotS F)++e::(s++x),3,expV (some (e,s,x)))):=by
    unfold expV;simp only;cases s==[45]with
    |true=>rw[Da,Ka rfl,Ql (by omega) (by omega)];simp
    |false=>grind
   have hEb:expV (some (e,s,x))<=1048576/\ -1048576<=expV (some (e,s,x)):=by unfold expV;simp only;split<;>omega
   refine(congrArg (fun o=>Zv (Zv o _) _) hj).trans ?_;simp only[zJ];rw[show decide ((((D++dotS F).length:Nat):Int)<=((((D++dotS F)++e::(s++x)).length:Nat):Int))=true from Ha (by omega),ZO (by rfl)];simp only[zJ,Lb,List.take_left];rw[Ql (by omega) (by omega)];exact PM (E:=expV (some (e,s,x))) hD hF (by omega) (by omega) (by omega) y1 sg hyy hsh
  ·simp_all
  ·grind
theorem qo{n:Nat}(h:n<256):Ef ((n:Nat):Int)=some (UInt8.ofNat n):=by
 unfold Ef
 grind
theorem bF(n k:Nat)(a:k<=32):yg .i32 (n:Int) (k:Int)=((n / 2 ^ k:Nat):Int):=by
 unfold yg;rw[show(min ((k:Int).toNat) IntKind.i32.bits)=k by show min k 32=k;omega]
 grind
theorem shr6(n:Nat):yg .i32 (n:Int) 6=((n / 64:Nat):Int):=bF n 6 (by omega)
theorem MS(n:Nat):yg .i32 (n:Int) 12=((n / 4096:Nat):Int):=bF n 12 (by omega)
theorem KS(n:Nat):yg .i32 (n:Int) 18=((n / 262144:Nat):Int):=bF n 18 (by omega)
theorem zHY(n:Int):IntKind.u8.wrap n=n%256:=by simp[IntKind.wrap,IntKind.bits,IntKind.signed]
theorem zGl(n:Int):IntKind.u32.wrap n=n%4294967296:=by simp[IntKind.wrap,IntKind.bits,IntKind.signed]
theorem Gm{n:Nat}(h:n<2147483648):w32 (n:Int)=(n:Int):=by show IntKind.i32.wrap _=_;simp only[IntKind.wrap,IntKind.bits,IntKind.signed];simp;omega
theorem LM{n:Nat}(h:n<2147483648):wu32 (n:Int)=(n:Int):=by show IntKind.u32.wrap _=_;rw[zGl];omega
theorem Wv(n:Nat):wu8 (n:Int)=((n%256:Nat):Int):=by show IntKind.u8.wrap (n:Int)=_;rw[zHY];omega
theorem DL(n:Nat):ibOr .u8 128 (lh .u8 (wu8 (n:Int)) 63)=((128+n%64:Nat):Int):=by
 have: ∀m:Nat,m<256->ibOr .u8 128 (lh .u8 ((m:Nat):Int) 63)=((128+m%64:Nat):Int):=by decide+kernel
 rw[Wv,this _ (Nat.mod_lt _ (by omega)),show n%256%64=n%64 by omega]
theorem mR{n:Nat}(h:n<32):ibOr .u8 192 (wu8 (n:Int))=((192+n:Nat):Int):=by
 have: ∀m:Nat,m<32->ibOr .u8 192 (wu8 ((m:Nat):Int))=((192+m:Nat):Int):=by decide+kernel
 exact this n h
theorem vD{n:Nat}(h:n<16):ibOr .u8 224 (wu8 (n:Int))=((224+n:Nat):Int):=by
 have: ∀m:Nat,m<16->ibOr .u8 224 (wu8 ((m:Nat):Int))=((224+m:Nat):Int):=by decide+kernel
 exact this n h
theorem kR{n:Nat}(h:n<8):ibOr .u8 240 (wu8 (n:Int))=((240+n:Nat):Int):=by
 have: ∀m:Nat,m<8->ibOr .u8 240 (wu8 ((m:Nat):Int))=((240+m:Nat):Int):=by decide+kernel
 exact this n h
theorem Ki{n m:Nat}(h:n+m<=2000000000):Zw n m 1=true:=by unfold Zw;grind
theorem RS{n:Nat}(o:n≠0)(h:n<16777216){l:Str}(m:l.length<=1000000000):Qo (w32 (n:Int),l)=some (l++Ci n):=by
 have j:Zw l.length 1 1=true:=Ki (by omega);have f:Zw l.length 2 1=true:=Ki (by omega);have d:Zw l.length 3 1=true:=Ki (by omega);have g:Zw l.length 4 1=true:=Ki (by omega);have c:(128+n%64)<256:=by omega
 have a:(128+n / 64%64)<256:=by omega
 have b:(128+n / 4096%64)<256:=by omega
 unfold Qo QU Ci;simp only[Gm (show n<2147483648 by omega),LM (show n<2147483648 by omega),ze,shr6,MS,KS,DL,qo c,qo a,qo b,Aa];by_cases e:n<128
 ·rw[Ha (by omega),Da,Wv,qo (by omega),Aa,ZO j,Ia (by omega),Ka e,rf (by omega)]
 ·rw[Ta (by omega),Ca];by_cases i:n<2048
  ·rw[Ha (by omega),Da,mR (by omega),qo (by omega)];simp only[Aa];rw[ZO f,Ia (by omega),Ia (by omega),Ka i];rfl
  ·rw[Ta (by omega),Ca];by_cases p:n<55296
   ·rw[Ha (by omega),Da,zJ];simp only[Da];rw[vD (by omega),qo (by omega)];simp only[Aa];rw[ZO d,Ia (by omega),Ia (by omega),Ia (by omega),Ka (by omega)];rfl
   ·rw[Ta (by omega),Ca,zJ];simp only[vT];by_cases k:57343<n/\n<65536
    ·rw[Ha (by omega),Ha (by omega),Gc,Da,vD (by omega),qo (by omega)];simp only[Aa];rw[ZO d,Ia (by omega),Ia (by omega),Ia (by omega),Ka (by omega)];rfl
    ·rw[show(decide ((57343:Int)<(n:Int))&&decide ((n:Int)<=65535))=false by grind,Ca];by_cases q:65535<n/\n<=1114111
     ·rw[Ha (by omega),Ha (by omega),Gc,Da,kR (by omega),qo (by omega)];simp only[Aa];rw[ZO g,Ia (by omega),Ia (by omega),Ia (by omega),Ia (by omega)];rfl
     ·rw[show(decide ((n:Int)>65535)&&decide ((n:Int)<=1114111))=false by grind,Ca,ZO d,Ka (by omega)];rfl
theorem uM{l:Str}(a:l.length<=1000000000):Qo (65533,l)=some (l++Fq):=by have h:=RS (n:=65533) (by omega) (by omega) a;rw[Gm (by omega)]at h;exact h
theorem Pi{s:Str}{c:UInt8}{l:Str}(h:c::l<:+s):l<:+s:=(Gd c l).trans h
theorem Nh{s:Str}{c:UInt8}{l:Str}(d:s.length<=big)(h:c::l<:+s):w64 ((beh s (c::l):Int)+1)=(beh s l:Int):=by
 have b:big=4194304:=rfl;have a:=h.length_le;rw[Ea]at a;have e:beh s (c::l)+1=beh s l:=by unfold beh;rw[Ea];omega
 have:=ek s l;rw[Ql (by omega) (by omega)];omega
theorem Oo(c:UInt8)(l:Str):pk (c::l) 0=(c.toNat:Int):=rfl
theorem Hw(c:UInt8):Ef (wu8 ((c.toNat:Nat):Int))=some c:=by rw[Wv,rf (Uc c),qo (Uc c),Te]
theorem Sz{b:UInt8}(h:Vf b=true):hexN b<16:=Sb h
theorem PT{n d:Nat}(hn:n<16777216)(hd:d<16):ibOr .i64 (Iu .i64 (n:Int) 4) (d:Int)=((16*n+d:Nat):Int):=by
 have h1:Iu .i64 (n:Int) 4=((16*n:Nat):Int):=by unfold Iu;rw[show(2:Int) ^ (min (4:Int).toNat IntKind.i64.bits)=16 from rfl];rw[Qf (by omega) (by omega)];omega
 rw[h1];unfold ibOr;have e:(BitVec.ofInt IntKind.i64.bits ((16*n:Nat):Int) ||| BitVec.ofInt IntKind.i64.bits (d:Int)).toNat=16*n+d:=by
  rw[BitVec.toNat_or,BitVec.toNat_ofInt,BitVec.toNat_ofInt];rw[show((((16*n:Nat):Int)%((2 ^ IntKind.i64.bits:Nat):Int)).toNat)=16*n by show(((16*n:Nat):Int)%18446744073709551616).toNat=_;omega,
   show(((d:Int)%((2 ^ IntKind.i64.bits:Nat):Int)).toNat)=d by show((d:Int)%18446744073709551616).toNat=_;omega]
  have:=Nat.two_pow_add_eq_or_of_lt (i:=4) (b:=d) hd n;rw[show 2 ^ 4*n=16*n from rfl]at this;exact this.symm
 rw[e,Qf (by omega) (by omega)]
theorem TA(b:UInt8):decide (hexI b<0)= !Vf b:=by
 unfold hexI
 grind
theorem zE5: ∀(k n:Nat) (l:Str),Vf (atS l 0)=false->hexes k n l=(n,l)
 |0,_,_,_=>rfl
 |_+1,_,[],_=>rfl
 |k+1,n,c::r,h=>by unfold hexes;rw[Ia (by rw[show Vf c=false from h];decide)]
theorem RL {R:Type} {step:(Int×Int)×zb->Option (LO ((Int×Int)×zb) (Int×zb) R)} {s l:Str} (j:l<:+s)
  (h: ∀(n i:Nat) (q:Str),q<:+s->n<16777216->i<=6->step (((n:Int),(i:Int)),sr s q)=some (bif decide (i<6)&&Vf (atS q 0)then .again ((((16*n+hexN (atS q 0):Nat):Int),((i+1:Nat):Int)),sr s (q.drop 1))else .out ((n:Int),sr s q))):
  bg step ((0,0),sr s l)=some (.out (((hexes 6 0 l).1:Int),sr s (hexes 6 0 l).2)):=by
 refine Qq (fun z=> ∃(n i:Nat) (q:Str),z=(((n:Int),(i:Int)),sr s q)/\q<:+s/\i<=6/\n<16 ^ i/\hexes (6 - i) n q=hexes 6 0 l) (fun z=>6 - z.1.2.toNat) _ ?_ ⟨0,0,l,rfl,j,by omega,by decide,rfl⟩;rintro _ ⟨n,i,q,rfl,g,f,k,d⟩;have e:n<16777216:=ib k (Nat.pow_le_pow_right (by omega) f:16 ^ i<=16 ^ 6);rw[h n i q g e f];rcases Wd i 6 with b|m
 ·rw[Ha b,Kb];cases a:Vf (atS q 0)with
  |true=>
   cases q with
   |nil=>exact absurd a (by decide)
   |cons c r=>
    have o:=Sz a;refine .inl ⟨_,rfl,⟨16*n+hexN (atS (c::r) 0),i+1,r,rfl,Pi g,by omega,?_,?_⟩,by grind⟩
    ·grind
    ·rw[<-d,show 6 - i=(6 - (i+1))+1 by omega];rw[hexes.eq_def ((6 - (i+1))+1) n (c::r)];simp only;rw[Ka (show Vf c=true from a)];rfl
  |false=> refine .inr (.inl ⟨_,rfl,?_⟩);rw[<-d,zE5 _ _ _ a]
 ·rw[Ta (by omega),Ld];refine .inr (.inl ⟨_,rfl,?_⟩);rw[<-d,show 6 - i=0 by omega];rfl
theorem RG: ∀(k n:Nat) (l:Str),(hexes k n l).1<16 ^ k*(n+1)
 |0,n,l=>by unfold hexes;omega
 |k+1,n,[]=>by have:0<16 ^ (k+1):=Nat.pow_pos (by omega);unfold hexes;exact ib (Ke n) (Nat.le_mul_of_pos_left _ this)
 |k+1,n,c::r=>by
  unfold hexes;cases hx:Vf c with
  |true=> rw[Ka rfl];have h1:=RG k (16*n+hexN c) r;have:=Sz hx;refine ib h1 ?_;rw[Nat.pow_succ,Nat.mul_assoc];exact Nat.mul_le_mul_left _ (by omega)
  |false=> rw[Ia (by decide)];have:0<16 ^ (k+1):=Nat.pow_pos (by omega);exact ib (Ke n) (Nat.le_mul_of_pos_left _ this)
theorem xG{s l acc:Str}{c:UInt8}(hs:s.length<=big)(hr:c::l<:+s)(ha:acc.length<=1000000000):
  Z8 (sr s (c::l),acc)=some (sr s (zN l).2,acc++(zN l).1):=by
 have hl:=Pi hr;unfold Z8;simp only[Nh hs hr,ze,jg hs hl,Aa,bn];cases l with
 |nil=> rw[show([]:Str).isEmpty=true from rfl,Da,uM ha];rfl
 |cons d r=>
  rw[show(d::r).isEmpty=false from rfl,Ca,gD];simp only[Aa,TA];cases hx:Vf (atS (d::r) 0)with
  |false=>
   rw[Ua,Da,Oo,Hw];simp only[Aa,Nh hs hl];rw[ZO (Ki (by omega))];have:zN (d::r)=([d],r):=by show(if Vf d then _ else _)=_;rw[Ia (by rw[show Vf d=false from hx];decide)]
   rw[this]
  |true=>
   rw[Eb,Ca];have he:zN (d::r)=(Ci (hexes 6 0 (d::r)).1,unsp (hexes 6 0 (d::r)).2):=by show(if Vf d then _ else _)=_;rw[Ka (show Vf d=true from hx)]
   rw[he];rw[Tm (RL (l:=d::r) hl (fun n i q hq hn hi=> ?_))]
   ·have hq:(hexes 6 0 (d::r)).2<:+s:=(Yw 6 0 _).trans hl;have hlt:=RG 6 0 (d::r);rw[show 16 ^ 6*(0+1)=16777216 from rfl]at hlt;simp only[jg hs hq,Aa,Uv];have hj:(bif spB (atS (hexes 6 0 (d::r)).2 0)then some (LX.out (((hexes 6 0 (d::r)).1:Int),(⟨s,w64 ((beh s (hexes 6 0 (d::r)).2:Int)+1)⟩:zb),acc))else some (LX.out (((hexes 6 0 (d::r)).1:Int),sr s (hexes 6 0 (d::r)).2,acc)):Option (LX (Int×zb×List UInt8) (zb×List UInt8)))
      =some (LX.out (((hexes 6 0 (d::r)).1:Int),sr s (unsp (hexes 6 0 (d::r)).2),acc)):=by
     cases hh:(hexes 6 0 (d::r)).2 with
     |nil=>rfl
     |cons e t=>
      rw[hh]at hq;rw[show atS (e::t) 0=e from rfl,Nh hs hq];show _=some (LX.out (_,sr s (if spB e then t else e::t),acc))
      grind
    rw[hj,zJ];simp only;by_cases h0:(hexes 6 0 (d::r)).1=0
    ·rw[h0,show((((0:Nat):Int))==0)=true from rfl,Da,zJ];simp only[Gm (show 65533<2147483648 by omega),show w32 (65533:Int)=65533 from Gm (n:=65533) (by omega),uM ha,Aa];rfl
    ·rw[show(((hexes 6 0 (d::r)).1:Int)==0)=false by grind,Ca,zJ];simp only[RS h0 hlt ha,Aa]
   ·simp only[jg hs hq,Aa,gD,TA];have hb6:decide ((i:Int)<6)=decide (i<6):=by rw[decide_eq_decide];omega
    rw[hb6];cases decide (i<6)with
    |false=>rfl
    |true=>
     rw[Da,Kb];cases hx2:Vf (atS q 0)with
     |false=>rfl
     |true=>
      cases q with
      |nil=>exact absurd hx2 (by decide)
      |cons e t=>
       have hI:hexI (atS (e::t) 0)=(hexN (atS (e::t) 0):Int):=by unfold hexI;rw[Ka hx2]
       rw[hI,PT hn (Sz hx2),Nh hs hq,Ql (by omega) (by omega)];rfl
theorem zEM{s r:Str}{k:Nat}(b:s.length<=big)(c:r<:+s)(d:k<=4):Zo ((k:Int),sr s r)=some (escS (r.drop k)&&decide (k<r.length)):=by
 unfold Zo;simp only[ze,Gn b c (show k<=8 by omega),Aa,bR];rw[show w64 ((k:Int)+1)=((k+1:Nat):Int) by rw[Ql (by omega) (by omega)];omega,Gn b c (by omega)];unfold escS;rw[si,si,Jc];cases h:(atS r k==92)with
 |false=>simp_all
 |true=> have a:k<r.length:=Lu (by grind);rw[Ha a];simp only[zK,Da,Aa,Kb,Gc];unfold bne;rw[OJ]
theorem zEL{l:Str}(h:escS l=true):0<l.length:=by unfold escS at h;rw[Fa]at h;exact Lu (by grind)
theorem VA{s r:Str}{k:Nat}(hs:s.length<=big)(hr:r<:+s)(hk:k<=4):Zo ((k:Int),sr s r)=some (escS (r.drop k)):=by
 rw[zEM hs hr hk];cases h:escS (r.drop k)with
 |false=>rfl
 |true=> have:=zEL h;rw[Vb]at this;rw[Ha (by omega)];rfl
theorem gG{s r:Str}(a:s.length<=big)(b:r<:+s):Zo (0,sr s r)=some (escS r):=VA (k:=0) a b (by omega)
theorem CJ{s r:Str}{k:Nat}(a:s.length<=big)(b:r<:+s)(d:k<=2):Zr ((k:Int),sr s r)=some (nmS (r.drop k)):=by
 unfold Zr;have c:w64 ((k:Int)+1)=((k+1:Nat):Int):=by rw[Ql (by omega) (by omega)];omega
 simp only[c,ze,Gn a b (show k<=8 by omega),Gn a b (show k+1<=8 by omega),Aa,zF9,VA a b (show k<=4 by omega),VA a b (show k+1<=4 by omega)];unfold nmS;rw[si,si,Cf];unfold bne;rw[ay,Jc];cases atS r k==45 with
 |true=>
  simp only[Eb,Ca,Yd];cases fstB (atS r (k+1))with
  |true=>rfl
  |false=>
   simp only[Ua,zK,Da,Ca,Aa,ay]
   grind
 |false=> simp only[Ua,Da];cases fstB (atS r k)<;>cases escS (r.drop k)<;>rfl
theorem zDD(n:Nat):(Ci n).length<=4:=by
 unfold Ci Fq
 grind
theorem fw(l:Str):(zN l).1.length<=4:=by
 cases l with
 |nil=>show Fq.length<=4;decide
 |cons c r=>
  show(if Vf c then(Ci (hexes 6 0 (c::r)).1,unsp (hexes 6 0 (c::r)).2)else([c],r)).1.length<=4;split
  ·exact zDD _
  grind
theorem QN(c:UInt8)(r:Str):Zg (c::r)=if letB c then((c::(Zg r).1),(Zg r).2)
  else if escS (c::r)then((zN r).1++(Zg (zN r).2).1,(Zg (zN r).2).2)
  else([],c::r):=by rw[Zg]
theorem Mt:Zg []=([],[]):=by rw[Zg]
theorem zHx(l:Str):(pk l 0 != -1)= !l.isEmpty:=by unfold bne;rw[bn]
theorem jD{s r:Str}(i:s.length<=big)(k:r<:+s):ZN (sr s r)=some ((Zg r).1,sr s (Zg r).2):=by
 have m:big=4194304:=rfl;unfold ZN;refine pG (r:=((Zg r).1,sr s (Zg r).2)) ?_;refine Qq (fun z=> ∃(q a:Str),z=(sr s q,a)/\q<:+s/\a.length+4*q.length<=4*s.length/\a++(Zg q).1=(Zg r).1/\(Zg q).2=(Zg r).2) (fun z=>s.length - z.1.at_.toNat) _ ?_ ⟨r,[],rfl,k,by grind,rfl,rfl⟩;rintro _ ⟨q,a,rfl,f,j,d,b⟩;simp only[ze,jg i f,Aa,TM];cases q with
 |nil=>
  refine .inr (.inr ⟨_,rfl,?_⟩);rw[Mt]at d b
  grind
 |cons c t=>
  have g:=f.length_le;rw[Ea]at g j;rw[show atS (c::t) 0=c from rfl];rw[QN]at d b;cases e:letB c with
  |true=>
   rw[e,Ka rfl]at d b;refine .inl ⟨(sr s t,a++[c]),?_,⟨t,a++[c],rfl,Pi f,by grind,by grind,b⟩,?_⟩
   ·rw[Da,Oo,Hw];simp only[Aa];rw[ZO (Ki (by omega)),Nh i f]
   ·show s.length - beh s t<s.length - beh s (c::t);unfold beh;grind
  |false=>
   rw[e,Ia (by decide)]at d b;rw[Ca,zHx,show(c::t).isEmpty=false from rfl,gG i f];cases h:escS (c::t)with
   |true=>
    rw[h,Ka rfl]at d b;have l:=fw t;have n:=ZA t;refine .inl ⟨(sr s (zN t).2,a++(zN t).1),?_,⟨_,_,rfl,(qM t).trans (Pi f),by grind,by grind,b⟩,?_⟩
    ·simp only[Ua,zK,Da,Aa,xG i f (show a.length<=1000000000 by omega)]
    ·show s.length - beh s (zN t).2<s.length - beh s (c::t);unfold beh;grind
   |false=> simp_all
theorem Nl(l:Str):(Zg l).2<:+l:=by
 match l with
 |[]=>rw[Mt];grind
 |c::r=>
  rw[QN];split
  ·exact(Nl r).trans (Gd c r)
  ·split
   ·have:=ZA r;exact(Nl (zN r).2).trans ((qM r).trans (Gd c r))
   grind
termination_by l.length
decreasing_by
 all_goals grind
def escC(c:UInt8):Str:=bif decide (32<c.toNat)&&decide (c.toNat<127)&& !digB c&& !alB c then [92,c]else 92::(hexS c.toNat++[32])
def pcW(dash:Bool)(k:Nat)(c:UInt8):Str:=bif letB c&&(k==0|| !digB c)&& !dash then [c]else escC c
def encW(dash:Bool):Nat->Str->Str
 |_,[]=>[]
 |k,c::r=>pcW dash k c++encW dash (k - 1) r
def zGK(l:Str):Nat:=if [45].isPrefixOf l then 2 else 1
def Cq(l:Str):Str:=encW (l==[45]) (zGK l) l
theorem aS{s r:Str}:(decide ((0:Int)<=(beh s r:Int))&&decide ((beh s r:Int)<=(s.length:Int)))=true:=by
 have:=ek s r
 grind
theorem ME{s r:Str}(a:r<:+s):List.drop ((beh s r:Int)).toNat s=r:=by rw[Lb,Gs a]
theorem zHA{a b:UInt8}{m t:Str}(h:(b==a)=false):(a::m).isPrefixOf (b::t)=false:=by
 grind
theorem Lp(m:UInt8):Zz m []=(some [],[]):=by rw[Zz]
theorem Yt(m c:UInt8)(r:Str):Zz m (c::r)=if c==m then(some [],r)
  else if c==10 then(none,c::r)
  else if c==92 then
   (if r.isEmpty then(some [],[])
   else if atS r 0==10 then Zz m (r.drop 1)
   else((Zz m (zN r).2).1.map ((zN r).1++ ·),(Zz m (zN r).2).2))
  else((Zz m r).1.map (c:: ·),(Zz m r).2):=by rw[Zz]
theorem Rt(m:UInt8)(l:Str):(Zz m l).2<:+l:=by
 match l with
 |[]=>rw[Lp];grind
 |c::r=>
  rw[Yt];have a:=Gd c r;split
  ·exact a
  ·split
   ·grind
   ·split
    ·split
     ·grind
     ·split
      ·exact(Rt m (r.drop 1)).trans ((De 1 r).trans a)
      ·have:=ZA r;exact(Rt m (zN r).2).trans ((qM r).trans a)
    ·exact(Rt m r).trans a
termination_by l.length
decreasing_by
 all_goals grind
theorem yE(a b:Str)(x:Option Str):(x.map (b++ ·)).map (a++ ·)=x.map ((a++b)++ ·):=by
 cases x with
 |none=>rfl
 |some t=>grind
theorem BL(a:Str)(b:UInt8)(x:Option Str):(x.map (b:: ·)).map (a++ ·)=x.map ((a++[b])++ ·):=yE a [b] x
def Wj:Option Str->zk
 |some t=>⟨5,t,0,[],false⟩
 |none=>⟨6,[],0,[],false⟩
theorem zFX{s q:Str}{m:UInt8}(k:s.length<=big)(w:m::q<:+s):QW (sr s (m::q))=some (Wj (Zz m q).1,sr s (Zz m q).2):=by
 have J:big=4194304:=rfl;have D:=Pi w;unfold QW;simp only[ze,jg k w,Aa,Oo,Nh k w]
 let g:LX (zb×zk×List UInt8) (zk×zb):=match(Zz m q).1 with
  |some t=> .out (sr s (Zz m q).2,⟨0,[],0,[],false⟩,t)
  |none=> .ret (⟨6,[],0,[],false⟩,sr s (Zz m q).2)
 rw[qY (r:=g)]
 ·show LX.go g _=_;cases h:(Zz m q).1 with
  |some t=>simp only[g,h];rfl
  |none=>simp only[g,h];rfl
 refine Qq (fun z=> ∃(p e:Str),z=(sr s p,⟨0,[],0,[],false⟩,e)/\p<:+s/\e.length+4*p.length<=4*s.length/\(Zz m q).1=(Zz m p).1.map (e++ ·)/\(Zz m q).2=(Zz m p).2) (fun z=>s.length - z.1.at_.toNat) _ ?_
  ⟨q,[],rfl,D,by grind,by simp,rfl⟩
 rintro _ ⟨p,e,rfl,j,C,b,a⟩;simp only[jg k j,Aa,bn,OJ,bR];cases p with
 |nil=>
  refine .inr (.inl ⟨_,rfl,?_⟩);rw[Lp]at b a
  grind
 |cons c t=>
  have i:=j.length_le;rw[Ea]at i C;have n:=Pi j;rw[Yt]at b a;rw[show(c::t).isEmpty=false from rfl,Ca,Oo,show((c.toNat:Int)==(m.toNat:Int))=(c==m)from oF c m,show atS (c::t) 0=c from rfl,Nh k j];have f: ∀u:Str,u.length<=t.length->u<:+s->s.length - beh s u<s.length - beh s (c::t):=by intro u A F;unfold beh;rw[Ea];omega
  cases v:c==m with
  |true=>
   grind
  |false=>
   rw[v,Ia (by decide)]at b a;rw[Ca];cases y:c==10 with
   |true=>
    grind
   |false=>
    rw[y,Ia (by decide)]at b a;rw[Ca];cases l:c==92 with
    |false=> rw[l,Ia (by decide)]at b a;simp only[zK,Ca,Aa,Md,Hw];rw[ZO (Ki (by omega))];exact .inl ⟨_,rfl,⟨t,e++[c],rfl,n,by grind,by rw[b,BL],a⟩,f t (by omega) n⟩
    |true=>
     rw[l,Ka rfl]at b a;simp only[zK,Da,uu k j,Aa,Gc];have x:pk (c::t) 1=pk t 0:=rfl;rw[x,bn];cases t with
     |nil=>
      rw[show([]:Str).isEmpty=true from rfl,Ka rfl]at b a;have o:beh s [c]=s.length - 1:=rfl;have G:(if((s.length:Int)<w64 ((beh s [c]:Int)+2))then(s.length:Int)else w64 ((beh s [c]:Int)+2))=((beh s []:Nat):Int):=by rw[Ql (by omega) (by omega),Ka (by omega)];unfold beh;rw[Xa];omega
      refine .inl ⟨(sr s [],⟨0,[],0,[],false⟩,e),?_,⟨[],e,rfl,List.nil_suffix,by grind,by rw[b,Lp],by rw[a,Lp]⟩,f [] (by simp) List.nil_suffix⟩
      grind
     |cons d u=>
      rw[show(d::u).isEmpty=false from rfl,Ia (by decide)]at b a;simp only[show(d::u).isEmpty=false from rfl,Ua,Da,Ca,Aa,OJ];cases B:atS (d::u) 0==10 with
      |true=>
       rw[B,Ka rfl]at b a;have A:=Pi n;rw[Ea]at i C;have o:beh s (c::d::u)=s.length - (u.length+1+1):=by unfold beh;rw[Ea,Ea]
       have G:(if((s.length:Int)<w64 ((beh s (c::d::u):Int)+2))then(s.length:Int)else w64 ((beh s (c::d::u):Int)+2))=((beh s u:Nat):Int):=by rw[Ql (by omega) (by omega),Ia (by omega)];unfold beh;rw[Ea,Ea];omega
       refine .inl ⟨(sr s u,⟨0,[],0,[],false⟩,e),?_,⟨u,e,rfl,A,by omega,b,a⟩,f u (by grind) A⟩
       grind
      |false=> rw[B,Ia (by decide)]at b a;have H:=fw (d::u);have E:=ZA (d::u);refine .inl ⟨(sr s (zN (d::u)).2,⟨0,[],0,[],false⟩,e++(zN (d::u)).1),?_,⟨_,_,rfl,(qM _).trans n,by grind,by rw[b,yE],a⟩,f _ E ((qM _).trans n)⟩;simp only[Ca,xG k j (show e.length<=1000000000 by omega),Aa]
theorem SS{n:Nat}(l:n≠0)(h:n<16777216):Qn (w32 (n:Int))=some (Ci n):=by
 have j:Zw 0 1 1=true:=Ki (by omega);have f:Zw 0 2 1=true:=Ki (by omega);have d:Zw 0 3 1=true:=Ki (by omega);have g:Zw 0 4 1=true:=Ki (by omega);have c:(128+n%64)<256:=by omega
 have a:(128+n / 64%64)<256:=by omega
 have b:(128+n / 4096%64)<256:=by omega
 unfold Qn QT Ci;simp only[Gm (show n<2147483648 by omega),LM (show n<2147483648 by omega),ze,shr6,MS,KS,DL,qo c,qo a,qo b,Aa];by_cases e:n<128
 ·rw[Ha (by omega),Da,Wv,qo (by omega),Aa,ZO j,Ia (by omega),Ka e,rf (by omega)]
 ·rw[Ta (by omega),Ca];by_cases i:n<2048
  ·rw[Ha (by omega),Da,mR (by omega),qo (by omega)];simp only[Aa];rw[ZO f,Ia (by omega),Ia (by omega),Ka i];rfl
  ·rw[Ta (by omega),Ca];by_cases m:n<55296
   ·rw[Ha (by omega),Da,zJ];simp only[Da];rw[vD (by omega),qo (by omega)];simp only[Aa];rw[ZO d,Ia (by omega),Ia (by omega),Ia (by omega),Ka (by omega)];rfl
   ·rw[Ta (by omega),Ca,zJ];simp only[vT];by_cases k:57343<n/\n<65536
    ·rw[Ha (by omega),Ha (by omega),Gc,Da,vD (by omega),qo (by omega)];simp only[Aa];rw[ZO d,Ia (by omega),Ia (by omega),Ia (by omega),Ka (by omega)];rfl
    ·rw[show(decide ((57343:Int)<(n:Int))&&decide ((n:Int)<=65535))=false by grind,Ca];by_cases o:65535<n/\n<=1114111
     ·rw[Ha (by omega),Ha (by omega),Gc,Da,kR (by omega),qo (by omega)];simp only[Aa];rw[ZO g,Ia (by omega),Ia (by omega),Ia (by omega),Ia (by omega)];rfl
     ·rw[show(decide ((n:Int)>65535)&&decide ((n:Int)<=1114111))=false by grind,Ca,ZO d,Ka (by omega)];rfl
theorem VO:Qn 65533=some Fq:=by have h:=SS (n:=65533) (by omega) (by omega);rw[Gm (by omega)]at h;exact h
theorem IV{s l:Str}{c:UInt8}(hs:s.length<=big)(hr:c::l<:+s):
  Qj (sr s (c::l))=some (sr s (zN l).2,(zN l).1):=by
 have hl:=Pi hr;unfold Qj;simp only[Nh hs hr,ze,jg hs hl,Aa,bn];cases l with
 |nil=> rw[show([]:Str).isEmpty=true from rfl,Da,VO];rfl
 |cons d r=>
  rw[show(d::r).isEmpty=false from rfl,Ca,gD];simp only[Aa,TA];cases hx:Vf (atS (d::r) 0)with
  |false=>
   rw[Ua,Da,Oo,Hw];simp only[Aa,Nh hs hl];rw[ZO (Ki (n:=0) (by omega))];have:zN (d::r)=([d],r):=by show(if Vf d then _ else _)=_;rw[Ia (by rw[show Vf d=false from hx];decide)]
   rw[this]
  |true=>
   rw[Eb,Ca];have he:zN (d::r)=(Ci (hexes 6 0 (d::r)).1,unsp (hexes 6 0 (d::r)).2):=by show(if Vf d then _ else _)=_;rw[Ka (show Vf d=true from hx)]
   rw[he];rw[Tm (RL (l:=d::r) hl (fun n i q hq hn hi=> ?_))]
   ·have hq:(hexes 6 0 (d::r)).2<:+s:=(Yw 6 0 _).trans hl;have hlt:=RG 6 0 (d::r);rw[show 16 ^ 6*(0+1)=16777216 from rfl]at hlt;simp only[jg hs hq,Aa,Uv];have hj:(bif spB (atS (hexes 6 0 (d::r)).2 0)then some (LX.out (((hexes 6 0 (d::r)).1:Int),(⟨s,w64 ((beh s (hexes 6 0 (d::r)).2:Int)+1)⟩:zb)))else some (LX.out (((hexes 6 0 (d::r)).1:Int),sr s (hexes 6 0 (d::r)).2)):Option (LX (Int×zb) (zb×List UInt8)))
      =some (LX.out (((hexes 6 0 (d::r)).1:Int),sr s (unsp (hexes 6 0 (d::r)).2))):=by
     cases hh:(hexes 6 0 (d::r)).2 with
     |nil=>rfl
     |cons e t=>
      rw[hh]at hq;rw[show atS (e::t) 0=e from rfl,Nh hs hq];show _=some (LX.out (_,sr s (if spB e then t else e::t)))
      grind
    rw[hj,zJ];simp only;by_cases h0:(hexes 6 0 (d::r)).1=0
    ·rw[h0,show((((0:Nat):Int))==0)=true from rfl,Da,zJ];simp only[Gm (show 65533<2147483648 by omega),show w32 (65533:Int)=65533 from Gm (n:=65533) (by omega),VO,Aa];rfl
    ·rw[show(((hexes 6 0 (d::r)).1:Int)==0)=false by grind,Ca,zJ];simp only[SS h0 hlt,Aa]
   ·simp only[jg hs hq,Aa,gD,TA];have hb6:decide ((i:Int)<6)=decide (i<6):=by rw[decide_eq_decide];omega
    rw[hb6];cases decide (i<6)with
    |false=>rfl
    |true=>
     rw[Da,Kb];cases hx2:Vf (atS q 0)with
     |false=>rfl
     |true=>
      cases q with
      |nil=>exact absurd hx2 (by decide)
      |cons e t=>
       have hI:hexI (atS (e::t) 0)=(hexN (atS (e::t) 0):Int):=by unfold hexI;rw[Ka hx2]
       rw[hI,PT hn (Sz hx2),Nh hs hq,Ql (by omega) (by omega)];rfl
theorem Jw:badS []=[]:=by rw[badS]
theorem Ww(c:UInt8)(r:Str):badS (c::r)=if c==41 then r else if escS (c::r)then badS (zN r).2 else badS r:=by rw[badS]
theorem nz(l:Str):badS l<:+l:=by
 match l with
 |[]=>rw[Jw];grind
 |c::r=>
  rw[Ww];have a:=Gd c r;split
  ·exact a
  ·split
   ·have:=ZA r;exact(nz (zN r).2).trans ((qM r).trans a)
   ·exact(nz r).trans a
termination_by l.length
decreasing_by
 all_goals grind
theorem zGU{s t:Str}{c:UInt8}(e:s.length<=big)(h:c::t<:+s):geti s (w64 ((beh s t:Int) - 1))=some c:=by
 have f:big=4194304:=rfl;have b:=h.length_le;rw[Ea]at b;have d:=Gs h;have g:beh s t=beh s (c::t)+1:=by unfold beh;rw[Ea];omega
 have a:beh s (c::t)<s.length:=by unfold beh;rw[Ea];omega
 rw[Ql (by omega) (by omega),show(beh s t:Int) - 1=((beh s (c::t):Nat):Int) by omega,Zy a];rw[Cb a]at d
 grind
theorem badR{s q:Str}(e:s.length<=big)(j:q<:+s):Qm (sr s q)=some (⟨8,[],0,[],false⟩,sr s (badS q)):=by
 unfold Qm;refine pG ?_;refine Qq (fun z=> ∃(p:Str),z=(sr s p,(⟨0,[],0,[],false⟩:zk))/\p<:+s/\badS q=badS p) (fun z=>s.length - z.1.at_.toNat) _ ?_ ⟨q,rfl,j,rfl⟩;rintro _ ⟨p,rfl,b,g⟩;simp only[ze,jg e b,Aa,bn];cases p with
 |nil=>exact .inr (.inr ⟨_,rfl,by rw[g,Jw]⟩)
 |cons c t=>
  have d:=b.length_le;rw[Ea]at d;have i:=Pi b;have f: ∀u:Str,u.length<=t.length->u<:+s->s.length - beh s u<s.length - beh s (c::t):=by intro u l k;unfold beh;rw[Ea];omega
  rw[show(c::t).isEmpty=false from rfl,Ca,gG e b];rw[Ww]at g;simp only[Aa];cases a:escS (c::t)with
  |true=>
   have h:(c==41)=false:=by unfold escS at a;rw[Fa,Ob]at a;rw[show c=92 from a.1];decide
   rw[a,h,Ia (by decide),Ka rfl]at g;rw[Da,IV e b];exact .inl ⟨_,rfl,⟨_,rfl,(qM t).trans i,g⟩,f _ (ZA t) ((qM t).trans i)⟩
  |false=>
   rw[Ca,Nh e b,zGU e b];simp only[Aa];rw[show((c.toNat:Int)==41)=(c==41)from oF c 41]
   grind
theorem Po:urlS []=(some [],[]):=by rw[urlS]
theorem Ls(c:UInt8)(r:Str):urlS (c::r)=if c==41 then(some [],r)
  else if spB c then(match past spB r with
   |[]=>(some [],[])
   |d::a=>if d==41 then(some [],a)else(none,badS (d::a)))
  else if c==34||c==39||c==40||unB c||c==92&& !escS (c::r)then(none,badS (c::r))
  else if c==92 then((urlS (zN r).2).1.map ((zN r).1++ ·),(urlS (zN r).2).2)
  else((urlS r).1.map (c:: ·),(urlS r).2):=by rw[urlS];grind
theorem Dr(l:Str):(urlS l).2<:+l:=by
 match l with
 |[]=>rw[Po];grind
 |c::r=>
  rw[Ls];have a:=Gd c r;split
  ·exact a
  ·split
   ·have b:=(Jl spB r).trans a;cases e:past spB r with
    |nil=>grind
    |cons d f=>
     rw[e]at b;simp only;split
     ·exact(Gd d f).trans b
     ·exact(nz _).trans b
   ·split
    ·exact nz _
    ·split
     ·have:=ZA r;exact(Dr (zN r).2).trans ((qM r).trans a)
     ·exact(Dr r).trans a
termination_by l.length
decreasing_by
 all_goals grind
def Uk:Option Str->zk
 |some t=>⟨7,t,0,[],false⟩
 |none=>⟨8,[],0,[],false⟩
theorem zGh(c:UInt8): ∃y,zK (!(bif bif bif bif (c.toNat:Int)==34 then true else(c.toNat:Int)==39 then true else(c.toNat:Int)==40 then true else decide ((c.toNat:Int)<=8)then true else(c.toNat:Int)==11)) (om ((c.toNat:Int),14,31)) (default:Bool)=some y/\
  (bif bif bif bif bif bif (c.toNat:Int)==34 then true else(c.toNat:Int)==39 then true else(c.toNat:Int)==40 then true else decide ((c.toNat:Int)<=8)then true else(c.toNat:Int)==11 then true else y then true else(c.toNat:Int)==127)=(c==34||c==39||c==40||unB c):=by
 have a: ∀n:Nat,n<256->((zK (!(bif bif bif bif (n:Int)==34 then true else(n:Int)==39 then true else(n:Int)==40 then true else decide ((n:Int)<=8)then true else(n:Int)==11)) (om ((n:Int),14,31)) (default:Bool)).elim false fun y=>
  (bif bif bif bif bif bif (n:Int)==34 then true else(n:Int)==39 then true else(n:Int)==40 then true else decide ((n:Int)<=8)then true else(n:Int)==11 then true else y then true else(n:Int)==127)==(UInt8.ofNat n==34||UInt8.ofNat n==39||UInt8.ofNat n==40||unB (UInt8.ofNat n)))=true:=by decide+kernel
 have h:=a c.toNat (Uc c);rw[Te]at h;cases b:zK (!(bif bif bif bif (c.toNat:Int)==34 then true else(c.toNat:Int)==39 then true else(c.toNat:Int)==40 then true else decide ((c.toNat:Int)<=8)then true else(c.toNat:Int)==11)) (om ((c.toNat:Int),14,31)) (default:Bool)with
 |none=>grind
 |some y=>
  grind
theorem KJ(c:UInt8)(t:Str):(pk (c::t) 0== -1)=false:=by rw[bn];rfl
theorem urlR{s w:Str}(f:s.length<=big)(v:w<:+s):bD (sr s w)=some (Uk (urlS (past spB w)).1,sr s (urlS (past spB w)).2):=by
 have L:big=4194304:=rfl;unfold bD;rw[Fz f v];simp only[ze,Aa];have E:=Vo spB v;generalize past spB w=q at E ⊢;refine pG ?_;refine Qq (fun z=> ∃(p e:Str),z=(sr s p,(⟨0,[],0,[],false⟩:zk),e)/\p<:+s/\e.length+4*p.length<=4*s.length/\(urlS q).1=(urlS p).1.map (e++ ·)/\(urlS q).2=(urlS p).2) (fun z=>s.length - z.1.at_.toNat) _ ?_
  ⟨q,[],rfl,E,by grind,by simp,rfl⟩
 rintro _ ⟨p,e,rfl,h,G,b,a⟩;simp only[jg f h,Aa,Uv];cases p with
 |nil=> refine .inr (.inr ⟨_,rfl,?_⟩);rw[Po]at b a;rw[b,a];simp only[Cc,Ub,Uk]
 |cons c t=>
  have m:=h.length_le;rw[Ea]at m G;have r:=Pi h;have k: ∀u:Str,u.length<=t.length->u<:+s->s.length - beh s u<s.length - beh s (c::t):=by intro u M J;unfold beh;rw[Ea];omega
  rw[Ls]at b a;rw[show atS (c::t) 0=c from rfl];cases j:spB c with
  |true=>
   have i:(c==41)=false:=by rw[Ga];rintro rfl;exact absurd j (by decide)
   rw[i,j,Ia (by decide),Ka rfl]at b a;have D:past spB (c::t)=past spB t:=by rw[past,Ka j]
   have g:past spB t<:+s:=Vo spB r;rw[Da,Fz f h,D];simp only[Aa,jg f g];cases o:past spB t with
   |nil=> rw[o]at b a;refine .inr (.inr ⟨_,rfl,?_⟩);simp only at b a;rw[b,a];simp only[Cc,Ub,Uk]
   |cons d F=>
    rw[o]at b a g;simp only at b a;unfold bne;rw[NJ,KJ,show atS (d::F) 0=d from rfl];cases C:d==41 with
    |true=> rw[C,Ka rfl]at b a;refine .inr (.inr ⟨_,?_,rfl⟩);simp only[Eb,Ca,zJ,KJ,NJ,show atS (d::F) 0=d from rfl,C,Da,Nh f g];rw[b,a];simp only[Cc,Ub,Uk]
    |false=> rw[C,Ia (by decide)]at b a;refine .inr (.inr ⟨_,?_,rfl⟩);simp only[Ua,Da,badR f g,Aa,zj1];rw[b,a];rfl
  |false=>
   rw[Ca,zJ];simp only[KJ,NJ,show atS (c::t) 0=c from rfl,Ca,Nh f h];cases i:c==41 with
   |true=> rw[i,Ka rfl]at b a;refine .inr (.inr ⟨_,by rw[Da],?_⟩);rw[b,a];simp only[Cc,Ub,Uk]
   |false=>
    rw[i,Ia (by decide),j,Ia (by decide)]at b a;rw[Ca];obtain⟨y,B,A⟩:=zGh c;rw[Oo,B];simp only[Aa];rw[A];cases x:(c==34||c==39||c==40||unB c)with
    |true=> rw[x,Bool.true_or,Ka rfl]at b a;refine .inr (.inr ⟨_,?_,rfl⟩);rw[Da,badR f h];simp only[Aa];rw[b,a];rfl
    |false=>
     rw[x,Bg]at b a;rw[Ca];unfold bne;rw[show((c.toNat:Int)==92)=(c==92)from oF c 92];cases n:c==92 with
     |false=> rw[n,Ld,Ia (by decide),Ia (by decide)]at b a;rw[Ua,Da,Hw];simp only[Aa];rw[ZO (Ki (by omega))];exact .inl ⟨_,rfl,⟨t,e++[c],rfl,r,by grind,by rw[b,BL],a⟩,k t (Ra _) r⟩
     |true=>
      rw[n,Kb]at b a;rw[Eb,Ca,gG f h];simp only[Aa];cases l:escS (c::t)with
      |true=> rw[l,Eb,Ia (by decide),Ka rfl]at b a;have K:=fw t;have H:=ZA t;refine .inl ⟨(sr s (zN t).2,⟨0,[],0,[],false⟩,e++(zN t).1),?_,⟨_,_,rfl,(qM _).trans r,by grind,by rw[b,yE],a⟩,k _ H ((qM _).trans r)⟩;simp only[Da,xG f h (show e.length<=1000000000 by omega),Aa]
      |false=> rw[l,Ua,Ka rfl]at b a;refine .inr (.inr ⟨_,?_,rfl⟩);rw[Ca,badR f h];simp only[Aa];rw[b,a];rfl
end Go.Lv.VT
