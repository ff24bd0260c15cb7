/- The value of a number's text, in thousandths: what the program's function computes. -/
import Derived.Test.YtpodafkicdifmaaGreatDoorXd
set_option linter.unusedSimpArgs false
set_option linter.unusedVariables false
namespace Go.Lv.VT
set_option maxRecDepth 100000
def capF(cap:Nat):Nat->Str->Nat
 |n,[]=>n
 |n,c::r=>capF cap (min cap (decN n c)) r
theorem gP(cap:Nat): ∀(l:Str) (n:Nat) (c:UInt8),capF cap n (l++[c])=min cap (decN (capF cap n l) c)
 |[],_,_=>rfl
 |d::l,n,c=>by show capF cap (min cap (decN n d)) (l++[c])=_;rw[gP cap l];rfl
theorem WB(cap:Nat): ∀(l:Str) (n:Nat),n<=cap->capF cap n l<=cap
 |[],_,h=>h
 |c::l,n,_=>WB cap l _ (Nat.min_le_left ..)
theorem dY {R:Type} {step:Int×Int->Option (LO (Int×Int) Int R)} {l:Str} {cap:Nat} (b:l.all digB=true) (j:l.length<=100000) (f:cap<=1000000000000)
  (a: ∀(v:Int) (i:Nat) (hi:i<l.length),step (v,(i:Int))=some (.again (if(cap:Int)<w64 (w64 (10*v)+w64 (wu8 ((l[i].toNat:Int) - 48)))then(cap:Int)else w64 (w64 (10*v)+w64 (wu8 ((l[i].toNat:Int) - 48))),w64 ((i:Int)+1))))
  (h2: ∀v:Int,step (v,(l.length:Int))=some (.out v)):yg step (0,0)=some (.out ((capF cap 0 l:Nat):Int)):=by
 refine Qq (fun s=> ∃i:Nat,i<=l.length/\s=(((capF cap 0 (l.take i):Nat):Int),(i:Int))) (fun s=>l.length - s.2.toNat) _ ?_ ⟨0,by omega,rfl⟩;rintro _ ⟨i,hi,rfl⟩;rcases Xd i l.length with h|h
 ·refine .inl ⟨_,a _ i h,⟨i+1,by omega,?_⟩,by simp only;rw[QQ (by omega) (by omega)];omega⟩;have e:=Cy (Rb.1 b _ (Ja h));have d:capF cap 0 (l.take (i+1))=min cap (decN (capF cap 0 (l.take i)) l[i]):=by rw[Rc h,gP]
  have g:=WB cap (l.take i) 0 (Ra _);have c:wu8 ((l[i].toNat:Int) - 48)=((l[i].toNat - 48:Nat):Int):=by show IntKind.u8.wrap _=_;rw[IntKind.wrap_u8];omega
  unfold decN at d;rw[c,QQ (n:=10*_) (by omega) (by omega),QQ (n:=((l[i].toNat - 48:Nat):Int)) (by omega) (by omega),QQ (n:=(i:Int)+1) (by omega) (by omega),QQ (by omega) (by omega)];refine Prod.ext ?_ ?_
  ·grind
  ·grind
 grind
theorem JP: ∀(k n:Nat),n<=ui->Kl k n<=ui
 |0,_,h=>h
 |k+1,n,h=>by
  unfold Kl;split
  ·exact h
  ·exact JP k _ (Nat.min_le_left ..)
theorem zBg {R:Type} {step:Int×Int->Option (LO (Int×Int) Int R)} {v:Nat} {p:Int} (n:p<=4000000) (d: -4000000<=p) (i:v<=1000000000000)
  (h: ∀(a b:Int),step (a,b)=bif bif bif decide (a>0)then decide (b>0)else false then decide (b<1000000000000)else false then some (.again (w64 (a - 1),if 1000000000000<w64 (10*b)then 1000000000000 else w64 (10*b)))else some (.out b)):
  yg step (p,(v:Int))=some (.out ((Kl p.toNat v:Nat):Int)):=by
 have o:ui=1000000000000:=rfl;refine Qq (fun s=> ∃(a:Int) (b:Nat),s=(a,(b:Int))/\a<=4000000/\ -4000000<=a/\b<=1000000000000/\Kl a.toNat b=Kl p.toNat v) (fun s=>s.1.toNat) _ ?_ ⟨p,v,rfl,n,d,i,rfl⟩;rintro _ ⟨a,b,rfl,r,f,q,c⟩;rw[h];by_cases e:a>0
 ·obtain⟨k,l⟩: ∃k,a.toNat=k+1:=⟨a.toNat - 1,by omega⟩;rw[l,Kl]at c;rw[Ga e,Ca];by_cases g:b=0\/ui<=b
  ·grind
  ·rw[Ha g]at c;have m:decide (((b:Nat):Int)>0)=true:=Ga (by omega);have j:decide (((b:Nat):Int)<1000000000000)=true:=Ga (by omega);rw[m,Ca,j,Ca];refine .inl ⟨_,rfl,⟨a - 1,min ui (10*b),?_,by omega,by omega,by omega,?_⟩,by simp only;rw[QQ (by omega) (by omega)];omega⟩
   ·rw[QQ (by omega) (by omega),QQ (by omega) (by omega)]
    grind
   grind
 ·rw[Ua e,Ba];refine .inr (.inl ⟨_,rfl,?_⟩);rw[<-c,show a.toNat=0 by omega];rfl
structure NumP where
 sg:Str
 D:Str
 F:Option Str
 X:Option (UInt8×Str×Str)
def dotS:Option Str->Str
 |none=>[]
 |some f=>46::f
def expT:Option (UInt8×Str×Str)->Str
 |none=>[]
 |some (e,s,x)=>e::(s++x)
def NumP.txt(n:NumP):Str:=n.sg++(n.D++(dotS n.F++expT n.X))
def sgB(s:Str):Bool:=s==[]||s==[43]||s==[45]
def NumP.ok(n:NumP):Bool:=sgB n.sg&&n.D.all digB&&(match n.F with|none=> !n.D.isEmpty|some f=> !f.isEmpty&&f.all digB)&&
 (match n.X with|none=>true|some (e,s,x)=>(e==101||e==69)&&sgB s&& !x.isEmpty&&x.all digB)
def expV:Option (UInt8×Str×Str)->Int
 |none=>0
 |some (_,s,x)=>if s==[45]then -((capF 1048576 0 x:Nat):Int)else((capF 1048576 0 x:Nat):Int)
def thoV(A:Str)(p:Int):Nat:=Kl p.toNat (capF ui 0 (if p<0 then A.take ((A.length:Int)+p).toNat else A))
def NumP.val(n:NumP):Int:=
 let v:=thoV (n.D++n.F.getD []) (3+expV n.X - ((n.F.getD []).length:Int))
 if n.sg==[45]then -(v:Int)else(v:Int)
theorem BC{s:Str}(h:sgB s=true):s=[]\/s=[43]\/s=[45]:=by
 unfold sgB at h
 grind
theorem DW{s q:Str}(h:sgB s=true)(b: ∀c r,q=c::r->List.contains [43,45] c=false):Lib.trimLeftS (s++q) [43,45]=q:=by
 have a:Lib.trimLeftS q [43,45]=q:=by
  unfold Lib.trimLeftS;cases q with
  |nil=>rfl
  |cons c r=>simp_all
 rcases BC h with rfl|rfl|rfl
 ·exact a
 ·show List.dropWhile _ (43::q)=_;rw[Kc];exact a
 ·show List.dropWhile _ (45::q)=_;rw[Kc];exact a
theorem tX{e:UInt8}(he:e=101\/e=69)(t:Str): ∀(l:Str),(l.all fun b=>digB b||b==46)=true->Lib.indexAny (l++e::t) [101,69]=(l.length:Int)
 |[],_=>by
  rw[Bc,Lib.indexAny]
  grind
 |c::l,h=>by
  rw[Lc,Ea]at h;have hc:List.contains [101,69] c=false:=by
   have: ∀n:Nat,n<256->(digB (UInt8.ofNat n)||UInt8.ofNat n==46)=true->List.contains [101,69] (UInt8.ofNat n)=false:=by decide+kernel
   have:=this c.toNat (Tc c);rw[Xf]at this;exact this h.1
  rw[Ab,Lib.indexAny,hc,tX he t l h.2]
  grind
theorem KV{l:Str}(h:l.all digB=true):(l.all fun b=>digB b||b==46)=true:=by
 grind
theorem Cu{l:Str}(h: ∀b∈l,b.toNat<128):Oh l=true:=by
 unfold Oh
 grind
theorem zHq{l:Str}(h:Oh l=true): ∀b∈l,b.toNat<128:=by
 unfold Oh at h
 grind
theorem zKn{D:Str}(a:D.all digB=true)(F:Option Str): ∃f,Lib.cut (D++dotS F) [46]=(D,F.getD [],f):=by
 unfold Lib.cut;rw[TJ];cases F with
 |none=> rw[show dotS none=[]from rfl,Xb,lX _ a,Ha (by decide)];simp_all
 |some g=> rw[show dotS (some g)=46::g from rfl,mX _ _ a,Ka (by omega)];simp_all
theorem DY {D:Str} {F:Option Str} {E:Int} (w:D.all digB=true) (y:(F.getD []).all digB=true) (R:D.length+(F.getD []).length<=50000) (Q:E<=2000000) (C: -2000000<=E) (s:UInt8) (r:Str)
  (M:((s.toNat:Int)==45)=(r==[45])) (u:short (D++dotS F)=true):
  (za (cutF (D++dotS F,[46])) fun c=>
 need (Ph c.1.length c.2.1.length)<|
 Zh (X:=Str×Int) (
   bif decide (w64 ((3+E) - (c.2.1.length:Int))<0)then
    need (decide (0<=(if w64 (((c.1++c.2.1).length:Int)+w64 ((3+E) - (c.2.1.length:Int)))>0 then w64 (((c.1++c.2.1).length:Int)+w64 ((3+E) - (c.2.1.length:Int)))else 0))&&decide ((if w64 (((c.1++c.2.1).length:Int)+w64 ((3+E) - (c.2.1.length:Int)))>0 then w64 (((c.1++c.2.1).length:Int)+w64 ((3+E) - (c.2.1.length:Int)))else 0)<=((c.1++c.2.1).length:Int)))<|
    some (LX.out (List.take (if w64 (((c.1++c.2.1).length:Int)+w64 ((3+E) - (c.2.1.length:Int)))>0 then w64 (((c.1++c.2.1).length:Int)+w64 ((3+E) - (c.2.1.length:Int)))else 0).toNat (c.1++c.2.1),w64 ((3+E) - (c.2.1.length:Int))))
   else
    some (LX.out (c.1++c.2.1,w64 ((3+E) - (c.2.1.length:Int))))) fun j=>
 need (decide (j.1.length<=maxLen))<|
 zU (fun(d:Int×Int)=>
   bif decide (d.2<(j.1.length:Int))then
    need (decide (0<=d.2)&&decide (d.2<(j.1.length:Int)))<|
    za j.1[d.2.toNat]? fun g=>
    some (LO.again (if 1000000000000<w64 (w64 (10*d.1)+w64 (wu8 ((g.toNat:Int) - 48)))then 1000000000000 else w64 (w64 (10*d.1)+w64 (wu8 ((g.toNat:Int) - 48))),w64 (d.2+1)))
   else
    some (LO.out d.1):Int×Int->Option (LO (Int×Int) (Int) _)) (0,0) fun l=>
 zU (fun(e:Int×Int)=>
   bif bif bif decide (e.1>0)then decide (e.2>0)else false then decide (e.2<1000000000000)else false then
    some (LO.again (w64 (e.1 - 1),if 1000000000000<w64 (10*e.2)then 1000000000000 else w64 (10*e.2)))
   else
    some (LO.out e.2):Int×Int->Option (LO (Int×Int) (Int) _)) (j.2,l) fun h=>
 Zh (X:=Int) (
   bif (s.toNat:Int)==45 then
    some (LX.out (w64 (0 - h)))
   else
    some (LX.out h)) fun k=>
 some k)=some (if r==[45]then -((thoV (D++F.getD []) (3+E - ((F.getD []).length:Int)):Nat):Int)else((thoV (D++F.getD []) (3+E - ((F.getD []).length:Int)):Nat):Int)):=by
 obtain⟨f,m⟩:=zKn w F;have O:cutF (D++dotS F,[46])=some (D,F.getD [],f):=by unfold cutF;rw[ZT (by exact u)];exact congrArg some m
 have x:maxLen=9223372036854775807:=rfl;have t:ui=1000000000000:=rfl;simp only[za,O,Aa];generalize F.getD []=G at*;rw[ZT (yx.2 (by omega))];obtain⟨p,L⟩: ∃p:Int,p=3+E - (G.length:Int):=⟨_,rfl⟩;rw[<-L,QQ (n:=p) (by omega) (by omega)];have S:(D++G).all digB=true:=by rw[We,w,y];rfl
 have K:(D++G).length<=50000:=by rw[Ma];omega
 generalize D++G=A at*;have H: ∀B:Str,B.all digB=true->B.length<=50000->(need (decide (B.length<=maxLen))<|
 zU (fun(d:Int×Int)=>
   bif decide (d.2<(B.length:Int))then
    need (decide (0<=d.2)&&decide (d.2<(B.length:Int)))<|
    (B[d.2.toNat]?).bind fun g=>
    some (LO.again (if 1000000000000<w64 (w64 (10*d.1)+w64 (wu8 ((g.toNat:Int) - 48)))then 1000000000000 else w64 (w64 (10*d.1)+w64 (wu8 ((g.toNat:Int) - 48))),w64 (d.2+1)))
   else
    some (LO.out d.1):Int×Int->Option (LO (Int×Int) (Int) _)) (0,0) fun l=>
 zU (fun(e:Int×Int)=>
   bif bif bif decide (e.1>0)then decide (e.2>0)else false then decide (e.2<1000000000000)else false then
    some (LO.again (w64 (e.1 - 1),if 1000000000000<w64 (10*e.2)then 1000000000000 else w64 (10*e.2)))
   else
    some (LO.out e.2):Int×Int->Option (LO (Int×Int) (Int) _)) (p,l) fun h=>
 Zh (X:=Int) (
   bif (s.toNat:Int)==45 then
    some (LX.out (w64 (0 - h)))
   else
    some (LX.out h)) fun k=>
 some k)=some (if r==[45]then -((Kl p.toNat (capF ui 0 B):Nat):Int)else((Kl p.toNat (capF ui 0 B):Nat):Int)):=by
  intro B J z;have o:=WB ui B 0 (Ra _);rw[ZT (Ga (by omega))];rw[wm (dY (cap:=ui) J (by omega) (by omega) (fun v i U=> ?_) (fun v=> ?_))]
  ·have N:=JP p.toNat _ o;rw[wm (zBg (by omega) (by omega) (by omega) (fun a b=> ?_)),M]
   ·cases T:r==[45]with
    |true=> rw[Ca,zH,QQ (by omega) (by omega),Ka rfl];congr 1;omega
    |false=>simp_all
   ·simp only
  ·simp_all
  ·grind
 unfold thoV;by_cases q:p<0
 ·rw[Ga q,Ca,Ka q];have P:(if w64 ((A.length:Int)+p)>0 then w64 ((A.length:Int)+p)else 0)=((((A.length:Int)+p).toNat:Nat):Int):=by rw[QQ (by omega) (by omega)];split<;>omega
  rw[P,ZT (by grind),zH,Ib]
  grind
 ·rw[Ua q,Ba,Ha q,zH]
  grind
theorem zsw{n:NumP}(h:n.ok=true)(hl:n.txt.length<=40000):nG n.txt=some n.val:=by
 obtain⟨sg,D,F,X⟩:=n;unfold NumP.ok at h;simp only[Ea]at h;obtain⟨⟨⟨hsg,hD⟩,hFo⟩,hX⟩:=h;have hF:(F.getD []).all digB=true:=by
  cases F with
  |none=>rfl
  |some f=>grind
 have hne:D++dotS F≠[]:=by
  cases F with
  |none=>simp_all
  |some f=>simp[dotS]
 have hpar:((D++dotS F).all fun b=>digB b||b==46)=true:=by
  rw[We,KV hD];cases F with
  |none=>rfl
  |some f=>rw[show dotS (some f)=46::f from rfl,Lc,KV (show f.all digB=true from hF)];rfl
 have hlen:sg.length+(D.length+((dotS F).length+(expT X).length))<=40000:=by
  have:(NumP.txt ⟨sg,D,F,X⟩).length=sg.length+(D.length+((dotS F).length+(expT X).length)):=by unfold NumP.txt;simp only[Ma]
  omega
 have hFl:(F.getD []).length<=(dotS F).length:=by
  cases F with
  |none=>grind
  |some f=>show f.length<=(46::f).length;grind
 have hhead: ∀c r,D++(dotS F++expT X)=c::r->List.contains [43,45] c=false:=by
  rw[<-Jb];intro c r e;cases hq:D++dotS F with
  |nil=>grind
  |cons d q=>
   rw[hq,Ab]at e;injection e with e1 _;subst e1;rw[hq,Lc,Ea,jc]at hpar;rcases hpar.1 with hd|hd
   ·exact(jX hd).2.2.2.2
   grind
 have hy1: ∃b,geti (NumP.txt ⟨sg,D,F,X⟩) 0=some b/\(((b.toNat:Int)==45)=(sg==[45])):=by
  unfold NumP.txt;show∃b,geti (sg++(D++(dotS F++expT X))) 0=some b/\_;rcases BC hsg with rfl|rfl|rfl
  ·cases hq:D++(dotS F++expT X)with
   |nil=>simp_all
   |cons c r=>
    refine⟨c,rfl,?_⟩;have:=hhead c r hq;refine Da.2 (fun e=> ?_);have:c=45:=Mf.1 (by grind)
    grind
  ·exact⟨43,rfl,rfl⟩
  ·exact⟨45,rfl,rfl⟩
 obtain⟨y1,hg,hyy⟩:=hy1;have t1:Ao (NumP.txt ⟨sg,D,F,X⟩,[43,45])=some (D++(dotS F++expT X)):=by unfold Ao;rw[ZT (show(short ([43,45]:Str)&&Oh [43,45])=true by decide)];exact congrArg some (DW hsg hhead)
 unfold nG;simp only[za,hg,t1,Aa];have hsh:short (D++dotS F)=true:=Ga (by grind);have hasc:Oh (D++dotS F)=true:=zJ8 hpar;cases X with
 |none=>
  have t2:mo (D++(dotS F++expT none),[101,69])=some (-1):=by show mo (D++(dotS F++[]),[101,69])=_;rw[Xb];unfold mo;rw[ZT (by simp only[hsh,hasc,Sb,Ya];decide)];exact congrArg some (rX _ hpar)
  simp only[t2,Aa,show decide ((-1:Int)>=0)=false from rfl,Ba,zH];rw[show D++(dotS F++expT none)=D++dotS F by show D++(dotS F++[])=_;grind];have:=DY (E:=0) hD hF (by omega) (by omega) (by omega) y1 sg hyy hsh;exact this
 |some ex=>
  obtain⟨e,s,x⟩:=ex;simp only[Ea]at hX;obtain⟨⟨⟨he,hs⟩,hxne⟩,hx⟩:=hX;have he':e=101\/e=69:=by rw[jc,Cb,Cb]at he;exact he
  have hexl:(expT (some (e,s,x))).length=1+(s.length+x.length):=by show(e::(s++x)).length=_;rw[Fa,Ma];omega
  have hass:D++(dotS F++expT (some (e,s,x)))=(D++dotS F)++e::(s++x):=by rw[<-Jb];rfl
  have hasx:Oh ((D++dotS F)++e::(s++x))=true:=by
   refine Cu (fun b hb=> ?_);rcases Ec.1 hb with hb|hb
   ·exact zHq hasc b hb
   ·rcases Kb.1 hb with hb|hb
    ·subst hb;rcases he' with rfl|rfl<;>decide
    ·rcases Ec.1 hb with hb|hb
     ·rcases BC hs with rfl|rfl|rfl
      ·cases hb
      ·simp_all
      simp_all
     ·have:=Cy (Rb.1 hx b hb);omega
  have hlt:((D++dotS F)++e::(s++x)).length<=40000:=by rw[Ma,Fa,Ma,Ma];omega
  have t2:mo (D++(dotS F++expT (some (e,s,x))),[101,69])=some ((D++dotS F).length:Int):=by rw[hass];unfold mo;show need (short ((D++dotS F)++e::(s++x))&&short [101,69]&&Oh ((D++dotS F)++e::(s++x))&&Oh [101,69]) _=_;rw[show short ((D++dotS F)++e::(s++x))=true from Ga (by omega),hasx];exact congrArg some (tX he' (s++x) _ hpar)
  have hdrop:List.drop (D++dotS F).length ((D++dotS F)++e::(s++x))=e::(s++x):=List.drop_left;have hdrop1:List.drop ((D++dotS F).length+1) ((D++dotS F)++e::(s++x))=s++x:=by rw[<-df,hdrop];rfl
  have hd0:(D++dotS F).length<=40000:=by rw[Ma];omega
  have hw1:w64 (((D++dotS F).length:Int)+1)=(((D++dotS F).length+1:Nat):Int):=by rw[QQ (by omega) (by omega)];omega
  simp only[t2,Aa];rw[Ga (show(((D++dotS F).length:Nat):Int)>=0 by omega),Ca,hw1,hass];have hlt2:(D++dotS F).length+1<=((D++dotS F)++e::(s++x)).length:=by rw[Ma (bs:=e::(s++x)),Fa];omega
  rw[ZT (by grind),Ib,hdrop1];have hxh: ∀c r,x=c::r->List.contains [43,45] c=false:=by intro c r e;subst e;rw[Lc,Ea]at hx;exact(jX hx.1).2.2.2.2
  have t4:Ao (s++x,[43,45])=some x:=by unfold Ao;rw[ZT (show(short ([43,45]:Str)&&Oh [43,45])=true by decide)];exact congrArg some (DW hs hxh)
  have hxl:x.length<=40000:=by omega
  have hml:maxLen=9223372036854775807:=rfl;simp only[t4,Aa];rw[ZT (Ga (by omega))];have hcap:=WB 1048576 x 0 (Ra _);rw[wm (dY (cap:=1048576) hx (by omega) (by omega) (fun v i hi=> ?_) (fun v=> ?_))]
  ·have hg8: ∃y8,geti ((D++dotS F)++e::(s++x)) (((D++dotS F).length+1:Nat):Int)=some y8/\(((y8.toNat:Int)==45)=(s==[45])):=by
    have hgg: ∀(b:UInt8) (r:Str),s++x=b::r->geti ((D++dotS F)++e::(s++x)) (((D++dotS F).length+1:Nat):Int)=some b:=by
     intro b r e1;unfold geti;have:((D++dotS F)++e::(s++x))[(D++dotS F).length+1]? =some b:=by rw[List.getElem?_append_right (by omega),show(D++dotS F).length+1 - (D++dotS F).length=1 by omega,Bg,e1];rfl
     rw[Ib,this,Ga (by omega)];rfl
    rcases BC hs with rfl|rfl|rfl
    ·cases hxx:x with
     |nil=>grind
     |cons c r=>
      refine⟨c,by grind,?_⟩;have:=hxh c r hxx;refine Da.2 (fun e=> ?_);have h45:c=45:=Mf.1 (by grind)
      grind
    ·grind
    ·grind
   obtain⟨y8,h8,h8'⟩:=hg8;simp only[h8,Aa];rw[h8'];have hj:(bif s==[45]then(some (LX.out ((D++dotS F)++e::(s++x),3,w64 (0 - ((capF 1048576 0 x:Nat):Int)))):Option (LX (Str×Int×Int) (LX (Str×Int) Int)))else some (LX.out ((D++dotS F)++e::(s++x),3,((capF 1048576 0 x:Nat):Int))))
     =some (LX.out ((D++dotS F)++e::(s++x),3,expV (some (e,s,x)))):=by
    unfold expV;simp only;cases s==[45]with
    |true=>rw[Ca,Ka rfl,QQ (by omega) (by omega)];simp
    |false=>grind
   have hEb:expV (some (e,s,x))<=1048576/\ -1048576<=expV (some (e,s,x)):=by unfold expV;simp only;split<;>omega
   refine(congrArg (fun o=>Zh (Zh o _) _) hj).trans ?_;simp only[zH];rw[show decide ((((D++dotS F).length:Nat):Int)<=((((D++dotS F)++e::(s++x)).length:Nat):Int))=true from Ga (by omega),ZT (by rfl)];simp only[zH,Ib,List.take_left];rw[QQ (by omega) (by omega)];exact DY (E:=expV (some (e,s,x))) hD hF (by omega) (by omega) (by omega) y1 sg hyy hsh
  ·simp_all
  ·grind
theorem qz{n:Nat}(h:n<256):QG ((n:Nat):Int)=some (UInt8.ofNat n):=by
 unfold QG
 grind
theorem oO(n k:Nat)(a:k<=32):dh .i32 (n:Int) (k:Int)=((n / 2 ^ k:Nat):Int):=by
 unfold dh;rw[show(min ((k:Int).toNat) IntKind.i32.bits)=k by show min k 32=k;omega]
 grind
theorem shr6(n:Nat):dh .i32 (n:Int) 6=((n / 64:Nat):Int):=oO n 6 (by omega)
theorem sU(n:Nat):dh .i32 (n:Int) 12=((n / 4096:Nat):Int):=oO n 12 (by omega)
theorem rU(n:Nat):dh .i32 (n:Int) 18=((n / 262144:Nat):Int):=oO n 18 (by omega)
theorem zNh(n:Int):IntKind.u8.wrap n=n%256:=by simp[IntKind.wrap,IntKind.bits,IntKind.signed]
theorem zLL(n:Int):IntKind.u32.wrap n=n%4294967296:=by simp[IntKind.wrap,IntKind.bits,IntKind.signed]
theorem Mo{n:Nat}(h:n<2147483648):w32 (n:Int)=(n:Int):=by show IntKind.i32.wrap _=_;simp only[IntKind.wrap,IntKind.bits,IntKind.signed];simp;omega
theorem yX{n:Nat}(h:n<2147483648):wu32 (n:Int)=(n:Int):=by show IntKind.u32.wrap _=_;rw[zLL];omega
theorem jw(n:Nat):wu8 (n:Int)=((n%256:Nat):Int):=by show IntKind.u8.wrap (n:Int)=_;rw[zNh];omega
theorem pY(n:Nat):ibOr .u8 128 (Ti .u8 (wu8 (n:Int)) 63)=((128+n%64:Nat):Int):=by
 have: ∀m:Nat,m<256->ibOr .u8 128 (Ti .u8 ((m:Nat):Int) 63)=((128+m%64:Nat):Int):=by decide+kernel
 rw[jw,this _ (Nat.mod_lt _ (by omega)),show n%256%64=n%64 by omega]
theorem jU{n:Nat}(h:n<32):ibOr .u8 192 (wu8 (n:Int))=((192+n:Nat):Int):=by
 have: ∀m:Nat,m<32->ibOr .u8 192 (wu8 ((m:Nat):Int))=((192+m:Nat):Int):=by decide+kernel
 exact this n h
theorem GH{n:Nat}(h:n<16):ibOr .u8 224 (wu8 (n:Int))=((224+n:Nat):Int):=by
 have: ∀m:Nat,m<16->ibOr .u8 224 (wu8 ((m:Nat):Int))=((224+m:Nat):Int):=by decide+kernel
 exact this n h
theorem iU{n:Nat}(h:n<8):ibOr .u8 240 (wu8 (n:Int))=((240+n:Nat):Int):=by
 have: ∀m:Nat,m<8->ibOr .u8 240 (wu8 ((m:Nat):Int))=((240+m:Nat):Int):=by decide+kernel
 exact this n h
theorem Kj{n m:Nat}(h:n+m<=2000000000):ZE n m 1=true:=by unfold ZE;grind
theorem wU{n:Nat}(o:n≠0)(h:n<16777216){l:Str}(m:l.length<=1000000000):QU (w32 (n:Int),l)=some (l++Fj n):=by
 have j:ZE l.length 1 1=true:=Kj (by omega);have f:ZE l.length 2 1=true:=Kj (by omega);have d:ZE l.length 3 1=true:=Kj (by omega);have g:ZE l.length 4 1=true:=Kj (by omega);have c:(128+n%64)<256:=by omega
 have a:(128+n / 64%64)<256:=by omega
 have b:(128+n / 4096%64)<256:=by omega
 unfold QU jL Fj;simp only[Mo (show n<2147483648 by omega),yX (show n<2147483648 by omega),za,shr6,sU,rU,pY,qz c,qz a,qz b,Aa];by_cases e:n<128
 ·rw[Ga (by omega),Ca,jw,qz (by omega),Aa,ZT j,Ha (by omega),Ka e,jf (by omega)]
 ·rw[Ua (by omega),Ba];by_cases i:n<2048
  ·rw[Ga (by omega),Ca,jU (by omega),qz (by omega)];simp only[Aa];rw[ZT f,Ha (by omega),Ha (by omega),Ka i];rfl
  ·rw[Ua (by omega),Ba];by_cases p:n<55296
   ·rw[Ga (by omega),Ca,zH];simp only[Ca];rw[GH (by omega),qz (by omega)];simp only[Aa];rw[ZT d,Ha (by omega),Ha (by omega),Ha (by omega),Ka (by omega)];rfl
   ·rw[Ua (by omega),Ba,zH];simp only[OV];by_cases k:57343<n/\n<65536
    ·rw[Ga (by omega),Ga (by omega),Sb,Ca,GH (by omega),qz (by omega)];simp only[Aa];rw[ZT d,Ha (by omega),Ha (by omega),Ha (by omega),Ka (by omega)];rfl
    ·rw[show(decide ((57343:Int)<(n:Int))&&decide ((n:Int)<=65535))=false by grind,Ba];by_cases q:65535<n/\n<=1114111
     ·rw[Ga (by omega),Ga (by omega),Sb,Ca,iU (by omega),qz (by omega)];simp only[Aa];rw[ZT g,Ha (by omega),Ha (by omega),Ha (by omega),Ha (by omega)];rfl
     ·rw[show(decide ((n:Int)>65535)&&decide ((n:Int)<=1114111))=false by grind,Ba,ZT d,Ka (by omega)];rfl
theorem NP{l:Str}(a:l.length<=1000000000):QU (65533,l)=some (l++Xv):=by have h:=wU (n:=65533) (by omega) (by omega) a;rw[Mo (by omega)]at h;exact h
theorem Sj{s:Str}{c:UInt8}{l:Str}(h:c::l<:+s):l<:+s:=(Wd c l).trans h
theorem Gi{s:Str}{c:UInt8}{l:Str}(d:s.length<=big)(h:c::l<:+s):w64 ((beh s (c::l):Int)+1)=(beh s l:Int):=by
 have b:big=4194304:=rfl;have a:=h.length_le;rw[Fa]at a;have e:beh s (c::l)+1=beh s l:=by unfold beh;rw[Fa];omega
 have:=Tm s l;rw[QQ (by omega) (by omega)];omega
theorem Nq(c:UInt8)(l:Str):pk (c::l) 0=(c.toNat:Int):=rfl
theorem Mx(c:UInt8):QG (wu8 ((c.toNat:Nat):Int))=some c:=by rw[jw,jf (Tc c),qz (Tc c),Xf]
theorem JB{b:UInt8}(h:Lg b=true):hexN b<16:=Fb h
theorem WV{n d:Nat}(hn:n<16777216)(hd:d<16):ibOr .i64 (XA .i64 (n:Int) 4) (d:Int)=((16*n+d:Nat):Int):=by
 have h1:XA .i64 (n:Int) 4=((16*n:Nat):Int):=by unfold XA;rw[show(2:Int) ^ (min (4:Int).toNat IntKind.i64.bits)=16 from rfl];rw[ZY (by omega) (by omega)];omega
 rw[h1];unfold ibOr;have e:(BitVec.ofInt IntKind.i64.bits ((16*n:Nat):Int) ||| BitVec.ofInt IntKind.i64.bits (d:Int)).toNat=16*n+d:=by
  rw[BitVec.toNat_or,BitVec.toNat_ofInt,BitVec.toNat_ofInt];rw[show((((16*n:Nat):Int)%((2 ^ IntKind.i64.bits:Nat):Int)).toNat)=16*n by show(((16*n:Nat):Int)%18446744073709551616).toNat=_;omega,
   show(((d:Int)%((2 ^ IntKind.i64.bits:Nat):Int)).toNat)=d by show((d:Int)%18446744073709551616).toNat=_;omega]
  have:=Nat.two_pow_add_eq_or_of_lt (i:=4) (b:=d) hd n;rw[show 2 ^ 4*n=16*n from rfl]at this;exact this.symm
 rw[e,ZY (by omega) (by omega)]
theorem NC(b:UInt8):decide (hexI b<0)= !Lg b:=by
 unfold hexI
 grind
theorem zKD: ∀(k n:Nat) (l:Str),Lg (atS l 0)=false->hexes k n l=(n,l)
 |0,_,_,_=>rfl
 |_+1,_,[],_=>rfl
 |k+1,n,c::r,h=>by unfold hexes;rw[Ha (by rw[show Lg c=false from h];decide)]
theorem EZ {R:Type} {step:(Int×Int)×ze->Option (LO ((Int×Int)×ze) (Int×ze) R)} {s l:Str} (j:l<:+s)
  (h: ∀(n i:Nat) (q:Str),q<:+s->n<16777216->i<=6->step (((n:Int),(i:Int)),sr s q)=some (bif decide (i<6)&&Lg (atS q 0)then .again ((((16*n+hexN (atS q 0):Nat):Int),((i+1:Nat):Int)),sr s (q.drop 1))else .out ((n:Int),sr s q))):
  yg step ((0,0),sr s l)=some (.out (((hexes 6 0 l).1:Int),sr s (hexes 6 0 l).2)):=by
 refine Qq (fun z=> ∃(n i:Nat) (q:Str),z=(((n:Int),(i:Int)),sr s q)/\q<:+s/\i<=6/\n<16 ^ i/\hexes (6 - i) n q=hexes 6 0 l) (fun z=>6 - z.1.2.toNat) _ ?_ ⟨0,0,l,rfl,j,by omega,by decide,rfl⟩;rintro _ ⟨n,i,q,rfl,g,f,k,d⟩;have e:n<16777216:=Gc k (Nat.pow_le_pow_right (by omega) f:16 ^ i<=16 ^ 6);rw[h n i q g e f];rcases Xd i 6 with b|m
 ·rw[Ga b,Ya];cases a:Lg (atS q 0)with
  |true=>
   cases q with
   |nil=>exact absurd a (by decide)
   |cons c r=>
    have o:=JB a;refine .inl ⟨_,rfl,⟨16*n+hexN (atS (c::r) 0),i+1,r,rfl,Sj g,by omega,?_,?_⟩,by grind⟩
    ·grind
    ·rw[<-d,show 6 - i=(6 - (i+1))+1 by omega];rw[hexes.eq_def ((6 - (i+1))+1) n (c::r)];simp only;rw[Ka (show Lg c=true from a)];rfl
  |false=> refine .inr (.inl ⟨_,rfl,?_⟩);rw[<-d,zKD _ _ _ a]
 ·rw[Ua (by omega),Dc];refine .inr (.inl ⟨_,rfl,?_⟩);rw[<-d,show 6 - i=0 by omega];rfl
theorem PI: ∀(k n:Nat) (l:Str),(hexes k n l).1<16 ^ k*(n+1)
 |0,n,l=>by unfold hexes;omega
 |k+1,n,[]=>by have:0<16 ^ (k+1):=Nat.pow_pos (by omega);unfold hexes;exact Gc (jd n) (Nat.le_mul_of_pos_left _ this)
 |k+1,n,c::r=>by
  unfold hexes;cases hx:Lg c with
  |true=> rw[Ka rfl];have h1:=PI k (16*n+hexN c) r;have:=JB hx;refine Gc h1 ?_;rw[Nat.pow_succ,Nat.mul_assoc];exact Nat.mul_le_mul_left _ (by omega)
  |false=> rw[Ha (by decide)];have:0<16 ^ (k+1):=Nat.pow_pos (by omega);exact Gc (jd n) (Nat.le_mul_of_pos_left _ this)
theorem JJ{s l acc:Str}{c:UInt8}(hs:s.length<=big)(hr:c::l<:+s)(ha:acc.length<=1000000000):
  qd (sr s (c::l),acc)=some (sr s (zX l).2,acc++(zX l).1):=by
 have hl:=Sj hr;unfold qd;simp only[Gi hs hr,za,Nh hs hl,Aa,Fq];cases l with
 |nil=> rw[show([]:Str).isEmpty=true from rfl,Ca,NP ha];rfl
 |cons d r=>
  rw[show(d::r).isEmpty=false from rfl,Ba,xG];simp only[Aa,NC];cases hx:Lg (atS (d::r) 0)with
  |false=>
   rw[Xa,Ca,Nq,Mx];simp only[Aa,Gi hs hl];rw[ZT (Kj (by omega))];have:zX (d::r)=([d],r):=by show(if Lg d then _ else _)=_;rw[Ha (by rw[show Lg d=false from hx];decide)]
   rw[this]
  |true=>
   rw[aa,Ba];have he:zX (d::r)=(Fj (hexes 6 0 (d::r)).1,unsp (hexes 6 0 (d::r)).2):=by show(if Lg d then _ else _)=_;rw[Ka (show Lg d=true from hx)]
   rw[he];rw[wm (EZ (l:=d::r) hl (fun n i q hq hn hi=> ?_))]
   ·have hq:(hexes 6 0 (d::r)).2<:+s:=(Hy 6 0 _).trans hl;have hlt:=PI 6 0 (d::r);rw[show 16 ^ 6*(0+1)=16777216 from rfl]at hlt;simp only[Nh hs hq,Aa,Xw];have hj:(bif spB (atS (hexes 6 0 (d::r)).2 0)then some (LX.out (((hexes 6 0 (d::r)).1:Int),(⟨s,w64 ((beh s (hexes 6 0 (d::r)).2:Int)+1)⟩:ze),acc))else some (LX.out (((hexes 6 0 (d::r)).1:Int),sr s (hexes 6 0 (d::r)).2,acc)):Option (LX (Int×ze×List UInt8) (ze×List UInt8)))
      =some (LX.out (((hexes 6 0 (d::r)).1:Int),sr s (unsp (hexes 6 0 (d::r)).2),acc)):=by
     cases hh:(hexes 6 0 (d::r)).2 with
     |nil=>rfl
     |cons e t=>
      rw[hh]at hq;rw[show atS (e::t) 0=e from rfl,Gi hs hq];show _=some (LX.out (_,sr s (if spB e then t else e::t),acc))
      grind
    rw[hj,zH];simp only;by_cases h0:(hexes 6 0 (d::r)).1=0
    ·rw[h0,show((((0:Nat):Int))==0)=true from rfl,Ca,zH];simp only[Mo (show 65533<2147483648 by omega),show w32 (65533:Int)=65533 from Mo (n:=65533) (by omega),NP ha,Aa];rfl
    ·rw[show(((hexes 6 0 (d::r)).1:Int)==0)=false by grind,Ba,zH];simp only[wU h0 hlt ha,Aa]
   ·simp only[Nh hs hq,Aa,xG,NC];have hb6:decide ((i:Int)<6)=decide (i<6):=by rw[decide_eq_decide];omega
    rw[hb6];cases decide (i<6)with
    |false=>rfl
    |true=>
     rw[Ca,Ya];cases hx2:Lg (atS q 0)with
     |false=>rfl
     |true=>
      cases q with
      |nil=>exact absurd hx2 (by decide)
      |cons e t=>
       have hI:hexI (atS (e::t) 0)=(hexN (atS (e::t) 0):Int):=by unfold hexI;rw[Ka hx2]
       rw[hI,WV hn (JB hx2),Gi hs hq,QQ (by omega) (by omega)];rfl
theorem zKv{s r:Str}{k:Nat}(b:s.length<=big)(c:r<:+s)(d:k<=4):Zy ((k:Int),sr s r)=some (escS (r.drop k)&&decide (k<r.length)):=by
 unfold Zy;simp only[za,Gs b c (show k<=8 by omega),Aa,dU];rw[show w64 ((k:Int)+1)=((k+1:Nat):Int) by rw[QQ (by omega) (by omega)];omega,Gs b c (by omega)];unfold escS;rw[Kk,Kk,Uc];cases h:(atS r k==92)with
 |false=>simp_all
 |true=> have a:k<r.length:=YA (by grind);rw[Ga a];simp only[zD,Ca,Aa,Ya,Sb];unfold bne;rw[yL]
theorem zKu{l:Str}(h:escS l=true):0<l.length:=by unfold escS at h;rw[Ea]at h;exact YA (by grind)
theorem UC{s r:Str}{k:Nat}(hs:s.length<=big)(hr:r<:+s)(hk:k<=4):Zy ((k:Int),sr s r)=some (escS (r.drop k)):=by
 rw[zKv hs hr hk];cases h:escS (r.drop k)with
 |false=>rfl
 |true=> have:=zKu h;rw[Yb]at this;rw[Ga (by omega)];rfl
theorem aI{s r:Str}(a:s.length<=big)(b:r<:+s):Zy (0,sr s r)=some (escS r):=UC (k:=0) a b (by omega)
theorem NM{s r:Str}{k:Nat}(a:s.length<=big)(b:r<:+s)(d:k<=2):ZA ((k:Int),sr s r)=some (nmS (r.drop k)):=by
 unfold ZA;have c:w64 ((k:Int)+1)=((k+1:Nat):Int):=by rw[QQ (by omega) (by omega)];omega
 simp only[c,za,Gs a b (show k<=8 by omega),Gs a b (show k+1<=8 by omega),Aa,zLB,UC a b (show k<=4 by omega),UC a b (show k+1<=4 by omega)];unfold nmS;rw[Kk,Kk,df];unfold bne;rw[yz,Uc];cases atS r k==45 with
 |true=>
  simp only[aa,Ba,Ee];cases fstB (atS r (k+1))with
  |true=>rfl
  |false=>
   simp only[Xa,zD,Ca,Ba,Aa,yz]
   grind
 |false=> simp only[Xa,Ca];cases fstB (atS r k)<;>cases escS (r.drop k)<;>rfl
theorem zJm(n:Nat):(Fj n).length<=4:=by
 unfold Fj Xv
 grind
theorem Ay(l:Str):(zX l).1.length<=4:=by
 cases l with
 |nil=>show Xv.length<=4;decide
 |cons c r=>
  show(if Lg c then(Fj (hexes 6 0 (c::r)).1,unsp (hexes 6 0 (c::r)).2)else([c],r)).1.length<=4;split
  ·exact zJm _
  grind
theorem Am(c:UInt8)(r:Str):Zn (c::r)=if letB c then((c::(Zn r).1),(Zn r).2)
  else if escS (c::r)then((zX r).1++(Zn (zX r).2).1,(Zn (zX r).2).2)
  else([],c::r):=by rw[Zn]
theorem gu:Zn []=([],[]):=by rw[Zn]
theorem zMR(l:Str):(pk l 0 != -1)= !l.isEmpty:=by unfold bne;rw[Fq]
theorem uG{s r:Str}(i:s.length<=big)(k:r<:+s):ZO (sr s r)=some ((Zn r).1,sr s (Zn r).2):=by
 have m:big=4194304:=rfl;unfold ZO;refine lI (r:=((Zn r).1,sr s (Zn r).2)) ?_;refine Qq (fun z=> ∃(q a:Str),z=(sr s q,a)/\q<:+s/\a.length+4*q.length<=4*s.length/\a++(Zn q).1=(Zn r).1/\(Zn q).2=(Zn r).2) (fun z=>s.length - z.1.at_.toNat) _ ?_ ⟨r,[],rfl,k,by grind,rfl,rfl⟩;rintro _ ⟨q,a,rfl,f,j,d,b⟩;simp only[za,Nh i f,Aa,EY];cases q with
 |nil=>
  refine .inr (.inr ⟨_,rfl,?_⟩);rw[gu]at d b
  grind
 |cons c t=>
  have g:=f.length_le;rw[Fa]at g j;rw[show atS (c::t) 0=c from rfl];rw[Am]at d b;cases e:letB c with
  |true=>
   rw[e,Ka rfl]at d b;refine .inl ⟨(sr s t,a++[c]),?_,⟨t,a++[c],rfl,Sj f,by grind,by grind,b⟩,?_⟩
   ·rw[Ca,Nq,Mx];simp only[Aa];rw[ZT (Kj (by omega)),Gi i f]
   ·show s.length - beh s t<s.length - beh s (c::t);unfold beh;grind
  |false=>
   rw[e,Ha (by decide)]at d b;rw[Ba,zMR,show(c::t).isEmpty=false from rfl,aI i f];cases h:escS (c::t)with
   |true=>
    rw[h,Ka rfl]at d b;have l:=Ay t;have n:=ZC t;refine .inl ⟨(sr s (zX t).2,a++(zX t).1),?_,⟨_,_,rfl,(Qa t).trans (Sj f),by grind,by grind,b⟩,?_⟩
    ·simp only[Xa,zD,Ca,Aa,JJ i f (show a.length<=1000000000 by omega)]
    ·show s.length - beh s (zX t).2<s.length - beh s (c::t);unfold beh;grind
   |false=> simp_all
theorem um(l:Str):(Zn l).2<:+l:=by
 match l with
 |[]=>rw[gu];grind
 |c::r=>
  rw[Am];split
  ·exact(um r).trans (Wd c r)
  ·split
   ·have:=ZC r;exact(um (zX r).2).trans ((Qa r).trans (Wd c r))
   grind
termination_by l.length
decreasing_by
 all_goals grind
def escC(c:UInt8):Str:=bif decide (32<c.toNat)&&decide (c.toNat<127)&& !digB c&& !alB c then [92,c]else 92::(hexS c.toNat++[32])
def pcW(dash:Bool)(k:Nat)(c:UInt8):Str:=bif letB c&&(k==0|| !digB c)&& !dash then [c]else escC c
def encW(dash:Bool):Nat->Str->Str
 |_,[]=>[]
 |k,c::r=>pcW dash k c++encW dash (k - 1) r
def zMa(l:Str):Nat:=if [45].isPrefixOf l then 2 else 1
def Vv(l:Str):Str:=encW (l==[45]) (zMa l) l
theorem BV{s r:Str}:(decide ((0:Int)<=(beh s r:Int))&&decide ((beh s r:Int)<=(s.length:Int)))=true:=by
 have:=Tm s r
 grind
theorem RN{s r:Str}(a:r<:+s):List.drop ((beh s r:Int)).toNat s=r:=by rw[Ib,Bu a]
theorem zMU{a b:UInt8}{m t:Str}(h:(b==a)=false):(a::m).isPrefixOf (b::t)=false:=by
 grind
theorem Lr(m:UInt8):ZB m []=(some [],[]):=by rw[ZB]
theorem Kv(m c:UInt8)(r:Str):ZB m (c::r)=if c==m then(some [],r)
  else if c==10 then(none,c::r)
  else if c==92 then
   (if r.isEmpty then(some [],[])
   else if atS r 0==10 then ZB m (r.drop 1)
   else((ZB m (zX r).2).1.map ((zX r).1++ ·),(ZB m (zX r).2).2))
  else((ZB m r).1.map (c:: ·),(ZB m r).2):=by rw[ZB]
theorem eu(m:UInt8)(l:Str):(ZB m l).2<:+l:=by
 match l with
 |[]=>rw[Lr];grind
 |c::r=>
  rw[Kv];have a:=Wd c r;split
  ·exact a
  ·split
   ·grind
   ·split
    ·split
     ·grind
     ·split
      ·exact(eu m (r.drop 1)).trans ((Ke 1 r).trans a)
      ·have:=ZC r;exact(eu m (zX r).2).trans ((Qa r).trans a)
    ·exact(eu m r).trans a
termination_by l.length
decreasing_by
 all_goals grind
theorem fO(a b:Str)(x:Option Str):(x.map (b++ ·)).map (a++ ·)=x.map ((a++b)++ ·):=by
 cases x with
 |none=>rfl
 |some t=>grind
theorem mY(a:Str)(b:UInt8)(x:Option Str):(x.map (b:: ·)).map (a++ ·)=x.map ((a++[b])++ ·):=fO a [b] x
def Ml:Option Str->zf
 |some t=>⟨5,t,0,[],false⟩
 |none=>⟨6,[],0,[],false⟩
theorem zLo{s q:Str}{m:UInt8}(k:s.length<=big)(w:m::q<:+s):sG (sr s (m::q))=some (Ml (ZB m q).1,sr s (ZB m q).2):=by
 have J:big=4194304:=rfl;have D:=Sj w;unfold sG;simp only[za,Nh k w,Aa,Nq,Gi k w]
 let g:LX (ze×zf×List UInt8) (zf×ze):=match(ZB m q).1 with
  |some t=> .out (sr s (ZB m q).2,⟨0,[],0,[],false⟩,t)
  |none=> .ret (⟨6,[],0,[],false⟩,sr s (ZB m q).2)
 rw[qD (r:=g)]
 ·show LX.go g _=_;cases h:(ZB m q).1 with
  |some t=>simp only[g,h];rfl
  |none=>simp only[g,h];rfl
 refine Qq (fun z=> ∃(p e:Str),z=(sr s p,⟨0,[],0,[],false⟩,e)/\p<:+s/\e.length+4*p.length<=4*s.length/\(ZB m q).1=(ZB m p).1.map (e++ ·)/\(ZB m q).2=(ZB m p).2) (fun z=>s.length - z.1.at_.toNat) _ ?_
  ⟨q,[],rfl,D,by grind,by simp,rfl⟩
 rintro _ ⟨p,e,rfl,j,C,b,a⟩;simp only[Nh k j,Aa,Fq,yL,dU];cases p with
 |nil=>
  refine .inr (.inl ⟨_,rfl,?_⟩);rw[Lr]at b a
  grind
 |cons c t=>
  have i:=j.length_le;rw[Fa]at i C;have n:=Sj j;rw[Kv]at b a;rw[show(c::t).isEmpty=false from rfl,Ba,Nq,show((c.toNat:Int)==(m.toNat:Int))=(c==m)from iB c m,show atS (c::t) 0=c from rfl,Gi k j];have f: ∀u:Str,u.length<=t.length->u<:+s->s.length - beh s u<s.length - beh s (c::t):=by intro u A F;unfold beh;rw[Fa];omega
  cases v:c==m with
  |true=>
   grind
  |false=>
   rw[v,Ha (by decide)]at b a;rw[Ba];cases y:c==10 with
   |true=>
    grind
   |false=>
    rw[y,Ha (by decide)]at b a;rw[Ba];cases l:c==92 with
    |false=> rw[l,Ha (by decide)]at b a;simp only[zD,Ba,Aa,Jc,Mx];rw[ZT (Kj (by omega))];exact .inl ⟨_,rfl,⟨t,e++[c],rfl,n,by grind,by rw[b,mY],a⟩,f t (by omega) n⟩
    |true=>
     rw[l,Ka rfl]at b a;simp only[zD,Ca,Dw k j,Aa,Sb];have x:pk (c::t) 1=pk t 0:=rfl;rw[x,Fq];cases t with
     |nil=>
      rw[show([]:Str).isEmpty=true from rfl,Ka rfl]at b a;have o:beh s [c]=s.length - 1:=rfl;have G:(if((s.length:Int)<w64 ((beh s [c]:Int)+2))then(s.length:Int)else w64 ((beh s [c]:Int)+2))=((beh s []:Nat):Int):=by rw[QQ (by omega) (by omega),Ka (by omega)];unfold beh;rw[Eb];omega
      refine .inl ⟨(sr s [],⟨0,[],0,[],false⟩,e),?_,⟨[],e,rfl,List.nil_suffix,by grind,by rw[b,Lr],by rw[a,Lr]⟩,f [] (by simp) List.nil_suffix⟩
      grind
     |cons d u=>
      rw[show(d::u).isEmpty=false from rfl,Ha (by decide)]at b a;simp only[show(d::u).isEmpty=false from rfl,Xa,Ca,Ba,Aa,yL];cases B:atS (d::u) 0==10 with
      |true=>
       rw[B,Ka rfl]at b a;have A:=Sj n;rw[Fa]at i C;have o:beh s (c::d::u)=s.length - (u.length+1+1):=by unfold beh;rw[Fa,Fa]
       have G:(if((s.length:Int)<w64 ((beh s (c::d::u):Int)+2))then(s.length:Int)else w64 ((beh s (c::d::u):Int)+2))=((beh s u:Nat):Int):=by rw[QQ (by omega) (by omega),Ha (by omega)];unfold beh;rw[Fa,Fa];omega
       refine .inl ⟨(sr s u,⟨0,[],0,[],false⟩,e),?_,⟨u,e,rfl,A,by omega,b,a⟩,f u (by grind) A⟩
       grind
      |false=> rw[B,Ha (by decide)]at b a;have H:=Ay (d::u);have E:=ZC (d::u);refine .inl ⟨(sr s (zX (d::u)).2,⟨0,[],0,[],false⟩,e++(zX (d::u)).1),?_,⟨_,_,rfl,(Qa _).trans n,by grind,by rw[b,fO],a⟩,f _ E ((Qa _).trans n)⟩;simp only[Ba,JJ k j (show e.length<=1000000000 by omega),Aa]
theorem xU{n:Nat}(l:n≠0)(h:n<16777216):QT (w32 (n:Int))=some (Fj n):=by
 have j:ZE 0 1 1=true:=Kj (by omega);have f:ZE 0 2 1=true:=Kj (by omega);have d:ZE 0 3 1=true:=Kj (by omega);have g:ZE 0 4 1=true:=Kj (by omega);have c:(128+n%64)<256:=by omega
 have a:(128+n / 64%64)<256:=by omega
 have b:(128+n / 4096%64)<256:=by omega
 unfold QT kL Fj;simp only[Mo (show n<2147483648 by omega),yX (show n<2147483648 by omega),za,shr6,sU,rU,pY,qz c,qz a,qz b,Aa];by_cases e:n<128
 ·rw[Ga (by omega),Ca,jw,qz (by omega),Aa,ZT j,Ha (by omega),Ka e,jf (by omega)]
 ·rw[Ua (by omega),Ba];by_cases i:n<2048
  ·rw[Ga (by omega),Ca,jU (by omega),qz (by omega)];simp only[Aa];rw[ZT f,Ha (by omega),Ha (by omega),Ka i];rfl
  ·rw[Ua (by omega),Ba];by_cases m:n<55296
   ·rw[Ga (by omega),Ca,zH];simp only[Ca];rw[GH (by omega),qz (by omega)];simp only[Aa];rw[ZT d,Ha (by omega),Ha (by omega),Ha (by omega),Ka (by omega)];rfl
   ·rw[Ua (by omega),Ba,zH];simp only[OV];by_cases k:57343<n/\n<65536
    ·rw[Ga (by omega),Ga (by omega),Sb,Ca,GH (by omega),qz (by omega)];simp only[Aa];rw[ZT d,Ha (by omega),Ha (by omega),Ha (by omega),Ka (by omega)];rfl
    ·rw[show(decide ((57343:Int)<(n:Int))&&decide ((n:Int)<=65535))=false by grind,Ba];by_cases o:65535<n/\n<=1114111
     ·rw[Ga (by omega),Ga (by omega),Sb,Ca,iU (by omega),qz (by omega)];simp only[Aa];rw[ZT g,Ha (by omega),Ha (by omega),Ha (by omega),Ha (by omega)];rfl
     ·rw[show(decide ((n:Int)>65535)&&decide ((n:Int)<=1114111))=false by grind,Ba,ZT d,Ka (by omega)];rfl
theorem iQ:QT 65533=some Xv:=by have h:=xU (n:=65533) (by omega) (by omega);rw[Mo (by omega)]at h;exact h
theorem zEK{s l:Str}{c:UInt8}(hs:s.length<=big)(hr:c::l<:+s):
  QO (sr s (c::l))=some (sr s (zX l).2,(zX l).1):=by
 have hl:=Sj hr;unfold QO;simp only[Gi hs hr,za,Nh hs hl,Aa,Fq];cases l with
 |nil=> rw[show([]:Str).isEmpty=true from rfl,Ca,iQ];rfl
 |cons d r=>
  rw[show(d::r).isEmpty=false from rfl,Ba,xG];simp only[Aa,NC];cases hx:Lg (atS (d::r) 0)with
  |false=>
   rw[Xa,Ca,Nq,Mx];simp only[Aa,Gi hs hl];rw[ZT (Kj (n:=0) (by omega))];have:zX (d::r)=([d],r):=by show(if Lg d then _ else _)=_;rw[Ha (by rw[show Lg d=false from hx];decide)]
   rw[this]
  |true=>
   rw[aa,Ba];have he:zX (d::r)=(Fj (hexes 6 0 (d::r)).1,unsp (hexes 6 0 (d::r)).2):=by show(if Lg d then _ else _)=_;rw[Ka (show Lg d=true from hx)]
   rw[he];rw[wm (EZ (l:=d::r) hl (fun n i q hq hn hi=> ?_))]
   ·have hq:(hexes 6 0 (d::r)).2<:+s:=(Hy 6 0 _).trans hl;have hlt:=PI 6 0 (d::r);rw[show 16 ^ 6*(0+1)=16777216 from rfl]at hlt;simp only[Nh hs hq,Aa,Xw];have hj:(bif spB (atS (hexes 6 0 (d::r)).2 0)then some (LX.out (((hexes 6 0 (d::r)).1:Int),(⟨s,w64 ((beh s (hexes 6 0 (d::r)).2:Int)+1)⟩:ze)))else some (LX.out (((hexes 6 0 (d::r)).1:Int),sr s (hexes 6 0 (d::r)).2)):Option (LX (Int×ze) (ze×List UInt8)))
      =some (LX.out (((hexes 6 0 (d::r)).1:Int),sr s (unsp (hexes 6 0 (d::r)).2))):=by
     cases hh:(hexes 6 0 (d::r)).2 with
     |nil=>rfl
     |cons e t=>
      rw[hh]at hq;rw[show atS (e::t) 0=e from rfl,Gi hs hq];show _=some (LX.out (_,sr s (if spB e then t else e::t)))
      grind
    rw[hj,zH];simp only;by_cases h0:(hexes 6 0 (d::r)).1=0
    ·rw[h0,show((((0:Nat):Int))==0)=true from rfl,Ca,zH];simp only[Mo (show 65533<2147483648 by omega),show w32 (65533:Int)=65533 from Mo (n:=65533) (by omega),iQ,Aa];rfl
    ·rw[show(((hexes 6 0 (d::r)).1:Int)==0)=false by grind,Ba,zH];simp only[xU h0 hlt,Aa]
   ·simp only[Nh hs hq,Aa,xG,NC];have hb6:decide ((i:Int)<6)=decide (i<6):=by rw[decide_eq_decide];omega
    rw[hb6];cases decide (i<6)with
    |false=>rfl
    |true=>
     rw[Ca,Ya];cases hx2:Lg (atS q 0)with
     |false=>rfl
     |true=>
      cases q with
      |nil=>exact absurd hx2 (by decide)
      |cons e t=>
       have hI:hexI (atS (e::t) 0)=(hexN (atS (e::t) 0):Int):=by unfold hexI;rw[Ka hx2]
       rw[hI,WV hn (JB hx2),Gi hs hq,QQ (by omega) (by omega)];rfl
theorem Px:badS []=[]:=by rw[badS]
theorem Fy(c:UInt8)(r:Str):badS (c::r)=if c==41 then r else if escS (c::r)then badS (zX r).2 else badS r:=by rw[badS]
theorem dB(l:Str):badS l<:+l:=by
 match l with
 |[]=>rw[Px];grind
 |c::r=>
  rw[Fy];have a:=Wd c r;split
  ·exact a
  ·split
   ·have:=ZC r;exact(dB (zX r).2).trans ((Qa r).trans a)
   ·exact(dB r).trans a
termination_by l.length
decreasing_by
 all_goals grind
theorem zMb{s t:Str}{c:UInt8}(e:s.length<=big)(h:c::t<:+s):geti s (w64 ((beh s t:Int) - 1))=some c:=by
 have f:big=4194304:=rfl;have b:=h.length_le;rw[Fa]at b;have d:=Bu h;have g:beh s t=beh s (c::t)+1:=by unfold beh;rw[Fa];omega
 have a:beh s (c::t)<s.length:=by unfold beh;rw[Fa];omega
 rw[QQ (by omega) (by omega),show(beh s t:Int) - 1=((beh s (c::t):Nat):Int) by omega,zN a];rw[ma a]at d
 grind
theorem badR{s q:Str}(e:s.length<=big)(j:q<:+s):QR (sr s q)=some (⟨8,[],0,[],false⟩,sr s (badS q)):=by
 unfold QR;refine lI ?_;refine Qq (fun z=> ∃(p:Str),z=(sr s p,(⟨0,[],0,[],false⟩:zf))/\p<:+s/\badS q=badS p) (fun z=>s.length - z.1.at_.toNat) _ ?_ ⟨q,rfl,j,rfl⟩;rintro _ ⟨p,rfl,b,g⟩;simp only[za,Nh e b,Aa,Fq];cases p with
 |nil=>exact .inr (.inr ⟨_,rfl,by rw[g,Px]⟩)
 |cons c t=>
  have d:=b.length_le;rw[Fa]at d;have i:=Sj b;have f: ∀u:Str,u.length<=t.length->u<:+s->s.length - beh s u<s.length - beh s (c::t):=by intro u l k;unfold beh;rw[Fa];omega
  rw[show(c::t).isEmpty=false from rfl,Ba,aI e b];rw[Fy]at g;simp only[Aa];cases a:escS (c::t)with
  |true=>
   have h:(c==41)=false:=by unfold escS at a;rw[Ea,Cb]at a;rw[show c=92 from a.1];decide
   rw[a,h,Ha (by decide),Ka rfl]at g;rw[Ca,zEK e b];exact .inl ⟨_,rfl,⟨_,rfl,(Qa t).trans i,g⟩,f _ (ZC t) ((Qa t).trans i)⟩
  |false=>
   rw[Ba,Gi e b,zMb e b];simp only[Aa];rw[show((c.toNat:Int)==41)=(c==41)from iB c 41]
   grind
theorem gq:urlS []=(some [],[]):=by rw[urlS]
theorem Tu(c:UInt8)(r:Str):urlS (c::r)=if c==41 then(some [],r)
  else if spB c then(match past spB r with
   |[]=>(some [],[])
   |d::a=>if d==41 then(some [],a)else(none,badS (d::a)))
  else if c==34||c==39||c==40||unB c||c==92&& !escS (c::r)then(none,badS (c::r))
  else if c==92 then((urlS (zX r).2).1.map ((zX r).1++ ·),(urlS (zX r).2).2)
  else((urlS r).1.map (c:: ·),(urlS r).2):=by rw[urlS];grind
theorem Yt(l:Str):(urlS l).2<:+l:=by
 match l with
 |[]=>rw[gq];grind
 |c::r=>
  rw[Tu];have a:=Wd c r;split
  ·exact a
  ·split
   ·have b:=(lm spB r).trans a;cases e:past spB r with
    |nil=>grind
    |cons d f=>
     rw[e]at b;simp only;split
     ·exact(Wd d f).trans b
     ·exact(dB _).trans b
   ·split
    ·exact dB _
    ·split
     ·have:=ZC r;exact(Yt (zX r).2).trans ((Qa r).trans a)
     ·exact(Yt r).trans a
termination_by l.length
decreasing_by
 all_goals grind
def Lm:Option Str->zf
 |some t=>⟨7,t,0,[],false⟩
 |none=>⟨8,[],0,[],false⟩
theorem zLI(c:UInt8): ∃y,zD (!(bif bif bif bif (c.toNat:Int)==34 then true else(c.toNat:Int)==39 then true else(c.toNat:Int)==40 then true else decide ((c.toNat:Int)<=8)then true else(c.toNat:Int)==11)) (Np ((c.toNat:Int),14,31)) (default:Bool)=some y/\
  (bif bif bif bif bif bif (c.toNat:Int)==34 then true else(c.toNat:Int)==39 then true else(c.toNat:Int)==40 then true else decide ((c.toNat:Int)<=8)then true else(c.toNat:Int)==11 then true else y then true else(c.toNat:Int)==127)=(c==34||c==39||c==40||unB c):=by
 have a: ∀n:Nat,n<256->((zD (!(bif bif bif bif (n:Int)==34 then true else(n:Int)==39 then true else(n:Int)==40 then true else decide ((n:Int)<=8)then true else(n:Int)==11)) (Np ((n:Int),14,31)) (default:Bool)).elim false fun y=>
  (bif bif bif bif bif bif (n:Int)==34 then true else(n:Int)==39 then true else(n:Int)==40 then true else decide ((n:Int)<=8)then true else(n:Int)==11 then true else y then true else(n:Int)==127)==(UInt8.ofNat n==34||UInt8.ofNat n==39||UInt8.ofNat n==40||unB (UInt8.ofNat n)))=true:=by decide+kernel
 have h:=a c.toNat (Tc c);rw[Xf]at h;cases b:zD (!(bif bif bif bif (c.toNat:Int)==34 then true else(c.toNat:Int)==39 then true else(c.toNat:Int)==40 then true else decide ((c.toNat:Int)<=8)then true else(c.toNat:Int)==11)) (Np ((c.toNat:Int),14,31)) (default:Bool)with
 |none=>grind
 |some y=>
  grind
theorem uL(c:UInt8)(t:Str):(pk (c::t) 0== -1)=false:=by rw[Fq];rfl
theorem urlR{s w:Str}(f:s.length<=big)(v:w<:+s):eG (sr s w)=some (Lm (urlS (past spB w)).1,sr s (urlS (past spB w)).2):=by
 have L:big=4194304:=rfl;unfold eG;rw[VH f v];simp only[za,Aa];have E:=jq spB v;generalize past spB w=q at E ⊢;refine lI ?_;refine Qq (fun z=> ∃(p e:Str),z=(sr s p,(⟨0,[],0,[],false⟩:zf),e)/\p<:+s/\e.length+4*p.length<=4*s.length/\(urlS q).1=(urlS p).1.map (e++ ·)/\(urlS q).2=(urlS p).2) (fun z=>s.length - z.1.at_.toNat) _ ?_
  ⟨q,[],rfl,E,by grind,by simp,rfl⟩
 rintro _ ⟨p,e,rfl,h,G,b,a⟩;simp only[Nh f h,Aa,Xw];cases p with
 |nil=> refine .inr (.inr ⟨_,rfl,?_⟩);rw[gq]at b a;rw[b,a];simp only[Ac,Xb,Lm]
 |cons c t=>
  have m:=h.length_le;rw[Fa]at m G;have r:=Sj h;have k: ∀u:Str,u.length<=t.length->u<:+s->s.length - beh s u<s.length - beh s (c::t):=by intro u M J;unfold beh;rw[Fa];omega
  rw[Tu]at b a;rw[show atS (c::t) 0=c from rfl];cases j:spB c with
  |true=>
   have i:(c==41)=false:=by rw[Da];rintro rfl;exact absurd j (by decide)
   rw[i,j,Ha (by decide),Ka rfl]at b a;have D:past spB (c::t)=past spB t:=by rw[past,Ka j]
   have g:past spB t<:+s:=jq spB r;rw[Ca,VH f h,D];simp only[Aa,Nh f g];cases o:past spB t with
   |nil=> rw[o]at b a;refine .inr (.inr ⟨_,rfl,?_⟩);simp only at b a;rw[b,a];simp only[Ac,Xb,Lm]
   |cons d F=>
    rw[o]at b a g;simp only at b a;unfold bne;rw[xL,uL,show atS (d::F) 0=d from rfl];cases C:d==41 with
    |true=> rw[C,Ka rfl]at b a;refine .inr (.inr ⟨_,?_,rfl⟩);simp only[aa,Ba,zH,uL,xL,show atS (d::F) 0=d from rfl,C,Ca,Gi f g];rw[b,a];simp only[Ac,Xb,Lm]
    |false=> rw[C,Ha (by decide)]at b a;refine .inr (.inr ⟨_,?_,rfl⟩);simp only[Xa,Ca,badR f g,Aa,zyV];rw[b,a];rfl
  |false=>
   rw[Ba,zH];simp only[uL,xL,show atS (c::t) 0=c from rfl,Ba,Gi f h];cases i:c==41 with
   |true=> rw[i,Ka rfl]at b a;refine .inr (.inr ⟨_,by rw[Ca],?_⟩);rw[b,a];simp only[Ac,Xb,Lm]
   |false=>
    rw[i,Ha (by decide),j,Ha (by decide)]at b a;rw[Ba];obtain⟨y,B,A⟩:=zLI c;rw[Nq,B];simp only[Aa];rw[A];cases x:(c==34||c==39||c==40||unB c)with
    |true=> rw[x,Lf,Ka rfl]at b a;refine .inr (.inr ⟨_,?_,rfl⟩);rw[Ca,badR f h];simp only[Aa];rw[b,a];rfl
    |false=>
     rw[x,ic]at b a;rw[Ba];unfold bne;rw[show((c.toNat:Int)==92)=(c==92)from iB c 92];cases n:c==92 with
     |false=> rw[n,Dc,Ha (by decide),Ha (by decide)]at b a;rw[Xa,Ca,Mx];simp only[Aa];rw[ZT (Kj (by omega))];exact .inl ⟨_,rfl,⟨t,e++[c],rfl,r,by grind,by rw[b,mY],a⟩,k t (Ta _) r⟩
     |true=>
      rw[n,Ya]at b a;rw[aa,Ba,aI f h];simp only[Aa];cases l:escS (c::t)with
      |true=> rw[l,aa,Ha (by decide),Ka rfl]at b a;have K:=Ay t;have H:=ZC t;refine .inl ⟨(sr s (zX t).2,⟨0,[],0,[],false⟩,e++(zX t).1),?_,⟨_,_,rfl,(Qa _).trans r,by grind,by rw[b,fO],a⟩,k _ H ((Qa _).trans r)⟩;simp only[Ca,JJ f h (show e.length<=1000000000 by omega),Aa]
      |false=> rw[l,Xa,Ka rfl]at b a;refine .inr (.inr ⟨_,?_,rfl⟩);rw[Ba,badR f h];simp only[Aa];rw[b,a];rfl
end Go.Lv.VT
