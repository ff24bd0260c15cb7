/- Selectors, read: complex ones, lists: valid ones. -/
import Derived.Test.YtpodafkicdifmaaGreatDoorXc
import Derived.Test.YtpodafkicdifmaaGreatDoorXa
import Derived.Test.YtpodafkicdifmaaGreatDoorXb
import Derived.Test.YtpodafkicdifmaaGreatDoorTy
import Derived.Test.YtpodafkicdifmaaGreatDoorMo
set_option linter.unusedSimpArgs false
set_option linter.unusedVariables false
namespace Go.Lv.VT
set_option maxRecDepth 100000
def plC(p:zg)(c:zO):Bool:=Qp c p.deep.toNat p.has
theorem zHL{c:zO}(hx:zt (z8 c)<=big){p:zg}(hp:Uj p):Has (Rv zy (c,p)) fun b=>b=true->plC p c=true/\(c.tag≠[]\/c.simples≠[]):=by
 obtain⟨d,h,hd,rfl⟩:=hp;refine Has.of (CS (S:=zy) (N:=big) (fun z ⟨h1,d',h2,h3⟩ _=> ?_) (Ta _) hx hd h) fun hc=> ?_
 ·obtain⟨c',⟨dp,h'⟩,b⟩:=z;have h3:dp=(d':Int):=h3;subst h3;exact mQ h1 h2
 ·refine⟨hc,?_⟩;rw[LK]at hc;unfold UA at hc;simp only[Ea,jc,Bool.not_eq_true']at hc;rcases hc.1.2.1 with h1|h1
  ·exact .inl fun e=>by rw[e]at h1;cases h1
  ·exact .inr fun e=>by rw[e]at h1;cases h1
section
variable {S:List zb×zg×Bool×Bool->Option (List zm×Bool)} {N:Nat}
variable (hS: ∀(l:List zb) (p:zg) (a b:Bool),Uj p->zL zA l<N->Has (S (l,p,a,b)) fun y=>zL zh y.1<=3*zL zA l/\selL y.1<=Za l) (hN:4*N+8<=big)
include hS hN
theorem zAj{v:List zb}(hz:zL zA v<=N){p:zg}(hp:Uj p)(r:Bool):
  Has (Qe S (v,p,r)) fun y=>y.2=true->zt (zh y.1)<=3*zL zA v/\selP y.1.parts<=Za v/\Bj y.1 r=true/\y.1.parts.all (plC p)=true:=by
 have hv:v.length<=big:=by have:=zLen v;omega
 have tl: ∀n,(ig v n).text.length<=big:=fun n=>by have:=Hq v n;omega
 unfold Qe;refine bSp (n:=0) hv (by omega) fun _ a _ ha=> ?_;refine Has.join (P:=fun j=>(∃m:Nat,m<=v.length/\j.2.1=⟨v,(m:Int)⟩)/\j.2.2<=4/\r=(j.2.2 != 0)) ?_ fun j hj=> ?_
 ·refine Has.bif (fun hr=> ?_) fun hr=>Has.some ⟨⟨a,by omega,rfl⟩,(by decide:(0:Int)<=4),hr⟩;refine bCo hv (by omega) fun c m _ hc _ hm=> ?_;exact Has.bif (fun _=>Has.some ⟨⟨m,by omega,rfl⟩,(by decide:(1:Int)<=4),hr⟩) fun h0=>Has.some ⟨⟨m,by omega,rfl⟩,hc,hr.trans (by dsimp only at h0 ⊢;rw[bne,h0];rfl)⟩
 refine Has.join (P:=fun j:Int×zu×Int=>(∃m:Nat,m<=v.length/\j.2.1=(⟨v,(m:Int)⟩:zu))/\j.2.2<=4/\r=(j.2.2 != 0)) (Has.some hj) fun j hj=> ?_;obtain⟨j1,j2,j3⟩:=j;obtain⟨⟨a0,ha0,e⟩,hle,hlr⟩:=hj;have e:j2=_:=e;subst e;dsimp only at hle hlr;refine Has.loop (fun s=> ∃m:Nat,m<=v.length/\s.2.1=⟨v,(m:Int)⟩/\zL z8 s.2.2.2.1+s.2.2.2.2.length<=3*zT v m/\s.2.2.1=j3/\s.2.2.2.2.length=s.2.2.2.1.length/\s.2.2.2.2.all Ii=true/\s.2.2.2.1.all (plC p)=true/\selP s.2.2.2.1<=Za v) (fun s=>v.length - s.2.1.at_.toNat)
  (P:=fun s=>zL z8 s.2.2.2.1+s.2.2.2.2.length+3<=3*zL zA v/\s.2.2.1=j3/\s.2.2.2.2.length+1=s.2.2.2.1.length/\s.2.2.2.2.all Ii=true/\s.2.2.2.1.all (plC p)=true/\selP s.2.2.2.1<=Za v) ⟨a0,ha0,rfl,Ra _,rfl,rfl,rfl,rfl,by rw[selP];exact Ra _⟩ (fun s ⟨m,h1,e,h2,hld,hcl,hca,hpa,hsd⟩=> ?_) fun x hx=> ?_
 ·obtain⟨s1,s2,s3,ps,cs⟩:=s;have e:s2=_:=e;have hld:s3=_:=hld;subst e hld;dsimp only at h2 hcl hca hpa hsd;refine Has.join (P:=fun j=> ∃m':Nat,j.2.1=⟨v,(m':Int)⟩/\j.2.2.2.1=ps/\j.2.2.2.2.1=cs/\j.2.2.1=s3/\m<=m'/\m'<=v.length/\((m'=m/\j.2.2.2.2.2=[])\/j.2.2.2.2.2.length+16+3*zT v m<=3*zT v m')) ?_ fun j hj=> ?_
  ·refine bPk0 hv (by omega) ?_;refine Has.bif (fun hk=> ?_) fun _=> ?_
   ·have hl:=Dn hk (by decide);have h3:=ek hl;have h4:=Yp (ig v m).text;refine bLow (tl m) (Has.some ?_);dsimp only;rw[at1 hv (n:=m) (by omega)];have key:(lowS (ig v m).text).length+16+3*zT v m<=3*zT v (m+1):=by omega
    exact⟨m+1,rfl,rfl,rfl,rfl,by omega,hl, .inr key⟩
   ·refine bBy hv (by omega) ?_ fun hl=> ?_
    ·exact Has.bif (fun h=>nomatch h) fun _=>Has.some ⟨m,rfl,rfl,rfl,rfl,Ta _,h1, .inl ⟨rfl,rfl⟩⟩
    ·have h3:=ek hl;exact Has.bif (fun _=>Has.some ⟨m+1,rfl,rfl,rfl,rfl,by omega,hl, .inr (by show 1+16+3*zT v m<=3*zT v (m+1);omega)⟩) fun h=>nomatch h
  obtain⟨j1,j2,j3,j4,j5,t⟩:=j;obtain⟨m1,e1,e2,e3,e4,h3,h4,h5⟩:=hj;have e1:j2=_:=e1;have e2:j4=ps:=e2;have e3:j5=cs:=e3;have e4:j3=s3:=e4;subst e1 e2 e3 e4;dsimp only at h2 h5 hcl hca hpa hsd hle hlr ⊢;refine Has.bind (zBa hS (by omega) hz hp h4) fun⟨⟨l,ok⟩,r2⟩ ⟨m2,e,h6,h7,h8⟩=> ?_;have e:r2=_:=e;subst e;dsimp only at h8 ⊢;have hc0:=Qu ⟨t,l⟩;dsimp only at hc0;refine Has.bind (P:=fun b=>ok=true->b=true->plC p ⟨t,l⟩=true/\(t≠[]\/l≠[])) (Has.cond (fun ho=> ?_) fun _ ho=> ?_) fun b hb=> ?_
  ·have ho:ok=true:=by cases ok<;>first|rfl|cases ho
   obtain⟨h9,h10,_⟩:=h8 ho;have h11:=uj v m2;refine(zHL (c:=⟨t,l⟩) ?_ hp).wk fun b hb _=>hb;rw[hc0];rcases h5 with⟨e,e'⟩|h5
   ·rw[e',Eb];omega
   ·omega
  ·subst ho;cases ‹(!(!true))=false›
  refine Has.bif (fun _=>Has.some fun h=>nomatch h) fun hf=> ?_;have ho:ok=true:=by cases ok<;>first|rfl|cases hf
  subst ho;have hb2:b=true:=by cases b<;>first|rfl|cases hf
  obtain⟨h9,h10,hld⟩:=h8 rfl;obtain⟨hpc,hne⟩:=hb rfl hb2;have hpa2:(j4++[(⟨t,l⟩:zO)]).all (plC p)=true:=by rw[We,hpa];simp only[Lc,hpc,List.all_nil,Sb]
  have hsd2:selP (j4++[(⟨t,l⟩:zO)])<=Za v:=by rw[zI6];exact Nat.max_le.2 ⟨hsd,hld⟩
  have h11:=uj v m2;have h12:=uj v m;have hps:=ZZ Jn j4
  -- the compound's size
  have hc1:zt (z8 ⟨t,l⟩)+4+3*zT v m<=3*zT v m2:=by
   rw[hc0];rcases h5 with⟨e,e'⟩|h5
   ·subst e;rw[e',Eb];have:1<=l.length:=by
     rcases hne with h|h
     ·exact absurd e' h
     ·exact Ih.2 h
    omega
   ·omega
  have hm:m<m2:=by
   rcases Xd m m2 with h|h
   ·exact h
   ·have:=xA (v:=v) h;omega
  have hz2:zL z8 (j4++[⟨t,l⟩])=zL z8 j4+zt (z8 ⟨t,l⟩):=by rw[wh,Z5,Dh,Uc]
  refine Has.need (qI (by unfold big at *; omega)) ?_;refine bSp hv (by omega) fun sp m3 h13 h14=> ?_;have hm3:=xA (v:=v) h13;have hm3':=uj v m3;refine Has.eqb (bB ..) ?_;refine Has.bif (fun _=>Has.some ?_) fun _=> ?_
  ·refine⟨?_,rfl,?_,hca,hpa2,hsd2⟩
   ·show zL z8 (j4++[⟨t,l⟩])+j5.length+3<=3*zL zA v;omega
   ·show j5.length+1=(j4++[(⟨t,l⟩:zO)]).length;rw[Ma,hcl];rfl
  refine bCo hv (by omega) fun c m4 hc2 hc3 h15 h16=> ?_;have hm4:=xA (v:=v) h15;have hm4':=uj v m4;refine Has.join (P:=fun j=>1<=j.1/\j.1<=4/\j.2.2.2.1=j4++[⟨t,l⟩]/\j.2.2.2.2=j5/\j.2.2.1=j3) ?_ fun j hj=> ?_
  ·refine Has.bif (fun _=>Has.some fun h=>nomatch h) fun _=>Has.bif (fun _=>Has.some ⟨(by decide:(1:Int)<=1),(by decide:(1:Int)<=4),rfl,rfl,rfl⟩) fun h0=>Has.some ⟨?_,hc3,rfl,rfl,rfl⟩;have h0:(c==0)=false:=h0;have:=Da.1 h0;show 1<=c;omega
  obtain⟨k1,k2,k3,k4,k5⟩:=j;obtain⟨g1,g2,g3,g4,g5⟩:=hj;dsimp only at g1 g2 g3 g4 g5;have g4:k5=j5:=g4;have g5:k3=j3:=g5;subst g3 g4 g5;refine Has.bind (P:=fun b=>Ii b=true) ?_ fun by_ hby=> ?_
  ·have:k1=1\/k1=2\/k1=3\/k1=4:=by omega
   rcases this with rfl|rfl|rfl|rfl<;>exact Has.some rfl
  refine Has.need (qI (by dsimp only;unfold big at *; omega)) ?_;refine Has.some ⟨⟨m4,by omega,rfl,?_,rfl,?_,?_,hpa2,hsd2⟩,?_⟩
  rotate_left
  ·show(k5++[by_]).length=(j4++[(⟨t,l⟩:zO)]).length;rw[Ma,Ma,hcl];rfl
  ·show(k5++[by_]).all Ii=true;rw[We,hca];simp only[Lc,hby,List.all_nil,Sb]
  rotate_left
  ·show zL z8 (j4++[⟨t,l⟩])+(k5++[by_]).length<=3*zT v m4;rw[Ma,Fa,Eb];omega
  ·show v.length - (m4:Int).toNat<v.length - (m:Int).toNat;omega
 ·obtain⟨x1,x2,x3,xp,xc⟩:=x;obtain⟨y1,y2,y3,y4,y5,y6⟩:=hx;dsimp only at y1 y2 y3 y4 y5 y6;subst y2;refine Has.some fun hl=>⟨?_,y6,?_,y5⟩
  ·rw[Sk];dsimp only;omega
  ·have hl:=Fb hl;dsimp only at hl;unfold Bj;dsimp only;rw[<-hlr,Vd,Ga hle,Ga y3,Ga (show xp.length<=64 by omega),y4];rfl
theorem zDr{v:List zb}(hz:zL zA v<=N){p:zg}(hp:Uj p)(a b:Bool):
  Has (Q6 S (v,p,a,b)) fun y=>(zL zh y.1<=3*zL zA v/\selL y.1<=Za v)/\(b=false->y.2=true->y.1≠[]/\y.1.all (fun c=>Bj c a&&c.parts.all (plC p))=true):=by
 have hl:=zLen v;have hb:big=4194304:=rfl;have e1:w64 ((v.length:Int)+1)=((v.length+1:Nat):Int):=Ui (by omega);have sub: ∀{f i:Nat},f<=i->zT v f+zL zA (List.drop f (List.take i v))=zT v i:=fun {f i} h=>by unfold zT;rw[<-wh,show List.take f v=List.take f (List.take i v) by rw[List.take_take,Nat.min_eq_left h],Og]
 unfold Q6;refine Has.loop (fun s=> ∃f i:Nat,f<=i/\i<=v.length+1/\s.1=((f:Int),(i:Int))/\zL zh s.2<=3*zT v f/\selL s.2<=Za v/\s.2.all (fun c=>Bj c a&&c.parts.all (plC p))=true/\(b=false->f=v.length+1->s.2≠[])/\(i=v.length+1->f=i)) (fun s=>v.length+1 - s.1.2.toNat) (P:=fun s=>(zL zh s<=3*zL zA v/\selL s<=Za v)/\(b=false->s≠[]/\s.all (fun c=>Bj c a&&c.parts.all (plC p))=true))
  ⟨0,0,by omega,by omega,rfl,Ra _,by rw[selL];exact Ra _,rfl,fun _ h=>by omega,fun h=>by omega⟩ (fun s ⟨f,i,h1,h2,e,h3,hsd,hva,hne,hfi⟩=> ?_) fun x hx=>Has.some ⟨hx.1,fun hb _=>hx.2 hb⟩
 obtain⟨s1,out⟩:=s;have e:s1=_:=e;subst e;dsimp only at h3 hsd hva hne ⊢;have hzf:=uj v f;refine Has.bif (fun hi=> ?_) fun hi=>Has.some ⟨⟨by show zL zh out<=_;omega,hsd⟩,fun hb=>⟨hne hb (by rw[e1]at hi;have:=Ad hi;have:=hfi (by omega);omega),hva⟩⟩;have hi:i<=v.length:=by rw[e1]at hi;have:=Fb hi;omega
 refine Has.join (P:=fun j=> ∃f':Nat,f'<=i+1/\j.1=((f':Int),(i:Int))/\zL zh j.2<=3*zT v f'/\selL j.2<=Za v/\j.2.all (fun c=>Bj c a&&c.parts.all (plC p))=true/\(b=false->f'=v.length+1->j.2≠[])/\(i=v.length->f'=i+1)) ?_ fun j hj=> ?_
 ·refine Has.bind (P:=fun _=>True) (Has.cond (fun h=> ?_) fun _=>trivial) fun y _=> ?_
  ·have:i<v.length:=by have:=Fb h;omega
   rw[zN this];exact Has.some trivial
  refine Has.bif (fun hk=>Has.some ⟨f,by omega,rfl,h3,hsd,hva,fun hb h=>hne hb h,fun h=> ?_⟩) fun _=> ?_
  ·rw[Ua (show¬(i:Int)<(v.length:Int) by omega)]at hk;cases hk
  have hlen:=ZZ Qt out;refine Has.join (P:=fun l=>zL zh l<=3*zT v i/\selL l<=Za v/\l.all (fun c=>Bj c a&&c.parts.all (plC p))=true/\(b=false->l≠[])) ?_ fun l ⟨hl2,hl3,hl4,hl5⟩=> ?_
  ·refine Has.need (by simp only[Ea,ja];omega) ?_;rw[Ib,Ib];have h4:=sub h1;have h5:=uj v i;refine Has.bind (zAj hS hN (v:=List.drop f (List.take i v)) (by omega) hp a) fun y hy=> ?_;refine Has.bif (fun hk=> ?_) fun _=>Has.bif (fun _=>Has.some ⟨⟨Ra _,by rw[selL];exact Ra _⟩,fun _ h=>nomatch h⟩) fun hb=>Has.some ⟨by show zL zh out<=_;omega,hsd,hva,fun h=>by subst h;cases hb⟩;refine Has.need (qI (by omega)) (Has.some ?_);obtain⟨h6,h7,h8,h9⟩:=hy hk;rw[iy];show zL zh (out++[y.1])<=_/\selL (out++[y.1])<=_/\(out++[y.1]).all _=true/\(b=false->out++[y.1]≠[]);refine⟨?_,?_,?_,fun _=>by simp⟩
   ·rw[wh,Z5,Dh];omega
   ·rw[zI5];exact Nat.max_le.2 ⟨hsd,Db h7 (QX ((Ri ..).trans (List.take_sublist ..)))⟩
   ·rw[We,hva];simp only[Lc,h8,h9,List.all_nil,Sb]
  ·refine Has.some ⟨i+1,Ta _,by dsimp only;rw[Ui (by omega)],?_,hl3,hl4,fun hb _=>hl5 hb,fun _=>rfl⟩;have h6:=xA (v:=v) (Nat.le_succ i);show zL zh l<=_;exact Db hl2 (Nat.mul_le_mul_left 3 h6)
 ·obtain⟨j1,j2⟩:=j;obtain⟨f',h4,e,h5,h6,h7,h8,h9⟩:=hj;have e:j1=_:=e;subst e;have e2:w64 ((i:Int)+1)=((i+1:Nat):Int):=Ui (by omega);refine Has.some ⟨⟨f',i+1,by omega,by omega,by dsimp only;rw[e2],h5,h6,h7,h8,fun h=>h9 (by omega)⟩,?_⟩;show v.length+1 - (w64 ((i:Int)+1)).toNat<v.length+1 - (i:Int).toNat;rw[e2];omega
end
theorem zGc{v:List zb}(hz:4*zL zA v+8<=big){p:zg}(hp:Uj p)(a b:Bool):Has (zJ (v,p,a,b)) fun y=>(zL zh y.1<=3*zL zA v/\selL y.1<=Za v)/\(b=false->y.2=true->y.1≠[]/\y.1.all (fun c=>Bj c a&&c.parts.all (plC p))=true):=
 Vq zni (fun z=>zL zA z.1) (fun z=>4*zL zA z.1+8<=big/\Uj z.2.1) (fun z y=>(zL zh y.1<=3*zL zA z.1/\selL y.1<=Za z.1)/\(z.2.2.2=false->y.2=true->y.1≠[]/\y.1.all (fun c=>Bj c z.2.2.1&&c.parts.all (plC z.2.1))=true))
  (fun S ⟨v,p,a,b⟩ ⟨h1,h2⟩ hS=>zDr (N:=zL zA v) (fun l p a b hp hl=>Has.wk (hS (l,p,a,b) ⟨by dsimp only at *; omega,hp⟩ hl) fun y hy=>hy.1) h1 (Ta _) h2 a b) ⟨hz,hp⟩
theorem zGK{v:List zb}(hz:4*zL zA v+8<=big):Has (nD v) fun y=>zL zh y.1<=3*zL zA v/\selL y.1<=Za v/\(y.2=0->selS y.1=0):=by
 have no: ∀e:Int,(e != 0)=true->zL zh []<=3*zL zA v/\selL []<=Za v/\(e=0->selS []=0):=fun e h=>⟨Ra _,by rw[selL];exact Ra _,fun h0=>by rw[h0]at h;cases h⟩;unfold nD;refine Has.eqb (Br (UV _ (by omega))) ?_;refine Has.bif (fun h=>Has.some (no _ h)) fun _=> ?_;refine Has.bind (zGc hz ⟨0,false,by decide,rfl⟩ _ _) fun y ⟨⟨hy,hd⟩,hv⟩=> ?_;refine Has.bif (fun _=>Has.some (no _ rfl)) fun hf=> ?_;refine Has.eqb (iT (by omega)) ?_;refine Has.bif (fun _=>Has.some (no _ rfl)) fun hn=>Has.some ⟨hy,hd,fun _=> ?_⟩;obtain⟨h1,h2⟩:=hv rfl (by cases h:y.2 with|true=>rfl|false=>rw[h]at hf;cases hf);have h3:(y.1.all fun c=>Dg c 0 false false)=true:=by rw[<-h2];refine List.all_congr rfl fun c=> ?_;rw[jI];rfl
 unfold selS;have h4:y.1.isEmpty=false:=by cases h:y.1 with|nil=>exact absurd h h1|cons a l=>rfl
 dsimp only;rw[h3,h4,Ga (show numL y.1<=64 by have:=Ad hn;omega)];rfl
def ai(l:List zb):Prop:= ∀t v,l=t++[v]->isSp v=false
def Nj(l:List zb):Prop:= ∀a t,l=a::t->isSp a=false
theorem ai.suf{a b:List zb}(h:ai (a++b)):ai b:=fun t v e=>h (a++t) v (by rw[e,Jb])
theorem ai.id{l:List zb}(h:ai l):trimB l=l:=by
 rcases Bp l with rfl|⟨t,v,rfl⟩
 ·rfl
 ·rw[uq,h t v rfl];rfl
theorem IP(l:List zb):ai (trimB l):=by
 obtain⟨r,_,_,h|⟨t,v,h,hv⟩⟩:=uQ l
 ·intro t v e;rw[h]at e;simp at e
 ·intro t' v' e;rw[h]at e;have:=Ig e rfl;injection this with e1;rw[<-e1];exact hv
theorem Nj.pre{a b:List zb}(h:Nj (a++b)):Nj a:=fun x t e=>h x (t++b) (by rw[e];rfl)
theorem Nj.id{l:List zb}(h:Nj l):l.dropWhile isSp=l:=by
 cases l with
 |nil=>rfl
 |cons a t=>rw[Kc,h a t rfl];rfl
theorem zKB(l:List zb):Nj (l.dropWhile isSp):=by obtain⟨a,_,_,h⟩:=OJ l;exact fun x b e=>h x b e
theorem JV(l:List zb): ∃a,l=a++l.dropWhile isSp:=by obtain⟨a,h,_⟩:=OJ l;exact⟨a,h⟩
theorem EP(l:List zb): ∃r,l=trimB l++r:=by obtain⟨r,h,_⟩:=uQ l;exact⟨r,h⟩
theorem zJe{l:List zb}(h1:Nj l)(h2:ai l):trimS l=l:=by unfold trimS;rw[h1.id,h2.id]
theorem left_eq{l:List zb}:Ou l=some (l.dropWhile isSp):=by
 unfold Ou QA;refine(qD (r:= .out (l.dropWhile isSp)) (Qq (fun s=>s.dropWhile isSp=l.dropWhile isSp) (fun s=>s.length) _ (fun s hs=> ?_) rfl)).trans ?_
 ·cases s with
  |nil=>exact .inr (.inl ⟨[],by simp,by rw[<-hs];rfl⟩)
  |cons v t=>
   have h1:decide (((v::t).length:Int)>0)=true:=by rw[Ut];simp
   have h2:geti (v::t) 0=some v:=rfl;have h3:decide ((1:Int)<=((v::t).length:Int))=true:=by simp;omega
   rw[Kc]at hs;cases hv:isSp v with
   |true=> rw[hv]at hs;unfold isSp at hv;refine .inl ⟨t,?_,by simpa using hs,by simp⟩;simp only[h1,h2,h3,Zd,za,Aa,hv,Ca,ZX];rfl
   |false=> rw[hv]at hs;unfold isSp at hv;refine .inr (.inl ⟨v::t,?_,by rw[<-hs];rfl⟩);simp only[h1,h2,Zd,za,Aa,hv,Ca,Ba]
 ·rw[zm8]
theorem right_eq{d:List zb}(hd:szL d<=big):yo d=some (trimB d):=by
 unfold yo QA;refine(qD (r:= .out (trimB d)) (Qq (fun s=>trimB s=trimB d/\szL s<=big) (fun s=>s.length) _ (fun s hs=> ?_) ⟨rfl,hd⟩)).trans ?_
 ·rcases Bp s with rfl|⟨t,v,rfl⟩
  ·exact .inr (.inl ⟨[],by simp,by rw[<-hs.1];rfl⟩)
  ·have hlen:=Fh (t++[v]);have hl2:(t++[v]).length=t.length+1:=by simp
   have hb:=hs.2;unfold big at hb;have h1:decide (((t++[v]).length:Int)>0)=true:=by rw[Ut];simp
   have h4:w64 (((t++[v]).length:Int) - 1)=(t.length:Int):=by rw[w64,ZY (by omega) (by omega)];omega
   have h2:geti (t++[v]) (t.length:Int)=some v:=by rw[zN (by omega)];simp
   have h3:(decide ((0:Int)<=(t.length:Int))&&decide ((t.length:Int)<=((t++[v]).length:Int)))=true:=by simp;omega
   have hs1:=hs.1;rw[uq]at hs1;cases hv:isSp v with
   |true=> rw[Ka hv]at hs1;unfold isSp at hv;refine .inl ⟨t,?_,⟨hs1,Db (Al (Ff t [v])) hs.2⟩,by simp⟩;simp only[h1,h4,h2,h3,Zd,za,Aa,hv,Ca,ZX,Ib];simp
   |false=> rw[Ha (by rw[hv];simp)]at hs1;unfold isSp at hv;refine .inr (.inl ⟨t++[v],?_,by rw[<-hs1]⟩);simp only[h1,h4,h2,Zd,za,Aa,hv,Ca,Ba]
 ·rw[zm8]
def vv(v:zb):Bool:=v.token.kind==9&&v.token.text==[33]
theorem zJ9(v:zb):rq v=some (vv v):=by unfold rq QA vv;simp only[za,Aa];cases v.token.kind==9<;>rfl
def impW:Str:=[105,109,112,111,114,116,97,110,116]
def endV(l:List zb):Option (List zb×zb):=match l.reverse with
 |[]=>none
 |v::t=>some (t.reverse,v)
theorem KJ(t:List zb)(v:zb):endV (t++[v])=some (t,v):=by unfold endV;rw[List.reverse_append];simp
def Jh(v:List zb):List zb×Bool:=match endV v with
 |none=>(v,false)
 |some (t,z)=>bif !t.isEmpty&&(z.token.kind==1&&lowS z.token.text==impW)then
   (match endV (trimB t)with
   |none=>(v,false)
   |some (u,b)=>bif vv b then(trimB u,true)else(v,false))
  else(v,false)
theorem mW{t:List zb}{v:zb}(h:szL (t++[v])<=big):w64 (((t++[v]).length:Int) - 1)=(t.length:Int):=by
 have hlen:=Fh (t++[v]);have hl2:(t++[v]).length=t.length+1:=by simp
 unfold big at h;rw[w64,ZY (by omega) (by omega)];omega
theorem gX(t:List zb)(v:zb):geti (t++[v]) (t.length:Int)=some v:=by rw[zN (by simp)];simp
theorem FX(t:List zb)(v:zb):(decide ((0:Int)<=(t.length:Int))&&decide ((t.length:Int)<=((t++[v]).length:Int)))=true:=by simp;omega
theorem FW(t:List zb)(v:zb):List.take t.length (t++[v])=t:=by simp
theorem zKP:lowS [105,109,112,111,114,116,97,110,116]=impW:=by decide+kernel
theorem IW{t:List zb}{v:zb}(h:szL (t++[v])<=big):szL t<=big/\v.token.text.length<=big:=by rw[sJ,szL,Mi]at h;omega
theorem KZ(t:List zb):decide ((t.length:Int)>0)= !t.isEmpty:=by
 cases t with
 |nil=>rfl
 |cons a t=>exact Ga (by simp only[Fa];omega)
abbrev MK:=LX (List zb×(Str×Bool)×(Str×Bool)) (Zx×Bool)
theorem zFz{v:List zb}{nm:Str}(hv:szL v<=big):(
  za (zD (decide (w64 ((v.length:Int) - 1)>0)) (geti v (w64 ((v.length:Int) - 1))) (default:zb)) fun y13=>
  za (zD (decide (w64 ((v.length:Int) - 1)>0)) (QA ((⟨y13.token,y13.list⟩:zb),1)) (default:Bool)) fun y14=>
  za (zD (bif decide (w64 ((v.length:Int) - 1)>0)then y14 else false) (geti v (w64 ((v.length:Int) - 1))) (default:zb)) fun y15=>
  za (zD (bif decide (w64 ((v.length:Int) - 1)>0)then y14 else false) (QB (y15.token.text,[105,109,112,111,114,116,97,110,116])) (default:Bool)) fun y16=>
  bif bif bif decide (w64 ((v.length:Int) - 1)>0)then y14 else false then y16 else false then
   need (decide (0<=w64 ((v.length:Int) - 1))&&decide (w64 ((v.length:Int) - 1)<=(v.length:Int)))<|
   za (yo (List.take (w64 ((v.length:Int) - 1)).toNat v)) fun y17=>
   za (zD (decide ((y17.length:Int)>0)) (geti y17 (w64 ((y17.length:Int) - 1))) (default:zb)) fun y18=>
   za (zD (decide ((y17.length:Int)>0)) (rq (⟨y18.token,y18.list⟩:zb)) (default:Bool)) fun y19=>
   bif bif decide ((y17.length:Int)>0)then y19 else false then
    need (decide (0<=w64 ((y17.length:Int) - 1))&&decide (w64 ((y17.length:Int) - 1)<=(y17.length:Int)))<|
    za (yo (List.take (w64 ((y17.length:Int) - 1)).toNat y17)) fun y20=>
    some (LX.out (y20,(([]:Str),false),(nm,true)))
   else
    some (LX.out (v,(([]:Str),false),(nm,false)))
  else
   some (LX.out (v,(([]:Str),false),(nm,false))))=(some (LX.out ((Jh v).1,(([]:Str),false),(nm,(Jh v).2))):Option MK):=by
 rcases Bp v with rfl|⟨t,z,rfl⟩
 ·rfl
 ·obtain⟨ht,hz⟩:=IW hv;unfold Jh;rw[KJ];simp only[mW hv,KZ];cases he:t.isEmpty with
  |true=>simp only[aa,ZM,za,Aa,Ba,Dc]
  |false=>
   simp only[Xa,Zd,gX,QA,za,Aa,Ca,Ya];cases hk:z.token.kind==1 with
   |false=>simp only[ZM,Aa,Ba,Dc]
   |true=>
    simp only[Zd,Aa,oo hz (show([105,109,112,111,114,116,97,110,116]:Str).length<=big by decide),zKP,Ca,Ya];cases ha:lowS z.token.text==impW with
    |false=>simp only[Ba]
    |true=>
     simp only[Ca,FX,ZX,Ib,FW,right_eq ht,Aa,KZ];have hw:szL (trimB t)<=big:=Db (Al (Ul t)) ht;obtain⟨w,hwd⟩: ∃w,trimB t=w:=⟨_,rfl⟩;rw[hwd]at hw;simp only[hwd];rcases Bp w with rfl|⟨u,b,rfl⟩
     ·rfl
     ·have hne:(u++[b]).isEmpty=false:=by cases u<;>rfl
      rw[KJ];simp only[hne,Xa,Zd,mW hw,gX,Aa,Nu,zJ9,Ca];cases hb:vv b with
      |false=>simp only[Ba]
      |true=>simp only[Ca,FX,ZX,Ib,FW,right_eq (IW hw).1,Aa]
def nmD(s:Str):Str:=bif List.isPrefixOf [45,45] s then s else lowS s
def noD:Zx×Bool:=(⟨[],[],false⟩,false)
def oneS(x:List zb):Zx×Bool:=match trimS x with
 |[]=>noD
 |n::r=>bif n.token.kind==1 then
   (match r.dropWhile isSp with
   |[]=>noD
   |c::q=>bif c.token.kind==16 then
     (bif Tf ⟨nmD n.token.text,(Jh (q.dropWhile isSp)).1,(Jh (q.dropWhile isSp)).2⟩then(⟨nmD n.token.text,(Jh (q.dropWhile isSp)).1,(Jh (q.dropWhile isSp)).2⟩,true)else noD)
    else noD)
  else noD
theorem UD{v:List zb}{t:List zb}{z:zb}(h:endV v=some (t,z)):v=t++[z]:=by
 rcases Bp v with rfl|⟨t',z',rfl⟩
 ·cases h
 ·rw[KJ]at h;cases h;rfl
theorem zKV{v:List zb}(h1:Nj v)(h2:ai v):Nj (Jh v).1/\ai (Jh v).1/\(Jh v).1.Sublist v:=by
 unfold Jh;split
 ·exact⟨h1,h2,He _⟩
 ·rename_i t z he;have hv:=UD he;cases !t.isEmpty&&(z.token.kind==1&&lowS z.token.text==impW)with
  |false=>exact⟨h1,h2,He _⟩
  |true=>
   rw[Ca];split
   ·exact⟨h1,h2,He _⟩
   ·rename_i u b hb;have hw:=UD hb;cases vv b with
    |false=>exact⟨h1,h2,He _⟩
    |true=>
     rw[Ca];have hht:Nj t:=by rw[hv]at h1;exact h1.pre
     have hhw:Nj (trimB t):=by obtain⟨r,hr⟩:=EP t;rw[hr]at hht;exact hht.pre
     have hhu:Nj u:=by rw[hw]at hhw;exact hhw.pre
     refine⟨?_,IP u,?_⟩
     ·obtain⟨r,hr⟩:=EP u;rw[hr]at hhu;exact hhu.pre
     ·refine(Ul u).trans ((Ff u [b]).trans ?_);rw[<-hw];refine(Ul t).trans ?_;rw[hv];exact Ff t [z]
theorem zKQ(s:Str):(lowS s).length=s.length:=by unfold lowS;simp
theorem zMz(s:Str):(nmD s).length=s.length:=by
 unfold nmD;cases List.isPrefixOf [45,45] s
 ·exact zKQ s
 ·rfl
theorem tY(n:zb)(r:List zb):(((n::r).length:Int)==0)=false:=Da.2 (by simp only[Fa];omega)
theorem jV(n:zb)(r:List zb):decide ((1:Int)<=((n::r).length:Int))=true:=Ga (by simp only[Fa];omega)
theorem AZ(n:zb)(r:List zb):geti (n::r) 0=some n:=rfl
theorem zDF{x:List zb}(h:szL x<=big){n:zb}{r:List zb}(hy:trimS x=n::r):n.token.text.length<=big/\szL r<=big/\ai r/\
  ∀{c:zb} {q:List zb},r.dropWhile isSp=c::q->szL (q.dropWhile isSp)<=big/\Nj (q.dropWhile isSp)/\ai (q.dropWhile isSp):=by
 have hsz:=zJf x;have he:ai (trimS x):=IP _;rw[hy]at hsz he;rw[szL,Mi]at hsz;have her:ai r:=he.suf (a:=[n]);refine⟨by omega,by omega,her,fun {c q} hq=> ?_⟩;obtain⟨a,ha⟩:=JV r;rw[hq]at ha;obtain⟨b,hb⟩:=JV q;refine⟨?_,zKB q,?_⟩
 ·have h1:=Al (jb isSp (l:=q));rw[ha,sJ,szL]at hsz;omega
 ·rw[ha,hb]at her;exact ai.suf (a:=a++c::b) (by rw[Jb];exact her)
theorem GR{x:List zb}(h:szL x<=big):Ux x=some (oneS x):=by
 have hdw:szL (x.dropWhile isSp)<=big:=Db (Al (jb _)) h;unfold Ux oneS;simp only[left_eq,right_eq hdw,za,Aa,show trimB (x.dropWhile isSp)=trimS x from rfl];cases hy:trimS x with
 |nil=>rfl
 |cons n r=>
  obtain⟨hn,hr,_,hp⟩:=zDF h hy;simp only[tY,Xa,Zd,AZ,Aa,QA,Ba];cases hk:n.token.kind==1 with
  |false=>simp only[Xa,Ca,Ba];rfl
  |true=>
   simp only[aa,Ba,Ca];have hj:((strings_HasPrefix (n.token.text,[45,45])).bind fun y6=>bif !y6 then(ZN n.token.text).bind fun y7=>some (LX.out (n::r,(([]:Str),false),(y7,false)))else some (LX.out (n::r,([],false),(n.token.text,false))))=(some (LX.out (n::r,([],false),(nmD n.token.text,false))):Option MK):=by rw[Tp,Aa,xq hn];unfold nmD;cases List.isPrefixOf [45,45] n.token.text<;>rfl
   rw[hj,zH];simp only[jV,ZX,show List.drop 1 (n::r)=r from rfl];cases hq:r.dropWhile isSp with
   |nil=>rfl
   |cons c q=>
    obtain⟨hv,hh,he⟩:=hp hq;simp only[tY,Xa,Zd,AZ,Aa,Ba];cases hc:c.token.kind==16 with
    |false=>simp only[Xa,Ca,Ba];rfl
    |true=>
     simp only[aa,Ba,Ca,jV,ZX,show List.drop 1 (c::q)=q from rfl];obtain⟨v,hvd⟩: ∃v,q.dropWhile isSp=v:=⟨_,rfl⟩;rw[hvd]at hv hh he;simp only[hvd];have hm:=zFz (nm:=nmD n.token.text) hv;simp only[za,QA]at hm;rw[hm,zH];obtain⟨h1,h2,h3⟩:=zKV hh he;obtain⟨w,hw⟩: ∃w,Jh v=w:=⟨_,rfl⟩;rw[hw]at h1 h2 h3;simp only[hw];have hws:szL w.1<=big:=Db (Al h3) hv;rw[uC hws,Aa];by_cases he0:errS w.1=0
     ·rw[Ka he0,zJe h1 h2];simp only[show((0:Int) != 0)=false from rfl,Xa,Zd,Ba];rw[yR (d:=⟨nmD n.token.text,w.1,w.2⟩) hws (by rw[zMz];exact hn),Aa];cases Tf ⟨nmD n.token.text,w.1,w.2⟩<;>rfl
     ·have he1:(errS w.1 != 0)=true:=Df.2 he0;have he2:Tf ⟨nmD n.token.text,w.1,w.2⟩=false:=by unfold Tf;simp only[show(errS w.1==0)=false from Da.2 he0,Dc,Jc]
      rw[Ha he0,he2];simp only[he1,aa,ZM,Aa,Ca,Ba];rfl
--< pulled
--p zValue_pos
--p sp
abbrev sp(l:List zb):List zb:=l.dropWhile isSp
--p sp_nil
--p yU
theorem yU(v:zb)(l:List zb):sp (v::l)=if isSp v then sp l else v::l:=by unfold sp;rw[Kc]
--p bi
theorem bi(l:List zb):(sp l).Sublist l:=jb isSp
--p fA
theorem fA(l:List zb):(sp l).length<=l.length:=(bi l).length_le
--p sp_idem
--p EndS
--p trimB_idem
--p end_tail
--p end_sp
--p trimS_end
--p sp_pre
--> pulled
def Em(l:List zb):Int:=match l with
 |[]=>0
 |a::_=>a.token.kind
theorem Vo(l:List zb):ZV ⟨l⟩=some (Em l):=by
 unfold ZV Em;cases l with
 |nil=>rfl
 |cons a r=> have e0:(((a::r).length:Int)==0)=false:=Da.2 (by simp only[Fa];omega);have e1:geti (a::r) 0=some a:=rfl;simp only[e0,e1,Ba,za,Aa]
theorem Uo(a:zb)(r:List zb):ZW ⟨a::r⟩=some (a,⟨r⟩):=by unfold ZW;have e1:geti (a::r) 0=some a:=rfl;have e2:decide ((1:Int)<=((a::r).length:Int))=true:=Ga (by simp only[Fa];omega);simp only[e1,e2,ZX,za,Aa,Nu,List.drop_succ_cons,List.drop_zero]
theorem zKR(a b:Nat):decide ((a:Int)<(b:Int))=decide (a<b):=by
 by_cases h:a<b
 ·rw[Ga h];exact Ga (by omega)
 ·rw[Ua h];exact Ua (by omega)
theorem QI(l:List zb):Zg ⟨l⟩=some (decide ((sp l).length<l.length),⟨sp l⟩):=by
 unfold Zg;refine(qD (r:= .out ⟨sp l⟩) (Qq (fun s=>sp s.v=sp l) (fun s=>s.v.length) _ (fun s hs=> ?_) rfl)).trans ?_
 ·obtain⟨s⟩:=s;have hs:sp s=sp l:=hs;simp only[Vo,za,Aa];cases s with
  |nil=>exact .inr (.inl ⟨⟨[]⟩,rfl,by rw[<-hs];rfl⟩)
  |cons a r=>
   rw[yU]at hs;cases ha:isSp a with
   |true=> rw[ha,Ka rfl]at hs;unfold isSp at ha;refine .inl ⟨⟨r⟩,?_,hs,by simp⟩;simp only[Em,ha,Ca,Uo,Aa]
   |false=> rw[ha,Ha (by simp)]at hs;unfold isSp at ha;exact .inr (.inl ⟨⟨a::r⟩,by simp only[Em,ha,Ba],by rw[<-hs]⟩)
 ·rw[zm8,zKR]
def atS(l:Str)(n:Nat):UInt8:=l.getD n 0
def digB(b:UInt8):Bool:=decide (48<=b.toNat)&&decide (b.toNat<=57)
def spB(b:UInt8):Bool:=b==10||b==9||b==32
def alB(b:UInt8):Bool:=decide (65<=b.toNat)&&decide (b.toNat<=90)||decide (97<=b.toNat)&&decide (b.toNat<=122)
def fstB(b:UInt8):Bool:=alB b||b==95||decide (128<=b.toNat)
def letB(b:UInt8):Bool:=fstB b||digB b||b==45
def hexN(b:UInt8):Nat:=
 if digB b then b.toNat - 48 else if 97<=b.toNat/\b.toNat<=102 then b.toNat - 87 else if 65<=b.toNat/\b.toNat<=70 then b.toNat - 55 else 16
def Lg(b:UInt8):Bool:=decide (hexN b<16)
def escS(l:Str):Bool:=atS l 0==92&& !(atS l 1==10)
def nmS(l:Str):Bool:=if atS l 0==45 then fstB (atS l 1)||atS l 1==45||escS (l.drop 1)else fstB (atS l 0)||escS l
def Wi(b:UInt8):Bool:=b==43||b==45
def unsign(l:Str):Str:=if Wi (atS l 0)then l.drop 1 else l
def undot(l:Str):Str:=if atS l 0==46 then l.drop 1 else l
def nbS(l:Str):Bool:=digB (atS (undot (unsign l)) 0)
def Xv:Str:=[239,191,189]
def Fj(n:Nat):Str:=
 if n=0\/(55296<=n/\n<=57343)\/1114111<n then Xv
 else if n<128 then [UInt8.ofNat n]
 else if n<2048 then [UInt8.ofNat (192+n / 64),UInt8.ofNat (128+n%64)]
 else if n<65536 then [UInt8.ofNat (224+n / 4096),UInt8.ofNat (128+n / 64%64),UInt8.ofNat (128+n%64)]
 else [UInt8.ofNat (240+n / 262144),UInt8.ofNat (128+n / 4096%64),UInt8.ofNat (128+n / 64%64),UInt8.ofNat (128+n%64)]
def hexes:Nat->Nat->Str->Nat×Str
 |0,n,l=>(n,l)
 |_+1,n,[]=>(n,[])
 |k+1,n,c::r=>if Lg c then hexes k (16*n+hexN c) r else(n,c::r)
def unsp:Str->Str
 |[]=>[]
 |c::r=>if spB c then r else c::r
def zX:Str->Str×Str
 |[]=>(Xv,[])
 |c::r=>if Lg c then(Fj (hexes 6 0 (c::r)).1,unsp (hexes 6 0 (c::r)).2)else([c],r)
theorem Hy: ∀(k n:Nat) (l:Str),(hexes k n l).2<:+l
 |0,n,l=>Je l
 |k+1,n,[]=>Je _
 |k+1,n,c::r=>by
  unfold hexes;split
  ·exact(Hy k _ r).trans (Wd c r)
  grind
theorem CY(l:Str):unsp l<:+l:=by
 cases l with
 |nil=>exact Je _
 |cons c r=>
  show(if spB c then r else c::r)<:+c::r
  grind
theorem Qa(l:Str):(zX l).2<:+l:=by
 cases l with
 |nil=>exact Je _
 |cons c r=>
  show(if Lg c then(Fj (hexes 6 0 (c::r)).1,unsp (hexes 6 0 (c::r)).2)else([c],r)).2<:+c::r;split
  ·exact(CY _).trans (Hy 6 0 _)
  grind
theorem ZC(l:Str):(zX l).2.length<=l.length:=(Qa l).length_le
def Zn:Str->Str×Str
 |[]=>([],[])
 |c::r=>
  if letB c then((c::(Zn r).1),(Zn r).2)
  else if escS (c::r)then((zX r).1++(Zn (zX r).2).1,(Zn (zX r).2).2)
  else([],c::r)
termination_by l=>l.length
decreasing_by
 all_goals first|(have:=ZC r;simp only[Fa];omega)|(simp only[Fa];omega)
def past(p:UInt8->Bool):Str->Str
 |[]=>[]
 |c::r=>if p c then past p r else c::r
theorem lm(p:UInt8->Bool): ∀l:Str,past p l<:+l
 |[]=>Je _
 |c::r=>by
  unfold past;split
  ·exact(lm p r).trans (Wd c r)
  grind
def qC(l:Str):Str×Bool:=
 if atS l 0==46&&digB (atS l 1)then(past digB (l.drop 1),false)else(l,true)
def expS(l:Str):Option Str:=
 if atS l 0==101||atS l 0==69 then(if digB (atS (unsign (l.drop 1)) 0)then some (past digB (unsign (l.drop 1)))else none)else none
def ZI(l:Str):Str×Bool:=
 let x:=qC (past digB (unsign l))
 match expS x.1 with
 |some r=>(r,false)
 |none=>x
def decN(n:Nat)(b:UInt8):Nat:=10*n+(b.toNat - 48)
def ZB(m:UInt8):Str->Option Str×Str
 |[]=>(some [],[])
 |c::r=>
  if c==m then(some [],r)
  else if c==10 then(none,c::r)
  else if c==92 then
   (if r.isEmpty then(some [],[])
   else if atS r 0==10 then ZB m (r.drop 1)
   else((ZB m (zX r).2).1.map ((zX r).1++ ·),(ZB m (zX r).2).2))
  else((ZB m r).1.map (c:: ·),(ZB m r).2)
termination_by l=>l.length
decreasing_by
 all_goals first|(have:=ZC r;simp only[Fa];omega)|(simp only[Fa,Yb];omega)
def badS:Str->Str
 |[]=>[]
 |c::r=>if c==41 then r else if escS (c::r)then badS (zX r).2 else badS r
termination_by l=>l.length
decreasing_by
 all_goals first|(have:=ZC r;simp only[Fa];omega)|(simp only[Fa];omega)
def unB(b:UInt8):Bool:=decide (b.toNat<=8)||b==11||decide (14<=b.toNat)&&decide (b.toNat<=31)||b==127
def urlS:Str->Option Str×Str
 |[]=>(some [],[])
 |c::r=>
  if c==41 then(some [],r)
  else if spB c then(match past spB r with
   |[]=>(some [],[])
   |d::a=>if d==41 then(some [],a)else(none,badS (d::a)))
  else if c==34||c==39||c==40||unB c||c==92&& !escS (c::r)then(none,badS (c::r))
  else if c==92 then((urlS (zX r).2).1.map ((zX r).1++ ·),(urlS (zX r).2).2)
  else((urlS r).1.map (c:: ·),(urlS r).2)
termination_by l=>l.length
decreasing_by
 all_goals first|(have:=ZC r;simp only[Fa];omega)|(simp only[Fa];omega)
def jg(b:UInt8):Int:=
 if b==58 then 16 else if b==59 then 17 else if b==44 then 18 else if b==91 then 19 else if b==93 then 20 else if b==40 then 21 else if b==41 then 22 else if b==123 then 23 else if b==125 then 24 else 0
def Ah(k:Int):zf:=⟨k,[],0,[],false⟩
def ui:Nat:=1000000000000
def Kl:Nat->Nat->Nat
 |0,n=>n
 |k+1,n=>if n=0\/ui<=n then n else Kl k (min ui (10*n))
abbrev sc(s:Str)(k:Nat):ze:=⟨s,(k:Int)⟩
def pk(l:Str)(n:Nat):Int:=match l[n]? with|some b=>(b.toNat:Int)|none=> -1
def beh(s r:Str):Nat:=s.length - r.length
theorem QQ{n:Int}(a: -9223372036854775808<=n)(h2:n<=9223372036854775807):w64 n=n:=ZY a h2
theorem Bu{s r:Str}(h:r<:+s):s.drop (beh s r)=r:=by obtain⟨t,rfl⟩:=h;unfold beh;simp_all
theorem Tm(s r:Str):beh s r<=s.length:=by unfold beh;omega
theorem zHt{s:Str}{k:Nat}(h:k<=s.length):beh s (s.drop k)=k:=by unfold beh;grind
theorem SB{s:Str}{k n:Nat}(c:s.length<=big)(g:k<=s.length)(f:n<=8):zo ((n:Int),sc s k)=some (pk (s.drop k) n):=by
 have d:big=4194304:=rfl;have e:w64 ((k:Int)+(n:Int))=((k+n:Nat):Int):=by rw[QQ (by omega) (by omega)];omega
 unfold zo pk;simp only[e];rw[Pd];by_cases h:k+n<s.length
 ·rw[Ga (by omega),Ca];have b:geti s ((k+n:Nat):Int)=some s[k+n]:=zN h;have a:=Tc s[k+n];simp only[za,b,Aa,Va h];rw[QQ (by omega) (by omega)]
 ·grind
theorem AA{s:Str}{k:Nat}(b:s.length<=big)(a:k<=s.length):zo (0,sc s k)=some (pk (s.drop k) 0):=SB (n:=0) b a (by omega)
theorem EM{s:Str}{k:Nat}(b:s.length<=big)(a:k<=s.length):zo (1,sc s k)=some (pk (s.drop k) 1):=SB (n:=1) b a (by omega)
theorem zNw{s:Str}{k:Nat}(b:s.length<=big)(a:k<=s.length):zo (2,sc s k)=some (pk (s.drop k) 2):=SB (n:=2) b a (by omega)
theorem LA{a:Type}{f:Int->Option a}{p:UInt8->a}(h: ∀b:UInt8,f (b.toNat:Int)=some (p b))(c:f (-1)=some (p 0))(l:Str)(n:Nat):f (pk l n)=some (p (atS l n)):=by
 unfold pk atS
 grind
theorem of_n{a:Type}{f:Int->Option a}{p:UInt8->a}(h: ∀n:Nat,n<256->f (n:Int)=some (p (UInt8.ofNat n)))(b:UInt8):f (b.toNat:Int)=some (p b):=by have:=h b.toNat (Tc b);simp_all
theorem Xw(l:Str)(n:Nat):Dr (pk l n)=some (spB (atS l n)):=LA (of_n (by decide+kernel)) (by decide+kernel) l n
theorem Oo(l:Str)(n:Nat):Q9 (pk l n)=some (digB (atS l n)):=LA (of_n (by decide+kernel)) (by decide+kernel) l n
theorem zLB(l:Str)(n:Nat):Bz (pk l n)=some (fstB (atS l n)):=LA (of_n (by decide+kernel)) (by decide+kernel) l n
theorem EY(l:Str)(n:Nat):wE (pk l n)=some (letB (atS l n)):=LA (of_n (by decide+kernel)) (by decide+kernel) l n
def hexI(b:UInt8):Int:=if Lg b then(hexN b:Int)else -1
theorem xG(l:Str)(n:Nat):Uu (pk l n)=some (hexI (atS l n)):=LA (of_n (by decide+kernel)) (by decide+kernel) l n
theorem Xi(l:Str)(n:Nat)(c:UInt8)(h:c≠0):(pk l n==(c.toNat:Int))=(atS l n==c):=by
 unfold pk atS;rw[je];cases l[n]? with
 |none=>
  grind
 |some b=>
  show((b.toNat:Int)==(c.toNat:Int))=(b==c);by_cases e:b=c
  ·grind
  ·have:b.toNat≠c.toNat:=fun h=>e (Mf.1 h)
   grind
theorem yL(l:Str)(n:Nat):(pk l n==10)=(atS l n==10):=Xi l n 10 (by decide)
theorem fU(l:Str)(n:Nat):(pk l n==34)=(atS l n==34):=Xi l n 34 (by decide)
theorem zNx(l:Str)(n:Nat):(pk l n==35)=(atS l n==35):=Xi l n 35 (by decide)
theorem zNy(l:Str)(n:Nat):(pk l n==37)=(atS l n==37):=Xi l n 37 (by decide)
theorem eU(l:Str)(n:Nat):(pk l n==39)=(atS l n==39):=Xi l n 39 (by decide)
theorem zNz(l:Str)(n:Nat):(pk l n==40)=(atS l n==40):=Xi l n 40 (by decide)
theorem xL(l:Str)(n:Nat):(pk l n==41)=(atS l n==41):=Xi l n 41 (by decide)
theorem wL(l:Str)(n:Nat):(pk l n==43)=(atS l n==43):=Xi l n 43 (by decide)
theorem yz(l:Str)(n:Nat):(pk l n==45)=(atS l n==45):=Xi l n 45 (by decide)
theorem vL(l:Str)(n:Nat):(pk l n==46)=(atS l n==46):=Xi l n 46 (by decide)
theorem zNA(l:Str)(n:Nat):(pk l n==64)=(atS l n==64):=Xi l n 64 (by decide)
theorem zNB(l:Str)(n:Nat):(pk l n==69)=(atS l n==69):=Xi l n 69 (by decide)
theorem dU(l:Str)(n:Nat):(pk l n==92)=(atS l n==92):=Xi l n 92 (by decide)
theorem zMN(l:Str)(n:Nat):(pk l n==101)=(atS l n==101):=Xi l n 101 (by decide)
theorem Fq(l:Str):(pk l 0== -1)=l.isEmpty:=by
 cases l with
 |nil=>rfl
 |cons b r=>
  show((b.toNat:Int)== -1)=false
  grind
theorem Kk(l:Str)(k n:Nat):atS (l.drop k) n=atS l (k+n):=by
 unfold atS
 grind
theorem NY {R:Type} {step:ze->Option (LO ze ze R)} {s:Str} (p:UInt8->Bool) (h0:p 0=false)
  (h: ∀k,k<=s.length->step (sc s k)=some (bif p (atS (s.drop k) 0)then .again (sc s (k+1))else .out (sc s k))) {k:Nat} (hk:k<=s.length):
  yg step (sc s k)=some (.out (sc s (beh s (past p (s.drop k))))):=by
 refine Qq (fun z=> ∃j,z=sc s j/\j<=s.length/\past p (s.drop j)=past p (s.drop k)) (fun z=>s.length - z.at_.toNat) _ ?_ ⟨k,rfl,hk,rfl⟩;rintro _ ⟨j,rfl,hj,he⟩;rw[h j hj];cases hd:s.drop j with
 |nil=>
  rw[show atS ([]:Str) 0=0 from rfl,h0,Ba];refine .inr (.inl ⟨_,rfl,?_⟩);rw[<-he,hd];have:j=s.length:=by have:=Yc.1 hd;omega
  subst this;show LX.out (sc s (beh s []))=_;unfold beh;rw[Eb,Nat.sub_zero]
 |cons c r=>
  have hlt:j<s.length:=by
   rcases Xd j s.length with h'|h'
   ·exact h'
   ·grind
  have hr:s.drop (j+1)=r:=by have:=ma hlt;rw[hd]at this;injection this with _ h2;exact h2.symm
  rw[show atS (c::r) 0=c from rfl];cases hp:p c with
  |true=> refine .inl ⟨_,rfl,⟨j+1,rfl,by omega,?_⟩,by grind⟩;rw[hr,<-he,hd,past,hp];rfl
  |false=> refine .inr (.inl ⟨_,rfl,?_⟩);rw[<-he,hd,past,hp,Ha (by decide),<-hd,zHt hj]
theorem gW{s:Str}{k:Nat}(b:s.length<=big)(a:k<=s.length):w64 ((k:Int)+1)=((k+1:Nat):Int):=by have c:big=4194304:=rfl;rw[QQ (by omega) (by omega)];omega
theorem zJo{s:Str}{k:Nat}(a:s.length<=big)(c:k<=s.length):qa (sc s k)=some (sc s (beh s (past spB (s.drop k)))):=by
 unfold qa;rw[wm (NY spB rfl (fun j b=> ?_) c)];simp only[za,AA a b,Aa,Xw,gW a b]
 grind
theorem zHj{s:Str}{k:Nat}(a:s.length<=big)(c:k<=s.length):ZJ (sc s k)=some (sc s (beh s (past digB (s.drop k)))):=by
 unfold ZJ;rw[wm (NY digB rfl (fun j b=> ?_) c)];simp only[za,AA a b,Aa,Oo,gW a b]
 grind
theorem number_eq{s:Str}{k:Nat}(a:s.length<=big)(c:k<=s.length):qR (sc s k)=some (nbS (s.drop k)):=by
 unfold qR nbS unsign undot Wi;simp only[za,AA a c,Aa,wL,yz];have d: ∀(b:Bool),(Zh (X:=Int) (bif b then some (LX.out 1)else some (LX.out 0)) fun e=>
   Zh (X:=Int) ((zo (e,sc s k)).bind fun f=>bif f==46 then some (LX.out (w64 (e+1)))else some (LX.out e)) fun g=>
   (zo (g,sc s k)).bind fun i=>(Q9 i).bind fun j=>some j)=some (digB (atS (if atS (if b then(s.drop k).drop 1 else s.drop k) 0==46 then(if b then(s.drop k).drop 1 else s.drop k).drop 1 else(if b then(s.drop k).drop 1 else s.drop k)) 0)):=by
  intro b;cases b with
  |false=>
   simp only[Ba,zH,AA a c,Aa,vL,Vb,Yd];cases h:atS (s.drop k) 0==46 with
   |false=>simp only[Ba,zH,AA a c,Aa,Oo,Vb,Yd]
   |true=> simp only[Ca,zH,Ee];rw[show w64 (0+1)=1 from rfl,EM a c];simp only[Aa,Oo];rw[Kk (s.drop k) 1 0]
  |true=>
   simp only[Ca,zH,EM a c,Aa,vL,Ee];rw[Kk (s.drop k) 1 0];cases h:atS (s.drop k) (1+0)==46 with
   |false=> simp only[Uc]at h;simp only[h,Ba,zH,EM a c,Aa,Oo,Vb,Yd];rw[Kk (s.drop k) 1 0]
   |true=> simp only[Uc]at h;simp only[h,Ca,zH,Ee];rw[show w64 (1+1)=2 from rfl,zNw a c];simp only[Aa,Oo];rw[df,Kk (s.drop k) (1+1) 0]
 have:=d (atS (s.drop k) 0==43||atS (s.drop k) 0==45)
 grind
abbrev sr(s r:Str):ze:=sc s (beh s r)
theorem sr_0(s:Str):(⟨s,0⟩:ze)=sr s s:=by show sc s 0=sc s (beh s s);unfold beh;rw[Nat.sub_self]
theorem Gs{s r:Str}{n:Nat}(b:s.length<=big)(c:r<:+s)(a:n<=8):zo ((n:Int),sr s r)=some (pk r n):=by rw[SB b (Tm s r) a,Bu c]
theorem Nh{s r:Str}(a:s.length<=big)(b:r<:+s):zo (0,sr s r)=some (pk r 0):=Gs (n:=0) a b (by omega)
theorem Dw{s r:Str}(a:s.length<=big)(b:r<:+s):zo (1,sr s r)=some (pk r 1):=Gs (n:=1) a b (by omega)
theorem zMM{s r:Str}(a:s.length<=big)(b:r<:+s):zo (2,sr s r)=some (pk r 2):=Gs (n:=2) a b (by omega)
theorem VH{s r:Str}(a:s.length<=big)(b:r<:+s):qa (sr s r)=some (sr s (past spB r)):=by rw[zJo a (Tm s r),Bu b]
theorem AB{s r:Str}(a:s.length<=big)(b:r<:+s):ZJ (sr s r)=some (sr s (past digB r)):=by rw[zHj a (Tm s r),Bu b]
theorem zK5{s r:Str}(a:s.length<=big)(b:r<:+s):qR (sr s r)=some (nbS r):=by rw[number_eq a (Tm s r),Bu b]
theorem nX{s r:Str}{n:Nat}(a:r<:+s)(b:n<=r.length):beh s r+n=beh s (r.drop n):=by
 have:=a.length_le;unfold beh
 grind
theorem OH{s r:Str}{n:Nat}(c:s.length<=big)(a:r<:+s)(b:n<=r.length):(⟨s,w64 ((beh s r:Int)+(n:Int))⟩:ze)=sr s (r.drop n):=by have d:big=4194304:=rfl;have:=Tm s r;have e:=a.length_le;rw[QQ (by omega) (by omega),show(beh s r:Int)+(n:Int)=((beh s r+n:Nat):Int) by omega,nX a b]
theorem YA{l:Str}{n:Nat}(h:atS l n≠0):n<l.length:=by
 rcases Xd n l.length with a|a
 ·exact a
 ·exact absurd (by unfold atS;grind) h
theorem RA{s r:Str}(a:s.length<=big)(b:r<:+s)(h:atS r 0≠0):(⟨s,w64 ((beh s r:Int)+1)⟩:ze)=sr s (r.drop 1):=OH (n:=1) a b (YA h)
theorem Xm{s r:Str}(a:r<:+s)(n:Nat):r.drop n<:+s:=(Ke n r).trans a
theorem jq{s r:Str}(p:UInt8->Bool)(a:r<:+s):past p r<:+s:=(lm p r).trans a
theorem oJ{s r:Str}(a:r<:+s):unsign r<:+s:=by
 unfold unsign;split
 ·exact Xm a 1
 ·exact a
theorem VW{b:UInt8}(h:Wi b=true):b≠0:=by rintro rfl;revert h;decide
theorem FM(a b:Bool):(bif a then true else b)=(a||b):=by cases a<;>rfl
theorem OV(a b:Bool):(bif a then b else false)=(a&&b):=by cases a<;>rfl
theorem AP{s r:Str}(a:r<:+s):(qC r).1<:+s:=by
 unfold qC;split
 ·exact jq _ (Xm a 1)
 ·exact a
theorem iX{s r q:Str}(a:r<:+s)(h:expS r=some q):q<:+s:=by
 unfold expS at h;split at h
 ·split at h
  ·cases h;exact jq _ (oJ (Xm a 1))
  ·cases h
 ·cases h
theorem zDh{s r:Str}(b:r<:+s):(ZI r).1<:+s:=by
 unfold ZI;have a:=AP (jq digB (oJ b));simp only;cases h:expS (qC (past digB (unsign r))).1 with
 |some q=>exact iX a h
 |none=>exact a
theorem zH9{s l:Str}(hs:s.length<=big)(hl:l<:+s):oG (sr s l)=some ((ZI l).2,sr s (ZI l).1):=by
 unfold oG;simp only[za,Nh hs hl,Aa,wL,yz,FM];have e1:(bif (atS l 0==43||atS l 0==45)then some (LX.out (⟨s,w64 ((beh s l:Int)+1)⟩:ze))else some (LX.out (sr s l)))=(some (LX.out (sr s (unsign l))):Option (LX ze (Bool×ze))):=by
  unfold unsign;cases h:Wi (atS l 0)with
  |true=> have h':(atS l 0==43||atS l 0==45)=true:=h;rw[h',Ca,Ka rfl,RA hs hl (VW h)]
  |false=>
   have h':(atS l 0==43||atS l 0==45)=false:=h
   grind
 rw[e1,zH];have hu:=oJ hl;rw[AB hs hu];simp only[Aa];have hp:=jq digB hu;unfold ZI;generalize past digB (unsign l)=q at hp ⊢;have e2:Zh (X:=Bool×ze) (R:=Bool×ze) ((zo (0,sr s q)).bind fun y4=>
   (zD (y4==46) (zo (1,sr s q)) (default:Int)).bind fun y5=>
   (zD (y4==46) (Q9 y5) (default:Bool)).bind fun y6=>
   bif bif y4==46 then y6 else false then(ZJ (⟨s,w64 ((beh s q:Int)+1)⟩:ze)).bind fun y7=>some (LX.out (false,y7))else some (LX.out (true,sr s q)))=Zh (some (LX.out ((qC q).2,sr s (qC q).1))):=by
  congr 1;unfold qC;simp only[Nh hs hp,Dw hs hp,Aa,vL];cases h:atS q 0==46 with
  |false=>simp_all
  |true=>
   simp only[Zd,Aa,Ca,Oo,Ya];cases h2:digB (atS q 1)with
   |false=>grind
   |true=> rw[Ca,Ka rfl,RA hs hp (by grind),AB hs (Xm hp 1)];rfl
 rw[e2,zH];have hw:=AP hp;generalize qC q=W at hw ⊢;obtain⟨w,i⟩:=W;simp only at hw ⊢;have e3:((zo (0,sr s w)).bind fun y9=>
   (zD (!(y9==101)) (zo (0,sr s w)) (default:Int)).bind fun y10=>
   bif bif y9==101 then true else y10==69 then
    Zh (X:=(Bool×Int)×ze) ((zo (1,sr s w)).bind fun y11=>bif bif y11==43 then true else y11==45 then some (LX.out ((i,2),sr s w))else some (LX.out ((i,1),sr s w))) fun j12=>
    (zo (j12.1.2,j12.2)).bind fun y13=>(Q9 y13).bind fun y14=>
    bif y14 then(ZJ (⟨j12.2.s,w64 (j12.2.at_+j12.1.2)⟩:ze)).bind fun y15=>some (LX.out (false,y15))else some (LX.out (j12.1.1,j12.2))
   else some (LX.out (i,sr s w)))=(some (LX.out (match expS w with|some r=>(false,sr s r)|none=>(i,sr s w))):Option (LX (Bool×ze) (Bool×ze))):=by
  simp only[Nh hs hw,Aa,zMN];have e4:((zD (!(atS w 0==101)) (some (pk w 0)) (default:Int)).bind fun y10=>(some (bif atS w 0==101 then true else y10==69):Option Bool))=some (atS w 0==101||atS w 0==69):=by
   cases h:atS w 0==101 with
   |true=>rfl
   |false=>simp only[Xa,Zd,Aa,Ba,zNB,ic]
  have e5: ∀(f:Bool->Option (LX (Bool×ze) (Bool×ze))),((zD (!(atS w 0==101)) (some (pk w 0)) (default:Int)).bind fun y10=>f (bif atS w 0==101 then true else y10==69))=f (atS w 0==101||atS w 0==69):=by intro f;have:=congrArg (fun o=>Option.bind o f) e4;simpa [Option.bind_assoc] using this
  refine(e5 (fun b=>bif b then _ else _)).trans ?_;unfold expS;cases h:(atS w 0==101||atS w 0==69)with
  |false=>rfl
  |true=>
   have hne:atS w 0≠0:=by intro e;rw[e]at h;revert h;decide
   simp only[Ca,Ee,Dw hs hw,Aa,wL,yz,FM];unfold unsign;have hd:atS (w.drop 1) 0=atS w 1:=by rw[Kk w 1 0]
   rw[hd];cases hg:(atS w 1==43||atS w 1==45)with
   |true=>
    have hg':Wi (atS w 1)=true:=hg;have hl2:=YA (VW hg');simp only[Ca,zH,zMM hs hw,Aa,Oo,hg',Ee,df];rw[show atS (w.drop (1+1)) 0=atS w 2 by rw[Kk w 2 0]];cases hq:digB (atS w 2)with
    |false=>rfl
    |true=> rw[Ca,Ka rfl,show(2:Int)=((2:Nat):Int)from rfl,OH hs hw (by omega),AB hs (Xm hw 2)];rfl
   |false=>
    have hg':Wi (atS w 1)=false:=hg;simp only[Ba,zH,Dw hs hw,Aa,Oo,hg',Vb,Yd];rw[hd];cases hq:digB (atS w 1)with
    |false=>rfl
    |true=> rw[Ca,Ka rfl,RA hs hw hne,AB hs (Xm hw 1)];rfl
 refine(congrArg (fun o=>Zh o _) e3).trans ?_;rw[zH];cases expS w<;>rfl
def valG(n:Nat)(l:Str):Nat:=l.foldl decN n
def d48(k:Nat):UInt8:=UInt8.ofNat (48+k)
def ak(r:Nat):Str:=Lib.trimRightB [d48 (r / 100),d48 (r / 10%10),d48 (r%10)] 48
def wV(r:Nat):Bool:=(ak r).all digB&&decide ((ak r).length<=3)&&decide (valG 0 (ak r)*10 ^ (3 - (ak r).length)=r)&&((ak r).isEmpty==(r==0))&& !((ak r).getLast? ==some 48)
theorem zId: ∀r,r<1000->wV r=true:=by decide+kernel
def IM(r:Nat)(p:Bool):Str:=bif (ak r).isEmpty then(bif p then [46,48]else [])else 46::ak r
def zNm(m:Nat)(p:Bool):Str:=Lib.decDigits (m / 1000)++IM (m%1000) p
def numT(n:Int)(p:Bool):Str:=(if n<0 then [45]else [])++zNm n.natAbs p
theorem Cy{b:UInt8}(h:digB b=true):48<=b.toNat/\b.toNat<=57:=by unfold digB at h;simpa using h
theorem lX: ∀(q:Str),q.all digB=true->Lib.indexByte q 46= -1
 |[],_=>rfl
 |c::q,h=>by
  rw[Lc,Ea]at h;have a:=Cy h.1;have b:(c==46)=false:=by refine Da.2 (fun e=> ?_);subst e;revert a;decide
  rw[Lib.indexByte,b,lX q h.2];rfl
theorem mX: ∀(q g:Str),q.all digB=true->Lib.indexByte (q++46::g) 46=(q.length:Int)
 |[],g,_=>by rw[Bc,Lib.indexByte];rfl
 |c::q,g,h=>by
  rw[Lc,Ea]at h;have hd:=Cy h.1;have hc:(c==46)=false:=by refine Da.2 (fun e=> ?_);subst e;revert hd;decide
  rw[Ab,Lib.indexByte,hc,mX q g h.2];have:((q.length:Int)== -1)=false:=Da.2 (by omega);rw[this,Fa];simp
theorem rX: ∀(l:Str),(l.all fun b=>digB b||b==46)=true->Lib.indexAny l [101,69]= -1
 |[],_=>rfl
 |c::l,h=>by
  rw[Lc,Ea]at h;have hc:List.contains [101,69] c=false:=by
   have: ∀n:Nat,n<256->(digB (UInt8.ofNat n)||UInt8.ofNat n==46)=true->List.contains [101,69] (UInt8.ofNat n)=false:=by decide+kernel
   have:=this c.toNat (Tc c);rw[Xf]at this;exact this h.1
  rw[Lib.indexAny,hc,rX l h.2];rfl
def partT(r:Nat)(p:Bool):Str:=bif (ak r).isEmpty then(bif p then [48]else [])else ak r
theorem NW{r:Nat}(h:r<1000)(p:Bool):(partT r p).all digB=true/\(partT r p).length<=3/\valG 0 (partT r p)*10 ^ (3 - (partT r p).length)=r/\IM r p=(bif (partT r p).isEmpty then []else 46::partT r p)/\((partT r p).isEmpty=((r==0)&& !p)):=by
 have f:=zId r h;simp only[wV,Ea,ja,Cb]at f;obtain⟨⟨⟨⟨a,b⟩,c⟩,d⟩,e⟩:=f;unfold partT IM;cases g:(ak r).isEmpty with
 |true=>
  have i:r=0:=by rw[g]at d;exact Cb.1 d.symm
  subst i;cases p<;>refine⟨by decide,by decide,by decide,rfl,rfl⟩
 |false=>
  grind
theorem zJ8{l:Str}(h:(l.all fun b=>digB b||b==46)=true):Oh l=true:=by
 unfold Oh;rw[Rb]at h ⊢;intro b hb;have:=h b hb;refine Ga ?_;rw[jc]at this;rcases this with h1|h1
 ·have:=Cy h1;omega
 simp_all
theorem jX{c:UInt8}(h:digB c=true):c≠45/\c≠43/\c≠46/\c≠0/\List.contains [43,45] c=false:=by
 have: ∀n:Nat,n<256->digB (UInt8.ofNat n)=true->UInt8.ofNat n≠45/\UInt8.ofNat n≠43/\UInt8.ofNat n≠46/\UInt8.ofNat n≠0/\List.contains [43,45] (UInt8.ofNat n)=false:=by decide+kernel
 have:=this c.toNat (Tc c);simp_all
end Go.Lv.VT
