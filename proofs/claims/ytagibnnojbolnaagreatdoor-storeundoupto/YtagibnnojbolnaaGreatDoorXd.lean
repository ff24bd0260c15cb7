/- Sheets: the reference's check. -/
import Derived.Test.YtagibnnojbolnaaGreatDoorXc
import Derived.Test.YtagibnnojbolnaaGreatDoorXa
import Derived.Test.YtagibnnojbolnaaGreatDoorXb
import Derived.Test.YtagibnnojbolnaaGreatDoorTy
import Derived.Test.YtagibnnojbolnaaGreatDoorMo
set_option linter.unusedSimpArgs false
set_option linter.unusedVariables false
namespace Go.Lv.VT
theorem wH {α R:Type} {step:Int->Option (LO Int Unit R)} {k:Unit->Option R} (l:List α) (p:α->Bool) (r:R)
  (hg: ∀(i:Nat) (h:i<l.length),step (i:Int)=some (bif p l[i]then .again ((i+1:Nat):Int)else .ret r))
  (hf:step (l.length:Int)=some (.out ())):zU step 0 k=bif l.all p then k ()else some r:=by
 refine(qf l (fun v=>bif p v then none else some r) () (fun i hi=> ?_) hf).trans ?_
 ·rw[hg i hi];cases p l[i]<;>rfl
 ·rw[Bi];cases l.all p<;>rfl
theorem YW{α:Type}(l:List α):decide ((l.length:Int)>0)= !l.isEmpty:=nk l
theorem yU{α:Type}(l:List α):decide ((l.length:Int)>1)= !decide (l.length<=1):=Tg _ 1
theorem ztg{r:zN}(h:zq (zy r)<=big):Nn r=some (qm r):=by
 refine ZG (fun r=>zq (zy r)) (fun r=>zq (zy r)<=big) (fun r=>qm r) (fun S r hr hS=> ?_) h;have hz:=Mi r;have hcp:=Wx r.cond;have hlr:=ZF Rk r.rules;have hld:=ZF Nk r.decls;obtain⟨hn1,hn2⟩:=uA r.names;have e32:decide ((r.decls.length:Int)>32)= !decide (r.decls.length<=32):=Tg _ 32;have e64:decide ((r.names.length:Int)>64)= !decide (r.names.length<=64):=Tg _ 64;unfold YG;have hrules: ∀R:Type,∀f:R,zU (fun(s16:Int)=>
   bif decide (s16<(r.rules.length:Int))then
    (geti r.rules s16).bind fun y17=>
    (S y17).bind fun y18=>
    bif !y18 then
     some (LO.ret false)
    else
     some (LO.again (w64 (s16+1)))
   else
    some (LO.out ()):Int->Option (LO (Int) (Unit) _)) 0 (fun _=>some true)=some (r.rules.all qm):=by
  intro R f;refine(wH r.rules qm false (fun i hi=> ?_) ?_).trans ?_
  ·have hm:=FZ (Ha hi);simp only[zO hi,Ca,zM hi,Aa,hS r.rules[i] (show zq (zy r.rules[i])<=big by omega) hm,zG hi (show r.rules.length<=big by omega)];cases qm r.rules[i]<;>rfl
  ·simp only[zW,Ba]
  ·cases r.rules.all qm<;>rfl
 have hnames: ∀b:Bool,zU (fun(s12:Int)=>
   bif decide (s12<(r.names.length:Int))then
    (geti r.names s12).bind fun y13=>
    (yu y13).bind fun y14=>
    bif !y14 then
     some (LO.ret false)
    else
     some (LO.again (w64 (s12+1)))
   else
    some (LO.out ()):Int->Option (LO (Int) (Unit) _)) 0 (fun _=>some b)=some (r.names.all Ig&&b):=by
  intro b;refine(wH r.names Ig false (fun i hi=> ?_) ?_).trans ?_
  ·obtain⟨g1,g2⟩:=hn2 _ (Ha hi);have hp:yu r.names[i]=some (Ig r.names[i]):=RQ (by omega) (fun v hv=>by have:=g2 v hv;omega);simp only[zO hi,Ca,zM hi,Aa,hp,zG hi (show r.names.length<=big by omega)];cases Ig r.names[i]<;>rfl
  ·simp only[zW,Ba]
  ·cases r.names.all Ig<;>rfl
 simp only[za,Ox,Zm,hrules Unit (),hnames,zu7 (show zL zf r.selectors<=big by omega),OP,ztd (show zq (zk r.cond)<=big by omega),zmV (show zq (zk r.cond)<=big by omega),
  zX,Aa,ZI,YW,yU,wy,e32,e64,bne]
 rw[Lu];unfold Gj bv;by_cases k1:r.kind=1
 ·simp only[k1,Int.reduceBEq,Ca];have hdecl:zU (fun(s3:Int)=>
       bif decide (s3<(r.decls.length:Int))then
        (geti r.decls s3).bind fun y4=>
        (Hr y4).bind fun y5=>
        bif !(y5==0)then
         some (LO.ret (LX.ret false))
        else
         some (LO.again (w64 (s3+1)))
       else
        some (LO.out ()):Int->Option (LO (Int) (Unit) (LX Unit Bool))) 0 (fun _=>some (LX.ret true))=some (LX.ret (r.decls.all Lf)):=by
   refine(wH r.decls Lf (LX.ret false) (fun i hi=> ?_) ?_).trans ?_
   ·have hm:=ZU (f:=Zv) (Ha hi);simp only[zO hi,Ca,zM hi,Aa,wS (show zq (Zv r.decls[i])<=big by omega),zG hi (show r.decls.length<=big by omega)];cases Lf r.decls[i]<;>rfl
   ·simp only[zW,Ba]
   ·cases r.decls.all Lf<;>rfl
  rw[hdecl];cases selS r.selectors==0 with
  |false=>rfl
  |true=>
   cases decide (r.decls.length<=32)with
   |false=>rfl
   |true=>
    cases Nh r.cond with
    |false=>rfl
    |true=>
     cases hn:r.names with
     |cons a l=>rfl
     |nil=>
      cases hl:r.rules with
      |cons a l=>rfl
      |nil=> simp only[List.isEmpty_nil,List.all_nil,Rb,aa,Ya,Ua,Ca,Ba];cases r.decls.all Lf<;>rfl
 have b1:=Ea.2 k1;simp only[b1,Ba];clear hrules hnames;by_cases k2:r.kind=2
 ·simp only[k2,Int.reduceBEq,Ca];cases r.selectors.isEmpty<;>cases r.decls.isEmpty<;>cases r.names.isEmpty<;>cases Bl r.cond<;>rfl
 have b2:=Ea.2 k2;simp only[b2,Ba];by_cases k3:r.kind=3
 ·simp only[k3,Int.reduceBEq,Ca];cases r.selectors.isEmpty<;>cases r.decls.isEmpty<;>cases r.names.isEmpty<;>cases Jk r.cond<;>rfl
 have b3:=Ea.2 k3;simp only[b3,Ba];by_cases k4:r.kind=4
 ·simp only[k4,Int.reduceBEq,Ca];cases r.selectors.isEmpty<;>cases r.decls.isEmpty<;>cases decide (r.names.length<=1)<;>cases Nh r.cond<;>rfl
 have b4:=Ea.2 k4;simp only[b4,Ba];by_cases k5:r.kind=5
 ·simp only[k5,Int.reduceBEq,Ca];cases r.selectors.isEmpty<;>cases r.decls.isEmpty<;>cases r.names.isEmpty<;>cases decide (r.names.length<=64)<;>cases r.rules.isEmpty<;>cases Nh r.cond<;>rfl
 have b5:=Ea.2 k5;simp only[b5,Ba];rfl
theorem eZ{c:zu}(h:Nh c=true):c.list=[]:=by unfold Nh at h;rw[Da,Da]at h;exact We.1 h.2.1
theorem zuk{r:zN}(h:zq (zy r)<=big)(hs:Gj r=true)(h5:(r.kind==5)=false):WH r=some (Ej r:Int):=by
 have hz:=Mi r;have hb:zq (zk r.cond)<=big:=by omega
 have hlen:=Qb r.cond;unfold WH Ej;cases h3:r.kind==3 with
 |true=>simp only[Ca,Zm,AR hb,za,Aa]
 |false=>
  have:=zHZ (l:=r.cond.list) (by omega) (fun y hy=>by have:=qW hy;omega);simp only[Ba,za,Zm];refine Eq.trans this ?_;have hr:(r.cond.list.any fun y=>(unw y).list.any fun z=>z.kind != 4)=(bif r.kind==2 then askB r.cond else false):=by
   unfold Gj at hs;rw[h3,h5]at hs;by_cases k1:r.kind=1
   ·rw[k1]at hs ⊢;simp only[Int.reduceBEq,Ca,Da]at hs;rw[eZ hs.2.2.1];rfl
   have b1:=Ea.2 k1;rw[b1]at hs;cases h2:r.kind==2 with
   |true=> rw[h2]at hs;simp only[Ca,Ba,Da]at hs;rw[Ca,zE0 hs.2.2];rfl
   |false=>
    rw[h2]at hs;cases h4:r.kind==4 with
    |true=> rw[h4]at hs;simp only[Ca,Ba,Da]at hs;rw[eZ hs.2.2];rfl
    |false=> rw[h4]at hs;cases hs
  rw[hr];cases r.kind==2 with
  |true=>cases askB r.cond<;>rfl
  |false=>rfl
theorem G7{l:List zN}(h:zL zy l<=big)(hs:l.all qm=true):Jn l=some (mx Pf l:Int):=by
 refine ZG (fun l=>zL zy l) (fun l=>zL zy l<=big/\l.all qm=true) (fun l=>(mx Pf l:Int)) (fun S l hl hS=> ?_) ⟨h,hs⟩;obtain⟨hl,hs⟩:=hl;have hlen:=ZF Rk l;unfold DF;refine(gm l Pf (fun a i=>((a:Int),(i:Int))) (fun a=>(a:Int)) (a0:=0) rfl (fun i a hi=> ?_) (fun a=> ?_)).trans (by rw[Nat.zero_max])
 ·have hm:=ZU (f:=zy) (Ha hi);have hz:=Mi l[i];have hld:=ZF Nk l[i].decls;have hsh:=Pb.1 hs _ (Ha hi);have hd:=Dx l[i];rw[Lu,Da,Da]at hsh;simp only[zO hi,Ca,zM hi,za,Aa];cases h5:l[i].kind==5 with
  |true=> rw[h5,Ca]at hd;simp only[Ca,zI,zG hi (show l.length<=big by omega),hd,Nat.max_zero]
  |false=>
   rw[h5,Ba]at hd;have hrd:=MQ l[i].rules;have hdd:=PK l[i].decls;rw[hS l[i].rules ⟨show zL zy l[i].rules<=big by omega,hsh.2.2⟩ (show zL zy l[i].rules<zL zy l by omega)];simp only[Ba,Aa];have hdecl: ∀(R:Type) (k:Int->Option R),zU (fun(s5:Int×Int)=>
         bif decide (s5.2<(l[i].decls.length:Int))then
          (geti l[i].decls s5.2).bind fun y8=>
          (QC y8.value).bind fun y9=>
          some (LO.again (if y9>s5.1 then y9 else s5.1,w64 (s5.2+1)))
         else
          some (LO.out s5.1):Int×Int->Option (LO (Int×Int) (Int) _)) ((mx Pf l[i].rules:Int),0) k=k ((max (mx Pf l[i].rules) (mx (fun d=>Zc d.value) l[i].decls):Nat):Int):=by
    intro R k;refine gm l[i].decls (fun d=>Zc d.value) (fun a i=>((a:Int),(i:Int))) (fun a=>(a:Int)) (a0:=mx Pf l[i].rules) rfl (fun j b hj=> ?_) (fun b=> ?_)
    ·have hm2:=ZU (f:=Zv) (Ha hj);have hz2:=qX l[i].decls[j];have hv:=Lh l[i].decls[j].value;simp only[zO hj,Ca,zM hj,Aa,UC (show szL l[i].decls[j].value<=big by omega),zG hj (show l[i].decls.length<=big by omega),Mj]
    ·simp only[zW,Ba]
   rw[hdecl];have hw:w64 (1+((max (mx Pf l[i].rules) (mx (fun d=>Zc d.value) l[i].decls):Nat):Int))=((1+max (mx Pf l[i].rules) (mx (fun d=>Zc d.value) l[i].decls):Nat):Int):=by rw[YI (by omega),Re]
   simp only[Zm,Ox,zpz (show zL zf l[i].selectors<=big by omega),zuk (show zq (zy l[i])<=big by omega) hsh.1 h5,Aa,zI,hw,Mj,zG hi (show l.length<=big by omega)];rw[hd];have:max (max (max a (1+max (mx Pf l[i].rules) (mx (fun d=>Zc d.value) l[i].decls))) (selL l[i].selectors)) (Ej l[i])=max a (max (1+max (mx Pf l[i].rules) (mx (fun d=>Zc d.value) l[i].decls)) (max (selL l[i].selectors) (Ej l[i]))):=by omega
   rw[this]
 ·simp only[zW,Ba]
def Rh(l:List zN):Bool:=decide (Jf l<=64)&&(l.all qm&&decide (mx Pf l<=16))
theorem zve{l:List zN}(h:zL zy l<=big):OE l=some (Rh l):=by
 have hlen:=ZF Rk l;have e64:decide ((Jf l:Int)>64)= !decide (Jf l<=64):=Tg _ 64;unfold OE Rh;simp only[vS h,za,Aa,e64];cases decide (Jf l<=64)with
 |false=>rfl
 |true=>
  simp only[Ya,Ba,aa];refine(wH l qm false (fun i hi=> ?_) ?_).trans ?_
  ·have hm:=ZU (f:=zy) (Ha hi);simp only[zO hi,Ca,zM hi,Aa,Zm,Ox,ztg (show zq (zy l[i])<=big by omega),zG hi (show l.length<=big by omega)];cases qm l[i]<;>rfl
  ·simp only[zW,Ba]
  ·cases hs:l.all qm with
   |false=>rfl
   |true=> have e16:decide ((mx Pf l:Int)<=16)=decide (mx Pf l<=16):=gp _ 16;simp only[Ca,G7 h hs,Aa,e16,aa]
theorem zvc{s:zbj}(h:zL zy s.rules<=big):iy s=some (bif Rh s.rules then 0 else 8):=by unfold iy;simp only[zve h,za,Aa];cases Rh s.rules<;>rfl
theorem zJS {A S X R:Type} {step:S->Option (LO S X R)} (n:Nat) (st:Nat->A->S) (Inv:Nat->A->Prop) (Q:X->Prop) {s0:S} {a0:A} (h0:s0=st 0 a0) (hI:Inv 0 a0)
  (hg: ∀(i:Nat) (a:A),i<n->Inv i a-> ∃a',step (st i a)=some (.again (st (i+1) a'))/\Inv (i+1) a')
  (hf: ∀a,Inv n a-> ∃x,step (st n a)=some (.out x)/\Q x): ∃x,xg step s0=some (.out x)/\Q x:=by
 have key: ∀(m i:Nat) (a:A),i+m=n->Inv i a-> ∃j x,qd step j (st i a)=some (.out x)/\Q x:=by
  intro m
  induction m with
  |zero=>
   intro i a hi ha;obtain rfl:i=n:=by omega
   obtain⟨x,h1,h2⟩:=hf a ha;exact⟨1,x,by simp only[qd,h1],h2⟩
  |succ m ih=> intro i a hi ha;obtain⟨a',h1,h2⟩:=hg i a (by omega) ha;obtain⟨j,x,g1,g2⟩:=ih (i+1) a' (by omega) h2;exact⟨j+1,x,by simp only[qd,h1];exact g1,g2⟩
 obtain⟨j,x,h1,h2⟩:=key n 0 a0 (by omega) hI;exact⟨x,by rw[h0];exact Ai h1,h2⟩
theorem zED{R:Type}{l:List Zu}(h:zL Zv l<=big)(b0:Bool)(f0:zH):
  ∃x:Bool×zH,xg (fun(s8:(Bool×Int)×zH)=>
         bif decide (s8.1.2<(l.length:Int))then
          (geti l s8.1.2).bind fun y9=>
          (ko y9.value).bind fun y10=>
          (zF (!(bif s8.1.1 then true else !(y10.2==0))) (Kn y9) (default:Int)).bind fun y11=>
          some (LO.again ((bif bif s8.1.1 then true else !(y10.2==0)then true else !(y11==0),w64 (s8.1.2+1)),(⟨s8.2.rules,if y10.1>s8.2.depth then y10.1 else s8.2.depth,s8.2.bad⟩:zH)))
         else
          some (LO.out (s8.1.1,s8.2)):(Bool×Int)×zH->Option (LO ((Bool×Int)×zH) (Bool×zH) R)) ((b0,0),f0)=some (.out x)/\
   x.1=(b0|| !l.all Lf)/\x.2.rules=f0.rules/\ ∀n:Nat,f0.depth=(n:Int)->l.all Lf=true->x.2.depth=((max n (mx (fun d=>Zc d.value) l):Nat):Int):=by
 have hlen:=ZF Nk l;refine zJS (A:=Bool×zH) l.length (fun i a=>((a.1,(i:Int)),a.2)) (fun i a=>a.1=(b0|| !(l.take i).all Lf)/\a.2.rules=f0.rules/\ ∀n:Nat,f0.depth=(n:Int)->(l.take i).all Lf=true->a.2.depth=((max n (mx (fun d=>Zc d.value) (l.take i)):Nat):Int)) _ (a0:=(b0,f0)) rfl
  ⟨by simp,rfl,fun n hn _=>by simp[mx,hn]⟩ (fun i a hi hI=> ?_) (fun a hI=> ?_)
 ·obtain⟨i1,i2,i3⟩:=hI;have hm:=ZU (f:=Zv) (Ha hi);have hz:=qX l[i];have hv:=Lh l[i].value;have hde:Lf l[i]=(Lf l[i]&&(errS l[i].value==0)):=by unfold Lf;cases sj l[i].name<;>cases errS l[i].value==0<;>simp
  simp only[zO hi,Ca,zM hi,Aa,vJ (show szL l[i].value<=big by omega),BS (show zq (Zv l[i])<=big by omega),zX,zG hi (show l.length<=big by omega)];refine⟨(_,_),rfl,?_,i2,fun n hn hall=> ?_⟩
  ·rw[Ju Lf hi,i1];simp only;by_cases he:errS l[i].value=0
   ·rw[Sa he];cases b0<;>cases (l.take i).all Lf<;>cases Lf l[i]<;>rfl
   ·rw[Oa he];have he':=Ea.2 he;rw[he',Lc]at hde;simp only[he',hde];cases b0<;>cases (l.take i).all Lf<;>rfl
  ·rw[Ju Lf hi,Da]at hall;have hd:=i3 n hn hall.1;rw[hall.2,aa]at hde;have he:errS l[i].value=0:=by rw[<-Db,<-hde]
   rw[dw _ hi];simp only[Sa he,hd,Mj];rw[Nat.max_assoc]
 ·rw[Vd]at hI;exact⟨(a.1,a.2),by simp only[zW,Ba],hI⟩
theorem zJi {R:Type} {l:List Zu} (h:zL Zv l<=big) {b0:Bool} {f0:zH} {k:Bool×zH->Option R} (G:Option R->Prop)
  (hk: ∀x:Bool×zH,x.1=(b0|| !l.all Lf)->x.2.rules=f0.rules->(∀n:Nat,f0.depth=(n:Int)->l.all Lf=true->x.2.depth=((max n (mx (fun d=>Zc d.value) l):Nat):Int))->G (k x)):
  G (zU (fun(s8:(Bool×Int)×zH)=>
         bif decide (s8.1.2<(l.length:Int))then
          (geti l s8.1.2).bind fun y9=>
          (ko y9.value).bind fun y10=>
          (zF (!(bif s8.1.1 then true else !(y10.2==0))) (Kn y9) (default:Int)).bind fun y11=>
          some (LO.again ((bif bif s8.1.1 then true else !(y10.2==0)then true else !(y11==0),w64 (s8.1.2+1)),(⟨s8.2.rules,if y10.1>s8.2.depth then y10.1 else s8.2.depth,s8.2.bad⟩:zH)))
         else
          some (LO.out (s8.1.1,s8.2)):(Bool×Int)×zH->Option (LO ((Bool×Int)×zH) (Bool×zH) R)) ((b0,0),f0) k):=by
 obtain⟨x,hx,h1,h2,h3⟩:=zED (R:=R) h b0 f0;rw[Bn hx];exact hk x h1 h2 h3
theorem zJJ{X R:Type}{m:Option (LX X R)}{k:X->Option R}(G:Option R->Prop)(P:X->Prop)(h: ∃o,m=some (.out o)/\P o)(hk: ∀o,P o->G (k o)):G (Zi m k):=by obtain⟨o,rfl,ho⟩:=h;exact hk o ho
theorem zKs(a b:Nat)(h:a+b<=big):decide (w64 ((a:Int)+(b:Int))>0)= !(decide (a=0)&&decide (b=0)):=by
 rw[Pt h];cases a with
 |zero=>cases b with
  |zero=>rfl
  |succ b=>exact Fa (by omega)
 |succ a=> rw[Fa (by omega),Ia (show¬(a+1=0) by omega)];rfl
theorem IZ{α β:Type}(l:List α)(m:List β)(h:l.length+m.length<=big):decide (w64 ((l.length:Int)+(m.length:Int))>0)= !(l.isEmpty&&m.isEmpty):=by rw[zKs _ _ h];cases l<;>cases m<;>simp
theorem zE3{l:List (List Str)}(hl:l.length<=big)(h: ∀n∈l,n.length<=big):Qe l=some (!l.all Ig):=by
 unfold Qe oL;refine Dl (Li l (fun c=> !Ig c) hl (fun i hi=> ?_) ?_) ((Mk _ _).trans (Iq _ _))
 ·have:xE l[i]=some (!Ig l[i]):=by unfold xE;simp only[dP (h _ (Ha hi)),za,Aa]
  simp only[zO hi,Ca,zM hi,za,Aa,this]
 ·simp only[zW,Ba]
def MV(l:List zN)(y:zH):Prop:=y.rules=(Jf l:Int)/\y.bad= !(l.all qm)/\(l.all qm=true->y.depth=(mx Pf l:Int))
theorem zE5{l:List zN}{i:Nat}(hi:i<l.length):Jf (l.take (i+1))=Jf (l.take i)+numR l[i]:=by rw[TD,TD,Oo numR hi]
theorem D9(l:List zN)(i:Nat):Jf (l.take i)<=Jf l:=by rw[TD,TD];exact Xy numR l i
theorem zvl{l:List zN}(h:zL zy l<=big): ∃y,ul l=some y/\MV l y:=by
 refine El zss (fun l=>zL zy l) (fun l=>zL zy l<=big) MV (fun S l hl hS=> ?_) h;have hlen:=ZF Rk l;have hnl:=IY l;unfold uu;refine Lx (A:=zH) l.length (fun i a=>((i:Int),a)) (fun i a=>a.rules=(Jf (l.take i):Int)/\a.bad= !((l.take i).all qm)/\((l.take i).all qm=true->a.depth=(mx Pf (l.take i):Int))) _ (a0:=⟨0,0,false⟩) rfl
  ⟨by simp[Jf],by simp,fun _=>by simp[mx]⟩ (fun i a hi hI=> .inl ?_) (fun a hI=> .inl ?_)
 ·obtain⟨i1,i2,i3⟩:=hI;have hm:=ZU (f:=zy) (Ha hi);have ht:=zE5 hi;have ht2:=D9 l (i+1);have hnr:=Yw l[i];have hz:=Mi l[i];have hcp:=Wx l[i].cond;have hls:=ZF qH l[i].selectors;have hld:=ZF Nk l[i].decls;have hlr:=ZF Rk l[i].rules;have hrd:=MQ l[i].rules;obtain⟨hn1,hn2⟩:=uA l[i].names;obtain⟨f,hf1,hf2,hf3,hf4⟩:=hS l[i].rules (by omega) (by omega);have hnames:=zE3 (l:=l[i].names) (by omega) (fun n hn=>by have:=(hn2 n hn).1;omega);obtain⟨told,htold1,htold2⟩:=bP (c:=l[i].cond) (by omega);have e32:decide ((l[i].decls.length:Int)>32)= !decide (l[i].decls.length<=32):=Tg _ 32;have e64:decide ((l[i].names.length:Int)>64)= !decide (l[i].names.length<=64):=Tg _ 64;have hsh:=Lu l[i];have hde:=Dx l[i];have hw1:w64 (f.rules+1)=((numR l[i]:Nat):Int):=by rw[hf2,hnr,Xm (by omega),Re]
  have hw2:w64 (a.rules+((numR l[i]:Nat):Int))=((Jf (l.take (i+1)):Nat):Int):=by rw[i1,Pt (by omega),ht]
  -- what is to be shown of a round
  have fin: ∀(o:(Int×Bool)×zH×zH),o.2.1=⟨((Jf (l.take (i+1)):Nat):Int),a.depth,a.bad⟩->o.1.2= !(qm l[i])->(qm l[i]=true-> ∃e n:Nat,o.1.1=(e:Int)/\w64 (o.2.2.depth+1)=(n:Int)/\max n e=Pf l[i])->
    ∃a':zH,(some (LO.again (w64 ((i:Int)+1),(⟨o.2.1.rules,if o.1.1>(if w64 (o.2.2.depth+1)>o.2.1.depth then w64 (o.2.2.depth+1)else o.2.1.depth)then o.1.1 else if w64 (o.2.2.depth+1)>o.2.1.depth then w64 (o.2.2.depth+1)else o.2.1.depth,bif o.2.1.bad then true else o.1.2⟩:zH))):Option (LO (Int×zH) zH zH))=some (.again (((i+1:Nat):Int),a'))/\
     (a'.rules=(Jf (l.take (i+1)):Int)/\a'.bad= !((l.take (i+1)).all qm)/\((l.take (i+1)).all qm=true->a'.depth=(mx Pf (l.take (i+1)):Int))):=by
   intro o ho1 ho2 ho3;rw[zG hi (show l.length<=big by omega)];refine⟨_,rfl,?_,?_,fun hall=> ?_⟩
   ·simp only[ho1]
   ·simp only[ho1];rw[Ju qm hi,i2,ho2];cases (l.take i).all qm<;>cases qm l[i]<;>rfl
   ·rw[Ju qm hi,Da]at hall;obtain⟨e,n,h1,h2,h3⟩:=ho3 hall.2;have hd:=i3 hall.1;simp only[ho1];rw[dw _ hi,h1,h2,hd,Mj,Mj,<-h3,Nat.max_assoc]
  simp only[zO hi,Ca,zM hi,za,Aa,hf1,hnames];refine zJJ (fun(q:Option (LO (Int×zH) zH zH))=> ∃a':zH,q=some (LO.again (((i+1:Nat):Int),a'))/\(a'.rules=(Jf (l.take (i+1)):Int)/\a'.bad= !((l.take (i+1)).all qm)/\((l.take (i+1)).all qm=true->a'.depth=(mx Pf (l.take (i+1)):Int))))
   (fun o=>o.2.1=⟨((Jf (l.take (i+1)):Nat):Int),a.depth,a.bad⟩/\o.1.2= !(qm l[i])/\(qm l[i]=true-> ∃e n:Nat,o.1.1=(e:Int)/\w64 (o.2.2.depth+1)=(n:Int)/\max n e=Pf l[i])) ?_ (fun o ho=>fin o ho.1 ho.2.1 ho.2.2)
  simp only[Zm,eP,zpF (show zL zf l[i].selectors<=big by omega),zqQ (show zL zf l[i].selectors<=big by omega),Aa,
   zvi (show zq (zk l[i].cond)<=big by omega),znr (show zq (zk l[i].cond)<=big by omega),vT (show zq (zk l[i].cond)<=big by omega),htold1,zX,e32,e64,hw1,hw2,hf3,
   IZ l[i].selectors l[i].decls (by omega),IZ l[i].names l[i].rules (by omega),YW,yU,wy,bne]
  unfold Gj bv at hsh;unfold Ej at hde
  -- the depth of the rules in it
  have hdeep:l[i].rules.all qm=true->w64 (f.depth+1)=((mx Pf l[i].rules+1:Nat):Int):=fun ha=>by rw[hf4 ha,Xm (by omega)]
  have hnone:l[i].selectors.isEmpty=true->l[i].decls.isEmpty=true->selL l[i].selectors=0/\mx (fun d=>Zc d.value) l[i].decls=0:=fun h1 h2=>by rw[We.1 h1,We.1 h2];exact⟨by rw[selL],rfl⟩
  by_cases k1:l[i].kind=1
  ·simp only[k1,Int.reduceBEq,Ca,Ba]at hsh hde ⊢;refine zJi (l:=l[i].decls) (by omega) (fun(q:Option (LX ((Int×Bool)×zH×zH) (LO (Int×zH) zH zH)))=> ∃o,q=some (LX.out o)/\(o.2.1=⟨((Jf (l.take (i+1)):Nat):Int),a.depth,a.bad⟩/\o.1.2= !(qm l[i])/\(qm l[i]=true-> ∃e n:Nat,o.1.1=(e:Int)/\w64 (o.2.2.depth+1)=(n:Int)/\max n e=Pf l[i]))) (fun x h1 h2 h3=>⟨_,rfl,rfl,?_,fun hok=> ?_⟩)
   ·simp only[h1,hsh];cases l[i].rules.all qm<;>cases l[i].names.all Ig<;>simp only[Ya,Ua,Ca,Ba]<;>cases selS l[i].selectors==0<;>cases decide (l[i].decls.length<=32)<;>cases Nh l[i].cond<;>cases l[i].names.isEmpty<;>cases l[i].rules.isEmpty<;>cases l[i].decls.all Lf<;>rfl
   ·rw[hok]at hsh;have hsh:=hsh.symm;simp only[Da]at hsh;have hdl:=PK l[i].decls;refine⟨selL l[i].selectors,max (mx Pf l[i].rules) (mx (fun d=>Zc d.value) l[i].decls)+1,rfl,?_,by rw[hde];omega⟩;simp only[h3 _ (hf4 hsh.2.2) hsh.1.2.2.2.2.2];rw[Xm (by omega)]
  have b1:=Ea.2 k1;rw[b1]at hsh ⊢;simp only[Ba]at hsh ⊢;by_cases k2:l[i].kind=2
  ·simp only[k2,Int.reduceBEq,Ca,Ba]at hsh hde ⊢;refine⟨_,rfl,rfl,?_,fun hok=> ?_⟩
   ·simp only[hsh];cases l[i].rules.all qm<;>cases l[i].names.all Ig<;>cases l[i].selectors.isEmpty<;>cases l[i].decls.isEmpty<;>cases l[i].names.isEmpty<;>cases Bl l[i].cond<;>rfl
   ·rw[hok]at hsh;have hsh:=hsh.symm;simp only[Da]at hsh;obtain⟨g1,g2⟩:=hnone hsh.1.1.1 hsh.1.1.2;refine⟨bif askB l[i].cond then 1 else 0,_,?_,hdeep hsh.2.2,by rw[hde,g1,g2];cases askB l[i].cond<;>simp only[Ca,Ba]<;>omega⟩;cases askB l[i].cond<;>rfl
  have b2:=Ea.2 k2;rw[b2]at hsh hde ⊢;simp only[Ba]at hsh hde ⊢;by_cases k3:l[i].kind=3
  ·simp only[k3,Int.reduceBEq,Ca,Ba]at hsh hde ⊢;refine⟨_,rfl,rfl,?_,fun hok=> ?_⟩
   ·simp only[hsh];cases l[i].rules.all qm<;>cases l[i].names.all Ig<;>cases l[i].selectors.isEmpty<;>cases l[i].decls.isEmpty<;>cases l[i].names.isEmpty<;>cases Jk l[i].cond<;>rfl
   ·rw[hok]at hsh;have hsh:=hsh.symm;simp only[Da]at hsh;obtain⟨g1,g2⟩:=hnone hsh.1.1.1 hsh.1.1.2;have hsup:supC l[i].cond=true:=by have:=hsh.1.2.2;unfold Jk at this;rw[Da]at this;exact this.1
    refine⟨Mf l[i].cond,_,htold2 hsup,hdeep hsh.2.2,by rw[hde,g1,g2];omega⟩
  have b3:=Ea.2 k3;rw[b3]at hsh hde ⊢;simp only[Ba]at hsh hde ⊢;by_cases k4:l[i].kind=4
  ·simp only[k4,Int.reduceBEq,Ca,Ba]at hsh hde ⊢;refine⟨_,rfl,rfl,?_,fun hok=> ?_⟩
   ·simp only[hsh];cases l[i].rules.all qm<;>cases l[i].names.all Ig<;>cases l[i].selectors.isEmpty<;>cases l[i].decls.isEmpty<;>cases decide (l[i].names.length<=1)<;>cases Nh l[i].cond<;>rfl
   ·rw[hok]at hsh;have hsh:=hsh.symm;simp only[Da]at hsh;obtain⟨g1,g2⟩:=hnone hsh.1.1.1 hsh.1.1.2;exact⟨0,_,rfl,hdeep hsh.2.2,by rw[hde,g1,g2];omega⟩
  have b4:=Ea.2 k4;rw[b4]at hsh ⊢;simp only[Ba]at hsh ⊢;by_cases k5:l[i].kind=5
  ·simp only[k5,Int.reduceBEq,Ca,Ba]at hsh hde ⊢;refine⟨_,rfl,rfl,?_,fun hok=> ?_⟩
   ·simp only[hsh];have hn1:decide ((l[i].names.length:Int)<1)=l[i].names.isEmpty:=wy _;cases l[i].rules.all qm<;>cases l[i].names.all Ig<;>cases l[i].selectors.isEmpty<;>cases l[i].decls.isEmpty<;>cases l[i].names.isEmpty<;>cases decide (l[i].names.length<=64)<;>cases l[i].rules.isEmpty<;>cases Nh l[i].cond<;>rfl
   ·exact⟨0,0,rfl,rfl,by rw[hde];rfl⟩
  have b5:=Ea.2 k5;rw[b5]at hsh ⊢;simp only[Ba]at hsh ⊢;refine⟨_,rfl,rfl,by simp only[hsh];rfl,fun hok=> ?_⟩;rw[hok]at hsh;cases hsh
 ·rw[Vd]at hI;exact⟨a,by simp only[zW,Ba],a,rfl,hI⟩
theorem zvj{l:List zN}(h:zL zy l<=big):KE l=some (bif Rh l then 0 else 8):=by
 obtain⟨y,h1,h2,h3,h4⟩:=zvl h;have e64:decide ((Jf l:Int)>64)= !decide (Jf l<=64):=Tg _ 64;have e16:decide ((mx Pf l:Int)>16)= !decide (mx Pf l<=16):=Tg _ 16;unfold KE Rh;simp only[h1,za,Aa,h2,h3,e64];cases hs:l.all qm with
 |false=>cases decide (Jf l<=64)<;>rfl
 |true=> rw[h4 hs,e16];cases decide (Jf l<=64)<;>cases decide (mx Pf l<=16)<;>rfl
end Go.Lv.VT

namespace Go.Lv
def Has{α:Type}(x:Option α)(Q:α->Prop):Prop:= ∃y,x=some y/\Q y
def LXq{X R:Type}(P:X->Prop)(Q:R->Prop):LX X R->Prop
 | .out x=>P x
 | .ret r=>Q r
def LOq{S X R:Type}(I:S->Prop)(P:X->Prop)(Q:R->Prop):LO S X R->Prop
 | .again s=>I s
 | .out x=>P x
 | .ret r=>Q r
section
variable {α β S X R:Type}
theorem Has.some{y:α}{Q:α->Prop}(h:Q y):Has (Option.some y) Q:=⟨y,rfl,h⟩
theorem Has.of{x:Option α}{y:α}{Q:α->Prop}(e:x=Option.some y)(h:Q y):Has x Q:=⟨y,e,h⟩
theorem Has.wk{x:Option α}{Q Q':α->Prop}(h:Has x Q)(g: ∀y,Q y->Q' y):Has x Q':=let⟨y,e,q⟩:=h;⟨y,e,g y q⟩
theorem Has.bind{x:Option α}{P:α->Prop}{f:α->Option β}{Q:β->Prop}(h:Has x P)(g: ∀y,P y->Has (f y) Q):Has (za x f) Q:=by obtain⟨y,rfl,p⟩:=h;exact g y p
theorem Has.eqb{x:Option α}{y:α}{f:α->Option β}{Q:β->Prop}(e:x=Option.some y)(g:Has (f y) Q):Has (za x f) Q:=by rw[e];exact g
theorem Has.bif{c:Bool}{a b:Option α}{Q:α->Prop}(h:c=true->Has a Q)(g:c=false->Has b Q):Has (bif c then a else b) Q:=by
 cases c
 ·exact g rfl
 ·exact h rfl
theorem Has.need{c:Bool}{a:Option α}{Q:α->Prop}(h:c=true)(g:Has a Q):Has (Lv.need c a) Q:=by rw[h];exact g
theorem Has.cond{c:Bool}{a:Option α}{d:α}{Q:α->Prop}(h:c=true->Has a Q)(g:c=false->Q d):Has (zF c a d) Q:=by
 cases c
 ·exact⟨d,rfl,g rfl⟩
 ·exact h rfl
theorem Has.join{m:Option (LX X R)}{k:X->Option R}{P:X->Prop}{Q:R->Prop}(h:Has m (LXq P Q))(g: ∀x,P x->Has (k x) Q):Has (Zi m k) Q:=by
 obtain⟨y,rfl,p⟩:=h;cases y with
 |out x=>exact g x p
 |ret r=>exact⟨r,rfl,p⟩
theorem Has.loop {step:S->Option (LO S X R)} {s:S} {k:X->Option R} (I:S->Prop) (μ:S->Nat) {P:X->Prop} {Q:R->Prop} (h0:I s)
  (h: ∀s,I s->Has (step s) (LOq (fun s'=>I s'/\μ s'<μ s) P Q)) (g: ∀x,P x->Has (k x) Q):Has (zU step s k) Q:=by
 have key: ∀(m:Nat) (s:S),μ s<m->I s-> ∃n r,qd step n s=Option.some r/\LXq P Q r:=by
  intro m
  induction m with
  |zero=>intro s h;omega
  |succ m ih=>
   intro s hm hs;obtain⟨y,e,q⟩:=h s hs;cases y with
   |again s'=> obtain⟨n,r,e',q'⟩:=ih s' (by have:=q.2;omega) q.1;exact⟨n+1,r,by simp only[qd,e];exact e',q'⟩
   |out x=>exact⟨1, .out x,by simp only[qd,e],q⟩
   |ret r=>exact⟨1, .ret r,by simp only[qd,e],q⟩
 obtain⟨n,r,e,q⟩:=key _ s (Fe _) h0;rw[qP (Ai e)];cases r with
 |out x=>exact g x q
 |ret r=>exact⟨r,rfl,q⟩
end
end Go.Lv

namespace Go.Lv.VT
set_option maxRecDepth 100000
def Vg(v:List zb)(n:Nat):zg:=match v[n]? with
 |some a=>a.token
 |none=>⟨0,[],0,[],false⟩
theorem ax{v:List zb}{n:Nat}(h:n<v.length):Vg v n=v[n].token:=by unfold Vg;rw[Ta h]
theorem Du{v:List zb}{n:Nat}(h:(Vg v n).kind≠0):n<v.length:=by
 unfold Vg at h;cases hn:v[n]? with
 |none=>rw[hn]at h;exact absurd rfl h
 |some a=>exact(Ja.1 hn).1
theorem Dn{v:List zb}{n:Nat}{k:Int}(h:((Vg v n).kind==k)=true)(hk:k≠0):n<v.length:=
 Du (by rw[Db]at h;rw[h];exact hk)
def zT(v:List zb)(n:Nat):Nat:=zL zD (v.take n)
theorem lh{α:Type}(f:α->List PV): ∀(a b:List α),zL f (a++b)=zL f a+zL f b
 |[],b=>by rw[og,Bc,jc]
 |v::a,b=>by rw[Sb,Z6,Z6,lh f a b];omega
theorem zM8{v:List zb}{n:Nat}(h:n<v.length):zT v (n+1)=zT v n+zq (zD v[n]):=by unfold zT;rw[Oc h,lh,Z6,og,Nc]
theorem FB{v:List zb}{n m:Nat}(h:n<=m):zT v n<=zT v m:=xA (List.take_sublist_take_left h)
theorem Wj(v:List zb)(n:Nat):zT v n<=zL zD v:=xA (List.take_sublist ..)
theorem ik{v:List zb}{n:Nat}(h:n<v.length):zT v n+6+(Vg v n).text.length+zL zD v[n].list<=zT v (n+1):=by have:=Fy v[n];rw[zM8 h,ax h];omega
theorem Oq(v:List zb)(n:Nat):(Vg v n).text.length<=zL zD v:=by
 by_cases h:n<v.length
 ·have:=ik h;have:=Wj v (n+1);omega
 ·unfold Vg;rw[Ng (by omega)];exact Va _
theorem zLen(v:List zb):v.length<=zL zD v:=ZF (fun x=>by have:=Fy x;omega) v
theorem Xv{n:Nat}(h:n<=2*big):w64 (n:Int)=(n:Int):=by rw[w64,ZT (by omega) (by unfold big at h;omega)]
theorem Cj{n:Nat}(h:n<2*big):w64 ((n:Int)+1)=((n+1:Nat):Int):=Xv (n:=n+1) h
theorem zO1{n:Nat}(h:n+1<2*big):w64 ((n:Int)+2)=((n+2:Nat):Int):=Xv (n:=n+2) h
theorem OW{v:List zb}{k:Int}{m:Nat}{n:Int}(e:w64 (n+k)=(m:Int)):Zk (k,⟨v,n⟩)=some (Vg v m):=by
 unfold Zk Vg;simp only[e];by_cases h:m<v.length
 ·rw[zO h,Ca,zM h,Ta h];rfl
 ·rw[Ia (by omega),Ba,Ng (by omega)]
theorem pkA0(v:List zb){n:Nat}(h:n<=2*big):Zk (0,⟨v,(n:Int)⟩)=some (Vg v n):=OW (by rw[Int.add_zero];exact Xv h)
theorem pkA1(v:List zb){n:Nat}(h:n<2*big):Zk (1,⟨v,(n:Int)⟩)=some (Vg v (n+1)):=OW (Cj h)
section
variable {v:List zb} (hv:v.length<=big)
include hv
theorem IQ{n:Nat}(hn:n<=v.length+2):Has (Zy ⟨v,(n:Int)⟩) fun y=> ∃m:Nat,y.2=⟨v,(m:Int)⟩/\n<=m/\(m=n\/m<=v.length):=by have hb:big=4194304:=rfl;unfold Zy;refine Has.loop (fun s=> ∃m:Nat,s=⟨v,(m:Int)⟩/\n<=m/\(m=n\/m<=v.length)) (fun s=>v.length+3 - s.at_.toNat) (P:=fun s=> ∃m:Nat,s=⟨v,(m:Int)⟩/\n<=m/\(m=n\/m<=v.length)) ⟨n,rfl,Xa _, .inl rfl⟩ (fun s ⟨m,e,h1,h2⟩=> ?_) fun x hx=>Has.some hx;subst e;refine Has.bind (Has.of (pkA0 v (by omega)) rfl) fun y hy=> ?_;subst hy;refine Has.bif (fun h=> ?_) fun h=>Has.some ⟨m,rfl,h1,h2⟩;have hl:=Dn h (by decide);refine Has.some ⟨⟨m+1,by rw[Cj (by omega)],by omega, .inr hl⟩,?_⟩;show v.length+3 - (w64 ((m:Int)+1)).toNat<v.length+3 - ((m:Int)).toNat;rw[Cj (by omega)];omega
theorem xX(s:Str){n:Nat}(hn:n<=v.length+2):Has (qa (s,⟨v,(n:Int)⟩)) fun y=>(y.1=false/\y.2=⟨v,(n:Int)⟩)\/(y.1=true/\y.2=⟨v,((n+1:Nat):Int)⟩/\n<v.length):=by have hb:big=4194304:=rfl;unfold qa;refine Has.bind (Has.of (pkA0 v (by omega)) rfl) fun y hy=> ?_;subst hy;refine Has.bif (fun h=>Has.some (.inl ⟨rfl,rfl⟩)) fun h=>Has.some (.inr ⟨rfl,by rw[Cj (by omega)],?_⟩);refine Du fun e=> ?_;simp only[e]at h;cases h
theorem zI8{n:Nat}(hn:n<=v.length+2):Has (Qm ⟨v,(n:Int)⟩) fun y=>0<=y.1/\y.1<=4/\ ∃m:Nat,y.2=⟨v,(m:Int)⟩/\n<=m/\(m=n\/m<=v.length):=by
 unfold Qm;refine Has.loop (fun s=> ∃i:Nat,i<=3/\s=((i:Int),⟨v,(n:Int)⟩)) (fun s=>3 - s.1.toNat) (P:=fun s=>s=⟨v,(n:Int)⟩) ⟨0,by decide,rfl⟩ (fun s ⟨i,hi,e⟩=> ?_) fun x hx=>Has.some ⟨Int.le_refl 0,by show(0:Int)<=4;decide,n,hx,Xa _, .inl rfl⟩;subst e;refine Has.bif (fun h=> ?_) fun h=>Has.some rfl;have hi3:i<3:=by have:=Ib h;omega
 have e1:w64 ((i:Int)+1)=((i+1:Nat):Int):=Cj (by unfold big;omega);refine Has.need (by rw[e1,Da,Da,ja,ja,ja];omega) ?_;refine Has.bind (xX hv _ hn) fun y hy=> ?_;obtain⟨b,r⟩:=y;rcases hy with⟨rfl,h2⟩|⟨rfl,h2,h3⟩<;>(have h2:r=_:=h2;subst h2)
 ·refine Has.bif (fun h=>nomatch h) fun _=>Has.some ⟨⟨i+1,hi3,by rw[e1]⟩,?_⟩;show 3 - (w64 ((i:Int)+1)).toNat<3 - (i:Int).toNat;rw[e1];omega
 ·refine Has.bif (fun _=> ?_) fun h=>nomatch h;refine Has.bind (IQ hv (n:=n+1) (by omega)) fun z ⟨m,h4,h5,h6⟩=>Has.some ?_;have hw:0<=wu8 (2+wu8 (i:Int))/\wu8 (2+wu8 (i:Int))<=4:=by
   have:i=0\/i=1\/i=2:=by omega
   rcases this with rfl|rfl|rfl<;>decide
  exact⟨hw.1,hw.2,m,h4,by omega, .inr (by omega)⟩
end
section
variable {v:List zb} {n:Nat} {β:Type} {Q:β->Prop} (hv:v.length<=big) (hn:n<=v.length+2)
include hv hn
theorem bSp{f:Bool×zw->Option β}(g: ∀(b:Bool) (m:Nat),n<=m->(m=n\/m<=v.length)->Has (f (b,⟨v,(m:Int)⟩)) Q):Has (za (Zy ⟨v,(n:Int)⟩) f) Q:=
 Has.bind (IQ hv hn) fun⟨b,r⟩ ⟨m,e,h1,h2⟩=>by have e:r=_:=e;subst e;exact g b m h1 h2
theorem bPk0{f:zg->Option β}(g:Has (f (Vg v n)) Q):Has (za (Zk (0,⟨v,(n:Int)⟩)) f) Q:=
 Has.bind (Has.of (pkA0 v (by unfold big at *; omega)) rfl) fun y hy=>by subst hy;exact g
theorem bPk1{f:zg->Option β}(g:Has (f (Vg v (n+1))) Q):Has (za (Zk (1,⟨v,(n:Int)⟩)) f) Q:=
 Has.bind (Has.of (pkA1 v (by unfold big at *; omega)) rfl) fun y hy=>by subst hy;exact g
theorem bBy{s:Str}{f:Bool×zw->Option β}(g0:Has (f (false,⟨v,(n:Int)⟩)) Q)(g1:n<v.length->Has (f (true,⟨v,((n+1:Nat):Int)⟩)) Q):Has (za (qa (s,⟨v,(n:Int)⟩)) f) Q:=
 Has.bind (xX hv s hn) fun⟨b,r⟩ h=>by
  rcases h with⟨e1,e2⟩|⟨e1,e2,h3⟩<;>(have e1:b=_:=e1;have e2:r=_:=e2;subst e1;subst e2)
  ·exact g0
  ·exact g1 h3
theorem bCo{f:Int×zw->Option β}(g: ∀(c:Int) (m:Nat),0<=c->c<=4->n<=m->(m=n\/m<=v.length)->Has (f (c,⟨v,(m:Int)⟩)) Q):Has (za (Qm ⟨v,(n:Int)⟩) f) Q:=
 Has.bind (zI8 hv hn) fun⟨c,r⟩ ⟨h1,h2,m,e,h3,h4⟩=>by have e:r=_:=e;subst e;exact g c m h1 h2 h3 h4
theorem at1:w64 ((n:Int)+1)=((n+1:Nat):Int):=Cj (by unfold big at *; omega)
theorem at2:w64 ((n:Int)+2)=((n+2:Nat):Int):=zO1 (by unfold big at *; omega)
end
theorem bLow{l:Str}{β:Type}{Q:β->Prop}{f:Str->Option β}(h:l.length<=big)(g:Has (f (lowS l)) Q):Has (za (ZP l) f) Q:=by rw[pq h];exact g
theorem Yp(s:Str):(lowS s).length=s.length:=by unfold lowS;simp
theorem bB(v:List zb)(n:Int):Qn ⟨v,n⟩=some (n==(v.length:Int)):=rfl
theorem zKk(l:List zJ)(x:zJ):selI (l++[x])=max (selI l) (oneI x):=by
 induction l with
 |nil=>obtain⟨⟩:=x;rw[Bc,selI,selI,selI];exact Nat.max_comm ..
 |cons a l ih=>obtain⟨⟩:=a;rw[Sb,selI,selI,ih];omega
theorem zKn(l:List zQ)(x:zQ):selP (l++[x])=max (selP l) (selI x.simples):=by
 induction l with
 |nil=>obtain⟨⟩:=x;rw[Bc,selP,selP,selP];exact Nat.max_comm ..
 |cons a l ih=>obtain⟨⟩:=a;rw[Sb,selP,selP,ih];omega
theorem zKm(l:List zm)(x:zm):selL (l++[x])=max (selL l) (selP x.parts):=by
 induction l with
 |nil=>obtain⟨⟩:=x;rw[Bc,selL,selL,selL];exact Nat.max_comm ..
 |cons a l ih=>obtain⟨⟩:=a;rw[Sb,selL,selL,ih];omega
theorem oO(x:zJ):oneI x<=1+selL x.list:=by unfold oneI;cases innS x<;>simp only[Ca,Ba]<;>omega
theorem yw{v:zb}(h:Zn v.token.kind≠0):Jh v=1+Zc v.list:=by rw[rC,Oa h]
theorem sS(l:List Str)(x:Str)(h:l.length<=big):slices_Index_string (l,x)=some (idxS (fun v=>x==v) l):=by
 unfold slices_Index_string;refine Li l (fun v=>x==v) h (fun i hi=> ?_) ?_
 ·simp only[zO hi,Ca,zM hi,za,Aa]
 ·simp only[zW,Ba]
theorem zS(x:zJ):zq (zY x)=9+x.name.length+x.value.length+zL zf x.list:=Qq x
theorem zIS{v:List zb}(hz:zL zD v<=big):Has (BF v) fun y=>zq (zY y.1)<=9+2*zL zD v/\y.1.list=[]:=by
 have hv:v.length<=big:=Bb (zLen v) hz;have tl: ∀n,(Vg v n).text.length<=big:=fun n=>Bb (Oq v n) hz;have fin: ∀(k:Int) (n m:Nat) (o:Int) (f:Bool),zq (zY ⟨k,lowS (Vg v n).text,o,(Vg v m).text,f,⟨0,0⟩,false,[]⟩)<=9+2*zL zD v/\([]:List zm)=[]:=fun k n m o f=>by refine⟨?_,rfl⟩;rw[zS];have:=Oq v n;have:=Oq v m;have:=Yp (Vg v n).text;simp only[og];omega
 have fin0: ∀(k:Int) (n:Nat) (o:Int) (f:Bool),zq (zY ⟨k,lowS (Vg v n).text,o,[],f,⟨0,0⟩,false,[]⟩)<=9+2*zL zD v/\([]:List zm)=[]:=fun k n o f=>by refine⟨?_,rfl⟩;rw[zS];have:=Oq v n;have:=Yp (Vg v n).text;simp only[og,Eb];omega
 unfold BF;refine bSp (n:=0) hv (by omega) fun _ a _ ha=> ?_;refine bPk0 hv (by omega) ?_;refine bLow (tl a) ?_;refine bPk0 hv (by omega) ?_;refine Has.bif (fun _=>Has.some (fin0 ..)) fun hk=> ?_;have hla:a<v.length:=Du fun e=>by(try dsimp only at hk);rw[e]at hk;cases hk
 dsimp only;rw[at1 hv (n:=a) (by omega)];refine bSp hv (by omega) fun _ b _ hb=> ?_;refine Has.eqb (bB ..) ?_;refine Has.bif (fun _=>Has.some (fin0 ..)) fun _=> ?_;refine Has.join (P:=fun j=> ∃m:Nat,m<=v.length+1/\j.2.1=⟨v,(m:Int)⟩/\ ∃o:Int,j.2.2=(3,lowS (Vg v a).text,o,[],false,0,0,false)) ?_ fun j hj=> ?_
 ·refine bBy hv (by omega) ?_ fun hlt=> ?_
  ·refine Has.bif (fun h=>nomatch h) fun _=> ?_;refine bPk0 hv (by omega) ?_;refine Has.bind (P:=fun _=>True) ?_ fun i _=> ?_
   ·exact Has.need (Fa (by show(5:Nat)<_;decide)) (Has.some trivial)
   ·refine Has.bif (fun _=>Has.some (fin0 ..)) fun hk=> ?_;have hlb:b<v.length:=Du fun e=>by(try dsimp only at hk);rw[e]at hk;cases hk
    dsimp only;rw[at1 hv (n:=b) (by omega)];refine bBy hv (by omega) ?_ fun hlt=> ?_
    ·exact Has.bif (fun _=>Has.some (fin0 ..)) fun h=>nomatch h
    ·exact Has.bif (fun h=>nomatch h) fun _=>Has.some ⟨b+2,by omega,rfl,_,rfl⟩
  ·refine Has.bif (fun _=>Has.some ⟨b+1,by omega,rfl,_,rfl⟩) fun h=>nomatch h
 ·obtain⟨j1,j2,j3⟩:=j;obtain⟨m,hm,e1,o,e2⟩:=hj;have e1:j2=_:=e1;have e2:j3=_:=e2;subst e1 e2;dsimp only;refine bSp hv (by omega) fun _ c _ hc=> ?_;refine bPk0 hv (by omega) ?_;refine Has.bif (fun _=>Has.some (fin0 ..)) fun hk=> ?_;have hlc:c<v.length:=Du fun e=>by(try dsimp only at hk);rw[e]at hk;cases hk
  dsimp only;rw[at1 hv (n:=c) (by omega)];refine bSp hv (by omega) fun _ d _ hd=> ?_;refine bPk0 hv (by omega) ?_;refine Has.bif (fun hk=> ?_) fun _=> ?_
  ·have hld:d<v.length:=Dn hk (by decide);dsimp only;rw[at1 hv (n:=d) (by omega)];refine bSp hv (by omega) fun _ e _ he=> ?_;refine Has.eqb (Yo (tl d) (by decide)) ?_;refine Has.eqb (bB ..) ?_;refine Has.bind (P:=fun _=>True) (Has.cond (fun _=>Has.of (Yo (tl d) (by decide)) trivial) fun _=>trivial) fun _ _=> ?_;exact Has.some (fin ..)
  ·exact Has.eqb (bB ..)<|Has.some (fin ..)
theorem zKE{s:Str}(h:s.length<=big):Has (yE s) fun y=>zq (zY y.1)=9/\(y.2=true->oneI y.1=0):=by
 have fin: ∀(k:Int) (a:VAnb),zq (zY ⟨k,[],0,[],false,a,false,[]⟩)=9:=fun k a=>by rw[zS];rfl
 unfold yE;refine bLow h ?_;refine Has.bif (fun _=>Has.some ⟨fin ..,fun _=>rfl⟩) fun _=>Has.bif (fun _=>Has.some ⟨fin ..,fun _=>rfl⟩) fun _=> ?_;refine Has.eqb (show Tz ()=some _ from rfl) ?_;refine bLow h ?_;refine Has.bind (P:=fun _=>True) ?_ fun i _=>Has.some ⟨fin ..,fun hb=> ?_⟩
 rotate_left
 ·have h0:0<=i/\i<5:=by
   cases h1:decide (i>=0)with
   |false=>rw[h1]at hb;cases hb
   |true=>rw[h1]at hb;exact⟨Ib h1,Ib hb⟩
  have:i=0\/i=1\/i=2\/i=3\/i=4:=by omega
  rcases this with rfl|rfl|rfl|rfl|rfl<;>rfl
 exact Has.of (sS _ _ (by decide)) trivial
def okT(l:List zg):Prop:= ∀t∈l,t.text.length<=big/\t.unit.length<=big
theorem FJ{l:List zg}(h:okT l)(n:Nat):okT (l.drop n):=fun t ht=>h t (List.mem_of_mem_drop ht)
theorem EJ{l:List zg}{β:Type}{Q:β->Prop}{f:zg->Option β}(h:l≠[])(g: ∀t∈l,Has (f t) Q):Has (za (geti l 0) f) Q:=by
 cases l with
 |nil=>exact absurd rfl h
 |cons a r=>exact Has.eqb (show geti (a::r) 0=some a from rfl) (g a (Ob ..))
theorem Jt{α:Type}{l:List α}(h:l≠[]):decide (1<=(l.length:Int))=true:=by have:=List.length_pos_iff.2 h;exact Fa (by omega)
theorem iD{l:List zg}(h:okT l):Has (Qg ⟨l⟩) fun y=>okT y.l:=by
 unfold Qg;refine Has.loop (fun s=>okT s.l) (fun s=>s.l.length) (P:=fun s=>okT s.l) h (fun⟨l⟩ hs=> ?_) fun x hx=>Has.some hx;cases l with
 |nil=>exact Has.of (y:=LO.out (⟨[]⟩:Za)) rfl hs
 |cons a r=> refine Has.eqb (y:=a) (by rw[nk];rfl) ?_;refine Has.bif (fun _=> ?_) fun _=>Has.some hs;refine Has.need (Jt (by simp)) (Has.some ⟨FJ hs 1,?_⟩);show(List.drop 1 (a::r)).length<(a::r).length;simp
theorem fI{l:List zg}(h:okT l)(k:Int):Has (Vv (k,⟨l⟩)) fun y=>okT y.2.l/\y.1.1.text.length<=big/\y.1.1.unit.length<=big:=by
 unfold Vv;cases l with
 |nil=>exact Has.of (y:=((⟨0,[],0,[],false⟩,false),(⟨[]⟩:Za))) rfl ⟨h,by decide,by decide⟩
 |cons a r=> refine Has.eqb (y:=a) (by rw[ZI];rfl) ?_;refine Has.bif (fun _=>Has.some ⟨h,Va _,Va _⟩) fun _=> ?_;refine EJ (by simp) fun t ht=> ?_;exact Has.need (Jt (by simp)) (Has.some ⟨FJ h 1,h t ht⟩)
theorem PP{l:List zg}(h:okT l):Has (gz ⟨l⟩) fun y=>okT y.2.l:=by unfold gz;exact Has.bind (fI h 10) fun y hy=>Has.some hy.1
theorem bX{l:List zg}(h:okT l):Has (rz ⟨l⟩) fun y=>okT y.2.l:=by
 unfold rz;cases l with
 |nil=>exact Has.of (y:=(0,(⟨[]⟩:Za))) rfl h
 |cons a r=> refine Has.eqb (y:=a) (by rw[ZI];rfl) ?_;refine Has.bif (fun _=>Has.some h) fun _=> ?_;refine EJ (by simp) fun t ht=> ?_;refine Has.bind (P:=fun _=>True) (Has.need (Fa (by show(3:Nat)<_;decide)) (Has.some trivial)) fun _ _=> ?_;refine EJ (by simp) fun u hu=> ?_;refine Has.bind (P:=fun _=>True) (Has.cond (fun _=>Has.of (show geti (a::r) 0=some a from rfl) trivial) fun _=>trivial) fun _ _=> ?_;exact Has.bif (fun _=>Has.need (Jt (by simp)) (Has.some (FJ h 1))) fun _=>Has.some h
theorem O8(s p:Str):stringslite_HasPrefix (s,p)=some (p.isPrefixOf s):=by
 have h:=Bp s p;unfold strings_HasPrefix at h;dsimp only at h;cases hx:stringslite_HasPrefix (s,p)with
 |none=>rw[hx]at h;cases h
 |some y=>rw[hx]at h;exact h
theorem wC(s p:Str):Has (strings_CutPrefix (s,p)) fun y=>y.1.length<=s.length/\(y.2=true->s=p++y.1):=by
 unfold strings_CutPrefix stringslite_CutPrefix;refine Has.bind (P:=fun y=>y.1.length<=s.length/\(y.2=true->s=p++y.1)) ?_ fun y hy=>Has.some hy;refine Has.eqb (O8 s p) ?_;refine Has.bif (fun _=>Has.some ⟨Xa _,fun h=>nomatch h⟩) fun h=> ?_;have hp:p<+:s:=by rw[Bool.not_eq_false']at h;exact Uh.1 h
 have hl:=hp.length_le;refine Has.need (by rw[Da,ja,ja];dsimp only;omega) (Has.some ⟨by dsimp only;rw[jb];omega,fun _=> ?_⟩);obtain⟨t,rfl⟩:=hp;dsimp only;rw[List.drop_left]
theorem VN{p:UInt8->Bool}: ∀{l:Str},l.dropWhile p=[]-> ∀b∈l,p b=true
 |[],_,b,hb=>by cases hb
 |a::r,h,b,hb=>by
  rw[Ic]at h;cases ha:p a with
  |false=>rw[ha]at h;cases h
  |true=>
   rw[ha,Sa rfl]at h;rcases Jb.1 hb with rfl|hb
   ·exact ha
   ·exact VN h b hb
theorem dw_head{p:UInt8->Bool}: ∀{l:Str} {a:UInt8} {r:Str},l.dropWhile p=a::r->p a=false
 |[],_,_,h=>by cases h
 |c::l,a,r,h=>by
  rw[Ic]at h;cases hc:p c with
  |true=>rw[hc,Sa rfl]at h;exact dw_head h
  |false=> rw[hc,Oa (by decide)]at h;injection h with h1 _;rw[<-h1];exact hc
theorem zKy{p:UInt8->Bool}{l:Str}(h:((l.reverse.dropWhile p).reverse).dropWhile p=[]): ∀b∈l,p b=true:=by
 have h1:=VN h;cases hD:l.reverse.dropWhile p with
 |nil=>exact fun b hb=>VN hD b (List.mem_reverse.2 hb)
 |cons a r=> have h2:=h1 a (by rw[hD];simp);rw[dw_head hD]at h2;cases h2
theorem EQ: ∀(l:Str) (M acc:Nat),(∀b∈l,48<=b.toNat/\b.toNat<=57)->WU (Lib.parseUintM M acc l)=false
 |[],M,acc,_=>by unfold Lib.parseUintM;rfl
 |c::r,M,acc,h=>by
  unfold Lib.parseUintM;rw[Sa (h c (Ob ..))];split
  ·rfl
  ·split
   ·rfl
   ·exact EQ r M _ fun b hb=>h b (Kb _ hb)
theorem zHG{d:Str}(hl:d.length<=big)(h0:d≠[])(h: ∀b∈d,48<=b.toNat/\b.toNat<=57):Has (jw (d,10,64)) fun _=>True:=by
 unfold jw;refine Has.need (by simp only[decide_true,aa];exact Fa (by unfold big at hl;omega)) ?_;have hs:WU (Lib.parseIntB 64 d)=false:=by
  cases d with
  |nil=>exact absurd rfl h0
  |cons c r=>
   have hc:=h c (Ob ..);have:=EQ (c::r) (2 ^ 64 - 1) 0 h;have e:Lib.parseUintB 64 (if c.toNat=43\/c.toNat=45 then r else c::r)=Lib.parseUintM (2 ^ 64 - 1) 0 (c::r):=by rw[Oa (by omega)];unfold Lib.parseUintB;rw[Oa (by simp)]
   unfold Lib.parseIntB;dsimp only;rw[e];split
   ·rename_i e;rw[e]at this;cases this
   ·rfl
   ·split
    ·rfl
    ·split
     ·rfl
     ·rfl
 dsimp only;cases hp:Lib.parseIntB 64 d with
 |ok v=>exact Has.some trivial
 |range=>exact Has.some trivial
 |_=>rw[hp]at hs;cases hs
theorem YP{s:Str}(hs:s.length<=big){l:List zg}(h:okT l):Has (AA (s,⟨l⟩)) fun y=>okT y.2.l:=by
 unfold AA;refine Has.join (P:=fun j=>okT j.2.l) ?_ fun j hj=> ?_
 ·refine Has.bif (fun _=>Has.some h) fun h45=>Has.bif (fun _=> ?_) fun _=> ?_
  ·refine Has.bind (wC s [45]) fun⟨d,is⟩ hd=> ?_;refine Has.bind (P:=fun z=>z=[]->is=true-> ∀b∈d,48<=b.toNat/\b.toNat<=57) (Has.cond (fun hc=> ?_) fun hc _ hi=> ?_) fun z hz=> ?_
   ·have hdl:=hd.1;refine Has.need (by
     rw[Da,Da];exact⟨⟨Fa (by dsimp only at *; unfold big at hs;omega),(show short [48,49,50,51,52,53,54,55,56,57]=true by decide)⟩,(show Kh [48,49,50,51,52,53,54,55,56,57]=true by decide)⟩) (Has.some fun hn _ b hb=> ?_)
    have:=zKy (p:=([48,49,50,51,52,53,54,55,56,57]:Str).contains) hn b hb;simp only[List.contains_eq_mem,ja,Jb,Pe,or_false]at this;rcases this with rfl|rfl|rfl|rfl|rfl|rfl|rfl|rfl|rfl|rfl<;>decide
   ·subst hi;cases hc
   ·refine Has.bif (fun _=>Has.some h) fun hf=> ?_;have hi:is=true:=by cases is<;>first|rfl|cases hf
    have hzn:z=[]:=by subst hi;replace hf:(!(z==[]))=false:=hf;rw[Bool.not_eq_false']at hf;exact Db.1 hf
    have hdl:=hd.1;have hd2:=hd.2 hi;dsimp only at hdl hd2;refine Has.bind (zHG (d:=d) (by omega) (fun e=> ?_) (hz hzn hi)) fun y _=> ?_
    ·rw[hd2,e]at h45;cases h45
    ·exact Has.join (P:=fun _=>True) (Has.bif (fun _=>Has.some trivial) fun _=>Has.some trivial) fun _ _=>Has.some h
  ·refine Has.bind (iD h) fun⟨l'⟩ hl'=> ?_;exact Has.bif (fun _=>Has.some hl') fun _=>Has.bind (bX hl') fun y hy=>Has.some hy
 ·obtain⟨j1,⟨j2⟩⟩:=j;refine Has.bind (iD hj) fun⟨l'⟩ hl'=> ?_;exact Has.bind (PP hl') fun y hy=>Has.bif (fun _=>Has.some hy) fun _=>Has.some hy
theorem zHU{l:List zg}(h:okT l):Has (kG ⟨l⟩) fun y=>okT y.2.l:=by
 unfold kG;refine Has.bind (PP h) fun⟨⟨n,is⟩,⟨l1⟩⟩ h1=> ?_;refine Has.bif (fun _=>Has.some h1) fun _=> ?_;refine Has.bind (fI h1 12) fun⟨⟨t,is2⟩,⟨l2⟩⟩ ⟨h2,ht⟩=> ?_;refine Has.bif (fun _=> ?_) fun _=> ?_
 ·refine bLow ht.2 ?_;refine Has.bind (wC _ _) fun⟨d,i3⟩ hd=> ?_;refine Has.bif (fun _=>Has.some h2) fun _=> ?_;exact Has.bind (YP (by have:=hd.1;rw[Yp]at this;dsimp only at *; omega) h2) fun y hy=>Has.some hy
 ·refine Has.bind (bX h2) fun⟨sg,⟨l3⟩⟩ h3=> ?_;refine Has.bind (fI h3 1) fun⟨⟨t4,is4⟩,⟨l4⟩⟩ ⟨h4,ht4⟩=> ?_;refine Has.bif (fun _=>Has.some h4) fun _=> ?_;refine bLow ht4.1 ?_;have hll:=Yp t4.text;refine Has.join (P:=fun j=>okT j.2.1.l/\j.1.1.length<=big) ?_ fun⟨⟨j1,j2⟩,⟨j3⟩,j4⟩ ⟨hj,hjl⟩=> ?_
  ·refine Has.bif (fun _=> ?_) fun _=>Has.some ⟨h4,by dsimp only at *; omega⟩;refine Has.bif (fun _=>Has.some h4) fun _=>Has.bif (fun _=>Has.some h4) fun _=> ?_;refine Has.bind (wC _ _) fun⟨d,i5⟩ hd=> ?_;exact Has.bif (fun _=>Has.some ⟨h4,by have:=hd.1;dsimp only at *; omega⟩) fun _=>Has.some ⟨h4,by dsimp only at *; omega⟩
  ·refine Has.bind (wC _ _) fun⟨d,i5⟩ hd=> ?_;refine Has.bif (fun _=>Has.some hj) fun _=> ?_;exact Has.bind (YP (by have:=hd.1;dsimp only at *; omega) hj) fun y hy=>Has.some hy
theorem zLi{l:List zg}(h:okT l):Has (OI l) fun _=>True:=by unfold OI;refine Has.bind (iD h) fun⟨l1⟩ h1=> ?_;refine Has.bind (zHU h1) fun⟨⟨a,f⟩,⟨l2⟩⟩ h2=> ?_;refine Has.bind (iD h2) fun⟨l3⟩ h3=> ?_;refine Has.bind (P:=fun _=>True) (Has.cond (fun _=>Has.of (pQ _) trivial) fun _=>trivial) fun _ _=> ?_;exact Has.bif (fun _=>Has.some trivial) fun _=>Has.some trivial
mutual
theorem zMY: ∀(v:zb) (t:zg),t∈tokV v->t.text.length<=zq (zD v)/\t.unit.length<=zq (zD v)
 |⟨a,l⟩,t,h=>by
  have hz:=Fy ⟨a,l⟩;dsimp only at hz;rw[tokV]at h;rcases Jb.1 h with rfl|h
  ·omega
  ·split at h
   ·cases h
   ·rcases Rc.1 h with h|h
    ·have:=sO l t h;omega
    ·obtain rfl:=Tc.1 h;exact⟨Va _,Va _⟩
theorem sO: ∀(l:List zb) (t:zg),t∈tokL l->t.text.length<=zL zD l/\t.unit.length<=zL zD l
 |[],t,h=>by rw[tokL]at h;cases h
 |v::l,t,h=>by
  rw[tokL]at h;rw[Z6];rcases Rc.1 h with h|h
  ·have:=zMY v t h;omega
  ·have:=sO l t h;omega
end
theorem zMX{l:List zb}(h:zL zD l<=big):okT (tokL l):=fun t ht=>by have:=sO l t ht;omega
def aj(p:zh):Prop:= ∃(d:Nat) (h:Bool),d<=3/\p=⟨(d:Int),h⟩
theorem BZ{p:zh}(hp:aj p)(k:Int):Has (QM (p,k)) fun y=>aj y.1:=by
 obtain⟨d,h,hd,rfl⟩:=hp;refine Has.of (aQ hd h k) ?_;cases hc:(d==3||h&&k==14)with
 |true=>exact⟨0,false,by decide,rfl⟩
 |false=> refine⟨d+1,_,?_,rfl⟩;rw[Uf]at hc;have:=Ea.1 hc.1;omega
theorem CU(v:List zb)(n:Nat):zL zD (v.drop n)<=zL zD v:=xA (Pi ..)
theorem zO2(v:List zb)(n:Nat):zL zD (v.take n)<=zL zD v:=xA (List.take_sublist ..)
theorem NV(v:List zb)(h:zL zD v<=big):szL v<=big:=Bb (Lh v) h
theorem zEP{v:List zb}(hz:zL zD v<=big):Has (QG v) fun i=> -1<=i/\i<v.length:=by
 have hv:v.length<=big:=Bb (zLen v) hz;unfold QG;refine Has.of (Li v (fun y=>y.token.kind==1&&(lowS y.token.text==lowS [111,102])) hv (fun i hi=> ?_) ?_) (RO _ _)
 ·have ht:v[i].token.text.length<=big:=by have:=Oq v i;rw[ax hi]at this;omega
  simp only[zO hi,Ca,zM hi,za,Aa,xK,Yo ht (show([111,102]:Str).length<=big by decide),zX];cases v[i].token.kind==1<;>rfl
 ·simp only[zW,Ba]
section
variable {S:List zb×zh×Bool×Bool->Option (List zm×Bool)} {N:Nat}
variable (hS: ∀(l:List zb) (p:zh) (a b:Bool),aj p->zL zD l<N->Has (S (l,p,a,b)) fun y=>zL zf y.1<=3*zL zD l/\selL y.1<=Zc l) (hN:N<=big)
include hS hN
theorem zMq{v:List zb}(hz:zL zD v<N){p:zh}(hp:aj p)(k:Int):Has (Cr S (⟨k,[],0,[],false,⟨0,0⟩,false,[]⟩,v,p)) fun y=>zq (zY y.1)<=9+3*zL zD v/\oneI y.1<=1+Zc v:=by
 have fin: ∀(a:VAnb) (o:Bool) (l:List zm),(zL zf l<=3*zL zD v/\selL l<=Zc v)->zq (zY ⟨k,[],0,[],false,a,o,l⟩)<=9+3*zL zD v/\oneI ⟨k,[],0,[],false,a,o,l⟩<=1+Zc v:=fun a o l ⟨hl,hd⟩=>by refine⟨?_,Bb (oO _) (Nat.add_le_add_left hd 1)⟩;rw[zS];simp only[Eb];omega
 have z0:zL zf []<=3*zL zD v/\selL []<=Zc v:=⟨Va _,by rw[selL];exact Va _⟩;unfold Cr;refine Has.bind (zEP (v:=v) (by omega)) fun i hi=> ?_;refine Has.join (P:=fun j=>(∃m:Nat,j.1=v.take m)/\ ∃(o:Bool) (l:List zm),j.2.1=⟨k,[],0,[],false,⟨0,0⟩,o,l⟩/\(zL zf l<=3*zL zD v/\selL l<=Zc v)) ?_ fun j hj=> ?_
 ·refine Has.bif (fun h=> ?_) fun _=>Has.some ⟨⟨v.length,(Vd ..).symm⟩,false,[],rfl,z0⟩;have h0:0<=i:=Ib h;obtain⟨n,rfl⟩: ∃n:Nat,i=(n:Int):=⟨i.toNat,by omega⟩;have hl:=zLen v;have e1:w64 ((n:Int)+1)=((n+1:Nat):Int):=Cj (by unfold big at *; omega);refine Has.bind (BZ hp _) fun q hq=> ?_;refine Has.need (by dsimp only;rw[e1,Da,ja,ja];omega) ?_;refine Has.bind (hS _ _ _ _ hq (Nat.lt_of_le_of_lt (CU ..) hz)) fun y hy=> ?_;refine Has.bif (fun _=>Has.some (fin _ _ _ z0)) fun _=> ?_;refine Has.need (by rw[Da,ja,ja];dsimp only;omega) ?_;refine Has.some ⟨⟨n,rfl⟩,true,y.1,rfl,?_,Bb hy.2 (Q3 (Pi ..))⟩;have:=CU v (w64 ((n:Int)+1)).toNat;have hy:zL zf y.1<=3*zL zD (List.drop (w64 ((n:Int)+1)).toNat v):=hy.1;omega
 ·obtain⟨j1,j2,j3⟩:=j;obtain⟨⟨m,e1⟩,o,l,e2,hl⟩:=hj;have e1:j1=_:=e1;have e2:j2=_:=e2;subst e1 e2;dsimp only;have h1:=zO2 v m;refine Has.eqb (xQ (NV _ (by omega))) ?_;refine Has.bif (fun _=>Has.some (fin _ _ _ hl)) fun he=> ?_;refine Has.bind (zLi ?_) fun z _=>Has.some (fin _ _ _ hl);by_cases h0:errS (v.take m)=0
  ·rw[Sa h0];exact zMX (by omega)
  ·rw[Oa h0];exact fun t ht=>nomatch ht
theorem zJz{s:Str}(hs:s.length<=big){v:List zb}(hz:zL zD v<N){p:zh}(hp:aj p):Has (QL S (s,v,p)) fun y=>zq (zY y.1)<=9+3*zL zD v/\oneI y.1<=1+Zc v:=by
 have fin: ∀(k:Int) (l:List zm),(zL zf l<=3*zL zD v/\selL l<=Zc v)->zq (zY ⟨k,[],0,[],false,⟨0,0⟩,false,l⟩)<=9+3*zL zD v/\oneI ⟨k,[],0,[],false,⟨0,0⟩,false,l⟩<=1+Zc v:=fun k l ⟨hl,hd⟩=>by refine⟨?_,Bb (oO _) (Nat.add_le_add_left hd 1)⟩;rw[zS];simp only[Eb];omega
 have z0:zL zf []<=3*zL zD v/\selL []<=Zc v:=⟨Va _,by rw[selL];exact Va _⟩;unfold QL;refine Has.eqb (show Tz ()=some _ from rfl) ?_;refine bLow hs ?_;refine Has.bind (P:=fun _=>True) (Has.of (sS _ _ (by decide)) trivial) fun i _=> ?_;refine Has.bif (fun _=>Has.some (fin _ _ z0)) fun _=> ?_;refine Has.bif (fun _=> ?_) fun _=> ?_
 ·refine Has.bind (zMq hS hN hz hp _) fun y hy=>Has.some ?_;dsimp only;rw[Qi];exact hy
 ·refine Has.bind (BZ hp _) fun q hq=> ?_;refine Has.bif (fun _=>Has.some (fin _ _ z0)) fun _=> ?_;exact Has.bind (hS _ _ _ _ hq hz) fun y hy=>Has.some (fin _ _ hy)
theorem zCY{v:List zb}(hz:zL zD v<=N){p:zh}(hp:aj p){n:Nat}(hn:n<=v.length):
  Has (Z5 S (p,⟨v,(n:Int)⟩)) fun y=> ∃m:Nat,y.2=⟨v,(m:Int)⟩/\n<=m/\m<=v.length+2/\(y.1.2=true->m<=v.length/\zL zY y.1.1+6*y.1.1.length+3*zT v n<=3*zT v m/\selI y.1.1<=Zc v):=by
 have hv:v.length<=big:=by have:=zLen v;omega
 have tl: ∀n,(Vg v n).text.length<=big:=fun n=>by have:=Oq v n;omega
 unfold Z5;refine Has.loop (fun s=> ∃m:Nat,s.1=⟨v,(m:Int)⟩/\n<=m/\m<=v.length/\zL zY s.2+6*s.2.length+3*zT v n<=3*zT v m/\selI s.2<=Zc v) (fun s=>v.length - s.1.at_.toNat) (P:=fun _=>False)
  ⟨n,rfl,Xa _,hn,by show 0+6*0+_<=_;omega,by rw[selI];exact Va _⟩ (fun s ⟨m,e,h1,h2,h3,hsd⟩=> ?_) fun x hx=>hx.elim
 obtain⟨s1,l⟩:=s;have e:s1=_:=e;subst e;dsimp only at h3 hsd ⊢;refine bPk1 hv (by omega) ?_;refine Has.join (P:=fun j=> ∃m':Nat,j.2.1=⟨v,(m':Int)⟩/\m<m'/\m'<=v.length+2/\j.2.2.1=l/\(j.1=true->m'<=v.length/\zq (zY j.2.2.2)+6+3*zT v m<=3*zT v m'/\oneI j.2.2.2<=Zc v)) ?_ fun j hj=> ?_
 ·refine bPk0 hv (by omega) ?_;have zs: ∀(k:Int) (s:Str),zq (zY ⟨k,s,0,[],false,⟨0,0⟩,false,[]⟩)=9+s.length:=fun k s=>by rw[zS];simp only[og,Eb];omega
  refine Has.bif (fun hk=> ?_) fun _=>Has.bif (fun hk=> ?_) fun _=>Has.bif (fun hk=> ?_) fun _=>Has.bif (fun hk=> ?_) fun _=> ?_
  ·have hl:=Dn hk (by decide);have:=ik hl;refine Has.some ⟨m+1,by dsimp only;rw[at1 hv (n:=m) (by omega)],by omega,by omega,rfl,fun _=>⟨hl,?_,Va _⟩⟩;dsimp only;rw[zs];omega
  ·have hl:m<v.length:=Du fun e=>by rw[e]at hk;cases hk
   refine Has.some ⟨m+2,by dsimp only;rw[at2 hv (n:=m) (by omega)],by omega,by omega,rfl,fun hf=> ?_⟩;have hl2:=Dn hf (by decide);have:=ik hl;have:=ik hl2;have e2:zT v (m+1+1)=zT v (m+2):=rfl;refine⟨hl2,?_,Va _⟩;dsimp only;rw[zs];omega
  ·have hl:=Dn hk (by decide);have h4:=ik hl;have h5:=Wj v (m+1);refine Has.bind (P:=fun y=>y=v[m].list) ?_ fun y hy=> ?_
   ·unfold xz;dsimp only;rw[Int.add_zero,Xv (by unfold big at *; omega),zM hl];exact Has.some rfl
   ·subst hy;refine Has.bind (zIS (by omega)) fun y ⟨hy,hy2⟩=> ?_;refine Has.some ⟨m+1,by dsimp only;rw[at1 hv (n:=m) (by omega)],by omega,by omega,rfl,fun _=>⟨hl,?_,?_⟩⟩
    ·dsimp only;rw[Qi];omega
    ·dsimp only;rw[Qi];refine Bb (oO _) ?_;rw[hy2,selL];have:=dJ (Ha hl);rw[yw (by rw[<-ax hl,Db.1 hk];decide)]at this;omega
  ·have hl:=Dn hk (by decide);have h4:=ik hl;refine Has.join (P:=fun j=>j.2.1=⟨v,(m:Int)⟩/\(j.1=true->m+1<v.length/\zq (zY j.2.2)+6+3*zT v m<=3*zT v (m+2)/\oneI j.2.2<=Zc v)) ?_ fun j hj=> ?_
   ·refine Has.bif (fun hk2=> ?_) fun _=>Has.bif (fun hk2=> ?_) fun _=>Has.some ⟨rfl,fun h=>nomatch h⟩
    ·have hl2:=Dn hk2 (by decide);have h5:=ik hl2;refine Has.bind (zKE (tl _)) fun y ⟨hy,hy2⟩=>Has.some ⟨rfl,fun ht=>⟨hl2,?_,?_⟩⟩
     ·dsimp only;rw[Qi];show _+6+3*zT v m<=3*zT v (m+1+1);omega
     ·dsimp only;rw[Qi,hy2 ht];exact Va _
    ·have hl2:=Dn hk2 (by decide);have h5:=ik hl2;have h6:=Wj v (m+1+1);refine Has.bind (P:=fun y=>y=v[m+1].list) ?_ fun y hy=> ?_
     ·unfold xz;dsimp only;rw[at1 hv (n:=m) (by omega),zM hl2];exact Has.some rfl
     ·subst hy;refine Has.bind (zJz hS hN (tl _) (by omega) hp) fun y ⟨hy,hy2⟩=>Has.some ⟨rfl,fun _=>⟨hl2,?_,?_⟩⟩
      ·dsimp only;rw[Qi];show _+6+3*zT v m<=3*zT v (m+1+1);omega
      ·dsimp only;rw[Qi];refine Bb hy2 ?_;have:=dJ (Ha hl2);rw[yw (by rw[<-ax hl2,Db.1 hk2];decide)]at this;exact this
   ·obtain⟨j1,j2,j3⟩:=j;obtain⟨e,h5⟩:=hj;have e:j2=_:=e;subst e;refine Has.some ⟨m+2,by dsimp only;rw[at2 hv (n:=m) (by omega)],by omega,by omega,rfl,fun hf=> ?_⟩;have h6:=h5 hf;refine⟨by omega,?_⟩;dsimp only at h6 ⊢;rw[Qi];exact h6.2
  ·exact Has.some ⟨m,rfl,h1,by omega,fun _=>⟨h2,h3,hsd⟩⟩
 ·obtain⟨j1,j2,j3,j4⟩:=j;obtain⟨m',e,h4,h5,e2,h6⟩:=hj;have e:j2=_:=e;have e2:j3=_:=e2;subst e e2;refine Has.bif (fun _=>Has.some ⟨m',rfl,by omega,h5,fun h=>nomatch h⟩) fun hf=> ?_;have hf:j1=true:=by cases j1<;>first|rfl|cases hf
  obtain⟨h7,h8,h10⟩:=h6 hf;have h9:=Wj v m';dsimp only at h3 h8 h10 hsd;refine Has.need (qy (by dsimp only;unfold big at *; omega)) ?_;refine Has.some ⟨⟨m',rfl,by omega,h7,?_,?_⟩,?_⟩
  ·dsimp only;rw[Qi,lh,Z6,og,Na,Ga,Eb];omega
  ·dsimp only;rw[Qi,zKk];exact Nat.max_le.2 ⟨hsd,h10⟩
  ·show v.length - (m':Int).toNat<v.length - (m:Int).toNat;omega
end
def plC(p:zh)(c:zQ):Bool:=Qz c p.deep.toNat p.has
theorem zI9{c:zQ}(hx:zq (zZ c)<=big){p:zh}(hp:aj p):Has (Tv zB (c,p)) fun b=>b=true->plC p c=true/\(c.tag≠[]\/c.simples≠[]):=by
 obtain⟨d,h,hd,rfl⟩:=hp;refine Has.of (IR (S:=zB) (N:=big) (fun z ⟨h1,d',h2,h3⟩ _=> ?_) (Xa _) hx hd h) fun hc=> ?_
 ·obtain⟨c',⟨dp,h'⟩,b⟩:=z;have h3:dp=(d':Int):=h3;subst h3;exact iP h1 h2
 ·refine⟨hc,?_⟩;rw[CL]at hc;unfold bA at hc;simp only[Da,Yc,Ri]at hc;rcases hc.1.2.1 with h1|h1
  ·exact .inl fun e=>by rw[e]at h1;cases h1
  ·exact .inr fun e=>by rw[e]at h1;cases h1
section
variable {S:List zb×zh×Bool×Bool->Option (List zm×Bool)} {N:Nat}
variable (hS: ∀(l:List zb) (p:zh) (a b:Bool),aj p->zL zD l<N->Has (S (l,p,a,b)) fun y=>zL zf y.1<=3*zL zD l/\selL y.1<=Zc l) (hN:4*N+8<=big)
include hS hN
theorem zB8{v:List zb}(hz:zL zD v<=N){p:zh}(hp:aj p)(r:Bool):
  Has (Ql S (v,p,r)) fun y=>y.2=true->zq (zf y.1)<=3*zL zD v/\selP y.1.parts<=Zc v/\Fj y.1 r=true/\y.1.parts.all (plC p)=true:=by
 have hv:v.length<=big:=by have:=zLen v;omega
 have tl: ∀n,(Vg v n).text.length<=big:=fun n=>by have:=Oq v n;omega
 unfold Ql;refine bSp (n:=0) hv (by omega) fun _ a _ ha=> ?_;refine Has.join (P:=fun j=>(∃m:Nat,m<=v.length/\j.2.1=⟨v,(m:Int)⟩)/\j.2.2<=4/\r=(j.2.2 != 0)) ?_ fun j hj=> ?_
 ·refine Has.bif (fun hr=> ?_) fun hr=>Has.some ⟨⟨a,by omega,rfl⟩,(by decide:(0:Int)<=4),hr⟩;refine bCo hv (by omega) fun c m _ hc _ hm=> ?_;exact Has.bif (fun _=>Has.some ⟨⟨m,by omega,rfl⟩,(by decide:(1:Int)<=4),hr⟩) fun h0=>Has.some ⟨⟨m,by omega,rfl⟩,hc,hr.trans (by dsimp only at h0 ⊢;rw[bne,h0];rfl)⟩
 refine Has.join (P:=fun j:Int×zw×Int=>(∃m:Nat,m<=v.length/\j.2.1=(⟨v,(m:Int)⟩:zw))/\j.2.2<=4/\r=(j.2.2 != 0)) (Has.some hj) fun j hj=> ?_;obtain⟨j1,j2,j3⟩:=j;obtain⟨⟨a0,ha0,e⟩,hle,hlr⟩:=hj;have e:j2=_:=e;subst e;dsimp only at hle hlr;refine Has.loop (fun s=> ∃m:Nat,m<=v.length/\s.2.1=⟨v,(m:Int)⟩/\zL zZ s.2.2.2.1+s.2.2.2.2.length<=3*zT v m/\s.2.2.1=j3/\s.2.2.2.2.length=s.2.2.2.1.length/\s.2.2.2.2.all Ii=true/\s.2.2.2.1.all (plC p)=true/\selP s.2.2.2.1<=Zc v) (fun s=>v.length - s.2.1.at_.toNat)
  (P:=fun s=>zL zZ s.2.2.2.1+s.2.2.2.2.length+3<=3*zL zD v/\s.2.2.1=j3/\s.2.2.2.2.length+1=s.2.2.2.1.length/\s.2.2.2.2.all Ii=true/\s.2.2.2.1.all (plC p)=true/\selP s.2.2.2.1<=Zc v) ⟨a0,ha0,rfl,Va _,rfl,rfl,rfl,rfl,by rw[selP];exact Va _⟩ (fun s ⟨m,h1,e,h2,hld,hcl,hca,hpa,hsd⟩=> ?_) fun x hx=> ?_
 ·obtain⟨s1,s2,s3,ps,cs⟩:=s;have e:s2=_:=e;have hld:s3=_:=hld;subst e hld;dsimp only at h2 hcl hca hpa hsd;refine Has.join (P:=fun j=> ∃m':Nat,j.2.1=⟨v,(m':Int)⟩/\j.2.2.2.1=ps/\j.2.2.2.2.1=cs/\j.2.2.1=s3/\m<=m'/\m'<=v.length/\((m'=m/\j.2.2.2.2.2=[])\/j.2.2.2.2.2.length+16+3*zT v m<=3*zT v m')) ?_ fun j hj=> ?_
  ·refine bPk0 hv (by omega) ?_;refine Has.bif (fun hk=> ?_) fun _=> ?_
   ·have hl:=Dn hk (by decide);have h3:=ik hl;have h4:=Yp (Vg v m).text;refine bLow (tl m) (Has.some ?_);dsimp only;rw[at1 hv (n:=m) (by omega)];have key:(lowS (Vg v m).text).length+16+3*zT v m<=3*zT v (m+1):=by omega
    exact⟨m+1,rfl,rfl,rfl,rfl,by omega,hl, .inr key⟩
   ·refine bBy hv (by omega) ?_ fun hl=> ?_
    ·exact Has.bif (fun h=>nomatch h) fun _=>Has.some ⟨m,rfl,rfl,rfl,rfl,Xa _,h1, .inl ⟨rfl,rfl⟩⟩
    ·have h3:=ik hl;exact Has.bif (fun _=>Has.some ⟨m+1,rfl,rfl,rfl,rfl,by omega,hl, .inr (by show 1+16+3*zT v m<=3*zT v (m+1);omega)⟩) fun h=>nomatch h
  obtain⟨j1,j2,j3,j4,j5,t⟩:=j;obtain⟨m1,e1,e2,e3,e4,h3,h4,h5⟩:=hj;have e1:j2=_:=e1;have e2:j4=ps:=e2;have e3:j5=cs:=e3;have e4:j3=s3:=e4;subst e1 e2 e3 e4;dsimp only at h2 h5 hcl hca hpa hsd hle hlr ⊢;refine Has.bind (zCY hS (by omega) hz hp h4) fun⟨⟨l,ok⟩,r2⟩ ⟨m2,e,h6,h7,h8⟩=> ?_;have e:r2=_:=e;subst e;dsimp only at h8 ⊢;have hc0:=qI ⟨t,l⟩;dsimp only at hc0;refine Has.bind (P:=fun b=>ok=true->b=true->plC p ⟨t,l⟩=true/\(t≠[]\/l≠[])) (Has.cond (fun ho=> ?_) fun _ ho=> ?_) fun b hb=> ?_
  ·have ho:ok=true:=by cases ok<;>first|rfl|cases ho
   obtain⟨h9,h10,_⟩:=h8 ho;have h11:=Wj v m2;refine(zI9 (c:=⟨t,l⟩) ?_ hp).wk fun b hb _=>hb;rw[hc0];rcases h5 with⟨e,e'⟩|h5
   ·rw[e',Eb];omega
   ·omega
  ·subst ho;cases ‹(!(!true))=false›
  refine Has.bif (fun _=>Has.some fun h=>nomatch h) fun hf=> ?_;have ho:ok=true:=by cases ok<;>first|rfl|cases hf
  subst ho;have hb2:b=true:=by cases b<;>first|rfl|cases hf
  obtain⟨h9,h10,hld⟩:=h8 rfl;obtain⟨hpc,hne⟩:=hb rfl hb2;have hpa2:(j4++[(⟨t,l⟩:zQ)]).all (plC p)=true:=by rw[Ue,hpa];simp only[Ad,hpc,List.all_nil,Rb]
  have hsd2:selP (j4++[(⟨t,l⟩:zQ)])<=Zc v:=by rw[zKn];exact Nat.max_le.2 ⟨hsd,hld⟩
  have h11:=Wj v m2;have h12:=Wj v m;have hps:=ZF Qx j4
  -- the compound's size
  have hc1:zq (zZ ⟨t,l⟩)+4+3*zT v m<=3*zT v m2:=by
   rw[hc0];rcases h5 with⟨e,e'⟩|h5
   ·subst e;rw[e',Eb];have:1<=l.length:=by
     rcases hne with h|h
     ·exact absurd e' h
     ·exact List.length_pos_iff.2 h
    omega
   ·omega
  have hm:m<m2:=by
   rcases Yd m m2 with h|h
   ·exact h
   ·have:=FB (v:=v) h;omega
  have hz2:zL zZ (j4++[⟨t,l⟩])=zL zZ j4+zq (zZ ⟨t,l⟩):=by rw[lh,Z6,og,Nc]
  refine Has.need (qy (by unfold big at *; omega)) ?_;refine bSp hv (by omega) fun sp m3 h13 h14=> ?_;have hm3:=FB (v:=v) h13;have hm3':=Wj v m3;refine Has.eqb (bB ..) ?_;refine Has.bif (fun _=>Has.some ?_) fun _=> ?_
  ·refine⟨?_,rfl,?_,hca,hpa2,hsd2⟩
   ·show zL zZ (j4++[⟨t,l⟩])+j5.length+3<=3*zL zD v;omega
   ·show j5.length+1=(j4++[(⟨t,l⟩:zQ)]).length;rw[Na,hcl];rfl
  refine bCo hv (by omega) fun c m4 hc2 hc3 h15 h16=> ?_;have hm4:=FB (v:=v) h15;have hm4':=Wj v m4;refine Has.join (P:=fun j=>1<=j.1/\j.1<=4/\j.2.2.2.1=j4++[⟨t,l⟩]/\j.2.2.2.2=j5/\j.2.2.1=j3) ?_ fun j hj=> ?_
  ·refine Has.bif (fun _=>Has.some fun h=>nomatch h) fun _=>Has.bif (fun _=>Has.some ⟨(by decide:(1:Int)<=1),(by decide:(1:Int)<=4),rfl,rfl,rfl⟩) fun h0=>Has.some ⟨?_,hc3,rfl,rfl,rfl⟩;have h0:(c==0)=false:=h0;have:=Ea.1 h0;show 1<=c;omega
  obtain⟨k1,k2,k3,k4,k5⟩:=j;obtain⟨g1,g2,g3,g4,g5⟩:=hj;dsimp only at g1 g2 g3 g4 g5;have g4:k5=j5:=g4;have g5:k3=j3:=g5;subst g3 g4 g5;refine Has.bind (P:=fun b=>Ii b=true) ?_ fun by_ hby=> ?_
  ·have:k1=1\/k1=2\/k1=3\/k1=4:=by omega
   rcases this with rfl|rfl|rfl|rfl<;>exact Has.some rfl
  refine Has.need (qy (by dsimp only;unfold big at *; omega)) ?_;refine Has.some ⟨⟨m4,by omega,rfl,?_,rfl,?_,?_,hpa2,hsd2⟩,?_⟩
  rotate_left
  ·show(k5++[by_]).length=(j4++[(⟨t,l⟩:zQ)]).length;rw[Na,Na,hcl];rfl
  ·show(k5++[by_]).all Ii=true;rw[Ue,hca];simp only[Ad,hby,List.all_nil,Rb]
  rotate_left
  ·show zL zZ (j4++[⟨t,l⟩])+(k5++[by_]).length<=3*zT v m4;rw[Na,Ga,Eb];omega
  ·show v.length - (m4:Int).toNat<v.length - (m:Int).toNat;omega
 ·obtain⟨x1,x2,x3,xp,xc⟩:=x;obtain⟨y1,y2,y3,y4,y5,y6⟩:=hx;dsimp only at y1 y2 y3 y4 y5 y6;subst y2;refine Has.some fun hl=>⟨?_,y6,?_,y5⟩
  ·rw[Qp];dsimp only;omega
  ·have hl:=Ib hl;dsimp only at hl;unfold Fj;dsimp only;rw[<-hlr,Kc,Fa hle,Fa y3,Fa (show xp.length<=64 by omega),y4];rfl
theorem zFc{v:List zb}(hz:zL zD v<=N){p:zh}(hp:aj p)(a b:Bool):
  Has (Q9 S (v,p,a,b)) fun y=>(zL zf y.1<=3*zL zD v/\selL y.1<=Zc v)/\(b=false->y.2=true->y.1≠[]/\y.1.all (fun c=>Fj c a&&c.parts.all (plC p))=true):=by
 have hl:=zLen v;have hb:big=4194304:=rfl;have e1:w64 ((v.length:Int)+1)=((v.length+1:Nat):Int):=Cj (by omega);have sub: ∀{f i:Nat},f<=i->zT v f+zL zD (List.drop f (List.take i v))=zT v i:=fun {f i} h=>by unfold zT;rw[<-lh,show List.take f v=List.take f (List.take i v) by rw[List.take_take,Nat.min_eq_left h],Lg]
 unfold Q9;refine Has.loop (fun s=> ∃f i:Nat,f<=i/\i<=v.length+1/\s.1=((f:Int),(i:Int))/\zL zf s.2<=3*zT v f/\selL s.2<=Zc v/\s.2.all (fun c=>Fj c a&&c.parts.all (plC p))=true/\(b=false->f=v.length+1->s.2≠[])/\(i=v.length+1->f=i)) (fun s=>v.length+1 - s.1.2.toNat) (P:=fun s=>(zL zf s<=3*zL zD v/\selL s<=Zc v)/\(b=false->s≠[]/\s.all (fun c=>Fj c a&&c.parts.all (plC p))=true))
  ⟨0,0,by omega,by omega,rfl,Va _,by rw[selL];exact Va _,rfl,fun _ h=>by omega,fun h=>by omega⟩ (fun s ⟨f,i,h1,h2,e,h3,hsd,hva,hne,hfi⟩=> ?_) fun x hx=>Has.some ⟨hx.1,fun hb _=>hx.2 hb⟩
 obtain⟨s1,out⟩:=s;have e:s1=_:=e;subst e;dsimp only at h3 hsd hva hne ⊢;have hzf:=Wj v f;refine Has.bif (fun hi=> ?_) fun hi=>Has.some ⟨⟨by show zL zf out<=_;omega,hsd⟩,fun hb=>⟨hne hb (by rw[e1]at hi;have:=De hi;have:=hfi (by omega);omega),hva⟩⟩;have hi:i<=v.length:=by rw[e1]at hi;have:=Ib hi;omega
 refine Has.join (P:=fun j=> ∃f':Nat,f'<=i+1/\j.1=((f':Int),(i:Int))/\zL zf j.2<=3*zT v f'/\selL j.2<=Zc v/\j.2.all (fun c=>Fj c a&&c.parts.all (plC p))=true/\(b=false->f'=v.length+1->j.2≠[])/\(i=v.length->f'=i+1)) ?_ fun j hj=> ?_
 ·refine Has.bind (P:=fun _=>True) (Has.cond (fun h=> ?_) fun _=>trivial) fun y _=> ?_
  ·have:i<v.length:=by have:=Ib h;omega
   rw[zM this];exact Has.some trivial
  refine Has.bif (fun hk=>Has.some ⟨f,by omega,rfl,h3,hsd,hva,fun hb h=>hne hb h,fun h=> ?_⟩) fun _=> ?_
  ·rw[Ia (show¬(i:Int)<(v.length:Int) by omega)]at hk;cases hk
  have hlen:=ZF qH out;refine Has.join (P:=fun l=>zL zf l<=3*zT v i/\selL l<=Zc v/\l.all (fun c=>Fj c a&&c.parts.all (plC p))=true/\(b=false->l≠[])) ?_ fun l ⟨hl2,hl3,hl4,hl5⟩=> ?_
  ·refine Has.need (by simp only[Da,ja];omega) ?_;rw[Cb,Cb];have h4:=sub h1;have h5:=Wj v i;refine Has.bind (zB8 hS hN (v:=List.drop f (List.take i v)) (by omega) hp a) fun y hy=> ?_;refine Has.bif (fun hk=> ?_) fun _=>Has.bif (fun _=>Has.some ⟨⟨Va _,by rw[selL];exact Va _⟩,fun _ h=>nomatch h⟩) fun hb=>Has.some ⟨by show zL zf out<=_;omega,hsd,hva,fun h=>by subst h;cases hb⟩;refine Has.need (qy (by omega)) (Has.some ?_);obtain⟨h6,h7,h8,h9⟩:=hy hk;rw[xy];show zL zf (out++[y.1])<=_/\selL (out++[y.1])<=_/\(out++[y.1]).all _=true/\(b=false->out++[y.1]≠[]);refine⟨?_,?_,?_,fun _=>by simp⟩
   ·rw[lh,Z6,og];omega
   ·rw[zKm];exact Nat.max_le.2 ⟨hsd,Bb h7 (Q3 ((Pi ..).trans (List.take_sublist ..)))⟩
   ·rw[Ue,hva];simp only[Ad,h8,h9,List.all_nil,Rb]
  ·refine Has.some ⟨i+1,Xa _,by dsimp only;rw[Cj (by omega)],?_,hl3,hl4,fun hb _=>hl5 hb,fun _=>rfl⟩;have h6:=FB (v:=v) (Nat.le_succ i);show zL zf l<=_;exact Bb hl2 (Nat.mul_le_mul_left 3 h6)
 ·obtain⟨j1,j2⟩:=j;obtain⟨f',h4,e,h5,h6,h7,h8,h9⟩:=hj;have e:j1=_:=e;subst e;have e2:w64 ((i:Int)+1)=((i+1:Nat):Int):=Cj (by omega);refine Has.some ⟨⟨f',i+1,by omega,by omega,by dsimp only;rw[e2],h5,h6,h7,h8,fun h=>h9 (by omega)⟩,?_⟩;show v.length+1 - (w64 ((i:Int)+1)).toNat<v.length+1 - (i:Int).toNat;rw[e2];omega
end
theorem zHJ{v:List zb}(hz:4*zL zD v+8<=big){p:zh}(hp:aj p)(a b:Bool):Has (zK (v,p,a,b)) fun y=>(zL zf y.1<=3*zL zD v/\selL y.1<=Zc v)/\(b=false->y.2=true->y.1≠[]/\y.1.all (fun c=>Fj c a&&c.parts.all (plC p))=true):=
 El znV (fun z=>zL zD z.1) (fun z=>4*zL zD z.1+8<=big/\aj z.2.1) (fun z y=>(zL zf y.1<=3*zL zD z.1/\selL y.1<=Zc z.1)/\(z.2.2.2=false->y.2=true->y.1≠[]/\y.1.all (fun c=>Fj c z.2.2.1&&c.parts.all (plC z.2.1))=true))
  (fun S ⟨v,p,a,b⟩ ⟨h1,h2⟩ hS=>zFc (N:=zL zD v) (fun l p a b hp hl=>Has.wk (hS (l,p,a,b) ⟨by dsimp only at *; omega,hp⟩ hl) fun y hy=>hy.1) h1 (Xa _) h2 a b) ⟨hz,hp⟩
theorem zIi{v:List zb}(hz:4*zL zD v+8<=big):Has (mD v) fun y=>zL zf y.1<=3*zL zD v/\selL y.1<=Zc v/\(y.2=0->selS y.1=0):=by
 have no: ∀e:Int,(e != 0)=true->zL zf []<=3*zL zD v/\selL []<=Zc v/\(e=0->selS []=0):=fun e h=>⟨Va _,by rw[selL];exact Va _,fun h0=>by rw[h0]at h;cases h⟩;unfold mD;refine Has.eqb (uq (NV _ (by omega))) ?_;refine Has.bif (fun h=>Has.some (no _ h)) fun _=> ?_;refine Has.bind (zHJ hz ⟨0,false,by decide,rfl⟩ _ _) fun y ⟨⟨hy,hd⟩,hv⟩=> ?_;refine Has.bif (fun _=>Has.some (no _ rfl)) fun hf=> ?_;refine Has.eqb (WT (by omega)) ?_;refine Has.bif (fun _=>Has.some (no _ rfl)) fun hn=>Has.some ⟨hy,hd,fun _=> ?_⟩;obtain⟨h1,h2⟩:=hv rfl (by cases h:y.2 with|true=>rfl|false=>rw[h]at hf;cases hf);have h3:(y.1.all fun c=>Ag c 0 false false)=true:=by rw[<-h2];refine List.all_congr rfl fun c=> ?_;rw[MJ];rfl
 unfold selS;have h4:y.1.isEmpty=false:=by cases h:y.1 with|nil=>exact absurd h h1|cons a l=>rfl
 dsimp only;rw[h3,h4,Fa (show numL y.1<=64 by have:=De hn;omega)];rfl
def Km(l:List zb):Int:=match l with
 |[]=>0
 |a::_=>a.token.kind
theorem Jo(l:List zb):ZY ⟨l⟩=some (Km l):=by
 unfold ZY Km;cases l with
 |nil=>rfl
 |cons a r=> have e0:(((a::r).length:Int)==0)=false:=Ea.2 (by simp only[Ga];omega);have e1:geti (a::r) 0=some a:=rfl;simp only[e0,e1,Ba,za,Aa]
theorem Io(a:zb)(r:List zb):ZZ ⟨a::r⟩=some (a,⟨r⟩):=by unfold ZZ;have e1:geti (a::r) 0=some a:=rfl;have e2:decide ((1:Int)<=((a::r).length:Int))=true:=Fa (by simp only[Ga];omega);simp only[e1,e2,Zz,za,Aa,Su,List.drop_succ_cons,List.drop_zero]
theorem zMg(a b:Nat):decide ((a:Int)<(b:Int))=decide (a<b):=by
 by_cases h:a<b
 ·rw[Fa h];exact Fa (by omega)
 ·rw[Ia h];exact Ia (by omega)
theorem QP(l:List zb):Zg ⟨l⟩=some (decide ((sp l).length<l.length),⟨sp l⟩):=by
 unfold Zg;refine(qP (r:= .out ⟨sp l⟩) (QA (fun s=>sp s.v=sp l) (fun s=>s.v.length) _ (fun s hs=> ?_) rfl)).trans ?_
 ·obtain⟨s⟩:=s;have hs:sp s=sp l:=hs;simp only[Jo,za,Aa];cases s with
  |nil=>exact .inr (.inl ⟨⟨[]⟩,rfl,by rw[<-hs];rfl⟩)
  |cons a r=>
   rw[lU]at hs;cases ha:isSp a with
   |true=> rw[ha,Sa rfl]at hs;unfold isSp at ha;refine .inl ⟨⟨r⟩,?_,hs,by simp⟩;simp only[Km,ha,Ca,Io,Aa]
   |false=> rw[ha,Oa (by simp)]at hs;unfold isSp at ha;exact .inr (.inl ⟨⟨a::r⟩,by simp only[Km,ha,Ba],by rw[<-hs]⟩)
 ·rw[znI,zMg]
def atS(l:Str)(n:Nat):UInt8:=l.getD n 0
def digB(b:UInt8):Bool:=decide (48<=b.toNat)&&decide (b.toNat<=57)
def spB(b:UInt8):Bool:=b==10||b==9||b==32
def alB(b:UInt8):Bool:=decide (65<=b.toNat)&&decide (b.toNat<=90)||decide (97<=b.toNat)&&decide (b.toNat<=122)
def fstB(b:UInt8):Bool:=alB b||b==95||decide (128<=b.toNat)
def letB(b:UInt8):Bool:=fstB b||digB b||b==45
def hexN(b:UInt8):Nat:=
 if digB b then b.toNat - 48 else if 97<=b.toNat/\b.toNat<=102 then b.toNat - 87 else if 65<=b.toNat/\b.toNat<=70 then b.toNat - 55 else 16
def Jg(b:UInt8):Bool:=decide (hexN b<16)
def escS(l:Str):Bool:=atS l 0==92&& !(atS l 1==10)
def nmS(l:Str):Bool:=if atS l 0==45 then fstB (atS l 1)||atS l 1==45||escS (l.drop 1)else fstB (atS l 0)||escS l
def Uk(b:UInt8):Bool:=b==43||b==45
def unsign(l:Str):Str:=if Uk (atS l 0)then l.drop 1 else l
def undot(l:Str):Str:=if atS l 0==46 then l.drop 1 else l
def nbS(l:Str):Bool:=digB (atS (undot (unsign l)) 0)
def Aw:Str:=[239,191,189]
def Xj(n:Nat):Str:=
 if n=0\/(55296<=n/\n<=57343)\/1114111<n then Aw
 else if n<128 then [UInt8.ofNat n]
 else if n<2048 then [UInt8.ofNat (192+n / 64),UInt8.ofNat (128+n%64)]
 else if n<65536 then [UInt8.ofNat (224+n / 4096),UInt8.ofNat (128+n / 64%64),UInt8.ofNat (128+n%64)]
 else [UInt8.ofNat (240+n / 262144),UInt8.ofNat (128+n / 4096%64),UInt8.ofNat (128+n / 64%64),UInt8.ofNat (128+n%64)]
def hexes:Nat->Nat->Str->Nat×Str
 |0,n,l=>(n,l)
 |_+1,n,[]=>(n,[])
 |k+1,n,c::r=>if Jg c then hexes k (16*n+hexN c) r else(n,c::r)
def unsp:Str->Str
 |[]=>[]
 |c::r=>if spB c then r else c::r
def Zh:Str->Str×Str
 |[]=>(Aw,[])
 |c::r=>if Jg c then(Xj (hexes 6 0 (c::r)).1,unsp (hexes 6 0 (c::r)).2)else([c],r)
theorem Tx: ∀(k n:Nat) (l:Str),(hexes k n l).2<:+l
 |0,n,l=>Xf l
 |k+1,n,[]=>Xf _
 |k+1,n,c::r=>by
  unfold hexes;split
  ·exact(Tx k _ r).trans (Oe c r)
  grind
theorem SX(l:Str):unsp l<:+l:=by
 cases l with
 |nil=>exact Xf _
 |cons c r=>
  show(if spB c then r else c::r)<:+c::r
  grind
theorem Qh(l:Str):(Zh l).2<:+l:=by
 cases l with
 |nil=>exact Xf _
 |cons c r=>
  show(if Jg c then(Xj (hexes 6 0 (c::r)).1,unsp (hexes 6 0 (c::r)).2)else([c],r)).2<:+c::r;split
  ·exact(SX _).trans (Tx 6 0 _)
  grind
theorem ZW(l:Str):(Zh l).2.length<=l.length:=(Qh l).length_le
def ZE:Str->Str×Str
 |[]=>([],[])
 |c::r=>
  if letB c then((c::(ZE r).1),(ZE r).2)
  else if escS (c::r)then((Zh r).1++(ZE (Zh r).2).1,(ZE (Zh r).2).2)
  else([],c::r)
termination_by l=>l.length
decreasing_by
 all_goals first|(have:=ZW r;simp only[Ga];omega)|(simp only[Ga];omega)
def past(p:UInt8->Bool):Str->Str
 |[]=>[]
 |c::r=>if p c then past p r else c::r
theorem fq(p:UInt8->Bool): ∀l:Str,past p l<:+l
 |[]=>Xf _
 |c::r=>by
  unfold past;split
  ·exact(fq p r).trans (Oe c r)
  grind
def Fh(l:Str):Str×Bool:=
 if atS l 0==46&&digB (atS l 1)then(past digB (l.drop 1),false)else(l,true)
def expS(l:Str):Option Str:=
 if atS l 0==101||atS l 0==69 then(if digB (atS (unsign (l.drop 1)) 0)then some (past digB (unsign (l.drop 1)))else none)else none
def qM(l:Str):Str×Bool:=
 let x:=Fh (past digB (unsign l))
 match expS x.1 with
 |some r=>(r,false)
 |none=>x
def decN(n:Nat)(b:UInt8):Nat:=10*n+(b.toNat - 48)
def upto(l r:Str):Str:=l.take (l.length - r.length)
def Z0(m:UInt8):Str->Option Str×Str
 |[]=>(some [],[])
 |c::r=>
  if c==m then(some [],r)
  else if c==10 then(none,c::r)
  else if c==92 then
   (if r.isEmpty then(some [],[])
   else if atS r 0==10 then Z0 m (r.drop 1)
   else((Z0 m (Zh r).2).1.map ((Zh r).1++ ·),(Z0 m (Zh r).2).2))
  else((Z0 m r).1.map (c:: ·),(Z0 m r).2)
termination_by l=>l.length
decreasing_by
 all_goals first|(have:=ZW r;simp only[Ga];omega)|(simp only[Ga,jb];omega)
def badS:Str->Str
 |[]=>[]
 |c::r=>if c==41 then r else if escS (c::r)then badS (Zh r).2 else badS r
termination_by l=>l.length
decreasing_by
 all_goals first|(have:=ZW r;simp only[Ga];omega)|(simp only[Ga];omega)
def unB(b:UInt8):Bool:=decide (b.toNat<=8)||b==11||decide (14<=b.toNat)&&decide (b.toNat<=31)||b==127
def urlS:Str->Option Str×Str
 |[]=>(some [],[])
 |c::r=>
  if c==41 then(some [],r)
  else if spB c then(match past spB r with
   |[]=>(some [],[])
   |d::a=>if d==41 then(some [],a)else(none,badS (d::a)))
  else if c==34||c==39||c==40||unB c||c==92&& !escS (c::r)then(none,badS (c::r))
  else if c==92 then((urlS (Zh r).2).1.map ((Zh r).1++ ·),(urlS (Zh r).2).2)
  else((urlS r).1.map (c:: ·),(urlS r).2)
termination_by l=>l.length
decreasing_by
 all_goals first|(have:=ZW r;simp only[Ga];omega)|(simp only[Ga];omega)
def Xk(b:UInt8):Int:=
 if b==58 then 16 else if b==59 then 17 else if b==44 then 18 else if b==91 then 19 else if b==93 then 20 else if b==40 then 21 else if b==41 then 22 else if b==123 then 23 else if b==125 then 24 else 0
def Aj(k:Int):zg:=⟨k,[],0,[],false⟩
def ui:Nat:=1000000000000
def Ul:Nat->Nat->Nat
 |0,n=>n
 |k+1,n=>if n=0\/ui<=n then n else Ul k (min ui (10*n))
end Go.Lv.VT
