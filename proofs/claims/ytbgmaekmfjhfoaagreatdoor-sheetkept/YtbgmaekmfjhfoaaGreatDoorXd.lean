/- Conditions of @supports, told of: the program's reader. -/
import Derived.Test.YtbgmaekmfjhfoaaGreatDoorXc
import Derived.Test.YtbgmaekmfjhfoaaGreatDoorTy
import Derived.Test.YtbgmaekmfjhfoaaGreatDoorMo
import Derived.Test.YtbgmaekmfjhfoaaGreatDoorXa
set_option linter.unusedSimpArgs false
set_option linter.unusedVariables false
namespace Go.Lv.VT
def OkV{Y:Type}(T:List za->Option Y)(g:Y->zt×Bool)(f:List za->Option zt)(a:za):Prop:=
 a.token.text.length<=big/\zL zf a.list<=big/\((a.token.kind==21)=true->errS a.list=0/\ ∃y,T a.list=some y/\MayR (g y) (f a.list))
theorem Cy{S:zh->Option ((zt×Bool)×zh)}{f:List za->Option zt}{m:List za}(hm: ∀a∈m,OkV (fun l=>S ⟨l⟩) (fun y=>y.1) f a):
  ∃c b v,qb S ⟨m⟩=some ((c,b),⟨v⟩)/\MayR (c,b) (ui f m)/\(b=true->v=m.tail):=by
 unfold qb;simp only[Io,ze,Aa];cases m with
 |nil=>exact⟨_,_,_,rfl,ZK _,fun h=>by cases h⟩
 |cons a r=>
  obtain⟨h1,h2,h3⟩:=hm a Jb;simp only[Oi,ui,Mg];cases h2k:a.token.kind==2 with
  |true=> simp only[Ca,Km,Aa];exact⟨_,_,_,rfl,Kj _,fun _=>rfl⟩
  |false=>
   cases hk:a.token.kind==21 with
   |false=>exact⟨_,_,_,rfl,ZK _,fun h=>by cases h⟩
   |true=>
    obtain⟨he,⟨⟨c,b⟩,rd⟩,g1,g2,g3⟩:=h3 hk;have g1:S ⟨a.list⟩=some ((c,b),rd):=g1;simp only[Ba,Ca,Km,Aa,JX h2 he];cases ho:oneO a.list with
    |some d=>exact⟨_,_,_,rfl,Kj _,fun _=>rfl⟩
    |none=>
     have e0:((0:Int)==0)=true:=rfl;simp only[MC,e0,Ca,Ba,g1,Aa];cases hf:f a.list with
     |none=> rw[hf]at g2;obtain rfl:b=false:=g2;exact⟨_,_,_,rfl,Kj _,fun _=>rfl⟩
     |some z=> rw[hf]at g2;obtain rfl:b=true:=g2;obtain rfl:c=z:=g3 z hf;simp only[Ca,Qd];exact⟨c,_,_,rfl,Kj _,fun _=>rfl⟩
theorem lM{a:za}(h:isW andW a=true):isW orW a=false:=by unfold isW at*;rw[Ea,Ob (a:=lowS a.token.text)]at h;rw[h.2,Bool.and_eq_false_iff];exact .inr rfl
def opW(op:Int)(l:List za):Int:=if op=0 then(bif headW orW l then 2 else 1)else op
def Tp(op:Int):Str:=if op=2 then orW else andW
def resT(f:List za->Option zt)(op:Int)(flag:Bool)(l:List za)(acc:List zt):Option zt:=
 (Ug f (Tp (opW op l)) flag l).map fun q=>⟨opW op l,[],0,noDC,acc++q⟩
theorem zCw{α:Type}(a:α)(r:List α):decide (((a::r).length:Int)>0)=true:=Fa (by simp only[Da];omega)
theorem len0{α:Type}(l:List α):((l.length:Int)==0)=l.isEmpty:=by
 cases l with
 |nil=>rfl
 |cons a r=>exact Ga.2 (by simp only[Da];omega)
theorem zAa{S:zh->Option ((zt×Bool)×zh)}{f:List za->Option zt}{l:List za}(hl:l.length<=big)(hm: ∀a∈l,OkV (fun l=>S ⟨l⟩) (fun y=>y.1) f a):
  ∃y,qx S ⟨l⟩=some y/\MayR y.1 (Ih f l):=by
 unfold qx Ih;have hm0: ∀a∈sp l,OkV (fun l=>S ⟨l⟩) (fun y=>y.1) f a:=fun a ha=>hm a ((Q0 l).subset ha);have hl0:(sp l).length<=big:=ma (mg l) hl;simp only[QY,ze,Aa];generalize sp l=m at*;rw[Jw [notW] m (fun a ha=>(hm0 a ha).1) (by intro s hs;simp at hs;subst hs;exact⟨by decide,zEw⟩) (by decide)];have e0:(notW==([]:Str))=false:=rfl;have e1:(([]:Str)==([]:Str))=true:=rfl;have happ:Zp 0 1 104=true:=ZU (by decide);cases m with
 |nil=> obtain⟨c,b,v,g1,g2,g3⟩:=Cy hm0;obtain rfl:b=false:=g2.1;simp only[Ni,headW,Ba,Aa,e1,Eb,g1,Xa,Ca];exact⟨_,rfl,ZK _⟩
 |cons a r=>
  have hmr: ∀a∈sp r,OkV (fun l=>S ⟨l⟩) (fun y=>y.1) f a:=fun a ha=>hm0 a (Cb _ ((Q0 r).subset ha));have hlr:(sp r).length<=big:=by have:=mg r;rw[Da]at hl0;omega
  simp only[Ni,headW];cases hn:isW notW a with
  |true=>
   obtain⟨c,b,v,g1,g2,g3⟩:=Cy hmr;simp only[Ca,Aa,e0,Xa,Ye,QY,g1,Qd,len0];refine⟨_,rfl,?_⟩;cases hh:ui f (sp r)with
   |none=>
    rw[hh]at g2;obtain rfl:b=false:=g2.1;cases decide ((sp r).length<r.length)&&(sp (sp r).tail).isEmpty<;>exact ZK _
   |some x=>
    rw[hh]at g2;obtain rfl:b=true:=g2.1;obtain rfl:c=x:=g2.2 x rfl;obtain rfl:=g3 rfl;cases decide ((sp r).length<r.length)with
    |false=>exact ZK _
    |true=>
     cases (sp (sp r).tail).isEmpty with
     |false=>exact ZK _
     |true=>exact Kj _
  |false=>
   obtain⟨c,b,v,g1,g2,g3⟩:=Cy hm0;simp only[ui]at g2;simp only[Ba,Aa,e1,Eb,g1];cases hh:Mg f a with
   |none=> rw[hh]at g2;obtain rfl:b=false:=g2.1;exact⟨_,rfl,ZK _⟩
   |some x=>
    rw[hh]at g2;obtain rfl:b=true:=g2.1;obtain rfl:c=x:=g2.2 x rfl;obtain rfl:r=v:=(g3 rfl).symm;simp only[Eb,Ba,QY,Ye,Aa,Qd,len0];cases hsr:sp r with
    |nil=> simp only;exact⟨((c,true),_),rfl,Kj _⟩
    |cons w t=>
     rw[hsr]at hmr hlr;have hsp:sp (w::t)=w::t:=by rw[<-hsr,uk]
     have hres:(bif isW orW w then(Ug f orW (decide ((w::t).length<r.length)) (w::t)).map (fun q=>orC (c::q))
       else(Ug f andW (decide ((w::t).length<r.length)) (w::t)).map fun q=>allC (c::q))=resT f 0 (decide ((w::t).length<r.length)) (w::t) [c]:=by
      unfold resT opW headW;rw[Ka rfl];simp only;cases isW orW w<;>rfl
     simp only[List.isEmpty_cons,Ba,hres];generalize decide ((w::t).length<r.length)=flag;refine bM (fun s:Bool×zh×(Int×Str×Int×Str×Bool)×(Int×Str×Int×Str×Bool)×List zt=>s.2.1.v.length)
      (fun s=> ∃op:Int,(op=0\/op=1\/op=2)/\s.2.2.1=(0,[],0,[],false)/\s.2.2.2.1=(op,[],0,[],false)/\sp s.2.1.v=s.2.1.v/\(op=0->s.2.1.v≠[])/\(∀a∈s.2.1.v,OkV (fun l=>S ⟨l⟩) (fun y=>y.1) f a)/\s.2.2.2.2.length+s.2.1.v.length<=big+1)
      (fun s (r:(zt×Bool)×zh)=>MayR r.1 (resT f s.2.2.2.1.1 s.1 s.2.1.v s.2.2.2.2)) ?_ ?_
     ·rintro⟨flag,⟨v⟩,_,_,acc⟩ ⟨op,hop,rfl,rfl,hv,hne,hok,hacc⟩;simp only at hv hne hok hacc;cases v with
      |nil=> have hop0:op≠0:=fun h=>hne h rfl;right;right;refine⟨(⟨[]⟩,(0,[],0,[],false),(op,[],0,[],false),acc),rfl,?_⟩;refine⟨_,rfl,?_⟩;unfold resT opW;rw[Ha hop0,YM,ib,Rb];exact Kj _
      |cons a r=>
       simp only[zCw,Ca];rw[Jw [andW,orW] (a::r) (fun a ha=>(hok a ha).1) (by intro s hs;simp at hs;rcases hs with rfl|rfl<;>exact⟨by decide,by decide⟩) (by decide)];have hokr: ∀a∈sp r,OkV (fun l=>S ⟨l⟩) (fun y=>y.1) f a:=fun a ha=>hok a (Cb _ ((Q0 r).subset ha));obtain⟨c',b,v',k1,k2,k3⟩:=Cy hokr;have hlen:=mg r;rw[Da]at hacc
       -- behind a word
       have tail: ∀(t:Int) (s:Str),(t=1/\s=andW\/t=2/\s=orW)->isW s a=true->(op=0\/op=t)->(bif s==[97,110,100]then(1:Int)else bif s==[111,114]then 2 else 0)=t->
         (∃s':Bool×zh×(Int×Str×Int×Str×Bool)×(Int×Str×Int×Str×Bool)×List zt,
          (bif bif !decide ((sp r).length<r.length)then true else !b then
           some (LO.ret (((⟨t,[],0,(⟨[],[],false⟩:Zm),acc⟩:zt),false),(⟨v'⟩:zh)))
          else
           some (LO.again (decide ((sp v').length<v'.length),(⟨sp v'⟩:zh),((0:Int),([]:Str),(0:Int),([]:Str),false),(t,([]:Str),(0:Int),([]:Str),false),acc++[c'])):
            Option (LO (Bool×zh×(Int×Str×Int×Str×Bool)×(Int×Str×Int×Str×Bool)×List zt) (zh×(Int×Str×Int×Str×Bool)×(Int×Str×Int×Str×Bool)×List zt) ((zt×Bool)×zh)))=some (LO.again s')/\
          (∃op:Int,(op=0\/op=1\/op=2)/\s'.2.2.1=(0,[],0,[],false)/\s'.2.2.2.1=(op,[],0,[],false)/\sp s'.2.1.v=s'.2.1.v/\(op=0->s'.2.1.v≠[])/\(∀a∈s'.2.1.v,OkV (fun l=>S ⟨l⟩) (fun y=>y.1) f a)/\s'.2.2.2.2.length+s'.2.1.v.length<=big+1)/\
          s'.2.1.v.length<(a::r).length/\ ∀q:(zt×Bool)×zh,MayR q.1 (resT f s'.2.2.2.1.1 s'.1 s'.2.1.v s'.2.2.2.2)->MayR q.1 (resT f op true (a::r) acc))\/
         (∃q:(zt×Bool)×zh,(bif bif !decide ((sp r).length<r.length)then true else !b then
           some (LO.ret (((⟨t,[],0,(⟨[],[],false⟩:Zm),acc⟩:zt),false),(⟨v'⟩:zh)))
          else
           some (LO.again (decide ((sp v').length<v'.length),(⟨sp v'⟩:zh),((0:Int),([]:Str),(0:Int),([]:Str),false),(t,([]:Str),(0:Int),([]:Str),false),acc++[c'])):
            Option (LO (Bool×zh×(Int×Str×Int×Str×Bool)×(Int×Str×Int×Str×Bool)×List zt) (zh×(Int×Str×Int×Str×Bool)×(Int×Str×Int×Str×Bool)×List zt) ((zt×Bool)×zh)))=some (LO.ret q)/\MayR q.1 (resT f op true (a::r) acc)):=by
        intro t s hts hs hopt _;have hopw:opW op (a::r)=t:=by
         unfold opW headW;rcases hopt with rfl|rfl
         ·rw[Ka rfl];simp only;rcases hts with⟨rfl,rfl⟩|⟨rfl,rfl⟩
          ·rw[lM hs];rfl
          ·rw[hs];rfl
         ·have:op≠0:=by rcases hts with⟨rfl,_⟩|⟨rfl,_⟩<;>decide
          rw[Ha this]
        have hwo:Tp t=s:=by unfold Tp;rcases hts with⟨rfl,rfl⟩|⟨rfl,rfl⟩<;>rfl
        have hR:resT f op true (a::r) acc=(Ug f s true (a::r)).map fun q=>⟨t,[],0,noDC,acc++q⟩:=by unfold resT;rw[hopw,hwo]
        rw[hR,rG,hs];simp only[Kb];cases decide ((sp r).length<r.length)with
        |false=> right;exact⟨_,rfl,ZK _⟩
        |true=>
         simp only[Ca,Eb,Ba];cases hsr:sp r with
         |nil=> rw[hsr]at k2;obtain rfl:b=false:=k2.1;right;exact⟨_,rfl,ZK _⟩
         |cons d r'=>
          rw[hsr]at k2 k3 hlen hokr;simp only[ui]at k2 ⊢;cases hfd:Mg f d with
          |none=> rw[hfd]at k2;obtain rfl:b=false:=k2.1;right;exact⟨_,rfl,ZK _⟩
          |some z=>
           rw[hfd]at k2;obtain rfl:b=true:=k2.1;obtain rfl:c'=z:=k2.2 z rfl;obtain rfl:v'=r':=k3 rfl;have hl2:=mg v';rw[Da]at hlen;have ht0:t≠0:=by rcases hts with⟨rfl,_⟩|⟨rfl,_⟩<;>decide
           left;refine⟨(decide ((sp v').length<v'.length),⟨sp v'⟩,(0,[],0,[],false),(t,[],0,[],false),acc++[c']),rfl,⟨t,by rcases hts with⟨rfl,_⟩|⟨rfl,_⟩<;>simp,rfl,rfl,uk _,fun h=>absurd h ht0,?_,?_⟩,?_,?_⟩
           ·intro x hx;exact hokr x (Cb _ ((Q0 v').subset hx))
           ·simp only[Ia,Da,Ya];omega
           ·simp only[Da];omega
           ·intro q hq;unfold resT opW at hq;simp only at hq;rw[Ha ht0,hwo]at hq;cases hmo:Ug f s (decide ((sp v').length<v'.length)) (sp v')with
            |none=>rw[hmo]at hq;exact hq
            |some qq=> rw[hmo]at hq;simp only[ib,ja,Fe]at hq ⊢;exact hq
       have fail: ∀s:Str,s=Tp (opW op (a::r))->(flag=false\/isW s a=false)->resT f op flag (a::r) acc=none:=by
        intro s hs hfl;unfold resT;rw[<-hs,rG];rcases hfl with rfl|h
        ·rfl
        ·rw[h];cases flag<;>rfl
       have hap:Zp acc.length 1 104=true:=ZU (by unfold big at hacc;omega);have q1:(andW==([97,110,100]:Str))=true:=rfl;have q2:(orW==([97,110,100]:Str))=false:=rfl;have q3:(orW==([111,114]:Str))=true:=rfl;have q4:(([]:Str)==([97,110,100]:Str))=false:=rfl;have q5:(([]:Str)==([111,114]:Str))=false:=rfl;have i0:((0:Int)==0)=true:=rfl;have i1:((1:Int)==0)=false:=rfl;have i2:((2:Int)==0)=false:=rfl;simp only[Ni,headW];cases ha:isW andW a with
       |true=>
        simp only[Ca,Aa,q1,i1,Ba,Ye,QY,k1,hap,Zy,Qd];cases flag with
        |false=> right;left;exact⟨_,rfl,by rw[fail _ rfl (.inl rfl)];exact ZK _⟩
        |true=>
         rcases hop with rfl|rfl|rfl
         ·rcases tail 1 andW (.inl ⟨rfl,rfl⟩) ha (.inl rfl) rfl with h|h
          ·exact .inl h
          ·exact .inr (.inl h)
         ·rcases tail 1 andW (.inl ⟨rfl,rfl⟩) ha (.inr rfl) rfl with h|h
          ·exact .inl h
          ·exact .inr (.inl h)
         ·right;left;exact⟨_,rfl,by rw[fail orW rfl (.inr (lM ha))];exact ZK _⟩
       |false=>
        cases ho:isW orW a with
        |true=>
         simp only[Ca,Aa,q2,q3,i2,Ba,Ye,QY,k1,hap,Zy,Qd];cases flag with
         |false=> right;left;exact⟨_,rfl,by rw[fail _ rfl (.inl rfl)];exact ZK _⟩
         |true=>
          rcases hop with rfl|rfl|rfl
          ·rcases tail 2 orW (.inr ⟨rfl,rfl⟩) ho (.inl rfl) rfl with h|h
           ·exact .inl h
           ·exact .inr (.inl h)
          ·right;left;exact⟨_,rfl,by rw[fail andW rfl (.inr ha)];exact ZK _⟩
          ·rcases tail 2 orW (.inr ⟨rfl,rfl⟩) ho (.inr rfl) rfl with h|h
           ·exact .inl h
           ·exact .inr (.inl h)
        |false=>
         simp only[Ba,Aa,q4,q5,i0,Ca];right;left;refine⟨_,rfl,?_⟩;have hw:isW (Tp (opW op (a::r))) a=false:=by
          unfold Tp;split
          ·exact ho
          ·exact ha
         rw[fail _ rfl (.inr hw)];exact ZK _
     ·exact⟨0, .inl rfl,rfl,rfl,hsp,fun _=>List.cons_ne_nil _ _,hmr,by simp only[Da,Ya]at *; omega⟩
def II(f:List za->Option zt)(l:List za):Option zt:=match l with
 |[]=>none
 |a::r=>bif isW notW a then(bif decide ((sp r).length<r.length)&&(sp (sp r).tail).isEmpty then(ui f (sp r)).map notC else none)else
  match Mg f a with
  |none=>none
  |some x=>match sp r with
   |[]=>some x
   |w::t=>bif isW orW w then(Ug f orW (decide ((sp r).length<r.length)) (w::t)).map fun q=>orC (x::q)
    else(Ug f andW (decide ((sp r).length<r.length)) (w::t)).map fun q=>allC (x::q)
theorem zCL(f:List za->Option zt)(l:List za):Ih f l=II f (sp l):=by unfold Ih II;cases sp l<;>rfl
theorem zFb{l:List za}(hz:zL zf l<=big)(he:errS l=0): ∃y,z8 ⟨l⟩=some y/\MayR y.1 (Gn l):=by refine wy zg6 (fun x=>zL zf x.v) (fun x=>zL zf x.v<=big/\errS x.v=0) (fun x y=>MayR y.1 (Gn x.v)) (fun S x hx hS=> ?_) (x:=(⟨l⟩:zh)) ⟨hz,he⟩;obtain⟨l⟩:=x;obtain⟨hz,he⟩:=hx;simp only at hz he hS ⊢;rw[lK];have hl:=Qw fF l;refine zAa (by omega) fun a ha=> ?_;obtain⟨h1,h2,h3,h4⟩:=Dn hz ha;refine⟨h1,h3,fun hk=>⟨SK he ha hk,hS ⟨a.list⟩ ⟨h3,SK he ha hk⟩ h4⟩⟩
theorem WL(v:List za):(Fg v).1.Sublist v:=by
 unfold Fg;split
 ·exact Be _
 ·rename_i t z he;have hv:=oz he;cases !t.isEmpty&&(z.token.kind==1&&lowS z.token.text==impW)with
  |false=>exact Be _
  |true=>
   rw[Ca];split
   ·exact Be _
   ·rename_i u b hb;have hw:=oz hb;cases Cq b with
    |false=>exact Be _
    |true=> rw[Ca,hv];refine(uj u).trans (List.Sublist.trans ?_ ((uj t).trans (Wd t [z])));rw[hw];exact Wd u [b]
theorem zCn{x:List za}{d:Zm}(h:oneO x=some d):zy (ZH d)<=zL zf x:=by
 have hx:zL zf (trimS x)<=zL zf x:=Gg ((uj _).trans (Q0 _));unfold oneO at h;cases h2:(oneS x).2 with
 |false=>rw[h2]at h;cases h
 |true=>
  rw[h2,Ca]at h;injection h with h;subst h;unfold oneS at h2 ⊢;generalize trimS x=m at*;cases m with
  |nil=>cases h2
  |cons a r=>
   simp only at h2 ⊢;cases h1:a.token.kind==1 with
   |false=>rw[h1]at h2;cases h2
   |true=>
    rw[h1]at h2;simp only[Ca]at h2 ⊢;have hsr:zL zf (r.dropWhile isSp)<=zL zf r:=Gg (Ac _);cases hs:r.dropWhile isSp with
    |nil=>rw[hs]at h2;cases h2
    |cons c r2=>
     rw[hs]at h2 hsr;simp only at h2 ⊢;cases h3:c.token.kind==16 with
     |false=>rw[h3]at h2;cases h2
     |true=>
      rw[h3]at h2;simp only[Ca]at h2 ⊢;cases h4:Bh ⟨nmD a.token.text,(Fg (r2.dropWhile isSp)).1,(Fg (r2.dropWhile isSp)).2⟩with
      |false=>rw[h4]at h2;cases h2
      |true=> rw[Ca,Q3];have hv:zL zf (Fg (r2.dropWhile isSp)).1<=zL zf r2:=Gg ((WL _).trans (Ac _));have hva:=Q5 a;rw[ZI]at hx hsr;simp only[DT];omega
theorem KC:zy (ZH noDC)=3:=by rw[Q3];rfl
theorem zCnd(k:Int)(n:Str)(u:Int)(d:Zm)(l:List zt):zy (zw ⟨k,n,u,d,l⟩)=4+n.length+zy (ZH d)+zL zw l:=by rw[El];simp only;omega
theorem zNil:zL zw []=0:=rfl
theorem lF{f:List za->Option zt}{a:za}{c:zt}(hf: ∀c,f a.list=some c->zy (zw c)<=2*zL zf a.list)(h:Mg f a=some c):zy (zw c)<=2*zy (zf a):=by
 have hva:=Q5 a;have ho:zy (zw Rq)=7:=by unfold Rq;rw[zCnd,KC,zNil];rfl
 unfold Mg at h;cases h2:a.token.kind==2 with
 |true=>rw[h2]at h;injection h with h;subst h;omega
 |false=>
  rw[h2]at h;cases h3:a.token.kind==21 with
  |false=>rw[h3]at h;cases h
  |true=>
   rw[h3]at h;simp only[Ca,Ba]at h;cases hd:oneO a.list with
   |some d=> rw[hd]at h;injection h with h;subst h;have:=zCn hd;unfold uR;rw[zCnd,zNil];simp only[Ya];omega
   |none=>
    rw[hd]at h;simp only at h;cases hfl:f a.list with
    |none=>rw[hfl]at h;injection h with h;subst h;omega
    |some z=> rw[hfl]at h;injection h with h;subst h;have:=hf z hfl;omega
theorem XM{f:List za->Option zt}{op:Str}: ∀(n:Nat) {flag:Bool} {l:List za} {q:List zt},l.length<n->(∀a∈l,∀c,f a.list=some c->zy (zw c)<=2*zL zf a.list)->
  Ug f op flag l=some q->zL zw q<=2*zL zf l.tail
 |0,_,_,_,h,_,_=>by omega
 |n+1,flag,[],q,_,_,h=>by rw[YM]at h;injection h with h;subst h;exact Va _
 |n+1,flag,a::r,q,hn,hf,h=>by
  rw[rG]at h;have hl:=mg r;have hz:=Gg (f:=zf) (Q0 r);rw[Da]at hn;have hfr: ∀a∈sp r,∀c,f a.list=some c->zy (zw c)<=2*zL zf a.list:=fun b hb=>hf b (Cb _ ((Q0 r).subset hb));cases hg:flag&&(isW op a&&decide ((sp r).length<r.length))with
  |false=>rw[hg]at h;cases h
  |true=>
   rw[hg]at h;simp only[Ca]at h;cases hs:sp r with
   |nil=>rw[hs]at h;cases h
   |cons b r'=>
    rw[hs]at h hl hz hfr;simp only at h;cases ht:Mg f b with
    |none=>rw[ht]at h;cases h
    |some x=>
     rw[ht]at h;simp only at h;cases hm:Ug f op (decide ((sp r').length<r'.length)) (sp r')with
     |none=>rw[hm]at h;cases h
     |some z=> rw[hm]at h;injection h with h;subst h;have hl':=mg r';rw[Da]at hl;have h1:=lF (hfr b Jb) ht;have h2:=XM n (l:=sp r') (by omega) (fun c hc=>hfr c (Cb _ ((Q0 r').subset hc))) hm;have h3:=Gg (f:=zf) ((Uh (sp r')).trans (Q0 r'));rw[ZI]at hz;rw[ZI,Ye];omega
theorem XV{f:List za->Option zt}{l:List za}{c:zt}(hf: ∀a∈l,∀c,f a.list=some c->zy (zw c)<=2*zL zf a.list)(h:Ih f l=some c):zy (zw c)<=2*zL zf l:=by
 rw[zCL]at h;have hz:=Gg (f:=zf) (Q0 l);have hf0: ∀a∈sp l,∀c,f a.list=some c->zy (zw c)<=2*zL zf a.list:=fun b hb=>hf b ((Q0 l).subset hb);generalize sp l=m at*;cases m with
 |nil=>cases h
 |cons a r=>
  unfold II at h;simp only at h;have hva:=Q5 a;rw[ZI]at hz;have hr:=Gg (f:=zf) (Q0 r);have hfr: ∀a∈sp r,∀c,f a.list=some c->zy (zw c)<=2*zL zf a.list:=fun b hb=>hf0 b (Cb _ ((Q0 r).subset hb));cases hn:isW notW a with
  |true=>
   rw[hn]at h;simp only[Ca]at h;cases hg:decide ((sp r).length<r.length)&&(sp (sp r).tail).isEmpty with
   |false=>rw[hg]at h;cases h
   |true=>
    rw[hg]at h;simp only[Ca]at h;cases hs:sp r with
    |nil=>rw[hs]at h;cases h
    |cons b t=>
     rw[hs]at h hr hfr;simp only[ui]at h;cases ht:Mg f b with
     |none=>rw[ht]at h;cases h
     |some x=> rw[ht]at h;injection h with h;subst h;have:=lF (hfr b Jb) ht;unfold notC;rw[zCnd,KC,ZI,zNil];rw[ZI]at hr;simp only[Ya];omega
  |false=>
   rw[hn]at h;simp only[Ba]at h;cases ht:Mg f a with
   |none=>rw[ht]at h;cases h
   |some x=>
    rw[ht]at h;simp only at h;have h1:=lF (hf0 a Jb) ht;cases hs:sp r with
    |nil=>rw[hs]at h;injection h with h;subst h;omega
    |cons w t=>
     rw[hs]at h hr hfr;simp only at h;have hvw:=Q5 w;rw[ZI]at hr;have more: ∀op q,Ug f op (decide ((w::t).length<r.length)) (w::t)=some q->zL zw q<=2*zL zf t:=fun op q hq=>XM _ (Ie _) hfr hq;cases ho:isW orW w with
     |true=>
      rw[ho]at h;simp only[Ca]at h;cases hm:Ug f orW (decide ((w::t).length<r.length)) (w::t)with
      |none=>rw[hm]at h;cases h
      |some q=> rw[hm]at h;injection h with h;subst h;have:=more _ _ hm;unfold orC;rw[zCnd,KC,ZI];simp only[Ya];omega
     |false=>
      rw[ho]at h;simp only[Ba]at h;cases hm:Ug f andW (decide ((w::t).length<r.length)) (w::t)with
      |none=>rw[hm]at h;cases h
      |some q=> rw[hm]at h;injection h with h;subst h;have:=more _ _ hm;unfold allC;rw[zCnd,KC,ZI];simp only[Ya];omega
theorem oM: ∀(n:Nat) {l:List za} {c:zt},zL zf l<n->Gn l=some c->zy (zw c)<=2*zL zf l
 |0,_,_,h,_=>by omega
 |n+1,l,c,hn,h=>by rw[lK]at h;refine XV (fun a ha c hc=> ?_) h;have:=MI ha;exact oM n (by omega) hc
def supS(x:List za):zt×Int:=
 if errS x=0 then(match Gn x with
  |some c=>bif Bv c then(c,0)else(nilC,12)
  |none=>(nilC,12))else(nilC,errS x)
theorem EY{x:List za}(hz:2*zL zf x<=big):Pp x=some (supS x):=by
 unfold Pp supS;have hsz:=Dj x;simp only[wo (show szL x<=big by omega),ze,Aa];by_cases he:errS x=0
 ·have e0:((0:Int) != 0)=false:=rfl;obtain⟨⟨⟨c,b⟩,rd⟩,g1,g2,g3⟩:=zFb (show zL zf x<=big by omega) he;simp only[he,e0,Ba,Vd,g1,Aa,Qd];cases ht:Gn x with
  |none=> rw[ht]at g2;obtain rfl:b=false:=g2;rfl
  |some z=> rw[ht]at g2;obtain rfl:b=true:=g2;obtain rfl:c=z:=g3 z ht;have:=oM _ (Ie _) ht;simp only[Eb,Xa,Zk,zgY (show zy (zw c)<=big by omega),Aa,Ba];cases Bv c<;>rfl
 ·have e0:(errS x != 0)=true:=Ve.2 he;simp only[Ha he,e0,Ca];rfl
def atS(l:Str)(n:Nat):UInt8:=l.getD n 0
def digB(b:UInt8):Bool:=decide (48<=b.toNat)&&decide (b.toNat<=57)
def spB(b:UInt8):Bool:=b==10||b==9||b==32
def alB(b:UInt8):Bool:=decide (65<=b.toNat)&&decide (b.toNat<=90)||decide (97<=b.toNat)&&decide (b.toNat<=122)
def fstB(b:UInt8):Bool:=alB b||b==95||decide (128<=b.toNat)
def letB(b:UInt8):Bool:=fstB b||digB b||b==45
def hexN(b:UInt8):Nat:=
 if digB b then b.toNat - 48 else if 97<=b.toNat/\b.toNat<=102 then b.toNat - 87 else if 65<=b.toNat/\b.toNat<=70 then b.toNat - 55 else 16
def Uf(b:UInt8):Bool:=decide (hexN b<16)
def escS(l:Str):Bool:=atS l 0==92&& !(atS l 1==10)
def nmS(l:Str):Bool:=if atS l 0==45 then fstB (atS l 1)||atS l 1==45||escS (l.drop 1)else fstB (atS l 0)||escS l
def Vh(b:UInt8):Bool:=b==43||b==45
def unsign(l:Str):Str:=if Vh (atS l 0)then l.drop 1 else l
def undot(l:Str):Str:=if atS l 0==46 then l.drop 1 else l
def nbS(l:Str):Bool:=digB (atS (undot (unsign l)) 0)
def Iq:Str:=[239,191,189]
def xh(n:Nat):Str:=
 if n=0\/(55296<=n/\n<=57343)\/1114111<n then Iq
 else if n<128 then [UInt8.ofNat n]
 else if n<2048 then [UInt8.ofNat (192+n / 64),UInt8.ofNat (128+n%64)]
 else if n<65536 then [UInt8.ofNat (224+n / 4096),UInt8.ofNat (128+n / 64%64),UInt8.ofNat (128+n%64)]
 else [UInt8.ofNat (240+n / 262144),UInt8.ofNat (128+n / 4096%64),UInt8.ofNat (128+n / 64%64),UInt8.ofNat (128+n%64)]
def hexes:Nat->Nat->Str->Nat×Str
 |0,n,l=>(n,l)
 |_+1,n,[]=>(n,[])
 |k+1,n,c::r=>if Uf c then hexes k (16*n+hexN c) r else(n,c::r)
def unsp:Str->Str
 |[]=>[]
 |c::r=>if spB c then r else c::r
def zK:Str->Str×Str
 |[]=>(Iq,[])
 |c::r=>if Uf c then(xh (hexes 6 0 (c::r)).1,unsp (hexes 6 0 (c::r)).2)else([c],r)
theorem av: ∀(k n:Nat) (l:Str),(hexes k n l).2<:+l
 |0,n,l=>jd l
 |k+1,n,[]=>jd _
 |k+1,n,c::r=>by
  unfold hexes;split
  ·exact(av k _ r).trans (Ed c r)
  grind
theorem kK(l:Str):unsp l<:+l:=by
 cases l with
 |nil=>exact jd _
 |cons c r=>
  show(if spB c then r else c::r)<:+c::r
  grind
theorem qK(l:Str):(zK l).2<:+l:=by
 cases l with
 |nil=>exact jd _
 |cons c r=>
  show(if Uf c then(xh (hexes 6 0 (c::r)).1,unsp (hexes 6 0 (c::r)).2)else([c],r)).2<:+c::r;split
  ·exact(kK _).trans (av 6 0 _)
  grind
theorem Zx(l:Str):(zK l).2.length<=l.length:=(qK l).length_le
def Zc:Str->Str×Str
 |[]=>([],[])
 |c::r=>
  if letB c then((c::(Zc r).1),(Zc r).2)
  else if escS (c::r)then((zK r).1++(Zc (zK r).2).1,(Zc (zK r).2).2)
  else([],c::r)
termination_by l=>l.length
decreasing_by
 all_goals first|(have:=Zx r;simp only[Da];omega)|(simp only[Da];omega)
def past(p:UInt8->Bool):Str->Str
 |[]=>[]
 |c::r=>if p c then past p r else c::r
theorem Hl(p:UInt8->Bool): ∀l:Str,past p l<:+l
 |[]=>jd _
 |c::r=>by
  unfold past;split
  ·exact(Hl p r).trans (Ed c r)
  grind
def qm(l:Str):Str×Bool:=
 if atS l 0==46&&digB (atS l 1)then(past digB (l.drop 1),false)else(l,true)
def expS(l:Str):Option Str:=
 if atS l 0==101||atS l 0==69 then(if digB (atS (unsign (l.drop 1)) 0)then some (past digB (unsign (l.drop 1)))else none)else none
def ZB(l:Str):Str×Bool:=
 let x:=qm (past digB (unsign l))
 match expS x.1 with
 |some r=>(r,false)
 |none=>x
def decN(n:Nat)(b:UInt8):Nat:=10*n+(b.toNat - 48)
def Zv(m:UInt8):Str->Option Str×Str
 |[]=>(some [],[])
 |c::r=>
  if c==m then(some [],r)
  else if c==10 then(none,c::r)
  else if c==92 then
   (if r.isEmpty then(some [],[])
   else if atS r 0==10 then Zv m (r.drop 1)
   else((Zv m (zK r).2).1.map ((zK r).1++ ·),(Zv m (zK r).2).2))
  else((Zv m r).1.map (c:: ·),(Zv m r).2)
termination_by l=>l.length
decreasing_by
 all_goals first|(have:=Zx r;simp only[Da];omega)|(simp only[Da,Vb];omega)
def badS:Str->Str
 |[]=>[]
 |c::r=>if c==41 then r else if escS (c::r)then badS (zK r).2 else badS r
termination_by l=>l.length
decreasing_by
 all_goals first|(have:=Zx r;simp only[Da];omega)|(simp only[Da];omega)
def unB(b:UInt8):Bool:=decide (b.toNat<=8)||b==11||decide (14<=b.toNat)&&decide (b.toNat<=31)||b==127
def urlS:Str->Option Str×Str
 |[]=>(some [],[])
 |c::r=>
  if c==41 then(some [],r)
  else if spB c then(match past spB r with
   |[]=>(some [],[])
   |d::a=>if d==41 then(some [],a)else(none,badS (d::a)))
  else if c==34||c==39||c==40||unB c||c==92&& !escS (c::r)then(none,badS (c::r))
  else if c==92 then((urlS (zK r).2).1.map ((zK r).1++ ·),(urlS (zK r).2).2)
  else((urlS r).1.map (c:: ·),(urlS r).2)
termination_by l=>l.length
decreasing_by
 all_goals first|(have:=Zx r;simp only[Da];omega)|(simp only[Da];omega)
def Ag(b:UInt8):Int:=
 if b==58 then 16 else if b==59 then 17 else if b==44 then 18 else if b==91 then 19 else if b==93 then 20 else if b==40 then 21 else if b==41 then 22 else if b==123 then 23 else if b==125 then 24 else 0
def Og(k:Int):zk:=⟨k,[],0,[],false⟩
def Ci:Nat:=1000000000000
def Pj:Nat->Nat->Nat
 |0,n=>n
 |k+1,n=>if n=0\/Ci<=n then n else Pj k (min Ci (10*n))
set_option maxRecDepth 100000
abbrev sc(s:Str)(k:Nat):zb:=⟨s,(k:Int)⟩
def pk(l:Str)(n:Nat):Int:=match l[n]? with|some b=>(b.toNat:Int)|none=> -1
def beh(s r:Str):Nat:=s.length - r.length
theorem Qi{n:Int}(a: -9223372036854775808<=n)(h2:n<=9223372036854775807):w64 n=n:=Qb a h2
theorem Jr{s r:Str}(h:r<:+s):s.drop (beh s r)=r:=by obtain⟨t,rfl⟩:=h;unfold beh;simp_all
theorem Yk(s r:Str):beh s r<=s.length:=by unfold beh;omega
theorem zBb{s:Str}{k:Nat}(h:k<=s.length):beh s (s.drop k)=k:=by unfold beh;grind
theorem Ey{s:Str}{k n:Nat}(c:s.length<=big)(g:k<=s.length)(f:n<=8):zm ((n:Int),sc s k)=some (pk (s.drop k) n):=by
 have d:big=4194304:=rfl;have e:w64 ((k:Int)+(n:Int))=((k+n:Nat):Int):=by rw[Qi (by omega) (by omega)];omega
 unfold zm pk;simp only[e];rw[ic];by_cases h:k+n<s.length
 ·rw[Fa (by omega),Ca];have b:geti s ((k+n:Nat):Int)=some s[k+n]:=Zu h;have a:=Uc s[k+n];simp only[ze,b,Aa,Ra h];rw[Qi (by omega) (by omega)]
 ·grind
theorem Ot{s:Str}{k:Nat}(b:s.length<=big)(a:k<=s.length):zm (0,sc s k)=some (pk (s.drop k) 0):=Ey (n:=0) b a (by omega)
theorem vI{s:Str}{k:Nat}(b:s.length<=big)(a:k<=s.length):zm (1,sc s k)=some (pk (s.drop k) 1):=Ey (n:=1) b a (by omega)
theorem zHk{s:Str}{k:Nat}(b:s.length<=big)(a:k<=s.length):zm (2,sc s k)=some (pk (s.drop k) 2):=Ey (n:=2) b a (by omega)
theorem Ut{a:Type}{f:Int->Option a}{p:UInt8->a}(h: ∀b:UInt8,f (b.toNat:Int)=some (p b))(c:f (-1)=some (p 0))(l:Str)(n:Nat):f (pk l n)=some (p (atS l n)):=by
 unfold pk atS
 grind
theorem of_n{a:Type}{f:Int->Option a}{p:UInt8->a}(h: ∀n:Nat,n<256->f (n:Int)=some (p (UInt8.ofNat n)))(b:UInt8):f (b.toNat:Int)=some (p b):=by have:=h b.toNat (Uc b);simp_all
theorem lu(l:Str)(n:Nat):Bp (pk l n)=some (spB (atS l n)):=Ut (of_n (by decide+kernel)) (by decide+kernel) l n
theorem Im(l:Str)(n:Nat):Qv (pk l n)=some (digB (atS l n)):=Ut (of_n (by decide+kernel)) (by decide+kernel) l n
theorem zFn(l:Str)(n:Nat):Ow (pk l n)=some (fstB (atS l n)):=Ut (of_n (by decide+kernel)) (by decide+kernel) l n
theorem nK(l:Str)(n:Nat):nA (pk l n)=some (letB (atS l n)):=Ut (of_n (by decide+kernel)) (by decide+kernel) l n
def hexI(b:UInt8):Int:=if Uf b then(hexN b:Int)else -1
theorem aC(l:Str)(n:Nat):Nr (pk l n)=some (hexI (atS l n)):=Ut (of_n (by decide+kernel)) (by decide+kernel) l n
theorem Wh(l:Str)(n:Nat)(c:UInt8)(h:c≠0):(pk l n==(c.toNat:Int))=(atS l n==c):=by
 unfold pk atS;rw[List.getD_eq_getElem?_getD];cases l[n]? with
 |none=>
  grind
 |some b=>
  show((b.toNat:Int)==(c.toNat:Int))=(b==c);by_cases e:b=c
  ·grind
  ·have:b.toNat≠c.toNat:=fun h=>e (Gf.1 h)
   grind
theorem sI(l:Str)(n:Nat):(pk l n==10)=(atS l n==10):=Wh l n 10 (by decide)
theorem nR(l:Str)(n:Nat):(pk l n==34)=(atS l n==34):=Wh l n 34 (by decide)
theorem zHl(l:Str)(n:Nat):(pk l n==35)=(atS l n==35):=Wh l n 35 (by decide)
theorem zHm(l:Str)(n:Nat):(pk l n==37)=(atS l n==37):=Wh l n 37 (by decide)
theorem mR(l:Str)(n:Nat):(pk l n==39)=(atS l n==39):=Wh l n 39 (by decide)
theorem zHn(l:Str)(n:Nat):(pk l n==40)=(atS l n==40):=Wh l n 40 (by decide)
theorem pI(l:Str)(n:Nat):(pk l n==41)=(atS l n==41):=Wh l n 41 (by decide)
theorem oI(l:Str)(n:Nat):(pk l n==43)=(atS l n==43):=Wh l n 43 (by decide)
theorem ut(l:Str)(n:Nat):(pk l n==45)=(atS l n==45):=Wh l n 45 (by decide)
theorem nI(l:Str)(n:Nat):(pk l n==46)=(atS l n==46):=Wh l n 46 (by decide)
theorem zHo(l:Str)(n:Nat):(pk l n==64)=(atS l n==64):=Wh l n 64 (by decide)
theorem zHp(l:Str)(n:Nat):(pk l n==69)=(atS l n==69):=Wh l n 69 (by decide)
theorem kR(l:Str)(n:Nat):(pk l n==92)=(atS l n==92):=Wh l n 92 (by decide)
theorem zGD(l:Str)(n:Nat):(pk l n==101)=(atS l n==101):=Wh l n 101 (by decide)
theorem Yn(l:Str):(pk l 0== -1)=l.isEmpty:=by
 cases l with
 |nil=>rfl
 |cons b r=>
  show((b.toNat:Int)== -1)=false
  grind
theorem di(l:Str)(k n:Nat):atS (l.drop k) n=atS l (k+n):=by
 unfold atS
 grind
theorem BL {R:Type} {step:zb->Option (LO zb zb R)} {s:Str} (p:UInt8->Bool) (h0:p 0=false)
  (h: ∀k,k<=s.length->step (sc s k)=some (bif p (atS (s.drop k) 0)then .again (sc s (k+1))else .out (sc s k))) {k:Nat} (hk:k<=s.length):
  ag step (sc s k)=some (.out (sc s (beh s (past p (s.drop k))))):=by
 refine Qm (fun z=> ∃j,z=sc s j/\j<=s.length/\past p (s.drop j)=past p (s.drop k)) (fun z=>s.length - z.at_.toNat) _ ?_ ⟨k,rfl,hk,rfl⟩;rintro _ ⟨j,rfl,hj,he⟩;rw[h j hj];cases hd:s.drop j with
 |nil=>
  rw[show atS ([]:Str) 0=0 from rfl,h0,Ba];refine .inr (.inl ⟨_,rfl,?_⟩);rw[<-he,hd];have:j=s.length:=by have:=Xc.1 hd;omega
  subst this;show LX.out (sc s (beh s []))=_;unfold beh;rw[Ya,Nat.sub_zero]
 |cons c r=>
  have hlt:j<s.length:=by
   rcases Ud j s.length with h'|h'
   ·exact h'
   ·grind
  have hr:s.drop (j+1)=r:=by have:=Fb hlt;rw[hd]at this;injection this with _ h2;exact h2.symm
  rw[show atS (c::r) 0=c from rfl];cases hp:p c with
  |true=> refine .inl ⟨_,rfl,⟨j+1,rfl,by omega,?_⟩,by grind⟩;rw[hr,<-he,hd,past,hp];rfl
  |false=> refine .inr (.inl ⟨_,rfl,?_⟩);rw[<-he,hd,past,hp,Ha (by decide),<-hd,zBb hj]
theorem yT{s:Str}{k:Nat}(b:s.length<=big)(a:k<=s.length):w64 ((k:Int)+1)=((k+1:Nat):Int):=by have c:big=4194304:=rfl;rw[Qi (by omega) (by omega)];omega
theorem zCV{s:Str}{k:Nat}(a:s.length<=big)(c:k<=s.length):Z0 (sc s k)=some (sc s (beh s (past spB (s.drop k)))):=by
 unfold Z0;rw[Tm (BL spB rfl (fun j b=> ?_) c)];simp only[ze,Ot a b,Aa,lu,yT a b]
 grind
theorem zA0{s:Str}{k:Nat}(a:s.length<=big)(c:k<=s.length):ZC (sc s k)=some (sc s (beh s (past digB (s.drop k)))):=by
 unfold ZC;rw[Tm (BL digB rfl (fun j b=> ?_) c)];simp only[ze,Ot a b,Aa,Im,yT a b]
 grind
theorem number_eq{s:Str}{k:Nat}(a:s.length<=big)(c:k<=s.length):qE (sc s k)=some (nbS (s.drop k)):=by
 unfold qE nbS unsign undot Vh;simp only[ze,Ot a c,Aa,oI,ut];have d: ∀(b:Bool),(Zt (X:=Int) (bif b then some (LX.out 1)else some (LX.out 0)) fun e=>
   Zt (X:=Int) ((zm (e,sc s k)).bind fun f=>bif f==46 then some (LX.out (w64 (e+1)))else some (LX.out e)) fun g=>
   (zm (g,sc s k)).bind fun i=>(Qv i).bind fun j=>some j)=some (digB (atS (if atS (if b then(s.drop k).drop 1 else s.drop k) 0==46 then(if b then(s.drop k).drop 1 else s.drop k).drop 1 else(if b then(s.drop k).drop 1 else s.drop k)) 0)):=by
  intro b;cases b with
  |false=>
   simp only[Ba,zG,Ot a c,Aa,nI,Sb,Od];cases h:atS (s.drop k) 0==46 with
   |false=>simp only[Ba,zG,Ot a c,Aa,Im,Sb,Od]
   |true=> simp only[Ca,zG,Vd];rw[show w64 (0+1)=1 from rfl,vI a c];simp only[Aa,Im];rw[di (s.drop k) 1 0]
  |true=>
   simp only[Ca,zG,vI a c,Aa,nI,Vd];rw[di (s.drop k) 1 0];cases h:atS (s.drop k) (1+0)==46 with
   |false=> simp only[Kc]at h;simp only[h,Ba,zG,vI a c,Aa,Im,Sb,Od];rw[di (s.drop k) 1 0]
   |true=> simp only[Kc]at h;simp only[h,Ca,zG,Vd];rw[show w64 (1+1)=2 from rfl,zHk a c];simp only[Aa,Im];rw[Bf,di (s.drop k) (1+1) 0]
 have:=d (atS (s.drop k) 0==43||atS (s.drop k) 0==45)
 grind
abbrev sr(s r:Str):zb:=sc s (beh s r)
theorem sr_0(s:Str):(⟨s,0⟩:zb)=sr s s:=by show sc s 0=sc s (beh s s);unfold beh;rw[Nat.sub_self]
theorem Nn{s r:Str}{n:Nat}(b:s.length<=big)(c:r<:+s)(a:n<=8):zm ((n:Int),sr s r)=some (pk r n):=by rw[Ey b (Yk s r) a,Jr c]
theorem ig{s r:Str}(a:s.length<=big)(b:r<:+s):zm (0,sr s r)=some (pk r 0):=Nn (n:=0) a b (by omega)
theorem Nu{s r:Str}(a:s.length<=big)(b:r<:+s):zm (1,sr s r)=some (pk r 1):=Nn (n:=1) a b (by omega)
theorem zGC{s r:Str}(a:s.length<=big)(b:r<:+s):zm (2,sr s r)=some (pk r 2):=Nn (n:=2) a b (by omega)
theorem Ex{s r:Str}(a:s.length<=big)(b:r<:+s):Z0 (sr s r)=some (sr s (past spB r)):=by rw[zCV a (Yk s r),Jr b]
theorem Hy{s r:Str}(a:s.length<=big)(b:r<:+s):ZC (sr s r)=some (sr s (past digB r)):=by rw[zA0 a (Yk s r),Jr b]
theorem zEO{s r:Str}(a:s.length<=big)(b:r<:+s):qE (sr s r)=some (nbS r):=by rw[number_eq a (Yk s r),Jr b]
theorem YK{s r:Str}{n:Nat}(a:r<:+s)(b:n<=r.length):beh s r+n=beh s (r.drop n):=by
 have:=a.length_le;unfold beh
 grind
theorem WC{s r:Str}{n:Nat}(c:s.length<=big)(a:r<:+s)(b:n<=r.length):(⟨s,w64 ((beh s r:Int)+(n:Int))⟩:zb)=sr s (r.drop n):=by have d:big=4194304:=rfl;have:=Yk s r;have e:=a.length_le;rw[Qi (by omega) (by omega),show(beh s r:Int)+(n:Int)=((beh s r+n:Nat):Int) by omega,YK a b]
theorem Hu{l:Str}{n:Nat}(h:atS l n≠0):n<l.length:=by
 rcases Ud n l.length with a|a
 ·exact a
 ·exact absurd (by unfold atS;grind) h
theorem Xt{s r:Str}(a:s.length<=big)(b:r<:+s)(h:atS r 0≠0):(⟨s,w64 ((beh s r:Int)+1)⟩:zb)=sr s (r.drop 1):=WC (n:=1) a b (Hu h)
theorem Gl{s r:Str}(a:r<:+s)(n:Nat):r.drop n<:+s:=(Ae n r).trans a
theorem Po{s r:Str}(p:UInt8->Bool)(a:r<:+s):past p r<:+s:=(Hl p r).trans a
theorem UG{s r:Str}(a:r<:+s):unsign r<:+s:=by
 unfold unsign;split
 ·exact Gl a 1
 ·exact a
theorem uT{b:UInt8}(h:Vh b=true):b≠0:=by rintro rfl;revert h;decide
theorem YI(a b:Bool):(bif a then true else b)=(a||b):=by cases a<;>rfl
theorem aT(a b:Bool):(bif a then b else false)=(a&&b):=by cases a<;>rfl
theorem jM{s r:Str}(a:r<:+s):(qm r).1<:+s:=by
 unfold qm;split
 ·exact Po _ (Gl a 1)
 ·exact a
theorem PK{s r q:Str}(a:r<:+s)(h:expS r=some q):q<:+s:=by
 unfold expS at h;split at h
 ·split at h
  ·cases h;exact Po _ (UG (Gl a 1))
  ·cases h
 ·cases h
theorem AX{s r:Str}(b:r<:+s):(ZB r).1<:+s:=by
 unfold ZB;have a:=jM (Po digB (UG b));simp only;cases h:expS (qm (past digB (unsign r))).1 with
 |some q=>exact PK a h
 |none=>exact a
theorem zBJ{s l:Str}(hs:s.length<=big)(hl:l<:+s):QG (sr s l)=some ((ZB l).2,sr s (ZB l).1):=by
 unfold QG;simp only[ze,ig hs hl,Aa,oI,ut,YI];have e1:(bif (atS l 0==43||atS l 0==45)then some (LX.out (⟨s,w64 ((beh s l:Int)+1)⟩:zb))else some (LX.out (sr s l)))=(some (LX.out (sr s (unsign l))):Option (LX zb (Bool×zb))):=by
  unfold unsign;cases h:Vh (atS l 0)with
  |true=> have h':(atS l 0==43||atS l 0==45)=true:=h;rw[h',Ca,Ka rfl,Xt hs hl (uT h)]
  |false=>
   have h':(atS l 0==43||atS l 0==45)=false:=h
   grind
 rw[e1,zG];have hu:=UG hl;rw[Hy hs hu];simp only[Aa];have hp:=Po digB hu;unfold ZB;generalize past digB (unsign l)=q at hp ⊢;have e2:Zt (X:=Bool×zb) (R:=Bool×zb) ((zm (0,sr s q)).bind fun y4=>
   (zI (y4==46) (zm (1,sr s q)) (default:Int)).bind fun y5=>
   (zI (y4==46) (Qv y5) (default:Bool)).bind fun y6=>
   bif bif y4==46 then y6 else false then(ZC (⟨s,w64 ((beh s q:Int)+1)⟩:zb)).bind fun y7=>some (LX.out (false,y7))else some (LX.out (true,sr s q)))=Zt (some (LX.out ((qm q).2,sr s (qm q).1))):=by
  congr 1;unfold qm;simp only[ig hs hp,Nu hs hp,Aa,nI];cases h:atS q 0==46 with
  |false=>simp_all
  |true=>
   simp only[Zk,Aa,Ca,Im,Kb];cases h2:digB (atS q 1)with
   |false=>grind
   |true=> rw[Ca,Ka rfl,Xt hs hp (by grind),Hy hs (Gl hp 1)];rfl
 rw[e2,zG];have hw:=jM hp;generalize qm q=W at hw ⊢;obtain⟨w,i⟩:=W;simp only at hw ⊢;have e3:((zm (0,sr s w)).bind fun y9=>
   (zI (!(y9==101)) (zm (0,sr s w)) (default:Int)).bind fun y10=>
   bif bif y9==101 then true else y10==69 then
    Zt (X:=(Bool×Int)×zb) ((zm (1,sr s w)).bind fun y11=>bif bif y11==43 then true else y11==45 then some (LX.out ((i,2),sr s w))else some (LX.out ((i,1),sr s w))) fun j12=>
    (zm (j12.1.2,j12.2)).bind fun y13=>(Qv y13).bind fun y14=>
    bif y14 then(ZC (⟨j12.2.s,w64 (j12.2.at_+j12.1.2)⟩:zb)).bind fun y15=>some (LX.out (false,y15))else some (LX.out (j12.1.1,j12.2))
   else some (LX.out (i,sr s w)))=(some (LX.out (match expS w with|some r=>(false,sr s r)|none=>(i,sr s w))):Option (LX (Bool×zb) (Bool×zb))):=by
  simp only[ig hs hw,Aa,zGD];have e4:((zI (!(atS w 0==101)) (some (pk w 0)) (default:Int)).bind fun y10=>(some (bif atS w 0==101 then true else y10==69):Option Bool))=some (atS w 0==101||atS w 0==69):=by
   cases h:atS w 0==101 with
   |true=>rfl
   |false=>simp only[Xa,Zk,Aa,Ba,zHp,yf]
  have e5: ∀(f:Bool->Option (LX (Bool×zb) (Bool×zb))),((zI (!(atS w 0==101)) (some (pk w 0)) (default:Int)).bind fun y10=>f (bif atS w 0==101 then true else y10==69))=f (atS w 0==101||atS w 0==69):=by intro f;have:=congrArg (fun o=>Option.bind o f) e4;simpa [Option.bind_assoc] using this
  refine(e5 (fun b=>bif b then _ else _)).trans ?_;unfold expS;cases h:(atS w 0==101||atS w 0==69)with
  |false=>rfl
  |true=>
   have hne:atS w 0≠0:=by intro e;rw[e]at h;revert h;decide
   simp only[Ca,Vd,Nu hs hw,Aa,oI,ut,YI];unfold unsign;have hd:atS (w.drop 1) 0=atS w 1:=by rw[di w 1 0]
   rw[hd];cases hg:(atS w 1==43||atS w 1==45)with
   |true=>
    have hg':Vh (atS w 1)=true:=hg;have hl2:=Hu (uT hg');simp only[Ca,zG,zGC hs hw,Aa,Im,hg',Vd,Bf];rw[show atS (w.drop (1+1)) 0=atS w 2 by rw[di w 2 0]];cases hq:digB (atS w 2)with
    |false=>rfl
    |true=> rw[Ca,Ka rfl,show(2:Int)=((2:Nat):Int)from rfl,WC hs hw (by omega),Hy hs (Gl hw 2)];rfl
   |false=>
    have hg':Vh (atS w 1)=false:=hg;simp only[Ba,zG,Nu hs hw,Aa,Im,hg',Sb,Od];rw[hd];cases hq:digB (atS w 1)with
    |false=>rfl
    |true=> rw[Ca,Ka rfl,Xt hs hw hne,Hy hs (Gl hw 1)];rfl
 refine(congrArg (fun o=>Zt o _) e3).trans ?_;rw[zG];cases expS w<;>rfl
def valG(n:Nat)(l:Str):Nat:=l.foldl decN n
def d48(k:Nat):UInt8:=UInt8.ofNat (48+k)
def Aj(r:Nat):Str:=Lib.trimRightB [d48 (r / 100),d48 (r / 10%10),d48 (r%10)] 48
def eT(r:Nat):Bool:=(Aj r).all digB&&decide ((Aj r).length<=3)&&decide (valG 0 (Aj r)*10 ^ (3 - (Aj r).length)=r)&&((Aj r).isEmpty==(r==0))&& !((Aj r).getLast? ==some 48)
theorem zBN: ∀r,r<1000->eT r=true:=by decide+kernel
def JI(r:Nat)(p:Bool):Str:=bif (Aj r).isEmpty then(bif p then [46,48]else [])else 46::Aj r
def zHb(m:Nat)(p:Bool):Str:=Lib.decDigits (m / 1000)++JI (m%1000) p
def numT(n:Int)(p:Bool):Str:=(if n<0 then [45]else [])++zHb n.natAbs p
theorem Wv{b:UInt8}(h:digB b=true):48<=b.toNat/\b.toNat<=57:=by unfold digB at h;simpa using h
theorem WK: ∀(q:Str),q.all digB=true->Lib.indexByte q 46= -1
 |[],_=>rfl
 |c::q,h=>by
  rw[Ke,Ea]at h;have a:=Wv h.1;have b:(c==46)=false:=by refine Ga.2 (fun e=> ?_);subst e;revert a;decide
  rw[Lib.indexByte,b,WK q h.2];rfl
theorem XK: ∀(q g:Str),q.all digB=true->Lib.indexByte (q++46::g) 46=(q.length:Int)
 |[],g,_=>by rw[Gc,Lib.indexByte];rfl
 |c::q,g,h=>by
  rw[Ke,Ea]at h;have hd:=Wv h.1;have hc:(c==46)=false:=by refine Ga.2 (fun e=> ?_);subst e;revert hd;decide
  rw[Bb,Lib.indexByte,hc,XK q g h.2];have:((q.length:Int)== -1)=false:=Ga.2 (by omega);rw[this,Da];simp
theorem cK: ∀(l:Str),(l.all fun b=>digB b||b==46)=true->Lib.indexAny l [101,69]= -1
 |[],_=>rfl
 |c::l,h=>by
  rw[Ke,Ea]at h;have hc:List.contains [101,69] c=false:=by
   have: ∀n:Nat,n<256->(digB (UInt8.ofNat n)||UInt8.ofNat n==46)=true->List.contains [101,69] (UInt8.ofNat n)=false:=by decide+kernel
   have:=this c.toNat (Uc c);rw[Re]at this;exact this h.1
  rw[Lib.indexAny,hc,cK l h.2];rfl
def partT(r:Nat)(p:Bool):Str:=bif (Aj r).isEmpty then(bif p then [48]else [])else Aj r
theorem mJ{r:Nat}(h:r<1000)(p:Bool):(partT r p).all digB=true/\(partT r p).length<=3/\valG 0 (partT r p)*10 ^ (3 - (partT r p).length)=r/\JI r p=(bif (partT r p).isEmpty then []else 46::partT r p)/\((partT r p).isEmpty=((r==0)&& !p)):=by
 have f:=zBN r h;simp only[eT,Ea,Ua,Ob]at f;obtain⟨⟨⟨⟨a,b⟩,c⟩,d⟩,e⟩:=f;unfold partT JI;cases g:(Aj r).isEmpty with
 |true=>
  have i:r=0:=by rw[g]at d;exact Ob.1 d.symm
  subst i;cases p<;>refine⟨by decide,by decide,by decide,rfl,rfl⟩
 |false=>
  grind
theorem zDI{l:Str}(h:(l.all fun b=>digB b||b==46)=true):jg l=true:=by
 unfold jg;rw[Dc]at h ⊢;intro b hb;have:=h b hb;refine Fa ?_;rw[Yd]at this;rcases this with h1|h1
 ·have:=Wv h1;omega
 simp_all
theorem xJ{c:UInt8}(h:digB c=true):c≠45/\c≠43/\c≠46/\c≠0/\List.contains [43,45] c=false:=by
 have: ∀n:Nat,n<256->digB (UInt8.ofNat n)=true->UInt8.ofNat n≠45/\UInt8.ofNat n≠43/\UInt8.ofNat n≠46/\UInt8.ofNat n≠0/\List.contains [43,45] (UInt8.ofNat n)=false:=by decide+kernel
 have:=this c.toNat (Uc c);simp_all
end Go.Lv.VT
