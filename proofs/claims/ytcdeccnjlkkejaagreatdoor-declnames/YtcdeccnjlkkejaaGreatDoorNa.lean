/- How large values are. -/
import Derived.Test.YtcdeccnjlkkejaaGreatDoorIp
import Derived.Test.YtcdeccnjlkkejaaGreatDoorLaw
import Derived.Test.YtcdeccnjlkkejaaGreatDoorLf
import Derived.Test.YtcdeccnjlkkejaaGreatDoorMo
import Derived.Test.YtcdeccnjlkkejaaGreatDoorTx
import Derived.KernelRfl
set_option linter.unusedSimpArgs false
set_option linter.unusedVariables false
namespace Go.Lv.VT
mutual
/-- How large values are. -/
def szV:zb->Nat
 |⟨t,l⟩=>1+t.text.length+t.unit.length+szL l
def szL:List zb->Nat
 |[]=>0
 |v::r=>szV v+szL r
end
theorem Yi(v:zb):szV v=1+v.token.text.length+v.token.unit.length+szL v.list:=by obtain⟨t,l⟩:=v;rw[szV]
theorem Ao{v:zb}: ∀{l:List zb},v∈l->szV v<=szL l
 |[],h=>by cases h
 |x::l,h=>by
  rw[szL];rcases Kb.1 h with rfl|h
  ·omega
  ·have:=Ao h;omega
theorem Yh: ∀(l:List zb),l.length<=szL l
 |[]=>Ua _
 |v::r=>by rw[szL,Yi,Ka];have:=Yh r;omega
theorem UB(n:Nat):decide ((n:Int)>0)=decide (0<n):=by
 grind
theorem XF(k:Int):qj k=some (zJ k):=by
 unfold qj zJ;by_cases b:k=19
 ·subst b;rfl
 by_cases d:k=21
 ·subst d;rfl
 by_cases c:k=2
 ·subst c;rfl
 by_cases a:k=23
 ·subst a;rfl
 have g:(k==19)=false:=Ja.2 b;have h:(k==21)=false:=Ja.2 d;have e:(k==2)=false:=Ja.2 c;have f:(k==23)=false:=Ja.2 a;simp only[g,h,e,f,Da,zh,b,d,c,a,Ld,or_self]
mutual
/-- The depth of values. -/
def Ph:zb->Nat
 |⟨t,l⟩=>if zJ t.kind=0 then 0 else 1+Hf l
def Hf:List zb->Nat
 |[]=>0
 |v::r=>max (Ph v) (Hf r)
end
theorem mV(v:zb):Ph v=if zJ v.token.kind=0 then 0 else 1+Hf v.list:=by obtain⟨t,l⟩:=v;rw[Ph]
mutual
theorem lV: ∀v:zb,Ph v<=szV v
 |⟨t,l⟩=>by rw[Ph,szV];have:=kC l;split<;>omega
theorem kC: ∀l:List zb,Hf l<=szL l
 |[]=>Ua _
 |v::r=>by rw[Hf,szL];have:=lV v;have:=kC r;omega
end
theorem SC{l:List zb}: ∀{i:Nat} (h:i<l.length),szL (l.take (i+1))=szL (l.take i)+szV l[i]:=by
 induction l with
 |nil=>grind
 |cons v r a=>
  intro i h;cases i with
  |zero=>simp[szL]
  |succ i=>
   simp only[Bg,szL,List.getElem_cons_succ]
   grind
theorem JE(l:List zb)(i:Nat):szL (l.take i)<=szL l:=by
 induction l generalizing i with
 |nil=>simp
 |cons v r a=>
  cases i with
  |zero=>simp[szL]
  |succ i=>simp only[Bg,szL];grind
mutual
/-- The tokens of values. -/
def tokV:zb->List ze
 |⟨t,l⟩=>t::if zJ t.kind=0 then []else tokL l++[⟨zJ t.kind,[],0,[],false⟩]
def tokL:List zb->List ze
 |[]=>[]
 |v::r=>tokV v++tokL r
end
theorem yn(v:zb):tokV v=v.token::if zJ v.token.kind=0 then []else tokL v.list++[⟨zJ v.token.kind,[],0,[],false⟩]:=by obtain⟨t,l⟩:=v;rw[tokV]
mutual
theorem Ov: ∀v:zb,(tokV v).length<=2*szV v
 |⟨t,l⟩=>by
  rw[tokV,szV];have:=Er l
  grind
theorem Er: ∀l:List zb,(tokL l).length<=2*szL l
 |[]=>Ua _
 |v::r=>by rw[tokL,szL,Ha];have:=Ov v;have:=Er r;omega
end
theorem LD: ∀(l:List zb) (a:List ze),l.foldl (fun a v=>a++tokV v) a=a++tokL l
 |[],a=>by simp[tokL]
 |v::l,a=>by rw[Df,LD l,tokL,Oa]
mutual
/-- Whether lists are those of blocks, and have not their closers. -/
def shV:zb->Int->Bool
 |⟨t,l⟩,c=> !((zJ t.kind==0&&decide (0<l.length))||(c != 0&&t.kind==c)||(zJ t.kind != 0&& !(shL l (zJ t.kind))))
def shL:List zb->Int->Bool
 |[],_=>true
 |v::r,c=>shV v c&&shL r c
end
theorem KQ(v:zb)(c:Int):shV v c= !((zJ v.token.kind==0&&decide (0<v.list.length))||(c != 0&&v.token.kind==c)||(zJ v.token.kind != 0&& !(shL v.list (zJ v.token.kind)))):=by obtain⟨t,l⟩:=v;rw[shV]
def Ol(l:List zb)(c:Int):zw:=⟨Hf l,(tokL l).length, !(shL l c)⟩
theorem yL(c:Int): ∀(l:List zb) (a:Nat×Nat×Bool),l.foldl (fun a v=>(max a.1 (Ph v),a.2.1+(tokV v).length,a.2.2|| !(shV v c))) a=(max a.1 (Hf l),a.2.1+(tokL l).length,a.2.2|| !(shL l c))
 |[],a=>by simp[Hf,tokL,shL]
 |v::l,a=>by
  rw[Df,yL c l,Hf,tokL,shL,Ha];simp only[Prod.mk.injEq]
  grind
theorem bB(a b:Bool):(bif a then true else b)=(a||b):=by cases a<;>rfl
theorem vV(a b:Bool):(bif a then b else false)=(a&&b):=by cases a<;>rfl
theorem J2{l:List zb}{c:Int}(h:szL l<=big):qo (l,c)=some (Ol l c):=by
 refine Px (fun x:List zb×Int=>szL x.1) (fun x=>szL x.1<=big) (fun x=>Ol x.1 x.2) (fun S x C E=> ?_) h;obtain⟨l,c⟩:=x;simp only at C E ⊢;unfold Ep;have B:=Yh l;refine(kr l (fun i (a:Nat×Nat×Bool)=>((i:Int),(⟨(a.1:Int),(a.2.1:Int),a.2.2⟩:zw))) (fun v a=>some (.again (max a.1 (Ph v),a.2.1+(tokV v).length,a.2.2|| !(shV v c)))) (fun a=>some (.out (⟨(a.1:Int),(a.2.1:Int),a.2.2⟩:zw))) (fun i a=>a.2.1<=2*szL (l.take i)) (a:=(0,0,false)) rfl (by simp) (fun i a j J=> ?_) (fun a _=> ?_) (r:= .out (Ol l c)) ?_)
 ·have N:=Ao (Gd j);have H:=Yi l[i];have m:=mV l[i];have O:=kC l[i].list;have o:=yn l[i];have P:=Er l[i].list;have e:=KQ l[i] c;have K:=SC j;have G:=JE l (i+1);have Q:=Ov l[i];have w:szL l[i].list<=big:=by omega
  have y:szL l[i].list<szL l:=by omega
  have p:S (l[i].list,zJ l[i].token.kind)=some (Ol l[i].list (zJ l[i].token.kind)):=E (l[i].list,zJ l[i].token.kind) w y;obtain⟨d,n,b⟩:=a;simp only at J;have D:=QK j (by omega);unfold big at C;have u:w64 ((n:Int)+1)=((n+1:Nat):Int):=by rw[w64,Qg (by omega) (by omega)];omega
  refine⟨?_,fun R T=> ?_⟩
  ·have L:decide ((l[i].list.length:Int)>0)=decide (0<l[i].list.length):=UB _;simp only[Dh j,Ea,zg,qI j,Aa,XF,lc,u,bne,L,bB,vV];by_cases k:zJ l[i].token.kind=0
   ·rw[Ia k]at m o;simp only[k,beq_self_eq_true,Ab,Ib,Nb,He,bne]at e ⊢;rw[e,m,o];rcases Te (decide (0<l[i].list.length))with F|F<;>rcases Te (c==0)with g|g<;>rcases Te (l[i].token.kind==c)with f|f<;>
     simp[F,g,f,D,Ea,Da]
   ·rw[Fa k]at m o;have s:(zJ l[i].token.kind==0)=false:=Ja.2 k;have z:w64 ((Hf l[i].list:Int)+1)=((1+Hf l[i].list:Nat):Int):=by rw[w64,Qg (by omega) (by omega)];omega
    have t:w64 (((n+1:Nat):Int)+((tokL l[i].list).length:Int))=((n+1+(tokL l[i].list).length:Nat):Int):=by rw[w64,Qg (by omega) (by omega)];omega
    have A:w64 (((n+1+(tokL l[i].list).length:Nat):Int)+1)=((n+(1+((tokL l[i].list).length+1)):Nat):Int):=by rw[w64,Qg (by omega) (by omega)];omega
    have q:(tokV l[i]).length=1+((tokL l[i].list).length+1):=by rw[o];simp;omega
    have M:(if((1+Hf l[i].list:Nat):Int)>(d:Int)then((1+Hf l[i].list:Nat):Int)else(d:Int))=((max d (1+Hf l[i].list):Nat):Int):=by split<;>omega
    rw[e,m,q];simp only[s,p,Nb,Xa,Ab,He,xc,Da,bne,Aa,Ol];rcases Te (c==0)with g|g<;>rcases Te (l[i].token.kind==c)with f|f<;>
     simp only[g,f,D,z,t,A,M,Ea,Da,zh,Ib,Xa,Ab,Sb,Pd,Nb,Gg,He,Ae,xc,Bool.not_not]
  grind
 ·grind
 ·rw[Pt (fun a v=>(max a.1 (Ph v),a.2.1+(tokV v).length,a.2.2|| !(shV v c))) (fun v a=>rfl),yL];simp[Ol]
theorem ui{a b:List zb}(h:a.Sublist b):szL a<=szL b:=by
 induction h with
 |slnil=>grind
 |cons v _ c=>rw[szL];omega
 |cons_cons v _ c=>rw[szL,szL];omega
theorem Dp(l:List zb):l=[]\/ ∃t v,l=t++[v]:=by
 rcases List.eq_nil_or_concat l with h|⟨t,v,h⟩
 ·exact .inl h
 grind
def isSp(v:zb):Bool:=v.token.kind==13
def trimB(l:List zb):List zb:=(l.reverse.dropWhile isSp).reverse
theorem nW:trimB []=[]:=rfl
theorem Ey(t:List zb)(v:zb):trimB (t++[v])=if isSp v then trimB t else t++[v]:=by
 unfold trimB;rw[List.reverse_append];simp only[List.reverse_cons,List.reverse_nil,Xb,Ta,De]
 grind
theorem jo(l:List zb):(trimB l).Sublist l:=by
 unfold trimB
 grind
def trimS(l:List zb):List zb:=trimB (l.dropWhile isSp)
theorem AV(l:List zb):szL (trimS l)<=szL l:=ui ((jo _).trans (Xe _))
theorem vv(p:zb->Bool): ∀(l:List zb),l.drop (l.length - (l.dropWhile p).length)=l.dropWhile p
 |[]=>rfl
 |v::r=>by
  rw[De];split
  ·have h:=List.Sublist.length_le (Xe p (l:=r));rw[Ka,Nat.succ_sub h,List.drop_succ_cons];exact vv p r
  ·simp
def errS(l:List zb):Int:=if 16<Hf l then 20 else if 1500<(tokL l).length then 4 else if shL l 0 then 0 else 8
theorem Rt{l:List zb}(h:szL l<=big):Z7 l=some (errS l):=by
 unfold Z7 errS;simp only[zg,J2 h,Aa,Ol]
 grind
theorem bV{l:List zb}{a:List ze}(h:szL l<=big)(e:a.length+2*szL l<=4*big):Zz (l,a)=some (a++tokL l):=by
 refine Px (fun z=>szL z.1) (fun z=>szL z.1<=big/\z.2.length+2*szL z.1<=4*big) (fun z=>z.2++tokL z.1) (fun S z q s=> ?_) (x:=(l,a)) ⟨h,e⟩;obtain⟨l,a⟩:=z;obtain⟨h,e⟩:=q;have h:szL l<=big:=h;have e:a.length+2*szL l<=4*big:=e;have j:=Yh l;unfold Q3;refine(kr l (fun i (b:List ze)=>((i:Int),b)) (fun v b=>some (.again (b++tokV v))) (fun b=>some (.out b)) (fun i b=>b.length<=a.length+2*szL (l.take i)) (a:=a) rfl (by simp) (fun i b d A=> ?_) (fun b _=> ?_) (r:= .out (a++tokL l)) ?_).trans rfl
 ·have o:=Ao (Gd d);have y:=Yi l[i];have f:=yn l[i];have p:=Er l[i].list;have B:=SC d;have u:=JE l (i+1);have w:=Ov l[i];unfold big at h e;have c: ∀n m:Nat,n+m<=100000000->zD n m 56=true:=fun n m h=>dh (by omega);refine⟨?_,fun C k=> ?_⟩
  ·simp only[Dh d,Ea,zg,qI d,Aa,XF];by_cases g:zJ l[i].token.kind=0
   ·rw[Ia g]at f;simp[g,f,QK d (by unfold big;omega),c b.length 1 (by omega)]
   ·rw[Fa g]at f;rw[s (l[i].list,b++[l[i].token]) ⟨by grind,by grind⟩ (by grind)];have t:(zJ l[i].token.kind != 0)=true:=Ef.2 g;simp[t,f,QK d (by unfold big;omega),c b.length 1 (by omega),c (b.length+((tokL l[i].list).length+1)) 1 (by omega)]
  ·grind
 ·grind
 ·rw[Pt (fun a v=>a++tokV v) (fun v a=>rfl),LD]
theorem gJ{l:List zb}(h:szL l<=big):qZ l=some (tokL l):=by
 have g:=Yh l;unfold qZ;refine(kr l (fun i (b:List ze)=>((i:Int),b)) (fun v b=>some (.again (b++tokV v))) (fun b=>some (.out b)) (fun i b=>b.length<=2*szL (l.take i)) (a:=[]) rfl (by simp) (fun i b d u=> ?_) (fun b _=> ?_) (r:= .out (tokL l)) ?_).trans rfl
 ·have k:=Ao (Gd d);have t:=Yi l[i];have e:=yn l[i];have o:=Er l[i].list;have w:=SC d;have q:=JE l (i+1);have s:=Ov l[i];unfold big at h;have c: ∀n m:Nat,n+m<=100000000->zD n m 56=true:=fun n m h=>dh (by omega);refine⟨?_,fun x j=> ?_⟩
  ·simp only[Dh d,Ea,zg,qI d,Aa,XF];by_cases f:zJ l[i].token.kind=0
   ·rw[Ia f]at e;simp[f,e,QK d (by unfold big;omega),c b.length 1 (by omega)]
   ·rw[Fa f]at e;rw[bV (a:=b++[l[i].token]) (show szL l[i].list<=big by unfold big;omega) (by grind)];have p:(zJ l[i].token.kind != 0)=true:=Ef.2 f;simp[p,e,QK d (by unfold big;omega),c b.length 1 (by omega),c (b.length+((tokL l[i].list).length+1)) 1 (by omega)]
  ·grind
 ·grind
 ·rw[Pt (fun a v=>a++tokV v) (fun v a=>rfl),LD];simp
theorem U2{l:List zb}(h:szL l<=big):Hm l=some (if errS l=0 then(tokL l,0)else([],errS l)):=by
 unfold Hm;simp only[Rt h,zg,Aa];by_cases he:errS l=0
 ·have:(errS l != 0)=false:=by rw[he];rfl
  rw[this,Da,gJ h,Ia he];rfl
 grind
def szP:List (List zb)->Nat
 |[]=>0
 |l::r=>1+szL l+szP r
theorem KI{v:List zb}: ∀{l:List (List zb)},v∈l->szL v<=szP l
 |[],h=>by cases h
 |x::l,h=>by
  rw[szP];rcases Kb.1 h with rfl|h
  ·omega
  ·have:=KI h;omega
theorem tH: ∀(l:List (List zb)),l.length<=szP l
 |[]=>Ua _
 |v::r=>by rw[szP,Ka];have:=tH r;omega
theorem gX{R:Type}(x:Option R):both x x=x:=by unfold both;rw[Ia rfl]
theorem xV{l:List zb}(h:szL l<=big):qW l=some l:=by
 unfold qW;have b:=Yh l;unfold big at h;have a:zD 0 l.length 80=true:=dh (by omega);cases l with
 |nil=>simp only[a,gX,zR,List.isEmpty_nil,Ea]
 |cons v r=>simp_all
theorem NB{l:List zb}(h:szL l<=big):Qd l=some l:=by
 refine Px (fun l=>szL l) (fun l=>szL l<=big) (fun l=>l) (fun S l hl hS=> ?_) h;unfold Gy;have hlen:=Yh l;simp only[zg,xV hl,Aa];refine(kr l (fun i (a:List zb)=>((i:Int),a)) (fun v a=>some (.again a)) (fun a=>some (.out a)) (fun i a=>a=l) (a:=l) rfl rfl (fun i a hi hI=> ?_) (fun a hI=> ?_) (r:= .out l) ?_)
 ·subst hI;have hsz:=Ao (Gd hi);have hv2:=Yi a[i];refine⟨?_,fun a' ha=>by cases ha;rfl⟩;have h1:S a[i].list=some a[i].list:=hS a[i].list (by omega) (by omega);have h2:decide ((0:Int)<=(i:Int))=true:=Ga (by omega);have h3:a[i]? =some a[i]:=Sa hi;have h4:a.set i ⟨a[i].token,a[i].list⟩=a:=by
   have:(⟨a[i].token,a[i].list⟩:zb)=a[i]:=by cases a[i];rfl
   rw[this,List.set_getElem_self]
  simp only[Dh hi,h2,Bool.and_self,Ea,zR,Va,h3,Aa,h1,h4,QK hi (by omega),lc]
 ·grind
 ·rw[Pt (fun a v=>a) (fun v a=>rfl)];congr 2;clear hl hS hlen h;generalize l=b at*;have: ∀(m b:List zb),m.foldl (fun a _=>a) b=b:=by
   intro m
   induction m with
   |nil=>intro b;rfl
   |cons v m ih=>grind
  exact this _ _
theorem au{l:List zb}{i:Nat}(h:i<l.length):Gp ((i:Int),l)=some (isSp l[i]):=by unfold Gp;simp only[zg,qI h,Aa];rfl
theorem OX{l:List zb}(h:szL l<=big):Bt l=some (if errS l=0 then(trimS l,0)else([],errS l)):=by
 unfold Bt;have hlen:=Yh l;simp only[zg,Rt h,Aa];by_cases h1:errS l=0
 ·rw[Ia h1];have hne:(errS l != 0)=false:=by simp[h1]
  simp only[hne,Da];have hdl:=List.Sublist.length_le (Xe isSp (l:=l));have hdd:=vv isSp l;refine(Bi (r:= .out ((l.length - (l.dropWhile isSp).length:Nat):Int)) (ZT (fun s=> ∃k:Nat,s=(k:Int)/\k<=l.length/\(l.drop k).dropWhile isSp=l.dropWhile isSp) (fun s=>l.length - s.toNat) _ (fun s hs=> ?_) ⟨0,rfl,Vb _,rfl⟩)).trans ?_
  ·obtain⟨k,rfl,hk,he⟩:=hs;by_cases hlt:k<l.length
   ·rw[ma hlt,De]at he;have hw:=QK hlt (by grind);cases hv:isSp l[k]with
    |true=> rw[Ia hv]at he;refine .inl ⟨((k+1:Nat):Int),?_,⟨k+1,rfl,hlt,he⟩,by omega⟩;simp only[Dh hlt,zS,au hlt,Aa,hv,Ea,hw]
    |false=>
     rw[Fa (by rw[hv];simp)]at he;refine .inr (.inl ⟨(k:Int),?_,?_⟩)
     ·simp only[Dh hlt,zS,au hlt,Aa,hv,Ea,Da]
     grind
   ·have hkk:k=l.length:=by omega
    simp_all
  ·rw[zke];generalize hf:l.length - (l.dropWhile isSp).length=f at hdd;have hfl:f<=l.length:=by omega
   generalize l.dropWhile isSp=d at hdd;subst hdd;refine(Bi (r:= .out ((f+(trimB (l.drop f)).length:Nat):Int)) (ZT (fun s=> ∃m:Nat,s=(m:Int)/\f<=m/\m<=l.length/\trimB ((l.take m).drop f)=trimB (l.drop f)) (fun s=>s.toNat) _ (fun s hs=> ?_) ⟨l.length,rfl,hfl,Ua _,by grind⟩)).trans ?_
   ·obtain⟨m,rfl,hm1,hm2,he⟩:=hs;by_cases hlt:f<m
    ·have hm:m - 1<l.length:=by omega
     have hsn:(l.take m).drop f=(l.take (m - 1)).drop f++[l[m - 1]]:=by
      have:l.take m=l.take (m - 1)++[l[m - 1]]:=by
       have:=Gc hm
       rwa [show m - 1+1=m by omega]at this
      rw[this,bf (by rw[Lc];omega)]
     rw[hsn,Ey]at he;have h2:decide ((f:Int)<(m:Int))=true:=Ga (by omega);have hw:w64 ((m:Int) - 1)=((m - 1:Nat):Int):=by rw[w64,Qg (by omega) (by unfold big at h;omega)];omega
     cases hv:isSp l[m - 1]with
     |true=> rw[Ia hv]at he;refine .inl ⟨((m - 1:Nat):Int),?_,⟨m - 1,rfl,by omega,by omega,he⟩,by omega⟩;simp only[h2,zS,hw,au hm,Aa,hv,Ea]
     |false=>
      rw[Fa (by rw[hv];simp)]at he;refine .inr (.inl ⟨(m:Int),?_,?_⟩)
      ·simp only[h2,zS,hw,au hm,Aa,hv,Ea,Da]
      ·rw[<-he];congr 1;simp;omega
    ·have hmm:m=f:=by omega
     subst hmm;have h2:decide ((m:Int)<(m:Int))=false:=aa (by omega);refine .inr (.inl ⟨(m:Int),?_,?_⟩)
     ·simp only[h2,ZH,Aa,Da]
     ·rw[We (by rw[Lc];omega),nW]at he;rw[<-he];simp
   ·rw[zke];have htl:=List.Sublist.length_le (jo (l.drop f));rw[Pb]at htl;have hcut:List.drop f (List.take (f+(trimB (l.drop f)).length) l)=trimB (l.drop f):=by
     rw[List.drop_take];have: ∀d:List zb,d.take (trimB d).length=trimB d:=by intro d;unfold trimB;rw[List.length_reverse];have h3:=vv isSp d.reverse;have h4:=List.Sublist.length_le (Xe isSp (l:=d.reverse));rw[List.length_reverse]at h3 h4;rw[<-h3,List.drop_reverse,List.reverse_reverse];congr 1;simp
     have e:=this (l.drop f);rw[show f+(trimB (l.drop f)).length - f=(trimB (l.drop f)).length by omega];exact e
    have hneed:(decide ((0:Int)<=(f:Int))&&(decide ((f:Int)<=((f+(trimB (l.drop f)).length:Nat):Int))&&(decide (((f+(trimB (l.drop f)).length:Nat):Int)<=((f+(trimB (l.drop f)).length:Nat):Int))&&decide (((f+(trimB (l.drop f)).length:Nat):Int)<=(l.length:Int))))&&decide True)=true:=by simp only[Ca,Eb];refine⟨?_,trivial⟩;omega
    have hts:trimS l=trimB (l.drop f):=by unfold trimS;rw[<-vv isSp l,hf]
    simp only[hneed,zR,Va,hcut,NB (Ub (ui ((jo _).trans (List.drop_sublist _ _))) h),Aa,hts]
 grind
def Xg(k:Int)(a:List (List zb)×List zb)(v:zb):List (List zb)×List zb:=
 if v.token.kind==k then(a.1++[a.2],[])else(a.1,a.2++[v])
def Rf(k:Int)(l:List zb):List (List zb)×List zb:=l.foldl (Xg k) ([],[])
def Rh(k:Int)(l:List zb):List (List zb):=(Rf k l).1++[(Rf k l).2]
theorem RY{k:Int}{l:List zb}{i:Nat}(h:i<l.length):Rf k (l.take (i+1))=Xg k (Rf k (l.take i)) l[i]:=by unfold Rf;rw[Gc h,List.foldl_append];rfl
theorem UM(a b:List (List zb)):szP (a++b)=szP a+szP b:=by
 induction a with
 |nil=>simp[szP]
 |cons x a c=>simp only[Ta,szP,c];omega
theorem mD(a b:List zb):szL (a++b)=szL a+szL b:=by
 induction a with
 |nil=>simp[szL]
 |cons x a c=>simp only[Ta,szL,c];omega
theorem ow(k:Int): ∀(l:List zb) (a:List (List zb)×List zb),szP (l.foldl (Xg k) a).1+szL (l.foldl (Xg k) a).2<=szP a.1+szL a.2+szL l/\(l.foldl (Xg k) a).1.length<=a.1.length+l.length/\(l.foldl (Xg k) a).2.length<=a.2.length+l.length
 |[],a=>by simp[szL]
 |v::l,a=>by
  rw[Df];obtain⟨e,c,b⟩:=ow k l (Xg k a v);have d:=Yi v;have:szP (Xg k a v).1+szL (Xg k a v).2<=szP a.1+szL a.2+szV v/\(Xg k a v).1.length<=a.1.length+1/\(Xg k a v).2.length<=a.2.length+1:=by
   unfold Xg;split
   ·simp only[UM,szP,szL,Ha,Ka,Jb];omega
   ·simp only[mD,szL,Ha,Ka,Jb];omega
  rw[szL,Ka];omega
theorem sV(k:Int)(l:List zb):szP (Rh k l)<=szL l+1:=by obtain⟨c,_,_⟩:=ow k l ([],[]);unfold Rh Rf;rw[UM,szP,szP];have b:szP ([]:List (List zb))=0:=rfl;have a:szL ([]:List zb)=0:=rfl;simp only[b,a]at c;omega
theorem bY{l:List zb}{k:Int}(h:szL l<=big):Tt (l,k)=some (if errS l=0 then(if k<1\/24<k then([],2)else(Rh k l,0))else([],errS l)):=by
 unfold Tt;have hlen:=Yh l;simp only[zg,Rt h,Aa];by_cases h1:errS l=0
 ·have hne:(errS l != 0)=false:=by simp[h1]
  rw[Ia h1];simp only[hne,Da,bB];by_cases h2:k<1\/24<k
  ·have:(decide (k<1)||decide (k>24))=true:=by simpa using h2
   rw[Ia h2,this];rfl
  ·have:(decide (k<1)||decide (k>24))=false:=by rw[Je];exact⟨aa (by omega),aa (by omega)⟩
   rw[Fa h2,this];simp only[Da];refine(Bi (r:= .out (((l.length - (Rf k l).2.length:Nat):Int),(Rf k l).1)) (ZT (fun s=> ∃i from_:Nat,s=(((from_:Int),(i:Int)),(Rf k (l.take i)).1)/\from_<=i/\i<=l.length/\(Rf k (l.take i)).2=(l.take i).drop from_) (fun s=>l.length - s.1.2.toNat) _ (fun s hs=> ?_) ⟨0,0,by simp[Rf],Ua _,Vb _,by simp[Rf]⟩)).trans ?_
   ·obtain⟨i,fr,rfl,hfi,hil,he⟩:=hs;by_cases hi:i<l.length
    ·refine .inl ?_;have hw:=QK hi (by unfold big at h ⊢;omega);have hpt:=RY (k:=k) hi;have htk:l.take (i+1)=l.take i++[l[i]]:=Gc hi;unfold Xg at hpt;simp only[Dh hi,Ea,qI hi,Aa];cases hv:(l[i].token.kind==k)with
     |true=>
      rw[Ia hv]at hpt;have hn:(decide ((0:Int)<=(fr:Int))&&(decide ((fr:Int)<=(i:Int))&&(decide ((i:Int)<=(i:Int))&&decide ((i:Int)<=(l.length:Int))))&&decide True)=true:=by simp only[Ca,Eb];refine⟨?_,trivial⟩;omega
      have hsz:szL (List.drop fr (List.take i l))<=big:=Ub (ui ((List.drop_sublist _ _).trans (List.take_sublist _ _))) h;have hpl:=(ow k (l.take i) ([],[])).2.1;have hap:zD (Rf k (l.take i)).1.length 1 24=true:=dh (by
       unfold Rf;have:=List.length_take_le i l;unfold big at h;simp only[Jb]at hpl;omega)
      refine⟨((((i+1:Nat):Int),((i+1:Nat):Int)),(Rf k (l.take (i+1))).1),?_,⟨i+1,i+1,rfl,Ua _,hi,?_⟩,?_⟩
      ·simp only[Ea,hn,zR,Va,NB hsz,Aa,hap,hw,zh,hpt,he]
      ·rw[hpt];simp
      ·simp only[Va];omega
     |false=>
      rw[Fa (by rw[hv];simp)]at hpt;refine⟨(((fr:Int),((i+1:Nat):Int)),(Rf k (l.take (i+1))).1),?_,⟨i+1,fr,rfl,by omega,hi,?_⟩,?_⟩
      ·simp only[Da,zh,hw,hpt]
      ·rw[hpt,htk,he,bf (by rw[Lc];omega)]
      ·simp only[Va];omega
    ·have hil:i=l.length:=by omega
     subst hil;rw[List.take_length]at he ⊢;refine .inr (.inl ⟨((fr:Int),(Rf k l).1),by simp only[uj,Da],?_⟩);rw[he,Pb];congr 2;omega
   ·rw[zke]
    -- the last part is behind
    have key: ∀(m:List zb) (a:List (List zb)×List zb) (p:List zb),a.2<:+p->(m.foldl (Xg k) a).2<:+p++m:=by
     intro m
     induction m with
     |nil=>intro a p h;simpa using h
     |cons v m ih=>
      intro a p h;rw[Df];have:(Xg k a v).2<:+p++[v]:=by
       unfold Xg;split
       ·exact List.nil_suffix
       ·obtain⟨q,hq⟩:=h;exact⟨q,by rw[<-hq,Oa]⟩
      have:=ih _ _ this
      rwa [Oa]at this
    have hsuf:=key l ([],[]) [] (Oe _);rw[Xb]at hsuf;have hdr:List.drop (l.length - (Rf k l).2.length) l=(Rf k l).2:=by unfold Rf;exact(List.suffix_iff_eq_drop.1 hsuf).symm
    have hsz:szL (Rf k l).2<=big:=by have:=ui hsuf.sublist;unfold Rf;omega
    have hle:(Rf k l).2.length<=l.length:=by unfold Rf;exact hsuf.length_le
    have hn:(decide ((0:Int)<=((l.length - (Rf k l).2.length:Nat):Int))&&decide (((l.length - (Rf k l).2.length:Nat):Int)<=(l.length:Int)))=true:=by simp only[Ca,Eb];omega
    have hpl:=(ow k l ([],[])).2.1;have hap:zD (Rf k l).1.length 1 24=true:=dh (by
     unfold Rf;unfold big at h;simp only[Jb]at hpl;omega)
    simp only[hn,zR,Va,hdr,NB hsz,Aa,hap];rfl
 ·have h2:(errS l != 0)=true:=Ef.2 h1;rw[Fa h1];simp only[h2,Ea]
end Go.Lv.VT

namespace Go.Lv
namespace VT
def mx{α:Type}(f:α->Nat):List α->Nat
 |[]=>0
 |v::l=>max (f v) (mx f l)
end VT
end Go.Lv

namespace Go.Lv.VT
set_option maxRecDepth 100000
inductive Cuts (k:Int):List zb->List (List zb)->Prop
 |one (p:List zb) (h: ∀x∈p,(x.token.kind==k)=false):Cuts k p [p]
 |more (p:List zb) (s:zb) (v:List zb) (ps:List (List zb)) (h: ∀x∈p,(x.token.kind==k)=false) (hs:(s.token.kind==k)=true) (hc:Cuts k v ps):Cuts k (p++s::v) (p::ps)
theorem wM(d:List zb): ∃r,d=trimB d++r/\(∀x∈r,isSp x=true)/\(trimB d=[]\/ ∃t v,trimB d=t++[v]/\isSp v=false):=by
 induction hn:d.length generalizing d with
 |zero=>
  obtain rfl:=List.length_eq_zero_iff.1 hn;exact⟨[],rfl,fun x hx=>(by cases hx), .inl rfl⟩
 |succ n ih=>
  rcases Dp d with rfl|⟨t,v,rfl⟩
  ·cases hn
  ·rw[Ey];cases hv:isSp v with
   |true=>
    rw[Ia rfl];obtain⟨r,h1,h2,h3⟩:=ih t (by rw[Ha]at hn;simpa using hn);refine⟨r++[v],by rw[<-Oa,<-h1],fun x hx=> ?_,h3⟩;rcases Ed.1 hx with hx|hx
    ·exact h2 x hx
    ·rw[Ad.1 hx];exact hv
   |false=> rw[Fa (by decide)];exact⟨[],(Cb _).symm,fun x hx=>(by cases hx), .inr ⟨t,v,rfl,hv⟩⟩
theorem rD: ∀(v:List zb),∃a,v=a++v.dropWhile isSp/\(∀x∈a,isSp x=true)/\ ∀x b,v.dropWhile isSp=x::b->isSp x=false
 |[]=>⟨[],rfl,fun x hx=>(by cases hx),fun x b h=>(by cases h)⟩
 |y::v=>by
  obtain⟨a,h1,h2,h3⟩:=rD v;cases hy:isSp y with
  |true=>
   rw[List.dropWhile_cons_of_pos hy];refine⟨y::a,by rw[Ta,<-h1],fun x hx=> ?_,h3⟩;rcases Kb.1 hx with rfl|hx
   ·exact hy
   ·exact h2 x hx
  |false=> rw[List.dropWhile_cons_of_neg (by rw[hy];decide)];exact⟨[],rfl,fun x hx=>(by cases hx),fun x b h=>(by cases h;exact hy)⟩
end Go.Lv.VT
