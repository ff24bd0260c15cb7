/- What is read of the texts of declarations: their tokens, their values, and they themselves. -/
import Derived.Test.YtkecjfeffabgiaaGreatDoorXf
import Derived.Test.YtkecjfeffabgiaaGreatDoorXh
import Derived.Test.YtkecjfeffabgiaaGreatDoorXc
import Derived.Test.YtkecjfeffabgiaaGreatDoorXg
import Derived.Test.YtkecjfeffabgiaaGreatDoorXb
set_option linter.unusedSimpArgs false
set_option linter.unusedVariables false
namespace Go.Lv.VT
set_option maxRecDepth 100000
abbrev leaf(t:zg):zb:=⟨t,[]⟩
abbrev tkId(n:Str):zg:=⟨1,n,0,[],false⟩
abbrev Gh:zg:=⟨16,[],0,[],false⟩
abbrev ui:zg:=⟨9,[33],0,[],false⟩
def sfx(y:Str):Prop:=y=[]\/ ∃d z,y=d::z/\sfB d z
theorem tu(z:Str):sfx (32::z):= .inr ⟨_,_,rfl, .inr (.inr (.inl rfl))⟩
theorem Rv:Zb []=[]:=Q6 (ZR rfl)
theorem I5{s y:Str}{P:List zg}(h:PcT s P)(h13: ∀ts t,P=ts++[t]->t.kind≠13)(hy:sfx y):Zb (s++y)=P++Zb y:=by
 rcases hy with rfl|⟨d,z,rfl,hs⟩
 ·rw[Xa,OE h,Rv,Xa]
 ·exact Sq (J3 (fZ hs) h fun ts t e q=>absurd q (h13 ts t e))
theorem zKJ{x:List zg}{y:Str}(hr:Il x)(h13: ∀ts t,x=ts++[t]->t.kind≠13)(hy:sfx y):Zb (wrS x++y)=x++Zb y:=by
 rcases hy with rfl|⟨d,z,rfl,hs⟩
 ·rw[Xa,(IL hr).1,Rv,Xa]
 ·exact zK6 (fZ hs) hr fun ts t e q=>absurd q (h13 ts t e)
theorem zKQ{n:Str}(h0:n≠[])(h:Zy n=true):PcT (ZB n) [tkId n]:=by
 have:=PcT.one (tkId n) (.cId n h0 h) (fun e=>by cases e.1) rfl
 rwa [Vo]at this
theorem M5{t:zg}(h:t.kind≠13): ∀ts u,[t]=ts++[u]->u.kind≠13:=by
 intro ts u e;cases ts with
 |nil=>injection e with e _;rw[<-e];exact h
 |cons a b=>have:=congrArg List.length e;simp at this
theorem Pn{n y:Str}(h0:n≠[])(h:Zy n=true)(hy:sfx y):Zb (ZB n++y)=tkId n::Zb y:=I5 (zKQ h0 h) (M5 (show(1:Int)≠13 by decide)) hy
structure zI1 (v:List zb):Prop where
 r:Il (tokL v)
 h:Ei v
 e:Kh v
theorem zCY(v:zb)(hv:isSp v=false): ∃us t,tokV v=us++[t]/\t.kind≠13:=by
 rw[Gq];by_cases h:zC v.token.kind=0
 ·rw[Ka h];exact⟨[],_,rfl,fun e=>by unfold isSp at hv;rw[e]at hv;cases hv⟩
 ·rw[Ia h,<-Sa];refine⟨_,_,rfl,?_⟩;show zC v.token.kind≠13;unfold zC;split
  ·decide
  split
  ·decide
  split
  ·decide
  ·decide
theorem zFG{v:List zb}(h:Kh v): ∀ts t,tokL v=ts++[t]->t.kind≠13:=by
 intro ts t e;rcases Po v with rfl|⟨q,z,rfl⟩
 ·rw[tokL]at e;have:=congrArg List.length e;simp at this
 ·obtain⟨us,u,h1,h2⟩:=zCY z (h q z rfl);rw[Us,zFs,h1,<-La]at e;have:=List.append_inj_right' e rfl;injection this with this _;rw[<-this];exact h2
theorem zFF{v:List zb}(h:Ei v): ∀t us,tokL v=t::us->t.kind≠13:=by
 intro t us e q;cases v with
 |nil=>rw[tokL]at e;cases e
 |cons a r=> rw[tokL,Gq,Sa]at e;injection e with e _;have:=h a r rfl;unfold isSp at this;rw[e,q]at this;cases this
theorem zIH{v:List zb}(h:v≠[]):tokL v≠[]:=by
 cases v with
 |nil=>exact absurd rfl h
 |cons a r=>rw[tokL,Gq];simp
theorem dQ{n y:Str}{v:List zb}(h0:n≠[])(hn:Zy n=true)(hv:zI1 v)(hy:sfx y):
  Zb (ZB n++58::32::(wrS (tokL v)++y))=tkId n::Gh::tkSp::(tokL v++Zb (if v=[]then past spB y else y)):=by
 rw[Pn h0 hn (.inr ⟨_,_,rfl, .inl rfl⟩),UA (k:=16) (by decide) (by decide) rfl (by decide),Cm];by_cases h:v=[]
 ·subst h;rw[Ka rfl,tokL];rfl
 ·rw[Ia h,zIS hv.r (zFF hv.h) y (zIH h),zKJ hv.r (zFG hv.e) hy]
theorem zEg:ZB impW=impW:=by decide+kernel
theorem zzz(y:Str)(h:atS y 0≠45):Zb (33::y)=ui::Zb y:=by
 have hn:ZC (33::y)=(ui,y):=by
  have:brS 33 y=8:=by unfold brS;rfl
  rw[qp,this,bu]
 rw[Qy (ZR (xu rfl)),hn]
theorem zEh{y:Str}(hy:sfx y):Zb (impW++y)=tkId impW::Zb y:=by
 have:=Pn (n:=impW) (by decide) (by decide) hy
 rwa [zEg]at this
def preV(v:List zb):List zb:=if v=[]then []else [vSp]
theorem zKh(v:List zb):preV v=[]\/preV v=[vSp]:=by unfold preV;split;exact .inl rfl;exact .inr rfl
def impV(d:zD):List zb:=bif d.important then preV d.value++[leaf ui,leaf (tkId impW)]else []
def vlD(d:zD):List zb:=leaf (tkId d.name)::leaf Gh::vSp::(d.value++impV d)
theorem qd{t:zg}(h:zC t.kind=0)(r:List zb):tokL (leaf t::r)=t::tokL r:=by rw[tokL,tokV,Ka h];rfl
theorem aR{v:List zb}(h:Wm v=false):Ei v/\Kh v:=by
 constructor
 ·rintro a t rfl;rw[show Wm (a::t)=(isSp a||_)from rfl,ic]at h;exact h.1
 ·rintro t a rfl;rw[lU,ic]at h;exact h.2
theorem val_ok{d:zD}(h:Dg d=true)(ht:okT (tokL d.value)):zI1 d.value:=by obtain⟨_,_,h3,h4⟩:=pu h;unfold Xu at h4;simp only[Ca,Lc]at h4;obtain⟨a,b⟩:=aR h4.2.2;exact⟨zKn h3 ht,a,b⟩
theorem cl_D{d:zD}(h:Dg d=true)(ht:okT (tokL d.value)):clB (wrD d)=true:=by unfold wrD;rw[qw,qw,qw,show clB (ZB d.name)=true from Dm _ _ _,(IL (val_ok h ht).r).2];cases d.important<;>rfl
structure Shp (v:List zb):Prop where
 s:shL v 0=true
 d:ZP v<=16
theorem uA(a b:List zb):ZP (a++b)=max (ZP a) (ZP b):=by
 induction a with
 |nil=>rw[Pb,ZP];omega
 |cons v a ih=>rw[Sa,ZP,ZP,ih];omega
theorem Shp.app{a b:List zb}(ha:Shp a)(hb:Shp b):Shp (a++b):=⟨by rw[vI,ha.s,hb.s];rfl,by rw[uA];have:=ha.d;have:=hb.d;omega⟩
theorem zIE{v:List zb}(h:errS v=0):Shp v:=⟨(GK h).2.2,(GK h).1⟩
theorem rQ{v:List zb}(h:Shp v):parS (tokL v)=if 1500<(tokL v).length then([],4)else(v,0):=by
 by_cases q:1500<(tokL v).length
 ·rw[Ka q];unfold parS;rw[Ka q]
 ·rw[Ia q];refine zBW ?_;unfold errS;rw[Ia (by have:=h.d;omega),Ia q,Ka h.s]
theorem zI8{d:zD}(h:Dg d=true):(∀x∈d.value,badV x=false)/\Ei d.value/\Kh d.value:=by have h4:=(pu h).body;unfold Xu at h4;simp only[Ca,Lc]at h4;obtain⟨a,b⟩:=aR h4.2.2;exact⟨fun x hx=>by have:=List.any_eq_false.1 h4.1 x hx;simpa using this,a,b⟩
theorem zDq{v:zb}(h:badV v=false):wo v=false:=by unfold badV at h;rw[ic]at h;exact h.2
theorem zBl{v:List zb}(h: ∀x∈v,badV x=false):Ug v=(v,false):=by
 unfold Ug;split
 ·rfl
 ·rename_i t z he;have hv:=iw he;cases !t.isEmpty&&(z.token.kind==1&&lowS z.token.text==impW)with
  |false=>rfl
  |true=>
   rw[Da];split
   ·rfl
   ·rename_i u b hb;have h2:=iw hb;have:b∈v:=by rw[hv];refine Ae _ ((ek t).subset ?_);rw[h2];simp
    rw[zDq (h b this)];rfl
theorem zBn{v p:List zb}{m:Str}(hp:p=[]\/p=[vSp])(he:Kh v)(hm:lowS m=impW): ∀{q:List zb},q=[]\/q=[vSp]->Ug (v++p++[leaf ui]++q++[leaf (tkId m)])=(v,true):=by
 intro q hq;unfold Ug;rw[rA];have h1:(v++p++[leaf ui]++q).isEmpty=false:=by cases v<;>cases p<;>rfl
 have h2:trimB (v++p++[leaf ui]++q)=v++p++[leaf ui]:=by
  have h3:trimB (v++p++[leaf ui])=v++p++[leaf ui]:=by rw[Jo];rfl
  rcases hq with rfl|rfl
  ·rw[Xa,h3]
  ·rw[Jo,Ka (show isSp vSp=true from rfl),h3]
 simp only[h1,hm,h2,rA];have h4:trimB (v++p)=v:=by
  rcases hp with rfl|rfl
  ·rw[Xa,he.id]
  ·rw[Jo,Ka (show isSp vSp=true from rfl),he.id]
 rw[show(!false&&((1:Int)==1&&impW==impW))=true from rfl,Da,show wo (leaf ui)=true from rfl,Da,h4]
theorem zHX{n:Str}(h:Sm n=true):nmD n=n:=by
 have:=(nO h).2.2.2;unfold nmD;cases hp:List.isPrefixOf [45,45] n with
 |true=>rfl
 |false=>rw[hp,Ba]at this;rw[Ba];exact Bb.1 this
theorem xP{n:Str}{B W:List zb}{v:List zb}(hB:trimS (leaf (tkId n)::leaf Gh::vSp::B)=leaf (tkId n)::leaf Gh::W)(hW:W.dropWhile isSp=v)(hm: ∀w,Ug v=w->Dg ⟨nmD n,w.1,w.2⟩=true):
  oneS (leaf (tkId n)::leaf Gh::vSp::B)=(⟨nmD n,(Ug v).1,(Ug v).2⟩,true):=by
 unfold oneS;rw[hB];have e:(leaf Gh::W).dropWhile isSp=leaf Gh::W:=rfl;have h:=hm _ rfl;simp only[e,hW,h];rfl
theorem zC2{n:Str}{B:List zb}(h:Kh B)(h0:B≠[]):trimS (leaf (tkId n)::leaf Gh::vSp::B)=leaf (tkId n)::leaf Gh::vSp::B:=by
 refine vQ (fun a t e=>by cases e;rfl) (fun t a e=> ?_);rcases Po B with rfl|⟨u,z,rfl⟩
 ·exact absurd rfl h0
 ·have e2:(leaf (tkId n)::leaf Gh::vSp::(u++[z]))=(leaf (tkId n)::leaf Gh::vSp::u)++[z]:=rfl;rw[e2]at e;have:=List.append_inj_right' e rfl;injection this with this _;rw[<-this];exact h u z rfl
theorem yP{n:Str}{B:List zb}(hh:Ei B)(he:Kh B)(hm: ∀w,Ug B=w->Dg ⟨nmD n,w.1,w.2⟩=true):
  oneS (leaf (tkId n)::leaf Gh::vSp::B)=(⟨nmD n,(Ug B).1,(Ug B).2⟩,true):=by
 by_cases h0:B=[]
 ·subst h0;exact xP (W:=[]) rfl rfl hm
 ·exact xP (W:=vSp::B) (zC2 he h0) (by rw[Bc,Ka (show isSp vSp=true from rfl),hh.id]) hm
theorem zDW{B:List zb}{t:zg}(h:isSp (leaf t)=false):Kh (B++[leaf t]):=by intro u z e;have:=List.append_inj_right' e rfl;injection this with this _;rw[<-this];exact h
theorem zEv:lowS impW=impW:=F9
theorem zH9{d:zD}(h:Dg d=true):oneS (vlD d)=(d,true):=by
 obtain⟨h1,h2,h3⟩:=zI8 h;have hn:=zHX (pu h).name;unfold vlD impV;obtain⟨n,v,i⟩:=d;simp only at h1 h2 h3 hn ⊢;cases i with
 |false=> rw[Ba,Xa];have hm:=zBl h1;rw[yP h2 h3 (fun w hw=>by rw[hm]at hw;rw[<-hw,hn];exact h),hm,hn]
 |true=>
  rw[Da];have e:v++(preV v++[leaf ui,leaf (tkId impW)])=v++preV v++[leaf ui]++[]++[leaf (tkId impW)]:=by simp
  have hm:=zBn (zKh v) h3 zEv (.inl rfl:([]:List zb)=[]\/_);rw[e];have h5:=yP (n:=n) (B:=v++preV v++[leaf ui]++[]++[leaf (tkId impW)]) ?_ (zDW rfl) (fun w hw=>by rw[hm]at hw;rw[<-hw,hn];exact h)
  ·rw[h5,hm,hn]
  intro a t ea;cases v with
  |nil=>cases ea;rfl
  |cons b r=>cases ea;exact h2 _ _ rfl
theorem UO(z:Str):sfx (41::z):= .inr ⟨_,_,rfl, .inr (.inr (.inr (.inl rfl)))⟩
theorem zKr(z:Str):sfx (44::z):= .inr ⟨_,_,rfl, .inr (.inr (.inr (.inr (.inl rfl))))⟩
theorem zyu{d:zD}(h:Dg d=true)(ht:okT (tokL d.value))(z:Str):Zb (wrD d++41::z)=tokL (vlD d)++Zb (41::z):=by
 have hv:=val_ok h ht;obtain⟨n1,_,n3,_⟩:=nO (pu h).name;have hs:sfx (41::z):=UO z;have hp:past spB (41::z)=41::z:=rfl;generalize hy:(41::z:Str)=y at*;have e: ∀w:Str,ZB d.name++([58,32]:Str)++wrS (tokL d.value)++w=ZB d.name++58::32::(wrS (tokL d.value)++w):=fun w=>by simp
 unfold wrD vlD impV;rw[qd rfl,qd rfl,qd rfl,La,e];cases d.important with
 |false=> rw[Ba,Ba,Pb,Xa,dQ n1 n3 hv hs,hp,ite_self];rfl
 |true=>
  rw[Da,Da,show impT++y=32::33::(impW++y)from rfl,dQ n1 n3 hv (tu _)];have hb:Zb (33::(impW++y))=ui::tkId impW::Zb y:=by rw[zzz (impW++y) (show(105:UInt8)≠45 by decide),zEh hs]
  rw[Us,Us];unfold preV;by_cases hz:d.value=[]
  ·rw[Ka hz,Ka hz,show past spB (32::33::(impW++y))=33::(impW++y)from rfl,hb,hz];rfl
  ·rw[Ia hz,Ia hz,Cm,show past spB (33::(impW++y))=33::(impW++y)from rfl,hb];show _=(tkId d.name::Gh::tkSp::(tokL d.value++([tkSp]++[ui,tkId impW])))++Zb y;simp
def tkOp:zg:=⟨21,[],0,[],false⟩
def tkCl:zg:=⟨22,[],0,[],false⟩
theorem M9(y:Str):Zb (40::y)=tkOp::Zb y:=UA (k:=21) (by decide) (by decide) rfl (by decide) y
theorem bP(y:Str):Zb (41::y)=tkCl::Zb y:=UA (k:=22) (by decide) (by decide) rfl (by decide) y
def blk(v:List zb):zb:=⟨tkOp,v⟩
def unkN:Str:=[117,110,107,110,111,119,110]
def wdN(s:Str):zb:=leaf (tkId s)
def sepV(w:Str):List (List zb)->List zb
 |[]=>[]
 |[v]=>v
 |v::u::r=>v++(vSp::wdN w::vSp::sepV w (u::r))
mutual
/-- The values that the text of a supports condition is. -/
def vlC:zf->List zb
 |⟨k,_,_,d,l⟩=>bif k==7 then [blk (vlD d)]else bif k==8 then [blk [wdN unkN]]else bif k==3 then wdN [110,111,116]::vSp::(viCs l).headD []else
  bif k==2 then sepV [111,114] (viCs l)else sepV [97,110,100] (viCs l)
def viCs:List zf->List (List zb)
 |[]=>[]
 |c::r=>(bif Qk c then vlC c else [blk (vlC c)])::viCs r
end
theorem xQ(v:List zb):tokL [blk v]=tkOp::(tokL v++[tkCl]):=by rw[tokL,tokL,Gq,Xa];rfl
theorem lJ{s:Str}{v:List zb}(h: ∀z,Zb (s++41::z)=tokL v++Zb (41::z))(z:Str):Zb (parW s++z)=tokL [blk v]++Zb z:=by
 have e:parW s++z=40::(s++41::z):=by unfold parW;simp
 rw[e,M9,h,bP,xQ];simp
theorem zFA(z:Str):Zb (unkN++41::z)=tokL [wdN unkN]++Zb (41::z):=by have:=Pn (n:=unkN) (by decide) (by decide) (UO z);rw[show ZB unkN=unkN by decide+kernel]at this;rw[this];rfl
def InT(s:Str)(v:List zb):Prop:=(∃r,s=40::r)/\ ∀z,Zb (s++z)=tokL v++Zb z
theorem gJ{w wt:Str}(hw:ZB w=wt)(h0:w≠[])(hn:Zy w=true): ∀{l:List Str} {vs:List (List zb)},l≠[]->l.length=vs.length->(∀(i:Nat) s v,l[i]? =some s->vs[i]? =some v->InT s v)-> ∀z,Zb (jn (32::(wt++[32])) l++z)=tokL (sepV w vs)++Zb z
 |[],_,h,_,_,_=>absurd rfl h
 |[s],[v],_,_,h,z=>by have:=(h 0 s v rfl rfl).2 z;simpa [jn,List.intercalate,sepV] using this
 |s::s2::r,v::v2::vr,_,hl,h,z=>by
  have h1:=(h 0 s v rfl rfl).2;have ih:=gJ hw h0 hn (l:=s2::r) (vs:=v2::vr) (by simp) (by simpa using hl) (fun i=>h (i+1)) z;obtain⟨q,hq⟩:=(h 1 s2 v2 rfl rfl).1;have e:jn (32::(wt++[32])) (s::s2::r)++z=s++32::(wt++32::(jn (32::(wt++[32])) (s2::r)++z)):=by simp[jn,List.intercalate]
  have hb: ∃q,jn (32::(wt++[32])) (s2::r)++z=40::q:=by
   cases r with
   |nil=>exact⟨q++z,by rw[hq];simp[jn,List.intercalate]⟩
   |cons a t=>exact⟨_,by rw[hq];simp[jn,List.intercalate];rfl⟩
  obtain⟨q',hq'⟩:=hb;rw[e,h1,Cm];have hpast:past spB (wt++32::(jn (32::(wt++[32])) (s2::r)++z))=wt++32::(jn (32::(wt++[32])) (s2::r)++z):=by have hnn:=Wj h0;rw[hw]at hnn;obtain⟨c,t,ec⟩:=Si (Kk hnn);have hd:=(jr (oo hnn)).1;rw[ec]at hd ⊢;show past spB (c::_)=c::_;rw[past,show spB c=false from hd];rfl
  have hid:=Pn (n:=w) h0 hn (tu (jn (32::(wt++[32])) (s2::r)++z));rw[hw]at hid;rw[hpast,hid,Cm];have hp2:past spB (jn (32::(wt++[32])) (s2::r)++z)=jn (32::(wt++[32])) (s2::r)++z:=by rw[hq'];rfl
  rw[hp2,ih];show _=tokL (v++(vSp::wdN w::vSp::sepV w (v2::vr)))++Zb z;rw[Us,qd rfl,wdN,qd rfl,qd rfl];simp
 |[_],[],_,h,_,_=>by simp at h
 |[_],_::_::_,_,h,_,_=>by simp at h
 |_::_::_,[],_,h,_,_=>by simp at h
 |_::_::_,[_],_,h,_,_=>by simp at h
theorem Jw: ∀l:List zf,viCs l=l.map fun c=>bif Qk c then vlC c else [blk (vlC c)]
 |[]=>by rw[viCs];rfl
 |c::r=>by rw[viCs,Jw r];rfl
def OkC(c:zf):Prop:= ∀d∈Zn c,okT (tokL d.value)
theorem zFk{c:zf}(hs:supC c=true)(ho:OkC c):(∀z,Zb (supT wrD c++z)=tokL (vlC c)++Zb z)/\(Qk c=true-> ∃r,supT wrD c=40::r):=by
 have key: ∀(n:Nat) (c:zf),sizC c<=n->supC c=true->OkC c->(∀z,Zb (supT wrD c++z)=tokL (vlC c)++Zb z)/\(Qk c=true-> ∃r,supT wrD c=40::r):=by
  intro n
  induction n with
  |zero=>intro c hc;have:=Qe c;omega
  |succ n ih=>
   intro c hc hs ho;have hsz:=QD c;unfold OkC at ho;rw[QK]at ho;rw[Jj]at hs;obtain⟨k,nm,m,d,l⟩:=c;have hm: ∀y∈l,sizC y<=n:=fun y hy=>by have:=Qx (l:=l) hy;simp only at hsz;omega
   simp only at hs ho;rw[supT,vlC];cases h7:k==7 with
   |true=> rw[h7,Da]at hs ho;simp only[Ca]at hs;exact⟨fun z=>lJ (fun z=>zyu hs.2.2.2 (ho d (by simp)) z) z,fun _=>⟨_,rfl⟩⟩
   |false=>
    rw[h7,Ba]at hs ho;rw[Ba,Ba];cases h8:k==8 with
    |true=> exact⟨fun z=>lJ zFA z,fun _=>⟨_,rfl⟩⟩
    |false=>
     rw[h8,Ba]at hs;rw[Ba,Ba];simp only[Ca,aa]at hs;obtain⟨hk,_,hl,ha⟩:=hs;have hin: ∀y∈l,InT (bif Qk y then supT wrD y else parW (supT wrD y)) (bif Qk y then vlC y else [blk (vlC y)]):=fun y hy=>by
      obtain⟨i1,i2⟩:=ih y (hm y hy) (ha y hy) fun d hd=>ho d (Pd.2 ⟨y,hy,hd⟩);cases hy':Qk y with
      |true=>exact⟨i2 hy',i1⟩
      |false=>exact⟨⟨_,rfl⟩,fun z=>lJ (fun z=>i1 _) z⟩
     have hne:l≠[]:=by rintro rfl;cases k==3<;>simp at hl
     have hnl:Qk (⟨k,nm,m,d,l⟩:zf)=false:=by unfold Qk;simp only[h7,h8];rfl
     refine⟨?_,fun h=>by rw[hnl]at h;cases h⟩;have hall: ∀(i:Nat) s v,(inTs wrD l)[i]? =some s->(viCs l)[i]? =some v->InT s v:=fun i s v hi hv=>by rw[bn,Oa,Ma]at hi;rw[Jw,Oa,Ma]at hv;obtain⟨y,hy,rfl⟩:=hi;obtain⟨y',hy',rfl⟩:=hv;rw[hy]at hy';cases hy';exact hin y (Kb hy)
     have hlen:(inTs wrD l).length=(viCs l).length:=by rw[bn,Jw,Ib,Ib]
     have hne2:inTs wrD l≠[]:=by rw[bn];simpa using hne
     cases h3:k==3 with
     |true=>
      intro z;rw[Da,Da];cases l with
      |nil=>exact absurd rfl hne
      |cons y r=>
       obtain⟨⟨q,hq⟩,h1⟩:=hin y (by simp);have e1:(inTs wrD (y::r)).headD []=(bif Qk y then supT wrD y else parW (supT wrD y)):=by rw[inTs];rfl
       have e2:(viCs (y::r)).headD []=(bif Qk y then vlC y else [blk (vlC y)]):=by rw[viCs];rfl
       rw[e1,e2];have hid:=Pn (n:=[110,111,116]) (by decide) (by decide) (tu ((bif Qk y then supT wrD y else parW (supT wrD y))++z));rw[show ZB [110,111,116]=[110,111,116] by decide+kernel]at hid;rw[show nt4++(bif Qk y then supT wrD y else parW (supT wrD y))++z=[110,111,116]++32::((bif Qk y then supT wrD y else parW (supT wrD y))++z) by simp[nt4],hid,Cm];have hp:past spB ((bif Qk y then supT wrD y else parW (supT wrD y))++z)=(bif Qk y then supT wrD y else parW (supT wrD y))++z:=by rw[hq];rfl
       rw[hp,h1,wdN,qd rfl,qd rfl];rfl
     |false=>
      rw[Ba,Ba];intro z;cases h2:k==2 with
      |true=>exact gJ (w:=[111,114]) (wt:=[111,114]) (by decide+kernel) (by decide) (by decide) hne2 hlen hall z
      |false=>exact gJ (w:=[97,110,100]) (wt:=[97,110,100]) (by decide+kernel) (by decide) (by decide) hne2 hlen hall z
 exact key _ c (Ua _) hs ho
theorem qJ{t:zg}(h:zC t.kind=0)(r:List zb):ZP (leaf t::r)=ZP r:=by rw[ZP,Oi,Ka h];omega
theorem MF(v:List zb):ZP [blk v]=1+ZP v:=by rw[ZP,ZP];show max (Oi (blk v)) 0=_;unfold blk;rw[Oi,Ia (show¬zC tkOp.kind=0 by decide)];omega
theorem zDS(d:zD):ZP (vlD d)=ZP d.value:=by
 unfold vlD;rw[qJ rfl,qJ rfl,show vSp=leaf tkSp from rfl,qJ rfl,uA];have:ZP (impV d)=0:=by
  unfold impV;cases d.important with
  |false=>rw[Ba,ZP]
  |true=>
   rw[Da,uA,qJ rfl,qJ rfl,ZP];have:ZP (preV d.value)=0:=by
    unfold preV;split
    ·rw[ZP]
    ·rw[show vSp=leaf tkSp from rfl,qJ rfl,ZP]
   omega
 omega
theorem JK(w:Str): ∀vs:List (List zb),ZP (sepV w vs)=mx ZP vs
 |[]=>by rw[sepV,ZP];rfl
 |[v]=>by rw[sepV];show _=max (ZP v) 0;omega
 |v::u::r=>by rw[sepV,uA,show vSp=leaf tkSp from rfl,qJ rfl,show wdN w=leaf (tkId w)from rfl,qJ rfl,qJ rfl,JK w (u::r)];rfl
theorem X5{α β:Type}(f:β->Nat)(g:α->β): ∀l:List α,mx f (l.map g)=mx (fun a=>f (g a)) l
 |[]=>rfl
 |a::l=>by rw[Yb,mx,mx,X5 f g l]
theorem dR{c:zf}(hs:supC c=true):ZP (vlC c)=Vh c:=by
 have key: ∀(n:Nat) (c:zf),sizC c<=n->supC c=true->ZP (vlC c)=Vh c:=by
  intro n
  induction n with
  |zero=>intro c hc;have:=Qe c;omega
  |succ n ih=>
   intro c hc hs;have hsz:=QD c;have hd:=NK c;rw[Jj]at hs;obtain⟨k,nm,m,d,l⟩:=c;have hm: ∀y∈l,sizC y<=n:=fun y hy=>by have:=Qx (l:=l) hy;simp only at hsz;omega
   simp only at hs hd;rw[hd,vlC];cases h7:k==7 with
   |true=>rw[Da,Da,MF,zDS]
   |false=>
    cases h8:k==8 with
    |true=> rw[Ba,Ba,Da,Da,MF,show wdN unkN=leaf (tkId unkN)from rfl,qJ rfl,ZP]
    |false=>
     rw[h7,h8,Ba,Ba]at hs;rw[Ba,Ba,Ba,Ba];simp only[Ca,aa]at hs;obtain⟨hk,_,hl,ha⟩:=hs;have hw: ∀y∈l,ZP (bif Qk y then vlC y else [blk (vlC y)])=Pj y:=fun y hy=>by
      have:=ih y (hm y hy) (ha y hy);unfold Pj;cases hy':Qk y with
      |true=>rw[Da,Da,this];omega
      |false=>rw[Ba,Ba,MF,this]
     have hmx:mx ZP (viCs l)=mx Pj l:=by rw[Jw,X5];exact KQ hw
     cases h3:k==3 with
     |true=>
      rw[h3,Da]at hl
      match l,hl,hw with
      |[],hl,_=>simp at hl
      |[y],_,hw=> rw[Da,show wdN [110,111,116]=leaf (tkId [110,111,116])from rfl,qJ rfl,show vSp=leaf tkSp from rfl,qJ rfl];rw[show(viCs [y]).headD []=(bif Qk y then vlC y else [blk (vlC y)]) by rw[viCs];rfl,hw y (by simp)];show _=max (Pj y) 0;omega
      |_::_::_,hl,_=>simp at hl
     |false=>
      rw[Ba];cases h2:k==2 with
      |true=>rw[Da,JK,hmx]
      |false=>rw[Ba,JK,hmx]
 exact key _ c (Ua _) hs
def ShB(v:List zb):Prop:=shL v 0=true/\ ∀x∈v,(x.token.kind==22)=false
theorem U4: ∀{v:List zb},ShB v->shL v 22=true
 |[],_=>by rw[shL]
 |x::v,h=>by have h1:=h.1;rw[shL,Ca]at h1;rw[shL,U4 ⟨h1.2,fun y hy=>h.2 y (ja _ hy)⟩,ib];have h3:=h.2 x (Fb ..);have h4:=h1.1;rw[Vy]at h4 ⊢;rw[h3,Ic];rw[show((0:Int) != 0)=false from rfl,Ub]at h4;exact h4
theorem ShB.app{a b:List zb}(ha:ShB a)(hb:ShB b):ShB (a++b):=⟨by rw[vI,ha.1,hb.1];rfl,fun x hx=>(Ed.1 hx).elim (ha.2 x) (hb.2 x)⟩
theorem Jn:ShB []:=⟨by rw[shL],fun x hx=>by cases hx⟩
theorem QQ{t:zg}(h:zC t.kind=0)(h2:(t.kind==22)=false){r:List zb}(hr:ShB r):ShB (leaf t::r):=by
 refine⟨?_,fun x hx=> ?_⟩
 ·rw[shL,hr.1,shV,h];rfl
 ·rcases Jb.1 hx with rfl|hx
  ·exact h2
  ·exact hr.2 x hx
theorem TE{v:List zb}(h:ShB v):ShB [blk v]:=by refine⟨?_,fun x hx=>by rw[Gc.1 hx];rfl⟩;rw[shL,shL,Vy];show(!((zC tkOp.kind==0&&decide (0<v.length))||((0:Int) != 0&&_)||(zC tkOp.kind != 0&& !(shL v (zC tkOp.kind))))&&true)=true;rw[show zC tkOp.kind=22 by decide,U4 h];rfl
theorem zID{d:zD}(h:Dg d=true):ShB (vlD d):=by
 have hp:=pu h;have hv:ShB d.value:=by
  refine⟨(zIE hp.err).s,fun x hx=> ?_⟩;unfold Dg at h;simp only[Ca,Lc]at h;have hc:=h.2.2.2.1;rw[dP,List.any_eq_false]at hc;have:=hc x hx;rw[l6,Vb,not_or]at this;have:=this.1;unfold clK at this;cases he:x.token.kind==22 with
  |false=>rfl
  |true=>rw[he]at this;simp at this
 unfold vlD impV;refine QQ rfl rfl (QQ rfl rfl (show ShB (vSp::_)from QQ (t:=tkSp) rfl rfl (hv.app ?_)));cases d.important with
 |false=>exact Jn
 |true=>
  rw[Da];refine ShB.app ?_ (QQ rfl rfl (QQ rfl rfl Jn));unfold preV;split
  ·exact Jn
  ·exact QQ (t:=tkSp) rfl rfl Jn
theorem wI(w:Str): ∀{vs:List (List zb)},(∀v∈vs,ShB v)->ShB (sepV w vs)
 |[],_=>by rw[sepV];exact Jn
 |[v],h=>by rw[sepV];exact h v (by simp)
 |v::u::r,h=>by rw[sepV];exact(h v (by simp)).app (show ShB (vSp::_)from QQ (t:=tkSp) rfl rfl (show ShB (wdN w::_)from QQ rfl rfl (show ShB (vSp::_)from QQ (t:=tkSp) rfl rfl (wI w fun x hx=>h x (ja _ hx)))))
theorem V8{c:zf}(hs:supC c=true):ShB (vlC c):=by
 have key: ∀(n:Nat) (c:zf),sizC c<=n->supC c=true->ShB (vlC c):=by
  intro n
  induction n with
  |zero=>intro c hc;have:=Qe c;omega
  |succ n ih=>
   intro c hc hs;have hsz:=QD c;rw[Jj]at hs;obtain⟨k,nm,m,d,l⟩:=c;have hm: ∀y∈l,sizC y<=n:=fun y hy=>by have:=Qx (l:=l) hy;simp only at hsz;omega
   simp only at hs;rw[vlC];cases h7:k==7 with
   |true=> rw[h7,Da]at hs;simp only[Ca]at hs;exact TE (zID hs.2.2.2)
   |false=>
    cases h8:k==8 with
    |true=>exact TE (QQ rfl rfl Jn)
    |false=>
     rw[h7,h8,Ba,Ba]at hs;rw[Ba,Ba];simp only[Ca,aa]at hs;obtain⟨hk,_,hl,ha⟩:=hs;have hw: ∀v∈viCs l,ShB v:=fun v hv=>by
      rw[Jw]at hv;obtain⟨y,hy,rfl⟩:=Rb.1 hv;have:=ih y (hm y hy) (ha y hy);cases Qk y with
      |true=>exact this
      |false=>exact TE this
     cases h3:k==3 with
     |true=>
      rw[Da];refine show ShB (wdN _::vSp::_)from QQ rfl rfl (show ShB (vSp::_)from QQ (t:=tkSp) rfl rfl ?_);cases hv:viCs l with
      |nil=>exact Jn
      |cons v r=>exact hw v (by rw[hv];simp)
     |false=>
      rw[Ba];cases h2:k==2 with
      |true=>exact wI _ hw
      |false=>exact wI _ hw
 exact key _ c (Ua _) hs
theorem zIf{c:zf}(hs:ZW c=true):parS (tokL (vlC c))=if 1500<(tokL (vlC c)).length then([],4)else(vlC c,0):=by unfold ZW at hs;simp only[Ca,Ab]at hs;exact rQ ⟨(V8 hs.1).1,by rw[dR hs.1];exact hs.2.2⟩
--< pulled
--p wJ
theorem wJ(x:zb):1<=zx (zo x):=by have:=Im x;omega
--p sp
abbrev sp(l:List zb):List zb:=l.dropWhile isSp
--p bZ
theorem bZ:sp []=[]:=rfl
--p En
theorem En(v:zb)(l:List zb):sp (v::l)=if isSp v then sp l else v::l:=by unfold sp;rw[Bc]
--p kg
theorem kg(l:List zb):(sp l).Sublist l:=Sd isSp
--p Ai
theorem Ai(l:List zb):(sp l).length<=l.length:=(kg l).length_le
--p Dn
theorem Dn: ∀l:List zb,sp (sp l)=sp l
 |[]=>rfl
 |v::l=>by
  rw[En];cases h:isSp v with
  |true=>rw[Ka rfl];exact Dn l
  |false=>rw[Ia (by simp),En,h,Ia (by simp)]
--p EndS
--p trimB_idem
--p end_tail
--p end_sp
--p trimS_end
--p sp_pre
--p H9
theorem H9 {α A S X R:Type} {step:S->Option (LO S X R)} {k:X->Option R} (l:List α) (f:A->α->A) (st:A->Nat->S) (out:A->X) {s0:S} {a0:A} (h0:s0=st a0 0)
  (hg: ∀(i:Nat) (a:A) (h:i<l.length),step (st a i)=some (.again (st (f a l[i]) (i+1))))
  (hf: ∀a:A,step (st a l.length)=some (.out (out a))):Zj step s0 k=k (out (l.foldl f a0)):=by
 have key: ∀(m:List α) (i:Nat) (a:A),l.drop i=m->i<=l.length-> ∃n,ZT step n (st a i)=some (.out (out (m.foldl f a))):=by
  intro m
  induction m with
  |nil=>
   intro i a hd hi;have:i=l.length:=by have:=Be.1 hd;omega
   subst this;exact⟨1,by simp only[ZT,hf,List.foldl_nil]⟩
  |cons v m ih=>
   intro i a hd hi;have hlt:i<l.length:=by
    rcases Xd i l.length with h|h
    ·exact h
    ·rw[je h]at hd;cases hd
   have hv:l[i]=v:=by have:=Lb hlt;rw[hd]at this;injection this with h1 _;exact h1.symm
   have hs:=hg i a hlt;rw[hv]at hs;obtain⟨n,hn⟩:=ih (i+1) (f a v) (by rw[Lb hlt]at hd;injection hd) (by omega);refine⟨n+1,?_⟩;simp only[ZT,hs];rw[hn,Ee]
 obtain⟨n,hn⟩:=key l 0 a0 rfl (by omega);rw[h0,Qd (Q4 hn)];rfl
--> pulled
theorem XT {S X R:Type} {step:S->Option (LO S X R)} {k:X->Option R} (μ:S->Nat) (ok:S->Prop) (Q:S->R->Prop)
  (h: ∀s,ok s->(∃s',step s=some (.again s')/\ok s'/\μ s'<μ s/\ ∀r,Q s' r->Q s r)\/(∃r,step s=some (.ret r)/\Q s r)\/(∃x,step s=some (.out x)/\ ∃r,k x=some r/\Q s r)) {s:S} (hs:ok s): ∃r,Zj step s k=some r/\Q s r:=by
 have key: ∀(m:Nat) (s:S),μ s<m->ok s-> ∃j x,ZT step j s=some x/\ ∃r,LX.go x k=some r/\Q s r:=by
  intro m
  induction m with
  |zero=>intro s h;omega
  |succ m ih=>
   intro s hm hs;rcases h s hs with⟨s',h1,h2,h3,h4⟩|⟨r,h1,h2⟩|⟨x,h1,r,h2,h3⟩
   ·obtain⟨j,x,g1,r,g2,g3⟩:=ih s' (by omega) h2;exact⟨j+1,x,by simp only[ZT,h1];exact g1,r,g2,h4 r g3⟩
   ·exact⟨1, .ret r,by simp only[ZT,h1],r,rfl,h2⟩
   ·exact⟨1, .out x,by simp only[ZT,h1],r,h2,h3⟩
 obtain⟨j,x,h1,r,h2,h3⟩:=key (μ s+1) s (by omega) hs;exact⟨r,by rw[Qd (Q4 h1),h2],h3⟩
def ll(l:List zb):Int:=match l with
 |[]=>0
 |a::_=>a.token.kind
theorem Ls(l:List zb):zQ ⟨l⟩=some (ll l):=by
 unfold zQ ll;cases l with
 |nil=>rfl
 |cons a r=> have e0:(((a::r).length:Int)==0)=false:=Ha.2 (by simp only[Fa];omega);have e1:geti (a::r) 0=some a:=rfl;simp only[e0,e1,Ba,ze,Aa]
theorem Aq(a:zb)(r:List zb):zT ⟨a::r⟩=some (a,⟨r⟩):=by unfold zT;have e1:geti (a::r) 0=some a:=rfl;have e2:decide ((1:Int)<=((a::r).length:Int))=true:=Ga (by simp only[Fa];omega);simp only[e1,e2,zK,ze,Aa,fw,List.drop_succ_cons,Ki]
theorem zHN(a b:Nat):decide ((a:Int)<(b:Int))=decide (a<b):=by
 by_cases h:a<b
 ·rw[Ga h];exact Ga (by omega)
 ·rw[Db h];exact Db (by omega)
theorem sj(l:List zb):zw ⟨l⟩=some (decide ((sp l).length<l.length),⟨sp l⟩):=by
 unfold zw;refine(Qd (r:= .out ⟨sp l⟩) (qa (fun s=>sp s.v=sp l) (fun s=>s.v.length) _ (fun s hs=> ?_) rfl)).trans ?_
 ·obtain⟨s⟩:=s;have hs:sp s=sp l:=hs;simp only[Ls,ze,Aa];cases s with
  |nil=>exact .inr (.inl ⟨⟨[]⟩,rfl,by rw[<-hs];rfl⟩)
  |cons a r=>
   rw[En]at hs;cases ha:isSp a with
   |true=> rw[ha,Ka rfl]at hs;unfold isSp at ha;refine .inl ⟨⟨r⟩,?_,hs,by simp⟩;simp only[ll,ha,Da,Aq,Aa]
   |false=> rw[ha,Ia (by simp)]at hs;unfold isSp at ha;exact .inr (.inl ⟨⟨a::r⟩,by simp only[ll,ha,Ba],by rw[<-hs]⟩)
 ·rw[znv,zHN]
def isW(s:Str)(a:zb):Bool:=a.token.kind==1&&lowS a.token.text==s
def headW(s:Str)(l:List zb):Bool:=match l with
 |[]=>false
 |a::_=>isW s a
def Ak:List Str->List zb->Option Str
 |[],_=>none
 |s::ws,l=>bif headW s l then some s else Ak ws l
theorem TB(ws:List Str)(l:List zb)(hl: ∀a∈l,a.token.text.length<=big)(hw: ∀s∈ws,s.length<=big/\lowS s=s)(hn:ws.length<=big):
  Zv (ws,⟨l⟩)=some (match Ak ws l with|some s=>(s,⟨l.tail⟩)|none=>([],⟨l⟩)):=by
 unfold Zv;have key: ∀(m:List Str) (i:Nat),ws.drop i=m->i<=ws.length-> ∃n x,ZT (fun(s1:Int×zk)=>
   bif decide (s1.1<(ws.length:Int))then
    ze (geti ws s1.1) fun y2=>
    ze (zQ s1.2) fun y3=>
    ze (zA (y3==1) (geti s1.2.v 0) (default:zb)) fun y4=>
    ze (zA (y3==1) (Zt (y4.token.text,y2)) (default:Bool)) fun y5=>
    bif bif y3==1 then y5 else false then
     ze (zT s1.2) fun y6=>
     some (LO.ret (y2,y6.2))
    else
     some (LO.again (w64 (s1.1+1),s1.2))
   else
    some (LO.out s1.2):Int×zk->Option (LO (Int×zk) (zk) (Str×zk))) n ((i:Int),⟨l⟩)=some x/\
   x=(match Ak m l with|some s=>LX.ret (s,⟨l.tail⟩)|none=>LX.out ⟨l⟩):=by
  intro m
  induction m with
  |nil=>
   intro i hd hi;have:i=ws.length:=by have:=Be.1 hd;omega
   subst this;exact⟨1,LX.out ⟨l⟩,by simp only[ZT,qA,Ba],rfl⟩
  |cons w m ih=>
   intro i hd hi;obtain⟨hlt,hg,hd'⟩:i<ws.length/\geti ws (i:Int)=some w/\ws.drop (i+1)=m:=by
    have hi:i<ws.length:=by
     rcases Xd i ws.length with h'|h'
     ·exact h'
     ·rw[je h']at hd;cases hd
    rw[Lb hi]at hd;injection hd with h1 h2;exact⟨hi,by rw[Zo hi,h1],h2⟩
   have hmem:w∈ws:=by
    have:w∈ws.drop i:=by rw[hd];exact Fb
    exact List.mem_of_mem_drop this
   obtain⟨hw1,hw2⟩:=hw w hmem;have hstep:(ze (geti ws (i:Int)) fun y2=>ze (zQ ⟨l⟩) fun y3=>
    ze (zA (y3==1) (geti l 0) (default:zb)) fun y4=>
    ze (zA (y3==1) (Zt (y4.token.text,y2)) (default:Bool)) fun y5=>
    bif bif y3==1 then y5 else false then
     ze (zT ⟨l⟩) fun y6=>
     some (LO.ret (y2,y6.2))
    else
     some (LO.again (w64 ((i:Int)+1),(⟨l⟩:zk))))=some (bif headW w l then(LO.ret (w,⟨l.tail⟩):LO (Int×zk) zk (Str×zk))else LO.again (((i+1:Nat):Int),⟨l⟩)):=by
    simp only[hg,Ls,ze,Aa,Zp hlt hn];cases l with
    |nil=>rfl
    |cons a r=>
     have e1:geti (a::r) 0=some a:=rfl;simp only[ll,headW,isW];cases a.token.kind==1 with
     |false=>rfl
     |true=> simp only[zB,e1,Aa,Mx (hl a Fb) hw1,hw2,Da,Aq,Cb];cases lowS a.token.text==w<;>rfl
   cases hh:headW w l with
   |true=> rw[hh]at hstep;refine⟨1,LX.ret (w,⟨l.tail⟩),by simp only[ZT,ZF hlt,Da];rw[hstep];rfl,?_⟩;simp only[Ak,hh,Da]
   |false=>
    rw[hh]at hstep;obtain⟨n,x,g1,g2⟩:=ih (i+1) hd' (by omega);refine⟨n+1,x,?_,?_⟩
    ·simp only[ZT,ZF hlt,Da];rw[hstep];exact g1
    ·rw[g2];simp only[Ak,hh,Ba]
 obtain⟨n,x,h1,h2⟩:=key ws 0 rfl (Kc _);simp only[Int.natCast_zero]at h1;rw[Qd (Q4 h1),h2];cases Ak ws l<;>rfl
abbrev minW:Str:=[109,105,110,45,119,105,100,116,104]
abbrev maxW:Str:=[109,97,120,45,119,105,100,116,104]
def pxS(t:zg):Bool:=((t.kind==12&&lowS t.unit==[112,120])||(t.kind==10&&t.num==0))&&(decide (0<=t.num)&&isN t.num)
def noDC:zD:=⟨[],[],false⟩
def Ep(k:Int)(r:List zb):Option zf:=match sp r with
 |[]=>none
 |c::r2=>bif c.token.kind==16 then(match sp r2 with
  |[]=>none
  |t::r3=>bif (sp r3).isEmpty&&pxS t.token then some ⟨k,[],t.token.num,noDC,[]⟩else none)else none
def uZ:List zb->Option zf
 |[]=>none
 |w::r=>bif isW minW w then Ep 5 r else bif isW maxW w then Ep 6 r else none
def bi(a:zb):Option zf:=bif a.token.kind==21 then uZ (sp a.list)else none
def xC(l:List zb):Option zf:=match l with
 |[]=>none
 |a::_=>bi a
def MayR(r:zf×Bool)(o:Option zf):Prop:=r.2=o.isSome/\ ∀x,o=some x->r.1=x
theorem Zx(c:zf):MayR (c,false) none:=⟨rfl,fun x h=>by cases h⟩
theorem Kl(c:zf):MayR (c,true) (some c):=⟨rfl,fun x h=>by cases h;rfl⟩
theorem tq{l:List zb}(h:zL zo l<=big){a:zb}(ha:a∈l):a.token.text.length<=big/\a.token.unit.length<=big/\zL zo a.list<=big/\zL zo a.list<zL zo l:=by have h1:=DD (f:=zo) ha;have h2:=Im a;omega
theorem zGR{α:Type}(b:Bool)(x y:α):(bif !b then x else y)=bif b then y else x:=by cases b<;>rfl
theorem zIt(t:zg)(e:Bool)(h:t.unit.length<=big)(R:Type)(k:Bool->Option R):((zA (t.kind==12) (Zt (t.unit,[112,120])) (default:Bool)).bind fun y14=>
   (zA (bif bif bif t.kind==12 then y14 else false then true else bif t.kind==10 then t.num==0 else false then decide (t.num>=0)else false) (Qt t.num) (default:Int)).bind fun y15=>
   k (bif bif bif bif bif t.kind==12 then y14 else false then true else bif t.kind==10 then t.num==0 else false then decide (t.num>=0)else false then y15==0 else false then e else false))=k (e&&pxS t):=by
 have e2:((bif isN t.num then(0:Int)else 8)==0)=isN t.num:=by cases isN t.num<;>rfl
 have e3:decide (t.num>=0)=decide (0<=t.num):=rfl;have hlw:lowS ([112,120]:Str)=[112,120]:=by decide
 have hal:zA (t.kind==12) (Zt (t.unit,[112,120])) (default:Bool)=some (bif t.kind==12 then lowS t.unit==[112,120]else default):=by rw[Mx h (by decide),hlw,Zr]
 rw[hal];simp only[jM,Zr,Aa,pxS,e3];cases t.kind==12<;>cases lowS t.unit==[112,120]<;>cases t.kind==10<;>cases t.num==0<;>cases decide (0<=t.num)<;>simp only[Da,Ba,e2]<;>cases isN t.num<;>cases e<;>rfl
theorem zy2{l:List zb}(hz:zL zo l<=big): ∃c b,Z7 ⟨l⟩=some ((c,b),⟨match l with|[]=>[]|a::r=>bif a.token.kind==21 then r else a::r⟩)/\MayR (c,b) (xC l):=by
 unfold Z7;simp only[Ls,ze,Aa];cases l with
 |nil=>exact⟨_,_,rfl,Zx _⟩
 |cons a r=>
  obtain⟨_,_,hal,_⟩:=tq hz (Fb (a:=a) (l:=r));simp only[ll,xC,bi,bne];cases a.token.kind==21 with
  |false=>exact⟨_,_,rfl,Zx _⟩
  |true=>
   simp only[Va,Ba,Da,Aq,Aa,sj];have hzm:zL zo (sp a.list)<=big:=Ob (Bi (kg _)) hal;generalize sp a.list=m at*;rw[TB [minW,maxW] m (fun x hx=>(tq hzm hx).1) (by intro s hs;simp at hs;rcases hs with rfl|rfl<;>exact⟨by decide,by decide⟩) (by decide)];cases m with
   |nil=>exact⟨_,_,rfl,Zx _⟩
   |cons w r1=>
    rw[Qf]at hzm
    -- behind the word
    have tail: ∀k:Int,∃(c:zf) (b:Bool),((zw (⟨r1⟩:zk)).bind fun y6=>
      (zQ y6.2).bind fun y7=>
      bif !(y7==16)then
       some (((⟨k,[],0,(⟨[],[],false⟩:zD),[]⟩:zf),false),(⟨r⟩:zk))
      else
       (zT y6.2).bind fun y8=>
       (zw y8.2).bind fun y9=>
       (zQ y9.2).bind fun y10=>
       (zA (!(y10==12)) (zQ y9.2) (default:Int)).bind fun y11=>
       bif bif !(y10==12)then !(y11==10)else false then
        some (((⟨k,[],0,(⟨[],[],false⟩:zD),[]⟩:zf),false),(⟨r⟩:zk))
       else
        (zT y9.2).bind fun y12=>
        (zw y12.2).bind fun y13=>
        (zA (y12.1.token.kind==12) (Zt (y12.1.token.unit,[112,120])) (default:Bool)).bind fun y14=>
        (zA (bif bif bif y12.1.token.kind==12 then y14 else false then true else bif y12.1.token.kind==10 then y12.1.token.num==0 else false then decide (y12.1.token.num>=0)else false) (Qt y12.1.token.num) (default:Int)).bind fun y15=>
        some (((⟨k,[],y12.1.token.num,(⟨[],[],false⟩:zD),[]⟩:zf),bif bif bif bif bif y12.1.token.kind==12 then y14 else false then true else bif y12.1.token.kind==10 then y12.1.token.num==0 else false then decide (y12.1.token.num>=0)else false then y15==0 else false then(y13.2.v.length:Int)==0 else false),(⟨r⟩:zk)))=some ((c,b),⟨r⟩)/\MayR (c,b) (Ep k r1):=by
     intro k;simp only[sj,Ls,Aa,Ep];have hz1:zL zo (sp r1)<=big:=Ob (Bi (kg _)) (by omega);cases hs1:sp r1 with
     |nil=>exact⟨_,_,rfl,Zx _⟩
     |cons c r2=>
      rw[hs1,Qf]at hz1;simp only[ll,zGR];cases c.token.kind==16 with
      |false=>exact⟨_,_,rfl,Zx _⟩
      |true=>
       simp only[Da,Aq,Aa,sj,Ls];have hz2:zL zo (sp r2)<=big:=Ob (Bi (kg _)) (by omega);cases hs2:sp r2 with
       |nil=>exact⟨_,_,rfl,Zx _⟩
       |cons t r3=>
        rw[hs2]at hz2;obtain⟨_,hu,_⟩:=tq hz2 (Fb (a:=t) (l:=r3));simp only[ll,Zr,Aa,Aq,sj,QV];have hpx:=zIt t.token (sp r3).isEmpty hu ((zf×Bool)×zk) fun b=>some (((⟨k,[],t.token.num,(⟨[],[],false⟩:zD),[]⟩:zf),b),(⟨r⟩:zk));rw[hpx];have hno:(t.token.kind==12)=false->(t.token.kind==10)=false->pxS t.token=false:=by intro h1 h2;unfold pxS;rw[h1,h2];rfl
        cases h12:t.token.kind==12 with
        |true=>
         simp only[Va,Ba];refine⟨_,_,rfl,?_⟩;cases (sp r3).isEmpty&&pxS t.token
         ·exact Zx _
         ·exact Kl _
        |false=>
         cases h10:t.token.kind==10 with
         |true=>
          simp only[Ta,Va,Da,Ba,h10];refine⟨_,_,rfl,?_⟩;cases (sp r3).isEmpty&&pxS t.token
          ·exact Zx _
          ·exact Kl _
         |false=> simp only[Ta,Da,h10];rw[hno h12 h10,Ic];exact⟨_,_,rfl,Zx _⟩
    have q1:(minW==([]:Str))=false:=rfl;have q2:(minW==maxW)=false:=rfl;have q3:(maxW==([]:Str))=false:=rfl;have q4:(maxW==maxW)=true:=rfl;have q5:(([]:Str)==([]:Str))=true:=rfl;simp only[Ak,headW,uZ];cases isW minW w with
    |true=> obtain⟨c,b,h1,h2⟩:=tail 5;simp only[Da,Aa,q1,q2,Ba,zq,Ef];exact⟨c,b,h1,h2⟩
    |false=>
     cases isW maxW w with
     |true=> obtain⟨c,b,h1,h2⟩:=tail 6;simp only[Da,Aa,q3,q4,Ba,zq,Ef];exact⟨c,b,h1,h2⟩
     |false=> simp only[Da,Aa,q5,Ba,znE];exact⟨_,_,rfl,Zx _⟩
abbrev andW:Str:=[97,110,100]
abbrev orW:Str:=[111,114]
abbrev notW:Str:=[110,111,116]
abbrev au:Str:=[111,110,108,121]
def Ir:Nat->List zb->Option (List zf)
 |0,_=>none
 |n+1,l=>match sp l with
  |[]=>some []
  |a::r=>bif isW andW a then(match sp r with
   |[]=>none
   |b::r'=>match bi b with
    |none=>none
    |some x=>(Ir n r').map (x:: ·))else none
def Rj(l:List zb):Option (List zf):=Ir (l.length+1) l
theorem MW: ∀{n m:Nat} {l:List zb},l.length<n->l.length<m->Ir n l=Ir m l
 |0,_,_,h,_=>by omega
 |_,0,_,_,h=>by omega
 |n+1,m+1,l,h1,h2=>by
  unfold Ir;cases hs:sp l with
  |nil=>rfl
  |cons a r=>
   have hl:=Ai l;rw[hs,Fa]at hl;simp only;cases isW andW a with
   |false=>rfl
   |true=>
    simp only[Da];cases hs2:sp r with
    |nil=>rfl
    |cons b r'=>
     have hl2:=Ai r;rw[hs2,Fa]at hl2;simp only;cases bi b with
     |none=>rfl
     |some x=>rw[MW (n:=n) (m:=m) (by omega) (by omega)]
theorem Tq(l:List zb):Rj l=match sp l with
  |[]=>some []
  |a::r=>bif isW andW a then(match sp r with
   |[]=>none
   |b::r'=>match bi b with
    |none=>none
    |some x=>(Rj r').map (x:: ·))else none:=by
 show Ir (l.length+1) l=_;unfold Ir;cases hs:sp l with
 |nil=>rfl
 |cons a r=>
  have hl:=Ai l;rw[hs,Fa]at hl;simp only;cases isW andW a with
  |false=>rfl
  |true=>
   simp only[Da];cases hs2:sp r with
   |nil=>rfl
   |cons b r'=>
    have hl2:=Ai r;rw[hs2,Fa]at hl2;simp only;cases bi b with
    |none=>rfl
    |some x=>rw[MW (n:=l.length) (m:=r'.length+1) (by omega) (by omega)];rfl
def allC(l:List zf):zf:=⟨1,[],0,noDC,l⟩
def notC(c:zf):zf:=⟨3,[],0,noDC,[c]⟩
def medC(s:Str):zf:=⟨4,s,0,noDC,[]⟩
def Dv(only:Bool)(l:List zb):Option zf:=match l with
 |[]=>none
 |a::_=>bif a.token.kind==1 then(bif medS (lowS a.token.text)then some (medC (lowS a.token.text))else none)else bif only then none else bi a
def vo(not only:Bool)(l:List zb):Option zf:=match Dv only l with
 |none=>none
 |some x=>match Rj l.tail with
  |none=>none
  |some r=>some (bif not then notC (allC (x::r))else allC (x::r))
def Lh(l:List zb):Option zf:=
 bif headW notW (sp l)then vo true true (sp (sp l).tail)else bif headW au (sp l)then vo false true (sp (sp l).tail)else vo false false (sp l)
theorem zA0{X R:Type}{m:Option (LX X R)}{k:X->Option R}(G:R->Prop)(P:X->Prop)(h:(∃o,m=some (.out o)/\P o)\/(∃r,m=some (.ret r)/\G r))(hk: ∀o,P o-> ∃r,k o=some r/\G r): ∃r,Zk m k=some r/\G r:=by
 rcases h with⟨o,rfl,ho⟩|⟨r,rfl,hr⟩
 ·exact hk o ho
 ·exact⟨r,rfl,hr⟩
theorem zHM:lowS notW=notW:=by decide
def finQ(not:Bool)(l:List zf):zf:=bif not then notC (allC l)else allC l
theorem zDs(not only:Bool)(l:List zb):vo not only l=match Dv only l with
  |none=>none
  |some x=>(Rj l.tail).map fun r=>finQ not (x::r):=by
 unfold vo;cases Dv only l with
 |none=>rfl
 |some x=>cases Rj l.tail with
  |none=>rfl
  |some r=>cases not<;>rfl
def lH(l:List zb):List zb:=match l with
 |[]=>[]
 |a::r=>bif a.token.kind==21 then r else a::r
theorem VV{l:List zb}(hz:zL zo l<=big): ∃c b,Z7 ⟨l⟩=some ((c,b),⟨lH l⟩)/\MayR (c,b) (xC l):=by have h:=zy2 hz;cases l<;>exact h
theorem zFa{l:List zb}(hz:zL zo l<=big): ∃r,Qj ⟨l⟩=some r/\MayR r.1 (Lh l):=by
 unfold Qj;have hz0:zL zo (sp l)<=big:=Ob (Bi (kg _)) hz;have hword: ∃(s:Str) (m:List zb),Zv ([[110,111,116],[111,110,108,121]],⟨sp l⟩)=some (s,⟨m⟩)/\zL zo m<=big/\Lh l=vo (s==notW) (!(s==[])) (sp m):=by
  rw[TB [notW,au] (sp l) (fun a ha=>(tq hz0 ha).1) (by intro s hs;simp at hs;rcases hs with rfl|rfl<;>exact⟨by decide,by decide⟩) (by decide)];simp only[Ak,Lh];have ht:zL zo (sp l).tail<=big:=Ob (Bi (List.tail_sublist _)) hz0;cases headW notW (sp l)with
  |true=>exact⟨notW,(sp l).tail,rfl,ht,rfl⟩
  |false=>
   cases headW au (sp l)with
   |true=>exact⟨au,(sp l).tail,rfl,ht,rfl⟩
   |false=>exact⟨[],sp l,rfl,hz0,by rw[Dn];rfl⟩
 obtain⟨s,m,hw,hzm,hq⟩:=hword;simp only[sj,ze,Aa,hw];rw[hq,zDs];have hz1:zL zo (sp m)<=big:=Ob (Bi (kg _)) hzm;generalize sp m=l1 at*;have happ:zW 0 1 104=true:=QH (by decide);refine zA0 (fun r:(zf×Bool)×zk=>MayR r.1 _) (fun o:zk×(Int×Str×Int×Str×Bool)×(Int×Str×Int×Str×Bool)×List zf=>o.2.1=(0,[],0,[],false)/\o.2.2.1=(1,[],0,[],false)/\ ∃c,Dv (!(s==[])) l1=some c/\o.2.2.2=[c]/\o.1.v=l1.tail) ?_ ?_
 ·simp only[Ls,Aa];cases l1 with
  |nil=> right;refine⟨_,rfl,?_⟩;exact Zx _
  |cons a r=>
   obtain⟨hat,_,_⟩:=tq hz1 (Fb (a:=a) (l:=r));have hf:=VV hz1;simp only[ll,Dv,xC,lH]at hf ⊢;cases h1:a.token.kind==1 with
   |true=>
    simp only[Da,Aq,Aa,Lx hat,jX (show(lowS a.token.text).length<=big by unfold lowS;rw[Ib];exact hat),zF happ];cases medS (lowS a.token.text)with
    |true=>exact .inl ⟨(⟨r⟩,(0,[],0,[],false),(1,[],0,[],false),[medC (lowS a.token.text)]),rfl,rfl,rfl,_,rfl,rfl,rfl⟩
    |false=> right;simp only[Ta,Da,Ba];exact⟨_,rfl,Zx _⟩
   |false=>
    obtain⟨c,b,g1,g2,g3⟩:=hf;simp only[Ba,g1,Aa,Zd,zF happ];cases hs:s==[]with
    |false=>
     right;simp only[Ta,Da];cases b<;>exact⟨_,rfl,Zx _⟩
    |true=>
     cases hfs:bi a with
     |none=> rw[hfs]at g2;obtain rfl:b=false:=g2;exact .inr ⟨_,rfl,Zx _⟩
     |some x=>
      rw[hfs]at g2;obtain rfl:b=true:=g2;obtain rfl:c=x:=g3 x hfs;have h21:(a.token.kind==21)=true:=by
       unfold bi at hfs;cases hk:a.token.kind==21 with
       |true=>rfl
       |false=>rw[hk]at hfs;cases hfs
      simp only[h21,Da];exact .inl ⟨_,rfl,rfl,rfl,_,rfl,rfl,rfl⟩
 ·rintro⟨⟨v⟩,_,_,acc⟩ ⟨rfl,rfl,c,hc,rfl,hv⟩;have hv:v=l1.tail:=hv;subst hv;have hzt:zL zo l1.tail<=big:=Ob (Bi (List.tail_sublist _)) hz1;have hlt:=ED wJ l1;have hrs:Rj l1.tail=Rj (sp l1.tail):=by rw[Tq,Tq (sp l1.tail),Dn]
  simp only[hc,sj,Aa,hrs];refine XT (fun s:zk×(Int×Str×Int×Str×Bool)×(Int×Str×Int×Str×Bool)×List zf=>s.1.v.length) (fun s=>s.2.1=(0,[],0,[],false)/\s.2.2.1=(1,[],0,[],false)/\sp s.1.v=s.1.v/\zL zo s.1.v<=big/\s.2.2.2.length+s.1.v.length<=big)
   (fun t (r:(zf×Bool)×zk)=>MayR r.1 ((Rj t.1.v).map fun q=>finQ (s==notW) (t.2.2.2++q))) ?_ ?_
  ·rintro⟨⟨v⟩,_,_,acc⟩ ⟨rfl,rfl,hv1,hv2,hv3⟩;simp only at hv1 hv2 hv3;cases v with
   |nil=>
    right;right;refine⟨(⟨[]⟩,(0,[],0,[],false),(1,[],0,[],false),acc),rfl,?_⟩;have hr:Rj []=some []:=by rw[Tq,bZ]
    simp only[hr,jc,Xa];cases hn:s==[110,111,116]with
    |true=>exact⟨_,rfl,Kl _⟩
    |false=>exact⟨_,rfl,Kl _⟩
   |cons a r=>
    have hpos:decide (((a::r).length:Int)>0)=true:=Ga (by simp only[Fa];omega);simp only[hpos,Da];rw[TB [andW] (a::r) (fun x hx=>(tq hv2 hx).1) (by intro s hs;simp at hs;subst hs;exact⟨by decide,by decide⟩) (by decide)];rw[Tq,hv1];simp only[Ak,headW];cases isW andW a with
    |false=> right;left;exact⟨_,rfl,Zx _⟩
    |true=>
     have e0:(andW==([]:Str))=false:=rfl;rw[Qf]at hv2;have hz2:zL zo (sp r)<=big:=Ob (Bi (kg _)) (by omega);obtain⟨c,b,g1,g2,g3⟩:=VV hz2;have hlr:=Ai r;simp only[Fa]at hv3;simp only[Da,Aa,e0,Ba,Ef,sj,g1];cases hsr:sp r with
     |nil=> rw[hsr]at g2;obtain rfl:b=false:=g2;right;left;exact⟨_,rfl,Zx _⟩
     |cons d r'=>
      rw[hsr]at g2 g3 hlr hz2;rw[Qf]at hz2;simp only[xC,lH]at g2 g3 ⊢;cases hfs:bi d with
      |none=> rw[hfs]at g2;obtain rfl:b=false:=g2;right;left;exact⟨_,rfl,Zx _⟩
      |some x=>
       rw[hfs]at g2;obtain rfl:b=true:=g2;obtain rfl:c=x:=g3 x hfs;have h21:(d.token.kind==21)=true:=by
        unfold bi at hfs;cases hk:d.token.kind==21 with
        |true=>rfl
        |false=>rw[hk]at hfs;cases hfs
       have hap:zW acc.length 1 104=true:=QH (by unfold big at hv3;omega);have hlr':=Ai r';rw[Fa]at hlr;left;refine⟨(⟨sp r'⟩,(0,[],0,[],false),(1,[],0,[],false),acc++[c]),?_,⟨rfl,rfl,Dn _,Ob (Bi (kg _)) (by omega),?_⟩,?_,?_⟩
       ·simp only[Va,Ba,hap,zK,h21,Da,Zd]
       ·simp only[Ja,Fa,Eb];omega
       ·simp only[Fa];omega
       ·intro q hq;have hsp:Rj (sp r')=Rj r':=by rw[Tq,Tq r',Dn]
        simp only[hsp]at hq;simp only;cases hr:Rj r' with
        |none=>rw[hr]at hq;exact hq
        |some z=> rw[hr]at hq;simp only[jc,La,xc]at hq ⊢;exact hq
  ·refine⟨rfl,rfl,Dn _,Ob (Bi (kg _)) hzt,?_⟩;have:=Ai l1.tail;have h1b:1<=big:=by unfold big;omega
   simp only[Fa,Eb,List.length_tail]at*;omega
def jO:zf:=notC (allC [medC [97,108,108]])
def orN(o:Option zf):zf:=match o with
 |some c=>c
 |none=>jO
end Go.Lv.VT
