/- Parsing of tokens: what the machine of nest.Parse computes is what the reference's recursion computes. -/
import Derived.Test.YtcdeccnjlkkejaaGreatDoorNa
import Derived.Test.YtcdeccnjlkkejaaGreatDoorTy
import Derived.Test.YtcdeccnjlkkejaaGreatDoorNb
import Derived.Test.YtcdeccnjlkkejaaGreatDoorNe
import Derived.Test.YtcdeccnjlkkejaaGreatDoorNam
import Derived.Test.YtcdeccnjlkkejaaGreatDoorTx
import Derived.Test.YtcdeccnjlkkejaaGreatDoorMo
set_option linter.unusedSimpArgs false
set_option linter.unusedVariables false
namespace Go.Lv.VT
set_option maxRecDepth 100000
theorem dA: ∀(a b:List zb),tokL (a++b)=tokL a++tokL b
 |[],b=>by rw[tokL];rfl
 |v::a,b=>by rw[Jc,tokL,tokL,dA a b,Dc]
theorem YW{α:Type}(l:List α):((l.length:Int)==0)=l.isEmpty:=by
 cases l with
 |nil=>rfl
 |cons a l=>exact Ua.2 (by simp only[Ub];omega)
theorem jr(v:zb):(⟨v.token,v.list⟩:zb)=v:=by cases v;rfl
def Vu(x:Str):Bool:= !(x==[])&&(decide (x.length<=64)&&(Af x&&(bif List.isPrefixOf [45,45] x then !(x==[45,45])else lowS x==x)))
theorem SY{x:Str}(h:x.length<=big):Vl x=some (Vu x):=by
 have e:decide ((x.length:Int)>64)= !decide (x.length<=64):=UF _ 64;have e1:decide (Lib.indexByte x (0:Int).toNat.toUInt8>=0)= !Af x:=BG x;have ec:=nT x (lowS x);unfold Vl Vu;simp only[XK,QX,ze,Ca,Bu,Mx h,e,ec];cases x==[]<;>cases decide (x.length<=64)<;>try rfl
 simp only[Oa,Sa,Mc,ib,Ac,Bool.or_false,e1];cases Af x<;>cases List.isPrefixOf [45,45] x<;>rfl
def clK(v:zb):Bool:=v.token.kind==20||(v.token.kind==22||v.token.kind==24)
mutual
def clV:zb->Bool
 |⟨t,l⟩=>clK ⟨t,l⟩||clL l
def clL:List zb->Bool
 |[]=>false
 |v::r=>clV v||clL r
end
theorem kN(v:zb):clV v=(clK v||clL v.list):=by obtain⟨t,l⟩:=v;rw[clV]
theorem BP(l:List zb):clL l=l.any clV:=by
 induction l with
 |nil=>rw[clL];rfl
 |cons v l ih=>rw[clL,ih];rfl
theorem cZ{l:List zb}(h:szL l<=big):zk l=some (clL l):=by
 refine aj (fun l=>szL l) (fun l=>szL l<=big) (fun l=>clL l) (fun S l hl hS=> ?_) h;have hlen:=QF l;unfold QA zW Zo;have:=bG (GH (step:=fun(s1:Int)=>
   bif decide (s1<(l.length:Int))then
    ze (geti l s1) fun y2=>
    ze (qb S (⟨y2.token,y2.list⟩:zb)) fun y3=>
    bif y3 then some (LO.ret s1)else some (LO.again (w64 (s1+1)))
   else some (LO.out ())) l clV (by omega) (fun i hi=> ?_) ?_) (VA _ _)
 ·rw[this,BP];rfl
 ·have hsz:=yh (Nc hi);have hv2:=ig l[i];have hs:=hS l[i].list (by omega) (by omega);have:qb S l[i]=some (clV l[i]):=by unfold qb zZ;simp only[jr,QX,ze,Ca,hs,kN,clK];cases l[i].token.kind==20<;>cases l[i].token.kind==22<;>cases l[i].token.kind==24<;>rfl
  simp only[Qc hi,Oa,qZ hi,ze,Ca,jr,this]
 ·simp only[Wj,Sa]
def Np(l:List zb):Bool:=match l with
 |[]=>false
 |v::r=>isSp v||isSp ((v::r).getLast (by simp))
theorem yT{l:List zb}(h:l.length<=big)(g:Bool)(hg:(l.isEmpty&&g)=false)(k:Bool->Option Int):
  (ze (zy (decide ((l.length:Int)>0)&& !g) (geti l 0) (default:zb)) fun y7=>
   ze (zy (decide ((l.length:Int)>0)&& !g) (zZ ((⟨y7.token,y7.list⟩:zb),13)) (default:Bool)) fun y8=>
   ze (zy (!y8&&(decide ((l.length:Int)>0)&& !g)) (geti l (w64 ((l.length:Int) - 1))) (default:zb)) fun y9=>
   ze (zy (!y8&&(decide ((l.length:Int)>0)&& !g)) (zZ ((⟨y9.token,y9.list⟩:zb),13)) (default:Bool)) fun y10=>
   k (bif decide ((l.length:Int)>0)then bif y8 then true else y10 else false))=(if g=true/\l≠[]then(k (bif decide ((l.length:Int)>0)then bif (default:Bool)then true else(default:Bool)else false))else k (Np l)):=by
 cases l with
 |nil=> have:decide ((([]:List zb).length:Int)>0)=false:=rfl;simp only[this,jc,ZI,ze,Ca,Ff,Sa,ne_eq,not_true_eq_false,and_false,if_false,Np]
 |cons v r=>
  have e1:decide (((v::r).length:Int)>0)=true:=Rc (by simp only[Ub];omega);have e2:geti (v::r) 0=some v:=rfl;cases g with
  |true=>simp only[e1,Mc,Ff,ZI,ze,Ca,Oa,ne_eq,reduceCtorEq,Cf,and_self,Yd]
  |false=>
   simp only[e1,ib,Vd,zJ,ze,Ca,Oa,e2,zZ,false_and,if_false,reduceCtorEq];have e3:w64 (((v::r).length:Int) - 1)=(r.length:Int):=by rw[Ub]at h ⊢;rw[w64,Z8 (by omega) (by unfold big at h;omega)];omega
   have e4:geti (v::r) (r.length:Int)=some ((v::r).getLast (by simp)):=by rw[qZ (by simp),List.getLast_eq_getElem];simp
   rw[e3,e4];simp only[QX,Ca,Np,isSp];cases v.token.kind==13<;>rfl
def badV(v:zb):Bool:=v.token.kind==17||(v.token.kind==9&&v.token.text==[33])
def XE(custom:Bool)(l:List zb):Bool:= !(l.any badV)&&(!(l.isEmpty&& !custom)&& !Np l)
def Kj(d:zV):Bool:=Vu d.name&&(errS d.value==0&&(gluS (tokL d.value)==0&&(!clL d.value&&XE (List.isPrefixOf [45,45] d.name) d.value)))
mutual
theorem lQ: ∀(v:zb) (t:zg),t∈tokV v->t.text.length<=szV v/\t.unit.length<=szV v
 |⟨t,l⟩,u,h=>by
  rw[tokV]at h;rw[szV];rcases Va.1 h with rfl|h
  ·constructor<;>omega
  ·split at h
   ·cases h
   ·rcases Eb.1 h with h|h
    ·have:=bA l u h;omega
    ·obtain rfl:=Ga.1 h;exact⟨Lb _,Lb _⟩
theorem bA: ∀(l:List zb) (t:zg),t∈tokL l->t.text.length<=szL l/\t.unit.length<=szL l
 |[],_,h=>by rw[tokL]at h;cases h
 |v::r,u,h=>by
  rw[tokL]at h;rw[szL];rcases Eb.1 h with h|h
  ·have:=lQ v u h;omega
  ·have:=bA r u h;omega
end
theorem xR{l:List zb}(h:szL l<=big):QB (tokL l)=some (gluS (tokL l)):=
 aY fun t ht=>by have:=bA l t ht;omega
theorem RY{l:List zb}(h:l.length<=big):zH l=some (l.any badV):=by
 unfold zH Zd;refine bG (GH l badV h (fun i hi=> ?_) ?_) (VA _ _)
 ·have:Ro l[i]=some (badV l[i]):=by unfold Ro Aj zZ badV;simp only[jr,QX,ze,Ca];cases l[i].token.kind==17<;>cases l[i].token.kind==9<;>rfl
  simp only[Qc hi,Oa,qZ hi,ze,Ca,jr,this]
 ·simp only[Wj,Sa]
theorem TY{d:zV}(hv:szL d.value<=big)(hn:d.name.length<=big):QY d=some (bif Kj d then 0 else 8):=by
 have hlen:=QF d.value;unfold QY Kj;rw[kX hv];simp only[ze,Ca,SY hn];cases Vu d.name with
 |false=>simp only[ib,Oa,Mc,ZI,Ca,jc,Sa]
 |true=>
  by_cases he:errS d.value=0
  ·rw[ja he];have he':(errS d.value==0)=true:=Sd.2 he;have this:((0:Int)==0)=true:=rfl;simp only[he',this,Mc,Sa,ib,zJ,xR hv,Ca,Ac,bne];cases hg:gluS (tokL d.value)==0 with
   |false=>simp only[ib,Oa,Mc,ZI,Ca,jc,Sa]
   |true=>
    simp only[Mc,Sa,ib,zJ,cZ hv,Ca,Ac];cases clL d.value with
    |true=>rfl
    |false=>
     simp only[Sa,RY (show d.value.length<=big by omega),Ca,XE,ib,Ac];cases d.value.any badV with
     |true=>rfl
     |false=>
      simp only[Sa,Bu,QX,Ca,YW,ib,Ac];have hp:=yT (l:=d.value) (by omega) (bif d.value.isEmpty then !(bif d.value.isEmpty then List.isPrefixOf [45,45] d.name else default)else false);cases hd:d.value with
      |nil=>
       cases List.isPrefixOf [45,45] d.name<;>rfl
      |cons v r=> have hp':=hp (by rw[hd];rfl) (fun b=>bif b then some 8 else some 0);rw[hd]at hp';simp only[List.isEmpty_cons,Sa,Bool.false_eq_true,false_and,if_false]at hp';simp only[List.isEmpty_cons,Sa,jc,ib,Ac];refine Eq.trans hp' ?_;cases Np (v::r)<;>rfl
  ·rw[Ta he];have he':(errS d.value==0)=false:=Ua.2 he;simp only[he',bne,Mc,Sa,ib,Oa,ZI,Ca,jc,Ff]
def pg(l:List zb):Prop:= ∀t v,l=t++[v]->isSp v=false
def Gh(l:List zb):Prop:= ∀a t,l=a::t->isSp a=false
theorem pg.suf{a b:List zb}(h:pg (a++b)):pg b:=fun t v e=>h (a++t) v (by rw[e,Dc])
theorem pg.id{l:List zb}(h:pg l):trimB l=l:=by
 rcases Co l with rfl|⟨t,v,rfl⟩
 ·rfl
 ·rw[Mt,h t v rfl];rfl
theorem gH(l:List zb):pg (trimB l):=by
 obtain⟨r,_,_,h|⟨t,v,h,hv⟩⟩:=NJ l
 ·intro t v e;rw[h]at e;simp at e
 ·intro t' v' e;rw[h]at e;have:=List.append_inj_right' e rfl;injection this with e1;rw[<-e1];exact hv
theorem Gh.pre{a b:List zb}(h:Gh (a++b)):Gh a:=fun x t e=>h x (t++b) (by rw[e];rfl)
theorem Gh.id{l:List zb}(h:Gh l):l.dropWhile isSp=l:=by
 cases l with
 |nil=>rfl
 |cons a t=>rw[Me,h a t rfl];rfl
theorem YP(l:List zb):Gh (l.dropWhile isSp):=by obtain⟨a,_,_,h⟩:=NC l;exact fun x b e=>h x b e
theorem VF(l:List zb): ∃a,l=a++l.dropWhile isSp:=by obtain⟨a,h,_⟩:=NC l;exact⟨a,h⟩
theorem fH(l:List zb): ∃r,l=trimB l++r:=by obtain⟨r,h,_⟩:=NJ l;exact⟨r,h⟩
theorem gQ{l:List zb}(h1:Gh l)(h2:pg l):trimS l=l:=by unfold trimS;rw[h1.id,h2.id]
theorem left_eq{l:List zb}:Nl l=some (l.dropWhile isSp):=by
 unfold Nl zZ;refine(Xh (r:= .out (l.dropWhile isSp)) (Vs (fun s=>s.dropWhile isSp=l.dropWhile isSp) (fun s=>s.length) _ (fun s hs=> ?_) rfl)).trans ?_
 ·cases s with
  |nil=>exact .inr (.inl ⟨[],by simp,by rw[<-hs];rfl⟩)
  |cons v t=>
   have h1:decide (((v::t).length:Int)>0)=true:=by rw[Dv];simp
   have h2:geti (v::t) 0=some v:=rfl;have h3:decide ((1:Int)<=((v::t).length:Int))=true:=by simp;omega
   rw[Me]at hs;cases hv:isSp v with
   |true=> rw[hv]at hs;unfold isSp at hv;refine .inl ⟨t,?_,by simpa using hs,by simp⟩;simp only[h1,h2,h3,zJ,ze,Ca,hv,Oa,Z4];rfl
   |false=> rw[hv]at hs;unfold isSp at hv;refine .inr (.inl ⟨v::t,?_,by rw[<-hs];rfl⟩);simp only[h1,h2,zJ,ze,Ca,hv,Oa,Sa]
 ·rw[znI]
theorem right_eq{d:List zb}(hd:szL d<=big):QZ d=some (trimB d):=by
 unfold QZ zZ;refine(Xh (r:= .out (trimB d)) (Vs (fun s=>trimB s=trimB d/\szL s<=big) (fun s=>s.length) _ (fun s hs=> ?_) ⟨rfl,hd⟩)).trans ?_
 ·rcases Co s with rfl|⟨t,v,rfl⟩
  ·exact .inr (.inl ⟨[],by simp,by rw[<-hs.1];rfl⟩)
  ·have hlen:=QF (t++[v]);have hl2:(t++[v]).length=t.length+1:=by simp
   have hb:=hs.2;unfold big at hb;have h1:decide (((t++[v]).length:Int)>0)=true:=by rw[Dv];simp
   have h4:w64 (((t++[v]).length:Int) - 1)=(t.length:Int):=by rw[w64,Z8 (by omega) (by omega)];omega
   have h2:geti (t++[v]) (t.length:Int)=some v:=by rw[qZ (by omega)];simp
   have h3:(decide ((0:Int)<=(t.length:Int))&&decide ((t.length:Int)<=((t++[v]).length:Int)))=true:=by simp;omega
   have hs1:=hs.1;rw[Mt]at hs1;cases hv:isSp v with
   |true=> rw[ja hv]at hs1;unfold isSp at hv;refine .inl ⟨t,?_,⟨hs1,ma (xh (List.sublist_append_left t [v])) hs.2⟩,by simp⟩;simp only[h1,h4,h2,h3,zJ,ze,Ca,hv,Oa,Z4,Ec];simp
   |false=> rw[Ta (by rw[hv];simp)]at hs1;unfold isSp at hv;refine .inr (.inl ⟨t++[v],?_,by rw[<-hs1]⟩);simp only[h1,h4,h2,zJ,ze,Ca,hv,Oa,Sa]
 ·rw[znI]
def Lp(v:zb):Bool:=v.token.kind==9&&v.token.text==[33]
theorem FP(v:zb):Aj v=some (Lp v):=by unfold Aj zZ Lp;simp only[ze,Ca];cases v.token.kind==9<;>rfl
def impW:Str:=[105,109,112,111,114,116,97,110,116]
def endV(l:List zb):Option (List zb×zb):=match l.reverse with
 |[]=>none
 |v::t=>some (t.reverse,v)
theorem UB(t:List zb)(v:zb):endV (t++[v])=some (t,v):=by unfold endV;rw[List.reverse_append];simp
def Lg(v:List zb):List zb×Bool:=match endV v with
 |none=>(v,false)
 |some (t,z)=>bif !t.isEmpty&&(z.token.kind==1&&lowS z.token.text==impW)then
   (match endV (trimB t)with
   |none=>(v,false)
   |some (u,b)=>bif Lp b then(trimB u,true)else(v,false))
  else(v,false)
theorem uF{t:List zb}{v:zb}(h:szL (t++[v])<=big):w64 (((t++[v]).length:Int) - 1)=(t.length:Int):=by
 have hlen:=QF (t++[v]);have hl2:(t++[v]).length=t.length+1:=by simp
 unfold big at h;rw[w64,Z8 (by omega) (by omega)];omega
theorem UG(t:List zb)(v:zb):geti (t++[v]) (t.length:Int)=some v:=by rw[qZ (by simp)];simp
theorem rF(t:List zb)(v:zb):(decide ((0:Int)<=(t.length:Int))&&decide ((t.length:Int)<=((t++[v]).length:Int)))=true:=by simp;omega
theorem lF(t:List zb)(v:zb):List.take t.length (t++[v])=t:=by simp
theorem VP:lowS [105,109,112,111,114,116,97,110,116]=impW:=by decide+kernel
theorem mF{t:List zb}{v:zb}(h:szL (t++[v])<=big):szL t<=big/\v.token.text.length<=big:=by rw[Nt,szL,ig]at h;omega
theorem yG(t:List zb):decide ((t.length:Int)>0)= !t.isEmpty:=by
 cases t with
 |nil=>rfl
 |cons a t=>exact Rc (by simp only[Ub];omega)
abbrev MK:=LX (List zb×(Str×Bool)×(Str×Bool)) (zV×Bool)
theorem CS{v:List zb}{nm:Str}(hv:szL v<=big):(
  ze (zy (decide (w64 ((v.length:Int) - 1)>0)) (geti v (w64 ((v.length:Int) - 1))) (default:zb)) fun y13=>
  ze (zy (decide (w64 ((v.length:Int) - 1)>0)) (zZ ((⟨y13.token,y13.list⟩:zb),1)) (default:Bool)) fun y14=>
  ze (zy (bif decide (w64 ((v.length:Int) - 1)>0)then y14 else false) (geti v (w64 ((v.length:Int) - 1))) (default:zb)) fun y15=>
  ze (zy (bif decide (w64 ((v.length:Int) - 1)>0)then y14 else false) (ZW (y15.token.text,[105,109,112,111,114,116,97,110,116])) (default:Bool)) fun y16=>
  bif bif bif decide (w64 ((v.length:Int) - 1)>0)then y14 else false then y16 else false then
   need (decide (0<=w64 ((v.length:Int) - 1))&&decide (w64 ((v.length:Int) - 1)<=(v.length:Int)))<|
   ze (QZ (List.take (w64 ((v.length:Int) - 1)).toNat v)) fun y17=>
   ze (zy (decide ((y17.length:Int)>0)) (geti y17 (w64 ((y17.length:Int) - 1))) (default:zb)) fun y18=>
   ze (zy (decide ((y17.length:Int)>0)) (Aj (⟨y18.token,y18.list⟩:zb)) (default:Bool)) fun y19=>
   bif bif decide ((y17.length:Int)>0)then y19 else false then
    need (decide (0<=w64 ((y17.length:Int) - 1))&&decide (w64 ((y17.length:Int) - 1)<=(y17.length:Int)))<|
    ze (QZ (List.take (w64 ((y17.length:Int) - 1)).toNat y17)) fun y20=>
    some (LX.out (y20,(([]:Str),false),(nm,true)))
   else
    some (LX.out (v,(([]:Str),false),(nm,false)))
  else
   some (LX.out (v,(([]:Str),false),(nm,false))))=(some (LX.out ((Lg v).1,(([]:Str),false),(nm,(Lg v).2))):Option MK):=by
 rcases Co v with rfl|⟨t,z,rfl⟩
 ·rfl
 ·obtain⟨ht,hz⟩:=mF hv;unfold Lg;rw[UB];simp only[uF hv,yG];cases he:t.isEmpty with
  |true=>simp only[Mc,ZI,ze,Ca,Sa,jc]
  |false=>
   simp only[ib,zJ,UG,zZ,ze,Ca,Oa,Ac];cases hk:z.token.kind==1 with
   |false=>simp only[ZI,Ca,Sa,jc]
   |true=>
    simp only[zJ,Ca,sI hz (show([105,109,112,111,114,116,97,110,116]:Str).length<=big by decide),VP,Oa,Ac];cases ha:lowS z.token.text==impW with
    |false=>simp only[Sa]
    |true=>
     simp only[Oa,rF,Z4,Ec,lF,right_eq ht,Ca,yG];have hw:szL (trimB t)<=big:=ma (xh (dn t)) ht;obtain⟨w,hwd⟩: ∃w,trimB t=w:=⟨_,rfl⟩;rw[hwd]at hw;simp only[hwd];rcases Co w with rfl|⟨u,b,rfl⟩
     ·rfl
     ·have hne:(u++[b]).isEmpty=false:=by cases u<;>rfl
      rw[UB];simp only[hne,ib,zJ,uF hw,UG,Ca,jr,FP,Oa];cases hb:Lp b with
      |false=>simp only[Sa]
      |true=>simp only[Oa,rF,Z4,Ec,lF,right_eq (mF hw).1,Ca]
def nmD(s:Str):Str:=bif List.isPrefixOf [45,45] s then s else lowS s
def noD:zV×Bool:=(⟨[],[],false⟩,false)
def oneS(x:List zb):zV×Bool:=match trimS x with
 |[]=>noD
 |n::r=>bif n.token.kind==1 then
   (match r.dropWhile isSp with
   |[]=>noD
   |c::q=>bif c.token.kind==16 then
     (bif Kj ⟨nmD n.token.text,(Lg (q.dropWhile isSp)).1,(Lg (q.dropWhile isSp)).2⟩then(⟨nmD n.token.text,(Lg (q.dropWhile isSp)).1,(Lg (q.dropWhile isSp)).2⟩,true)else noD)
    else noD)
  else noD
theorem vH{v:List zb}{t:List zb}{z:zb}(h:endV v=some (t,z)):v=t++[z]:=by
 rcases Co v with rfl|⟨t',z',rfl⟩
 ·cases h
 ·rw[UB]at h;cases h;rfl
theorem tF{v:List zb}(h1:Gh v)(h2:pg v):Gh (Lg v).1/\pg (Lg v).1/\(Lg v).1.Sublist v:=by
 unfold Lg;split
 ·exact⟨h1,h2,kg _⟩
 ·rename_i t z he;have hv:=vH he;cases !t.isEmpty&&(z.token.kind==1&&lowS z.token.text==impW)with
  |false=>exact⟨h1,h2,kg _⟩
  |true=>
   rw[Oa];split
   ·exact⟨h1,h2,kg _⟩
   ·rename_i u b hb;have hw:=vH hb;cases Lp b with
    |false=>exact⟨h1,h2,kg _⟩
    |true=>
     rw[Oa];have hht:Gh t:=by rw[hv]at h1;exact h1.pre
     have hhw:Gh (trimB t):=by obtain⟨r,hr⟩:=fH t;rw[hr]at hht;exact hht.pre
     have hhu:Gh u:=by rw[hw]at hhw;exact hhw.pre
     refine⟨?_,gH u,?_⟩
     ·obtain⟨r,hr⟩:=fH u;rw[hr]at hhu;exact hhu.pre
     ·refine(dn u).trans ((List.sublist_append_left u [b]).trans ?_);rw[<-hw];refine(dn t).trans ?_;rw[hv];exact List.sublist_append_left t [z]
theorem TP(s:Str):(lowS s).length=s.length:=by unfold lowS;simp
theorem XO(s:Str):(nmD s).length=s.length:=by
 unfold nmD;cases List.isPrefixOf [45,45] s
 ·exact TP s
 ·rfl
theorem OH(n:zb)(r:List zb):(((n::r).length:Int)==0)=false:=Ua.2 (by simp only[Ub];omega)
theorem KF(n:zb)(r:List zb):decide ((1:Int)<=((n::r).length:Int))=true:=Rc (by simp only[Ub];omega)
theorem YG(n:zb)(r:List zb):geti (n::r) 0=some n:=rfl
theorem MJ{x:List zb}(h:szL x<=big){n:zb}{r:List zb}(hy:trimS x=n::r):n.token.text.length<=big/\szL r<=big/\pg r/\
  ∀{c:zb} {q:List zb},r.dropWhile isSp=c::q->szL (q.dropWhile isSp)<=big/\Gh (q.dropWhile isSp)/\pg (q.dropWhile isSp):=by
 have hsz:=fQ x;have he:pg (trimS x):=gH _;rw[hy]at hsz he;rw[szL,ig]at hsz;have her:pg r:=he.suf (a:=[n]);refine⟨by omega,by omega,her,fun {c q} hq=> ?_⟩;obtain⟨a,ha⟩:=VF r;rw[hq]at ha;obtain⟨b,hb⟩:=VF q;refine⟨?_,YP q,?_⟩
 ·have h1:=xh (Pe isSp (l:=q));rw[ha,Nt,szL]at hsz;omega
 ·rw[ha,hb]at her;exact pg.suf (a:=a++c::b) (by rw[Dc];exact her)
theorem TK{x:List zb}(h:szL x<=big):Kl x=some (oneS x):=by
 have hdw:szL (x.dropWhile isSp)<=big:=ma (xh (Pe _)) h;unfold Kl oneS;simp only[left_eq,right_eq hdw,ze,Ca,show trimB (x.dropWhile isSp)=trimS x from rfl];cases hy:trimS x with
 |nil=>rfl
 |cons n r=>
  obtain⟨hn,hr,_,hp⟩:=MJ h hy;simp only[OH,ib,zJ,YG,Ca,zZ,Sa];cases hk:n.token.kind==1 with
  |false=>simp only[ib,Oa,Sa];rfl
  |true=>
   simp only[Mc,Sa,Oa];have hj:((strings_HasPrefix (n.token.text,[45,45])).bind fun y6=>bif !y6 then(ZL n.token.text).bind fun y7=>some (LX.out (n::r,(([]:Str),false),(y7,false)))else some (LX.out (n::r,([],false),(n.token.text,false))))=(some (LX.out (n::r,([],false),(nmD n.token.text,false))):Option MK):=by rw[Bu,Ca,Mx hn];unfold nmD;cases List.isPrefixOf [45,45] n.token.text<;>rfl
   rw[hj,zQ];simp only[KF,Z4,show List.drop 1 (n::r)=r from rfl];cases hq:r.dropWhile isSp with
   |nil=>rfl
   |cons c q=>
    obtain⟨hv,hh,he⟩:=hp hq;simp only[OH,ib,zJ,YG,Ca,Sa];cases hc:c.token.kind==16 with
    |false=>simp only[ib,Oa,Sa];rfl
    |true=>
     simp only[Mc,Sa,Oa,KF,Z4,show List.drop 1 (c::q)=q from rfl];obtain⟨v,hvd⟩: ∃v,q.dropWhile isSp=v:=⟨_,rfl⟩;rw[hvd]at hv hh he;simp only[hvd];have hm:=CS (nm:=nmD n.token.text) hv;simp only[ze,zZ]at hm;rw[hm,zQ];obtain⟨h1,h2,h3⟩:=tF hh he;obtain⟨w,hw⟩: ∃w,Lg v=w:=⟨_,rfl⟩;rw[hw]at h1 h2 h3;simp only[hw];have hws:szL w.1<=big:=ma (xh h3) hv;rw[BS hws,Ca];by_cases he0:errS w.1=0
     ·rw[ja he0,gQ h1 h2];simp only[show((0:Int) != 0)=false from rfl,ib,zJ,Sa];rw[TY (d:=⟨nmD n.token.text,w.1,w.2⟩) hws (by rw[XO];exact hn),Ca];cases Kj ⟨nmD n.token.text,w.1,w.2⟩<;>rfl
     ·have he1:(errS w.1 != 0)=true:=Re.2 he0;have he2:Kj ⟨nmD n.token.text,w.1,w.2⟩=false:=by unfold Kj;simp only[show(errS w.1==0)=false from Ua.2 he0,jc,Ff]
      rw[Ta he0,he2];simp only[he1,Mc,ZI,Ca,Oa,Sa];rfl
def Vi(a:List zV)(p:List zb):List zV:=bif (oneS p).2&&decide (a.length<32)then a++[(oneS p).1]else a
def Pg(ps:List (List zb)):List zV:=ps.foldl Vi []
theorem pQ{a:List zV}{p:List zb}(h:a.length<=32):(Vi a p).length<=32:=by
 unfold Vi;cases hb:(oneS p).2&&decide (a.length<32)with
 |false=>exact h
 |true=> rw[Da,Kb]at hb;rw[Oa,La,List.length_singleton];omega
theorem YI{ps:List (List zb)}{i:Nat}(h:i<ps.length):Pg (ps.take (i+1))=Vi (Pg (ps.take i)) ps[i]:=by unfold Pg;rw[Je h,List.foldl_append];rfl
theorem vB(ps:List (List zb)):(Pg ps).length<=32:=by
 unfold Pg;have key: ∀(ps:List (List zb)) (a:List zV),a.length<=32->(ps.foldl Vi a).length<=32:=by
  intro ps
  induction ps with
  |nil=>intro a h;exact h
  |cons p ps ih=>intro a h;exact ih _ (pQ h)
 exact key ps [] (Lb _)
theorem XH{x:List zb}(h:szL x<big):(og 17 x).length<=big/\ ∀p∈og 17 x,szL p<=big:=by have h1:=WR 17 x;have h2:=pF (og 17 x);exact⟨by omega,fun p hp=>by have:=oF hp;omega⟩
theorem ap48{n:Nat}(h:n<=32):zB n 1 48=true:=di (by omega)
theorem YE{x:List zb}(h:szL x<big):Al x=some (if errS x=0 then(Pg (og 17 x),0)else([],errS x)):=by
 unfold Al;rw[xI (k:=17) (by omega)];simp only[ze,Ca];by_cases he:errS x=0
 ·rw[ja he,Ta (by omega),ja he];obtain⟨hl,hp⟩:=XH h;simp only[show((0:Int) != 0)=false from rfl,Sa];generalize og 17 x=ps at*;refine fI (fun z=> ∃i:Nat,z=((i:Int),Pg (ps.take i))/\i<=ps.length) (fun z=>ps.length - z.1.toNat) _ ?_ ⟨0,rfl,Lb _⟩;rintro _ ⟨i,rfl,hi⟩;rcases Cc i ps.length with hh|hh
  ·refine .inl ⟨_,?_,⟨i+1,rfl,hh⟩,by simp only[Ec];omega⟩;have hq:=vB (ps.take i);rw[YI hh];simp only[Qc hh,Oa,qZ hh,Ca,TK (hp _ (Nc hh))];obtain⟨a,ha⟩: ∃a,Pg (ps.take i)=a:=⟨_,rfl⟩;rw[ha]at hq ⊢;unfold Vi;have hd:decide ((a.length:Int)<32)=decide (a.length<32):=by
    by_cases q:a.length<32
    ·rw[Rc q,Rc (by omega)]
    ·rw[Wd q,Wd (by omega)]
   rw[hd,Ev (ap48 hq)];have hw:w64 ((i:Int)+1)=((i+1:Nat):Int):=ZF hh hl;cases (oneS ps[i]).2<;>cases decide (a.length<32)<;>simp only[Oa,Sa,zQ,hw,Ac,jc]
  ·have:i=ps.length:=by omega
   subst this;refine .inr (.inl ⟨Pg ps,?_,rfl⟩);simp only[Wj,Sa,jd]
 ·rw[Ta he,Ta he];simp only[Re.2 he,Oa]
theorem MF{x:List zb}(h:szL x<=big):Yj x=some (if errS x=0 then((oneS x).1,(oneS x).2,0)else(⟨[],[],false⟩,false,errS x)):=by
 unfold Yj;simp only[Ox h,TK h,ze,Ca];by_cases he:errS x=0
 ·rw[ja he,he];rfl
 ·rw[Ta he,Re.2 he,Oa]
def szD(l:List zV):Prop:=l.length<=big/\ ∀d∈l,szL d.value<=big
theorem aC{d:zV}(h:szL d.value<=big):Qs (d,d)=some true:=by unfold Qs;simp only[beq_self_eq_true,Oa,zJ,AQ h,ze,Ca]
theorem JF{x:List zb}(h:szL x<=big):szL (oneS x).1.value<=big:=by
 have hno:szL noD.1.value<=big:=by show szL []<=big;rw[szL];exact Lb _
 unfold oneS;split
 ·exact hno
 ·rename_i n r hy;obtain⟨hn,hr,her,hp⟩:=MJ h hy;cases n.token.kind==1 with
  |false=>exact hno
  |true=>
   rw[Oa];split
   ·exact hno
   ·rename_i c q hq;obtain⟨hv,hh,he⟩:=hp hq;cases c.token.kind==16 with
    |false=>exact hno
    |true=>
     rw[Oa];cases Kj ⟨nmD n.token.text,(Lg (q.dropWhile isSp)).1,(Lg (q.dropWhile isSp)).2⟩with
     |false=>exact hno
     |true=>exact ma (xh (tF hh he).2.2) hv
theorem PR{ps:List (List zb)}(h: ∀p∈ps,szL p<=big):szD (Pg ps):=by
 refine⟨ma (vB ps) (by decide),?_⟩;unfold Pg;have key: ∀(ps:List (List zb)) (a:List zV),(∀p∈ps,szL p<=big)->(∀d∈a,szL d.value<=big)-> ∀d∈ps.foldl Vi a,szL d.value<=big:=by
  intro ps
  induction ps with
  |nil=>intro a _ h;exact h
  |cons p ps ih=>
   intro a h1 h2;refine ih _ (fun q hq=>h1 q (Jb _ hq)) (fun d hd=> ?_);unfold Vi at hd;cases hb:(oneS p).2&&decide (a.length<32)with
   |false=>rw[hb]at hd;exact h2 d hd
   |true=>
    rw[hb,Oa]at hd;rcases Eb.1 hd with hd|hd
    ·exact h2 d hd
    ·rw[Ga.1 hd];exact JF (h1 p (Nb ..))
 exact key ps [] h (fun d hd=>by cases hd)
theorem size_le{l:List zb}{m:Nat}(h:szL l<=big)(hm:m<=1000): ∃r:Int,qi (l,(m:Int))=some r/\0<=r/\r<=szL l/\(r<=m->r=szL l):=by
 have: ∃r,qi (l,(m:Int))=some r/\(0<=r/\r<=(szL l:Int)/\(r<=(m:Int)->r=(szL l:Int))):=by
  refine BQ VZ (fun x=>szL x.1) (fun x=>szL x.1<=big/\0<=x.2/\x.2<=1000) (fun x r=>0<=r/\r<=(szL x.1:Int)/\(r<=x.2->r=(szL x.1:Int))) (fun S x hx hS=> ?_) (x:=(l,(m:Int))) ⟨h,by omega,by omega⟩;obtain⟨l,m⟩:=x;obtain⟨hx,hm0,hm1⟩:=hx;simp only at hx hm0 hm1;have hlen:=QF l;unfold big at hx;unfold Po;refine SQ (A:=Int) l.length (fun i a=>(a,(i:Int))) (fun i a=>0<=a/\a<=(szL (l.take i):Int)/\(a<=m->a=(szL (l.take i):Int))) _ (a0:=0) rfl ⟨by omega,by simp[szL],fun _=>by simp[szL]⟩ (fun i a hi ha=> ?_) (fun a ha=> ?_)
  ·obtain⟨ha0,ha1,ha2⟩:=ha;have hsz:=Kr hi;have hsz2:=Xt l (i+1);have hv:=ig l[i];have hm2:=yh (Nc hi);cases hc:decide (a<=m)with
   |false=> simp only[Qc hi,Oa,Sa,hc];have hc:=Gg hc;exact .inr (.inr ⟨_,rfl,_,rfl,ha0,by omega,fun q=>absurd q hc⟩)
   |true=>
    have hc':=Vb hc;have e0:w64 (m - a)=m - a:=by rw[w64,Z8 (by omega) (by omega)]
    obtain⟨r,hr,hr0,hr1,hr2⟩:=hS (l[i].list,w64 (m - a)) ⟨by show szL l[i].list<=4194304;omega,by show 0<=w64 (m - a);omega,by show w64 (m - a)<=1000;omega⟩ (by show szL l[i].list<szL l;omega);simp only[e0]at hr2 hr1;have e1:w64 (a+w64 (w64 (w64 (1+(l[i].token.text.length:Int))+(l[i].token.unit.length:Int))+r))=a+(1+l[i].token.text.length+l[i].token.unit.length+r):=by rw[w64,w64,w64,w64,Z8 (n:=1+(l[i].token.text.length:Int)) (by omega) (by omega),Z8 (n:=1+(l[i].token.text.length:Int)+(l[i].token.unit.length:Int)) (by omega) (by omega),Z8 (n:=1+(l[i].token.text.length:Int)+(l[i].token.unit.length:Int)+r) (by omega) (by omega),Z8 (by omega) (by omega)]
    simp only[Qc hi,Oa,hc,qZ hi,ze,Ca,hr,e1,ZF hi (show l.length<=big by unfold big;omega)];exact .inl ⟨_,rfl,by omega,by omega,fun q=>by have:=ha2 hc';have:=hr2 (by omega);omega⟩
  ·obtain⟨ha0,ha1,ha2⟩:=ha;rw[jd]at ha1 ha2;simp only[Wj,Sa];exact .inl ⟨_,rfl,_,rfl,ha0,ha1,ha2⟩
 obtain⟨r,hr,h0,h1,h2⟩:=this;exact⟨r,hr,h0,h1,h2⟩
theorem VU{l:List zb}(h:szL l<=big): ∃g,Yt l=some g/\(g=false->szL l<=300):=by
 obtain⟨r,hr,h0,h1,h2⟩:=size_le (m:=300) h (by omega);unfold Yt;replace hr:qi (l,300)=some r:=hr;simp only[ze,hr,Ca];cases hd:decide (r>300)with
 |true=>exact⟨_,rfl,fun e=>by cases e⟩
 |false=> have hd:=Gg hd;simp only[ib,zJ,wG h,Ca];exact⟨_,rfl,fun _=>by have:=h2 (by omega);omega⟩
theorem Vz{α}[Inhabited α]{o:Option α}(h:o.isSome=true):o=some (o.getD default):=by
 cases o with
 |none=>cases h
 |some a=>rfl
abbrev tx5:Str:=[67,79,76,79,82,32,58,32,114,101,100,32,33,32,105,109,112,111,114,116,97,110,116,59,32,120,59,32,45,45,89,58,59,32,109,97,114,103,105,110,58,49,112,120,41]
noncomputable def tk5:List zg×Int:=(Py 400 tx5).getD default
noncomputable def vv5:List zb×Int:=(parseF tk5.1).getD default
noncomputable def dd5:List zV:=Pg (og 17 vv5.1)
noncomputable def ls5:Str×Int:=(yC 400 dd5).getD default
theorem RA:Io ()=some true:=by
 have h1:=KM 400 tx5 tk5 (Vz (by decide+kernel));have h2:parseF tk5.1=some vv5:=Vz (by decide+kernel);have h3:=aX 400 dd5 ls5 (Vz (by decide+kernel));have h4:tk5.2=0/\vv5.2=0/\szL vv5.1<big/\errS vv5.1=0:=by decide+kernel
 obtain⟨e1,e2,e3,e4⟩:=h4;unfold Io Yx jw;simp only[h1,ze,Ca,e1,bne_self_eq_false,Sa,h2,e2,YE e3,ja e4];rw[show Pg (og 17 vv5.1)=dd5 from rfl,h3];exact congrArg some (by decide+kernel)
abbrev vSp:zb:=⟨⟨13,[],0,[],false⟩,[]⟩
theorem dW(p:List zb):trimS ([vSp]++p++[vSp])=trimS p:=by
 unfold trimS;have h1:([vSp]++p++[vSp]).dropWhile isSp=(p++[vSp]).dropWhile isSp:=by rw[Dc,List.singleton_append,Me];rfl
 rw[h1,List.dropWhile_append];cases hd:p.dropWhile isSp with
 |nil=>rfl
 |cons a t=> show trimB ((a::t)++[vSp])=_;rw[Mt];rfl
theorem OV(p:List zb):oneS ([vSp]++p++[vSp])=oneS p:=by unfold oneS;rw[dW]
theorem KA: ∀(a b:List zb) (c:Int),shL (a++b) c=(shL a c&&shL b c)
 |[],b,c=>by rw[Xd,shL,Ac]
 |v::a,b,c=>by rw[Jc,shL,shL,KA a b c,Bool.and_assoc]
theorem lU{p:List zb}(h:errS p=0)(hc:(tokL p).length<=1000):errS ([vSp]++p++[vSp])=0:=by
 obtain⟨h1,h2,h3⟩:Qx p<=16/\(tokL p).length<=1500/\shL p 0=true:=by
  unfold errS at h;split at h
  ·cases h
  split at h
  ·cases h
  split at h
  ·exact⟨by omega,by omega,by assumption⟩
  ·cases h
 have d:Qx ([vSp]++p++[vSp])=Qx p:=by
  have happ: ∀(a b:List zb),Qx (a++b)=max (Qx a) (Qx b):=by
   intro a b
   induction a with
   |nil=>rw[Xd,Qx];omega
   |cons v a ih=>rw[Jc,Qx,Qx,ih];omega
  rw[happ,happ,show Qx [vSp]=0 from rfl];omega
 have t:(tokL ([vSp]++p++[vSp])).length=(tokL p).length+2:=by rw[dA,dA,show tokL [vSp]=[⟨13,[],0,[],false⟩]from rfl];simp
 have s:shL ([vSp]++p++[vSp]) 0=true:=by rw[KA,KA,h3];rfl
 unfold errS;rw[d,t,s,Ta (by omega),Ta (by omega)];rfl
theorem VR{k:Int}{v:List zb}{ps:List (List zb)}(h:Cuts k v ps): ∀p∈ps,p.Sublist v:=by
 induction h with
 |one p _=>intro q hq;rw[Ga.1 hq];exact kg _
 |more p s v ps _ _ _ ih=>
  intro q hq;rcases Va.1 hq with rfl|hq
  ·exact List.sublist_append_left _ _
  ·exact(ih q hq).trans ((List.sublist_cons_self s v).trans (List.sublist_append_right p (s::v)))
theorem VO(p:List zb):(oneS p).2=true\/oneS p=noD:=by
 unfold oneS;split
 ·exact .inr rfl
 ·rename_i n r _;cases n.token.kind==1 with
  |false=>exact .inr rfl
  |true=>
   rw[Oa];split
   ·exact .inr rfl
   ·rename_i c q _;cases c.token.kind==16 with
    |false=>exact .inr rfl
    |true=>
     rw[Oa];cases Kj ⟨nmD n.token.text,(Lg (q.dropWhile isSp)).1,(Lg (q.dropWhile isSp)).2⟩with
     |false=>exact .inr rfl
     |true=>exact .inl rfl
theorem gW{l:List zV}(h:szD l):Ws (l,l)=some true:=by
 unfold Ws;have hne:((l.length:Int) != (l.length:Int))=false:=by simp
 simp only[hne,Sa];refine(Iw l (fun i (_:Unit)=>(i:Int)) (fun v (_:Unit)=>some (.again ())) (fun _=>some (.out ())) (a:=()) rfl (fun i a hi=> ?_) (fun a=> ?_) (r:= .out ()) ?_)
 ·have hw:=ZF hi h.1;have hn:(decide (0<=(i:Int))&&decide ((i:Int)<(l.length:Int)))=true:=by simp[hi]
  simp only[Qc hi,Oa,qZ hi,hn,Z4,Ec,Fa hi,ze,Ca,aC (h.2 _ (Nc hi)),Mc,Sa,hw];rfl
 ·simp only[Wj,Sa];rfl
 ·rw[Q4 (fun a v=>a) (fun v a=>rfl)]
theorem OX{v:List zb}(h:szL v<big):Uy v=some true:=by
 unfold Uy;obtain⟨g,hg,hg2⟩:=VU (l:=v) (by omega);simp only[hg,ze,Ca];cases g with
 |true=>simp only[Mc,ZI,Ca,Oa,RA]
 |false=>
  have hs:=hg2 rfl;simp only[ib,zJ,lS (show szL v<=big by omega),Ca,Sa];by_cases he:errS v=0
  ·rw[he,show((0:Int) != 0)=false from rfl,Sa,xI (k:=17) (by omega),ja he,Ta (by omega),YE h,ja he];simp only[Ca,show((0:Int) != 0)=false from rfl,Sa];obtain⟨hl,hp⟩:=XH h;have hsub:=VR (yO 17 v);have hD:=PR hp;have hpart: ∀p∈og 17 v,errS p=0/\szL p<=300/\(tokL p).length<=600:=fun p hq=>by have h1:=xh (hsub p hq);have h2:=El p;exact⟨IR (hsub p hq) he,by omega,by omega⟩
   generalize og 17 v=ps at*;refine fI (fun z=> ∃i:Nat,z=((i:Int),Pg (ps.take i))/\i<=ps.length) (fun z=>ps.length - z.1.toNat) true ?_ ⟨0,rfl,Lb _⟩;rintro _ ⟨i,rfl,hi⟩;rcases Cc i ps.length with hh|hh
   ·refine .inl ⟨_,?_,⟨i+1,rfl,hh⟩,by simp only[Ec];omega⟩;have hq:=vB (ps.take i);rw[YI hh];obtain⟨a,ha⟩: ∃a,Pg (ps.take i)=a:=⟨_,rfl⟩;obtain⟨p,hpd⟩: ∃p,ps[i]=p:=⟨_,rfl⟩;obtain⟨p1,p2,p3⟩:=hpart p (by rw[<-hpd];exact Nc hh);have hw:w64 ((i:Int)+1)=((i+1:Nat):Int):=ZF hh hl;have hpl:=QF p;have hbig:big=4194304:=rfl;have hsa:szL ([vSp]++p++[vSp])<=big:=by rw[Nt,Nt,show szL [vSp]=1 from rfl];omega
    have o1:Yj p=some ((oneS p).1,(oneS p).2,0):=by rw[MF (by omega),ja p1]
    have o2:Yj ([vSp]++p++[vSp])=some ((oneS p).1,(oneS p).2,0):=by rw[MF hsa,ja (lU p1 (by omega)),OV]
    have sz1:=JF (x:=p) (by omega);have a1:zB 1 p.length 80=true:=di (by omega);have a2:zB ([vSp]++p).length 1 80=true:=di (by rw[La,List.length_singleton];omega);rw[ha]at hq ⊢;simp only[Qc hh,Oa,qZ hh,hpd,Ca,o1,a1,a2,Z4,o2,show((0:Int) != 0)=false from rfl,Sa,beq_self_eq_true,Mc,ib,zJ,aC sz1];have hd:decide ((a.length:Int)<32)=decide (a.length<32):=by
     by_cases q:a.length<32
     ·rw[Rc q,Rc (by omega)]
     ·rw[Wd q,Wd (by omega)]
    unfold Vi;rw[hd];rcases VO p with hn|hn
    ·rw[hn];simp only[Mc,jc,ZI,Ca,Oa,Sa,Ac];rw[Ev (ap48 hq)];cases decide (a.length<32)<;>simp only[Oa,Sa,zQ,hw]
    ·rw[hn];have hno:Qs (noD.1,(⟨[],[],false⟩:zV))=some true:=aC (d:=noD.1) (by show szL []<=big;rw[szL];exact Lb _);simp only[show noD.2=false from rfl,ib,Ac,zJ,hno,Ca,Oa,Sa,Mc,jc,zQ,hw]
   ·have:i=ps.length:=by omega
    subst this;refine .inr (.inl ⟨Pg ps,?_,?_⟩)
    ·simp only[Wj,Sa,jd]
    ·simp only[gW hD,Ca,zJ,RA,Oa]
  ·rw[Re.2 he,Oa];simp only[RA,Ca]
end Go.Lv.VT
