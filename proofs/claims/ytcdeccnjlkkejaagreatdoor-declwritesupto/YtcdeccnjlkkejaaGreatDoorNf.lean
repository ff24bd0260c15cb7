/- Parsing of tokens: what the machine of nest.Parse computes is what the reference's recursion computes. -/
import Derived.Test.YtcdeccnjlkkejaaGreatDoorNa
import Derived.Test.YtcdeccnjlkkejaaGreatDoorTy
import Derived.Test.YtcdeccnjlkkejaaGreatDoorNb
import Derived.Test.YtcdeccnjlkkejaaGreatDoorNe
import Derived.KernelRfl
import Derived.Test.YtcdeccnjlkkejaaGreatDoorNd
import Derived.Test.YtcdeccnjlkkejaaGreatDoorNam
import Derived.Test.YtcdeccnjlkkejaaGreatDoorTx
import Derived.Test.YtcdeccnjlkkejaaGreatDoorMo
set_option linter.unusedSimpArgs false
set_option linter.unusedVariables false
namespace Go.Lv.VT
set_option maxRecDepth 100000
theorem eP{α:Type}(l:List α):((l.length:Int)==0)=l.isEmpty:=by
 cases l with
 |nil=>rfl
 |cons a l=>exact Ha.2 (by simp only[Ia];omega)
theorem KA(v:zg):(⟨v.token,v.list⟩:zg)=v:=by cases v;rfl
def Wh(x:Str):Bool:= !(x==[])&&(decide (x.length<=64)&&(Zm x&&(bif List.isPrefixOf [45,45] x then !(x==[45,45])else lowS x==x)))
theorem I6{x:Str}(h:x.length<=big):kv x=some (Wh x):=by
 have e:decide ((x.length:Int)>64)= !decide (x.length<=64):=oC _ 64;have e1:decide (Lib.indexByte x (0:Int).toNat.toUInt8>=0)= !Zm x:=SE x;have ec:=CO x (lowS x);unfold kv Wh;simp only[Dr,ZY,zb,Aa,QA,gG h,e,ec];cases x==[]<;>cases decide (x.length<=64)<;>try rfl
 simp only[Ca,Ba,Ya,Va,ma,Be,e1];cases Zm x<;>cases List.isPrefixOf [45,45] x<;>rfl
theorem FM(x:Str):(bif decide ((x.length:Int)>=2)then List.take 2 x==[45,45]else false)=List.isPrefixOf [45,45] x:=by
 cases x with
 |nil=>rfl
 |cons a x=>
  cases x with
  |nil=>show(bif decide _ then _ else _)=((45==a)&&false);rw[lc];rfl
  |cons b x=> have:decide ((((a::b::x:Str)).length:Int)>=2)=true:=Ea (by simp only[Ia];omega);rw[this];show((a==45)&&((b==45)&&true))=((45==a)&&((45==b)&&true));rw[Bool.beq_comm (a:=a),Bool.beq_comm (a:=b)]
theorem GM{x:Str}(h:List.isPrefixOf [45,45] x=true):decide ((x.length:Int)>2)= !(x==[45,45]):=by
 obtain⟨t,rfl⟩:=We.1 h;cases t with
 |nil=>rfl
 |cons a t=> have:decide ((([45,45]++a::t:Str).length:Int)>2)=true:=Ea (by simp only[Ga,Ia];omega);rw[this];rfl
theorem H7{x:Str}(h:x.length<=big):Vv x=some (Wh x):=by
 have e:decide ((x.length:Int)>64)= !decide (x.length<=64):=oC _ 64;have en:decide ((x.length:Int)<1)=(x==[]):=by cases x with
  |nil=>rfl
  |cons a x=>exact Ra (by simp only[Ia];omega)
 have ec:=CO x (lowS x);have hk:(need (decide ((2:Int)<=(x.length:Int))|| !(decide ((x.length:Int)>=2)))<|
   bif bif decide ((x.length:Int)>=2)then List.take 2 x==[45,45]else false then some (decide ((x.length:Int)>2))else zb (qY x) fun y4=>some (x==y4))=some (bif List.isPrefixOf [45,45] x then !(x==[45,45])else lowS x==x):=by
  have e2:(decide ((2:Int)<=(x.length:Int))|| !(decide ((x.length:Int)>=2)))=true:=by show(decide _|| !decide ((2:Int)<=_))=true;cases decide ((2:Int)<=(x.length:Int))<;>rfl
  rw[e2,Zi,FM];cases hp:List.isPrefixOf [45,45] x with
  |true=>rw[Ca,Ca,GM hp]
  |false=>simp only[Ba,gF h,zb,Aa,ec]
 unfold Vv Wh;rw[hk];have hl: ∀b:Bool,Za (fun(s1:Int)=>bif decide (s1<(x.length:Int))then
    zb (geti x s1) fun y2=>bif (y2.toNat:Int)==0 then some (LO.ret false)else some (LO.again (w64 (s1+1)))
   else some (LO.out ()):Int->Option (LO (Int) (Unit) _)) 0 (fun _=>some b)=some (Zm x&&b):=by
  intro b;refine(Pv x (fun b=>bif (!(b==0))then none else some false) () (fun i hi=> ?_) ?_).trans ?_
  ·simp only[qD hi,Ca,Zo hi,zb,Aa,byte_zero,ZC hi h];cases x[i]==0<;>rfl
  ·simp only[Bi,Ba]
  ·rw[cz];unfold Zm;cases x.all (fun b=> !(b==0))<;>rfl
 rw[hl,e,en];cases x==[]<;>cases decide (x.length<=64)<;>rfl
def clK(v:zg):Bool:=v.token.kind==20||(v.token.kind==22||v.token.kind==24)
mutual
def clV:zg->Bool
 |⟨t,l⟩=>clK ⟨t,l⟩||clL l
def clL:List zg->Bool
 |[]=>false
 |v::r=>clV v||clL r
end
theorem YJ(v:zg):clV v=(clK v||clL v.list):=by obtain⟨t,l⟩:=v;rw[clV]
theorem bK(l:List zg):clL l=l.any clV:=by
 induction l with
 |nil=>rw[clL];rfl
 |cons v l ih=>rw[clL,ih];rfl
theorem C9{l:List zg}(h:szL l<=big):zB l=some (clL l):=by
 refine Kk (fun l=>szL l) (fun l=>szL l<=big) (fun l=>clL l) (fun S l hl hS=> ?_) h;have hlen:=dh l;unfold VB ql Qb;have:=UL (GL (step:=fun(s1:Int)=>
   bif decide (s1<(l.length:Int))then
    zb (geti l s1) fun y2=>
    zb (QT S (⟨y2.token,y2.list⟩:zg)) fun y3=>
    bif y3 then some (LO.ret s1)else some (LO.again (w64 (s1+1)))
   else some (LO.out ())) l clV (by omega) (fun i hi=> ?_) ?_) (eF _ _)
 ·rw[this,bK];rfl
 ·have hsz:=Cj (Ac hi);have hv2:=Ri l[i];have hs:=hS l[i].list (by omega) (by omega);have:QT S l[i]=some (clV l[i]):=by unfold QT kg;simp only[KA,ZY,zb,Aa,hs,YJ,clK];cases l[i].token.kind==20<;>cases l[i].token.kind==22<;>cases l[i].token.kind==24<;>rfl
  simp only[qD hi,Ca,Zo hi,zb,Aa,KA,this]
 ·simp only[Bi,Ba]
theorem M9{l:List zg}(h:szL l<=big):qj l=some (clL l):=by
 refine Kk (fun l=>szL l) (fun l=>szL l<=big) (fun l=>clL l) (fun S l hl hS=> ?_) h;have hlen:=dh l;unfold SB;refine(Pv l (fun v=>bif clV v then some true else none) () (fun i hi=> ?_) ?_).trans ?_
 ·have hsz:=Cj (Ac hi);have hv2:=Ri l[i];have hs:=hS l[i].list (by omega) (by omega);simp only[qD hi,Ca,Zo hi,zb,Aa,YJ,clK,ZC hi (show l.length<=big by omega)];cases h1:l[i].token.kind==20<;>cases h2:l[i].token.kind==22<;>cases h3:l[i].token.kind==24<;>
   first|rfl|(simp only[Ba,Va,zx,Aa,hs,Gc];cases clL l[i].list<;>rfl)
 ·simp only[Bi,Ba]
 ·rw[vE,bK];cases l.any clV<;>rfl
def Sk(l:List zg):Bool:=match l with
 |[]=>false
 |v::r=>isSp v||isSp ((v::r).getLast (by simp))
theorem HZ(t:List zg)(v:zg):Sk (t++[v])=((match t with|[]=>isSp v|a::_=>isSp a)||isSp v):=by
 cases t with
 |nil=>rfl
 |cons a t=> show(isSp a||isSp ((a::(t++[v])).getLast _))=_;congr 2;have:(a::(t++[v]))=(a::t)++[v]:=rfl;simp only[this,List.getLast_append_of_ne_nil,List.getLast_singleton,ne_eq,reduceCtorEq,Fh]
theorem DN(l:List zg):(trimB l).length<=l.length:=(WX l).length_le
theorem UZ(l:List zg):((trimS l).length==l.length)= !Sk l:=by
 rcases kG l with rfl|⟨t,v,rfl⟩
 ·rfl
 ·rw[HZ];have hl:(t++[v]).length=t.length+1:=by simp
  cases t with
  |nil=>
   show((trimB (List.dropWhile isSp [v])).length==1)= !(isSp v||isSp v);cases hv:isSp v with
   |true=>simp only[yc,hv];rfl
   |false=> simp only[yc,hv];have:=OA [] v;rw[hv]at this;show((trimB [v]).length==1)=true;rw[show trimB [v]=[v]from this];rfl
  |cons a t=>
   show((trimB (List.dropWhile isSp (a::(t++[v])))).length==_)= !(isSp a||isSp v);have hb:=DN (List.dropWhile isSp (a::(t++[v])));cases ha:isSp a with
   |true=> simp only[yc,ha,Md]at hb ⊢;have hd:=(List.dropWhile_sublist isSp (l:=t++[v])).length_le;rw[Wd,Ya,Ha];rw[hl,Ia];rw[Ga,Ib]at hd;omega
   |false=>
    have e:List.dropWhile isSp (a::(t++[v]))=(a::t)++[v]:=by rw[yc,ha];rfl
    rw[e,OA];cases hv:isSp v with
    |true=> have:=DN (a::t);rw[Ka rfl,Xe,Ya,Ha,hl];omega
    |false=>simp
theorem jY{l:List zg}(h:l.length<=big)(g:Bool)(hg:(l.isEmpty&&g)=false)(k:Bool->Option Int):
  (zb (zq (decide ((l.length:Int)>0)&& !g) (geti l 0) (default:zg)) fun y7=>
   zb (zq (decide ((l.length:Int)>0)&& !g) (kg ((⟨y7.token,y7.list⟩:zg),13)) (default:Bool)) fun y8=>
   zb (zq (!y8&&(decide ((l.length:Int)>0)&& !g)) (geti l (w64 ((l.length:Int) - 1))) (default:zg)) fun y9=>
   zb (zq (!y8&&(decide ((l.length:Int)>0)&& !g)) (kg ((⟨y9.token,y9.list⟩:zg),13)) (default:Bool)) fun y10=>
   k (bif decide ((l.length:Int)>0)then bif y8 then true else y10 else false))=(if g=true/\l≠[]then(k (bif decide ((l.length:Int)>0)then bif (default:Bool)then true else(default:Bool)else false))else k (Sk l)):=by
 cases l with
 |nil=> have:decide ((([]:List zg).length:Int)>0)=false:=rfl;simp only[this,Pb,zP,zb,Aa,lc,Ba,ne_eq,not_true_eq_false,and_false,Ad,Sk]
 |cons v r=>
  have e1:decide (((v::r).length:Int)>0)=true:=Ea (by simp only[Ia];omega);have e2:geti (v::r) 0=some v:=rfl;cases g with
  |true=>simp only[e1,Ya,lc,zP,zb,Aa,Ca,ne_eq,reduceCtorEq,Fh,and_self,Md]
  |false=>
   simp only[e1,Va,Lb,zx,zb,Aa,Ca,e2,kg,false_and,Ad,reduceCtorEq];have e3:w64 (((v::r).length:Int) - 1)=(r.length:Int):=by rw[Ia]at h ⊢;rw[w64,qJ (by omega) (by unfold big at h;omega)];omega
   have e4:geti (v::r) (r.length:Int)=some ((v::r).getLast (by simp)):=by rw[Zo (by simp),List.getLast_eq_getElem];simp
   rw[e3,e4];simp only[ZY,Aa,Sk,isSp];cases v.token.kind==13<;>rfl
def badV(v:zg):Bool:=v.token.kind==17||(v.token.kind==9&&v.token.text==[33])
def Vo(custom:Bool)(l:List zg):Bool:= !(l.any badV)&&(!(l.isEmpty&& !custom)&& !Sk l)
def yf(d:Zj):Bool:=Wh d.name&&(errS d.value==0&&(gluS (tokL d.value)==0&&(!clL d.value&&Vo (List.isPrefixOf [45,45] d.name) d.value)))
mutual
theorem UV: ∀(v:zg) (t:ze),t∈tokV v->t.text.length<=szV v/\t.unit.length<=szV v
 |⟨t,l⟩,u,h=>by
  rw[tokV]at h;rw[szV];rcases Nb.1 h with rfl|h
  ·constructor<;>omega
  ·split at h
   ·cases h
   ·rcases Jd.1 h with h|h
    ·have:=Xu l u h;omega
    ·obtain rfl:=Sd.1 h;exact⟨Cc _,Cc _⟩
theorem Xu: ∀(l:List zg) (t:ze),t∈tokL l->t.text.length<=szL l/\t.unit.length<=szL l
 |[],_,h=>by rw[tokL]at h;cases h
 |v::r,u,h=>by
  rw[tokL]at h;rw[szL];rcases Jd.1 h with h|h
  ·have:=UV v u h;omega
  ·have:=Xu r u h;omega
end
theorem oW{l:List zg}(h:szL l<=big):Ul (tokL l)=some (gluS (tokL l)):=
 nQ fun t ht=>by have:=Xu l t ht;omega
theorem zAl{l:List zg}(h:szL l<=big):Ho (tokL l)=some (gluS (tokL l)):=
 K7 fun t ht=>by have:=Xu l t ht;omega
theorem l5{l:List zg}(h:l.length<=big):Zt l=some (l.any badV):=by
 unfold Zt qB;refine UL (GL l badV h (fun i hi=> ?_) ?_) (eF _ _)
 ·have:Ew l[i]=some (badV l[i]):=by unfold Ew LA kg badV;simp only[KA,ZY,zb,Aa];cases l[i].token.kind==17<;>cases l[i].token.kind==9<;>rfl
  simp only[qD hi,Ca,Zo hi,zb,Aa,KA,this]
 ·simp only[Bi,Ba]
theorem UQ{d:Zj}(hv:szL d.value<=big)(hn:d.name.length<=big):dn d=some (bif yf d then 0 else 8):=by
 have hlen:=dh d.value;unfold dn yf;rw[U4 hv];simp only[zb,Aa,I6 hn];cases Wh d.name with
 |false=>simp only[Va,Ca,Ya,zP,Aa,Pb,Ba]
 |true=>
  by_cases he:errS d.value=0
  ·rw[Ka he];have he':(errS d.value==0)=true:=Cb.2 he;have this:((0:Int)==0)=true:=rfl;simp only[he',this,Ya,Ba,Va,zx,oW hv,Aa,ma,bne];cases hg:gluS (tokL d.value)==0 with
   |false=>simp only[Va,Ca,Ya,zP,Aa,Pb,Ba]
   |true=>
    simp only[Ya,Ba,Va,zx,C9 hv,Aa,ma];cases clL d.value with
    |true=>rfl
    |false=>
     simp only[Ba,l5 (show d.value.length<=big by omega),Aa,Vo,Va,ma];cases d.value.any badV with
     |true=>rfl
     |false=>
      simp only[Ba,QA,ZY,Aa,eP,Va,ma];have hp:=jY (l:=d.value) (by omega) (bif d.value.isEmpty then !(bif d.value.isEmpty then List.isPrefixOf [45,45] d.name else default)else false);cases hd:d.value with
      |nil=>
       cases List.isPrefixOf [45,45] d.name<;>rfl
      |cons v r=> have hp':=hp (by rw[hd];rfl) (fun b=>bif b then some 8 else some 0);rw[hd]at hp';simp only[List.isEmpty_cons,Ba,Sb,false_and,Ad]at hp';simp only[List.isEmpty_cons,Ba,Pb,Va,ma];refine Eq.trans hp' ?_;cases Sk (v::r)<;>rfl
  ·rw[Ja he];have he':(errS d.value==0)=false:=Ha.2 he;simp only[he',bne,Ya,Ba,Va,Ca,zP,Aa,Pb,lc]
theorem NY{x:Str}(hn:Wh x=true):Dw x=some (List.isPrefixOf [45,45] x):=by
 unfold Dw;have e2:(decide ((2:Int)<=(x.length:Int))|| !(decide ((x.length:Int)>2)))=true:=by
  by_cases h:2<=x.length
  ·rw[Ea (show(2:Int)<=(x.length:Int) by omega)];rfl
  ·rw[Ra (show¬((x.length:Int)>2) by omega)];simp
 rw[zm e2];have hp:=FM x;cases hpp:List.isPrefixOf [45,45] x with
 |true=> rw[hpp]at hp;have h3:=GM hpp;unfold Wh at hn;rw[hpp]at hn;simp only[Ca,Fa]at hn;rw[hn.2.2.2]at h3;rw[h3];have:decide ((x.length:Int)>=2)=true:=Ea (by have:=Ob h3;omega);rw[this]at hp;exact congrArg some hp
 |false=>
  rw[hpp]at hp;cases h3:decide ((x.length:Int)>2)with
  |false=>rfl
  |true=> have:decide ((x.length:Int)>=2)=true:=Ea (by have:=Ob h3;omega);rw[this]at hp;exact congrArg some hp
theorem zAt{α:Type}(a b:List α):((a.length:Int)==(b.length:Int))=(a.length==b.length):=by rw[Gf,Cb,Cb];omega
theorem C8{x:Str}{l:List zg}(h:szL l<=big)(hn:Wh x=true):
  Cw (x,l)=some (errS l==0&&(gluS (tokL l)==0&&(!clL l&&Vo (List.isPrefixOf [45,45] x) l))):=by
 have hlen:=dh l;unfold Cw;simp only[FX h,eG h,zb,Aa,bne,ZY];cases he:errS l==0 with
 |false=>simp only[Va,Ca,Ya,zP,Aa,Pb,Ba]
 |true=>
  simp only[Ya,Ba,Va,Ca,zx,zAl h,Aa,ma];cases hg:gluS (tokL l)==0 with
  |false=>simp only[Va,Ca,Ya,zP,Aa,Pb,Ba]
  |true=>
   simp only[Ya,Ba,Va,zx,M9 h,Aa,ma];cases clL l with
   |true=>rfl
   |false=>
    simp only[Ba,sZ h,Aa,zAt,UZ,eP,Bool.not_not,Va,ma,NY hn,ZY];have hl:Za (fun(s7:Int)=>
     bif decide (s7<(l.length:Int))then
      zb (geti l s7) fun y8=>
      bif bif y8.token.kind==17 then true else bif y8.token.kind==9 then y8.token.text==[33]else false then
       some (LO.ret false)
      else
       some (LO.again (w64 (s7+1)))
     else
      some (LO.out ()):Int->Option (LO (Int) (Unit) _)) 0 (fun _=>some true)=some (!(l.any badV)):=by
     refine(Pv l (fun v=>bif badV v then some false else none) () (fun i hi=> ?_) ?_).trans ?_
     ·simp only[qD hi,Ca,Zo hi,zb,Aa,badV,ZC hi (show l.length<=big by omega)];cases l[i].token.kind==17<;>cases l[i].token.kind==9<;>cases l[i].token.text==[33]<;>rfl
     ·simp only[Bi,Ba]
     ·rw[vE];cases l.any badV<;>rfl
    unfold Vo;simp only[zb]at hl;rw[hl];cases Sk l<;>cases l.isEmpty<;>cases List.isPrefixOf [45,45] x<;>cases l.any badV<;>rfl
theorem eH{d:Zj}(hv:szL d.value<=big)(hn:d.name.length<=big):QI d=some (bif yf d then 0 else 8):=by
 unfold QI yf;simp only[H7 hn,zb,Aa];cases hnd:Wh d.name with
 |false=>rfl
 |true=> simp only[Ya,Va,zx,C8 hv hnd,Aa,ma];cases (errS d.value==0&&(gluS (tokL d.value)==0&&(!clL d.value&&Vo (List.isPrefixOf [45,45] d.name) d.value)))<;>rfl
def vB(l:List zg):Prop:= ∀t v,l=t++[v]->isSp v=false
def vo(l:List zg):Prop:= ∀a t,l=a::t->isSp a=false
theorem vB.id{l:List zg}(h:vB l):trimB l=l:=by
 rcases kG l with rfl|⟨t,v,rfl⟩
 ·rfl
 ·rw[OA,h t v rfl];rfl
theorem vo.pre{a b:List zg}(h:vo (a++b)):vo a:=fun x t e=>h x (t++b) (by rw[e];rfl)
theorem vo.id{l:List zg}(h:vo l):l.dropWhile isSp=l:=by
 cases l with
 |nil=>rfl
 |cons a t=>rw[yc,h a t rfl];rfl
theorem size_le{l:List zg}{m:Nat}(h:szL l<=big)(hm:m<=1000): ∃r:Int,qV (l,(m:Int))=some r/\0<=r/\r<=szL l/\(r<=m->r=szL l):=by
 have: ∃r,qV (l,(m:Int))=some r/\(0<=r/\r<=(szL l:Int)/\(r<=(m:Int)->r=(szL l:Int))):=by
  refine wU D9 (fun x=>szL x.1) (fun x=>szL x.1<=big/\0<=x.2/\x.2<=1000) (fun x r=>0<=r/\r<=(szL x.1:Int)/\(r<=x.2->r=(szL x.1:Int))) (fun S x hx hS=> ?_) (x:=(l,(m:Int))) ⟨h,by omega,by omega⟩;obtain⟨l,m⟩:=x;obtain⟨hx,hm0,hm1⟩:=hx;simp only at hx hm0 hm1;have hlen:=dh l;unfold big at hx;unfold Br;refine VW (A:=Int) l.length (fun i a=>(a,(i:Int))) (fun i a=>0<=a/\a<=(szL (l.take i):Int)/\(a<=m->a=(szL (l.take i):Int))) _ (a0:=0) rfl ⟨by omega,by simp[szL],fun _=>by simp[szL]⟩ (fun i a hi ha=> ?_) (fun a ha=> ?_)
  ·obtain⟨ha0,ha1,ha2⟩:=ha;have hsz:=Yu hi;have hsz2:=Uv l (i+1);have hv:=Ri l[i];have hm2:=Cj (Ac hi);cases hc:decide (a<=m)with
   |false=> simp only[qD hi,Ca,Ba,hc];have hc:=of_decide_eq_false hc;exact .inr (.inr ⟨_,rfl,_,rfl,ha0,by omega,fun q=>absurd q hc⟩)
   |true=>
    have hc':=Ob hc;have e0:w64 (m - a)=m - a:=by rw[w64,qJ (by omega) (by omega)]
    obtain⟨r,hr,hr0,hr1,hr2⟩:=hS (l[i].list,w64 (m - a)) ⟨by show szL l[i].list<=4194304;omega,by show 0<=w64 (m - a);omega,by show w64 (m - a)<=1000;omega⟩ (by show szL l[i].list<szL l;omega);simp only[e0]at hr2 hr1;have e1:w64 (a+w64 (w64 (w64 (1+(l[i].token.text.length:Int))+(l[i].token.unit.length:Int))+r))=a+(1+l[i].token.text.length+l[i].token.unit.length+r):=by rw[w64,w64,w64,w64,qJ (n:=1+(l[i].token.text.length:Int)) (by omega) (by omega),qJ (n:=1+(l[i].token.text.length:Int)+(l[i].token.unit.length:Int)) (by omega) (by omega),qJ (n:=1+(l[i].token.text.length:Int)+(l[i].token.unit.length:Int)+r) (by omega) (by omega),qJ (by omega) (by omega)]
    simp only[qD hi,Ca,hc,Zo hi,zb,Aa,hr,e1,ZC hi (show l.length<=big by unfold big;omega)];exact .inl ⟨_,rfl,by omega,by omega,fun q=>by have:=ha2 hc';have:=hr2 (by omega);omega⟩
  ·obtain⟨ha0,ha1,ha2⟩:=ha;rw[Ue]at ha1 ha2;simp only[Bi,Ba];exact .inl ⟨_,rfl,_,rfl,ha0,ha1,ha2⟩
 obtain⟨r,hr,h0,h1,h2⟩:=this;exact⟨r,hr,h0,h1,h2⟩
mutual
theorem zBk: ∀v:zg,wtS (tokV v)<=30*szV v
 |⟨t,l⟩=>by
  rw[tokV,szV];have h1:=Ty l;have h2:=Cs t.kind;split
  ·rw[wtS,wtS];omega
  ·rename_i h0;rw[wtS,Ws,wtS,wtS];have h3:kw t.kind=10:=by unfold kw;rw[Ja];rintro(q|q|q)<;>exact h0 (by rw[q];rfl)
   have h4:kw (ZG t.kind)=10:=by
    unfold ZG;split
    ·rfl
    split
    ·rfl
    split<;>rfl
   simp only[h3,h4,Eb];omega
theorem Ty: ∀l:List zg,wtS (tokL l)<=30*szL l
 |[]=>by rw[tokL,wtS];exact Cc _
 |v::r=>by rw[tokL,szL,Ws];have:=zBk v;have:=Ty r;omega
end
theorem bJ: ∀(a b:List zg) (c:Int),shL (a++b) c=(shL a c&&shL b c)
 |[],b,c=>by rw[Ub,shL,ma]
 |v::a,b,c=>by rw[Xa,shL,shL,bJ a b c,Bool.and_assoc]
end Go.Lv.VT
