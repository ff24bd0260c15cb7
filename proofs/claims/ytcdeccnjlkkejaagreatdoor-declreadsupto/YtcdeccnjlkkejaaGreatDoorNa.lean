/- How large values are. -/
import Derived.Test.YtcdeccnjlkkejaaGreatDoorIp
import Derived.Test.YtcdeccnjlkkejaaGreatDoorLaw
import Derived.Test.YtcdeccnjlkkejaaGreatDoorLf
import Derived.Test.YtcdeccnjlkkejaaGreatDoorMo
import Derived.Test.YtcdeccnjlkkejaaGreatDoorLe
import Derived.Test.YtcdeccnjlkkejaaGreatDoorTx
import Derived.KernelRfl
set_option linter.unusedSimpArgs false
set_option linter.unusedVariables false
namespace Go.Lv.VT
def zL{α:Type}(f:α->List PV)(l:List α):Nat:=dn (l.map f)
theorem zBT{α:Type}(f:α->List PV)(v:α)(l:List α):zL f (v::l)=QR (f v)+zL f l:=rfl
theorem dX(x:zb):QR (zt x)=6+x.token.text.length+x.token.unit.length+zL zt x.list:=by rw[znt];simp only[QR,bPV,zL];omega
mutual
/-- How large values are. -/
def szV:zb->Nat
 |⟨t,l⟩=>1+t.text.length+t.unit.length+szL l
def szL:List zb->Nat
 |[]=>0
 |v::r=>szV v+szL r
end
theorem yh(v:zb):szV v=1+v.token.text.length+v.token.unit.length+szL v.list:=by obtain⟨t,l⟩:=v;rw[szV]
theorem Tj{v:zb}: ∀{l:List zb},v∈l->szV v<=szL l
 |[],h=>by cases h
 |x::l,h=>by
  rw[szL];rcases Ab.1 h with rfl|h
  ·omega
  ·have:=Tj h;omega
theorem Qv: ∀(l:List zb),l.length<=szL l
 |[]=>Xa _
 |v::r=>by rw[szL,yh,Ca];have:=Qv r;omega
theorem Gs(n:Nat):decide ((n:Int)>0)=decide (0<n):=by
 by_cases h:0<n
 ·rw[Ia h,Ia (by omega)]
 ·rw[Sa h,Sa (by omega)]
theorem GD(k:Int):qi k=some (zq k):=by
 unfold qi zq;by_cases h1:k=19
 ·subst h1;rfl
 by_cases h2:k=21
 ·subst h2;rfl
 by_cases h3:k=2
 ·subst h3;rfl
 by_cases h4:k=23
 ·subst h4;rfl
 have e1:(k==19)=false:=Ja.2 h1;have e2:(k==21)=false:=Ja.2 h2;have e3:(k==2)=false:=Ja.2 h3;have e4:(k==23)=false:=Ja.2 h4;simp only[e1,e2,e3,e4,Ba,zh,h1,h2,h3,h4,Nf,or_self]
theorem Pz(k:Int):qw k=some (zq k):=by
 unfold qw zq;by_cases h1:k=19
 ·subst h1;rfl
 by_cases h2:k=21
 ·subst h2;rfl
 by_cases h3:k=2
 ·subst h3;rfl
 by_cases h4:k=23
 ·subst h4;rfl
 have e1:(k==19)=false:=Ja.2 h1;have e2:(k==21)=false:=Ja.2 h2;have e3:(k==2)=false:=Ja.2 h3;have e4:(k==23)=false:=Ja.2 h4;simp only[e1,e2,e3,e4,Ba,zh,h1,h2,h3,h4,Nf,or_self]
mutual
/-- The depth of values. -/
def ni:zb->Nat
 |⟨t,l⟩=>if zq t.kind=0 then 0 else 1+Ig l
def Ig:List zb->Nat
 |[]=>0
 |v::r=>max (ni v) (Ig r)
end
theorem yM(v:zb):ni v=if zq v.token.kind=0 then 0 else 1+Ig v.list:=by obtain⟨t,l⟩:=v;rw[ni]
mutual
theorem GX: ∀v:zb,ni v<=szV v
 |⟨t,l⟩=>by rw[ni,szV];have:=fB l;split<;>omega
theorem fB: ∀l:List zb,Ig l<=szL l
 |[]=>Xa _
 |v::r=>by rw[Ig,szL];have:=GX v;have:=fB r;omega
end
theorem iN(f:zb->Nat): ∀(l:List zb) (a:Nat),l.foldl (fun a v=>max a (f v)) a=max a (l.foldr (fun v a=>max (f v) a) 0)
 |[],a=>by simp
 |v::l,a=>by rw[Uf,iN f l,List.foldr_cons];omega
theorem BN: ∀(l:List zb),Ig l=l.foldr (fun v a=>max (ni v) a) 0
 |[]=>by rw[Ig];rfl
 |v::l=>by rw[Ig,BN l];rfl
theorem jL{l:List zb}(h:szL l<=big):Qa l=some (Ig l:Int):=by
 refine Hl (fun l=>szL l) (fun l=>szL l<=big) (fun l=>(Ig l:Int)) (fun S l hl hS=> ?_) h;unfold iD;have hlen:=Qv l;refine(VC l (fun i (a:Nat)=>((a:Int),(i:Int))) (fun v a=>some (.again (max a (ni v)))) (fun a=>some (.out (a:Int))) (a:=0) rfl (fun i a hi=> ?_) (fun a=> ?_) (r:= .out (Ig l:Int)) ?_)
 ·have hsz:=Tj (Ad hi);have hv2:=yh l[i];have hd:=yM l[i];have hd2:=fB l[i].list;simp only[ZJ hi,Da,ze,Zw hi,Aa,GD];by_cases hc:zq l[i].token.kind=0
  ·rw[La hc]at hd;simp[hc,hd,Zb hi (by omega)]
  ·rw[Ka hc]at hd;rw[hS l[i].list (by omega) (by omega)];have hw:w64 (1+(Ig l[i].list:Int))=((1+Ig l[i].list:Nat):Int):=by rw[w64,ZV (by omega) (by unfold big at hl;omega)];omega
   simp only[Te.2 hc,Da,Aa,zh,Zb hi (by omega),hw,hd,Bb];congr 3;split<;>omega
 ·simp only[Z6,Ba];rfl
 ·rw[Q0 (fun a v=>max a (ni v)) (fun v a=>rfl),iN,<-BN];simp
theorem BC{l:List zb}: ∀{i:Nat} (h:i<l.length),szL (l.take (i+1))=szL (l.take i)+szV l[i]:=by
 induction l with
 |nil=>intro i h;cases h
 |cons v r ih=>
  intro i h;cases i with
  |zero=>simp[szL]
  |succ i=> simp only[Ah,szL,List.getElem_cons_succ];rw[ih (by simpa using h)];omega
theorem TD(l:List zb)(i:Nat):szL (l.take i)<=szL l:=by
 induction l generalizing i with
 |nil=>simp
 |cons v r ih=>
  cases i with
  |zero=>simp[szL]
  |succ i=>simp only[Ah,szL];have:=ih i;omega
mutual
/-- The tokens of values. -/
def tokV:zb->List zf
 |⟨t,l⟩=>t::if zq t.kind=0 then []else tokL l++[⟨zq t.kind,[],0,[],false⟩]
def tokL:List zb->List zf
 |[]=>[]
 |v::r=>tokV v++tokL r
end
theorem Bp(v:zb):tokV v=v.token::if zq v.token.kind=0 then []else tokL v.list++[⟨zq v.token.kind,[],0,[],false⟩]:=by obtain⟨t,l⟩:=v;rw[tokV]
mutual
theorem vv: ∀v:zb,(tokV v).length<=2*szV v
 |⟨t,l⟩=>by
  rw[tokV,szV];have:=Fs l;split
  ·simp;omega
  ·simp;omega
theorem Fs: ∀l:List zb,(tokL l).length<=2*szL l
 |[]=>Xa _
 |v::r=>by rw[tokL,szL,Ga];have:=vv v;have:=Fs r;omega
end
theorem uC: ∀(l:List zb) (a:List zf),l.foldl (fun a v=>a++tokV v) a=a++tokL l
 |[],a=>by simp[tokL]
 |v::l,a=>by rw[Uf,uC l,tokL,Kb]
theorem uH{l:List zb}(h:szL l<=big):ZB l=some (tokL l):=by
 refine Hl (fun l=>szL l) (fun l=>szL l<=big) (fun l=>tokL l) (fun S l hl hS=> ?_) h;unfold nD;have hlen:=Qv l;refine(Lp l (fun i (a:List zf)=>((i:Int),a)) (fun v a=>some (.again (a++tokV v))) (fun a=>some (.out a)) (fun i a=>a.length<=2*szL (l.take i)) (a:=[]) rfl (by simp) (fun i a hi hI=> ?_) (fun a _=> ?_) (r:= .out (tokL l)) ?_)
 ·have hsz:=Tj (Ad hi);have hv2:=yh l[i];have hd:=Bp l[i];have hd2:=Fs l[i].list;have ht:=BC hi;have ht2:=TD l (i+1);have hv3:=vv l[i];unfold big at hl;have hap: ∀n m:Nat,n+m<=100000000->Zr n m 56=true:=fun n m h=>Dl (by omega);refine⟨?_,fun a' ha=> ?_⟩
  ·simp only[ZJ hi,Da,ze,Zw hi,Aa,GD];by_cases hc:zq l[i].token.kind=0
   ·rw[La hc]at hd;simp[hc,hd,Zb hi (by unfold big;omega),hap a.length 1 (by omega)]
   ·rw[Ka hc]at hd;rw[hS l[i].list (by unfold big;omega) (by omega)];have hb:(zq l[i].token.kind != 0)=true:=Te.2 hc;simp[hb,hd,Zb hi (by unfold big;omega),hap a.length 1 (by omega),hap (a.length+1) (tokL l[i].list).length (by omega),hap (a.length+((tokL l[i].list).length+1)) 1 (by omega)]
  ·cases ha;rw[Ga,ht];omega
 ·simp only[Z6,Ba];rfl
 ·rw[Q0 (fun a v=>a++tokV v) (fun v a=>rfl),uC];simp
mutual
/-- Whether lists are those of blocks, and have not their closers. -/
def shV:zb->Int->Bool
 |⟨t,l⟩,c=> !((zq t.kind==0&&decide (0<l.length))||(c != 0&&t.kind==c)||(zq t.kind != 0&& !(shL l (zq t.kind))))
def shL:List zb->Int->Bool
 |[],_=>true
 |v::r,c=>shV v c&&shL r c
end
theorem XV(v:zb)(c:Int):shV v c= !((zq v.token.kind==0&&decide (0<v.list.length))||(c != 0&&v.token.kind==c)||(zq v.token.kind != 0&& !(shL v.list (zq v.token.kind)))):=by obtain⟨t,l⟩:=v;rw[shV]
theorem O0{l:List zb}{c:Int}(h:szL l<=big):qI (l,c)=some (shL l c):=by
 refine Hl (fun x:List zb×Int=>szL x.1) (fun x=>szL x.1<=big) (fun x=>shL x.1 x.2) (fun S x hl hS=> ?_) h;obtain⟨l,c⟩:=x;simp only at hl hS ⊢;unfold mD;have hlen:=Qv l;have hov: ∀l:List zb,ji (fun v (_:Unit)=>if shV v c=true then some (.again ())else some (.ret false)) (fun _=>some (.out ())) l ()=some (if shL l c=true then .out ()else .ret false):=by
  intro l
  induction l with
  |nil=>simp[ji,shL]
  |cons v r ih=>
   by_cases hv:shV v c=true
   ·simpa [ji,shL,hv] using ih
   ·simp[ji,shL,hv]
 refine(VC l (fun i (_:Unit)=>(i:Int)) (fun v (_:Unit)=>if shV v c=true then some (.again ())else some (.ret false)) (fun _=>some (.out ())) (a:=()) rfl (fun i a hi=> ?_) (fun a=> ?_) (hov l)).trans ?_
 ·have hsz:=Tj (Ad hi);have hv2:=yh l[i];have hd:=XV l[i] c;simp only[ZJ hi,Da,ze,Zw hi,Aa,GD];have hs1:szL l[i].list<=big:=by omega
  have hs2:szL l[i].list<szL l:=by omega
  have hSq: ∀c',S (l[i].list,c')=some (shL l[i].list c'):=fun c'=>hS (l[i].list,c') hs1 hs2;rw[hd];have hp:decide ((l[i].list.length:Int)>0)=decide (0<l[i].list.length):=Gs _;have hw:=Zb hi (by omega);simp only[bne,hp];rcases jd (zq l[i].token.kind==0)with h1|h1<;>rcases jd (decide (0<l[i].list.length))with h2|h2<;>rcases jd (c==0)with h3|h3<;>rcases jd (l[i].token.kind==c)with h4|h4<;>rcases jd (shL l[i].list (zq l[i].token.kind))with h5|h5<;>
   simp only[hSq,hp,h1,h2,h3,h4,h5,hw,Da,Ba,Fb,Ya,Uc,Xd,Rb,Sc,Bool.or_true,Fg,jf,Xe,zn,zC,Aa,Ae,Nf,Bb,Yd]
 ·simp only[Z6,Ba];rfl
 ·cases h:shL l c<;>simp
def Wo(l:List zb)(c:Int):zK:=⟨Ig l,(tokL l).length, !(shL l c)⟩
theorem VN(c:Int): ∀(l:List zb) (a:Nat×Nat×Bool),l.foldl (fun a v=>(max a.1 (ni v),a.2.1+(tokV v).length,a.2.2|| !(shV v c))) a=(max a.1 (Ig l),a.2.1+(tokL l).length,a.2.2|| !(shL l c))
 |[],a=>by simp[Ig,tokL,shL]
 |v::l,a=>by rw[Uf,VN c l,Ig,tokL,shL,Ga];simp only[Prod.mk.injEq];refine⟨by omega,by omega,?_⟩;cases a.2.2<;>cases shV v c<;>cases shL l c<;>rfl
theorem IL(a b:Bool):(bif a then true else b)=(a||b):=by cases a<;>rfl
theorem MX(a b:Bool):(bif a then b else false)=(a&&b):=by cases a<;>rfl
theorem H8{l:List zb}{c:Int}(h:szL l<=big):Kl (l,c)=some (Wo l c):=by
 refine Hl (fun x:List zb×Int=>szL x.1) (fun x=>szL x.1<=big) (fun x=>Wo x.1 x.2) (fun S x hl hS=> ?_) h;obtain⟨l,c⟩:=x;simp only at hl hS ⊢;unfold eD;have hlen:=Qv l;refine(Lp l (fun i (a:Nat×Nat×Bool)=>((i:Int),(⟨(a.1:Int),(a.2.1:Int),a.2.2⟩:zK))) (fun v a=>some (.again (max a.1 (ni v),a.2.1+(tokV v).length,a.2.2|| !(shV v c)))) (fun a=>some (.out (⟨(a.1:Int),(a.2.1:Int),a.2.2⟩:zK))) (fun i a=>a.2.1<=2*szL (l.take i)) (a:=(0,0,false)) rfl (by simp) (fun i a hi hI=> ?_) (fun a _=> ?_) (r:= .out (Wo l c)) ?_)
 ·have hsz:=Tj (Ad hi);have hv2:=yh l[i];have hd:=yM l[i];have hd2:=fB l[i].list;have ht:=Bp l[i];have ht2:=Fs l[i].list;have hsh:=XV l[i] c;have htk:=BC hi;have htk2:=TD l (i+1);have hv3:=vv l[i];have hs1:szL l[i].list<=big:=by omega
  have hs2:szL l[i].list<szL l:=by omega
  have hSq:S (l[i].list,zq l[i].token.kind)=some (Wo l[i].list (zq l[i].token.kind)):=hS (l[i].list,zq l[i].token.kind) hs1 hs2;obtain⟨d,n,b⟩:=a;simp only at hI;have hw:=Zb hi (by omega);unfold big at hl;have hw1:w64 ((n:Int)+1)=((n+1:Nat):Int):=by rw[w64,ZV (by omega) (by omega)];omega
  refine⟨?_,fun a' ha=> ?_⟩
  ·have hp:decide ((l[i].list.length:Int)>0)=decide (0<l[i].list.length):=Gs _;simp only[ZJ hi,Da,ze,Zw hi,Aa,Pz,Bb,hw1,bne,hp,IL,MX];by_cases hc:zq l[i].token.kind=0
   ·rw[La hc]at hd ht;simp only[hc,Vd,Rb,Fb,Sc,Fg,bne]at hsh ⊢;rw[hsh,hd,ht];rcases jd (decide (0<l[i].list.length))with h2|h2<;>rcases jd (c==0)with h3|h3<;>rcases jd (l[i].token.kind==c)with h4|h4<;>
     simp[h2,h3,h4,hw,Da,Ba]
   ·rw[Ka hc]at hd ht;have hcb:(zq l[i].token.kind==0)=false:=Ja.2 hc;have hw2:w64 ((Ig l[i].list:Int)+1)=((1+Ig l[i].list:Nat):Int):=by rw[w64,ZV (by omega) (by omega)];omega
    have hw3:w64 (((n+1:Nat):Int)+((tokL l[i].list).length:Int))=((n+1+(tokL l[i].list).length:Nat):Int):=by rw[w64,ZV (by omega) (by omega)];omega
    have hw4:w64 (((n+1+(tokL l[i].list).length:Nat):Int)+1)=((n+(1+((tokL l[i].list).length+1)):Nat):Int):=by rw[w64,ZV (by omega) (by omega)];omega
    have htl:(tokV l[i]).length=1+((tokL l[i].list).length+1):=by rw[ht];simp;omega
    have hm:(if((1+Ig l[i].list:Nat):Int)>(d:Int)then((1+Ig l[i].list:Nat):Int)else(d:Int))=((max d (1+Ig l[i].list):Nat):Int):=by split<;>omega
    rw[hsh,hd,htl];simp only[hcb,hSq,Sc,Ya,Rb,Fg,Xe,Ba,bne,Aa,Wo];rcases jd (c==0)with h3|h3<;>rcases jd (l[i].token.kind==c)with h4|h4<;>
     simp only[h3,h4,hw,hw2,hw3,hw4,hm,Da,Ba,zh,Fb,Ya,Rb,Uc,Xd,Sc,Bool.or_true,Fg,jf,Xe,Bool.not_not]
  ·cases ha;simp only;omega
 ·simp only[Z6,Ba];rfl
 ·rw[Q0 (fun a v=>(max a.1 (ni v),a.2.1+(tokV v).length,a.2.2|| !(shV v c))) (fun v a=>rfl),VN];simp[Wo]
theorem bi{a b:List zb}(h:a.Sublist b):szL a<=szL b:=by
 induction h with
 |slnil=>exact Xa _
 |cons v _ ih=>rw[szL];omega
 |cons_cons v _ ih=>rw[szL,szL];omega
theorem Qp(l:List zb):l=[]\/ ∃t v,l=t++[v]:=by
 rcases List.eq_nil_or_concat l with h|⟨t,v,h⟩
 ·exact .inl h
 ·exact .inr ⟨t,v,by rw[h,List.concat_eq_append]⟩
def isSp(v:zb):Bool:=v.token.kind==13
def trimB(l:List zb):List zb:=(l.reverse.dropWhile isSp).reverse
theorem xW:trimB []=[]:=rfl
theorem Bq(t:List zb)(v:zb):trimB (t++[v])=if isSp v then trimB t else t++[v]:=by
 unfold trimB;rw[List.reverse_append];simp only[List.reverse_cons,List.reverse_nil,Yc,Tc,Wd];split
 ·rfl
 ·simp
theorem Dn(l:List zb):(trimB l).Sublist l:=by unfold trimB;have:=Ye isSp (l:=l.reverse);simpa using this.reverse
def trimS(l:List zb):List zb:=trimB (l.dropWhile isSp)
theorem mW(l:List zb):szL (trimS l)<=szL l:=bi ((Dn _).trans (Ye _))
theorem IB(p:zb->Bool): ∀(l:List zb),l.drop (l.length - (l.dropWhile p).length)=l.dropWhile p
 |[]=>rfl
 |v::r=>by
  rw[Wd];split
  ·have h:=List.Sublist.length_le (Ye p (l:=r));rw[Ca,Nat.succ_sub h,List.drop_succ_cons];exact IB p r
  ·simp
theorem Fu{l:List zb}(h:szL l<=big):ZH l=some (trimS l):=by
 unfold ZH;refine(Qg (r:= .out (l.dropWhile isSp)) (ZM (fun s=>s.dropWhile isSp=l.dropWhile isSp) (fun s=>s.length) _ (fun s hs=> ?_) rfl)).trans ?_
 ·cases s with
  |nil=>exact .inr (.inl ⟨[],by simp,by rw[<-hs];rfl⟩)
  |cons v t=>
   have h1:decide (((v::t).length:Int)>0)=true:=by rw[Gs];simp
   have h2:geti (v::t) 0=some v:=rfl;have h3:decide ((1:Int)<=((v::t).length:Int))=true:=by simp;omega
   rw[Wd]at hs;cases hv:isSp v with
   |true=> rw[hv]at hs;unfold isSp at hv;refine .inl ⟨t,?_,by simpa using hs,by simp⟩;simp only[h1,h2,h3,zn,ze,Aa,hv,Da,Zi];rfl
   |false=> rw[hv]at hs;unfold isSp at hv;refine .inr (.inl ⟨v::t,?_,by rw[<-hs];rfl⟩);simp only[h1,h2,zn,ze,Aa,hv,Da,Ba]
 ·rw[zlL];have hd:szL (l.dropWhile isSp)<=big:=Lb (bi (Ye _)) h;unfold trimS;generalize l.dropWhile isSp=d at hd;refine(Qg (r:= .out (trimB d)) (ZM (fun s=>trimB s=trimB d/\szL s<=big) (fun s=>s.length) _ (fun s hs=> ?_) ⟨rfl,hd⟩)).trans ?_
  ·rcases Qp s with rfl|⟨t,v,rfl⟩
   ·exact .inr (.inl ⟨[],by simp,by rw[<-hs.1];rfl⟩)
   ·have hlen:=Qv (t++[v]);have hl2:(t++[v]).length=t.length+1:=by simp
    have hb:=hs.2;unfold big at hb;have h1:decide (((t++[v]).length:Int)>0)=true:=by rw[Gs];simp
    have h4:w64 (((t++[v]).length:Int) - 1)=(t.length:Int):=by rw[w64,ZV (by omega) (by omega)];omega
    have h2:geti (t++[v]) (t.length:Int)=some v:=by rw[Zw (by omega)];simp
    have h3:(decide ((0:Int)<=(t.length:Int))&&decide ((t.length:Int)<=((t++[v]).length:Int)))=true:=by simp;omega
    have hs1:=hs.1;rw[Bq]at hs1;cases hv:isSp v with
    |true=> rw[La hv]at hs1;unfold isSp at hv;refine .inl ⟨t,?_,⟨hs1,Lb (bi (List.sublist_append_left t [v])) hs.2⟩,by simp⟩;simp only[h1,h4,h2,h3,zn,ze,Aa,hv,Da,Zi,Va];simp
    |false=> rw[Ka (by rw[hv];simp)]at hs1;unfold isSp at hv;refine .inr (.inl ⟨t++[v],?_,by rw[<-hs1]⟩);simp only[h1,h4,h2,zn,ze,Aa,hv,Da,Ba]
  ·rw[zlL]
def errS(l:List zb):Int:=if 16<Ig l then 20 else if 1500<(tokL l).length then 4 else if shL l 0 then 0 else 8
theorem JH{l:List zb}(h:szL l<=big):QP l=some (errS l):=by
 unfold QP errS;simp only[ze,jL h,uH h,O0 h,Aa];by_cases h1:16<Ig l
 ·have:decide ((Ig l:Int)>16)=true:=Ia (by omega);simp[this,h1]
 ·have:decide ((Ig l:Int)>16)=false:=Sa (by omega);by_cases h2:1500<(tokL l).length
  ·have h3:decide (((tokL l).length:Int)>1500)=true:=Ia (by omega);simp[this,h1,h2,h3]
  ·have h3:decide (((tokL l).length:Int)>1500)=false:=Sa (by omega);cases h4:shL l 0<;>simp[this,h1,h2,h3]
theorem KD{l:List zb}(h:szL l<=big):QB l=some (errS l):=by
 unfold QB errS;simp only[ze,H8 h,Aa,Wo];by_cases h1:16<Ig l
 ·have:decide ((Ig l:Int)>16)=true:=Ia (by omega);simp[this,h1]
 ·have:decide ((Ig l:Int)>16)=false:=Sa (by omega);by_cases h2:1500<(tokL l).length
  ·have h3:decide (((tokL l).length:Int)>1500)=true:=Ia (by omega);simp[this,h1,h2,h3]
  ·have h3:decide (((tokL l).length:Int)>1500)=false:=Sa (by omega);cases h4:shL l 0<;>simp[this,h1,h2,h3]
theorem zCQ: ∀l:List zb,szL l<=zL zt l:=by
 have key: ∀(n:Nat) (l:List zb),zL zt l<n->szL l<=zL zt l:=by
  intro n
  induction n with
  |zero=>intro l h;omega
  |succ n ih=>
   intro l
   induction l with
   |nil=>intro _;rw[szL];exact Jb _
   |cons v l ihl=> intro h;rw[zBT]at h ⊢;rw[szL,yh];have hz:=dX v;have h1:=ih v.list (by omega);have h2:=ihl (by omega);omega
 exact fun l=>key _ l (Vb _)
theorem jX{l:List zb}{a:List zf}(h:szL l<=big)(ha:a.length+2*szL l<=4*big):Qo (l,a)=some (a++tokL l):=by
 refine Hl (fun z=>szL z.1) (fun z=>szL z.1<=big/\z.2.length+2*szL z.1<=4*big) (fun z=>z.2++tokL z.1) (fun S z hz hS=> ?_) (x:=(l,a)) ⟨h,ha⟩;obtain⟨l,a⟩:=z;obtain⟨h,ha⟩:=hz;have h:szL l<=big:=h;have ha:a.length+2*szL l<=4*big:=ha;have hlen:=Qv l;unfold OE;refine(Lp l (fun i (b:List zf)=>((i:Int),b)) (fun v b=>some (.again (b++tokV v))) (fun b=>some (.out b)) (fun i b=>b.length<=a.length+2*szL (l.take i)) (a:=a) rfl (by simp) (fun i b hi hI=> ?_) (fun b _=> ?_) (r:= .out (a++tokL l)) ?_).trans rfl
 ·have hsz:=Tj (Ad hi);have hv2:=yh l[i];have hd:=Bp l[i];have hd2:=Fs l[i].list;have ht:=BC hi;have ht2:=TD l (i+1);have hv3:=vv l[i];unfold big at h ha;have hap: ∀n m:Nat,n+m<=100000000->Zr n m 56=true:=fun n m h=>Dl (by omega);refine⟨?_,fun a' ha'=> ?_⟩
  ·simp only[ZJ hi,Da,ze,Zw hi,Aa,Pz];by_cases hc:zq l[i].token.kind=0
   ·rw[La hc]at hd;simp[hc,hd,Zb hi (by unfold big;omega),hap b.length 1 (by omega)]
   ·rw[Ka hc]at hd;rw[hS (l[i].list,b++[l[i].token]) ⟨by show szL l[i].list<=big;unfold big;omega,by show(b++[l[i].token]).length+2*szL l[i].list<=4*big;unfold big;rw[Ga,Cc];omega⟩ (by show szL l[i].list<szL l;omega)];have hb:(zq l[i].token.kind != 0)=true:=Te.2 hc;simp[hb,hd,Zb hi (by unfold big;omega),hap b.length 1 (by omega),hap (b.length+((tokL l[i].list).length+1)) 1 (by omega)]
  ·cases ha';rw[Ga,ht];omega
 ·simp only[Z6,Ba];rfl
 ·rw[Q0 (fun a v=>a++tokV v) (fun v a=>rfl),uC]
theorem kX{l:List zb}(h:szL l<=big):Ry l=some (tokL l):=by
 have hlen:=Qv l;unfold Ry;refine(Lp l (fun i (b:List zf)=>((i:Int),b)) (fun v b=>some (.again (b++tokV v))) (fun b=>some (.out b)) (fun i b=>b.length<=2*szL (l.take i)) (a:=[]) rfl (by simp) (fun i b hi hI=> ?_) (fun b _=> ?_) (r:= .out (tokL l)) ?_).trans rfl
 ·have hsz:=Tj (Ad hi);have hv2:=yh l[i];have hd:=Bp l[i];have hd2:=Fs l[i].list;have ht:=BC hi;have ht2:=TD l (i+1);have hv3:=vv l[i];unfold big at h;have hap: ∀n m:Nat,n+m<=100000000->Zr n m 56=true:=fun n m h=>Dl (by omega);refine⟨?_,fun a' ha'=> ?_⟩
  ·simp only[ZJ hi,Da,ze,Zw hi,Aa,Pz];by_cases hc:zq l[i].token.kind=0
   ·rw[La hc]at hd;simp[hc,hd,Zb hi (by unfold big;omega),hap b.length 1 (by omega)]
   ·rw[Ka hc]at hd;rw[jX (a:=b++[l[i].token]) (show szL l[i].list<=big by unfold big;omega) (by unfold big;rw[Ga,Cc];omega)];have hb:(zq l[i].token.kind != 0)=true:=Te.2 hc;simp[hb,hd,Zb hi (by unfold big;omega),hap b.length 1 (by omega),hap (b.length+((tokL l[i].list).length+1)) 1 (by omega)]
  ·cases ha';rw[Ga,ht];omega
 ·simp only[Z6,Ba];rfl
 ·rw[Q0 (fun a v=>a++tokV v) (fun v a=>rfl),uC];simp
theorem I8{l:List zb}(h:szL l<=big):Fx l=some (if errS l=0 then(tokL l,0)else([],errS l)):=by
 unfold Fx;simp only[KD h,ze,Aa];by_cases he:errS l=0
 ·have:(errS l != 0)=false:=by rw[he];rfl
  rw[this,Ba,kX h,La he];rfl
 ·rw[Te.2 he,Da,Ka he]
def szP:List (List zb)->Nat
 |[]=>0
 |l::r=>1+szL l+szP r
theorem kK{v:List zb}: ∀{l:List (List zb)},v∈l->szL v<=szP l
 |[],h=>by cases h
 |x::l,h=>by
  rw[szP];rcases Ab.1 h with rfl|h
  ·omega
  ·have:=kK h;omega
theorem lK: ∀(l:List (List zb)),l.length<=szP l
 |[]=>Xa _
 |v::r=>by rw[szP,Ca];have:=lK r;omega
theorem WO{R:Type}(x:Option R):both x x=x:=by unfold both;rw[La rfl]
theorem OX{l:List zb}(h:szL l<=big):Qj l=some l:=by
 unfold Qj;have hlen:=Qv l;unfold big at h;have hap:Zr 0 l.length 80=true:=Dl (by omega);cases l with
 |nil=>simp only[hap,WO,Zi,List.isEmpty_nil,Da]
 |cons v r=>simp only[hap,Zi,List.isEmpty_cons,Ba]
theorem dF{l:List zb}(h:szL l<=big):QC l=some l:=by
 refine Hl (fun l=>szL l) (fun l=>szL l<=big) (fun l=>l) (fun S l hl hS=> ?_) h;unfold aD;have hlen:=Qv l;simp only[ze,OX hl,Aa];refine(Lp l (fun i (a:List zb)=>((i:Int),a)) (fun v a=>some (.again a)) (fun a=>some (.out a)) (fun i a=>a=l) (a:=l) rfl rfl (fun i a hi hI=> ?_) (fun a hI=> ?_) (r:= .out l) ?_)
 ·subst hI;have hsz:=Tj (Ad hi);have hv2:=yh a[i];refine⟨?_,fun a' ha=>by cases ha;rfl⟩;have h1:S a[i].list=some a[i].list:=hS a[i].list (by omega) (by omega);have h2:decide ((0:Int)<=(i:Int))=true:=Ia (by omega);have h3:a[i]? =some a[i]:=Ma hi;have h4:a.set i ⟨a[i].token,a[i].list⟩=a:=by
   have:(⟨a[i].token,a[i].list⟩:zb)=a[i]:=by cases a[i];rfl
   rw[this,List.set_getElem_self]
  simp only[ZJ hi,h2,Bool.and_self,Da,Zi,Va,h3,Aa,h1,h4,Zb hi (by omega),Bb]
 ·subst hI;simp only[Z6,Ba];rfl
 ·rw[Q0 (fun a v=>a) (fun v a=>rfl)];congr 2;clear hl hS hlen h;generalize l=b at*;have: ∀(m b:List zb),m.foldl (fun a _=>a) b=b:=by
   intro m
   induction m with
   |nil=>intro b;rfl
   |cons v m ih=>intro b;exact ih b
  exact this _ _
theorem pz{l:List zb}{i:Nat}(h:i<l.length):Gu ((i:Int),l)=some (isSp l[i]):=by unfold Gu;simp only[ze,Zw h,Aa];rfl
theorem rX{l:List zb}(h:szL l<=big):Ex l=some (if errS l=0 then(trimS l,0)else([],errS l)):=by
 unfold Ex;have hlen:=Qv l;simp only[ze,KD h,Aa];by_cases h1:errS l=0
 ·rw[La h1];have hne:(errS l != 0)=false:=by simp[h1]
  simp only[hne,Ba];have hdl:=List.Sublist.length_le (Ye isSp (l:=l));have hdd:=IB isSp l;refine(Qg (r:= .out ((l.length - (l.dropWhile isSp).length:Nat):Int)) (ZM (fun s=> ∃k:Nat,s=(k:Int)/\k<=l.length/\(l.drop k).dropWhile isSp=l.dropWhile isSp) (fun s=>l.length - s.toNat) _ (fun s hs=> ?_) ⟨0,rfl,Jb _,rfl⟩)).trans ?_
  ·obtain⟨k,rfl,hk,he⟩:=hs;by_cases hlt:k<l.length
   ·rw[Yb hlt,Wd]at he;have hw:=Zb hlt (by unfold big at h ⊢;omega);cases hv:isSp l[k]with
    |true=> rw[La hv]at he;refine .inl ⟨((k+1:Nat):Int),?_,⟨k+1,rfl,hlt,he⟩,by omega⟩;simp only[ZJ hlt,zn,pz hlt,Aa,hv,Da,hw]
    |false=>
     rw[Ka (by rw[hv];simp)]at he;refine .inr (.inl ⟨(k:Int),?_,?_⟩)
     ·simp only[ZJ hlt,zn,pz hlt,Aa,hv,Da,Ba]
     ·rw[<-he];congr 1;simp;omega
   ·have hkk:k=l.length:=by omega
    subst hkk;rw[List.drop_length]at he;refine .inr (.inl ⟨(l.length:Int),?_,?_⟩)
    ·simp only[Z6,zC,Aa,Ba]
    ·rw[<-he];simp
  ·rw[zlL];generalize hf:l.length - (l.dropWhile isSp).length=f at hdd;have hfl:f<=l.length:=by omega
   generalize l.dropWhile isSp=d at hdd;subst hdd;refine(Qg (r:= .out ((f+(trimB (l.drop f)).length:Nat):Int)) (ZM (fun s=> ∃m:Nat,s=(m:Int)/\f<=m/\m<=l.length/\trimB ((l.take m).drop f)=trimB (l.drop f)) (fun s=>s.toNat) _ (fun s hs=> ?_) ⟨l.length,rfl,hfl,Xa _,by rw[ve]⟩)).trans ?_
   ·obtain⟨m,rfl,hm1,hm2,he⟩:=hs;by_cases hlt:f<m
    ·have hm:m - 1<l.length:=by omega
     have hsn:(l.take m).drop f=(l.take (m - 1)).drop f++[l[m - 1]]:=by
      have:l.take m=l.take (m - 1)++[l[m - 1]]:=by
       have:=Re hm
       rwa [show m - 1+1=m by omega]at this
      rw[this,List.drop_append_of_le_length (by rw[Ld];omega)]
     rw[hsn,Bq]at he;have h2:decide ((f:Int)<(m:Int))=true:=Ia (by omega);have hw:w64 ((m:Int) - 1)=((m - 1:Nat):Int):=by rw[w64,ZV (by omega) (by unfold big at h;omega)];omega
     cases hv:isSp l[m - 1]with
     |true=> rw[La hv]at he;refine .inl ⟨((m - 1:Nat):Int),?_,⟨m - 1,rfl,by omega,by omega,he⟩,by omega⟩;simp only[h2,zn,hw,pz hm,Aa,hv,Da]
     |false=>
      rw[Ka (by rw[hv];simp)]at he;refine .inr (.inl ⟨(m:Int),?_,?_⟩)
      ·simp only[h2,zn,hw,pz hm,Aa,hv,Da,Ba]
      ·rw[<-he];congr 1;simp;omega
    ·have hmm:m=f:=by omega
     subst hmm;have h2:decide ((m:Int)<(m:Int))=false:=Sa (by omega);refine .inr (.inl ⟨(m:Int),?_,?_⟩)
     ·simp only[h2,zC,Aa,Ba]
     ·rw[Lf (by rw[Ld];omega),xW]at he;rw[<-he];simp
   ·rw[zlL];have htl:=List.Sublist.length_le (Dn (l.drop f));rw[Ac]at htl;have hcut:List.drop f (List.take (f+(trimB (l.drop f)).length) l)=trimB (l.drop f):=by
     rw[List.drop_take];have: ∀d:List zb,d.take (trimB d).length=trimB d:=by intro d;unfold trimB;rw[Dg];have h3:=IB isSp d.reverse;have h4:=List.Sublist.length_le (Ye isSp (l:=d.reverse));rw[Dg]at h3 h4;rw[<-h3,List.drop_reverse,List.reverse_reverse];congr 1;simp
     have e:=this (l.drop f);rw[show f+(trimB (l.drop f)).length - f=(trimB (l.drop f)).length by omega];exact e
    have hneed:(decide ((0:Int)<=(f:Int))&&(decide ((f:Int)<=((f+(trimB (l.drop f)).length:Nat):Int))&&(decide (((f+(trimB (l.drop f)).length:Nat):Int)<=((f+(trimB (l.drop f)).length:Nat):Int))&&decide (((f+(trimB (l.drop f)).length:Nat):Int)<=(l.length:Int))))&&decide True)=true:=by simp only[Ha,Gc];refine⟨?_,trivial⟩;omega
    have hts:trimS l=trimB (l.drop f):=by unfold trimS;rw[<-IB isSp l,hf]
    simp only[hneed,Zi,Va,hcut,dF (Lb (bi ((Dn _).trans (List.drop_sublist _ _))) h),Aa,hts]
 ·rw[Ka h1];have hne:(errS l != 0)=true:=by simp[h1]
  simp only[hne,Da]
def Dh(k:Int)(a:List (List zb)×List zb)(v:zb):List (List zb)×List zb:=
 if v.token.kind==k then(a.1++[a.2],[])else(a.1,a.2++[v])
def Lg(k:Int)(l:List zb):List (List zb)×List zb:=l.foldl (Dh k) ([],[])
def Ei(k:Int)(l:List zb):List (List zb):=(Lg k l).1++[(Lg k l).2]
theorem M4{k:Int}{l:List zb}{i:Nat}(h:i<l.length):Lg k (l.take (i+1))=Dh k (Lg k (l.take i)) l[i]:=by unfold Lg;rw[Re h,List.foldl_append];rfl
theorem MP(a b:List (List zb)):szP (a++b)=szP a+szP b:=by
 induction a with
 |nil=>simp[szP]
 |cons x a ih=>simp only[Tc,szP,ih];omega
theorem FD(a b:List zb):szL (a++b)=szL a+szL b:=by
 induction a with
 |nil=>simp[szL]
 |cons x a ih=>simp only[Tc,szL,ih];omega
theorem MC(k:Int): ∀(l:List zb) (a:List (List zb)×List zb),szP (l.foldl (Dh k) a).1+szL (l.foldl (Dh k) a).2<=szP a.1+szL a.2+szL l/\(l.foldl (Dh k) a).1.length<=a.1.length+l.length/\(l.foldl (Dh k) a).2.length<=a.2.length+l.length
 |[],a=>by simp[szL]
 |v::l,a=>by
  rw[Uf];obtain⟨h1,h2,h3⟩:=MC k l (Dh k a v);have hv:=yh v;have:szP (Dh k a v).1+szL (Dh k a v).2<=szP a.1+szL a.2+szV v/\(Dh k a v).1.length<=a.1.length+1/\(Dh k a v).2.length<=a.2.length+1:=by
   unfold Dh;split
   ·simp only[MP,szP,szL,Ga,Ca,Db];omega
   ·simp only[FD,szL,Ga,Ca,Db];omega
  rw[szL,Ca];omega
theorem JX(k:Int)(l:List zb):szP (Ei k l)<=szL l+1:=by obtain⟨h1,_,_⟩:=MC k l ([],[]);unfold Ei Lg;rw[MP,szP,szP];have e1:szP ([]:List (List zb))=0:=rfl;have e2:szL ([]:List zb)=0:=rfl;simp only[e1,e2]at h1;omega
theorem aY{l:List zb}{k:Int}(h:szL l<=big):Xy (l,k)=some (Ei k l):=by
 unfold Xy;have hlen:=Qv l;refine(Lp l (fun i (a:List (List zb)×List zb)=>((i:Int),(a.1,([]:List (List zb))),a.2)) (fun v a=>some (.again (Dh k a v))) (fun a=>some (.out ((a.1,([]:List (List zb))),a.2))) (fun i a=>a.1.length<=i/\a.2.length<=i) (a:=([],[])) rfl (by simp) (fun i a hi hI=> ?_) (fun a _=> ?_) (r:= .out (((Lg k l).1,[]),(Lg k l).2)) ?_)
 ·obtain⟨l1,last⟩:=a;obtain⟨hI1,hI2⟩:=hI;simp only at hI1 hI2;unfold big at h;have hw:=Zb hi (by unfold big;omega);refine⟨?_,fun a' ha=> ?_⟩
  ·simp only[ZJ hi,Da,ze,Zw hi,Aa,Bb,Dh];cases hv:(l[i].token.kind==k)with
   |true=> have hap:Zr (l1++List.cons last []).length (0+1+0) 24=true:=Dl (by simp;omega);simp only[Da,hap,Zi,zh,hw,Ae,Ib]
   |false=>
    have hl0:([]:List (List zb)).length=0:=rfl;have hn:w64 (((l1.length+1+([]:List (List zb)).length:Nat):Int) - 1)=(l1.length:Int):=by rw[w64,ZV (by omega) (by omega)];omega
    have hb:(decide ((0:Int)<=(l1.length:Int))&&decide ((l1.length:Int)<((l1.length+1+([]:List (List zb)).length:Nat):Int)))=true:=by simp only[Ha,Gc];omega
    have hbq:Nat.beq l1.length l1.length=true:=Jf _;have hap:Zr last.length 1 80=true:=Dl (by omega);have hb2: ∀z:zb,(decide ((0:Int)<=(last.length:Int))&&decide ((last.length:Int)<((last++[z]).length:Int)))=true:=by intro z;simp;omega
    have hz: ∀z:zb,(last++[z])[last.length]? =some z:=by intro z;simp
    have hset: ∀z u:zb,(last++[z]).set last.length u=last++[u]:=by intro z u;simp
    have he: ∀u:zb,(⟨u.token,u.list⟩:zb)=u:=fun u=>by cases u;rfl
    simp only[Ba,hn,hb,Zi,Va,hbq,hap,hb2,hz,hset,he,Aa,WO,zh,hw,Nf,Yd]
  ·cases ha;unfold Dh;split
   ·simp;omega
   ·simp;omega
 ·simp only[Z6,Ba];rfl
 ·rw[Q0 (fun a v=>Dh k a v) (fun v a=>rfl)];rfl
theorem UZ{l:List zb}{k:Int}(h:szL l<=big):Jy (l,k)=some (if errS l=0 then(if k<1\/24<k then([],2)else(Ei k l,0))else([],errS l)):=by
 unfold Jy;have hlen:=Qv l;simp only[ze,KD h,Aa];by_cases h1:errS l=0
 ·have hne:(errS l != 0)=false:=by simp[h1]
  rw[La h1];simp only[hne,Ba,IL];by_cases h2:k<1\/24<k
  ·have:(decide (k<1)||decide (k>24))=true:=by simpa using h2
   rw[La h2,this];rfl
  ·have:(decide (k<1)||decide (k>24))=false:=by rw[Gf];exact⟨Sa (by omega),Sa (by omega)⟩
   rw[Ka h2,this];simp only[Ba];refine(Qg (r:= .out (((l.length - (Lg k l).2.length:Nat):Int),(Lg k l).1)) (ZM (fun s=> ∃i from_:Nat,s=(((from_:Int),(i:Int)),(Lg k (l.take i)).1)/\from_<=i/\i<=l.length/\(Lg k (l.take i)).2=(l.take i).drop from_) (fun s=>l.length - s.1.2.toNat) _ (fun s hs=> ?_) ⟨0,0,by simp[Lg],Xa _,Jb _,by simp[Lg]⟩)).trans ?_
   ·obtain⟨i,fr,rfl,hfi,hil,he⟩:=hs;by_cases hi:i<l.length
    ·refine .inl ?_;have hw:=Zb hi (by unfold big at h ⊢;omega);have hpt:=M4 (k:=k) hi;have htk:l.take (i+1)=l.take i++[l[i]]:=Re hi;unfold Dh at hpt;simp only[ZJ hi,Da,Zw hi,Aa];cases hv:(l[i].token.kind==k)with
     |true=>
      rw[La hv]at hpt;have hn:(decide ((0:Int)<=(fr:Int))&&(decide ((fr:Int)<=(i:Int))&&(decide ((i:Int)<=(i:Int))&&decide ((i:Int)<=(l.length:Int))))&&decide True)=true:=by simp only[Ha,Gc];refine⟨?_,trivial⟩;omega
      have hsz:szL (List.drop fr (List.take i l))<=big:=Lb (bi ((List.drop_sublist _ _).trans (List.take_sublist _ _))) h;have hpl:=(MC k (l.take i) ([],[])).2.1;have hap:Zr (Lg k (l.take i)).1.length 1 24=true:=Dl (by
       unfold Lg;have:=List.length_take_le i l;unfold big at h;simp only[Db]at hpl;omega)
      refine⟨((((i+1:Nat):Int),((i+1:Nat):Int)),(Lg k (l.take (i+1))).1),?_,⟨i+1,i+1,rfl,Xa _,hi,?_⟩,?_⟩
      ·simp only[Da,hn,Zi,Va,dF hsz,Aa,hap,hw,zh,hpt,he]
      ·rw[hpt];simp
      ·simp only[Va];omega
     |false=>
      rw[Ka (by rw[hv];simp)]at hpt;refine⟨(((fr:Int),((i+1:Nat):Int)),(Lg k (l.take (i+1))).1),?_,⟨i+1,fr,rfl,by omega,hi,?_⟩,?_⟩
      ·simp only[Ba,zh,hw,hpt]
      ·rw[hpt,htk,he,List.drop_append_of_le_length (by rw[Ld];omega)]
      ·simp only[Va];omega
    ·have hil:i=l.length:=by omega
     subst hil;rw[ve]at he ⊢;refine .inr (.inl ⟨((fr:Int),(Lg k l).1),by simp only[Z6,Ba],?_⟩);rw[he,Ac];congr 2;omega
   ·rw[zlL]
    -- the last part is behind
    have key: ∀(m:List zb) (a:List (List zb)×List zb) (p:List zb),a.2<:+p->(m.foldl (Dh k) a).2<:+p++m:=by
     intro m
     induction m with
     |nil=>intro a p h;simpa using h
     |cons v m ih=>
      intro a p h;rw[Uf];have:(Dh k a v).2<:+p++[v]:=by
       unfold Dh;split
       ·exact Tf
       ·obtain⟨q,hq⟩:=h;exact⟨q,by rw[<-hq,Kb]⟩
      have:=ih _ _ this
      rwa [Kb]at this
    have hsuf:=key l ([],[]) [] (Hd _);rw[Yc]at hsuf;have hdr:List.drop (l.length - (Lg k l).2.length) l=(Lg k l).2:=by unfold Lg;exact(List.suffix_iff_eq_drop.1 hsuf).symm
    have hsz:szL (Lg k l).2<=big:=by have:=bi hsuf.sublist;unfold Lg;omega
    have hle:(Lg k l).2.length<=l.length:=by unfold Lg;exact hsuf.length_le
    have hn:(decide ((0:Int)<=((l.length - (Lg k l).2.length:Nat):Int))&&decide (((l.length - (Lg k l).2.length:Nat):Int)<=(l.length:Int)))=true:=by simp only[Ha,Gc];omega
    have hpl:=(MC k l ([],[])).2.1;have hap:Zr (Lg k l).1.length 1 24=true:=Dl (by
     unfold Lg;unfold big at h;simp only[Db]at hpl;omega)
    simp only[hn,Zi,Va,hdr,dF hsz,Aa,hap];rfl
 ·have h2:(errS l != 0)=true:=Te.2 h1;rw[Ka h1];simp only[h2,Da]
end Go.Lv.VT

namespace Go.Lv
theorem Le.lp{S X R:Type}{step step':S->Option (LO S X R)}{s:S}{k k':X->Option R}(h: ∀s,Le (step s) (step' s))(hk: ∀x,Le (k x) (k' x)):Le (zY step s k) (zY step' s k'):=by
 intro y hy;unfold zY at hy;cases hl:Fh step s with
 |none=>rw[hl]at hy;cases hy
 |some r=>
  rw[hl]at hy;obtain⟨n,hn⟩:=wO hl;rw[Qg (Dk (RG h n s r hn))];cases r with
  |out x=>exact hk x y hy
  |ret r=>exact hy
def iU{X Y:Type}(B:(X->Option Y)->X->Option Y):Prop:= ∀S S':X->Option Y,(∀x,Le (S x) (S' x))-> ∀x,Le (B S x) (B S' x)
theorem VW {X Y:Type} {B:(X->Option Y)->X->Option Y} (hm:iU B) (μ:X->Nat) (ok:X->Prop) (R:X->Y->Prop)
  (hB: ∀(S:X->Option Y) (x:X),ok x->(∀z,ok z->μ z<μ x-> ∃y,S z=some y/\R z y)-> ∃y,B S x=some y/\R x y) {x:X} (hx:ok x): ∃y,recE B x=some y/\R x y:=by
 have step: ∀n x,Le (mh B n x) (mh B (n+1) x):=by
  intro n
  induction n with
  |zero=>intro x;exact Le.none
  |succ n ih=>intro x;exact hm _ _ ih x
 have up: ∀d n x,Le (mh B n x) (mh B (n+d) x):=by
  intro d
  induction d with
  |zero=>intro n x;exact Le.rfl
  |succ d ih=>intro n x y hy;exact step _ x y (ih n x y hy)
 have key: ∀(m:Nat) (x:X),μ x<m->ok x-> ∃y,mh B m x=some y/\R x y:=by
  intro m
  induction m with
  |zero=>intro x h;omega
  |succ m ih=> intro x hm hok;exact hB _ x hok fun z hz hlt=>ih z (by omega) hz
 obtain⟨y,h1,h2⟩:=key (μ x+1) x (by omega) hx;refine⟨y,RF (N:=μ x+1) fun n hn=> ?_,h2⟩;obtain⟨d,rfl⟩:=Nat.le.dest hn;exact up d _ x y h1
theorem oV {A S X R:Type} {step:S->Option (LO S X R)} {k:X->Option R} (n:Nat) (st:Nat->A->S) (Inv:Nat->A->Prop) (Q:R->Prop) {s0:S} {a0:A} (h0:s0=st 0 a0) (hI:Inv 0 a0)
  (hg: ∀(i:Nat) (a:A),i<n->Inv i a->(∃a',step (st i a)=some (.again (st (i+1) a'))/\Inv (i+1) a')\/(∃r,step (st i a)=some (.ret r)/\Q r)\/(∃x,step (st i a)=some (.out x)/\ ∃r,k x=some r/\Q r))
  (hf: ∀a,Inv n a->(∃x,step (st n a)=some (.out x)/\ ∃r,k x=some r/\Q r)\/(∃r,step (st n a)=some (.ret r)/\Q r)): ∃r,zY step s0 k=some r/\Q r:=by
 have key: ∀(m i:Nat) (a:A),i+m=n->Inv i a-> ∃j x,qp step j (st i a)=some x/\ ∃r,LX.go x k=some r/\Q r:=by
  intro m
  induction m with
  |zero=>
   intro i a hi ha;obtain rfl:i=n:=by omega
   rcases hf a ha with⟨x,h1,r,h2,h3⟩|⟨r,h1,h2⟩
   ·exact⟨1, .out x,by simp only[qp,h1],r,h2,h3⟩
   ·exact⟨1, .ret r,by simp only[qp,h1],r,rfl,h2⟩
  |succ m ih=>
   intro i a hi ha;rcases hg i a (by omega) ha with⟨a',h1,h2⟩|⟨r,h1,h2⟩|⟨x,h1,r,h2,h3⟩
   ·obtain⟨j,x,g1,g2⟩:=ih (i+1) a' (by omega) h2;exact⟨j+1,x,by simp only[qp,h1];exact g1,g2⟩
   ·exact⟨1, .ret r,by simp only[qp,h1],r,rfl,h2⟩
   ·exact⟨1, .out x,by simp only[qp,h1],r,h2,h3⟩
 obtain⟨j,x,h1,r,h2,h3⟩:=key n 0 a0 (by omega) hI;refine⟨r,?_,h3⟩;rw[h0,Qg (Dk h1),h2]
namespace VT
def mx{α:Type}(f:α->Nat):List α->Nat
 |[]=>0
 |v::l=>max (f v) (mx f l)
end VT
end Go.Lv

namespace Go.Lv.VT
set_option maxRecDepth 100000
theorem zme:iU Cu:=by intro Qb ref04_Size' h_ref04_Size x;unfold Cu;exact(.lp (fun _=>(.bif (.bind .rfl fun _=>(.bind .rfl fun _=>(.bind .rfl fun _=>(.bind (h_ref04_Size _) fun _=> .rfl)))) .rfl)) fun _=> .rfl)
def zBU{A S X R:Type}(k:X->Option R)(st:Nat->A->S)(Q:R->Prop)(i:Nat):LO S X R->Prop
 | .again s=> ∃a',s=st (i+1) a'
 | .ret r=>Q r
 | .out x=> ∃r,k x=some r/\Q r
def Ends{S X R:Type}(k:X->Option R)(Q:R->Prop):LO S X R->Prop
 | .again _=>False
 | .ret r=>Q r
 | .out x=> ∃r,k x=some r/\Q r
theorem zBi {A S X R:Type} {step:S->Option (LO S X R)} {k:X->Option R} (n:Nat) (st:Nat->A->S) (Q:R->Prop) {s0:S} {a0:A} (h0:s0=st 0 a0)
  (hg: ∀(i:Nat) (a:A),i<n-> ∃o,step (st i a)=some o/\zBU k st Q i o) (hf: ∀a,∃o,step (st n a)=some o/\Ends k Q o): ∃r,zY step s0 k=some r/\Q r:=by
 refine oV n st (fun _ _=>True) Q h0 trivial (fun i a hi _=> ?_) (fun a _=> ?_)
 ·obtain⟨o,h1,h2⟩:=hg i a hi;cases o with
  |again s=>obtain⟨a',rfl⟩:=h2;exact .inl ⟨a',h1,trivial⟩
  |ret r=>exact .inr (.inl ⟨r,h1,h2⟩)
  |out x=>exact .inr (.inr ⟨x,h1,h2⟩)
 ·obtain⟨o,h1,h2⟩:=hf a;cases o with
  |again s=>exact h2.elim
  |ret r=>exact .inr ⟨r,h1,h2⟩
  |out x=>exact .inl ⟨x,h1,h2⟩
theorem zp8{l:List zb}{m:Int}(h:szL l<=big): ∃r,Qb (l,m)=some r:=by
 have: ∃r,Qb (l,m)=some r/\True:=by
  refine VW zme (fun x=>szL x.1) (fun x=>szL x.1<=big) (fun _ _=>True) (fun S x hx hS=> ?_) (x:=(l,m)) h;obtain⟨l,m⟩:=x;have hx:szL l<=big:=hx;have hlen:=Qv l;unfold Cu;refine zBi (A:=Int) l.length (fun i a=>(a,(i:Int))) _ (a0:=0) rfl (fun i a hi=> ?_) (fun a=> ?_)
  ·have hsz:=Tj (Ad hi);have hv:=yh l[i];cases ha:decide (a<=m)with
   |false=>simp only[ZJ hi,Da,Ba,ha];exact⟨_,rfl,_,rfl,trivial⟩
   |true=> obtain⟨r,hr,_⟩:=hS (l[i].list,w64 (m - a)) (by show szL l[i].list<=big;omega) (by show szL l[i].list<szL l;omega);simp only[ZJ hi,Da,ha,Zw hi,ze,Aa,hr,Zb hi (show l.length<=big by omega)];exact⟨_,rfl,_,rfl⟩
  ·simp only[Z6,Ba];exact⟨_,rfl,_,rfl,trivial⟩
 obtain⟨r,hr,_⟩:=this;exact⟨r,hr⟩
theorem UW{a:List zb}(h:szL a<=big):Q5 (a,a)=some true:=by
 refine Hl (fun x:List zb×List zb=>szL x.1) (fun x=>szL x.1<=big/\x.1=x.2) (fun x=>true) (fun S x hl hS=> ?_) (show szL (a,a).1<=big/\(a,a).1=(a,a).2 from⟨h,rfl⟩);obtain⟨l,l'⟩:=x;obtain⟨hl,he⟩:=hl;simp only at hl hS he;subst he;unfold gD;have hlen:=Qv l;have hne:((l.length:Int) != (l.length:Int))=false:=by simp
 simp only[hne,Ba];refine(VC l (fun i (_:Unit)=>(i:Int)) (fun v (_:Unit)=>some (.again ())) (fun _=>some (.out ())) (a:=()) rfl (fun i a hi=> ?_) (fun a=> ?_) (r:= .out ()) ?_)
 ·have hsz:=Tj (Ad hi);have hv2:=yh l[i];have hs1:szL l[i].list<=big:=by omega
  have hs2:szL l[i].list<szL l:=by omega
  have hS':S (l[i].list,l[i].list)=some true:=hS (l[i].list,l[i].list) ⟨hs1,rfl⟩ hs2;simp[hi,Zw hi,hS',Zb hi (by omega)]
 ·simp only[Z6,Ba];rfl
 ·rw[Q0 (fun a v=>a) (fun v a=>rfl)]
theorem EZ{l:List zb}(h:szL l<=big): ∃r,ay l=some r:=by
 obtain⟨r,hr⟩:=zp8 (m:=300) h;unfold ay;simp only[ze,hr,Aa];cases hd:decide (r>300)with
 |true=>exact⟨_,rfl⟩
 |false=>simp only[Ya,zn,jL h,Aa];exact⟨_,rfl⟩
inductive Cuts (k:Int):List zb->List (List zb)->Prop
 |one (p:List zb) (h: ∀x∈p,(x.token.kind==k)=false):Cuts k p [p]
 |more (p:List zb) (s:zb) (v:List zb) (ps:List (List zb)) (h: ∀x∈p,(x.token.kind==k)=false) (hs:(s.token.kind==k)=true) (hc:Cuts k v ps):Cuts k (p++s::v) (p::ps)
theorem WP(d:List zb): ∃r,d=trimB d++r/\(∀x∈r,isSp x=true)/\(trimB d=[]\/ ∃t v,trimB d=t++[v]/\isSp v=false):=by
 induction hn:d.length generalizing d with
 |zero=>
  obtain rfl:=List.length_eq_zero_iff.1 hn;exact⟨[],rfl,fun x hx=>(by cases hx), .inl rfl⟩
 |succ n ih=>
  rcases Qp d with rfl|⟨t,v,rfl⟩
  ·cases hn
  ·rw[Bq];cases hv:isSp v with
   |true=>
    rw[La rfl];obtain⟨r,h1,h2,h3⟩:=ih t (by rw[Ga]at hn;simpa using hn);refine⟨r++[v],by rw[<-Kb,<-h1],fun x hx=> ?_,h3⟩;rcases Sb.1 hx with hx|hx
    ·exact h2 x hx
    ·rw[Ra.1 hx];exact hv
   |false=> rw[Ka (by decide)];exact⟨[],(Ib _).symm,fun x hx=>(by cases hx), .inr ⟨t,v,rfl,hv⟩⟩
theorem WI: ∀(v:List zb),∃a,v=a++v.dropWhile isSp/\(∀x∈a,isSp x=true)/\ ∀x b,v.dropWhile isSp=x::b->isSp x=false
 |[]=>⟨[],rfl,fun x hx=>(by cases hx),fun x b h=>(by cases h)⟩
 |y::v=>by
  obtain⟨a,h1,h2,h3⟩:=WI v;cases hy:isSp y with
  |true=>
   rw[List.dropWhile_cons_of_pos hy];refine⟨y::a,by rw[Tc,<-h1],fun x hx=> ?_,h3⟩;rcases Ab.1 hx with rfl|hx
   ·exact hy
   ·exact h2 x hx
  |false=> rw[List.dropWhile_cons_of_neg (by rw[hy];decide)];exact⟨[],rfl,fun x hx=>(by cases hx),fun x b h=>(by cases h;exact hy)⟩
end Go.Lv.VT
