/- Tokens that can be written, one behind the other: the reference's check. -/
import Derived.Test.YtpcfcdmidhbkmaaGreatDoorXa
import Derived.Test.YtpcfcdmidhbkmaaGreatDoorXf
import Derived.Test.YtpcfcdmidhbkmaaGreatDoorIp
import Derived.Test.YtpcfcdmidhbkmaaGreatDoorLf
set_option linter.unusedSimpArgs false
set_option linter.unusedVariables false
namespace Go.Lv.VT
theorem bF{α:Type}{l:List α}{i:Nat}{s:α}{r:List α}(h:l.drop i=s::r):i<l.length/\geti l (i:Int)=some s/\l.drop (i+1)=r:=by
 have a:i<l.length:=by
  rcases ic i l.length with b|b
  ·exact b
  ·rw[xe b]at h;cases h
 rw[Eb a]at h;injection h with d c;exact⟨a,by rw[lh a,d],c⟩
theorem aF{α:Type}{l:List α}{i:Nat}(h:l.drop i=[])(hi:i<=l.length):i=l.length:=by have:=Ce.1 h;omega
theorem vT{l:List zb}{i:Nat}(hi:i<l.length)(v:l.length<=1500):
  zN (X:=Int) (R:=LX Unit (LO Int Unit Int)) (ze (zu (decide (((i+1:Nat):Int)<(l.length:Int))) (geti l ((i+1:Nat):Int)) (default:zb)) fun m=>bif bif decide (((i+1:Nat):Int)<(l.length:Int))then m.kind==13 else false then some (LX.out (w64 (((i+1:Nat):Int)+1)))else some (LX.out ((i+1:Nat):Int)))
   (fun a=>ze (zu (!(decide (a>=(l.length:Int)))) (geti l a) (default:zb)) fun h=>bif bif decide (a>=(l.length:Int))then true else h.kind != 5 then some (LX.ret (LO.ret 8))else some (LX.out ()))=bif Bj (l.drop (i+1))then some (LX.out ())else some (LX.ret (LO.ret 8)):=by
 cases f:l.drop (i+1)with
 |nil=> have k:=aF f (by omega);have o:decide (((i+1:Nat):Int)<(l.length:Int))=false:=Ob (by omega);have b:decide (((i+1:Nat):Int)>=(l.length:Int))=true:=La (by omega);simp only[o,b,ZX,ze,Aa,Ja,Ha,zh,Lb,Bj]
 |cons s r=>
  obtain⟨c,e,d⟩:=bF f;have b:decide (((i+1:Nat):Int)>=(l.length:Int))=false:=Ob (by omega);have n:w64 (((i+1:Nat):Int)+1)=((i+1+1:Nat):Int):=Hl c (by unfold big;omega);simp only[Km c,zU,e,ze,Aa,Ha,n,Bj];cases p:s.kind==13 with
  |false=>
   simp only[Ja,zh,b,Cb,zU,e,Aa,bne]
   grind
  |true=>
   simp only[Ha,zh];cases r with
   |nil=> have k:=aF d (by omega);simp_all
   |cons u r=>
    obtain⟨t,j,q⟩:=bF d;have g:decide (((i+1+1:Nat):Int)>=(l.length:Int))=false:=Ob (by omega);simp only[g,Cb,zU,j,Aa,Ja,bne]
    grind
theorem LV{l:List zb}{i:Nat}(hi:i<l.length)(d:Bool)(A B:Option (LO Int Unit Int)):
  (ze (zu (!(((i+1:Nat):Int)==(l.length:Int))&&d) (geti l ((i+1:Nat):Int)) (default:zb)) fun a=>bif bif d then bif ((i+1:Nat):Int)==(l.length:Int)then true else a.kind != 13 else false then A else B)=bif !d||kg (l.drop (i+1))then B else A:=by
 cases d with
 |false=>simp_all
 |true=>
  cases c:l.drop (i+1)with
  |nil=> have h:=aF c (by omega);have b:(((i+1:Nat):Int)==(l.length:Int))=true:=Sa.2 (by omega);simp only[b,Lb,Lc,ZX,ze,Aa,Ha,kg,Bool.or_self,Ja]
  |cons s r=>
   obtain⟨f,e,g⟩:=bF c;have b:(((i+1:Nat):Int)==(l.length:Int))=false:=Da.2 (by omega);simp only[b,Cb,Nb,zU,e,ze,Aa,Ha,kg,Ja,Lb,xc,bne]
   grind
theorem RS(b:Bool)(t u:zb)(p:zb->Bool):(bif b then p (bif b then t else u)else false)=(b&&p t):=by cases b<;>rfl
theorem N7(k:Dy){l:List zb}(h: ∀t∈l,t.text.length<=big/\t.unit.length<=big):ym l=some (gluS l):=by
 unfold ym gluS;rw[JN];cases e:decide (l.length<=1500)with
 |false=>rfl
 |true=>
  have e:=jb e;simp only[Lb,Ja,Ha];refine(YN l.length (Nl l) 8 (fun i a=> ?_) ?_).trans ?_
  ·obtain⟨g,p⟩:=h _ (Gf a);have d:l.getD i default=l[i]:=by simp[a]
   have f:=Eb a;have q:w64 ((i:Int)+1)=((i+1:Nat):Int):=Hl a (by unfold big;omega);have m:w64 (((i+1:Nat):Int)+1)=((i+2:Nat):Int):=Hl (n:=i+2) (by omega) (by unfold big;omega);unfold Nl;rw[f,d];simp only[Km a,Ha,lh a,ze,Aa,cZ k g p,q];cases s:mf l[i]with
   |false=>rfl
   |true=>
    simp only[Lb,Ja,QF,Aa,Nb];have j:=vT a e;have o:=LV a (l[i].kind==9&&l[i].text==[92]) (some (LO.ret 8)) (some (LO.again ((i+1:Nat):Int)));simp only[ze]at j o;have b:(bif l[i].kind==2 then bif l[i].kind==2 then lowS (bif l[i].kind==2 then l[i]else default).text==[117,114,108]else default else false)=Ag l[i]:=by unfold Ag;cases l[i].kind==2<;>rfl
    have r:(zu (l[i].kind==2) (qW ((bif l[i].kind==2 then l[i]else default).text,[117,114,108])) (default:Bool))=some (bif l[i].kind==2 then lowS (bif l[i].kind==2 then l[i]else default).text==[117,114,108]else default):=by
     cases u:l[i].kind==2 with
     |false=>rfl
     |true=> show qW (l[i].text,[117,114,108])=some (lowS l[i].text==[117,114,108]);rw[jV g (by decide),Ot]
    have c:(bif l[i].kind==9 then(bif l[i].kind==9 then l[i]else default).text==[92]else false)=(l[i].kind==9&&l[i].text==[92]):=RS (l[i].kind==9) l[i] default fun t=>t.text==[92];simp only[r,Aa,b,c,j,okAt];cases Ag l[i]with
    |false=>
     simp only[Ja,zh,Cb,Ee,Vb]
     grind
    |true=>
     simp only[Ha,Lb,xc];cases Bj (l.drop (i+1))with
     |false=>simp_all
     |true=>
      simp only[Ha,zh,Vb]
      grind
  ·grind
  grind
theorem gG{l:List zb}(h: ∀t∈l,t.text.length<=big/\t.unit.length<=big):ym l=some (gluS l):=N7 M7 h
set_option maxRecDepth 100000
theorem Iq{w:Str}{l:List zb}(h:(l.all fun t=>decide (t.text.length<=5000)&&decide (t.unit.length<=5000))=true)(b:gluS l=0)(c:wrS l=w)(d:w.length<=4000):zW (w,l)=some true:=by
 unfold zW;have a: ∀t∈l,t.text.length<=5000/\t.unit.length<=5000:=fun t e=>by
  grind
 simp only[ze];rw[GL a,Ea b,c,Fa (by omega)]
 grind
theorem si:Gn ()=some true:=by unfold Gn Yq;simp only[ze,Aa];rw[Iq (by decide+kernel) (by decide+kernel) (by decide+kernel) (by decide)];simp only[Aa,zU,Ha];rw[Iq (by decide+kernel) (by decide+kernel) (by decide+kernel) (by decide)];simp only[Aa,zU,Ha];rw[Iq (by decide+kernel) (by decide+kernel) (by decide+kernel) (by decide)];simp only[Aa,zU,Ha];rw[Iq (by decide+kernel) (by decide+kernel) (by decide+kernel) (by decide)];simp only[Aa,zU,Ha];rw[Iq (by decide+kernel) (by decide+kernel) (by decide+kernel) (by decide)];simp only[Aa,zU,Ha];rw[Iq (by decide+kernel) (by decide+kernel) (by decide+kernel) (by decide)];simp only[Aa,zU,Ha]
theorem Uv: ∀(n:Nat) {ts r:List zb} {b:Str} {st:List (List zb×Str)},Xh r->Syn b ts st->r.length<=n-> ∃st',Syn (wrF n ts b r) (ts++r) st'
 |0,ts,r,b,st,_,hs,hn=>by
  have:r=[]:=Kc.1 (by omega);subst this;rw[wrF,Xa]
  grind
 |n+1,ts,[],b,st,_,hs,_=>by
  rw[wrF,Xa]
  grind
 |n+1,ts,t::r,b,st,hr,hs,hn=>by
  obtain⟨hk,hpc⟩:=Yw hr;have hk0:=Jm (t:=t) (r:=r);rw[Ey rfl rfl];have hd:(t::r)=(t::r).take (pcN (t::r))++(t::r).drop (pcN (t::r)):=(Td _ _).symm;have hl:((t::r).drop (pcN (t::r))).length<=n:=by rw[ja];omega
  have hro:=Vu hr (pcN (t::r));generalize (t::r).take (pcN (t::r))=P at*;generalize (t::r).drop (pcN (t::r))=Q at*;cases hc:Xf (zV (b++pcS P)) (ts++P)with
  |true=>
   rw[Ea rfl];obtain⟨st',h'⟩:=Uv n hro (.no b (pcS P) ts P st hs hpc (qh.1 hc)) hl
   grind
  |false=>
   rw[Fa (by decide)];have hb:b≠[]:=by rintro rfl;have h0:=(Kj hs).tok;rw[ZE (zM rfl)]at h0;rw[<-h0,Ya,Ya,Xi hpc,qh.2 rfl]at hc;cases hc
   obtain⟨st',h'⟩:=Uv n hro (.cmt b (pcS P) ts P st hs hb hpc) hl
   grind
theorem wW{x:List zb}(h:Xh x):zV (wrS x)=x/\clB (wrS x)=true:=by obtain⟨b,a⟩:=Uv x.length h .nil (Va _);rw[Ya]at a;exact⟨(Kj a).tok,DI a⟩
theorem AY {S X R:Type} {step:S->Option (LO S X R)} {k:X->Option R} (Inv:S->Prop) (c:S->Nat) (Q:R->Prop)
  (h: ∀s,Inv s->(∃s',step s=some (.again s')/\Inv s'/\c s'<c s)\/(∃x y,step s=some (.out x)/\k x=some y/\Q y)\/(∃y,step s=some (.ret y)/\Q y)) {s:S} (e:Inv s): ∃y,ZP step s k=some y/\Q y:=by
 have d: ∀(m:Nat) (s:S),c s<m->Inv s-> ∃(r:LX X R) (y:R),QH step m s=some r/\r.go k=some y/\Q y:=by
  intro m
  induction m with
  |zero=>intro s h;omega
  |succ m i=>
   intro s g e;simp only[QH];rcases h s e with⟨s',a,b,f⟩|⟨x,y,a,b,f⟩|⟨y,a,b⟩
   ·grind
   ·simp_all
   simp_all
 obtain⟨r,y,a,b,f⟩:=d (c s+1) s (by omega) e;exact⟨y,by rw[gm (jm a)];exact b,f⟩
def Kh(x:List zb)(n:Nat):Prop:= ∀t∈x,t.text.length+t.unit.length<=n
theorem yU{x:List zb}(h:Kh x 1000000000)(hl:x.length<=big): ∃g,vz x=some g/\(g=false->Kh x 1000/\x.length<=1510):=by
 have hbig:big=4194304:=rfl;unfold vz;by_cases h1:(x.length>100/\x.length<=1500)\/x.length>1510
 ·have:(bif bif decide ((x.length:Int)>100)then decide ((x.length:Int)<=1500)else false then true else decide ((x.length:Int)>1510))=true:=by
   rcases h1 with⟨a,b⟩|a
   ·grind
   ·grind
  rw[this,Ha]
  grind
 ·have:(bif bif decide ((x.length:Int)>100)then decide ((x.length:Int)<=1500)else false then true else decide ((x.length:Int)>1510))=false:=by
   rw[Ob (show¬(x.length:Int)>1510 by omega)];by_cases a:x.length>100
   ·grind
   ·grind
  rw[this,Ja];refine AY (fun s=> ∃(i n:Nat),s=((n:Int),(i:Int))/\i<=x.length/\n<=1000/\Kh (x.take i) 1000) (fun s=>x.length - s.2.toNat) (fun g=>g=false->Kh x 1000/\x.length<=1510) ?_ ⟨0,0,rfl,by omega,by omega,fun t ht=>by cases ht⟩;rintro _ ⟨i,n,rfl,hi,hn,hlt⟩;simp only[ze];rcases ic i x.length with hh|hh
  ·have hb:=h x[i] (Gf hh);have e1:decide ((i:Int)<(x.length:Int))=true:=La (by omega);have e2:w64 ((n:Int)+w64 ((x[i].text.length:Int)+(x[i].unit.length:Int)))=((n+(x[i].text.length+x[i].unit.length):Nat):Int):=by rw[zZ (n:=(x[i].text.length:Int)+(x[i].unit.length:Int)) (by omega) (by omega),zZ (by omega) (by omega)];omega
   simp only[e1,Ha,lh hh,Aa,e2];by_cases hbig2:n+(x[i].text.length+x[i].unit.length)>1000
   ·rw[La (by omega),Ha]
    grind
   ·rw[Ob (by omega),Ja];refine .inl ⟨_,rfl,⟨i+1,n+(x[i].text.length+x[i].unit.length),by rw[zZ (by omega) (by omega)];rfl,by omega,by omega,?_⟩,by simp only;rw[zZ (by omega) (by omega)];omega⟩;rw[Ve hh];intro t ht;rcases Tc.1 ht with ht|ht
    ·exact hlt t ht
    grind
  ·have:i=x.length:=by omega
   simp_all
theorem rest_of{x:List zb}(c:gluS x=0)(h:Kh x 1000):Xh x:=by obtain⟨_,d,b⟩:=iy c;exact⟨fun t a=>⟨d t a,by have:=h t a;omega,by have:=h t a;omega⟩,b⟩
theorem jJ{x:List zb}(b:gluS x=0)(h:Kh x 1000):QG x=some (if 4000<(wrS x).length then([],28)else(wrS x,0)):=by rw[GL (fun t a=>by have:=h t a;omega),Ea b]
theorem OD{x:List zb}{n:Nat}(h:Kh x n)(b:n<=big): ∀t∈x,t.text.length<=big/\t.unit.length<=big:=fun t a=>by have:=h t a;omega
theorem kJ: ∀(n m:Nat) (ts:List zb) (b:Str) (r:List zb),r.length<=n->r.length<=m->wrF n ts b r=wrF m ts b r
 |0,0,_,_,_,_,_=>rfl
 |0,_+1,_,_,[],_,_=>by rw[wrF,wrF]
 |_+1,0,_,_,[],_,_=>by rw[wrF,wrF]
 |_+1,_+1,_,_,[],_,_=>by rw[wrF,wrF]
 |0,_+1,_,_,_::_,h,_=>absurd h (by simp)
 |_+1,0,_,_,_::_,_,h=>absurd h (by simp)
 |n+1,m+1,ts,b,t::r,h,h'=>by rw[wrF,wrF];have:=Jm (t:=t) (r:=r);exact kJ n m _ _ _ (by rw[ja,Ka]at *; omega) (by rw[ja,Ka]at *; omega)
theorem GR{t:zb}{r l:List zb}(ho:okAt (t::r)=true):pcN (t::(r++l))=pcN (t::r)/\pcN (t::r)<=(t::r).length:=by
 rw[kF,Ba]at ho;rw[Tm,Tm];cases hd:(t.kind==9&&t.text==[92])with
 |true=>
  rw[hd,Lb,xc]at ho;rw[Ea rfl,Ea rfl];cases r with
  |nil=>exact absurd ho.1 (by decide)
  |cons s r=>exact⟨rfl,by simp⟩
 |false=>
  simp only[Bc,Fe];cases hu:Ag t with
  |false=>simp
  |true=>
   simp only[Pd];rw[hu,Lb,xc]at ho;have ho2:=ho.2;cases r with
   |nil=>cases ho2
   |cons s r=>
    rw[show kg (s::r++l)=kg (s::(r++l))from rfl,show kg (s::(r++l))=kg (s::r)from rfl];refine⟨rfl,?_⟩;rw[ou]at ho2;have hn:kg (s::r)=(s.kind==13):=rfl;rw[hn];cases hs:s.kind==13 with
    |false=>rw[Fa (by decide)];simp
    |true=>
     rw[Ea rfl];rw[hs,Ha]at ho2;cases r with
     |nil=>cases ho2
     |cons u r=>simp
theorem jI: ∀(n:Nat) (x y:List zb) (ts:List zb) (b:Str),x.length<=n->(∀k,k<x.length->okAt (x.drop k)=true)->
  ∀m,x.length+y.length<=m->wrF m ts b (x++y)=wrF y.length (ts++x) (wrF n ts b x) y
 |n,[],y,ts,b,_,_,m,hm=>by
  have:wrF n ts b []=b:=by cases n<;>rw[wrF]
  rw[this,Ya,Xa];exact kJ _ _ _ _ _ (by rw[Gc]at hm;omega) (Va _)
 |0,_::_,_,_,_,h,_,_,_=>absurd h (by simp)
 |n+1,t::r,y,ts,b,h,ho,m,hm=>by obtain⟨h1,h2⟩:=GR (l:=y) (ho 0 (by simp));have hp:=Jm (t:=t) (r:=r);obtain⟨m,rfl⟩: ∃k,m=k+1:=⟨m - 1,by rw[Ka]at hm;omega⟩;rw[Ta,wrF,wrF,h1];rw[show t::(r++y)=(t::r)++y from rfl,List.take_append_of_le_length h2,List.drop_append_of_le_length h2];have hl:((t::r).drop (pcN (t::r))).length=(t::r).length - pcN (t::r):=ja ..;rw[Ka]at*;rw[jI n ((t::r).drop (pcN (t::r))) y _ _ (by omega) (fun k hk=>by rw[Je];exact ho _ (by rw[hl]at hk;omega)) m (by omega)];rw[Ia,Td]
theorem JD: ∀(n:Nat) {ts r:List zb} {b:Str} {st:List (List zb×Str)},Xh r->Syn b ts st->r.length<=n-> ∃e,Syn (wrF n ts b r) (ts++r) (st++e)
 |0,ts,r,b,st,_,hs,hn=>by have:r=[]:=Kc.1 (by omega);subst this;rw[wrF,Xa];exact⟨[],by rw[Xa];exact hs⟩
 |n+1,ts,[],b,st,_,hs,_=>by rw[wrF,Xa];exact⟨[],by rw[Xa];exact hs⟩
 |n+1,ts,t::r,b,st,hr,hs,hn=>by
  obtain⟨hk,hpc⟩:=Yw hr;have hk0:=Jm (t:=t) (r:=r);rw[Ey rfl rfl];have hd:(t::r)=(t::r).take (pcN (t::r))++(t::r).drop (pcN (t::r)):=(Td _ _).symm;have hl:((t::r).drop (pcN (t::r))).length<=n:=by rw[ja];omega
  have hro:=Vu hr (pcN (t::r));generalize (t::r).take (pcN (t::r))=P at*;generalize (t::r).drop (pcN (t::r))=Q at*;cases hc:Xf (zV (b++pcS P)) (ts++P)with
  |true=> rw[Ea rfl];obtain⟨e,h'⟩:=JD n hro (.no b (pcS P) ts P st hs hpc (qh.1 hc)) hl;exact⟨[(ts,b)]++e,by rw[hd,<-Ia,<-Ia];exact h'⟩
  |false=>
   rw[Fa (by decide)];have hb:b≠[]:=by rintro rfl;have h0:=(Kj hs).tok;rw[ZE (zM rfl)]at h0;rw[<-h0,Ya,Ya,Xi hpc,qh.2 rfl]at hc;cases hc
   obtain⟨e,h'⟩:=JD n hro (.cmt b (pcS P) ts P st hs hb hpc) hl;exact⟨[(ts,b++cmtW)]++e,by rw[hd,<-Ia,<-Ia];exact h'⟩
theorem SS{b:Str}{ts L:List zb}{B:Str}{m:Nat}(h:Bd b ts L B m)(ht:zV b=ts): ∃A us,b=B++A/\ts=L++us/\zV A=us/\([47,42]:Str).isPrefixOf A=false:=by
 obtain⟨A,R,us,h1,_,h3,_,h5,h6,_,_⟩:=h;refine⟨A,us,h1,h3,?_,?_⟩
 rotate_left
 ·rcases h6 with h6|⟨d,y,_,rfl,_⟩
  ·rw[<-h6];exact Al R
  ·rfl
 have h7:=Q9 h5;rw[ht,h3,List.append_cancel_left_eq]at h7;rw[h7,Tx h6]
theorem oJ{α:Type}{st e:List α}{a:α}(h:st.length<(st++[a]++e).length):(st++[a]++e)[st.length]=a:=by simp
def Gv(t:zb):Prop:=t.kind=5\/t.kind=7\/t=⟨9,[42],0,[],false⟩
theorem nC{s x:Str}{t:zb}(hs:s≠[])(hc:cmtS (s++x)=s++x)(h:zt (s++x)=(t,x)):run (s++x) [t] x:=by
 obtain⟨c,r,e⟩:=Za (show s++x≠[] by intro e;exact hs (Jc.1 e).1);refine⟨c,r,hc.trans e,?_,?_⟩
 ·rw[<-e,h]
 ·rw[<-e,h];rfl
theorem MU{s:Str}{P:List zb}(h:PcT s P)(hk: ∃t∈P,Gv t)(x:Str):run (s++x) P x/\atS s 0≠47/\digB (atS s 0)=false/\(4<=s.length\/ ∃d s',mkB d=true/\s=d::s'):=by
 obtain⟨t,ht,hk⟩:=hk;cases h with
 |one t' h hb hu=>
  rw[Sb]at ht;subst ht;unfold Gv at hk;cases h with
  |cStr l h=>
   rw[Oi];refine⟨nC (by simp) (zM rfl) (Gu h x),?_,?_, .inr ⟨34,_,rfl,rfl⟩⟩
   ·show(34:UInt8)≠47;decide
   ·show digB 34=false;decide
  |cUrl l h=>
   rw[Ij];refine⟨nC (by simp) (zM rfl) (Gy h x),?_,?_, .inl ?_⟩
   ·show(117:UInt8)≠47;decide
   ·show digB 117=false;decide
   ·simp only[Ga,Ka,Gc];omega
  |cDel c h=>
   rcases hk with hk|hk|hk
   ·cases hk
   ·cases hk
   ·injection hk with _ hk _ _ _;injection hk with hk _;subst hk;rw[Ci];exact⟨⟨42,x,zM rfl,rfl,rfl⟩,by decide,by decide, .inr ⟨42,[],rfl,rfl⟩⟩
  |cId=>simp at hk
  |cFn=>simp at hk
  |cAt=>simp at hk
  |cHash=>simp at hk
  |cNum=>simp at hk
  |cPct=>simp at hk
  |cDim=>simp at hk
  |cMark k h1 h2=>
   exfalso;rcases hk with hk|hk|hk
   ·simp only at hk;omega
   ·simp only at hk;omega
   ·injection hk with hk _;omega
 |back=>
  exfalso;unfold Gv at hk;rcases Bb.1 ht with rfl|ht
  ·simp at hk
  ·rw[Sb]at ht;subst ht;simp at hk
 |url l m b h hl hm=>
  have hn:=Dj (bn (Jo hl) ((if b then [32]else [])++34::(encB quoB m++[34])));refine⟨Et h hl hm x,fun e=> ?_,?_, .inl ?_⟩
  ·rw[e]at hn;exact absurd hn (by decide)
  ·exact(Oo hn).2.2.2.2.2.2.2.2.2.1
  ·have:=Ib.2 (Ai (ai (Jo hl)));simp only[Ga,Ka,Gc];omega
theorem zA2{R:Str}(h:cmtS R≠R)(hn:cmtS R≠[]):4<=R.length:=by
 rw[qE]at h hn;cases hp:([47,42]:Str).isPrefixOf R with
 |false=>rw[hp,Fa (by decide)]at h;exact absurd rfl h
 |true=>
  rw[hp,Ea rfl]at hn;have hl:=Wi hp;rw[show([47,42]:Str).length=2 from rfl]at hl;cases hc:clsS (R.drop 2)with
  |none=>rw[hc]at hn;exact absurd rfl hn
  |some r=> have:=(Jh _ hc).2;rw[ja]at this;omega
theorem ED{b s B:Str}{ts P:List zb}{m:Nat}(hb:Bd b (ts++P) ts B m)(e:b=B++s)(hp:PcT s P)(hk: ∃t∈P,Gv t){s2:Str}{P2:List zb}(h2:PcT s2 P2):zV (b++s2)=(ts++P)++P2:=by
 obtain⟨A,R,us,h1,hA,hus,_,h5,h6,_,_⟩:=hb;have eA:A=s:=Ke (h1.symm.trans e);subst eA;obtain⟨k1,k2,k3,k4⟩:=MU hp hk s2;have hR:cmtS R=A:=by
  rcases h6 with h6|⟨d,y,hd,hs,_⟩
  ·exact h6
  ·rw[hs]at k3;exact absurd k3 (by show¬digB 48=false;decide)
 have hrun:run (b++s2) ts (R++s2):=by
  by_cases h4:4<=R.length
  ·exact oC s2 h5 h4
  ·have hRR:cmtS R=R:=Cc fun h=>h4 (zA2 h (by rw[hR];exact hA));rw[hR]at hRR;subst hRR;rcases k4 with k4|⟨d,s',hd,rfl⟩
   ·exact absurd k4 h4
   ·exact PI hd s2 h5
 have hcm:cmtS (R++s2)=A++s2:=by rw[Sj (by rw[hR];exact hA),hR];rw[hR];obtain⟨c,r,ec⟩:=Za hA;rw[ec]at k2 ⊢;exact Cw (Da.2 k2)
 rw[Q9 hrun,<-ql (R++s2),hcm,Q9 k1,Xi h2,Ia]
def FP(s A:Str)(r2:List zb)(L:List Cmt):Prop:= ∃A2 L2,Can A2 r2 L2/\((A=s++A2/\L=L2)\/A=s++(cmtW++A2))
theorem FI: ∀(n:Nat) {ts r:List zb} {b:Str} {st:List (List zb×Str)},Xh r->Syn b ts st->r.length<=n->
  ∃E,wrF n ts b r=b++E/\((r=[]/\E=[])\/ ∃A L,Can A r L/\A≠[]/\(E=A\/(E=cmtW++A/\ ∃s2 P2 r2,PcT s2 P2/\r=P2++r2/\FP s2 A r2 L/\zV (b++s2)≠ts++P2)))
 |n,ts,[],b,st,_,_,_=>⟨[],by rw[Xa];cases n<;>rw[wrF], .inl ⟨rfl,rfl⟩⟩
 |0,ts,t::r,b,st,_,_,hn=>absurd hn (by simp)
 |n+1,ts,t::r,b,st,hr,hs,hn=>by
  obtain⟨hk,hpc⟩:=Yw hr;have hk0:=Jm (t:=t) (r:=r);rw[Ey rfl rfl];have hd:(t::r)=(t::r).take (pcN (t::r))++(t::r).drop (pcN (t::r)):=(Td _ _).symm;have hl:((t::r).drop (pcN (t::r))).length<=n:=by rw[ja];omega
  have hro:=Vu hr (pcN (t::r));generalize (t::r).take (pcN (t::r))=P at*;generalize (t::r).drop (pcN (t::r))=Q at*;have step: ∀B:Str,Syn (B++pcS P) (ts++P) (st++[(ts,B)])-> ∃E L,wrF n (ts++P) (B++pcS P) Q=B++E/\Can E (P++Q) L/\E≠[]/\FP (pcS P) E Q L:=fun B hs'=>by
   obtain⟨E',e1,hE⟩:=FI n hro hs' hl;obtain⟨e,hfin⟩:=JD n hro hs' hl;rw[e1]at hfin;have hok:=Kj hfin;have hbd:=hok.bd st.length (by simp);rw[oJ]at hbd;obtain⟨A,us,k1,k2,k3,k4⟩:=SS hbd hok.tok;simp only at k1 k2;have kA:pcS P++E'=A:=Ke ((Ia B (pcS P) E').symm.trans k1);have kU:P++Q=us:=Ke ((Ia ts P Q).symm.trans k2);rw[<-kA]at k3 k4;rw[<-kU]at k3;have hEq:wrF n (ts++P) (B++pcS P) Q=B++(pcS P++E'):=by rw[e1,Ia]
   have hne:pcS P++E'≠[]:=fun e=>Qz hpc (Jc.1 e).1;rcases hE with⟨hQ,hE'⟩|⟨A',L,hA',hne',hE⟩
   ·subst hQ hE';exact⟨_,[],hEq, .no (pcS P) [] P [] [] hpc .nil k3 k4,hne,[],[], .nil, .inl ⟨rfl,rfl⟩⟩
   ·rcases hE with hE|⟨hE,s2,P2,r2,hs2,_,_,hneed⟩
    ·subst hE;exact⟨_,L,hEq, .no (pcS P) E' P Q L hpc hA' k3 k4,hne,E',L,hA', .inl ⟨rfl,rfl⟩⟩
    ·subst hE;refine⟨_,_,hEq, .cmt (pcS P) A' P Q L hpc hA' hne' (fun t ht=> ?_),hne,A',L,hA', .inr rfl⟩;have hok2:=Kj hs';have hbd2:=hok2.bd st.length (by simp);have hm2:=oJ (st:=st) (e:=[]) (a:=(ts,B)) (by simp);simp only[Xa]at hm2;rw[hm2]at hbd2;refine⟨fun h=>hneed (ED hbd2 rfl hpc ⟨t,ht, .inl h⟩ hs2),fun h=>hneed (ED hbd2 rfl hpc ⟨t,ht, .inr (.inl h)⟩ hs2),fun h=>hneed (ED hbd2 rfl hpc ⟨t,ht, .inr (.inr h)⟩ hs2)⟩
  cases hc:Xf (zV (b++pcS P)) (ts++P)with
  |true=> rw[Ea rfl];obtain⟨E,L,e,hC,hne,_⟩:=step b (.no b (pcS P) ts P st hs hpc (qh.1 hc));exact⟨E,e, .inr ⟨E,L,by rw[hd];exact hC,hne, .inl rfl⟩⟩
  |false=>
   rw[Fa (by decide)];have hb:b≠[]:=by rintro rfl;have h0:=(Kj hs).tok;rw[ZE (zM rfl)]at h0;rw[<-h0,Ya,Ya,Xi hpc,qh.2 rfl]at hc;cases hc
   obtain⟨E,L,e,hC,hne,hF⟩:=step (b++cmtW) (.cmt b (pcS P) ts P st hs hb hpc);refine⟨cmtW++E,by rw[e,Ia], .inr ⟨E,L,by rw[hd];exact hC,hne, .inr ⟨rfl,pcS P,P,Q,hpc,hd,hF,fun h=> ?_⟩⟩⟩;rw[qh.2 h]at hc;cases hc
theorem Ky{s E:Str}(hs:s≠[])(hE:atS E 0≠10)(h:zg (s++E)=([],s++E)):zg s=([],s):=by
 obtain⟨a,t,rfl⟩:=Za hs;rw[Ta,zI]at h;rw[zI];cases hl:letB a with
 |true=>rw[hl,Ea rfl]at h;cases h
 |false=>
  rw[hl,Fa (by decide)]at h;rw[Fa (by decide)];cases he:escS (a::t)with
  |false=>rw[Fa (by decide)]
  |true=> exfalso;have:=IK (x:=E) he hE;rw[show(a::t)++E=a::(t++E)from rfl]at this;rw[this,Ea rfl]at h;have h1:=congrArg Prod.fst h;exact JG _ (Jc.1 h1).1
theorem Pz{p:UInt8->Bool}{s E:Str}(hs:s≠[])(h:past p (s++E)=s++E):past p s=s:=by
 obtain⟨a,t,rfl⟩:=Za hs;rw[Ta,past]at h;rw[past];cases hp:p a with
 |false=>rfl
 |true=> rw[hp,Ea rfl]at h;have:=congrArg List.length h;have h2:=(qB p (t++E)).length_le;rw[Ka]at this;omega
theorem xV(l:Str):(zx l).1.length<=l.length:=by
 unfold zx;split
 ·have:=(qB digB (l.drop 1)).length_le;rw[ja]at this;show(past digB (l.drop 1)).length<=_;omega
 ·exact Va _
theorem mh{l r:Str}(h:expS l=some r):r.length<l.length:=by
 obtain⟨h1,_,rfl⟩:=Aj h;cases l with
 |nil=>rcases h1 with h1|h1<;>exact absurd h1 (by decide)
 |cons c t=>
  have h2:=(qB digB (unsign t)).length_le;have h3:(unsign t).length<=t.length:=by
   unfold unsign;split
   ·rw[ja];omega
   ·exact Va _
  show(past digB (unsign t)).length<_;rw[Ka];omega
theorem rT{l:Str}(h:zx l≠(l,true)):(zx l).1.length<l.length:=by obtain⟨d,y,hd,rfl,e⟩:=Tz h;rw[e];have:=(qB digB (d::y)).length_le;show(past digB (d::y)).length<(46::d::y).length;rw[show(46::d::y).length=(d::y).length+1 from rfl];omega
theorem bI{a b:Str}(h:a<:+b)(hl:a.length=b.length):a=b:=List.IsSuffix.eq_of_length h hl
theorem VR{n:Int}{p:Bool}{X:Str}(h:(zo (numT n p++X)).1=X):past digB X=X/\expS X=none/\((partT (n.natAbs%1000) p).isEmpty=true->zx X=(X,true))/\(zo (numT n p++X)).2=(partT (n.natAbs%1000) p).isEmpty:=by
 have hp:=(qB digB X).length_le;cases he:(partT (n.natAbs%1000) p).isEmpty with
 |true=>
  rw[bi he]at h ⊢;have hwl:=xV (past digB X);cases hexp:expS (zx (past digB X)).1 with
  |some e=> exfalso;rw[hexp]at h;have:=mh hexp;simp only at h;rw[h]at this;omega
  |none=>
   rw[hexp]at h;simp only at h ⊢;have h1:(zx (past digB X)).1.length=X.length:=by rw[h]
   have h2:zx (past digB X)=(past digB X,true):=Cc fun hne=>by have:=rT hne;omega
   rw[h2]at h1 hexp;have h3:=bI (qB digB X) h1;rw[h3]at h2 hexp ⊢;exact⟨rfl,hexp,fun _=>h2,by rw[h2]⟩
 |false=>
  rw[Ti he]at h ⊢;cases hexp:expS (past digB X)with
  |some e=> exfalso;rw[hexp]at h;have:=mh hexp;simp only at h;rw[h]at this;omega
  |none=> rw[hexp]at h;simp only at h ⊢;rw[h]at hexp ⊢;exact⟨rfl,hexp,fun h=>(by cases h),trivial⟩
theorem OY{s E:Str}(h:zx (s++E)=(s++E,true)):zx s=(s,true):=Cc fun hne=>by
 obtain⟨d,y,hd,rfl,_⟩:=Tz hne;have:zx (46::d::(y++E))=(past digB (d::(y++E)),false):=by unfold zx;rw[show atS (46::d::(y++E)) 1=d from rfl,hd];rfl
 rw[show(46::d::y)++E=46::d::(y++E)from rfl,this]at h;injection h with _ h;cases h
theorem IV{s E:Str}(h:expS (s++E)=none):expS s=none:=by
 cases hs:expS s with
 |none=>rfl
 |some e=> obtain⟨e',he⟩:=EK E hs;rw[he]at h;cases h
theorem wI{n:Int}{p:Bool}{z s E:Str}(hz:z++s≠[])(h:(zo (numT n p++(z++(s++E)))).1=z++(s++E)):zo (numT n p++(z++s))=(z++s,(partT (n.natAbs%1000) p).isEmpty):=by
 rw[<-Ia z s E]at h;obtain⟨k1,k2,k3,_⟩:=VR h;have p1:=Pz hz k1;have p2:=IV k2;cases he:(partT (n.natAbs%1000) p).isEmpty with
 |true=>rw[bi he,p1,OY (k3 he)];simp only[p2]
 |false=>rw[Ti he,p1];simp only[p2]
theorem lH{q X:Str}{t:zb}(h:zk q=(t,X))(hk:t.kind=10):X=(zo q).1/\t.flag=(zo q).2:=by have:=Wx (l:=q) (by rw[h];exact hk);rw[h]at this;exact this
theorem WQ{q X:Str}{t:zb}(h:zk q=(t,X))(hk:t.kind=12):X=(zg (zo q).1).2/\t.unit=(zg (zo q).1).1/\t.flag=(zo q).2:=by have:=DD (l:=q) (by rw[h];exact hk);rw[h]at this;exact this
theorem mQ{q X:Str}{t:zb}(h:zk q=(t,X))(hk:t.kind=10):nmS X=false/\(atS X 0==37)=false:=by
 obtain⟨k1,_⟩:=lH h hk;have hk:=hk;rw[show t=(zk q).1 by rw[h]]at hk;unfold zk at hk;rw[<-k1]at hk;constructor
 ·cases hq:nmS X with
  |false=>rfl
  |true=>rw[hq,Ea rfl]at hk;cases hk
 ·cases hq:(atS X 0==37)with
  |false=>rfl
  |true=>
   rw[hq]at hk;split at hk
   ·cases hk
   ·rw[Ea rfl]at hk;cases hk
theorem IQ{t:zb}(h:Qc t)(hb: ¬(t.kind=9/\t.text=[92]))(hu:Ag t=false){s E:Str}(hs:s≠[])(h10:atS s 0≠10)(hE:atS E 0≠10)(hl:zt (txS t++(s++E))=(t,s++E)):zt (txS t++s)=(t,s):=by
 have hX:s++E≠[]:=fun e=>hs (Jc.1 e).1;obtain⟨c,r,ev⟩:=Za (Qz (.one t h hb hu))
 -- the case is the same
 have hb0:brS c r=brK t.kind:=by have:=JJ h hb hu (x:=[]) (.inl rfl);rw[Xa,ev]at this;rw[<-Qu,this]
 have hbl:brS c (r++(s++E))=brK t.kind:=by rw[<-Qu];rw[ev]at hl;rw[show c::(r++(s++E))=(c::r)++(s++E)from rfl,hl]
 have hbs:brS c (r++s)=brK t.kind:=by rw[KI (hbl.trans hb0.symm) h10 hE,hb0]
 have hlong:nxB (brK t.kind) c (r++(s++E))=(t,s++E):=by rw[ev,Ta,Zh,hbl]at hl;exact hl
 have goal:nxB (brK t.kind) c (r++s)=(t,s)->zt (txS t++s)=(t,s):=fun hg=>by rw[ev,Ta,Zh,hbs];exact hg
 have h40:(atS (s++E) 0==40)=(atS s 0==40):=by rw[Ay E hs]
 cases h with
 |cId l h0 h=>
  refine goal ?_;rw[sj]at ev;rw[show brK (⟨1,l,0,[],false⟩:zb).kind=7 from rfl,Mh,<-Ta,<-ev]at hlong ⊢;unfold ZO at hlong ⊢;rw[Ql _ h]at hlong ⊢;simp only at hlong ⊢;cases hq:atS (zg (s++E)).2 0==40 with
  |true=>
   exfalso;rw[hq,Ea rfl]at hlong;have hk:=congrArg (fun z:zb×Str=>z.1.kind) hlong;simp only at hk;split at hk
   ·rcases Hy (urlS (past spB ((zg (s++E)).2.drop 1))).1 with k|k<;>rw[k]at hk<;>cases hk
   ·cases hk
  |false=> rw[hq,Fa (by decide)]at hlong;have h2:=congrArg Prod.snd hlong;have h1:=congrArg (fun z:zb×Str=>z.1.text) hlong;simp only at h1 h2;have hn:zg (s++E)=([],s++E):=Hf (gu h1) h2;rw[hn]at hq;have hq':(atS s 0==40)=false:=h40.symm.trans hq;rw[Ky hs hE hn];simp only;rw[hq',Fa (by decide),Xa]
 |cFn l h0 h=>
  rw[Li];exact gD h0 h (by
   unfold Ag at hu;simpa using hu) s
 |cAt l h0 h=> refine goal ?_;rw[uj]at ev;injection ev with ec er;subst ec er;rw[show brK (⟨3,l,0,[],false⟩:zb).kind=6 from rfl,Xn,Ql _ h]at hlong ⊢;have h2:=congrArg Prod.snd hlong;have h1:=congrArg (fun z:zb×Str=>z.1.text) hlong;simp only at h1 h2;have hn:zg (s++E)=([],s++E):=Hf (gu h1) h2;rw[Ky hs hE hn];simp only[Xa]
 |cHash l f h0 h hbb=>
  refine goal ?_;rw[ek]at ev;injection ev with ec er;subst ec er;rw[show brK (⟨4,l,0,[],f⟩:zb).kind=2 from rfl,Jk,yF h]at hlong ⊢;have h2:=congrArg Prod.snd hlong;have h1:=congrArg (fun z:zb×Str=>z.1.text) hlong;have h3:=congrArg (fun z:zb×Str=>z.1.flag) hlong;simp only at h1 h2 h3;have hn:zg (s++E)=([],s++E):=Hf (gu h1) h2;have hf:nmS (Gg f l++s)=f:=by
   obtain⟨_,q1,q2⟩:=oL (f:=f) h0 h hbb;cases f with
   |true=>exact jh (q1 rfl) h10
   |false=>
    cases hq:nmS (Gg false l++s)with
    |false=>rfl
    |true=> have:=jh (z:=E) hq hE;rw[Ia,h3]at this;cases this
  rw[Ky hs hE hn,hf];simp only[Xa]
 |cStr l h=>rw[Oi];exact Gu h s
 |cUrl l h=>rw[Ij];exact Gy h s
 |cDel d h=> refine goal ?_;rw[Ci]at ev;injection ev with ec er;subst ec er;rfl
 |cNum n f h1 h2 hf=>
  refine goal ?_;rw[Bi]at ev;rw[show brK (⟨10,[],n,[],f⟩:zb).kind=3 from rfl,Mg,<-Ta,<-ev]at hlong ⊢;obtain⟨k1,k2⟩:=lH hlong rfl;obtain⟨kn,k37⟩:=mQ hlong rfl;have ke:=wI (z:=[]) (by rw[Ya];exact hs) (n:=n) (p:= !f) (s:=s) (E:=E) k1.symm;rw[Ya]at ke;rw[Ay E hs]at k37;have kns:nmS s=false:=by
   cases hq:nmS s with
   |false=>rfl
   |true=> have:=jh (z:=E) hq hE;rw[kn]at this;cases this
  unfold zk;rw[ke];simp only;rw[kns,Fa (by decide),k37,Fa (by decide),rq h1 h2 (by rw[ke]),QU hf]
 |cPct n h1 h2=>rw[Pi];exact JE h1 h2 s
 |cDim n u f h1 h2 hf h0 h=>
  refine goal ?_;rw[Ri]at ev;rw[show brK (⟨12,[],n,u,f⟩:zb).kind=3 from rfl,Mg,<-Ta,<-ev,Ia]at hlong;rw[show brK (⟨12,[],n,u,f⟩:zb).kind=3 from rfl,Mg,<-Ta,<-ev,Ia];obtain⟨k1,k2,k3⟩:=WQ hlong rfl;obtain⟨q1,q2⟩:=Tt (Yk h0 h) (s++E);have hexp:expS (Qb u++(s++E))=none:=by
   cases hexp:expS (Qb u++(s++E))with
   |none=>rfl
   |some e=>
    exfalso;have hend:(zo (numT n (!f)++(Qb u++(s++E)))).1=e:=by
     cases he:(partT (n.natAbs%1000) (!f)).isEmpty with
     |true=>rw[bi he,q1,q2];simp only[hexp]
     |false=>rw[Ti he,q1];simp only[hexp]
    have hen:expS (Qb u)=none:=by
     have:=VG h0 h (x:=[]) (.inl rfl)
     rwa [Xa]at this
    have hl1:=gJ (Ai (Yk h0 h)) hen hexp;have hl2:=(QX e).length_le;rw[hend]at k1;rw[<-k1]at hl2;omega
  have hend:(zo (numT n (!f)++(Qb u++(s++E)))).1=Qb u++(s++E):=by rw[Ws q1 q2 hexp]
  have ke:=wI (z:=Qb u) (s:=s) (E:=E) (by intro e;exact hs (Jc.1 e).2) hend;rw[hend,pu h0 h]at k1 k2;have hn:zg (s++E)=([],s++E):=Hf (gu k2.symm) k1.symm;unfold zk;rw[ke];simp only;rw[jh (Yk h0 h) h10,Ea rfl,pu h0 h,Ky hs hE hn,rq h1 h2 (by rw[ke]),QU hf];simp only[Xa]
 |cMark k h1 h2=>
  rw[ak h1 h2]at hl ⊢;rw[mF h1 h2]at hl ⊢;by_cases hk:k=13
  ·rw[Ea hk]at hl ⊢;rw[Pz hs (congrArg Prod.snd hl)]
  ·rw[Fa hk]
theorem TH{X a b:Str}(ha:Us X a)(hb:Us X b)(hl:b.length<=a.length):Us a b:=by
 rcases Nat.le_total (uN b) (uN a)with h|h
 ·exact Vh ha hb h
 ·have h1:=Vh hb ha h;have h2:=Xv h1;have h3:=bI h2 (Nat.le_antisymm h2.length_le hl);rw[h3];exact .refl _
theorem RL{q x:Str}(h:cmtS q≠[]):cmtS (q++x)=cmtS (cmtS q++x):=by
 have hq:=qE q;by_cases hp:([47,42]:Str).isPrefixOf q=true
 ·have hl:=Wi hp;rw[show([47,42]:Str).length=2 from rfl]at hl;rw[Ea hp]at hq;cases hc:clsS (q.drop 2)with
  |none=>rw[hc]at hq;exact absurd hq h
  |some p=>
   rw[hc]at hq;simp only at hq;rw[hq]at h ⊢;rw[qE (q++x),jk x (by exact hl),hp,Ea rfl,Xm hl,Ex x hc];simp only;have h2:p.length<q.length:=by have h2:=(Jh _ hc).2;rw[ja]at h2;omega
   exact RL h
 ·rw[Fa hp]at hq;rw[hq]
termination_by q.length
decreasing_by omega
theorem zAR{b:Str}{ts:List zb}{st:List (List zb×Str)}(h:Syn b ts st):(∃n,Cu b n)/\ ∀t∈ts,Qc t:=by
 induction h with
 |nil=>exact⟨⟨0,Cu.nil⟩,fun t ht=>by cases ht⟩
 |cmt b s ts P st h hb hp ih=> obtain⟨⟨n,h1⟩,h2⟩:=ih;obtain⟨m,h3,_⟩:=mi hp;exact⟨⟨_,(h1.app Wt).app h3⟩,fun t ht=>(Tc.1 ht).elim (h2 t) (Im hp t)⟩
 |no b s ts P st h hp ht0 ih=> obtain⟨⟨n,h1⟩,h2⟩:=ih;obtain⟨m,h3,_⟩:=mi hp;exact⟨⟨_,h1.app h3⟩,fun t ht=>(Tc.1 ht).elim (h2 t) (Im hp t)⟩
theorem kS{p A:Str}{n:Nat}{ts:List zb}{L:List Cmt}(hp:Cu p n)(hA:Can A ts L):Emb (p++A) L:=by obtain⟨_,h2,h3⟩:=hp A;refine⟨h3 (Ui hA),fun C hC=> ?_⟩;obtain⟨⟨x,e⟩,k2,k3⟩:=(Lt hA).2 C hC;exact⟨⟨p++x,by rw[Ia,<-e]⟩,k2,zy h2 k3⟩
theorem aR{c:UInt8}{r:Str}(g:Gd (c::r))(hf:Qc (zt (c::r)).1):Us (c::r) (zt (c::r)).2/\uN (zt (c::r)).2<uN (c::r):=by
 obtain⟨w1,_⟩:=Cm g hf;exact⟨w1,Bh w1 fun e=>by
  have:=(Qs c r).length_le;rw[e,Ka]at this;omega⟩
theorem behind{X A:Str}{l2:List zb}{L:List Cmt}(hX:Us X A)(hA:Can A l2 L){Z:Str}(hz:Us X Z)(hc:cmtS Z=Z)(hpos:Pos L Z)(hT:zV Z=l2)(hn:uN Z+2<=uN A):False:=
 Ps zBb A.length (Va _) hA Z (Vh hX hz (by omega)) hn hc hpos hT
theorem LJ {X A:Str} {l2:List zb} {L:List Cmt} (hE:Emb X L) (hX:Us X A) (hA:Can A l2 L) {c:UInt8} {r:Str} {t:zb} (hz:Us X (c::r)) (hc:cmtS (c::r)=c::r) (hpos:Pos L (c::r)) (hT:zV (c::r)=t::l2)
  (hf:Qc t) (h42:t≠⟨9,[42],0,[],false⟩) (hn:uN (c::r)<uN A):False:=by
 rw[Zb hc]at hT;injection hT with h1 h2;have ho:Out L (c::r):=by
  rcases hpos with h|⟨C,hC,e,_⟩
  ·exact h
  ·exfalso;rw[e]at h1;exact h42 (h1.symm.trans (bL C.A).2)
 have hf':Qc (zt (c::r)).1:=by rw[h1];exact hf
 obtain⟨k1,k2⟩:=Vm hE hz hc ho hf';have g:=qR hz hE.1;obtain⟨w1,hlt⟩:=aR g hf';have hle:=Uf (Ug _ (qR w1 g));exact behind hX hA k1 (ZR _) k2 (by rw[ql];exact h2) (by omega)
theorem KE{A:Str}{l2:List zb}{L:List Cmt}(hA:Can A l2 L){q:Str}(h:A.length<q.length):Out L q:=by
 intro C hC;obtain⟨⟨x,e⟩,_⟩:=Lx hA C hC;have hl:C.A.length+4<=A.length:=by rw[e];simp only[Ga,Ka,Gc];omega
 refine⟨fun e=> ?_,fun e=> ?_,fun e=> ?_⟩<;>(rw[e]at h;simp only[Ka]at h;omega)
theorem TM: ∀{ts us:List zb} {q R x:Str},run q ts R->R≠[]->x≠[]->zV (q++x)=ts++us->run (q++x) ts (R++x)\/
  (R=[43]/\ ∃ts1 t p,ts=ts1++[t]/\run (q++x) ts1 (p++x)/\ ∃c r,cmtS (p++x)=c::(r++x)/\Sr c r x/\(zt (c::(r++x))).1=(zt (c::r)).1/\(zt (c::(r++x))).1=t/\zV (zt (c::(r++x))).2=us)
 |[],us,q,R,x,h,_,_,_=>by rw[run]at h;subst h;exact .inl rfl
 |t::ts,us,q,R,x,h,hl,hx,ht=>by
  obtain⟨c,r,h1,h2,h3⟩:=h;have h4:(zt (c::r)).2≠[]:=by intro e;have:=(Vi h3).length_le;rw[e]at this;exact hl (Kc.1 (by simpa using this))
  have hc:cmtS (q++x)=c::(r++x):=by rw[Jt (by rw[h1];exact Yt h4),h1];rfl
  rw[Zb hc,Ta]at ht;injection ht with ht1 ht2;rcases lF h4 hx (by rw[ht1,h2])with h5|h5
  ·rw[h5]at ht2;rcases TM h3 hl hx ht2 with h6|⟨h6,ts1,t',p,e,hr,h7⟩
   ·exact .inl ⟨c,r++x,hc,ht1,by rw[h5];exact h6⟩
   ·exact .inr ⟨h6,t::ts1,t',p,by rw[e];rfl,⟨c,r++x,hc,ht1,by rw[h5];exact hr⟩,h7⟩
  ·right;have h43:=h5.2.1;have hR:R=[43]/\ts=[]:=by
    cases ts with
    |nil=>rw[run,h43]at h3;exact⟨h3.symm,rfl⟩
    |cons u us'=> exfalso;rw[h43]at h3;obtain⟨c',r',e1,e2,e3⟩:=h3;rw[show cmtS [43]=[43]from zM rfl]at e1;injection e1 with e4 e5;subst e4 e5;have:=(Vi e3).length_le;have h9:=(Qs (43:UInt8) []).length_le;exact hl (Kc.1 (by simp only[Gc]at h9;omega))
   obtain⟨hR,rfl⟩:=hR;exact⟨hR,[],t,q,rfl,rfl,c,r,hc,h5,by rw[ht1,h2],ht1,ht2⟩
theorem PT(A1:Str):(cmtS (47::42::A1)).length<=A1.length:=by
 rw[qE,Ea (show([47,42]:Str).isPrefixOf (47::42::A1)=true by simp[List.isPrefixOf]),show List.drop 2 (47::42::A1)=A1 from rfl];cases h:clsS A1 with
 |none=>exact Xd _
 |some r=> have h1:=(Jh _ h).1.length_le;have h2:=(oh r).length_le;exact ib h2 h1
theorem BM{p:UInt8->Bool}: ∀{l:Str} {c:UInt8} {r:Str},past p l=c::r->p c=false
 |[],c,r,h=>by cases h
 |d::l,c,r,h=>by
  rw[past]at h;split at h
  ·exact BM h
  ·rename_i hd;injection h with h1 _;rw[<-h1];cases hp:p d with
   |false=>rfl
   |true=>exact absurd hp hd
theorem dY{v:Str}(h:nmS v=true):(zg v).1≠[]:=by
 cases v with
 |nil=>exact absurd h (by decide)
 |cons c r=>
  rw[zI];cases hl:letB c with
  |true=>rw[Ea rfl];simp
  |false=>
   rw[Fa (by decide)];have h1:c≠45:=by rintro rfl;exact absurd hl (by decide)
   have h2:fstB c=false:=by unfold letB at hl;rw[De,De]at hl;exact hl.1.1
   unfold nmS at h;rw[show atS (c::r) 0=c from rfl,Fa (by rw[Da.2 h1];decide),h2,xc]at h;rw[h,Ea rfl];exact fun e=>JG _ (Jc.1 e).1
theorem zAc{R u A:Str}(h:Lk R u)(hu:u≠[])(hpre:([47,42]:Str).isPrefixOf (u++A)=false): ∃v,v≠[]/\cmtS (R++A)=v++A:=by
 rcases h with h|⟨d,y,hd,rfl,h⟩
 ·exact⟨u,hu,by rw[Sj (by rw[h];exact hu) (by rw[h];exact hpre),h]⟩
 ·exact⟨46::d::y,by simp,by rw[Sj (by rw[h];simp) (by rw[h];rfl),h]⟩
theorem bJ{s A:Str}{r2:List zb}{L:List Cmt}(h:FP s A r2 L): ∃E,A=s++E/\atS E 0≠10/\zV E=r2/\ ∀d y,digB d=true->E≠46::d::y:=by
 obtain⟨A2,L2,hA2,⟨e,_⟩|e⟩:=h
 ·exact⟨A2,e,II hA2,ni hA2,GI hA2⟩
 ·exact⟨cmtW++A2,e,by show(47:UInt8)≠10;decide,by rw[MF,ni hA2],fun d y _ e=>by injection e with e _;exact absurd e (by decide)⟩
theorem AR{s A:Str}{t:zb}{r2:List zb}{L:List Cmt}(hA:Can A (t::r2) L)(h:FP s A r2 L)(hp:PcT s [t]){E:Str}(eA:A=s++E):(zt A).1=t/\uN E<=uN (zt A).2+1:=by
 have hT:=ni hA;have hf:Qc t:=Im hp t (Sb.2 rfl);obtain⟨c,r,e⟩:=Za (show A≠[] by rw[eA];intro e;exact Qz hp (Jc.1 e).1);have hcm:=Om hA;have hn:(zt A).1=t/\zV (zt A).2=r2:=by rw[e]at hT hcm ⊢;rw[Zb hcm]at hT;injection hT with a b;exact⟨a,b⟩
 refine⟨hn.1,?_⟩;obtain⟨m,hcu,_⟩:=mi hp;obtain⟨A2,L2,hA2,⟨e2,eL⟩|e2⟩:=h
 ·subst eL;have:E=A2:=Ke (eA.symm.trans e2);subst this;rcases ic (uN (zt A).2+1) (uN E)with hlt|hge
  ·exfalso;obtain⟨_,c2,_⟩:=hcu E;rw[<-eA]at c2;have hgA:=Ui hA;have hE:=Lt hA;have hc':=Om hA;have ho:=aJ hA;rw[e]at hn hlt c2 hgA hE hc' ho;obtain⟨p1,p2⟩:=Vm hE (.refl _) hc' ho (by rw[hn.1];exact hf);have p3:=Uf (Ug _ (qR (Cm hgA (by rw[hn.1];exact hf)).1 hgA));exact behind c2 hA2 p1 (ZR _) p2 (by rw[ql];exact hn.2) (by omega)
  ·exact hge
 ·have:E=cmtW++A2:=Ke (eA.symm.trans e2);subst this;have hpn:=Es hp (bE A2);rw[<-eA]at hpn;obtain⟨c',r',f1,f2,f3⟩:=hpn;rw[Om hA]at f1;rw[run]at f3;rw[f1,f3];omega
theorem uS{A Z:Str}(g:Gd A)(h:mJ A Z):uN Z+2<=uN A:=by
 obtain⟨sg,hsg,hd,hn,rfl⟩:=h;have hw:Us A (unsign (sg++A)):=by
  rcases hsg with rfl|rfl
  ·rw[Ya];exact Gz A
  ·rw[show unsign ([45]++A)=A from rfl];exact .refl _
 generalize unsign (sg++A)=w at*;obtain⟨d,w',rfl⟩:=Za (show w≠[] by rintro rfl;exact absurd hd (by decide));have hd:digB d=true:=hd;have e1:past digB (d::w')=past digB w':=by rw[past,Ea hd]
 have h92:d≠92:=by rintro rfl;exact absurd hd (by decide)
 rw[e1]at hn ⊢;have u1:=QR ah w';have g1:Gd (past digB w'):=qR u1 (qR (ZA h92) (qR hw g));have h2:=(Vj _ g1).2;have h3:=Uf u1;have h4:=Uf hw;rw[Zn w' h92]at h4;have:=Ib.2 (dY hn);omega
theorem XT(q:Str):(zk q).1.kind=10\/(zk q).1.kind=11\/(zk q).1.kind=12:=by
 unfold zk;split
 ·exact .inr (.inr rfl)
 ·split
  ·exact .inr (.inl rfl)
  ·exact .inl rfl
theorem YT{s:Str}{t:zb}(hp:PcT s [t])(hk:t.kind=10\/t.kind=11\/t.kind=12): ∃n p U,s=numT n p++U/\t.num=n/\Mr t p U:=by
 obtain⟨h,rfl⟩:=xL hp rfl;cases h with
 |cNum n f h1 h2 hf=>exact⟨n, !f,[],by rw[Bi,Xa],rfl, .inl ⟨rfl,rfl⟩⟩
 |cPct n h1 h2=>exact⟨n,false,[37],Pi n,rfl, .inr (.inl ⟨rfl,rfl,rfl⟩)⟩
 |cDim n u f h1 h2 hf h0 h=>exact⟨n, !f,Qb u,Ri n u f,rfl, .inr (.inr ⟨rfl,rfl,h0,h⟩)⟩
 |cMark k h1 h2=>exfalso;simp only at hk;omega
 |cId=>simp at hk
 |cFn=>simp at hk
 |cAt=>simp at hk
 |cHash=>simp at hk
 |cStr=>simp at hk
 |cUrl=>simp at hk
 |cDel=>simp at hk
theorem SY{t:zb}{p:Bool}{U:Str}(h:Mr t p U):U=[]/\t.kind=10\/U=[37]\/ ∃u,u≠[]/\Zc u=true/\U=Qb u:=by
 rcases h with h|⟨h,_⟩|⟨h,_,h0,hn⟩
 ·exact .inl h
 ·exact .inr (.inl h)
 ·exact .inr (.inr ⟨_,h0,hn,h⟩)
theorem WX{f Y:Str}(hf:f.all digB=true)(hn:f≠[])(h1:expS (past digB Y)=none): ∃v:Nat,(numP (46::(f++Y))).val=(v:Int)/\v<1000:=by
 have hga:=wo digB Y;obtain⟨d,f',ef⟩:=Za hn;have hd:digB d=true:=by rw[ef,Ic,Ba]at hf;exact hf.1
 have e6:dotP (46::(f++Y))=some (f++Y.takeWhile digB):=by unfold dotP;rw[show atS (46::(f++Y)) 1=d by rw[ef];rfl,hd,show(atS (46::(f++Y)) 0==46&&true)=true from rfl,Ea rfl,show(46::(f++Y)).drop 1=f++Y from rfl,Fu hf]
 have e7:zx (46::(f++Y))=(past digB Y,false):=by unfold zx;rw[show atS (46::(f++Y)) 1=d by rw[ef];rfl,hd,show(atS (46::(f++Y)) 0==46&&true)=true from rfl,Ea rfl,show(46::(f++Y)).drop 1=f++Y from rfl,Uj _ _ hf]
 have hP:numP (46::(f++Y))=⟨[],[],dotP (46::(f++Y)),expP (zx (46::(f++Y))).1⟩:=rfl;rw[hP,e6,e7,Dz h1];generalize Y.takeWhile digB=g at*;refine⟨thoV ([]++(f++g)) (3 - ((f++g).length:Int)),?_,?_⟩
 ·show((thoV ([]++(f++g)) (3+0 - ((f++g).length:Int)):Nat):Int)=_;rw[Int.add_zero]
 ·have:=gB (A:=[]++(f++g)) (by rw[Ya,Ue,hf,hga];rfl) (k:=(f++g).length) (by simp);rw[Ya,Nat.sub_self]at this;exact this
theorem NR{q1 q2 w e1 e2:Str}(h1:nbS q1=true)(h2:nbS q2=true)(n1:(zo q1).1=e1)(n2:(zo q2).1=e2)(d1:q1=w++e1)(d2:q2=w++e2)(hw:w.length<=40000):(numP q1).val=(numP q2).val:=by
 have key: ∀{q e:Str},nbS q=true->(zo q).1=e->q=w++e->Zl w=some (numP q).val:=fun {q e} h n d=>by
  have h3:=ny q;rw[n]at h3;have ht:(numP q).txt=w:=Ie (h3.trans d);have:=oG (Fw h) (by rw[ht];exact hw)
  rwa [ht]at this
 have:=(key h1 n1 d1).symm.trans (key h2 n2 d2);exact Option.some.inj this
theorem PR {n:Int} {f:Bool} {A s Z:Str} {P r2:List zb} {L:List Cmt} {d:UInt8} (h1: -1000000000000<=n) (h2:n<=1000000000000) (hf:f=true->Int.tmod n 1000=0) (he:zo (numT n (!f)++A)=(Z,f)) (hn:nmS Z=false)
  (h37:(atS Z 0==37)=false) (hA:Can A (P++r2) L) (hF:FP s A r2 L) (hP:PcT s P) (eA:A=d::Z) (hd:digB d=true) (hpZ:past digB Z=Z) (hc:cmtS Z=Z) (hT:zV Z=P++r2)
  (hnx:(zt (numT n (!f)++A)).1=⟨10,[],n,[],f⟩): ∃d2 y,digB d2=true/\s=48::46::d2::y/\zt (numT n (!f)++s)=(⟨10,[],n,[],f⟩,46::d2::y):=by
 obtain⟨E,eE,h10E,hTE,_⟩:=bJ hF;obtain⟨c,s',es⟩:=Za (Qz hP);have eE':=eE;rw[eA,es,Ta]at eE';injection eE' with e1 e2;rw[<-e1]at es;have hs':s'≠[]:=by rintro rfl;rw[e2,Ya,hTE]at hT;have:=congrArg List.length hT;obtain⟨t,us,eP⟩:=pc_P hP;rw[Ga,eP,Ka]at this;omega
 have hps:past digB s'=s':=Pz hs' (by rw[<-e2];exact hpZ);have hpd:past digB s=s':=by rw[es,past,Ea hd,hps]
 have hun:unsign s=s:=by rw[es];unfold unsign Qo;rw[show atS (d::s') 0=d from rfl,Da.2 (qd hd).1,Da.2 (qd hd).2.1];rfl
 obtain⟨n0,p0,U0,t,eP,eS0,_,_⟩:=Hr hP (by rw[hun,es];exact hd);subst eP;have hA':Can A (t::r2) L:=hA;obtain⟨hn2,hr0⟩:=AR hA' hF hP eE;have hk:t.kind=10\/t.kind=11\/t.kind=12:=by rw[eE,eS0,Ia,Si]at hn2;rw[<-hn2];exact XT _
 obtain⟨m,p,U,eS,htn,hU⟩:=YT hP hk;have hY:A=numT m p++(U++E):=by rw[eE,eS,Ia]
 have gY:Gd (U++E):=by have:=Ui hA;rw[hY]at this;exact qR (cu_T m p (U++E)).2.1 this
 rw[hY,Si]at hn2 hr0;obtain⟨f1,_⟩:=fK hU rfl hn2 hr0 gY;obtain⟨u1,u2,u3⟩:=Pt (SY hU);have hsu:s'=past digB (unsign (numT m p++U)):=by rw[<-eS,hun,hpd]
 cases hp:(partT (m.natAbs%1000) p).isEmpty with
 |true=>
  exfalso;rw[kw U hp,u1]at hsu;rcases u3 with hU0|hU37|⟨hnu,_⟩
  ·exact hs' (hsu.trans hU0)
  ·rw[e2,hsu,hU37]at h37;cases h37
  ·rw[e2,hsu,jh hnu h10E]at hn;cases hn
 |false=>
  rw[jw U hp]at hsu;have hne:partT (m.natAbs%1000) p≠[]:=fun e=>by rw[e]at hp;cases hp
  obtain⟨d2,q,hF2⟩:=Za hne;have hdig:=Um (n:=m) (p:=p);have hd2:digB d2=true:=by rw[hF2,Ic,Ba]at hdig;exact hdig.1
  have hnT:numT m p=d::46::partT (m.natAbs%1000) p:=by
   have:numT m p++U=(d::46::partT (m.natAbs%1000) p)++U:=by rw[<-eS,es,hsu];rfl
   exact Ie this
  have hZe:Z=46::(partT (m.natAbs%1000) p++(U++E)):=by rw[e2,hsu,Ta,Ia]
  -- its value
  obtain⟨v,hv,hv2⟩:=WX hdig hne f1;rw[<-hZe]at hv;have hm:m=v:=by obtain⟨c',r',eZ⟩:=Za (show Z≠[] by rw[hZe];simp);rw[eZ]at hc hT hv;rw[Zb hc,show [t]++r2=t::r2 from rfl]at hT;have hT:=(List.cons.inj hT).1;obtain⟨hb,_⟩:=yM (c:=c') (r:=r') (by rw[hT];exact hk);rw[hb]at hT;have:=BD (c'::r');rw[hT,htn,hv]at this;exact this
  have hz:m.natAbs / 1000=0:=by omega
  have hd48:d=48:=by have:=hnT;rw[Pj,UE hz]at this;have hsg:sgT m=[]:=Fa (by omega);rw[hsg,Ya,Xc]at this;exact(List.cons.inj this).1.symm
  have es2:s'=46::d2::(q++U):=by rw[hsu,hF2];rfl
  refine⟨d2,q++U,hd2,by rw[es,hd48,es2],?_⟩;have hZ46:Z=46::d2::(q++U++E):=by rw[e2,es2];rfl
  have hpA:past digB A=Z:=by rw[eA,past,Ea hd,hpZ]
  cases f with
  |true=>
   exfalso;have hpe:=QU hf;rw[bi hpe,hpA]at he;have hw:zx Z=(past digB (d2::(q++U++E)),false):=by rw[hZ46];unfold zx;rw[show atS (46::d2::(q++U++E)) 1=d2 from rfl,hd2];rfl
   rw[hw]at he;simp only at he;cases hexp:expS (past digB (d2::(q++U++E)))with
   |none=>rw[hexp]at he;exact absurd (congrArg Prod.snd he) (by simp)
   |some e=>rw[hexp]at he;exact absurd (congrArg Prod.snd he) (by simp)
  |false=>
   have hpe:=QU hf;have hend:zo (numT n (!false)++s)=(s',false):=by rw[Ti hpe,hpd,es2,rH]
   have hval:(numP (numT n (!false)++s)).val=n:=by
    have h3:(numP (numT n (!false)++A)).val=n:=by rw[Si]at hnx;rw[<-BD,hnx]
    refine Eq.trans (NR (q2:=numT n (!false)++A) (w:=numT n (!false)++[d]) (Dv _ _ _) (Dv _ _ _) (by rw[hend]) (by rw[he]) ?_ ?_ ?_) h3
    ·rw[es,Ia];rfl
    ·rw[eA,Ia];rfl
    ·have:=(Nr h1 h2 (!false)).1;rw[Ga,Ae];omega
   rw[Si];unfold zk;rw[hend,hval,es2];rfl
theorem LU{A:Str}{l2:List zb}{L:List Cmt}(hA:Can A l2 L)(hs:spB (atS A 0)=true): ∃r,l2=tkSp::r:=by
 have hT:=ni hA;have hc:=Om hA;cases A with
 |nil=>exact absurd hs (by decide)
 |cons c r=> rw[Zb hc]at hT;have hs:spB c=true:=hs;refine⟨zV (zt (c::r)).2,?_⟩;rw[<-hT,Qk,Ea hs];rfl
theorem FJ{X A:Str}{l2:List zb}{L:List Cmt}(hX:Us X A)(hA:Can A l2 L){Z:Str}(hZ:Z=past spB A)(hZA:Z≠A)(u:Us X (cmtS Z))(hpos:Pos L (cmtS Z))(hT:zV Z=l2):False:=by
 have hne:A≠[]:=by rintro rfl;exact hZA hZ
 obtain⟨c,r,e⟩:=Za hne;have hs:spB c=true:=by
  cases hs:spB c with
  |true=>rfl
  |false=>exact absurd (by rw[hZ,e,past,hs];rfl) hZA
 have hgA:=Ui hA;have uz:Us A Z:=by rw[hZ];exact QR Xl A
 have hlt:=Bh uz hZA;have uc:=Ug Z (qR uz hgA);by_cases hcm:cmtS Z=Z
 ·obtain⟨r',hl⟩:=LU hA (by rw[e];exact hs);rw[hl]at hT;cases hz:Z with
  |nil=>rw[hz,ZE (zM rfl)]at hT;cases hT
  |cons c' r2=> rw[hz]at hcm hT hZ;rw[Zb hcm]at hT;have h1:=(List.cons.inj hT).1;have h2:=Qu c' r2;rw[h1]at h2;have h3:=br_0 (c:=c') (r:=r2) h2.symm;rw[BM hZ.symm]at h3;cases h3
 ·have:=Bh uc hcm;exact behind hX hA u (ZR _) hpos (by rw[ql];exact hT) (by omega)
theorem WW{X A R u:Str}{pP l2:List zb}{L:List Cmt}(hE:Emb X L)(hX:Us X A)(hA:Can A l2 L)(hAne:A≠[])(hu:PcT u pP)(hlk:Lk R u)(uR:Us X (R++A))(hT:zV (R++A)=pP++l2)(hpre:([47,42]:Str).isPrefixOf (u++A)=true):False:=by
 -- the last piece is a slash, and a star stands behind it
 have hu47:u=[47]:=by
  obtain⟨c,r,e⟩:=Za (Qz hu);have hc:c=47:=by rw[e]at hpre;have h':(((47:UInt8)==c)&&List.isPrefixOf [42] (r++A))=true:=hpre;rw[Ba]at h';exact(Sa.1 h'.1).symm
  exact Ht hu (.inl rfl) (by rw[e];exact hc)
 subst hu47;obtain⟨a,A1,eA⟩:=Za hAne;have ha:a=42:=by
  rw[eA]at hpre;have h':(((47:UInt8)==47)&&(((42:UInt8)==a)&&true))=true:=hpre;have:((42:UInt8)==a)=true:=by simpa using h'
  exact(Sa.1 this).symm
 subst ha;have hR:cmtS R=[47]:=by
  rcases hlk with h|⟨d,y,_,h,_⟩
  ·exact h
  ·cases h
 have hc2:cmtS (R++A)=cmtS (47::42::A1):=by rw[RL (by rw[hR];simp),hR,eA];rfl
 have hlen:=PT A1;have hAl:A.length=A1.length+1:=by rw[eA];rfl
 have hne:cmtS (R++A)≠R++A:=fun e=>by have:=congrArg List.length e;rw[hc2,Ga]at this;omega
 have hgX:=hE.1;have u0:=zy uR (Ug (R++A) (qR uR hgX));have hpos:=rE hE uR hne;have hT0:zV (cmtS (R++A))=pP++l2:=by rw[ql];exact hT
 have hpP:pP=[⟨9,[47],0,[],false⟩]:=by rw[<-Xi hu,Zb (zM (l:=[47]) rfl),show zt [47]=(⟨9,[47],0,[],false⟩,[])from rfl,ZE (zM rfl)]
 rw[hpP]at hT0;have hid:=ZR (R++A);rw[hc2]at u0 hpos hT0 hid;generalize hq:cmtS (47::42::A1)=q at*;have hlq:q.length<A.length:=by omega
 have uq:=TH hX u0 (by omega);have hnq:=Bh uq (fun e=>by rw[e]at hlq;omega);cases q with
 |nil=>rw[ZE (zM rfl)]at hT0;cases hT0
 |cons c r=> exact LJ hE hX hA u0 hid hpos hT0 (Im hu _ (by rw[hpP];exact Sb.2 rfl)) (fun e=>absurd (congrArg zb.text e) (by decide)) hnq
theorem VW {X A R u q:Str} {c:UInt8} {r:Str} {pP l2:List zb} {L:List Cmt} (hE:Emb X L) (hX:Us X A) (hA:Can A l2 L) (hu:PcT u pP) (hlk:Lk R u) (h43:R=[43]) (uq:Us X q) (hc:cmtS q=c::(r++A)) (hpl:Sr c r A)
  (hsame:(zt (c::(r++A))).1=(zt (c::r)).1) (hf:Qc (zt (c::(r++A))).1) (hT:zV (zt (c::(r++A))).2=pP++l2):False:=by
 have hgX:=hE.1;have u1:Us X (c::(r++A)):=by rw[<-hc];exact zy uq (Ug q (qR uq hgX))
 have hid:cmtS (c::(r++A))=c::(r++A):=by rw[<-hc,ZR]
 obtain⟨k1,k2⟩:=Vm hE u1 hid (KE hA (by rw[Ka,Ga];omega)) hf
 -- what it leaves is within A
 have hlen:(zt (c::(r++A))).2.length<A.length:=by
  obtain⟨⟨e,fl,hee,hw⟩,hn43,hk,hds⟩:=hpl;have hbr:=Qu c (r++A);rw[hsame,hk]at hbr;have hbr':brS c (r++A)=3:=hbr.symm;have hnx:zt (c::(r++A))=zk ((c::r)++A):=by rw[Zh,hbr',Mg];rfl
  have hq2:ae (c::r)≠[]:=by intro e2;rw[e2]at hw;cases congrArg Prod.fst hw
  have e2:ae ((c::r)++A)=ae (c::r)++A:=by unfold ae;rw[(ZQ A (by simp)).1];exact Ki A hq2
  have hw2:=(Uz (q:=ae (c::r)) (x:=A) (by rw[hw];simp) (fun e3=>by
   rw[e3]at hw;have:=congrArg Prod.fst hw;cases this)).1
  have hexp:expS ([e,43]++A)=some (past digB A):=by
   unfold expS;have h1:(atS ([e,43]++A) 0==101||atS ([e,43]++A) 0==69)=true:=by rcases hee with rfl|rfl<;>rfl
   have h2:unsign (([e,43]++A).drop 1)=A:=rfl;rw[h1,Ea rfl,h2,hds,Ea rfl]
  have hend:zo ((c::r)++A)=(past digB A,false):=by rw[ZU,e2,hw2,hw];simp only[hexp]
  have h5:=(AA ((c::r)++A)).length_le;rw[hend]at h5;rw[hnx];cases A with
  |nil=>exact absurd hds (by decide)
  |cons d A'=>
   have h6:=(qB digB A').length_le;have h7:past digB (d::A')=past digB A':=by rw[past,Ea (show digB d=true from hds)]
   simp only[h7]at h5;rw[Ka];omega
 have hu43:u=[43]:=by
  rw[h43]at hlk;rcases hlk with h|⟨d,y,_,_,h⟩
  ·rw[<-h];exact zM rfl
  ·rw[show cmtS [43]=[43]from zM rfl]at h;cases h
 have hpP:pP=[⟨9,[43],0,[],false⟩]:=by rw[<-Xi hu,hu43,Zb (zM (l:=[43]) rfl),show zt [43]=(⟨9,[43],0,[],false⟩,[])from rfl,ZE (zM rfl)]
 have hT0:zV (cmtS (zt (c::(r++A))).2)=pP++l2:=by rw[ql];exact hT
 rw[hpP]at hT0;have hcl:=(oh (zt (c::(r++A))).2).length_le;have hid2:=ZR (zt (c::(r++A))).2;generalize cmtS (zt (c::(r++A))).2=q' at*;have uq':=TH hX k1 (by omega);have hnq:=Bh uq' (fun e=>by rw[e]at hcl;omega);cases q' with
 |nil=>rw[ZE (zM rfl)]at hT0;cases hT0
 |cons c' r'=> exact LJ hE hX hA k1 hid2 k2 hT0 (Im hu _ (by rw[hpP];exact Sb.2 rfl)) (fun e=>absurd (congrArg zb.text e) (by decide)) hnq
theorem AV {X A s u Z:Str} {n:Int} {f:Bool} {P r2:List zb} {L:List Cmt} (h1: -1000000000000<=n) (h2:n<=1000000000000) (hf:f=true->Int.tmod n 1000=0) (hu:u=numT n (!f)) (hX:Us X A) (hA:Can A (P++r2) L) (hF:FP s A r2 L) (hP:PcT s P)
  (hnx:zt (u++A)=(⟨10,[],n,[],f⟩,Z)) (hr:XD ⟨10,[],n,[],f⟩ A Z) (hZA:Z≠A) (k1:Us X (cmtS Z)) (k2:Pos L (cmtS Z)) (hT:zV Z=P++r2): ∃d2 y,digB d2=true/\s=48::46::d2::y/\zt (u++s)=(⟨10,[],n,[],f⟩,46::d2::y):=by
 subst hu;obtain⟨he,hn,h37⟩:=hr;have he':zo (numT n (!f)++A)=(Z,f):=he;have hgA:=Ui hA;have hcase:Z=past digB A\/expS (past digB A)=some Z:=by
  cases hp:(partT (n.natAbs%1000) (!f)).isEmpty with
  |true=> left;rw[bi hp]at he';rw[QU hf]at hp;subst hp;exact uK he'
  |false=> rw[Ti hp]at he';exact XJ he'
 have fin:uN (cmtS Z)+2<=uN A->False:=fun h=>behind hX hA k1 (ZR _) k2 (by rw[ql];exact hT) h;have up:=QR ah A;rcases hcase with hZ|hx
 rotate_left
 ·exfalso;obtain⟨x1,x2⟩:=Ut hx;have h3:=Uf up;have h4:=Uf (Ug Z (qR x1 (qR up hgA)));exact fin (by omega)
 ·have hAne:A≠[]:=by rintro rfl;exact hZA hZ
  obtain⟨d,A',eA⟩:=Za hAne;have hd:digB d=true:=by
   cases hd:digB d with
   |true=>rfl
   |false=>exact absurd (by rw[hZ,eA,past,hd];rfl) hZA
  have h92:d≠92:=by rintro rfl;exact absurd hd (by decide)
  have hZ':Z=past digB A':=by rw[hZ,eA,past,Ea hd]
  have u1:Us A' Z:=by rw[hZ'];exact QR ah A'
  have n1:uN A=uN A'+1:=by rw[eA,Zn _ h92]
  have gZ:Gd Z:=by rw[hZ];exact qR up hgA
  have u2:=Ug Z gZ;have l1:=Uf u1;have l2:=Uf u2;by_cases hlt:uN (cmtS Z)+2<=uN A
  ·exact(fin hlt).elim
  ·have hcZ:cmtS Z=Z:=tq u2 (by omega);have hZA':Z=A':=tq u1 (by omega);have hpZ:past digB Z=Z:=by have:=hZ';rw[<-hZA']at this;exact this.symm
   exact PR h1 h2 hf he' hn h37 hA hF hP (by rw[eA,hZA']) hd hpZ hcZ hT (by rw[hnx])
theorem XR{p A s:Str}{x P r2:List zb}{L:List Cmt}{st:List (List zb×Str)}(hs:Syn p x st)(hp:p≠[])(hA:Can A (P++r2) L)(hP:PcT s P)(hF:FP s A r2 L)(hneed:zV (p++s)≠x++P):zV (p++A)≠x++(P++r2):=by
 intro hT;obtain⟨⟨n,hcu⟩,hfine⟩:=zAR hs;obtain⟨_,uA,_⟩:=hcu A;have hE:=kS hcu hA;obtain⟨E,eA,h10E,hTE,_⟩:=bJ hF;have hAne:A≠[]:=by rw[eA];exact fun e=>Qz hP (Jc.1 e).1
 have h10:atS s 0≠10:=by
  have:=yA hP []
  rwa [Xa]at this
 rcases(Kj hs).last with⟨_,e,_⟩|⟨L1,B,u,pP,R,hu,ep,ex,hrun,hlk⟩
 ·exact hp e
 have hR:R≠[]:=by intro e;have:=jl hlk (Qz hu);rw[e]at this;exact this (zM rfl)
 have hT':zV (p++A)=L1++(pP++(P++r2)):=by rw[hT,ex,Ia]
 rcases TM hrun hR hAne hT' with hrA|⟨h43,ts1,t1,q,ets,hr1,c,r,e2,hpl,hsm,ht1,hTz⟩
 rotate_left
 ·have hf1: ∀t∈L1,Qc t:=fun t ht=>hfine t (by rw[ex];exact Oc _ ht);have uq:=(pq hE.1 (fun t ht=>hf1 t (by rw[ets];exact Oc _ ht)) hr1).1;exact VW hE uA hA hu hlk h43 uq e2 hpl hsm (by rw[ht1];exact hf1 t1 (by rw[ets];simp)) hTz
 have uR:Us (p++A) (R++A):=(pq hE.1 (fun t ht=>hfine t (by rw[ex];exact Oc _ ht)) hrA).1;have hTR:zV (R++A)=pP++(P++r2):=by have:=Q9 hrA;rw[hT']at this;exact(Ke this).symm
 cases hpre:([47,42]:Str).isPrefixOf (u++A)with
 |true=>exact WW hE uA hA hAne hu hlk uR hTR hpre
 |false=>
  have hlkA:=bv hlk (Qz hu) hpre;obtain⟨t0,us0,eP0⟩:=pc_P hu;obtain⟨Z,hrZ,hTZ⟩:=Eu hTR;have hrZ':run (u++A) pP Z:=by rw[eP0]at hrZ ⊢;exact(av hlkA hpre).1 hrZ
  -- what a piece there leaves
  have hr2:run (p++s) L1 (R++s):=OI (y:=E) (Qz hP) h10 h10E hrun hR (by rw[<-eA];exact hrA);have hpre2:([47,42]:Str).isPrefixOf (u++s)=false:=by
   have h:=hpre;rw[eA,<-Ia,jk E (by
    have h1:=Ib.2 (Qz hu);have h2:=Ib.2 (Qz hP);rw[Ga];show 2<=_;omega)]at h
   exact h
  have hlk2:=bv hlk (Qz hu) hpre2;have done: ∀z:Str,run (u++s) pP z->zV z=P->False:=fun z hz hTz=>by
   have h1:run (R++s) pP z:=by rw[eP0]at hz ⊢;exact(av hlk2 hpre2).2 hz
   have h2:=Q9 (Vy hr2 h1);rw[hTz,<-ex]at h2;exact hneed h2
  have hTs:=Xi hP;obtain⟨v,hv,hpv⟩:=zAc (A:=A) hlk (Qz hu) hpre;have gR:=qR uR hE.1;have upos:Us (p++A) (v++A):=by rw[<-hpv];exact zy uR (Ug _ gR)
  have idpos:cmtS (v++A)=v++A:=by rw[<-hpv,ZR]
  have outpos:Out L (v++A):=KE hA (by rw[Ga];have:=Ib.2 hv;omega);cases hu with
  |one t h hb hui=>
   obtain⟨c,r,g1,g2,g3⟩:=hrZ';rw[zM hpre]at g1;rw[run]at g3;have hnx:zt (txS t++A)=(t,Z):=by rw[g1];exact Hf g2 g3
   by_cases hZA:Z=A
   ·subst hZA;have hcut:=IQ h hb hui (Qz hP) h10 h10E (by rw[<-eA];exact hnx);exact done s (nC (Qz (.one t h hb hui)) (zM hpre2) hcut) hTs
   ·-- where what is left begins
    obtain⟨c',r',f1,f2,f3⟩:=hrZ;rw[hpv]at f1;rw[run]at f3;rw[f1]at upos idpos outpos;obtain⟨k1,k2⟩:=Vm hE upos idpos outpos (by rw[f2];exact h);rw[f3]at k1 k2;have hrest:=AL h hui (x:=A) (by rw[hnx]);rw[hnx]at hrest;rcases hrest with hr|⟨_,hr⟩|⟨hk,hr⟩|⟨_,hr⟩
    ·exact hZA hr
    ·exact FJ uA hA hr hZA k1 k2 hTZ
    ·cases h with
     |cNum n f h1 h2 hf=>
      obtain⟨d2,y,hd2,es,hns⟩:=AV h1 h2 hf (Bi n f) uA hA hF hP hnx hr hZA k1 k2 hTZ;refine done (46::d2::y) ?_ ?_
      ·obtain⟨c3,r3,e3⟩:=Za (show txS ⟨10,[],n,[],f⟩++s≠[] by intro e;exact Qz hP (Jc.1 e).2);refine⟨c3,r3,(zM hpre2).trans e3,?_,?_⟩
       ·rw[<-e3,hns]
       ·rw[<-e3,hns];rfl
      ·rw[<-hTs];have:=Tx (R:=46::d2::y) (A:=s) (.inr ⟨d2,y,hd2,es,zM rfl⟩);exact this
     |cId|cFn|cAt|cHash|cStr|cUrl|cDel|cPct|cDim=>simp at hk
     |cMark k h1 h2=>simp only at hk;omega
    ·have h3:uN Z+2<=uN A:=uS (Ui hA) hr;have uZ:Gd Z:=qR (Cm (qR upos hE.1) (by rw[f2];exact h)).1 (qR upos hE.1) |> fun g=>by rwa [f3]at g
     have h4:=Uf (Ug Z uZ);exact behind uA hA k1 (ZR _) k2 (by rw[ql];exact hTZ) (by omega)
  |back=>
   obtain⟨c,r,g1,g2,g3⟩:=hrZ';rw[show cmtS ([92,10]++A)=92::10::A from zM rfl]at g1;injection g1 with a1 a2;subst a1 a2;rw[mr]at g3;obtain⟨c',r',b1,b2,b3⟩:=g3;rw[show cmtS (10::A)=10::A from zM rfl]at b1;injection b1 with a1 a2;subst a1 a2;rw[run]at b3;have hZ:Z=past spB A:=b3.symm;by_cases hZA:Z=A
   ·rw[hZA,eA]at hZ;have hps:=Pz (Qz hP) hZ.symm;refine done s ⟨92,10::s,zM rfl,rfl,?_⟩ hTs;rw[mr];exact⟨10,s,zM rfl,rfl,hps⟩
   ·have hRv:v++A=92::10::A:=by
     rcases hlk with h|⟨d,y,_,h,_⟩
     ·rw[<-hpv,Sj (by rw[h];simp) (by rw[h];rfl),h];rfl
     ·cases h
    rw[hRv]at upos;have u10:Us (p++A) (10::A):=zy upos (by
     have:=Kw 92 (10::A)
     rwa [show unS (92::10::A)=10::A from rfl]at this)
    obtain⟨k1,k2⟩:=Vm hE u10 (zM rfl) (KE hA (by rw[Ka];omega)) (.cMark 13 (by omega) (by omega));have k1:Us (p++A) (cmtS (past spB A)):=k1;have k2:Pos L (cmtS (past spB A)):=k2;rw[<-hZ]at k1 k2;exact FJ uA hA hZ hZA k1 k2 hTZ
  |url l m b h hl hm=> have hZA:Z=A:=rC hrZ' (Et h hl hm A);exact done s (Et h hl hm s) hTs
theorem lW{x y:List zb}(h:Xh (x++y))(hx:Xh x)(hne:x≠[])(hy:y≠[]):
  ∃E,wrS (x++y)=wrS x++E/\zV E=y/\((E.take 4==cmtW)=true->zV (wrS x++E.drop 4)≠x++y):=by
 have hW:wrS (x++y)=wrF y.length x (wrS x) y:=by unfold wrS;rw[jI x.length x y [] [] (Va _) hx.2 _ (by rw[Ga];omega),Ya]
 obtain⟨st,hs⟩:=Uv x.length hx .nil (Va _);rw[Ya]at hs;replace hs:Syn (wrS x) x st:=hs;have hr:Xh y:=by
  have:=Vu h x.length
  rwa [List.drop_left]at this
 have hp:wrS x≠[]:=fun e=>by have h0:=(Kj hs).tok;rw[e,ZE (zM rfl)]at h0;exact hne h0.symm
 obtain⟨E,e1,hE⟩:=FI y.length hr hs (Va _);refine⟨E,hW.trans e1,?_⟩;rcases hE with⟨e,_⟩|⟨A,L,hA,hAne,hE⟩
 ·exact absurd e hy
 rcases hE with rfl|⟨rfl,s,P,r2,hP,er,hF,hneed⟩
 ·refine⟨ni hA,fun ht=> ?_⟩;exfalso;have h1:=Al E;rw[Om hA]at h1;have h2:E=cmtW++E.drop 4:=by have:=Td 4 E;rw[Sa.1 ht]at this;exact this.symm
  rw[h2]at h1;have h3:([47,42]:Str).isPrefixOf (47::42::42::47::E.drop 4)=true:=by simp[List.isPrefixOf]
  exact absurd (h3.symm.trans h1) (by decide)
 ·refine⟨by rw[MF,ni hA],fun _=> ?_⟩;rw[show(cmtW++A).drop 4=A from rfl];rw[er]at hA ⊢;exact XR hs hp hA hP hF hneed
theorem yZ{x:List zb×Int}(h:Kh x.1 big)(hl:x.1.length<=big):XA x=some true:=by
 have hbig:big=4194304:=rfl;obtain⟨l,a⟩:=x;simp only at h hl;unfold XA;obtain⟨g,hg1,hg2⟩:=yU (fun t ht=>by have:=h t ht;omega) hl;simp only[ze,hg1,Aa];cases g with
 |true=> simp only[Lb,ZX,Aa,Ha,si,Cb,Tf,need,Pd]
 |false=>
  have h1:=(hg2 rfl).1;simp only[Cb,zU,gG (OD h (Va _)),Aa,Ja];by_cases hz:gluS l=0
  rotate_left
  ·have:(gluS l != 0)=true:=by rw[bne_iff_ne];exact hz
   simp only[this,Ha,Lb,ZX,Aa,si,Cb,Tf,need,Pd]
  simp only[hz,show((0:Int) != 0)=false from rfl,Ja];by_cases ha:1<=a/\a<(l.length:Int)
  rotate_left
  ·have:(bif decide (a<1)then true else decide (a>=(l.length:Int)))=true:=by
    by_cases h1:a<1
    ·rw[La h1];rfl
    ·rw[Ob h1,Ja];exact La (by omega)
   simp only[this,Ha,Lb,ZX,Aa,si,Cb,Tf,need,Pd]
  obtain⟨ha1,ha2⟩:=ha;have d1:decide (a<1)=false:=Ob (by omega);have d2:decide (a>=(l.length:Int))=false:=Ob (by omega);have d3:decide (0<=a)=true:=La (by omega);have d4:decide (a<=(l.length:Int))=true:=La (by omega);have tt:Kh (l.take a.toNat) big:=fun t ht=>h t (Xe ht);have td:Kh (l.drop a.toNat) big:=fun t ht=>h t (Cf ht);simp only[d1,d2,d3,d4,Ja,Cb,Lb,Nb,Ee,need,Pd,zU,gG (OD tt (Va _)),Aa];by_cases hz1:gluS (l.take a.toNat)=0
  rotate_left
  ·have:(gluS (l.take a.toNat) != 0)=true:=by rw[bne_iff_ne];exact hz1
   simp only[this,Ha,Lb,ZX,Aa,si]
  simp only[hz1,show((0:Int) != 0)=false from rfl,Ja,Cb,zU,gG (OD td (Va _)),Aa];by_cases hz2:gluS (l.drop a.toNat)=0
  rotate_left
  ·have:(gluS (l.drop a.toNat) != 0)=true:=by rw[bne_iff_ne];exact hz2
   simp only[this,Ha,Aa,si]
  simp only[hz2,show((0:Int) != 0)=false from rfl,Ja];have s1:Kh (l.take a.toNat) 1000:=fun t ht=>h1 t (Xe ht);have s2:Kh (l.drop a.toNat) 1000:=fun t ht=>h1 t (Cf ht);rw[jJ hz h1,jJ hz1 s1];have hn1:l.take a.toNat≠[]:=fun e=>by have:=congrArg List.length e;rw[Rc,Gc]at this;omega
  have hn2:l.drop a.toNat≠[]:=fun e=>by have:=congrArg List.length e;rw[ja,Gc]at this;omega
  have hd:=Td a.toNat l;have hro:=rest_of hz h1;obtain⟨E,e1,e2,e3⟩:=lW (x:=l.take a.toNat) (y:=l.drop a.toNat) (by rw[hd];exact hro) (rest_of hz1 s1) hn1 hn2;rw[hd]at e1 e3;obtain⟨_,hcl⟩:=wW hro;have g2:=(iy hz2).1;have g0:=(iy hz).1;generalize l.take a.toNat=x1 at*;generalize hx2:l.drop a.toNat=x2 at*;rw[e1]at hcl ⊢;rw[qw,Ba]at hcl;have hE:(wrS x1++E).length=(wrS x1).length+E.length:=Ga;by_cases hlong:4000<(wrS x1++E).length
  ·rw[Ea hlong];simp only[Aa,show((28:Int) != 0)=true from rfl,show((28:Int)==28)=true from rfl,Ha,zU,si,ite_self]
  ·rw[Fa hlong,Fa (show¬4000<(wrS x1).length by omega)];simp only[Aa,show((0:Int) != 0)=false from rfl,Ja];have b1:decide (0<=((wrS x1).length:Int))=true:=La (by omega);have b2:decide (((wrS x1).length:Int)<=((wrS x1++E).length:Int))=true:=La (by omega);have b3:decide (((wrS x1++E).length:Int)<((wrS x1).length:Int))=false:=Ob (by omega);have b4:List.take (wrS x1).length (wrS x1++E)=wrS x1:=List.take_left;have b5:List.drop (wrS x1).length (wrS x1++E)=E:=List.drop_left;have t1:Ii E=(x2,0):=by unfold Ii;rw[Fa (by omega),Oy _ hcl.2,e2,Fa (by omega)]
   have lx2:x2.length<=big:=by omega
   simp only[b1,b2,b3,b4,b5,beq_self_eq_true,Lb,Cb,Ja,Nb,Ee,Pd,gM,t1,Aa,show((0:Int) != 0)=false from rfl,zU,same_eq lx2,qh.2 (rfl:x2=x2)];by_cases h4:E.length<4
   ·have c1:decide ((E.length:Int)<4)=true:=La (by omega);simp only[c1,Ha,Lb,Cb,Tf,Pd,si,Aa]
   ·have c1:decide ((E.length:Int)<4)=false:=Ob (by omega);have c2:decide (4<=(E.length:Int))=true:=La (by omega);have c3:Vf (wrS x1).length (E.drop 4).length=true:=by unfold Vf;rw[ja];exact Nat.ble_eq_true_of_le (by omega)
    simp only[c1,c2,c3,Ja,Ee,Pd];cases ht:(E.take 4==[47,42,42,47])with
    |false=>simp only[Cb,Ha,si,Aa]
    |true=>
     have hne:=e3 ht;have hcd:clB (E.drop 4)=true:=by have:=hcl.2;rw[<-Td 4 E,qw,Ba]at this;exact this.2
     have t2:Ii (wrS x1++E.drop 4)=if 1500<(zV (wrS x1++E.drop 4)).length then([],4)else(zV (wrS x1++E.drop 4),0):=by unfold Ii;rw[Fa (by rw[Ga,ja];omega),Oy _ (by rw[qw,hcl.1,hcd];rfl)]
     simp only[Lb,Ja,t2,Aa];by_cases hm:1500<(zV (wrS x1++E.drop 4)).length
     ·rw[Ea hm];simp only[show((4:Int) != 0)=true from rfl,Lb,ZX,Aa,Ha,zU,si]
     ·rw[Fa hm];have hs:Xf (zV (wrS x1++E.drop 4)) l=false:=by
       cases hs:Xf (zV (wrS x1++E.drop 4)) l with
       |false=>rfl
       |true=>exact absurd (qh.1 hs) hne
      simp only[show((0:Int) != 0)=false from rfl,Cb,zU,same_eq (show(zV (wrS x1++E.drop 4)).length<=big by omega),hs,Aa,Ja,Ha,si]
theorem zAS(x:zb):Qq (Qf x)=x.text.length+x.unit.length+5:=by unfold Qf;simp only[Qq,bPV];omega
theorem aI: ∀(l:List zb),l.length<=Ej (l.map Qf)/\ ∀t∈l,t.text.length+t.unit.length<=Ej (l.map Qf)
 |[]=>⟨Xd _,fun t ht=>by cases ht⟩
 |t::l=>by
  obtain⟨h1,h2⟩:=aI l;rw[jc,Ej,zAS,Ka];refine⟨by omega,fun u hu=> ?_⟩;rcases Bb.1 hu with rfl|hu
  ·omega
  ·have:=h2 u hu;omega
theorem nP{x:List zb}{n:Nat}(h:Qq [.sl (x.map Qf)]<=n):Kh x n/\x.length<=n:=by simp only[Qq,bPV]at h;obtain⟨h1,h2⟩:=aI x;exact⟨fun t ht=>by have:=h2 t ht;omega,by omega⟩
end Go.Lv.VT
