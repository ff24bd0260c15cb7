import Derived.Test.YtiidaccdmolmkaaGreatDoorLb
import Derived.MapKept
set_option linter.all false
namespace Go.Lv
section
variable {I:Ip} {P:Program} {T:TT} {fk:List (Nat×List Kd)} {ι:cL} {w:World} {h:Nat->Option (EO I.C)} {R:Type} {r0:R} {q:Path} {g:Bool} {K:Kt I R}
def E8: ∀{cs:List (EV I.C)} {a:List (List UInt8)},fu cs=some a->cs=a.map .str
 |[],a,h=>by cases h;rfl
 |x::r,a,h=>by
  cases x<;>simp only[fu,reduceCtorEq]at h;split at h
  ·rename_i m hm;cases h;rw[E8 hm];rfl
  ·cases h
def zJj(d:g8 P T fk){t:Nat}{x i:ET I.C}(a:q=[]->g=true)(h0:AR T t x i q g K=some r0):
  OpV P g h K r0 λι w s=> ∃vx f,cx ι w x vx/\cx ι w i f/\s=Instr.index t vx f:=by
 unfold AR at h0;split at h0
 case h_2=>cases h0
 rename_i L i;split at h0
 ·rename_i l hk;have hk:=jf d hk (by simp);obtain⟨b,h0,hb⟩:=rz a h0;refine gs h0 λa ι w s A ⟨vx,f,E,hi,m⟩=>⟨_,?_,Ci _ _⟩;obtain rfl:=Ze rfl hi;obtain rfl:=Ze rfl E;obtain⟨o,j,p,y⟩:=JM (hb a);have c:(ByteArray.mk l.toArray)[i.toNat]? =some b:=by rw[getElem?_pos (ByteArray.mk l.toArray) i.toNat (by rw[gn];exact p)];rw[Na p]at j;simpa [ByteArray.getElem_eq_getElem_data] using j
  subst m;simp[Instr.index,asIntOf,run_underlying (Yn hk),o,c]
 ·rename_i n e cs hk;split at h0
  case h_2=>cases h0
  rename_i M k hl;obtain rfl:=E8 hl;obtain⟨hc,h1⟩:=zX h0;clear h0;simp only[Da]at hc;obtain rfl:=ma hc.1;have hs:=ma hc.2;have r:=(xh d (t:=e) (by rw[hs];rfl)).1;have k:=jf d k (by simp);obtain⟨s,h0,hb⟩:=rz a h1;refine gs h0 λa ι w O A ⟨vx,f,⟨X,F,v⟩,hi,m⟩=> ?_;obtain rfl:=Ze rfl hi;obtain⟨o,j,p,y⟩:=JM (hb a);obtain⟨u,hu,J⟩:=v.2 i.toNat (.str s) (by rw[Ta,j];rfl);subst m;subst F;refine⟨u,?_,J⟩;simp only[Instr.index,asIntOf,Sem.run_bind,Sem.run_pure,Result.andThen_ok,run_underlying (gp (jf d hk (by simp)))];simp only[o,y,and_self,He,Sem.run_bind,Q8 (P:=P) (t:=e) (by omega),Result.andThen_ok,<-r,hs,Jf];exact YI (by rw[k];simp) (by rw[k];rfl) hu
 ·cases h0
def Sv{id n:Nat}{m:Option (Nat×Nat)}{b:Option Nat}{k:Nat}(e:ι id= .live b k n){v:Value}(h:li ι w (ι id) m v): ∃a c,v= .slice a (match m with|none=>n|some x=>x.2) c:=by rw[e]at h;cases m<;>rcases h with⟨_,h1,rfl⟩|⟨_,c,_,_,a,_,rfl,_⟩<;>first|exact⟨_,_,by rw[<-h1]⟩|exact⟨_,_,rfl⟩
def zQr(j:g8 P T fk){t:Nat}{x:ET I.C}(ty:TypeId)(h0:lenE (T.at t).kd h x K=some r0):OpV P g h K r0 λι w s=> ∃vx,cx ι w x vx/\s=Builtin.len_ #[t] ty #[vx]:=by
 generalize hk:(T.at t).kd=kd at h0;have hk:=λhb=>jf j hk hb;have sl: ∀{e a n c w},kd= .sl e->(Builtin.len_ #[t] ty #[.slice a n c]).run P w= .ok (.int .i64 n) w:=λe=>by simp[Builtin.len_,run_underlying (mh (e▸hk (by rw[e];simp))),goInt]
 unfold lenE at h0;split at h0
 ·refine gs h0 λ_ ι w s _ ⟨vx,f,d⟩=>⟨_,?_,Ci _ _⟩;obtain rfl:=Ze rfl f;subst d;simp[Builtin.len_,run_underlying (Yn (hk (by simp))),goInt,gn]
 ·refine gs h0 λ_ ι w s _ ⟨vx,⟨_,f⟩,d⟩=>⟨_,?_,Ci _ _⟩;cases f with
  |sl _ a n c k b o val hn=>rw[d,sl rfl,hn,Xa]
 ·refine gs h0 λ_ ι w s _ ⟨vx,f,d⟩=>⟨_,?_,Ci _ _⟩;obtain rfl:=Ze rfl f;rw[d,sl rfl];rfl
 ·split at h0<;>first
   |(cases h0;done)
   |(rename_i hid
     refine gs h0 λ_ ι w s i ⟨vx,⟨_,f⟩,d⟩=>⟨_,?_,Ci _ _⟩;obtain⟨b,h3,_⟩:=(Zu rfl).1 (i.2 _ (by simp) _ hid);obtain⟨a,c,rfl⟩:=Sv (n:=_) h3 f;rw[d,sl rfl];simp[Zl,Yf,Lf 1])
 ·split at h0<;>first
   |(cases h0;done)
   |(rename_i hid
     refine gs h0 λ_ ι w s i ⟨vx,⟨_,f⟩,d⟩=>⟨_,?_,Ci _ _⟩;obtain⟨b,h3,_⟩:=(Zu rfl).1 (i.2 _ (by simp) _ hid);obtain⟨a,c,rfl⟩:=Sv (n:=_) h3 f;rw[d,sl rfl])
 ·refine gs h0 λ_ ι w s _ ⟨vx,f,d⟩=>⟨_,?_,Ci _ _⟩;subst d;simp[Builtin.len_,run_underlying (gp (hk (by simp))),goInt]
 ·cases h0
def Bnd(v:Option Value)(n:Option Int):Prop:=(v=none/\n=none)\/ ∃k m,v=some (.int k m)/\n=some m
def sM{lo hi mx:Option Int}{n:Nat}(h:Il lo hi mx n=true):0<=lo.getD 0/\lo.getD 0<=hi.getD n/\hi.getD n<=mx.getD n/\mx.getD n<=n/\(mx≠none->hi≠none):=by unfold Il at h;split at h<;>simp only[Da,aa,reduceCtorEq]at h<;>simp<;>omega
def I6{α:Type}(l:List α)(lo hi:Option Int):cutL l lo hi=(l.take (hi.getD l.length).toNat).drop (lo.getD 0).toNat:=by cases lo<;>cases hi<;>simp[cutL]
def RG{t e:Nat}(hk:cI P t= .sl e)(hs:0<P.cellsOf e){a:Option Addr}{n c:Nat}(hc:n<=c){lo hi mx:Option Value}{l b m:Option Int}(h1:Bnd lo l)(h2:Bnd hi b)(h3:Bnd mx m)(h:Il l b m n=true):
  (Instr.sliceAt t (.slice a n c) lo hi mx).run P w= .ok (.slice (if(m.map Int.toNat).getD c=(l.getD 0).toNat then a else a.map (·.add ((l.getD 0).toNat*P.cellsOf e))) ((b.getD n).toNat - (l.getD 0).toNat) ((m.map Int.toNat).getD c - (l.getD 0).toNat)) w/\
   (l.getD 0).toNat<=(b.getD n).toNat/\(b.getD n).toNat<=n/\(b.getD n).toNat<=(m.map Int.toNat).getD c/\(m.map Int.toNat).getD c<=c:=by
 obtain⟨i,j,d,f,k⟩:=sM h;have hb:=FO (P:=P) (w:=w) (isSlice:=true) h1 h2 h3 i j d f hc k;refine⟨by simp[Instr.sliceAt,Instr.slice,run_underlying (mh hk),hb,Q8 hs],by omega,by omega,?_,?_⟩<;>cases m<;>simp at d f ⊢ <;>omega
def gk.cut{b:Option Nat}{k n c L H M:Nat}{a:Option Addr}(h:gk w b k 0 n (.slice a n c))(h1:L<=H)(h2:H<=n)(h3:H<=M)(h4:M<=c):gk w b k L (H - L) (.slice (if M=L then a else a.map (·.add (L*k))) (H - L) (M - L)):=by
 rcases h with⟨rfl,rfl,e⟩|⟨j,m,ty,sz,o,rfl,e,d,hc,l,f,i⟩<;>cases e
 ·obtain rfl:M=0:=by omega
  exact .inl ⟨rfl,by omega,by simp;omega⟩
 ·refine .inr ⟨j,M - L,ty,sz,_,rfl,rfl,?_,by omega,by omega,f,?_⟩
  ·by_cases e:M=L
   ·exact .inl (by omega)
   ·rw[Ka e,d.resolve_left (by omega)];exact .inr (by simp[addr_add])
  ·exact Jc (Rc _ (by omega)) i
def zLg(hI:cU P I)(r:g8 P T fk){t:Nat}{x:ET I.C}{l v m:Option Int}(f:q=[]->g=true)(h0:dQ T h t x l v m q g K=some r0):
  OpV P g h K r0 λι w s=> ∃vx lo hi mx,cx ι w x vx/\Bnd lo l/\Bnd hi v/\Bnd mx m/\s=Instr.sliceAt t vx lo hi mx:=by
 unfold dQ at h0;split at h0
 ·rename_i s hk;have hk:=jf r hk (by simp);split at h0
  case h_2=>cases h0
  obtain⟨hc,h0⟩:=Tj f h0;refine gs h0 λf ι w L E ⟨vx,lo,hi,mx,d,b1,b2,i,p⟩=> ?_;obtain rfl:=Ze rfl d;obtain⟨Z,g2,Q,g4,g5⟩:=sM (hc f);obtain rfl:mx=none:=by rcases i with e|⟨_,_,_,e⟩<;>simp_all
  have hb:=FO (P:=P) (w:=w) (isSlice:=false) (cap:=s.length) b1 b2 i Z g2 Q g4 (Db _) g5;refine⟨_,?_,Tv _⟩;have e:(ByteArray.mk s.toArray).extract (l.getD 0).toNat (v.getD ↑s.length).toNat=⟨(cutL s l v).toArray⟩:=by rw[Lib.extract_eq,I6];simp[List.drop_take]
  subst p;simp only[Instr.sliceAt,Instr.slice,Sem.run_bind,run_underlying (Yn hk),Result.andThen_ok];simp[gn,hb,e]
 ·rename_i e u y hk;have hk:=jf r hk (by simp);obtain⟨hc,h0⟩:=zX h0;simp only[Da]at hc;obtain rfl:=ma hc.1;obtain⟨_,hs⟩:=xh r hc.2;have M: ∀{ι w vx lo hi mx},Il l v m (y.length:Nat)=true->cx ι w (.c (.sl e y)) vx->Bnd lo l->Bnd hi v->Bnd mx m-> ∃a n c,(Instr.sliceAt t vx lo hi mx).run P w= .ok (.slice a n (c - (l.getD 0).toNat)) w/\n=(v.getD y.length).toNat - (l.getD 0).toNat/\(∀b,m=some b->c=b.toNat)/\cX (fm ι w) w (.sl ((cutL y l v).map (I.full e))) (.slice a n (c - (l.getD 0).toNat)):=by
   intro ι w vx lo hi mx hc d b1 b2 i;obtain⟨_,d⟩:=d;have d:cX (fm ι w) w (.sl (y.map (I.full e))) vx:=d;obtain⟨a,n,c,rfl,hn,F⟩: ∃a n c,vx= .slice a n c/\n=y.length/\n<=c:=by cases d with|sl _ a n c k b o val hn F=>exact⟨a,n,c,rfl,by rw[hn,Xa],F⟩
   subst hn;obtain⟨O,U,V,W,Y⟩:=RG (w:=w) hk hs (a:=a) F b1 b2 i hc;refine⟨_,_,_,O,rfl,λb e=>by rw[e];rfl,?_⟩;have:=zNN d (k:=P.cellsOf e) (λrow hr=>by obtain⟨z,_,rfl⟩:=Rb.1 hr;exact hI.len e z) U W V Y
   rwa [I6,List.map_drop,Pf]
  split at h0
  ·obtain⟨hc,h0⟩:=Tj f h0;refine gs h0 λf ι w L E ⟨vx,lo,hi,mx,d,b1,b2,i,p⟩=> ?_;obtain⟨a,n,c,k1,_,_,k2⟩:=M (hc f) d b1 b2 i;exact⟨_,p▸k1,rfl,k2⟩
  ·split at h0
   case h_2=>cases h0
   obtain⟨hc,h0⟩:=Tj f h0;refine gs h0 λf ι w L E ⟨vx,lo,hi,mx,d,b1,b2,i,p⟩=> ?_;have hc:=hc f;simp only[Da,aa]at hc;obtain⟨a,n,c,k1,k3,k4,k2⟩:=M hc.1 d b1 b2 i;refine⟨_,p▸k1,rfl,k2,_,_,by rw[k3,k4 _ rfl,hc.2];rfl⟩
 ·rename_i e hk;have hk:=jf r hk (by simp);obtain⟨hs,h0⟩:=zX h0;obtain⟨_,hs⟩:=xh r hs;obtain⟨hc,h0⟩:=Tj f h0;refine gs h0 λf ι w L E ⟨vx,lo,hi,mx,d,b1,b2,i,p⟩=> ?_;obtain rfl:=Ze rfl d;obtain⟨O,U,V,W,Y⟩:=RG (w:=w) hk hs (a:=none) (Db 0) b1 b2 i (hc f);refine⟨.slice none 0 0,?_,rep1 rfl rfl⟩;rw[p,O];congr 2<;>first|omega|simp
 ·rename_i e id hk;have hk:=jf r hk (by simp);split at h0
  case h_2=>cases h0
  rename_i u y hid;obtain⟨hc,h0⟩:=zX h0;simp only[Da]at hc;obtain rfl:=ma hc.1;obtain⟨_,hs⟩:=xh r hc.2;obtain⟨hc,h0⟩:=Tj f h0;refine gs h0 λf ι w L E ⟨vx,lo,hi,mx,⟨_,d⟩,b1,b2,i,p⟩=> ?_;obtain⟨b,h3,_⟩:=(Zu rfl).1 (E.2 _ (by simp) _ hid);have j:(Zl (.sl e y:EO I.C)).length=y.length:=Xa ..;rw[j]at h3;have d:li ι w (ι id) none vx:=d;rw[h3]at d;have d:gk w b (P.cellsOf e) 0 y.length vx:=d;obtain⟨a,c,rfl,a3⟩: ∃a c,vx= .slice a y.length c/\y.length<=c:=by
   rcases d with⟨_,h1,rfl⟩|⟨_,c,_,_,a,_,rfl,_,h4,_⟩
   ·exact⟨_,_,by rw[h1],by omega⟩
   ·exact⟨_,_,rfl,h4⟩
  obtain⟨O,U,V,W,Y⟩:=RG (w:=w) hk hs (a:=a) a3 b1 b2 i (hc f);refine⟨_,p▸O,rfl,?_⟩;show li ι w (ι id) (some _) _;rw[h3];exact d.cut U V W Y
 ·rename_i n e id row cell hk;have hk:=jf r hk (by simp);split at h0
  case h_2=>cases h0
  rename_i u y hid;obtain⟨hc,h1⟩:=zX h0;clear h0;simp only[Da]at hc;obtain⟨⟨⟨⟨c1,c2⟩,c3⟩,c4⟩,c5⟩:=hc;obtain rfl:=ma c1;obtain rfl:=ma c3;obtain rfl:=ma c4;have c5:=Kc c5;obtain⟨_,hs⟩:=xh r c2;obtain⟨hc,h1⟩:=Tj f h1;refine gs h1 λf ι w L E ⟨vx,lo,hi,mx,d,b1,b2,i,p⟩=> ?_;have hc:=hc f;rw[Da]at hc;have hn:=ma hc.2;obtain⟨Z,g2,Q,g4,g5⟩:=sM hc.1;have A:=FO (P:=P) (w:=w) (isSlice:=false) b1 b2 i Z g2 Q g4 (Db n) g5;simp only[Option.map_none,Option.getD_none]at A Q;obtain⟨b,h3,hb⟩:=(Zu rfl).1 (E.2 _ (by simp) _ hid);have d:gb (ι id) 0 0 vx:=d.2;rw[h3]at d;obtain⟨b',rfl,rfl⟩:=d;have j:(Zl (.sl e y:EO I.C)).length=n:=(Xa ..).trans hn;rw[j]at h3;have J:kE P (.sl e y:EO I.C)=P.cellsOf e:=rfl;refine⟨.slice (some (if n=(l.getD 0).toNat then⟨b',0,none⟩else(⟨b',0,none⟩:Addr).add ((l.getD 0).toNat*P.cellsOf e))) ((v.getD n).toNat - (l.getD 0).toNat) (n - (l.getD 0).toNat),?_,rfl,?_⟩
  ·rw[p];simp[Instr.sliceAt,run_underlying (gp hk),Instr.sureAddr,A,Q8 hs]
  ·show li ι w (ι id) (some _) _;rw[h3];rcases hb.2 with⟨q,_⟩|⟨b2,cur,fr,ty2,q,q1,_,q2,_⟩<;>cases q;rw[Xa,j,J]at q2;refine .inr ⟨b',n - (l.getD 0).toNat,ty2,cur.size,_,rfl,rfl,?_,by omega,by unfold maxLen;omega,by simp[World.shape?,q1],?_⟩
   ·by_cases e':n=(l.getD 0).toNat
    ·exact .inl (by omega)
    ·rw[Ka e'];exact .inr (by simp[addr_add,J])
   ·rw[J];exact Jc (Rc _ (by omega)) q2
 ·cases h0
def kX{mx:Bool}{k:IntKind}: ∀(as:List (ET I.C)) (m:Int),CG mx k K m as=some r0->OpV P g h K r0 λι w s=> ∃vs:List Value,vs.length=as.length/\(∀(j:Nat) (t:ET I.C),as[j]? =some t-> ∃u,vs[j]? =some u/\cx ι w t u)/\s=vs.foldlM (if mx=true then Builtin.max2 else Builtin.min2) (.int k m)
 |[],m,h0=>by refine gs h0 λ_ ι w s _ ⟨vs,h1,_,d⟩=>⟨_,?_,Ci _ _⟩;rw[d,Gc h1];simp
 | .agg _::_,_,h0=>by cases h0
 | .c y::r,m,h0=>by
  cases y<;>first|(cases h0;done)|skip
  rename_i k' n;obtain⟨hk,h1⟩:=zX (show cond (eqIK k k') (CG mx k K (mmE mx m n) r) none=some r0 from h0);obtain rfl:=Pt hk;obtain⟨res,a,b,c⟩:=kX r (mmE mx m n) h1;refine⟨res,a,b,λe ι w s f ⟨vs,h1,h2,d⟩=> ?_⟩;cases vs with
  |nil=>cases h1
  |cons v vs=> obtain⟨u,hu,hr⟩:=h2 0 _ rfl;cases hu;obtain rfl:=Ze rfl hr;obtain⟨z,i,l⟩:=c e ι w _ f ⟨vs,by simpa using h1,λj t ht=>h2 (j+1) t ht,rfl⟩;refine⟨z,?_,l⟩;rw[d,List.foldlM_cons,Sem.run_bind];rw[show((if mx=true then Builtin.max2 else Builtin.min2) (.int k m) (.int k n)).run P w= .ok (.int k (mmE mx m n)) w by cases mx<;>simp[Builtin.max2,Builtin.min2,mmE]];exact i
def TU{mx:Bool}{as:List (ET I.C)}(ts:Array TypeId)(a:TypeId)(h0:WE mx as K=some r0):
  OpV P g h K r0 λι w s=> ∃vs:List Value,vs.length=as.length/\(∀(j:Nat) (t:ET I.C),as[j]? =some t-> ∃u,vs[j]? =some u/\cx ι w t u)/\s=if mx=true then Builtin.max_ ts a vs.toArray else Builtin.min_ ts a vs.toArray:=by
 unfold WE at h0;split at h0
 ·rename_i k m r;refine(kX _ _ h0).mono λι w s ⟨vs,h1,h2,b⟩=> ?_;cases vs with
  |nil=>cases h1
  |cons v vs=> obtain⟨u,hu,hr⟩:=h2 0 _ rfl;cases hu;obtain rfl:=Ze rfl hr;refine⟨vs,by simpa using h1,λj t ht=>h2 (j+1) t ht,?_⟩;rw[b];cases mx<;>rfl
 ·cases h0
end
section
variable {I:Ip} {P:Program} {T:TT} {fk:List (Nat×List Kd)} {ι:cL} {w w':World} {h:Nat->Option (EO I.C)} {nx:Nat} {R:Type} {r0:R} {q:Path} {g:Bool} {K:Kt I R}
def OpD(P:Program)(g:Bool)(h:Nat->Option (EO I.C))(nx:Nat)(K:Kt I R)(r0:R)(A:cL->World->Sem Value->Prop):Prop:=
 ∃res,K res=some r0/\(g=false->res.up=[])/\(g=true-> ∀ι w s,Wf ι w->Hd P h (res.rd++res.up.map (·.1)) ι w->(∀j,j<res.k->ι (nx+j)= .free)->A ι w s-> ∃v w',s.run P w= .ok v w'/\Done P ι w nx res v w')
def Hd.mono{l m:List Nat}(a:Hd P h l ι w)(hm: ∀i∈m,i∈l):Hd P h m ι w:=⟨a.1,λi hi=>a.2 i (hm i hi)⟩
def OpV.opd{A:cL->World->Sem Value->Prop}(h1:OpV P g h K r0 A):OpD P g h nx K r0 A:=
 let⟨res,a,b,c⟩:=h1
 ⟨res,a,λ_=>b,λd ι w s W e _ f=>by
  obtain⟨v,e1,e2⟩:=c d ι w s (e.mono λi hi=>Xe _ hi) f;refine⟨v,w,e1,?_⟩;obtain⟨x,up,rd,k⟩:=res;cases b;exact .same W e2⟩
def opd {x:EL I.C}{up:eE I.C}{rd:List Nat}{k:Nat}{A:cL->World->Sem Value->Prop}(h0:K ⟨x,up,rd,k⟩=some r0)(hu:g=false->up=[])
  (h1:g=true-> ∀ι w s,Wf ι w->Hd P h (rd++up.map (·.1)) ι w->(∀j,j<k->ι (nx+j)= .free)->A ι w s-> ∃v w',s.run P w= .ok v w'/\Done P ι w nx ⟨x,up,rd,k⟩ v w'):OpD P g h nx K r0 A:=⟨_,h0,hu,h1⟩
def fr0{k:Nat}(h: ∀j,j<k+1->ι (nx+j)= .free):ι nx= .free:=h 0 (by omega)
def i6(ι:cL)(w:World)(R b:List (List (EV I.C))):Prop:=b.length=R.length/\ ∀(i:Nat) (r a:List (EV I.C)),R[i]? =some r->b[i]? =some a->a.length=r.length/\ ∀(j:Nat) (x c:EV I.C),r[j]? =some x->a[j]? =some c-> ∀v,ef ι w x v->ef ι w c v
def i6.refl(R:List (List (EV I.C))):i6 ι w R R:=⟨rfl,λi r a h h'=>by rw[h]at h';cases h';exact⟨rfl,λj x b h h' v=>by rw[h]at h';cases h';exact id⟩⟩
def i6.app{R b S S':List (List (EV I.C))}(h1:i6 ι w R b)(h2:i6 ι w S S'):i6 ι w (R++S) (b++S'):=by
 refine⟨by simp[h1.1,h2.1],λi r c hr a=> ?_⟩;rw[Fe]at hr a;rw[h1.1]at a;split at hr<;>rename_i hi
 ·rw[La hi]at a;exact h1.2 i r c hr a
 ·rw[Ka hi]at a;exact h2.2 _ r c hr a
def Qf.les{k:Nat}{R b:List (List (EV I.C))}{cur:Array Value}(h:Qf ι w k R cur)(hl:i6 ι w R b):Qf ι w k b cur:=by
 have row: ∀(i:Nat) a,b[i]? =some a-> ∃r,R[i]? =some r:=λi a h'=>⟨_,Na (by rw[<-hl.1];exact(Ua.1 h').1)⟩;refine⟨λa c=> ?_,λi a j e hi d=> ?_⟩
 ·obtain⟨i,hi,rfl⟩:=Rf c;obtain⟨r,hr⟩:=row i _ (Na hi);rw[(hl.2 i r _ hr (Na hi)).1,h.1 r (Ob hr)]
 ·obtain⟨r,hr⟩:=row i a hi;obtain⟨e1,e2⟩:=hl.2 i r a hr hi;have hp:=Na (l:=r) (i:=j) (by rw[<-e1];exact(Ua.1 d).1);obtain⟨v,a1,a2,f⟩:=h.2 i r j _ hr hp;exact⟨v,a1,a2,e2 j _ e hp d v f⟩
def aF(hI:cU P I){t:Nat}{cs:List (EV I.C)}{x:I.C t}(h:I.made t cs=some x):cs.length=P.cellsOf t/\ ∀ι w,i6 ι w [cs] [I.exp t x]:=by
 obtain⟨h1,h2,h3⟩:=hI.made t cs x h;rw[hI.len]at h2;refine⟨h2,λι w=>⟨rfl,λi r d hr c=> ?_⟩⟩;obtain⟨rfl,rfl⟩:r=cs/\d=I.exp t x:=by cases i<;>simp at hr c;exact⟨hr.symm,c.symm⟩
 refine⟨by rw[Um hI,h2],λj a b ha hb v hv=> ?_⟩;obtain⟨e1,e2⟩:=Sm hI hb;exact(Cj e2).2 ((h3 j _ _ (by rw[Ta,ha];rfl) e1).rep ((Cj (h1 a (Ob ha))).1 hv))
def yM{x:ET I.C}{v:Value}(a:cx ι w x v):ip ι w x.cells v.cells:=by
 cases x with
 |c x=>
  have e:v.cells= #[v]:=by have h1:=a.1;cases v<;>first|rfl|(simp[Value.oneCell']at h1)
  rw[e];refine⟨rfl,λj c b=> ?_⟩;cases j with
  |zero=>simp[ET.cells]at b;subst b;exact⟨v,rfl,a⟩
  |succ n=>simp[ET.cells]at b
 |agg xs=>obtain⟨vs,rfl,h1⟩:=a;exact h1
def ip.cells{xs:List (EV I.C)}{X:Array Value}(h:ip ι w xs X){k:Nat}(hk:xs.length=k):Qf ι w k [xs] X:=by
 refine⟨λrow hr=>by simp at hr;rw[hr,hk],λi row j x hi a=> ?_⟩;cases i with
 |zero=>simp at hi;subst hi;rw[Uf,Gd];exact h.2 j x a
 |succ n=>simp at hi
def ip.one{xs:List (EV I.C)}{X:Array Value}(h:ip ι w xs X): ∀v∈X.toList,v.oneCell'=true:=λv hv=>by obtain⟨j,c,rfl⟩:=Rf hv;obtain⟨u,a,b,_⟩:=h.2 j _ (Na (by rw[<-h.1];simpa using c));rw[<-Re,Na c]at a;rw[Option.some.inj a];exact b
def zHy {id i c:Nat}{o:EO I.C}(W:Wf ι w)(hh:Sg P ι w id o){row:List (EV I.C)}(hi:(Zl o)[i]? =some row){t:Nat}(hb:cI P t≠ .bad){x:ET I.C}(hl:x.cells.length=P.cellsOf t)(hc:c+P.cellsOf t<=row.length)
  {va vx:Value} (ha:cx (I:=I) ι w (.c (.optr id i c)) va) (hx:cx ι w x vx) {o':EO I.C} (h1:kE P o'=kE P o) (h2:tyE o'=tyE o) (h3: ∀w',i6 ι w' ((Zl o).set i (row.take c++x.cells++row.drop (c+P.cellsOf t))) (Zl o')):
  ∃b w',ι id= .live (some b) (kE P o) (Zl o).length/\(Instr.storeAt t va vx).run P w= .ok () w'/\Chg w w' b/\Sg P ι w' id o':=by
 obtain⟨b,cur,fr,ty2,L,U,g3,g4,g5,M,g7⟩:=hh.row hi;have ha:gb (ι id) i c va:=ha.2;rw[L]at ha;obtain⟨b',e,rfl⟩:=ha;cases e;have p:=yM hx;have r:vx.cells.size=P.cellsOf t:=by rw[p.1,hl]
 obtain⟨d,hd⟩:=Fs hb;obtain⟨a3,A⟩:=KF hd;have E:=(Ua.1 hi).1;have F:i*kE P o+c+vx.cells.size<=cur.size:=by have h5:(i+1)*kE P o<=(Zl o).length*kE P o:=Rc _ E;rw[mf]at h5;omega
 have f:=RJ (P:=P) (g:=b) (o:=i*kE P o+c) (t:=ty2) (fr:=fr) vx.cells.toList 0 cur w U g3.1.out (by simpa using F) p.one;simp only[Od,Pe]at f;generalize k:(cur.toList.take (i*kE P o+c)++vx.cells.toList++cur.toList.drop (i*kE P o+c+vx.cells.size)).toArray=cur' at f;have m:cur'.size=cur.size:=by rw[<-k];simp only[df,Ea,Oc,Ic,Pe];omega
 have n: ∀j:Nat,cur'[j]? =if i*kE P o+c<=j/\j<i*kE P o+c+P.cellsOf t then vx.cells[j - (i*kE P o+c)]? else cur[j]? :=by intro j;have:=sD (l:=cur.toList) (v:=vx.cells.toList) (off:=i*kE P o+c) (by simpa using F) j;rw[Pe,r,Re (xs:=vx.cells),Re (xs:=cur)]at this;rw[<-this,<-k,r];simp
 have J:=iN (w:=w) (cur':=cur') U m;obtain⟨S,W'⟩:=Fv (T:=(· =id)) W L rfl J;refine⟨b,_,L,?_,J,?_⟩
 ·simp only[Instr.storeAt,Instr.sureAddr,Sem.run_bind,Sem.run_pure,Result.andThen_ok,storeVar,Dx A];rw[Ka (by simp[r])];exact f
 ·refine⟨some b,?_,?_⟩
  ·rw[h1,(h3 w).1,List.length_set];exact L
  rw[h1,h2];have V:Qf ι w (kE P o) ((Zl o).set i (row.take c++x.cells++row.drop (c+P.cellsOf t))) cur':=by
   refine⟨λO Y=> ?_,λQ O j y a s=> ?_⟩
   ·rcases List.mem_or_eq_of_mem_set Y with h4|h4
    ·exact M.1 O h4
    ·subst h4;simp only[Ea,Oc,Ic];omega
   ·rw[List.getElem?_set]at a;split at a
    ·rename_i e;subst e
     try rw[La E]at a
     cases a;rw[<-hl,sD (by rw[hl];exact hc),hl]at s;rw[n];split at s<;>rename_i a6
     ·obtain⟨u,a1,a2⟩:=p.2 _ y s;refine⟨u,?_,a2⟩;rw[La (by omega),<-a1];congr 1;omega
     ·obtain⟨u,a1,a2⟩:=M.2 i row j y hi s;exact⟨u,by rw[Ka (by omega)];exact a1,a2⟩
    ·rename_i a7;obtain⟨u,a1,a2⟩:=M.2 Q O j y a s;refine⟨u,?_,a2⟩;have a8:j<kE P o:=by rw[<-M.1 O (Ob a)];exact(Ua.1 s).1
     rw[n,Ka,a1];rintro⟨q1,q2⟩;rcases Ec Q i with Z|a9
     ·have:(Q+1)*kE P o<=i*kE P o:=Rc _ Z;rw[mf]at this;omega
     ·have:(i+1)*kE P o<=Q*kE P o:=Rc _ (by omega);rw[mf]at this;omega
  exact(V.les (h3 w)).blk S (setRow_heap w b cur cur' _ fr U) (by rw[m];exact g3) (by rw[m,(h3 w).1,List.length_set];exact g5)
def H8 {id i c:Nat}{o:EO I.C}(W:Wf ι w)(e:Sg P ι w id o){row:List (EV I.C)}(hi:(Zl o)[i]? =some row){t:Nat}(hb:cI P t≠ .bad){x:ET I.C}(hl:x.cells.length=P.cellsOf t)(hc:c+P.cellsOf t<=row.length)
  {va vx:Value} (ha:cx (I:=I) ι w (.c (.optr id i c)) va) (f:cx ι w x vx) {o':EO I.C} (ho:isR o'=true) (h1:kE P o'=kE P o) (h2:tyE o'=tyE o) {rd:List Nat} (h3: ∀w',i6 ι w' ((Zl o).set i (row.take c++x.cells++row.drop (c+P.cellsOf t))) (Zl o')):
  ∃w',(Instr.storeAt t va vx).run P w= .ok () w'/\Done P ι w nx ⟨.any,[(id,o')],rd,0⟩ undef w':=by
 obtain⟨b,w',k,hr,a,d⟩:=zHy W e hi hb hl hc ha f h1 h2 h3;obtain⟨S,l⟩:=Fv (T:=λj=>j∈[(id,o')].map (·.1)) W k (by simp) a;exact⟨w',hr,ι,S,l,trivial,λp hp=>by simp at hp;subst hp;exact(Zu ho).2 d,λ_ h _=>h⟩
def Inn.keep{ι':cL}{id e:Nat}{l:List (List (I.C e))}{S:List (Option (Nat×Nat))}(h:Inn P ι w id e l S)(c:Conv ι w ι' w'){a:Nat}(d: ∀b,ι.X b= .inn id->ι'.X b= .inn a/\w'.heap[b]? =w.heap[b]?):Inn P ι' w' a e l S:=
 ⟨h.1,h.2.1,λj m s hm hs=>by
  have:=h.2.2 j m s hm hs;cases s with
  |none=>exact this
  |some s=>
   obtain⟨f,⟨ty,i⟩,k⟩:=this;exact⟨(d _ f).1,⟨ty,c.shape _ _ i⟩,k.les (λn e=>by cases e;exact(d _ f).2) (Les.map (λ_ _ h=>h.conv c) _)⟩⟩
def zCL{α:Type}{l:List α}{i:Nat}{y:α}(h:l[i]? =some y)(z:α):l.set i z=l.take i++z::l.drop (i+1):=by rw[List.set_eq_take_append_cons_drop,La (Ua.1 h).1]
def nbad(i:TI):Bool:=match i.kd with| .bad=>false|_=>true
def zLn(hI:cU P I)(n:g8 P T fk){t:Nat}{a x:ET I.C}(p:q=[]->g=true)(h0:aQ (T.at t) h a x q K=some r0):
  ∃res,K res=some r0/\(g=false->res.up=[])/\(g=true-> ∀ι w va vx,Wf ι w->Hd P h (res.rd++res.up.map (·.1)) ι w->cx ι w a va->cx ι w x vx-> ∃w',(Instr.storeAt t va vx).run P w= .ok () w'/\Done P ι w nx res undef w'):=by
 unfold aQ at h0;split at h0
 case h_2=>cases h0
 rename_i id i c;have kd:nbad (T.at t)=true->T.at t=ti P t/\cI P t≠ .bad:=by intro h;have e:T.at t=ti P t:=Nl n (.inl λe=>by unfold nbad at h;rw[e]at h;cases h);refine⟨e,λr=> ?_⟩;unfold nbad at h;rw[e,show(ti P t).kd=cI P t from rfl,r]at h;cases h
 have d: ∀{o o':EO I.C} {row:List (EV I.C)} {res:OR I.C} {rd:List Nat},K res=some r0->res=⟨.any,[(id,o')],rd,0⟩->isR o=true->isR o'=true->h id=some o->(Zl o)[i]? =some row->Nat.beq x.cells.length (T.at t).sz=true->Nat.ble (c+(T.at t).sz) row.length=true->
   nbad (T.at t)=true->kE P o'=kE P o->tyE o'=tyE o->(∀ι w',i6 ι w' ((Zl o).set i (row.take c++x.cells++row.drop (c+(T.at t).sz))) (Zl o'))->
   ∃res,K res=some r0/\(g=false->res.up=[])/\(g=true-> ∀ι w va vx,Wf ι w->Hd P h (res.rd++res.up.map (·.1)) ι w->cx (I:=I) ι w (.c (.optr id i c)) va->cx ι w x vx-> ∃w',(Instr.storeAt t va vx).run P w= .ok () w'/\Done P ι w nx res undef w'):=by
  intro o o' row res rd s f ho j hid hi hl hc hb h1 h2 h3;subst f;refine⟨_,s,(λe=>by rw[p rfl]at e;cases e),λ_ ι w va vx W v ha A=> ?_⟩;obtain⟨e,hb⟩:=kd hb;have k:(T.at t).sz=P.cellsOf t:=by rw[e];rfl
  rw[k]at hl hc h3;exact H8 W ((Zu ho).1 (v.2 id (by simp) o hid)) hi hb (ma hl) (Kc hc) ha A j h1 h2 (h3 ι)
 split at h0
 ·rename_i ty cs hid;obtain⟨hc,h0⟩:=zX h0;simp only[Da]at hc;obtain⟨⟨⟨c1,c2⟩,c3⟩,c4⟩:=hc;refine d h0 rfl rfl rfl hid (row:=cs) (by rw[ma c1];rfl) c2 c3 c4 ?_ rfl λι w'=> ?_
  ·have:=Kc c3;have:=ma c2;simp only[kE,Ea,Oc,Ic];omega
  ·rw[ma c1];exact .refl _
 ·rename_i u l hid;obtain⟨y,m,h0⟩:=Ra.1 h0;have b:(Zl (.sl u l:EO I.C))[i]? =some (I.exp u y):=by show(l.map _)[i]? =_;rw[Ta,m];rfl
  obtain⟨hc,h0⟩:=zX h0;simp only[Da]at hc;obtain⟨⟨c2,c3⟩,c4⟩:=hc;have hs: ∀z:List (EV I.C),(Zl (.sl u l:EO I.C)).set i z=(l.take i).map (I.exp u)++z::(l.drop (i+1)).map (I.exp u):=λz=>by rw[zCL b,Pf,List.map_drop];rfl
  cases hp:x.cells.all DZ<;>rw[hp]at h0
  ·refine d h0 rfl rfl rfl hid b c2 c3 c4 rfl rfl λι w'=> ?_;rw[hs];exact .refl _
  ·obtain⟨z,E,h0⟩:=Ra.1 h0;refine d h0 rfl rfl rfl hid b c2 c3 c4 rfl rfl λι w'=> ?_;have e:Zl (.sl u (l.set i z):EO I.C)=(l.take i).map (I.exp u)++([I.exp u z]++(l.drop (i+1)).map (I.exp u)):=by show(l.set i z).map _=_;rw[zCL m,Tc];rfl
   rw[hs,e];exact(i6.refl _).app (((aF hI E).2 ι w').app (.refl _))
 ·rename_i u l1 cs l2 hid;obtain⟨hc,h0⟩:=zX h0;simp only[Da]at hc;obtain⟨⟨c2,c3⟩,c4⟩:=hc;obtain⟨e,h0⟩:=QJ h0;have e:=ma e;refine d h0 rfl rfl rfl hid (row:=cs) (by rw[e];simp[Zl]) c2 c3 c4 rfl rfl λι w'=> ?_;rw[e];have:(Zl (.slo u l1 cs l2:EO I.C)).set l1.length (cs.take c++x.cells++cs.drop (c+(T.at t).sz))=Zl (.slo u l1 (cs.take c++x.cells++cs.drop (c+(T.at t).sz)) l2):=by simp[Zl,List.set_append]
  rw[this];exact .refl _
 ·cases h0
end
section
variable {I:Ip} {P:Program} {T:TT} {fk:List (Nat×List Kd)} {ι:cL} {w w':World} {h:Nat->Option (EO I.C)} {nx:Nat} {R:Type} {r0:R} {q:Path} {g:Bool} {K:Kt I R}
def vM{v:Value}(h:v.oneCell'=true):k9 (I:=I) ι w (Ev v) v:=by have a: ∃x:EV I.C,Ev v=x/\ky x=some v:=⟨_,rfl,by unfold Ev;split<;>rfl⟩;obtain⟨x,e,b⟩:=a;rw[e];exact rep1 b h
def Cw{z:Array Value}(h: ∀u∈z,u.oneCell'=true):ip (I:=I) ι w (ep z.toList) z:=by
 refine⟨by simp[ep],λj x b=> ?_⟩;unfold ep at b;simp only[Ta,Sa]at b;obtain⟨u,hu,rfl⟩:=b;have a:z[j]? =some u:=by simpa using hu
 exact⟨u,a,vM (h u (Array.mem_of_getElem? a))⟩
def Vr(a:g8 P T fk){t:Nat}(h:(T.at t).zok=true): ∃i z,P.info? t=some i/\i.zero=some z/\z.cells.size=P.cellsOf t/\(∀u∈z.cells,u.oneCell'=true)/\(T.at t).zero=z.cells.toList:=by have e:=Nl a (.inr (.inl h));rw[e]at h ⊢;exact aL h
def kD{id b k n:Nat}(e:ι id= .live (some b) k n):de (I:=I) ι w (.v (.c (.optr id 0 0))) (.pointer (some ⟨b,0,none⟩)):=R3 e
def zLR(d:g8 P T fk){t:Nat}(j:q=[]->g=true)(k:q=[])(b:(T.at t).zok=true)(h0:K ⟨.v (.c (.optr nx 0 0)),[(nx, .cells t (ep (T.at t).zero))],[],1⟩=some r0):OpD P g h nx K r0 λ_ _ s=>s=Instr.alloc t true (.tuple #[]):=by refine opd h0 (λe=>by grind) λ_ ι w s W l hf f=> ?_;obtain⟨i,z,hi,b,hs,h1,h2⟩:=Vr d b;rw[h2];have hr:=Cw (I:=I) (ι:=ι) (w:=w) h1;have a:(ep z.cells.toList:List (EV I.C)).length=z.cells.size:=hr.1.symm;refine⟨_,_,?_,Done.grow (o:= .cells t (ep z.cells.toList)) (cur:=z.cells) (fr:=(0,0)) W (fr0 hf) rfl (iq w _) (.inl rfl) (hr.cells rfl) (by simp[Zl,kE,a]) none (by simp) λ_ _ _ e=>kD e⟩;subst f;simp only[Instr.alloc,Sem.run_bind,Hw hi b,Result.andThen_ok,newVar,newRow,run_newObj,Sem.run_pure];rfl
def zRM{t:Nat}{x:ET I.C}(b:q=[]->g=true)(d:q=[])(h0:K ⟨.v (.c (.optr nx 0 0)),[(nx, .cells t x.cells)],[],1⟩=some r0):OpD P g h nx K r0 λι w s=> ∃v,cx ι w x v/\s=Instr.box t v:=by refine opd h0 (λe=>by grind) λ_ ι w s W f hf ⟨v,hv,a⟩=> ?_;have hr:=yM hv;refine⟨_,_,?_,Done.grow (o:= .cells t x.cells) (cur:=v.cells) (fr:=(0,0)) W (fr0 hf) rfl (iq w _) (.inl rfl) (hr.cells rfl) (by simp[Zl,kE,hr.1]) none (by simp) λ_ _ _ e=>kD e⟩;subst a;simp only[Instr.box,Sem.run_bind,newVar,newRow,run_newObj,Result.andThen_ok,Sem.run_pure];rfl
def dD(E:Operand->EL I.C)(q:Path)(ι:cL)(w:World)(parts:List (Nat×Operand))(V:Operand->Value):Prop:= ∀p∈parts,∀t,en q (E p.2)=some t->cx ι w t (V p.2)
def NE(a:Nat->Option (Nat×Nat)){E:Operand->EL I.C}{V:Operand->Value}: ∀(parts:List (Nat×Operand)) (ps:List (Nat×List (EV I.C))) (cs d:List (EV I.C)) (X:Array Value),
  DD E q parts=some ps->dD E q ι w parts V->ip ι w cs X->gy a ps cs=some d-> ∃m,Instr.fill a X (parts.map λp=>(p.1,V p.2))=some m/\ip ι w d m/\d.length=cs.length
 |[],ps,cs,d,X,h,_,e,hf=>by cases h;cases hf;exact⟨X,rfl,e,rfl⟩
 |(i,o)::r,ps,cs,d,X,h,u,e,hf=>by
  simp only[DD]at h;split at h
  case h_2=>cases h
  rename_i t l ht hl;cases h;have c2:=yM (u (i,o) (by simp) t ht);simp only[gy]at hf;cases hp:a i with
  |none=>grind
  |some z=>
   obtain⟨off,size⟩:=z;rw[hp]at hf;obtain⟨hc,hf⟩:=zX hf;simp only[Da]at hc;have f:=ma hc.1;have y:=Kc hc.2;simp only[Xb,Instr.fill,hp];have s:off+(V o).cells.size<=X.size:=by rw[c2.1,e.1];omega
   rw[Ka (by simp only[c2.1,f,ne_eq,not_true_eq_false,decide_false,Ac,aa,Nat.not_lt,gt_iff_lt];rw[e.1];omega)];rw[zLT];have b:=I9 off (V o).cells.toList 0 X (by grind);simp only[Od,Pe]at b;obtain⟨m,A,F,J⟩:=NE a r l _ d (((V o).cells.toList.zipIdx 0).foldl (λcs (c:Value×Nat)=>cs.setIfInBounds (off+c.2) c.1) X) hl (λp hp=>u p (Vb _ hp)) ⟨by
     rw[<-Pe,b];simp only[Ea,Oc,Ic,Pe];rw[e.1,c2.1];omega,λj x n=>by
     rw[<-f,sD (by omega)]at n;rw[<-Re,b];have:=sD (l:=X.toList) (v:=(V o).cells.toList) (off:=off) (by simpa using s) j;simp only[Pe]at this;rw[this];split at n<;>rename_i k
     ·rw[La (by rw[c2.1];exact k)];simpa using c2.2 _ x n
     ·rw[Ka (by rw[c2.1];exact k)];simpa using e.2 j x n⟩ hf
   exact⟨m,A,F,by grind⟩
def zH4(d:g8 P T fk){E:Operand->EL I.C}{t:Nat}{parts:Array (Nat×Operand)}(h0:iR T E q t parts.toList K=some r0):
  OpV P g h K r0 λι w s=> ∃V,dD E q ι w parts.toList V/\s=Instr.build t (parts.map λ(i,x)=>(i,V x)):=by
 have j: ∀V:Operand->Value,(parts.map λ(i,x)=>(i,V x)).toList=parts.toList.map λp=>(p.1,V p.2):=by simp
 unfold iR at h0;split at h0
 case h_1=>cases h0
 rename_i ps k;split at h0
 ·rename_i fs hk;obtain⟨l,hl,rfl⟩:=nX (jf d hk (by simp));obtain⟨cs,hc,h0⟩:=Zy h0;obtain⟨a,h0⟩:=zX h0;rw[Da]at a;obtain⟨i,z,hi,r,hs,b,c⟩:=Vr d a.1;rw[c]at hc;have hb: ∀f∈l.toList,T.at f.type=ti P f.type/\cI P f.type≠ .bad:=λf hf=>by have h3:nbad (T.at f.type)=true:=Ya.1 a.2 (f.offset,f.type) (Rb.2 ⟨f,hf,rfl⟩);have e:T.at f.type=ti P f.type:=Nl d (.inl λe=>by unfold nbad at h3;grind);refine⟨e,λJ=> ?_⟩;unfold nbad at h3;rw[e,show(ti P f.type).kd=cI P f.type from rfl,J]at h3;cases h3
  refine gs h0 λ_ ι w s _ ⟨V,u,v⟩=> ?_;obtain⟨o,f1,y,_⟩:=NE _ parts.toList ps _ cs _ k u (Cw b) hc;refine⟨.agg o,?_,o,rfl,y⟩;have A:(l.mapM (m:=Sem) λf=>do pure (f.offset,<-sizeOf f.type)).run P w= .ok (l.toList.map λf=>(f.offset,P.cellsOf f.type)).toArray w:=by rw[Array.mapM_eq_mapM_toList,Sem.run_map,MU (P:=P) (w:=w) l.toList λf hf=>(hb f hf).2];rfl
  have F:(λi:Nat=>((l.toList.map λf=>(f.offset,P.cellsOf f.type)).toArray)[i]?)=λi=>((l.toList.map λf=>(f.offset,f.type))[i]?).map λf=>(f.1,(T.at f.2).sz):=by
   funext i;simp only[List.getElem?_toArray,Ta,Option.map_map];cases hf:l.toList[i]? with
   |none=>rfl
   |some f=>simp[(hb f (Ob hf)).1,ti]
  subst v;simp only[Instr.build,Sem.run_bind,Hw hi r,Result.andThen_ok,run_underlying hl,A,j,F,f1,Sem.run_pure]
 ·rename_i n J hk;obtain⟨cs,hc,h0⟩:=Zy h0;obtain⟨a,h0⟩:=zX h0;rw[Da]at a;obtain⟨i,z,hi,r,hs,b,c⟩:=Vr d a.1;obtain⟨L,M⟩:=xh d a.2;rw[c,L]at hc;refine gs h0 λ_ ι w s _ ⟨V,u,v⟩=> ?_;obtain⟨o,f1,y,_⟩:=NE _ parts.toList ps _ cs _ k u (Cw b) hc;refine⟨.agg o,?_,o,rfl,y⟩;subst v;simp only[Instr.build,Sem.run_bind,Hw hi r,Result.andThen_ok,run_underlying (gp (jf d hk (by simp))),Q8 M,j,f1,Sem.run_pure]
 ·cases h0
def Ck(k:Nat):Nat->List (EV I.C)->List (List (EV I.C))
 |0,_=>[]
 |n+1,l=>l.take k::Ck k n (l.drop k)
def jG{k:Nat}: ∀(n:Nat) (l:List (EV I.C)) (i:Nat),(Ck k n l)[i]? =if i<n then some ((l.drop (i*k)).take k)else none
 |0,l,i=>by simp[Ck]
 |n+1,l,0=>by simp[Ck]
 |n+1,l,i+1=>by simp only[Ck,Kg,jG n,ae,Nat.succ_mul,Lf k,Nat.add_lt_add_iff_right]
def iG{k:Nat}: ∀(n:Nat) (l:List (EV I.C)),(Ck k n l).length=n
 |0,l=>rfl
 |n+1,l=>by simp[Ck,iG n]
def ip.chunks{cs:List (EV I.C)}{X:Array Value}{k n:Nat}(h:ip ι w cs X)(hl:cs.length=n*k):Qf ι w k (Ck k n cs) X:=by
 refine⟨λrow hr=> ?_,λi row j x hi a=> ?_⟩
 ·obtain⟨i,hi,rfl⟩:=Rf hr;have h1:=Na hi;rw[iG]at hi;rw[jG,La hi]at h1;rw[<-Option.some.inj h1];have:=XE (k:=k+1) (j:=0) hi (by omega);have:i*k+k<=n*k:=by rw[<-Nat.succ_mul];exact Rc _ hi
  simp;omega
 ·rw[jG]at hi;split at hi<;>cases hi;rw[Ee]at a;split at a
  ·rw[Wd]at a;exact h.2 _ x a
  ·cases a
def PU(hI:cU P I){t:Nat}: ∀{n:Nat} {cs:List (EV I.C)} {l:List (I.C t)},yu I t (P.cellsOf t) n cs=some l->l.length=n/\ ∀ι w,i6 ι w (Ck (P.cellsOf t) n cs) (l.map (I.exp t))
 |0,cs,l,h0=>by cases h0;exact⟨rfl,λ_ _=> .refl _⟩
 |n+1,cs,l,h0=>by simp only[yu]at h0;obtain⟨x,h1,h2⟩:=Ra.1 h0;obtain⟨c,h3,h4⟩:=Ra.1 h2;cases h4;obtain⟨a,b⟩:=PU hI h3;exact⟨by simp[a],λι w=>((aF hI h1).2 ι w).app (b ι w)⟩
def zC5{k:Nat}{z:Array Value}(f:z.size=k)(hk:0<k)(h1: ∀u∈z,u.oneCell'=true)(n:Nat):
  (List.replicate n (ep z.toList:List (EV I.C))).flatten.length=n*k/\ip (I:=I) ι w (List.replicate n (ep z.toList)).flatten ((Array.range (n*k)).map λi=>z[i%z.size]!):=by
 have d:(ep z.toList:List (EV I.C)).length=k:=by simp[ep,f]
 have a: ∀n,(List.replicate n (ep z.toList:List (EV I.C))).flatten.length=n*k:=by
  intro n
  induction n with
  |zero=>simp
  |succ n e=>grind
 have b: ∀n j x,(List.replicate n (ep z.toList:List (EV I.C))).flatten[j]? =some x->(ep z.toList)[j%k]? =some x:=by
  intro n
  induction n with
  |zero=>grind
  |succ n e=>
   intro j x h;rw[List.replicate_succ,Og,Fe,d]at h;split at h<;>rename_i c
   ·rw[xe c];exact h
   ·have:=e _ _ h
    rwa [show(j - k)%k=j%k by rw[<-Nat.mod_eq_sub_mod (by omega)]]at this
 refine⟨a n,by simp[a],λj x c=> ?_⟩;have l:j<n*k:=by rw[<-a];exact(Ua.1 c).1
 obtain⟨u,a1,a2⟩:=(Cw (I:=I) (ι:=ι) (w:=w) h1).2 _ x (b n j x c)
 grind
def Done.froze(hI:cU P I)(W:Wf ι w){e c:Nat}{l:List (I.C e)}{cur:Array Value}{ty:Nat}(g:i7 w w' (.cells cur ty (0,0)))(hc:Qf ι w (P.cellsOf e) (l.map (I.exp e)) cur)(hl:l.length<=c){rd:List Nat}{k:Nat}:
  Done P ι w nx ⟨.v (.c (.sl e l)),[],rd,k⟩ (.slice (some ⟨w.heap.size,0,none⟩) l.length c) w':=by
 have dom: ∀b,fm ι w b->fm ι w' b:=λb hb=>⟨by rw[g.size];have:=hb.1;omega,hb.2⟩;have S: ∀T,fW T ι w ι w':=λT=>⟨⟨g.wld.shape,dom,λb hb=>g.old hb.1⟩,g.os,g.tape,g.output,by rw[g.size];omega,λ_ _ _ _ _ e=>g.old (W.lt _ _ _ _ e).1,λ_ _=> .inl rfl,λ_ _ _=>rfl,λ_ _=>rfl,λ_ h=>h,λb a=>g.old (W.xlt b (Cv a))⟩;refine⟨ι,S _,⟨λi b k n e=>by rw[g.size];have:=W.lt _ _ _ _ e;grind,W.inj,W.glob.step (S λ_=>False),λb a=>by rw[g.size];have:=W.xlt b a;omega⟩,⟨rfl,?_⟩,by simp,λ_ h _=>h⟩;have f: ∀(i:Nat) row j x,(l.map (I.full e))[i]? =some row->row[j]? =some x-> ∃v,cur[i*P.cellsOf e+j]? =some v/\cX (fm ι w) w x v:=by intro i row j x hi d;simp only[Ta,Sa]at hi;obtain⟨y,m,rfl⟩:=hi;rw[hI.exp,Ta,Sa]at d;obtain⟨u,hu,rfl⟩:=d;obtain⟨v,a1,_,a2⟩:=hc.2 i _ j u (by grind) hu;exact⟨v,a1,(Cj (hI.pur _ _ _ (Ob hu))).1 a2⟩
 refine .sl _ _ _ _ (P.cellsOf e) w.heap.size 0 (λi j=>(cur[i*P.cellsOf e+j]?).getD undef) (by simp) hl (λ_=>rfl) (λ_=>⟨by rw[g.size];omega,ve λa=>by have:=W.xlt _ a;omega,λid k n e=>by have:=(W.lt _ _ _ _ e).1;omega⟩) (λrow hr=> ?_) (λi row j x hi d=> ?_) λi row j x hi d=> ?_
 ·obtain⟨y,_,rfl⟩:=Rb.1 hr;exact hI.len _ _
 all_goals obtain⟨v,a1,a2⟩:=f i row j x hi d
 ·rw[hU g.new,Gd,a1];rfl
 ·rw[a1];exact a2.mono dom λb hb=>g.old hb.1
def zuG(hI:cU P I)(A:g8 P T fk){E:Operand->EL I.C}{fz t len:Nat}{parts:Array (Nat×Operand)}(hg:q=[]->g=true)(h0:UO T E q fz nx t len parts.toList K=some r0):
  OpD P g h nx K r0 λι w s=> ∃V,dD E q ι w parts.toList V/\s=Instr.buildSlice t len (parts.map λ(i,x)=>(i,V x)):=by
 have b: ∀V:Operand->Value,(parts.map λx=>(x.1,V x.2)).toList=parts.toList.map λp=>(p.1,V p.2):=by simp
 unfold UO at h0;split at h0
 case h_2=>cases h0
 rename_i ps e F hk;split at h0
 case h_2=>cases h0
 rename_i cs hc;obtain⟨Y,h0⟩:=zX h0;simp only[Da]at Y;obtain⟨⟨c1,c2⟩,c3⟩:=Y;obtain⟨Z,u⟩:=xh A c2;obtain⟨i,z,hi,hz,hs,J,L⟩:=Vr A c3;have c1:=Kc c1;rw[Z]at c1 h0;rw[L,Z]at hc;have run: ∀{ι w V},dD E q ι w parts.toList V-> ∃a:Array Value,a.size=len*P.cellsOf e/\cs.length=len*P.cellsOf e/\Qf ι w (P.cellsOf e) (Ck (P.cellsOf e) len cs) a/\
   (Instr.buildSlice t len (parts.map λ(i,x)=>(i,V x))).run P w= .ok (.slice (some ⟨w.heap.size,0,none⟩) len len) {w with heap:=w.heap.push (.cells a e)}:=by
  intro ι w V d;obtain⟨zl,hX⟩:=zC5 (I:=I) (ι:=ι) (w:=w) hs u J len;obtain⟨a,f1,f2,y⟩:=NE _ parts.toList ps _ cs _ F d hX hc;rw[zl]at y;refine⟨a,by rw[f2.1,y],y,f2.chunks y,?_⟩;have hk:=jf A hk (by simp);by_cases h0:len*P.cellsOf e=0
  ·simp only[Instr.buildSlice,Sem.run_bind,run_underlying (mh hk),Result.andThen_ok,Q8 u,Ka (show¬len*P.cellsOf e>2 ^ 24 by omega),Sem.run_pure,La h0];have e:((Array.range (len*P.cellsOf e)).map λx=>(#[]:Array Value)[x%(#[]:Array Value).size]!)=(Array.range (len*P.cellsOf e)).map λi=>z.cells[i%z.cells.size]! :=by rw[h0];simp
   rw[b,e,f1];simp only[Sem.run_bind,newRow,run_newObj,Result.andThen_ok,Sem.run_pure]
  ·simp only[Instr.buildSlice,Sem.run_bind,run_underlying (mh hk),Result.andThen_ok,Q8 u,Ka (show¬len*P.cellsOf e>2 ^ 24 by omega),Sem.run_pure,Ka h0,Hw hi hz];rw[b,f1];simp only[Sem.run_bind,newRow,run_newObj,Result.andThen_ok,Sem.run_pure]
 have f:len<=maxLen:=by have:len<=len*P.cellsOf e:=Ue _ u;unfold maxLen;omega
 -- an own slice
 have own: ∀{o:EO I.C},K ⟨.v (.c (.own nx)),[(nx,o)],[],1⟩=some r0->q=[]->isR o=true->kE P o=P.cellsOf e->tyE o=e->(∀ι w,i6 ι w (Ck (P.cellsOf e) len cs) (Zl o))->OpD P g h nx K r0 λι w s=> ∃V,dD E q ι w parts.toList V/\s=Instr.buildSlice t len (parts.map λ(i,x)=>(i,V x)):=by
  intro o h0 hq ho h1 h2 h3;refine opd h0 (λe=>by grind) λ_ ι w s W _ hf ⟨V,d,M⟩=> ?_;obtain⟨a,x1,_,O,Q⟩:=run d;have hn:(Zl o).length=len:=by rw[(h3 ι w).1,iG]
  refine⟨_,_,M▸Q,Done.grow (o:=o) (cur:=a) (fr:=(0,0)) W (fr0 hf) ho (by rw[h2];exact iq w _) (.inl rfl) (by rw[h1];exact O.les (h3 ι w)) (by grind) none (by simp) λ_ ι' _ e'=>Ls e' ?_⟩;rw[hn,h1];exact iK (t:=e) (fr:=(0,0)) (cur:=a) (by simp) (Db _) f (by grind)
 split at h0
 ·refine own h0 rfl rfl rfl rfl λι w=> ?_;show i6 ι w [cs.take (P.cellsOf e)] _;exact .refl _
 rw[RU]at h0;obtain⟨l,hl,h0⟩:=Ra.1 h0;obtain⟨m1,U⟩:=PU hI hl;split at h0
 ·refine opd h0 (λ_=>rfl) λ_ ι w s W _ hf ⟨V,d,M⟩=> ?_;obtain⟨a,x1,_,O,Q⟩:=run d;refine⟨_,_,M▸Q,?_⟩;have:=Done.froze (nx:=nx) (rd:=[]) (k:=1) hI W (iq w (.cells a e)) (O.les (U ι w)) (Db l.length)
  grind
 ·exact own h0 rfl rfl rfl rfl U
 ·obtain⟨c4,h0⟩:=zX h0;have c4:=Kc c4;refine own h0 rfl rfl rfl rfl λι w=> ?_;obtain⟨n,rfl⟩: ∃n,len=n+1:=⟨len - 1,by omega⟩;have e1:Ck (P.cellsOf e) (n+1) cs=(Ck (P.cellsOf e) (n+1) cs).take n++[(cs.drop (n*P.cellsOf e)).take (P.cellsOf e)]:=by
   apply List.ext_getElem?;intro j;rw[Fe,Ee,Oc,iG,jG];by_cases h1:j<n
   ·grind
   ·grind
  rw[e1];refine i6.app ?_ (.refl _);have h2:=U ι w;refine⟨by grind,λi r r' hr m=> ?_⟩;rw[Ee]at hr;split at hr
  ·rw[Nat.add_sub_cancel,Pf,Ee,La (by assumption)]at m;exact h2.2 i r r' hr m
  ·cases hr
 ·cases h0
def flat_get{α:Type}{k:Nat}{Z:List α}(hk:Z.length=k): ∀{n i j:Nat},i<n->j<k->(List.replicate n Z).flatten[i*k+j]? =Z[j]?
 |0,i,j,h,_=>by omega
 |n+1,0,j,_,a=>by
  grind
 |n+1,i+1,j,h,a=>by
  rw[List.replicate_succ,Og,Fe,Ka (by grind),<-flat_get hk (n:=n) (i:=i) (by omega) a]
  grind
def zFA(hI:cU P I)(f:g8 P T fk){t:Nat}{l c:ET I.C}(hg:q=[]->g=true)(h0:XC T nx t l c q K=some r0):OpD P g h nx K r0 λι w s=> ∃n p,cx ι w l n/\cx ι w c p/\s=Instr.makeSlice t n p:=by
 unfold XC at h0;split at h0
 case h_2=>cases h0
 rename_i e J l kc c hk;obtain⟨k,h0⟩:=zX h0;rw[Da]at k;obtain⟨s1,L⟩:=xh f k.1;obtain⟨i,z,hi,M,hs,r,u⟩:=Vr f k.2;obtain⟨hb,h0⟩:=QJ h0;simp only[Da,aa]at hb;obtain⟨⟨⟨b1,b2⟩,b3⟩,b4⟩:=hb;obtain⟨y,h1,O⟩:=Ra.1 h0;clear h0;obtain⟨m,rfl⟩:=Int.eq_ofNat_of_zero_le b1;obtain⟨cn,rfl⟩:=Int.eq_ofNat_of_zero_le (show 0<=c by omega);refine opd O (λe=>by grind) λ_ ι w s W _ hf ⟨n,p,hl,hc,Q⟩=> ?_;obtain rfl:=Ze rfl hl;obtain rfl:=Ze rfl hc;have U:i.bytes=(T.at e).by_:=by rw[Nl f (.inr (.inl k.2))];exact YG hi
 have a:=run_make (P:=P) w t e i z (mh (jf f hk (by simp))) hi M J kc m cn (by omega) (by omega) (by
  grind) (by omega)
 obtain⟨V,E⟩:=zC5 (I:=I) (ι:=ι) (w:=w) hs L r cn;rw[u]at h1;obtain⟨Y,Z⟩:=aF hI h1;simp only[Oa,GG hi]at a;have b:=E.chunks V;have b:Qf ι w (P.cellsOf e) (List.replicate m (I.exp e y)) (madeCells z.cells (cn*P.cellsOf e)):=by
  refine⟨λrow hr=>by rw[List.eq_of_mem_replicate hr];exact Um hI _ _,λi row j x hi F=> ?_⟩;have a6:i<m:=by have:=(Ua.1 hi).1;simpa using this
  obtain rfl:=List.eq_of_mem_replicate (Ob hi);have A:j<P.cellsOf e:=by rw[<-Um hI e y];exact(Ua.1 F).1
  have d:=Na (l:=(ep z.cells.toList:List (EV I.C))) (i:=j) (by grind);obtain⟨v,a1,a2,a3⟩:=E.2 (i*P.cellsOf e+j) (ep z.cells.toList)[j] (by
   rw[<-d];exact flat_get Y (show i<cn by omega) A)
  exact⟨v,a1,a2,((Z ι w).2 0 _ _ rfl rfl).2 j _ _ d F v a3⟩
 refine⟨_,_,Q▸a,Done.grow (o:= .sl e (List.replicate m y)) (cur:=madeCells z.cells (cn*P.cellsOf e)) (fr:=(0,0)) W (fr0 hf) rfl (iq w _) (.inl rfl) (by simpa [Zl,kE] using b) (by
  rw[size_madeCells];simp only[Zl,kE,Xa,List.length_replicate];exact Rc _ (by omega)) none (by simp) λ_ ι' _ e'=>Ls e' ?_⟩
 simp only[Zl,kE,Xa,List.length_replicate];exact iK (t:=e) (fr:=(0,0)) (cur:=madeCells z.cells (cn*P.cellsOf e)) (iq w _).new (by omega) (by unfold maxLen;omega) (by rw[size_madeCells];grind)
end
section
variable {I:Ip} {P:Program} {T:TT} {fk:List (Nat×List Kd)} {ι:cL} {w w':World} {h:Nat->Option (EO I.C)} {nx:Nat} {R:Type} {r0:R} {q:Path} {g:Bool} {K:Kt I R}
def gx(P:Program)(ι:cL)(w:World)(k:Nat)(rows:List (List (EV I.C)))(v:Value):Prop:=
 ∃cs:List Value,cs.length=rows.length*k/\Qf ι w k rows cs.toArray/\(∀u∈cs,u.oneCell'=true)/\ ∀w':World,w'.heap=w.heap->(Builtin.lenOf v).run P w'= .ok rows.length w'/\(Builtin.firstCells k rows.length v).run P w'= .ok cs.toArray w'
def gx.nil{k:Nat}:gx (I:=I) P ι w k [] (.slice none 0 0):=⟨[],by simp,⟨by simp,by simp⟩,by simp,λw' _=>⟨by simp[Builtin.lenOf],by simp[Builtin.firstCells]⟩⟩
def rZ {k b o c:Nat}{rows:List (List (EV I.C))}{a:Option Addr}(hk: ∀row∈rows,row.length=k)(ha:rows≠[]->a=some ⟨b,o,none⟩)
  (h: ∀(i:Nat) (row:List (EV I.C)) (j:Nat) (x:EV I.C),rows[i]? =some row->row[j]? =some x-> ∃u,w.cell? ⟨b,o+(i*k+j),none⟩=some u/\k9 ι w x u):gx P ι w k rows (.slice a rows.length c):=by
 have d: ∀t,t<rows.length*k-> ∃u,w.cell? ⟨b,o+t,none⟩=some u/\u.oneCell'=true/\ ∀row x,rows[t / k]? =some row->row[t%k]? =some x->k9 ι w x u:=by intro t ht;obtain⟨h1,h2⟩:=zDK ht;have hr:rows[t / k]? =some rows[t / k]:=Na h1;have hl:=hk _ (Ia h1);have n:rows[t / k][t%k]? =some (rows[t / k][t%k]'(by omega)):=Na _;obtain⟨u,p,r⟩:=h _ _ _ _ hr n;rw[lh,Nat.div_add_mod]at p;refine⟨u,p,r.1,λrow x e1 e2=> ?_⟩;rw[hr]at e1;cases e1;rw[n]at e2;cases e2;exact r
 obtain⟨f,hf⟩:=CU d;refine⟨(List.range (rows.length*k)).map f,by simp,⟨hk,λi row j x hi m=> ?_⟩,λu hu=> ?_,λw' s=>⟨by simp[Builtin.lenOf],?_⟩⟩
 ·have h1:=(Ua.1 hi).1;have e:j<k:=by rw[<-hk row (Ob hi)];exact(Ua.1 m).1
  have l:=XE h1 e;obtain⟨e1,e2⟩:=divmod (i:=i) e;exact⟨f (i*k+j),by simp[l],(hf _ l).2.2 row x (by rw[e1];exact hi) (by rw[e2];exact m)⟩
 ·obtain⟨t,ht,rfl⟩:=Rb.1 hu;exact(hf t (Pd.1 ht)).2.1
 ·rcases De rows.length with h0|h0
  ·obtain rfl:=Gc h0;cases a<;>simp[Builtin.firstCells,loadCells,loadCellsFrom]
  ·rw[ha (by rintro rfl;simp at h0)];simp only[Builtin.firstCells];exact JW f (λj m=>by rw[zIf s];exact(hf j m).1)
def gx.own{id off n:Nat}{o:EO I.C}(p:Sg P ι w id o)(hl:off+n<=(Zl o).length){b:Option Nat}{k m:Nat}(e:ι id= .live b k m){v:Value}(hv:gk w b k off n v):gx P ι w (kE P o) (((Zl o).drop off).take n) v:=by
 obtain⟨l,h1,h2,h3⟩:=p;rw[e]at h1;cases h1;have hn:(((Zl o).drop off).take n).length=n:=by simp;omega
 rcases hv with⟨rfl,rfl,rfl⟩|⟨l,c,ty,sz,a,rfl,rfl,d,hc,_⟩
 ·rw[List.take_zero];exact .nil
 ·rcases h3 with⟨h3,_⟩|⟨_,cur,fr,_,h4,r,E,F,s⟩
  ·cases h3
  ·cases h4;have:=rZ (P:=P) (ι:=ι) (w:=w) (k:=kE P o) (b:=l) (o:=off*kE P o) (c:=c) (a:=a) (rows:=((Zl o).drop off).take n) (λrow hr=>by simpa using h2 (row.map (ef ι w)) (Rb.2 ⟨row,List.mem_of_mem_drop (Bf hr),rfl⟩)) (λf=>d.resolve_left λh0=>f (by
    have:n=0:=by omega
    subst this;simp)) λi row j x hi t=>by
     rw[Ee]at hi;split at hi
     ·rw[Wd]at hi;obtain⟨u,y,A⟩:=s (off+i) (row.map (ef ι w)) j (ef ι w x) (by simp[hi]) (by simp[t]);exact⟨u,by rw[hU r,<-y,mf,Yf],A⟩
     ·cases hi
   rw[hn]at this;exact this
def gx.all{id:Nat}{o:EO I.C}(c:Sg P ι w id o){v:Value}(hv:ef (I:=I) ι w (.own id) v):gx P ι w (kE P o) (Zl o) v:=by have a:=c;obtain⟨b,h1,_⟩:=a;have hv:li ι w (ι id) none v:=hv;rw[h1]at hv;have:=gx.own (off:=0) (n:=(Zl o).length) c (by omega) h1 hv;simpa using this
def gx.froz(hI:cU P I){e:Nat}{l:List (I.C e)}{v:Value}(hv:cX (fm ι w) w (.sl (l.map (I.full e))) v):gx P ι w (P.cellsOf e) (l.map (I.exp e)) v:=by
 cases hv with
 |sl _ a n c k b o val hn hc ha hD f hv hr=>
  rw[Xa]at hn;subst hn;have hk: ∀(i:Nat) row,(l.map (I.exp e))[i]? =some row->k=P.cellsOf e/\ ∃y,l[i]? =some y/\row=I.exp e y:=λi row hi=>by simp only[Ta,Sa]at hi;obtain⟨y,d,rfl⟩:=hi;exact⟨by rw[<-f (I.full e y) (Rb.2 ⟨y,Ob d,rfl⟩),hI.len],y,d,rfl⟩
  have:=rZ (P:=P) (ι:=ι) (w:=w) (k:=P.cellsOf e) (b:=b) (o:=o) (c:=c) (a:=a) (rows:=l.map (I.exp e)) (λrow hr=>by obtain⟨y,_,rfl⟩:=Rb.1 hr;exact Um hI _ _) (λm=>ha (by
   rcases De l.length with h0|h0
   ·exact absurd (by rw[Gc h0];rfl) m
   ·exact h0)) λi row j x hi p=>by
    obtain⟨rfl,y,d,rfl⟩:=hk i row hi;obtain⟨e1,e2⟩:=Sm hI p;have hf:(l.map (I.full e))[i]? =some (I.full e y):=by rw[Ta,d];rfl
    exact⟨_,by rw[<-Yf];exact hv _ _ _ _ hf e1,zF7 (hr _ _ _ _ hf e1),(Cj e2).2 (hr _ _ _ _ hf e1)⟩
  simpa using this
def Pz(hI:cU P I){e:Nat}{p:(List UInt8->List (I.C e))×(List (I.C e)->List UInt8)}(hp:I.byt e=some p):P.cellsOf e=1:=by have h1:=congrArg (·[0]?) ((hI.byt e p hp).1 [0]);simp only[Xb,List.getElem?_cons_zero,Ta]at h1;obtain⟨y,_,a⟩:=Sa.1 h1;rw[<-hI.len e y,a];rfl
def gx.str(hI:cU P I){e:Nat}{p:(List UInt8->List (I.C e))×(List (I.C e)->List UInt8)}(hp:I.byt e=some p)(b:List UInt8):gx P ι w (P.cellsOf e) ((p.1 b).map (I.exp e)) (.string ⟨b.toArray⟩):=by
 obtain⟨f,_,m⟩:=hI.byt e p hp;have h1:=Pz hI hp;have a:(p.1 b).length=b.length:=by have:=congrArg List.length (f b);simpa using this
 have hl:b.length=b.length*P.cellsOf e:=by rw[h1,Jf]
 refine⟨b.map λb=> .int .u8 b.toNat,by rw[Xa,Xa,a];exact hl,⟨λrow hr=> ?_,λi row j x hi k=> ?_⟩,λu hu=>(by obtain⟨_,_,rfl⟩:=Rb.1 hu;rfl),λw' _=>⟨by simp[Builtin.lenOf,gn,a],?_⟩⟩
 ·obtain⟨y,_,rfl⟩:=Rb.1 hr;exact Um hI _ _
 ·simp only[Ta,Sa]at hi;obtain⟨y,l,rfl⟩:=hi;obtain⟨e1,e2⟩:=Sm hI k;have:=congrArg (·[i]?) (f b);simp only[Ta,l,Ed]at this;obtain⟨c,hc,hf⟩:=Sa.1 this.symm;rw[<-hf]at e1;have d:j=0:=by have:=(Ua.1 e1).1;simpa using this
  subst d;have e1:PV.at (.int .u8 c.toNat)=pvE I x:=by simpa using e1
  refine⟨.int .u8 c.toNat,by rw[h1];simp[hc],rfl,(Cj e2).2 ?_⟩;rw[<-e1];exact .at _ rfl
 ·simp only[Builtin.firstCells,Xa,a];have e:(ByteArray.mk b.toArray).extract 0 b.length=ByteArray.mk b.toArray:=by rw[Lib.extract_eq];simp
  rw[e];simp
def lD(hI:cU P I)(i:g8 P T fk){t e:Nat}(j:Nat.ble 1 (T.at e).sz=true){x:ET I.C}{new:List (I.C e)}{rd:List Nat}{ok:Bool}(h0:srcE e (T.at t).kd h x=some (new,rd,ok))(a:ok=true):
  Wj (cI P t)/\ ∀{ι w v},Hd P h rd ι w->cx ι w x v->gx P ι w (P.cellsOf e) (new.map (I.exp e)) v:=by
 generalize hk:(T.at t).kd=kd at h0;have hk:=λhb=>jf i hk hb;unfold srcE at h0;split at h0<;>first|(cases h0;done)|(have hk:=hk (by simp);refine⟨by rw[hk];trivial,?_⟩)
 ·split at h0<;>cases h0;rename_i hc;obtain⟨rfl,hc⟩:=qK hc;cases hc;exact λ_ hv=> .froz hI hv.2
 ·split at h0<;>cases h0;rename_i hc;obtain⟨rfl,hc⟩:=qK hc;cases hc;exact λ_ hv=> .froz hI hv.2.1
 ·cases h0;exact λ_ hv=>by obtain rfl:=Ze rfl hv;exact .nil
 ·split at h0
  case h_2=>cases h0
  rename_i hid;split at h0<;>cases h0;rename_i hc;obtain⟨rfl,hc⟩:=qK hc;cases hc;exact λc hv=>gx.all ((Zu rfl).1 (c.2 _ (by simp) _ hid)) hv.2
 ·split at h0
  case h_2=>cases h0
  rename_i hid;split at h0<;>cases h0;rename_i hc;obtain⟨rfl,hc⟩:=qK hc;cases hc;intro ι w v c hv;have f:=(Zu rfl).1 (c.2 _ (by simp) _ hid);have d:=f;obtain⟨b,h1,_⟩:=d;have hv:li ι w _ (some _) v:=hv.2;rw[h1]at hv;have:=gx.own f (by simpa [Zl] using jb a) h1 hv
  rwa [Pf,List.map_drop]
 ·split at h0<;>cases h0;rename_i hp;intro ι w v _ hv;obtain rfl:=Ze rfl hv;exact .str hI hp _
def VO {ts tx ty e:TypeId}{i:TypeInfo}{z:Value}(ht:P.underlying ts=some (.slice e))(t:Wj (cI P tx))(hi:P.info? e=some i)(u:i.zero=some z)
  {a:Option Addr} {c:Nat} {R0 b:List (List (EV I.C))} {vx:Value} (h0:gx P ι w (P.cellsOf e) R0 (.slice a R0.length c)) (h1:gx P ι w (P.cellsOf e) b vx) (v: ¬(R0.length+b.length<=c))
  (l:R0.length+b.length<=maxLen) (m:(R0.length+b.length)*i.bytes<=140737488355328):
  ∃d f:List Value,d.length=R0.length*P.cellsOf e/\f.length=b.length*P.cellsOf e/\Qf ι w (P.cellsOf e) R0 d.toArray/\Qf ι w (P.cellsOf e) b f.toArray/\(Builtin.append_ #[ts,tx] ty #[.slice a R0.length c,vx]).run P w=
   .ok (.slice (some ⟨w.heap.size,0,none⟩) (R0.length+b.length) (grownCap w (R0.length+b.length) c e))
    (w.drew.alloc (.cells (d.toArray++f.toArray++Builtin.zeroCells z.cells (grownCap w (R0.length+b.length) c e - (R0.length+b.length))) e)):=by
 obtain⟨d,x,y,_,A⟩:=h0;obtain⟨f,l1,E,_,r⟩:=h1;refine⟨d,f,x,l1,y,E,?_⟩;have hl:=(r w rfl).1;have n:=(A w.drew rfl).2;have o:=(r w.drew rfl).2;have j: ¬(9223372036854775807<((R0.length:Int)+(b.length:Int))):=by unfold maxLen at l;omega
 have k: ¬(281474976710656<Builtin.nextslicecap (R0.length+b.length) c*i.bytes):=by have:=growslice_fits (need:=R0.length+b.length) (old:=c) (by omega) m;omega
 have p:i.size=P.cellsOf e:=GG hi;rcases zCV t with⟨F,s⟩|s<;>
 ·simp[Builtin.append_,run_underlying ht,run_underlying s,sizeOf,typeInfo,zeroValue,hi,u,p,hl,v,j,k,Question.forced,n,o,newRow,grownCap]
  try (congr 2;apply Array.ext';simp[Ja])
def kN {ts tx ty e:TypeId}{i:TypeInfo}(ht:P.underlying ts=some (.slice e))(m:Wj (cI P tx))(hi:P.info? e=some i)
  {a:Option Addr} {n c:Nat} {d:List (List (EV I.C))} {vx:Value} (h1:gx P ι w (P.cellsOf e) d vx) (o:n+d.length<=c):
  ∃b:List Value,b.length=d.length*P.cellsOf e/\Qf ι w (P.cellsOf e) d b.toArray/\(∀u∈b,u.oneCell'=true)/\(Builtin.append_ #[ts,tx] ty #[.slice a n c,vx]).run P w=
   (match a with|some a=>(storeCells (a.add (n*P.cellsOf e)) b).run P w|none=> .ok () w).andThen λ_ w'=> .ok (.slice a (n+d.length) c) w':=by
 obtain⟨b,l1,p,f,r⟩:=h1;refine⟨b,l1,p,f,?_⟩;obtain⟨hl,j⟩:=r w rfl;have k:i.size=P.cellsOf e:=GG hi;rcases zCV m with⟨s,l⟩|l<;>cases a<;>simp[Builtin.append_,run_underlying ht,run_underlying l,sizeOf,typeInfo,hi,k,hl,o,j]
def Qf.app {k:Nat}{R0 a:List (List (EV I.C))}{X:Array Value}(h0: ∀row∈R0,row.length=k)(h1: ∀row∈a,row.length=k)
  (c: ∀(i:Nat) row (j:Nat) x,R0[i]? =some row->row[j]? =some x-> ∃v,X[i*k+j]? =some v/\k9 ι w x v) (d: ∀(i:Nat) row (j:Nat) x,a[i]? =some row->row[j]? =some x-> ∃v,X[(R0.length+i)*k+j]? =some v/\k9 ι w x v):Qf ι w k (R0++a) X:=by
 refine⟨λrow hr=>(Vd.1 hr).elim (h0 row) (h1 row),λi row j x hi b=> ?_⟩;rw[Fe]at hi;split at hi
 ·exact c i row j x hi b
 ·have:=d _ row j x hi b
  rwa [show R0.length+(i - R0.length)=i by omega]at this
def Qf.at_app{k:Nat}{R:List (List (EV I.C))}{X pre post:Array Value}(h:Qf ι w k R X){n:Nat}(hn:pre.size=n*k): ∀(i:Nat) row (j:Nat) x,R[i]? =some row->row[j]? =some x-> ∃v,(pre++X++post)[(n+i)*k+j]? =some v/\k9 ι w x v:=by intro i row j x hi a;obtain⟨v,a1,a2⟩:=h.2 i row j x hi a;have:=(Sb.1 a1).1;refine⟨v,?_,a2⟩;rw[mf,Array.append_assoc,Te,Ka (by omega),Te,La (by omega),<-a1];congr 1;omega
def zAB {o:EO I.C}{ts tx ty e:TypeId}(hk:cI P ts= .sl e)(O:Wj (cI P tx))(hz:(ti P e).zok=true){R0 k:List (List (EV I.C))}(ho:isR o=true)(m:kE P o=P.cellsOf e)(Q:tyE o=e)(n:Zl o=R0++k)
  {vs vx:Value} (S1:gx P ι w (P.cellsOf e) k vx) (W:Wf ι w) (hf:ι nx= .free) (M:Option Nat) (A: ∀id,M=some id->ι id≠ .free) (U:R0.length+k.length<=maxLen) (a7:(R0.length+k.length)*(ti P e).by_<=140737488355328)
  {b:Option Nat} (hv:gk w b (P.cellsOf e) 0 R0.length vs) (S0:gx P ι w (P.cellsOf e) R0 vs) (hb: ∀l,b=some l-> ∃id cur fr ty2,M=some id/\ι id= .live (some l) (P.cellsOf e) R0.length/\w.heap[l]? =some (.cells cur ty2 fr)/\FT (km P e) ty2 fr cur.size/\Qf ι w (P.cellsOf e) R0 cur/\R0.length*P.cellsOf e<=cur.size) {rd:List Nat}:
  ∃v w',(Builtin.append_ #[ts,tx] ty #[vs,vx]).run P w= .ok v w'/\Done P ι w nx ⟨.v (.c (.own nx)),upK M nx o,rd,1⟩ v w':=by
 obtain⟨i,z,hi,hz,a8,b6,b7⟩:=aL hz;have V: ∀row∈k,row.length=P.cellsOf e:=by obtain⟨_,_,h,_⟩:=S1;exact h.1
 have E: ∀row∈R0,row.length=P.cellsOf e:=by obtain⟨_,_,h,_⟩:=S0;exact h.1
 have hn:(Zl o).length=R0.length+k.length:=by rw[n,Ea]
 obtain⟨a,c,rfl,hc⟩: ∃a c,vs= .slice a R0.length c/\R0.length<=c:=by
  rcases hv with⟨_,h1,rfl⟩|⟨_,c,_,_,a,_,rfl,_,h4,_⟩
  ·exact⟨_,_,by rw[h1],by omega⟩
  ·exact⟨_,_,rfl,h4⟩
 by_cases p:R0.length+k.length<=c
 ·obtain⟨d,l1,c1,a9,f⟩:=kN (ty:=ty) (a:=a) (mh hk) O hi S1 p;rcases hv with⟨rfl,h1,hv⟩|⟨l,c',b8,sz,a',rfl,hv,Y,b9,ab,Z,F⟩
  ·injection hv with e1 e2 e3;subst e1;subst e3;have ad:k=[]:=Gc (by omega);have al:R0=[]:=Gc (by omega);subst ad;subst al;refine⟨_,_,f, .put W hf ho (.refl w) (b:=none) M A (λ_ e=>by cases e) (λ_ h=>h.elim) (λ_ _ _=>⟨by simp[n], .inl ⟨rfl,by simp[n]⟩⟩) λ_ ι' _ e'=>Ls e' (.inl ⟨rfl,hn,rfl⟩)⟩
  ·cases hv;obtain⟨id,cur,fr,ty2,k0,k1,k2,k3,k4,k5⟩:=hb l rfl;have s:sz=cur.size:=by simp[World.shape?,k2]at Z;exact Z.2.symm
   subst s;have am:R0.length*P.cellsOf e+d.length<=cur.size:=by rw[l1,<-mf];exact Jc (Rc _ (by omega)) F
   obtain⟨w',an,ao,cur',a3,J,ap⟩: ∃w',(match a with|some a=>(storeCells (a.add (R0.length*P.cellsOf e)) d).run P w|none=> .ok () w)= .ok () w'/\Chg w w' l/\
     ∃cur',w'.heap[l]? =some (.cells cur' ty2 fr)/\cur'.size=cur.size/\cur'=(cur.toList.take (R0.length*P.cellsOf e)++d++cur.toList.drop (R0.length*P.cellsOf e+d.length)).toArray:=by
    have u:(cur.toList.take (R0.length*P.cellsOf e)++d++cur.toList.drop (R0.length*P.cellsOf e+d.length)).toArray.size=cur.size:=by simp only[df,Ea,Oc,Ic,Pe];omega
    by_cases aq:c=0
    ·have ar:d=[]:=Gc (by rw[l1,show k.length=0 by omega,Uf]);subst ar;exact⟨w,by cases a<;>simp[storeCells],⟨rfl,rfl,rfl,rfl,λ_ _=>rfl,λ_ h=>h⟩,cur,k2,rfl,by simp⟩
    ·obtain rfl:=Y.resolve_left aq;have r:=RJ (P:=P) (g:=l) (o:=0+R0.length*P.cellsOf e) (t:=ty2) (fr:=fr) d 0 cur w k2 k3.1.out (by simpa using am) a9;simp only[Gd,Od]at r;exact⟨_,by simp only[Uf,addr_add,Gd];exact r,iN k2 u,_,setRow_heap w l cur _ ty2 fr k2,u,rfl⟩
   rw[an]at f;have aw:Qf ι w (P.cellsOf e) (R0++k) cur':=by
    have y:(cur.toList.take (R0.length*P.cellsOf e)).toArray.size=R0.length*P.cellsOf e:=by simp;omega
    have e1:cur'=(cur.toList.take (R0.length*P.cellsOf e)).toArray++d.toArray++(cur.toList.drop (R0.length*P.cellsOf e+d.length)).toArray:=by rw[ap];simp
    refine .app E V (λi row j x hi hj=> ?_) (by rw[e1];exact c1.at_app y);obtain⟨v,a1,a2⟩:=k4.2 i row j x hi hj;refine⟨v,?_,a2⟩;have:=XE (Ua.1 hi).1 (show j<P.cellsOf e by rw[<-E row (Ob hi)];exact(Ua.1 hj).1);rw[e1,Array.append_assoc,Te,La (by rw[y];exact this),List.getElem?_toArray,Ee,La this,Re];exact a1
   refine⟨_,_,f, .put (b:=some l) (B:=(· =l)) W hf ho ao.wld M A (λb e=>by cases e;exact .inr ⟨id,_,_,k0,k1⟩) (λb e=>by subst e;exact⟨id,_,_,k0,k1⟩) (λT ι' S=> ?_) λT ι' S e'=>Ls e' ?_⟩
   ·rw[m,Q,n];refine aw.blk S a3 (by rw[J];exact k3) ?_;rw[J,Ea];exact Jc (Rc _ (by omega)) F
   ·rw[m,hn];exact .inr ⟨l,c,ty2,cur'.size,a,rfl,rfl,Y,p,ab,by simp[World.shape?,a3],by rw[J];exact F⟩
 ·have b3:i.bytes=(ti P e).by_:=YG hi;obtain⟨L,d,l0,l1,c0,c1,f⟩:=VO (ty:=ty) (mh hk) O hi hz S0 S1 p U (by rw[b3];exact a7);have a6:=grownCap_ge w (R0.length+k.length) c e;have b5:=grownCap_le_maxLen w (R0.length+k.length) c e U;generalize grownCap w (R0.length+k.length) c e=c2 at*;have s:(L.toArray++d.toArray++Builtin.zeroCells z.cells (c2 - (R0.length+k.length))).size=c2*P.cellsOf e:=by simp only[Array.size_append,df,FW,l0,l1,a8,<-mf];congr 1;omega
  refine⟨_,_,f,Done.grow (fr:=(0,0)) (cur:=L.toArray++d.toArray++Builtin.zeroCells z.cells (c2 - (R0.length+k.length))) W hf ho (by rw[Q];exact⟨rfl,rfl,rfl,rfl⟩) (.inl rfl) ?_ (by rw[s,hn,m];exact Rc _ a6) M A λT ι' S e'=>Ls e' ?_⟩
  ·rw[m,n];refine .app E V ?_ (c1.at_app (by simp[l0]));intro i row j x hi hj;obtain⟨v,a1,a2⟩:=c0.2 i row j x hi hj;have:=(Sb.1 a1).1;exact⟨v,by rw[Array.append_assoc,Te,La this];exact a1,a2⟩
  ·rw[hn,m];exact iK (t:=e) (fr:=(0,0)) (cur:=L.toArray++d.toArray++Builtin.zeroCells z.cells (c2 - (R0.length+k.length))) (i7.new (w:=w) (w':=w.drew.alloc _) ⟨rfl,rfl,rfl,rfl⟩) a6 b5 (by rw[s];exact Db _)
end
section
variable {I:Ip} {P:Program} {T:TT} {fk:List (Nat×List Kd)} {ι ι':cL} {w w':World} {h:Nat->Option (EO I.C)} {nx:Nat} {R:Type} {r0:R} {q:Path} {g:Bool} {K:Kt I R}
def base_of{id:Nat}{o:EO I.C}(e:Sg P ι w id o){vs:Value}(hv:cx (I:=I) ι w (.c (.own id)) vs): ∃b,ι id= .live b (kE P o) (Zl o).length/\gk w b (kE P o) 0 (Zl o).length vs/\gx P ι w (kE P o) (Zl o) vs/\
  ∀d,b=some d-> ∃cur fr ty2,w.heap[d]? =some (.cells cur ty2 fr)/\FT (km P (tyE o)) ty2 fr cur.size/\Qf ι w (kE P o) (Zl o) cur/\(Zl o).length*kE P o<=cur.size:=by
 have S:=gx.all e hv.2;obtain⟨b,h1,h2,h3⟩:=e;have hv:li ι w (ι id) none vs:=hv.2;rw[h1]at hv;refine⟨b,h1,hv,S,λd a=> ?_⟩;rcases h3 with⟨h3,_⟩|⟨b2,cur,fr,ty2,h4,f,k,l,m⟩
 ·rw[h3]at a;cases a
 ·rw[h4]at a;cases a;exact⟨cur,fr,ty2,f,k,⟨λrow hr=>by simpa using h2 (row.map (ef ι w)) (Rb.2 ⟨row,hr,rfl⟩),λi row j x hi n=>m i (row.map (ef ι w)) j _ (by rw[Ta,hi];rfl) (by rw[Ta,n];rfl)⟩,by simpa using l⟩
def Inn.of{id e:Nat}{l:List (List (I.C e))}{S:List (Option (Nat×Nat))}(h:Inn P ι w id e l S)(b:Conv ι w ι' w'){a:Nat}(d: ∀x,some x∈S->ι.X x.1= .inn id->ι'.X x.1= .inn a/\w'.heap[x.1]? =w.heap[x.1]?):Inn P ι' w' a e l S:=
 ⟨h.1,h.2.1,λj m s hm hs=>by
  have:=h.2.2 j m s hm hs;cases s with
  |none=>exact this
  |some s=>
   obtain⟨f,⟨ty,i⟩,k⟩:=this;have c:=d s (Ob hs) f;exact⟨c.1,⟨ty,b.shape _ _ i⟩,k.les (λn e=>by cases e;exact c.2) (Les.map (λ_ _ h=>h.conv b) _)⟩⟩
def Inn.app {id e:Nat}{l:List (List (I.C e))}{S:List (Option (Nat×Nat))}{m:List (I.C e)}{s:Option (Nat×Nat)}(h:Inn P ι w id e l S)
  (hs:match s with|none=>m=[]|some (b,sz)=>ι.X b= .inn id/\(∃ty,w.shape? b=some (ty,sz))/\Blk w (some b) (P.cellsOf e) (km P e) ((m.map (I.full e)).map (·.map (cX (fm ι w) w)))) (hn: ∀x,s=some x-> ∀(j z:Nat),S[j]? ≠some (some (x.1,z))):Inn P ι w id e (l++[m]) (S++[s]):=by
 have at_: ∀{α:Type} {L:List α} {a:α} {j:Nat} {y:α},(L++[a])[j]? =some y->L[j]? =some y\/(j=L.length/\y=a):=λ{α L a j y} c=>by
  rw[Fe]at c;split at c
  ·exact .inl c
  ·cases hk:j - L.length with
   |zero=>rw[hk]at c;cases c;exact .inr ⟨by omega,rfl⟩
   |succ n=>rw[hk]at c;cases c
 refine⟨by simp[h.1],λi j b z f hi c=> ?_,λj k o hm d=> ?_⟩
 ·rcases at_ hi with hi|⟨e1,hi⟩<;>rcases at_ c with c|⟨e2,c⟩
  ·exact h.2.1 i j b z f hi c
  ·exact absurd hi (hn (b,f) c.symm i z)
  ·exact absurd c (hn (b,z) hi.symm j f)
  ·rw[e1,e2]
 ·rcases at_ hm with hm|⟨e1,rfl⟩<;>rcases at_ d with d|⟨e2,rfl⟩
  ·exact h.2.2 j k o hm d
  ·have:=(Ua.1 hm).1;have:=h.1;omega
  ·have:=(Ua.1 d).1;have:=h.1;omega
  ·exact hs
def Inn.split{id e:Nat}{l:List (List (I.C e))}{S:List (Option (Nat×Nat))}{m:List (I.C e)}(h:Inn P ι w id e (l++[m]) S): ∃c s,S=c++[s]/\Inn P ι w id e l c/\(∀x,s=some x-> ∀(j z:Nat),c[j]? ≠some (some (x.1,z)))/\
  match s with|none=>m=[]|some (b,sz)=>ι.X b= .inn id/\(∃ty,w.shape? b=some (ty,sz))/\Blk w (some b) (P.cellsOf e) (km P e) ((m.map (I.full e)).map (·.map (cX (fm ι w) w))):=by
 obtain⟨c,s,rfl⟩: ∃c s,S=c++[s]:=by
  rcases List.eq_nil_or_concat S with f|⟨c,s,f⟩
  ·have:=h.1;rw[f]at this;simp at this
  ·exact⟨c,s,by simpa using f⟩
 have hl:c.length=l.length:=by have:=h.1;simpa using this
 have left: ∀{α:Type} {L:List α} {a y:α} {j:Nat},L[j]? =some y->(L++[a])[j]? =some y:=λd=>by rw[List.getElem?_append_left (Ua.1 d).1];exact d
 refine⟨c,s,rfl,⟨hl,λi j b z k hi d=>h.2.1 i j b z k (left hi) (left d),λj n o hm hs=>h.2.2 j n o (left hm) (left hs)⟩,λx p j z d=> ?_,h.2.2 l.length m s (by simp) (by rw[<-hl];simp)⟩;have:=h.2.1 j c.length x.1 z x.2 (left d) (by rw[p];simp);have h2:=(Ua.1 d).1;omega
def zPH{t e id n:Nat}{l:List (I.C e)}(hk:cI P t= .sl e)(hs:0<P.cellsOf e)(W:Wf ι w)(hf:ι nx= .free)(y:Qu P ι w id (.sl e l)){vx:Value}(p:cx (I:=I) ι w (.c (.own id)) vx){hi:Option Value}(hb:Bnd hi (some (n:Int)))(hn:n<=l.length){rd:List Nat}:
  ∃v,(Instr.sliceAt t vx none hi none).run P w= .ok v w/\Done P ι w nx ⟨.v (.c (.own nx)),[(id, .dead),(nx, .sl e (l.take n))],rd,1⟩ v w:=by
 obtain⟨B,b1,b2,Q,b4⟩:=base_of ((Zu rfl).1 y) p;have hl:(Zl (.sl e l:EO I.C)).length=l.length:=by simp[Zl]
 rw[hl]at b1 b2 b4;obtain⟨a,f,rfl,r⟩: ∃a f,vx= .slice a l.length f/\l.length<=f:=by
  rcases b2 with⟨_,d,rfl⟩|⟨_,f,_,_,a,_,d,_,e2,_⟩
  ·exact⟨none,0,by rw[d],by omega⟩
  ·exact⟨a,f,d,e2⟩
 obtain⟨A,U,V,Y,Z⟩:=RG (w:=w) hk hs (a:=a) r (lo:=none) (mx:=none) (l:=none) (m:=none) (.inl ⟨rfl,rfl⟩) hb (.inl ⟨rfl,rfl⟩) (by simp only[Il,Da,aa];omega);have k:=gk.cut b2 (L:=0) (H:=n) (M:=f) (Yb _) hn (by omega) (Db _);refine⟨_,A,Done.put (b:=B) (B:=λ_=>False) (o:= .sl e (l.take n)) W hf rfl (.refl w) (some id) (λ_ d=>by cases d;rw[b1];simp) (λs d=> .inr ⟨id,_,_,rfl,by rw[b1,d]⟩) (λ_ h=>h.elim) (λT ι' S=> ?_) λT ι' S d=>Ls d ?_⟩
 ·cases B with
  |none=>
   rcases b2 with⟨_,d,_⟩|⟨_,_,_,_,_,d,_⟩
   ·obtain rfl:l=[]:=Gc d;exact⟨λrow hr=>(by simp[Zl]at hr), .inl ⟨rfl,by simp[Zl]⟩⟩
   ·cases d
  |some s=>
   obtain⟨cur,fr,ty2,E,F,u,J⟩:=b4 s rfl;refine Qf.blk S (cur:=cur) (fr:=fr) ⟨λrow hr=>u.1 row ?_,λi row j x hi O=>u.2 i row j x ?_ O⟩ E F (Jc (Rc _ (by simp[Zl];omega)) J)
   ·simp only[Zl,Pf]at hr;exact Bf hr
   ·simp only[Zl,Pf,Ee]at hi;split at hi
    ·exact hi
    ·cases hi
 ·have:(Zl (.sl e (l.take n):EO I.C)).length=n:=by simp[Zl];omega
  rw[this];show gk w B (P.cellsOf e) 0 n _;have hc:gk w B (P.cellsOf e) 0 (n - 0) _:=k;simpa using hc
def zLi(hI:cU P I)(b:g8 P T fk){t:Nat}{x:ET I.C}{l c m:Option Int}(f:q=[]->g=true)(h0:bQ T nx h t x l c m q K=some r0):
  OpD P g h nx K r0 λι w s=> ∃vx lo hi mx,cx ι w x vx/\Bnd lo l/\Bnd hi c/\Bnd mx m/\s=Instr.sliceAt t vx lo hi mx:=by
 unfold bQ at h0;split at h0
 case h_2=>cases h0
 rename_i e id n hk;have hk:=jf b hk (by simp);have a: ∀{α:Prop},g=false->α:=λe=>by rw[f rfl]at e;cases e
 have nil: ∀{v:Option Value},Bnd v none->v=none:=λh=>by rcases h with⟨e,_⟩|⟨_,_,_,e⟩<;>first|exact e|cases e
 split at h0
 ·rename_i u l hid;obtain⟨hc,d⟩:=zX h0;clear h0;simp only[Da]at hc;obtain rfl:=ma hc.1;obtain⟨hn,i⟩:=QJ d;clear d;simp only[Da,aa]at hn;obtain⟨n,rfl⟩:=Int.eq_ofNat_of_zero_le hn.1;refine opd i a λ_ ι w s W j hf ⟨vx,lo,hi,mx,k,b1,b2,o,p⟩=> ?_;obtain rfl:=nil b1;obtain rfl:=nil o;obtain⟨v,r,y⟩:=zPH hk (xh b hc.2).2 W (fr0 hf) (j.2 id (by simp) _ hid) k b2 (by omega);exact⟨v,w,p▸r,y⟩
 ·cases h0
end
section
variable {I:Ip} {P:Program} {T:TT} {fk:List (Nat×List Kd)} {ι:cL} {w w':World} {h:Nat->Option (EO I.C)} {nx:Nat} {R:Type} {r0:R} {q:Path} {g:Bool} {K:Kt I R}
def bM{id e:Nat}{l:List (I.C e)}(W:Wf ι w)(f:Sg P ι w id (.sl e l)){vs:Value}(hv:cx (I:=I) ι w (.c (.own id)) vs): ∃b,ι id= .live b (P.cellsOf e) l.length/\gk w b (P.cellsOf e) 0 l.length vs/\gx P ι w (P.cellsOf e) (l.map (I.exp e)) vs/\
  ∀d,b=some d-> ∃cur fr ty2,w.heap[d]? =some (.cells cur ty2 fr)/\FT (km P e) ty2 fr cur.size/\Qf ι w (P.cellsOf e) (l.map (I.exp e)) cur/\(l.map (I.exp e)).length*P.cellsOf e<=cur.size:=by
 have S:=gx.all f hv.2;obtain⟨b,h1,h2,h3⟩:=f;have hl:(Zl (.sl e l:EO I.C)).length=l.length:=Xa ..;rw[hl]at h1;have hv:li ι w (ι id) none vs:=hv.2;rw[h1]at hv;refine⟨b,h1,hv,S,λd a=> ?_⟩;rcases h3 with⟨h3,_⟩|⟨b2,cur,fr,ty2,h4,k,m,n,o⟩
 ·rw[h3]at a;cases a
 ·rw[h4]at a;cases a;exact⟨cur,fr,ty2,k,m,⟨λrow hr=>(by simpa using h2 (row.map (ef ι w)) (Rb.2 ⟨row,hr,rfl⟩):row.length=kE P (.sl e l:EO I.C)),λi row j x hi p=>o i (row.map (ef ι w)) j _ (by rw[Ta];exact congrArg (Option.map _) hi) (by simp[p])⟩,(by simpa [Zl] using n:(l.map (I.exp e)).length*kE P (.sl e l:EO I.C)<=cur.size)⟩
def EU {ts tx ty e id:Nat}{l:List (I.C e)}{o:EO I.C}{a:List (List (EV I.C))}(hk:cI P ts= .sl e)(d:Wj (cI P tx))(j:(ti P e).zok=true)(W:Wf ι w)(hf:ι nx= .free)(k:Qu P ι w id (.sl e l))(ho:isR o=true)(h1:kE P o=P.cellsOf e)(h2:tyE o=e)(h3:Zl o=l.map (I.exp e)++a)
  {vs vx:Value} (f:cx (I:=I) ι w (.c (.own id)) vs) (hS:gx P ι w (P.cellsOf e) a vx) (a2:l.length+a.length<=maxLen) (a1:(l.length+a.length)*(ti P e).by_<=140737488355328) {rd:List Nat}:
  ∃v w',(Builtin.append_ #[ts,tx] ty #[vs,vx]).run P w= .ok v w'/\Done P ι w nx ⟨.v (.c (.own nx)),[(id, .dead),(nx,o)],rd,1⟩ v w':=by
 obtain⟨b,b1,b2,m,b4⟩:=bM W ((Zu rfl).1 k) f;have hl:(l.map (I.exp e)).length=l.length:=Xa ..;refine zAB (R0:=l.map (I.exp e)) (b:=b) hk d j ho h1 h2 h3 hS W hf (some id) (λ_ e=>by cases e;rw[b1];simp) (by rw[hl];exact a2) (by rw[hl];exact a1) (by rw[hl];exact b2) m λn i=> ?_;obtain⟨cur,fr,ty2,p,r,s,t⟩:=b4 n i;exact⟨id,cur,fr,ty2,rfl,by rw[b1,i,hl],p,r,s,t⟩
def VG{n m by_:Nat}(hb:1<=by_)(h:Zm n m by_=true):(n+m)*by_<=140737488355328/\n+m<=maxLen:=by have h1:=jb h;have:n+m<=(n+m)*by_:=Ue _ hb;exact⟨h1,by unfold maxLen;omega⟩
def zGD(hI:cU P I)(U:g8 P T fk){ts tx:Nat}(ty:Nat){s x:ET I.C}(hg:q=[]->g=true)(h0:YT T h nx ts tx s x q K=some r0):
  OpD P g h nx K r0 λι w z=> ∃vs vx,cx ι w s vs/\cx ι w x vx/\z=Builtin.append_ #[ts,tx] ty #[vs,vx]:=by
 unfold YT at h0;split at h0
 case h_2=>cases h0
 rename_i e hk;have hk:=jf U hk (by simp);have pre:Nat.ble 1 (T.at e).sz=true/\Nat.ble 1 (T.at e).by_=true/\(T.at e).zok=true:=by
  split at h0<;>obtain⟨F,_⟩:=zX h0<;>simp only[Da]at F
  ·exact⟨F.1.1.1,F.1.1.2,F.1.2⟩
  ·exact⟨F.1.1,F.1.2,F.2⟩
 obtain⟨p1,p2,p3⟩:=pre;have p2:=Kc p2;have J:=Nl U (.inr (.inl p3));obtain⟨s1,s2⟩:=xh U p1;have hz:(ti P e).zok=true:=by rw[<-J];exact p3
 have V: ∀{α:Prop},g=false->α:=λe=>by rw[hg rfl]at e;cases e
 -- onto nil
 have t: ∀{o:EO I.C} {L:List (List (EV I.C))} {rd:List Nat},K ⟨.v (.c (.own nx)),[(nx,o)],rd,1⟩=some r0->isR o=true->kE P o=P.cellsOf e->tyE o=e->Zl o=L->Zm 0 L.length (T.at e).by_=true->Wj (cI P tx)->
   (∀ι w v,Hd P h rd ι w->cx ι w x v->gx P ι w (P.cellsOf e) L v)->OpD P g h nx K r0 λι w z=> ∃vs vx,cx (I:=I) ι w (.c .nil) vs/\cx ι w x vx/\z=Builtin.append_ #[ts,tx] ty #[vs,vx]:=by
  intro o L rd hK ho h1 h2 h3 Y d hS;obtain⟨a1,a2⟩:=VG p2 Y;refine opd hK V λ_ ι w z W p hf ⟨vs,vx,m,u,es⟩=> ?_;obtain rfl:=Ze rfl m;subst es;exact zAB (R0:=[]) (b:=none) hk d hz ho h1 h2 h3 (hS ι w vx (p.mono λi hi=>Xe _ hi) u) W (fr0 hf) none (by simp) (by simpa using a2) (by rw[<-J];simpa using a1) (.inl ⟨rfl,rfl,rfl⟩) .nil (by simp)
 have y: ∀{id:Nat} {l:List (I.C e)} {o:EO I.C} {L:List (List (EV I.C))} {rd:List Nat},K ⟨.v (.c (.own nx)),[(id, .dead),(nx,o)],rd,1⟩=some r0->h id=some (.sl e l)->isR o=true->kE P o=P.cellsOf e->tyE o=e->Zl o=l.map (I.exp e)++L->Zm l.length L.length (T.at e).by_=true->Wj (cI P tx)->
   (∀ι w v,Hd P h rd ι w->cx ι w x v->gx P ι w (P.cellsOf e) L v)->OpD P g h nx K r0 λι w z=> ∃vs vx,cx (I:=I) ι w (.c (.own id)) vs/\cx ι w x vx/\z=Builtin.append_ #[ts,tx] ty #[vs,vx]:=by
  intro id l o L rd hK hid ho h1 h2 h3 Y d hS;obtain⟨a1,a2⟩:=VG p2 Y;refine opd hK V λ_ ι w z W p hf ⟨vs,vx,m,u,es⟩=> ?_;subst es;exact EU hk d hz W (fr0 hf) (p.2 id (by simp) _ hid) ho h1 h2 h3 m (hS ι w vx (p.mono λi hi=>Xe _ hi) u) a2 (by rw[<-J];exact a1)
 -- onto a slice that is full
 have M: ∀{l new:List (I.C e)} {rd:List Nat},K ⟨.v (.c (.sl e (l++new))),[],rd,1⟩=some r0->Zm l.length new.length (T.at e).by_=true->Wj (cI P tx)->
   (∀ι w v,Hd P h rd ι w->cx ι w x v->gx P ι w (P.cellsOf e) (new.map (I.exp e)) v)->OpD P g h nx K r0 λι w z=> ∃vs vx,cx (I:=I) ι w (.c (.fsl e l)) vs/\cx ι w x vx/\z=Builtin.append_ #[ts,tx] ty #[vs,vx]:=by
  intro l new rd hK ha d hS;obtain⟨a1,a2⟩:=VG p2 ha;refine opd hK V λ_ ι w z W p hf ⟨vs,vx,⟨_,m,a,n,a3⟩,u,es⟩=> ?_;subst a3;subst es;have S1:=hS ι w vx (p.mono λi hi=>by simp[hi]) u;have S0:=gx.froz hI m;obtain rfl:n=l.length:=by cases m with|sl _ _ _ _ _ _ _ _ hn=>rw[hn,Xa]
  have hl:(l.map (I.exp e)).length=l.length:=Xa ..;have O:(new.map (I.exp e)).length=new.length:=Xa ..;obtain⟨i,z,hi,a9,an,ao,ap⟩:=aL hz;by_cases ab:new.length=0
  ·obtain rfl:=Gc ab;obtain⟨Q,l1,_,_,r⟩:=kN (ty:=ty) (a:=a) (n:=l.length) (c:=l.length) (mh hk) d hi S1 (by simp);obtain rfl:=Gc (by rw[l1];simp:Q.length=0);refine⟨.slice a l.length l.length,w,?_, .same W ⟨rfl,by rw[Ib];exact m⟩⟩;rw[r];cases a<;>simp[storeCells]
  ·rw[<-hl]at S0;obtain⟨a6,Q,l0,l1,c0,c1,r⟩:=VO (ty:=ty) (mh hk) d hi a9 S0 S1 (by rw[hl,O];omega) (by rw[hl,O];exact a2) (by rw[hl,O,YG hi];rw[J]at a1;exact a1);rw[hl,O]at r;have ad:=grownCap_ge w (l.length+new.length) l.length e;generalize grownCap w (l.length+new.length) l.length e=c2 at*;refine⟨_,_,r,?_⟩;have:=Done.froze (nx:=nx) (rd:=rd) (k:=1) (l:=l++new) (c:=c2) (cur:=a6.toArray++Q.toArray++Builtin.zeroCells z.cells (c2 - (l.length+new.length))) (w':=w.drew.alloc (.cells (a6.toArray++Q.toArray++Builtin.zeroCells z.cells (c2 - (l.length+new.length))) e)) hI W ⟨rfl,rfl,rfl,rfl⟩ (by
    rw[Tc];refine .app c0.1 c1.1 (λi row j x hi hj=> ?_) (c1.at_app (by simp[l0]));obtain⟨v,a1,a2⟩:=c0.2 i row j x hi hj;have:=(Sb.1 a1).1;exact⟨v,by rw[Array.append_assoc,Te,La this];exact a1,a2⟩) (by rw[Ea];exact ad)
   rw[Ea]at this;exact this
 split at h0
 ·rename_i z f;obtain⟨F,h0⟩:=zX h0;simp only[Da]at F;have a7:=ma F.2;rw[s1]at a7;obtain⟨Z,l1,cs,l2⟩:=z;obtain⟨d,hS,aq,am⟩:Wj (cI P tx)/\(∀rd,Z∈rd-> ∀ι w v,Hd P h rd ι w->cx ι w x v->gx P ι w (P.cellsOf e) (Zl (.slo e l1 cs l2:EO I.C)) v)/\x= .c (.own Z)/\h Z=some (.slo e l1 cs l2):=by
   generalize d:(T.at tx).kd=kx at f;unfold sloE at f;split at f
   case h_2=>cases f
   have d:=jf U d (by simp);split at f
   case h_2=>cases f
   rename_i hid;split at f
   case h_2=>cases f
   rename_i c1 c2;obtain⟨rfl,c1⟩:=qK c1;cases c1;obtain⟨_,c2⟩:=qK c2;cases c2;cases f;exact⟨by rw[d];trivial,λrd al ι w v p hv=>gx.all ((Zu rfl).1 (p.2 _ al _ hid)) hv.2,rfl,hid⟩
  have a8:(Zl (.slo e l1 cs l2:EO I.C)).length=l1.length+1+l2.length:=by simp[Zl];omega
  unfold F7 at h0;split at h0
  ·obtain⟨ha,h0⟩:=QJ h0;exact t h0 rfl rfl rfl rfl (by rw[a8];exact ha) d (hS _ (by simp))
  ·split at h0
   case h_2=>cases h0
   ·rename_i hid;split at h0
    case h_2=>cases h0
    rename_i c1;obtain⟨rfl,c1⟩:=qK c1;cases c1;obtain⟨ha,h0⟩:=QJ h0;exact y h0 hid rfl rfl rfl (by simp[Zl]) (by rw[a8];exact ha) d (hS _ (by simp))
  ·cases h0
 ·obtain⟨_,h0⟩:=zX h0;split at h0
  case h_2=>cases h0
  rename_i new rd ok A;split at h0
  ·obtain⟨E,h0⟩:=QJ h0;obtain⟨ha,h0⟩:=QJ h0;obtain⟨d,hS⟩:=lD hI U p1 A E;exact t h0 rfl rfl rfl rfl (by show Zm 0 (new.map (I.exp e)).length _=true;rw[Xa];exact ha) d λι w v p hv=>hS p hv
  ·split at h0
   case h_2=>cases h0
   rename_i hid;split at h0
   case h_2=>cases h0
   rename_i c1;obtain⟨rfl,c1⟩:=qK c1;cases c1;obtain⟨E,h0⟩:=QJ h0;obtain⟨ha,h0⟩:=QJ h0;obtain⟨d,hS⟩:=lD hI U p1 A E;exact y h0 hid rfl rfl rfl (by simp[Zl]) (by rw[Xa];exact ha) d λι w v p hv=>hS (p.mono λi hi=>by simp[hi]) hv
  ·split at h0
   case h_2=>cases h0
   rename_i c1 _ _;obtain⟨rfl,c1⟩:=qK c1;cases c1;obtain⟨E,h0⟩:=QJ h0;obtain⟨ha,h0⟩:=QJ h0;obtain⟨d,hS⟩:=lD hI U p1 A E;exact M h0 ha d λι w v p hv=>hS p hv
  ·cases h0
def TG{e:Nat}(hI:cU P I)(hk:P.cellsOf e=1){l:List (I.C e)}{bs:List UInt8}(hb:l.map (I.full e)=bs.map λb=>[.at (.int .u8 b.toNat)]){a:Option Addr}{n c:Nat}(hs:gx P ι w (P.cellsOf e) (l.map (I.exp e)) (.slice a n c)):
  (Conv.bytesToString (.slice a n c)).run P w= .ok (.string ⟨bs.toArray⟩) w:=by
 obtain⟨cs,h1,h2,_,h4⟩:=hs;obtain⟨m,f⟩:=h4 w rfl;have d:l.length=bs.length:=by have:=congrArg List.length hb;simpa using this
 simp[Builtin.lenOf]at m;subst m;rw[d]at f ⊢;have j:cs=(bs.map λb=>(b.toNat:Int)).map (Value.int .u8):=by
  apply List.ext_getElem?;intro i;rw[Xa,d]at h1;by_cases hi:i<bs.length
  ·obtain⟨y,o⟩: ∃y,l[i]? =some y:=⟨_,Na (by omega)⟩;have hf:=congrArg (·[i]?) hb;simp only[Ta,o,Na hi,Ed,Option.some.injEq]at hf;obtain⟨z,p⟩: ∃z,(I.exp e y)[0]? =some z:=⟨_,Na (by rw[Um hI,hk];omega)⟩;obtain⟨r,s⟩:=Sm hI p;rw[hf]at r;obtain⟨v,a1,_,a2⟩:=h2.2 i _ 0 z (by rw[Ta,o];rfl) p;rw[hk,Jf,Od,List.getElem?_toArray]at a1;have a2:=(Cj s).1 a2;rw[show pvE I z= .at (.int .u8 bs[i].toNat) by simpa using r.symm]at a2;cases a2;simp[a1,hi]
  ·rw[List.getElem?_eq_none (by rw[h1,hk];omega),List.getElem?_eq_none (by simp;omega)]
 have k:(bs.map λb=>(b.toNat:Int)).map (λn=>UInt8.ofNat n.toNat)=bs:=by simp[Function.comp_def]
 cases a with
 |none=>
  simp only[Builtin.firstCells,Sem.run_pure,Result.ok.injEq,and_true]at f;have hn:bs=[]:=by have:=congrArg Array.size f;rw[j]at this;simp at this;first|exact this|exact Gc this.symm
  subst hn;rfl
 |some a=> rw[hk,j]at f;simp only[Builtin.firstCells,Jf,Xa,d]at f ⊢;rw[run_bytesToString w a bs.length c _ f,zBw,k];simp
def zG8(hI:cU P I){e:Nat}{x:ET I.C}{bs:List UInt8}{rd:List Nat}{ok:Bool}(h0:XM e h x=some (bs,rd,ok))(j:ok=true){v:Value}(k:Hd P h rd ι w)(hv:cx ι w x v): ∃a n c,v= .slice a n c/\(Conv.bytesToString v).run P w= .ok (.string ⟨bs.toArray⟩) w:=by
 unfold XM at h0;split at h0
 ·cases h0
 rename_i p hp;obtain⟨_,b2,_⟩:=hI.byt e p hp;split at h0
 ·cases h0;obtain rfl:=Ze rfl hv;exact⟨_,_,_,rfl,rfl⟩
 ·split at h0<;>cases h0;rename_i hc;obtain⟨rfl,hc⟩:=qK hc;cases hc;have S:=gx.froz hI hv.2;obtain⟨_,hv⟩:=hv;cases hv with|sl=>exact⟨_,_,_,rfl,TG hI (Pz hI hp) (b2 _) S⟩
 ·split at h0
  case h_2=>cases h0
  rename_i hid;split at h0<;>cases h0;rename_i hc;obtain⟨rfl,hc⟩:=qK hc;cases hc;have f:=(Zu rfl).1 (k.2 _ (by simp) _ hid);have S:=gx.all f hv.2;have d:=f;obtain⟨b,h1,_⟩:=d;obtain⟨a,c,rfl⟩:=Sv h1 hv.2;exact⟨_,_,_,rfl,TG hI (Pz hI hp) (b2 _) S⟩
 ·split at h0
  case h_2=>cases h0
  rename_i hid;split at h0<;>cases h0;rename_i off n _ _ l _ _ hc;obtain⟨rfl,hc⟩:=qK hc;cases hc;have f:=(Zu rfl).1 (k.2 _ (by simp) _ hid);have d:=f;obtain⟨b,h1,_⟩:=d;have i:li ι w _ (some _) v:=hv.2;rw[h1]at i;have S:=gx.own f (by simpa [Zl] using jb j) h1 i;obtain⟨a,c,rfl⟩:=Sv h1 hv.2;refine⟨_,_,_,rfl,TG hI (Pz hI hp) (l:=(l.drop off).take n) (by rw[Pf,List.map_drop,b2,<-List.map_drop,<-Pf]) (by rw[Pf,List.map_drop];exact S)⟩
 ·cases h0
def zMk(hI:cU P I)(f:g8 P T fk){src dst:Nat}{x:ET I.C}(Y:q=[]->g=true)(h0:SQ T h nx src dst x q g K=some r0):OpD P g h nx K r0 λι w s=> ∃v,cx ι w x v/\s=convert src dst v:=by
 have M:q=[]-> ∀{α:Prop},g=false->α:=λh _ e=>by rw[Y h]at e;cases e
 unfold SQ at h0;split at h0
 ·rename_i k k' n hk;split at h0
  ·cases h0
  rename_i hb;obtain⟨d,A⟩:=Fs (show cI P src≠ .bad by rw[jf f rfl hb];exact hb);refine(gs h0 λ_ ι w s _ ⟨v,hv,m⟩=>⟨_,?_,Ci _ _⟩).opd;obtain rfl:=Ze rfl hv;subst m;cases d<;>simp[convert,run_underlying A,run_underlying (lu (jf f hk (by simp))),Conv.intToInt]
 ·rename_i l hk;split at h0
  ·cases h0
  rename_i hb;obtain⟨d,A⟩:=Fs (show cI P src≠ .bad by rw[jf f rfl hb];exact hb);refine(gs h0 λ_ ι w s _ ⟨v,hv,m⟩=>⟨_,?_,Tv _⟩).opd;obtain rfl:=Ze rfl hv;subst m;cases d<;>simp[convert,run_underlying A,run_underlying (Yn (jf f hk (by simp)))]
 ·rename_i e l hk;split at h0
  case h_2=>cases h0
  rename_i p hp E;obtain⟨_,h0⟩:=zX h0;obtain⟨hm,h0⟩:=QJ h0;have hm:=jb hm;obtain⟨q1,q2,q3⟩:=hI.byt e p hp;refine opd h0 (M rfl) λ_ ι w s W _ hf ⟨v,hv,m⟩=> ?_;obtain rfl:=Ze rfl hv;refine⟨_,_,m▸Lib.run_convert_string_bytes w src dst e ⟨l.toArray⟩ (Yn (jf f E (by simp))) (mh (jf f hk (by simp))) (lu q3),?_⟩;obtain⟨cs,c1,c2,_,c4⟩:=gx.str (P:=P) (ι:=ι) (w:=w) hI hp l;have r:(p.1 l).length=l.length:=by have:=congrArg List.length (q1 l);simpa using this
  have t:=grownCap_ge w l.length 0 e;have O:=grownCap_le_maxLen w l.length 0 e hm;have Q:(Lib.bytesCells w e ⟨l.toArray⟩).size=grownCap w l.length 0 e:=by simp only[Lib.bytesCells,gn,Array.size_append,Array.size_map,uf,df];omega
  have k2:=Pz hI hp;have Z:Qf ι w (P.cellsOf e) ((p.1 l).map (I.exp e)) (Lib.bytesCells w e ⟨l.toArray⟩):=by
   refine⟨c2.1,λi row j x hi hj=> ?_⟩;obtain rfl:j=0:=by have:=(Ua.1 hj).1;have:=c2.1 row (Ob hi);omega
   simp only[Ta,Sa]at hi;obtain⟨y,hy,rfl⟩:=hi;have hf:=congrArg (·[i]?) (q1 l);simp only[Ta,hy,Ed]at hf;obtain⟨b,hb,hf⟩:=Sa.1 hf.symm;obtain⟨e1,e2⟩:=Sm hI hj;rw[<-hf]at e1;refine⟨.int .u8 b.toNat,?_,rfl,(Cj e2).2 ?_⟩
   ·have U:=(Ua.1 hb).1;have a3:=(Ua.1 hb).2;simp only[k2,Jf,Od,Lib.bytesCells];rw[Te,La (by simpa using U)];simp[U,a3]
   ·rw[show pvE I x= .at (.int .u8 b.toNat) by simpa using e1.symm];exact .at _ rfl
  refine Done.grow (o:= .sl e (p.1 l)) (cur:=Lib.bytesCells w e ⟨l.toArray⟩) W (fr0 hf) rfl (nW w e ⟨l.toArray⟩) (.inr (Db _)) Z (by simp only[Zl,kE,Xa,r,Q,k2,Jf];exact t) none (by simp) λ_ ι' _ e'=>Ls e' ?_;simp only[Zl,kE,Xa,r,gn];refine .inr ⟨_,grownCap w l.length 0 e,e,(Lib.bytesCells w e ⟨l.toArray⟩).size,_,rfl,rfl, .inr (by simp),t,O,by simp[World.shape?,(nW w e ⟨l.toArray⟩).new],?_⟩;rw[Q,k2];omega
 ·rename_i e id hk;split at h0
  case h_2=>cases h0
  rename_i u l hid;obtain⟨hh,h9⟩:=zX h0;clear h0;simp only[Da]at hh;obtain⟨⟨⟨c1,c2⟩,c3⟩,c4⟩:=hh;obtain rfl:=ma c1;have hk:=jf f hk (by simp);have F:cI P e= .int .u8:=by generalize J:(T.at e).kd=ke at c2;cases ke<;>simp only[isU8,reduceCtorEq]at c2;rename_i k;cases k<;>simp only[reduceCtorEq]at c2;exact jf f J (by simp)
  obtain⟨s1,s2⟩:=xh f c4;have a7:0<l.length:=by cases l<;>simp at c3 ⊢
  refine opd h9 (M rfl) λ_ ι w s W A _ ⟨v,hv,m⟩=> ?_;obtain⟨b,b1,b2,_,b4⟩:=bM W ((Zu rfl).1 (A.2 id (by simp) _ hid)) hv;rcases b2 with⟨_,e0,_⟩|⟨L,c,ty,sz,a,rfl,rfl,ha,a8,a9,ab,ad⟩
  ·omega
  obtain⟨cur,fr,ty2,d1,d2,d3,d4⟩:=b4 L rfl;have ha:a=some ⟨L,0,none⟩:=by
   rcases ha with ha|ha
   ·omega
   ·rw[ha,Uf]
  subst ha;obtain⟨al,g1,g2,ch⟩:=zG1 d1 d2.1;have V:w.shape? L=some (ty2,cur.size):=by simp[World.shape?,d1]
  obtain⟨S,W'⟩:=Fv (T:=λi=>i∈[(id,(.sl u l:EO I.C))].map (·.1)) W b1 (by simp) ch;refine⟨.slice (some ⟨L,0,none⟩) l.length c,w.freeze ⟨L,cur.size,none⟩ 1,?_,ι,S,W',cx.step S hv,λp hp=> ?_,λ_ h _=>h⟩
  ·subst m;simp only[convert,Sem.run_bind,run_underlying (mh hk),Result.andThen_ok,run_underlying (lu F),markStringish,run_shape,V,Ff];rfl
  ·simp at hp;subst hp;exact⟨some L,by rw[b1];simp[kE,Zl],d3.blk S g1 ⟨g2,d2.2⟩ d4⟩
 ·rename_i hk hn;split at h0
  case h_2=>cases h0
  rename_i e E;obtain⟨hu,h0⟩:=zX h0;have F:cI P e= .int .u8:=by generalize J:(T.at e).kd=ke at hu;cases ke<;>simp only[isU8,reduceCtorEq]at hu;rename_i k;cases k<;>simp only[reduceCtorEq]at hu;exact jf f J (by simp)
  split at h0
  case h_2=>cases h0
  rename_i bs rd ok hl;obtain⟨a6,h0⟩:=Tj Y h0;refine(gs h0 λY ι w s A ⟨v,hv,m⟩=>⟨_,?_,Tv _⟩).opd;obtain⟨a,n,c,rfl,hr⟩:=zG8 hI hl (a6 Y) A hv;rw[m,run_convert_bytes_string w src dst e a n c (mh (jf f E (by simp))) (lu F) (Yn (jf f hk (by simp)))];exact hr
 ·cases h0
end
section
variable {I:Ip} {P:Program} {T:TT} {fk:List (Nat×List Kd)} {ι:cL} {w w':World} {h:Nat->Option (EO I.C)} {nx:Nat} {R:Type} {r0:R} {q:Path} {g:Bool} {K:Kt I R}
def Y4{kd:IntKind}: ∀{n:Nat} {cs:List (EV I.C)},isZs kd n cs=true->cs=List.replicate n (.int kd 0)
 |0,[],_=>rfl
 |0,_::_,h=>by cases h
 |_+1,[],h=>by cases h
 |n+1,x::r,h=>by
  cases x<;>try (cases h;done)
  simp only[isZs,Da,aa]at h;obtain rfl:=Pt h.1;obtain rfl:=h.2.1;rw[List.replicate_succ,Y4 h.2.2]
def zHL(hI:cU P I)(m:g8 P T fk){t:Nat}(v:q=[]->g=true)(h0:dR T nx t q K=some r0):OpD P g h nx K r0 λ_ _ s=>s=Instr.alloc t true (.tuple #[]):=by
 unfold dR at h0;split at h0
 case h_2=>cases h0
 rename_i n e hk;split at h0
 case h_2=>cases h0
 rename_i kd y;obtain⟨a,hm,h0⟩:=Zy h0;obtain⟨hc,h1⟩:=zX h0;clear h0;simp only[Da]at hc;refine opd h1 (λe=>by rw[v rfl]at e;cases e) λ_ ι w s W O hf A=> ?_;obtain⟨i,z,hi,E,hs,c1,c2⟩:=Vr m hc.2.1;have hr:=Cw (I:=I) (ι:=ι) (w:=w) c1;rw[<-c2,Y4 hc.2.2]at hr;obtain⟨p,F⟩:=aF (P:=P) hI hm;have c:z.cells.size=n:=by have:=hr.1;simpa using this
 have d:(Zl (.sl e (List.replicate n a):EO I.C)).length=n:=by simp[Zl]
 have b:kE P (.sl e (List.replicate n a):EO I.C)=1:=p.symm;have f:Qf ι w (kE P (.sl e (List.replicate n a):EO I.C)) (Zl (.sl e (List.replicate n a):EO I.C)) z.cells:=by
  rw[b];have k:(I.exp e a).length=1:=(Um hI e a).trans p.symm;refine⟨λrow hr=> ?_,λi row j x hi r=> ?_⟩
  ·simp only[Zl,List.map_replicate]at hr;rw[(List.mem_replicate.1 hr).2];exact k
  ·simp only[Zl,List.map_replicate,List.getElem?_replicate]at hi;split at hi
   case isFalse=>cases hi
   rename_i l;cases hi;obtain rfl:j=0:=by have:=(Ua.1 r).1;omega
   obtain⟨u,J,L,M⟩:=hr.2 i (.int kd 0) (by rw[List.getElem?_replicate,La l]);refine⟨u,by simpa using J,L,?_⟩;obtain⟨_,h2⟩:=(F ι w).2 0 _ _ rfl rfl;exact h2 0 _ _ rfl r u M
 refine⟨_,_,?_,Done.growA (o:= .sl e (List.replicate n a)) (cur:=z.cells) (ty2:=t) (fr:=(0,0)) W (fr0 hf) rfl (iq w _) ⟨.inl rfl, .inr ⟨n,jf m hk (by simp),hs,by rw[c,show P.cellsOf (tyE (.sl e (List.replicate n a):EO I.C))=1 from b,Jf]⟩⟩ f (by rw[d,b,c];simp) none (by simp) λ_ _ _ e=>kD e⟩;subst A;simp only[Instr.alloc,Sem.run_bind,Hw hi E,Result.andThen_ok,newVar,newRow,run_newObj,Sem.run_pure]
def zHN(J:g8 P T fk){t:Nat}(L:q=[]->g=true)(h0:bR T nx t q K=some r0):OpD P g h nx K r0 λ_ _ s=>s=Instr.alloc t true (.tuple #[]):=by
 unfold bR at h0;split at h0
 case h_2=>cases h0
 rename_i r l;obtain⟨hc,h1⟩:=zX h0;clear h0;simp only[Da]at hc;refine opd h1 (λe=>by rw[L rfl]at e;cases e) λ_ ι w s W V hf M=> ?_;obtain⟨i,z,hi,O,hs,c1,c2⟩:=Vr J hc.1;have A:(T.at t).sz=P.cellsOf t:=by rw[Nl J (.inr (.inl hc.1))];rfl
 have hr:=Cw (I:=I) (ι:=ι) (w:=w) c1;rw[c2]at l;rw[l]at hr;have f:z.cells.size=r.length+1:=by have:=hr.1;simpa using this
 let a:cL:=ju ι nx (.live (some w.heap.size) (r.length+1) 1)
 have h2:a nx=_:=zg0 ..;have gr:=iq w (.cells z.cells t (0,0));obtain⟨S,Q⟩:=mR (ι':=a) (T:=λi=>i∈[(nx,(EO.cells t (.nop nx t (T.at t).sz::r):EO I.C))].map (·.1)) (d:=λ_=>False) W (fr0 hf) gr.wld rfl h2 (λi hi=> .inl (ik _ _ _ hi)) (λ_ h=>h.elim)
  (λY e=>by cases e;exact .inl ⟨Db _,by rw[gr.size];omega⟩) (λ_ h=>h.elim)
 have hb:=Qf.blk (ty:=km P t) S (hr.cells rfl) gr.new ⟨.inl rfl, .inl rfl⟩ (by simp[f]);refine⟨_,_,?_,a,S,Q,kD h2,λp hp=> ?_,λid hi hn=> ?_⟩
 ·subst M;simp only[Instr.alloc,Sem.run_bind,Hw hi O,Result.andThen_ok,newVar,newRow,run_newObj,Sem.run_pure]
 ·simp at hp;subst hp;refine⟨_,h2,?_⟩;refine Blk.les hb (λ_ _=>rfl) ⟨by simp[Zl],λi x Z E n=> ?_⟩
  match i with
  |i+1=>simp at E
  |0=>
   simp[Zl]at E n;subst E;subst n;refine⟨by simp,λj p p' hp c v hv o=> ?_⟩
   match j with
   |j+1=>
    simp at hp c;obtain⟨y,U,rfl⟩:=hp;obtain⟨y',u,rfl⟩:=c;rw[U]at u;cases u;exact o
   |0=> simp at hp c;subst hp;subst c;cases (show cX _ _ (.at (.pointer none)) v from o);refine⟨.inl rfl,by rw[h2];simp,λb k m e=> ?_⟩;rw[h2]at e;cases e;have F:(w.alloc (.cells z.cells t (0,0))).heap[w.heap.size]? =some (.cells z.cells t (0,0)):=gr.new;unfold World.shape?;rw[F];simp[f,A,<-hs]
 ·rw[show a id=ι id from ik _ _ _ (by simp at hn;omega)];exact hi
end
end Go.Lv


