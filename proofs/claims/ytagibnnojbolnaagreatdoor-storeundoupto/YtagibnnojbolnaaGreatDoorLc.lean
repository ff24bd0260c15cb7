/- What operations that read do: slices, lengths, truth values. -/
import Derived.Test.YtagibnnojbolnaaGreatDoorLb
import Derived.MapKept
set_option linter.unusedSimpArgs false
set_option linter.unusedVariables false
namespace Go.Lv
section
variable {I:Ip} {P:Program} {T:TT} {fk:List (Nat×List Kd)} {ι:Asg} {w:World} {h:Nat->Option (EO I.C)} {R:Type} {r0:R} {q:Path} {g:Bool} {K:Kt I R}
theorem XX: ∀{cs:List (EV I.C)} {ls:List (List UInt8)},Es cs=some ls->cs=ls.map .str
 |[],ls,h=>by cases h;rfl
 |x::r,ls,h=>by
  cases x<;>simp only[Es,reduceCtorEq]at h;split at h
  ·rename_i m hm;cases h;rw[XX hm];rfl
  ·cases h
theorem zGK(hT:TOK P T fk){t:Nat}{x i:ET I.C}(hg:q=[]->g=true)(h0:dN T t x i q g K=some r0):
  OpV P g h K r0 fun ι w s=> ∃vx vi,RepT ι w x vx/\RepT ι w i vi/\s=Instr.index t vx vi:=by
 unfold dN at h0;split at h0
 case h_2=>cases h0
 rename_i kk i;split at h0
 ·rename_i l hk;have hk:=QR hT hk (by simp);obtain⟨b,h0,hb⟩:=Px hg h0;refine opv h0 fun hg ι w s hd ⟨vx,vi,hx,hi,es⟩=>⟨_,?_,Q7 _ _⟩;obtain rfl:=Zf rfl hi;obtain rfl:=Zf rfl hx;obtain⟨i1,i2,i3,i4⟩:=kI (hb hg);have hget:(ByteArray.mk l.toArray)[i.toNat]? =some b:=by rw[getElem?_pos (ByteArray.mk l.toArray) i.toNat (by rw[size_mk];exact i3)];rw[Ta i3]at i2;simpa [ByteArray.getElem_eq_getElem_data] using i2
  subst es;simp[Instr.index,asIntOf,run_underlying (Um hk),i1,hget]
 ·rename_i n e cs hk;split at h0
  case h_2=>cases h0
  rename_i ls he hl;obtain rfl:=XX hl;obtain⟨hc,h1⟩:=Zb h0;clear h0;simp only[Da]at hc;obtain rfl:=La hc.1;have hs:=La hc.2;have hs':=(yg hT (t:=e) (by rw[hs];rfl)).1;have he:=QR hT he (by simp);obtain⟨s,h0,hb⟩:=Px hg h1;refine opv h0 fun hg ι w s' hd ⟨vx,vi,⟨X,hX,hX'⟩,hi,es⟩=> ?_;obtain rfl:=Zf rfl hi;obtain⟨i1,i2,i3,i4⟩:=kI (hb hg);obtain⟨u,hu,h6⟩:=hX'.2 i.toNat (.str s) (by grind);subst es;subst hX;refine⟨u,?_,h6⟩;simp only[Instr.index,asIntOf,Sem.run_bind,Sem.run_pure,Result.andThen_ok,run_underlying (Bq (QR hT hk (by simp)))];simp only[i1,i4,and_self,Df,Sem.run_bind,Q8 (P:=P) (t:=e) (by omega),Result.andThen_ok,<-hs',hs,Yg];exact CG (by rw[he];simp) (by rw[he];rfl) hu
 ·cases h0
theorem Jq{id n:Nat}{m:Option (Nat×Nat)}{b:Option Nat}{k:Nat}(e:ι id= .live b k n){v:Value}(h:SlS ι w (ι id) m v): ∃a c,v= .slice a (match m with|none=>n|some x=>x.2) c:=by rw[e]at h;cases m<;>rcases h with⟨_,h1,rfl⟩|⟨_,c,_,_,a,_,rfl,_⟩<;>first|simp_all|grind
theorem zL8(hT:TOK P T fk){t:Nat}{x:ET I.C}(ty:TypeId)(h0:lenE (T.at t).kd h x K=some r0):OpV P g h K r0 fun ι w s=> ∃vx,RepT ι w x vx/\s=Builtin.len_ #[t] ty #[vx]:=by
 generalize hk:(T.at t).kd=kd at h0;have hk:=fun hb=>QR hT hk hb;have sl: ∀{e a n c w},kd= .sl e->(Builtin.len_ #[t] ty #[.slice a n c]).run P w= .ok (.int .i64 n) w:=fun e=>by simp[Builtin.len_,run_underlying (mg (e▸hk (by rw[e];simp))),goInt]
 unfold lenE at h0;split at h0
 ·refine opv h0 fun _ ι w s _ ⟨vx,hx,es⟩=>⟨_,?_,Q7 _ _⟩;obtain rfl:=Zf rfl hx;subst es;simp[Builtin.len_,run_underlying (Um (hk (by simp))),goInt,size_mk]
 ·refine opv h0 fun _ ι w s _ ⟨vx,⟨_,hx⟩,es⟩=>⟨_,?_,Q7 _ _⟩;cases hx with
  |sl _ a n c k b o val hn=>grind
 ·refine opv h0 fun _ ι w s _ ⟨vx,hx,es⟩=>⟨_,?_,Q7 _ _⟩;obtain rfl:=Zf rfl hx
  grind
 ·split at h0<;>first
   |(cases h0;done)
   |(rename_i hid
     refine opv h0 fun _ ι w s hd ⟨vx,⟨_,hx⟩,es⟩=>⟨_,?_,Q7 _ _⟩;obtain⟨b,h3,_⟩:=(Zo rfl).1 (hd.2 _ (by simp) _ hid);obtain⟨a,c,rfl⟩:=Jq (n:=_) h3 hx;rw[es,sl rfl];simp[Zd,xe,Re 1])
   |(rename_i hid
     refine opv h0 fun _ ι w s hd ⟨vx,⟨_,hx⟩,es⟩=>⟨_,?_,Q7 _ _⟩;obtain⟨rs,q1,b,h3,_⟩:=KN (hd.2 _ (by simp) _ hid);obtain⟨a,c,rfl⟩:=Jq (n:=_) h3 hx;rw[es,sl rfl];simp[Zd,q1])
 ·split at h0<;>first
   |(cases h0;done)
   |(rename_i hid
     refine opv h0 fun _ ι w s hd ⟨vx,⟨_,hx⟩,es⟩=>⟨_,?_,Q7 _ _⟩;obtain⟨b,h3,_⟩:=(Zo rfl).1 (hd.2 _ (by simp) _ hid);obtain⟨a,c,rfl⟩:=Jq (n:=_) h3 hx;rw[es,sl rfl])
 ·refine opv h0 fun _ ι w s _ ⟨vx,hx,es⟩=>⟨_,?_,Q7 _ _⟩;subst es;simp[Builtin.len_,run_underlying (Bq (hk (by simp))),goInt]
 ·cases h0
def Bnd(v:Option Value)(n:Option Int):Prop:=(v=none/\n=none)\/ ∃k m,v=some (.int k m)/\n=some m
theorem gJ{lo hi mx:Option Int}{n:Nat}(h:Uj lo hi mx n=true):0<=lo.getD 0/\lo.getD 0<=hi.getD n/\hi.getD n<=mx.getD n/\mx.getD n<=n/\(mx≠none->hi≠none):=by
 unfold Uj at h
 grind
theorem KX{α:Type}(l:List α)(lo hi:Option Int):cutL l lo hi=(l.take (hi.getD l.length).toNat).drop (lo.getD 0).toNat:=by cases lo<;>cases hi<;>simp[cutL]
theorem yx{t e:Nat}(hk:kdOf P t= .sl e)(hs:0<P.cellsOf e){a:Option Addr}{n c:Nat}(hc:n<=c){lo hi mx:Option Value}{l hh m:Option Int}(h1:Bnd lo l)(h2:Bnd hi hh)(h3:Bnd mx m)(h:Uj l hh m n=true):
  (Instr.sliceAt t (.slice a n c) lo hi mx).run P w= .ok (.slice (if(m.map Int.toNat).getD c=(l.getD 0).toNat then a else a.map (·.add ((l.getD 0).toNat*P.cellsOf e))) ((hh.getD n).toNat - (l.getD 0).toNat) ((m.map Int.toNat).getD c - (l.getD 0).toNat)) w/\
   (l.getD 0).toNat<=(hh.getD n).toNat/\(hh.getD n).toNat<=n/\(hh.getD n).toNat<=(m.map Int.toNat).getD c/\(m.map Int.toNat).getD c<=c:=by
 obtain⟨g1,g2,g3,g4,g5⟩:=gJ h;have hb:=GK (P:=P) (w:=w) (isSlice:=true) h1 h2 h3 g1 g2 g3 g4 hc g5;refine⟨by simp[Instr.sliceAt,Instr.slice,run_underlying (mg hk),hb,Q8 hs],by omega,by omega,?_,?_⟩<;>cases m<;>simp at g3 g4 ⊢ <;>omega
theorem SlAt.cut{b:Option Nat}{k n c L H M:Nat}{a:Option Addr}(h:SlAt w b k 0 n (.slice a n c))(h1:L<=H)(h2:H<=n)(h3:H<=M)(h4:M<=c):SlAt w b k L (H - L) (.slice (if M=L then a else a.map (·.add (L*k))) (H - L) (M - L)):=by
 rcases h with⟨rfl,rfl,e⟩|⟨b',c',ty,sz,a',rfl,e,hca,hc,hcm,hsh,hle⟩<;>cases e
 ·obtain rfl:M=0:=by omega
  exact .inl ⟨rfl,by omega,by simp;omega⟩
 ·refine .inr ⟨b',M - L,ty,sz,_,rfl,rfl,?_,by omega,by omega,hsh,?_⟩
  ·by_cases e:M=L
   ·grind
   ·rw[Oa e,hca.resolve_left (by omega)];exact .inr (by simp[addr_add])
  ·exact Bb (Vb _ (by omega)) hle
theorem zIr(hI:IpOK P I)(hT:TOK P T fk){t:Nat}{x:ET I.C}{l hh m:Option Int}(hg:q=[]->g=true)(h0:yM T h t x l hh m q g K=some r0):
  OpV P g h K r0 fun ι w s=> ∃vx lo hi mx,RepT ι w x vx/\Bnd lo l/\Bnd hi hh/\Bnd mx m/\s=Instr.sliceAt t vx lo hi mx:=by
 unfold yM at h0;split at h0
 ·rename_i s hk;have hk:=QR hT hk (by simp);split at h0
  case h_2=>cases h0
  obtain⟨hc,h0⟩:=Q4 hg h0;refine opv h0 fun hg ι w s' hd ⟨vx,lo,hi,mx,hx,b1,b2,b3,es⟩=> ?_;obtain rfl:=Zf rfl hx;obtain⟨g1,g2,g3,g4,g5⟩:=gJ (hc hg);obtain rfl:mx=none:=by rcases b3 with e|⟨_,_,_,e⟩<;>simp_all
  have hb:=GK (P:=P) (w:=w) (isSlice:=false) (cap:=s.length) b1 b2 b3 g1 g2 g3 g4 (Xa _) g5;refine⟨_,?_,OB _⟩;have e:(ByteArray.mk s.toArray).extract (l.getD 0).toNat (hh.getD ↑s.length).toNat=⟨(cutL s l hh).toArray⟩:=by rw[Lib.extract_eq,KX];simp[List.drop_take]
  subst es;simp only[Instr.sliceAt,Instr.slice,Sem.run_bind,run_underlying (Um hk),Result.andThen_ok];simp[size_mk,hb,e]
 ·rename_i e u y hk;have hk:=QR hT hk (by simp);obtain⟨hc,h0⟩:=Zb h0;simp only[Da]at hc;obtain rfl:=La hc.1;obtain⟨_,hs⟩:=yg hT hc.2;have key: ∀{ι w vx lo hi mx},Uj l hh m (y.length:Nat)=true->RepT ι w (.c (.sl e y)) vx->Bnd lo l->Bnd hi hh->Bnd mx m-> ∃a n c,(Instr.sliceAt t vx lo hi mx).run P w= .ok (.slice a n (c - (l.getD 0).toNat)) w/\n=(hh.getD y.length).toNat - (l.getD 0).toNat/\(∀b,m=some b->c=b.toNat)/\RepP (Dom ι w) w (.sl ((cutL y l hh).map (I.full e))) (.slice a n (c - (l.getD 0).toNat)):=by
   intro ι w vx lo hi mx hc hx b1 b2 b3;obtain⟨_,hx⟩:=hx;have hx:RepP (Dom ι w) w (.sl (y.map (I.full e))) vx:=hx;obtain⟨a,n,c,rfl,hn,hc'⟩: ∃a n c,vx= .slice a n c/\n=y.length/\n<=c:=by cases hx with|sl _ a n c k b o val hn hc'=>grind
   subst hn;obtain⟨r1,r2,r3,r4,r5⟩:=yx (w:=w) hk hs (a:=a) hc' b1 b2 b3 hc;refine⟨_,_,_,r1,rfl,fun b e=>by rw[e];rfl,?_⟩;have:=zKi hx (k:=P.cellsOf e) (fun row hr=>by obtain⟨z,_,rfl⟩:=Nb.1 hr;exact hI.len e z) r2 r4 r3 r5
   rwa [KX,List.map_drop,Bf]
  split at h0
  ·obtain⟨hc,h0⟩:=Q4 hg h0;refine opv h0 fun hg ι w s' hd ⟨vx,lo,hi,mx,hx,b1,b2,b3,es⟩=> ?_;obtain⟨a,n,c,k1,_,_,k2⟩:=key (hc hg) hx b1 b2 b3;exact⟨_,es▸k1,rfl,k2⟩
  ·split at h0
   case h_2=>cases h0
   obtain⟨hc,h0⟩:=Q4 hg h0;refine opv h0 fun hg ι w s' hd ⟨vx,lo,hi,mx,hx,b1,b2,b3,es⟩=> ?_;have hc:=hc hg;simp only[Da,ja]at hc;obtain⟨a,n,c,k1,k3,k4,k2⟩:=key hc.1 hx b1 b2 b3;refine⟨_,es▸k1,rfl,k2,_,_,by rw[k3,k4 _ rfl,hc.2];rfl⟩
 ·rename_i e hk;have hk:=QR hT hk (by simp);obtain⟨hs,h0⟩:=Zb h0;obtain⟨_,hs⟩:=yg hT hs;obtain⟨hc,h0⟩:=Q4 hg h0;refine opv h0 fun hg ι w s' hd ⟨vx,lo,hi,mx,hx,b1,b2,b3,es⟩=> ?_;obtain rfl:=Zf rfl hx;obtain⟨r1,r2,r3,r4,r5⟩:=yx (w:=w) hk hs (a:=none) (Xa 0) b1 b2 b3 (hc hg);refine⟨.slice none 0 0,?_,rep1 rfl rfl⟩;rw[es,r1]
  grind
 ·rename_i e id hk;have hk:=QR hT hk (by simp);split at h0
  case h_2=>cases h0
  rename_i u y hid;obtain⟨hc,h0⟩:=Zb h0;simp only[Da]at hc;obtain rfl:=La hc.1;obtain⟨_,hs⟩:=yg hT hc.2;obtain⟨hc,h0⟩:=Q4 hg h0;refine opv h0 fun hg ι w s' hd ⟨vx,lo,hi,mx,⟨_,hx⟩,b1,b2,b3,es⟩=> ?_;obtain⟨b,h3,_⟩:=(Zo rfl).1 (hd.2 _ (by simp) _ hid);have hlen:(Zd (.sl e y:EO I.C)).length=y.length:=Fb ..;rw[hlen]at h3;have hx:SlS ι w (ι id) none vx:=hx;rw[h3]at hx;have hx:SlAt w b (P.cellsOf e) 0 y.length vx:=hx;obtain⟨a,c,rfl,hnc⟩: ∃a c,vx= .slice a y.length c/\y.length<=c:=by
   rcases hx with⟨_,h1,rfl⟩|⟨_,c,_,_,a,_,rfl,_,h4,_⟩
   ·grind
   grind
  obtain⟨r1,r2,r3,r4,r5⟩:=yx (w:=w) hk hs (a:=a) hnc b1 b2 b3 (hc hg);refine⟨_,es▸r1,rfl,?_⟩;show SlS ι w (ι id) (some _) _;rw[h3];exact hx.cut r2 r3 r4 r5
 ·rename_i n e id row cell hk;have hk:=QR hT hk (by simp);split at h0
  case h_2=>cases h0
  rename_i u y hid;obtain⟨hc,h1⟩:=Zb h0;clear h0;simp only[Da]at hc;obtain⟨⟨⟨⟨c1,c2⟩,c3⟩,c4⟩,c5⟩:=hc;obtain rfl:=La c1;obtain rfl:=La c3;obtain rfl:=La c4;have c5:=Gc c5;obtain⟨_,hs⟩:=yg hT c2;obtain⟨hc,h1⟩:=Q4 hg h1;refine opv h1 fun hg ι w s' hd ⟨vx,lo,hi,mx,hx,b1,b2,b3,es⟩=> ?_;have hc:=hc hg;rw[Da]at hc;have hn:=La hc.2;obtain⟨g1,g2,g3,g4,g5⟩:=gJ hc.1;have hrun:=GK (P:=P) (w:=w) (isSlice:=false) b1 b2 b3 g1 g2 g3 g4 (Xa n) g5;simp only[Option.map_none,Option.getD_none]at hrun g3;obtain⟨b,h3,hb⟩:=(Zo rfl).1 (hd.2 _ (by simp) _ hid);have hx:PtAt (ι id) 0 0 vx:=hx.2;rw[h3]at hx;obtain⟨b',rfl,rfl⟩:=hx;have hlen:(Zd (.sl e y:EO I.C)).length=n:=(Fb ..).trans hn;rw[hlen]at h3;have hk1:kE P (.sl e y:EO I.C)=P.cellsOf e:=rfl;refine⟨.slice (some (if n=(l.getD 0).toNat then⟨b',0,none⟩else(⟨b',0,none⟩:Addr).add ((l.getD 0).toNat*P.cellsOf e))) ((hh.getD n).toNat - (l.getD 0).toNat) (n - (l.getD 0).toNat),?_,rfl,?_⟩
  ·rw[es];simp[Instr.sliceAt,run_underlying (Bq hk),Instr.sureAddr,hrun,Q8 hs]
  ·show SlS ι w (ι id) (some _) _;rw[h3];rcases hb.2 with⟨q,_⟩|⟨b2,cur,fr,ty2,q,q1,_,q2,_⟩<;>cases q;rw[Fb,hlen,hk1]at q2;refine .inr ⟨b',n - (l.getD 0).toNat,ty2,cur.size,_,rfl,rfl,?_,by omega,by unfold maxLen;omega,by simp[World.shape?,q1],?_⟩
   ·by_cases e':n=(l.getD 0).toNat
    ·grind
    ·rw[Oa e'];exact .inr (by simp[addr_add,hk1])
   grind
 ·cases h0
theorem YU{mx:Bool}{k:IntKind}: ∀(as:List (ET I.C)) (m:Int),VD mx k K m as=some r0->OpV P g h K r0 fun ι w s=> ∃vs:List Value,vs.length=as.length/\(∀(j:Nat) (t:ET I.C),as[j]? =some t-> ∃u,vs[j]? =some u/\RepT ι w t u)/\s=vs.foldlM (if mx=true then Builtin.max2 else Builtin.min2) (.int k m)
 |[],m,h0=>by refine opv h0 fun _ ι w s _ ⟨vs,h1,_,es⟩=>⟨_,?_,Q7 _ _⟩;simp_all
 | .agg _::_,_,h0=>by cases h0
 | .c y::r,m,h0=>by
  cases y<;>first|(cases h0;done)|skip
  rename_i k' n;obtain⟨hk,h1⟩:=Zb (show cond (eqIK k k') (VD mx k K (mmE mx m n) r) none=some r0 from h0);obtain rfl:=jm hk;obtain⟨res,a,b,c⟩:=YU r (mmE mx m n) h1;refine⟨res,a,b,fun hg ι w s hd ⟨vs,h1,h2,es⟩=> ?_⟩;cases vs with
  |nil=>cases h1
  |cons v vs=> obtain⟨u,hu,hr⟩:=h2 0 _ rfl;cases hu;obtain rfl:=Zf rfl hr;obtain⟨z,z1,z2⟩:=c hg ι w _ hd ⟨vs,by simpa using h1,fun j t ht=>h2 (j+1) t ht,rfl⟩;refine⟨z,?_,z2⟩;rw[es,List.foldlM_cons,Sem.run_bind];rw[show((if mx=true then Builtin.max2 else Builtin.min2) (.int k m) (.int k n)).run P w= .ok (.int k (mmE mx m n)) w by cases mx<;>simp[Builtin.max2,Builtin.min2,mmE]];exact z1
theorem rP{mx:Bool}{as:List (ET I.C)}(ts:Array TypeId)(tt:TypeId)(h0:uB mx as K=some r0):
  OpV P g h K r0 fun ι w s=> ∃vs:List Value,vs.length=as.length/\(∀(j:Nat) (t:ET I.C),as[j]? =some t-> ∃u,vs[j]? =some u/\RepT ι w t u)/\s=if mx=true then Builtin.max_ ts tt vs.toArray else Builtin.min_ ts tt vs.toArray:=by
 unfold uB at h0;split at h0
 ·rename_i k m r;refine(YU _ _ h0).mono fun ι w s ⟨vs,h1,h2,es⟩=> ?_;cases vs with
  |nil=>cases h1
  |cons v vs=> obtain⟨u,hu,hr⟩:=h2 0 _ rfl;cases hu;obtain rfl:=Zf rfl hr;refine⟨vs,by simpa using h1,fun j t ht=>h2 (j+1) t ht,?_⟩;rw[es];cases mx<;>rfl
 ·cases h0
end
section
variable {I:Ip} {P:Program} {T:TT} {fk:List (Nat×List Kd)} {ι:Asg} {w w':World} {h:Nat->Option (EO I.C)} {nx:Nat} {R:Type} {r0:R} {q:Path} {g:Bool} {K:Kt I R}
def OpD(P:Program)(g:Bool)(h:Nat->Option (EO I.C))(nx:Nat)(K:Kt I R)(r0:R)(A:Asg->World->Sem Value->Prop):Prop:=
 ∃res,K res=some r0/\(g=false->res.up=[])/\(g=true-> ∀ι w s,Wf ι w->Hd P h (res.rd++res.up.map (·.1)) ι w->(∀j,j<res.k->ι (nx+j)= .free)->A ι w s-> ∃v w',s.run P w= .ok v w'/\Done P ι w nx res v w')
theorem Hd.mono{l m:List Nat}(hd:Hd P h l ι w)(hm: ∀i∈m,i∈l):Hd P h m ι w:=⟨hd.1,fun i hi=>hd.2 i (hm i hi)⟩
theorem OpV.opd{A:Asg->World->Sem Value->Prop}(h1:OpV P g h K r0 A):OpD P g h nx K r0 A:=
 let⟨res,a,b,c⟩:=h1
 ⟨res,a,fun _=>b,fun hg ι w s W hd _ hA=>by
  obtain⟨v,e1,e2⟩:=c hg ι w s (hd.mono fun i hi=>jd _ hi) hA;refine⟨v,w,e1,?_⟩;obtain⟨x,up,rd,k⟩:=res;cases b;exact .same W e2⟩
theorem opd {x:EL I.C} {up:EHeap I.C} {rd:List Nat} {k:Nat} {A:Asg->World->Sem Value->Prop} (h0:K ⟨x,up,rd,k⟩=some r0) (hu:g=false->up=[])
  (h1:g=true-> ∀ι w s,Wf ι w->Hd P h (rd++up.map (·.1)) ι w->(∀j,j<k->ι (nx+j)= .free)->A ι w s-> ∃v w',s.run P w= .ok v w'/\Done P ι w nx ⟨x,up,rd,k⟩ v w'):OpD P g h nx K r0 A:=⟨_,h0,hu,h1⟩
theorem fr0{k:Nat}(h: ∀j,j<k+1->ι (nx+j)= .free):ι nx= .free:=h 0 (by omega)
def LesR(ι:Asg)(w:World)(R R':List (List (EV I.C))):Prop:=R'.length=R.length/\ ∀(i:Nat) (r r':List (EV I.C)),R[i]? =some r->R'[i]? =some r'->r'.length=r.length/\ ∀(j:Nat) (x x':EV I.C),r[j]? =some x->r'[j]? =some x'-> ∀v,RepV ι w x v->RepV ι w x' v
theorem LesR.refl(R:List (List (EV I.C))):LesR ι w R R:=⟨rfl,fun i r r' h h'=>by rw[h]at h';cases h';exact⟨rfl,fun j x x' h h' v=>by rw[h]at h';cases h';exact id⟩⟩
theorem LesR.app{R R' S S':List (List (EV I.C))}(h1:LesR ι w R R')(h2:LesR ι w S S'):LesR ι w (R++S) (R'++S'):=by
 refine⟨by simp[h1.1,h2.1],fun i r r' hr hr'=> ?_⟩;rw[Ec]at hr hr';rw[h1.1]at hr';split at hr<;>rename_i hi
 ·rw[Sa hi]at hr';exact h1.2 i r r' hr hr'
 ·rw[Oa hi]at hr';exact h2.2 _ r r' hr hr'
theorem qD.les{k:Nat}{R R':List (List (EV I.C))}{cur:Array Value}(h:qD ι w k R cur)(hl:LesR ι w R R'):qD ι w k R' cur:=by
 have row: ∀(i:Nat) r',R'[i]? =some r'-> ∃r,R[i]? =some r:=fun i r' h'=>⟨_,Ta (by rw[<-hl.1];exact(Ja.1 h').1)⟩;refine⟨fun r' hr'=> ?_,fun i r' j x' hi hj=> ?_⟩
 ·obtain⟨i,hi,rfl⟩:=Je hr';obtain⟨r,hr⟩:=row i _ (Ta hi);rw[(hl.2 i r _ hr (Ta hi)).1,h.1 r (ma hr)]
 ·obtain⟨r,hr⟩:=row i r' hi;obtain⟨e1,e2⟩:=hl.2 i r r' hr hi;have hp:=Ta (l:=r) (i:=j) (by rw[<-e1];exact(Ja.1 hj).1);obtain⟨v,a1,a2,a3⟩:=h.2 i r j _ hr hp;exact⟨v,a1,a2,e2 j _ x' hp hj v a3⟩
theorem aC(hI:IpOK P I){t:Nat}{cs:List (EV I.C)}{x:I.C t}(h:I.made t cs=some x):cs.length=P.cellsOf t/\ ∀ι w,LesR ι w [cs] [I.exp t x]:=by
 obtain⟨h1,h2,h3⟩:=hI.made t cs x h;rw[hI.len]at h2;refine⟨h2,fun ι w=>⟨rfl,fun i r r' hr hr'=> ?_⟩⟩;obtain⟨rfl,rfl⟩:r=cs/\r'=I.exp t x:=by cases i<;>simp at hr hr';exact⟨hr.symm,hr'.symm⟩
 refine⟨by rw[Al hI,h2],fun j a b ha hb v hv=> ?_⟩;obtain⟨e1,e2⟩:=Gq hI hb;exact(uh e2).2 ((h3 j _ _ (by rw[Ra,ha];rfl) e1).rep ((uh (h1 a (ma ha))).1 hv))
theorem mJ{x:ET I.C}{v:Value}(hx:RepT ι w x v):RepA ι w x.cells v.cells:=by
 cases x with
 |c x=>
  have e:v.cells= #[v]:=by have h1:=hx.1;cases v<;>first|rfl|(simp[Value.oneCell']at h1)
  rw[e];refine⟨rfl,fun j c hj=> ?_⟩;cases j with
  |zero=>simp[ET.cells]at hj;subst hj;exact⟨v,rfl,hx⟩
  |succ n=>simp[ET.cells]at hj
 |agg xs=>obtain⟨vs,rfl,h1⟩:=hx;exact h1
theorem RepA.cells{xs:List (EV I.C)}{X:Array Value}(h:RepA ι w xs X){k:Nat}(hk:xs.length=k):qD ι w k [xs] X:=by
 refine⟨fun row hr=>by simp at hr;rw[hr,hk],fun i row j x hi hj=> ?_⟩;cases i with
 |zero=>simp at hi;subst hi;rw[Ef,jc];exact h.2 j x hj
 |succ n=>simp at hi
theorem RepA.one{xs:List (EV I.C)}{X:Array Value}(h:RepA ι w xs X): ∀v∈X.toList,v.oneCell'=true:=fun v hv=>by obtain⟨j,hj,rfl⟩:=Je hv;obtain⟨u,a,b,_⟩:=h.2 j _ (Ta (by rw[<-h.1];simpa using hj));rw[<-Ed,Ta hj]at a;rw[Option.some.inj a];exact b
theorem GQ {id i c:Nat} {o:EO I.C} (W:Wf ι w) (hh:Cg P ι w id o) {row:List (EV I.C)} (hi:(Zd o)[i]? =some row) {t:Nat} (hb:kdOf P t≠ .bad) {x:ET I.C} (hl:x.cells.length=P.cellsOf t) (hc:c+P.cellsOf t<=row.length)
  {va vx:Value} (ha:RepT (I:=I) ι w (.c (.optr id i c)) va) (hx:RepT ι w x vx) {o':EO I.C} (h1:kE P o'=kE P o) (h2:tyE o'=tyE o) (h3: ∀w',LesR ι w' ((Zd o).set i (row.take c++x.cells++row.drop (c+P.cellsOf t))) (Zd o')):
  ∃b w',ι id= .live (some b) (kE P o) (Zd o).length/\(Instr.storeAt t va vx).run P w= .ok () w'/\Chg w w' b/\Cg P ι w' id o':=by
 obtain⟨b,cur,fr,ty2,g1,g2,g3,g4,g5,g6,g7⟩:=hh.row hi;have ha:PtAt (ι id) i c va:=ha.2;rw[g1]at ha;obtain⟨b',e,rfl⟩:=ha;cases e;have hx':=mJ hx;have hsz:vx.cells.size=P.cellsOf t:=by rw[hx'.1,hl]
 obtain⟨d,hd⟩:=Aq hb;obtain⟨inf,hinf⟩:=JC hd;have hil:=(Ja.1 hi).1;have hin:i*kE P o+c+vx.cells.size<=cur.size:=by have h5:(i+1)*kE P o<=(Zd o).length*kE P o:=Vb _ hil;rw[Xd]at h5;omega
 have hrun:=Wz (P:=P) (g:=b) (o:=i*kE P o+c) (t:=ty2) (fr:=fr) vx.cells.toList 0 cur w g2 g3.1.out (by simpa using hin) hx'.one;simp only[Nc,Od]at hrun;generalize hcur':(cur.toList.take (i*kE P o+c)++vx.cells.toList++cur.toList.drop (i*kE P o+c+vx.cells.size)).toArray=cur' at hrun;have hsz':cur'.size=cur.size:=by rw[<-hcur'];simp only[je,Na,Wd,jb,Od];omega
 have hget: ∀j:Nat,cur'[j]? =if i*kE P o+c<=j/\j<i*kE P o+c+P.cellsOf t then vx.cells[j - (i*kE P o+c)]? else cur[j]? :=by intro j;have:=Vt (l:=cur.toList) (v:=vx.cells.toList) (off:=i*kE P o+c) (by simpa using hin) j;rw[Od,hsz,Ed (xs:=vx.cells),Ed (xs:=cur)]at this;rw[<-this,<-hcur',hsz];simp
 have hch:=CE (w:=w) (cur':=cur') g2 hsz';obtain⟨S,W'⟩:=Nq (T:=(· =id)) W g1 rfl hch;refine⟨b,_,g1,?_,hch,?_⟩
 ·simp only[Instr.storeAt,Instr.sureAddr,Sem.run_bind,Sem.run_pure,Result.andThen_ok,storeVar,ku hinf];rw[Oa (by simp[hsz])];exact hrun
 ·refine⟨some b,?_,?_⟩
  ·rw[h1,(h3 w).1,List.length_set];exact g1
  rw[h1,h2];have hcr:qD ι w (kE P o) ((Zd o).set i (row.take c++x.cells++row.drop (c+P.cellsOf t))) cur':=by
   refine⟨fun r' hr'=> ?_,fun ii r' j y hii hj=> ?_⟩
   ·rcases List.mem_or_eq_of_mem_set hr' with h4|h4
    ·exact g6.1 r' h4
    ·subst h4;simp only[Na,Wd,jb];omega
   ·rw[List.getElem?_set]at hii;split at hii
    ·rename_i e;subst e
     try rw[Sa hil]at hii
     cases hii;rw[<-hl,Vt (by rw[hl];exact hc),hl]at hj;rw[hget];split at hj<;>rename_i hjc
     ·obtain⟨u,a1,a2⟩:=hx'.2 _ y hj;refine⟨u,?_,a2⟩;rw[Sa (by omega),<-a1];congr 1;omega
     ·obtain⟨u,a1,a2⟩:=g6.2 i row j y hi hj;exact⟨u,by rw[Oa (by omega)];exact a1,a2⟩
    ·rename_i hne;obtain⟨u,a1,a2⟩:=g6.2 ii r' j y hii hj;refine⟨u,?_,a2⟩;have hjk:j<kE P o:=by rw[<-g6.1 r' (ma hii)];exact(Ja.1 hj).1
     rw[hget,Oa,a1];rintro⟨q1,q2⟩;rcases Yd ii i with hlt|hge
     ·have:(ii+1)*kE P o<=i*kE P o:=Vb _ hlt;rw[Xd]at this;omega
     ·have:(i+1)*kE P o<=ii*kE P o:=Vb _ (by omega);rw[Xd]at this;omega
  exact(hcr.les (h3 w)).blk S (setRow_heap w b cur cur' _ fr g2) (by rw[hsz'];exact g3) (by rw[hsz',(h3 w).1,List.length_set];exact g5)
theorem aX {id i c:Nat} {o:EO I.C} (W:Wf ι w) (hh:Cg P ι w id o) {row:List (EV I.C)} (hi:(Zd o)[i]? =some row) {t:Nat} (hb:kdOf P t≠ .bad) {x:ET I.C} (hl:x.cells.length=P.cellsOf t) (hc:c+P.cellsOf t<=row.length)
  {va vx:Value} (ha:RepT (I:=I) ι w (.c (.optr id i c)) va) (hx:RepT ι w x vx) {o':EO I.C} (ho:isR o'=true) (h1:kE P o'=kE P o) (h2:tyE o'=tyE o) {rd:List Nat} (h3: ∀w',LesR ι w' ((Zd o).set i (row.take c++x.cells++row.drop (c+P.cellsOf t))) (Zd o')):
  ∃w',(Instr.storeAt t va vx).run P w= .ok () w'/\Done P ι w nx ⟨.any,[(id,o')],rd,0⟩ undef w':=by
 obtain⟨b,w',g1,hr,hch,hh'⟩:=GQ W hh hi hb hl hc ha hx h1 h2 h3;obtain⟨S,W'⟩:=Nq (T:=fun j=>j∈[(id,o')].map (·.1)) W g1 (by simp) hch;exact⟨w',hr,ι,S,W',trivial,fun p hp=>by simp at hp;subst hp;exact(Zo ho).2 hh',fun _ h _=>h⟩
theorem Inn.keep{ι':Asg}{id e:Nat}{l:List (List (I.C e))}{S:List (Option (Nat×Nat))}(h:Inn P ι w id e l S)(hC:Conv ι w ι' w'){id':Nat}(hX: ∀b,ι.X b= .inn id->ι'.X b= .inn id'/\w'.heap[b]? =w.heap[b]?):Inn P ι' w' id' e l S:=
 ⟨h.1,h.2.1,fun j m s hm hs=>by
  have:=h.2.2 j m s hm hs;cases s with
  |none=>exact this
  |some s=>
   obtain⟨x1,⟨ty,x2⟩,x3⟩:=this;exact⟨(hX _ x1).1,⟨ty,hC.shape _ _ x2⟩,x3.les (fun b' e=>by cases e;exact(hX _ x1).2) (Les.map (fun _ _ h=>h.conv hC) _)⟩⟩
theorem zH7{id e:Nat}{l:List (List (I.C e))}{S:List (Option (Nat×Nat))}(h:Inn P ι w id e l S):(af P e l S).length=l.length:=by simp[af,h.1]
theorem zIz{id t e:Nat}{l:List (List (I.C e))}{c y:EV I.C}(W:Wf ι w)(hh:Qd P ι w id (.slq t e l c)){u:Nat}(hb:kdOf P u≠ .bad)(hu:P.cellsOf u=1){va vx:Value}(ha:RepT (I:=I) ι w (.c (.optr id l.length 0)) va)(hx:RepT ι w (.c y) vx){rd:List Nat}:
  ∃w',(Instr.storeAt u va vx).run P w= .ok () w'/\Done P ι w nx ⟨.any,[(id, .slq t e l y)],rd,0⟩ undef w':=by
 obtain⟨S,z,hr⟩:=hh;have hl:=zH7 z;obtain⟨b,w',g1,h2,hch,hh'⟩:=GQ (o':= .rows t 1 (af P e l S++[[y]])) W hr (i:=l.length) (row:=[c]) (by simp[Zd,<-hl]) hb (by rw[hu];rfl) (by rw[hu];exact Xa _) ha hx rfl rfl fun w'=>by
  rw[hu];have:(af P e l S++[[c]]).set l.length [y]=af P e l S++[[y]]:=by rw[<-hl];simp
  simp only[Zd,List.take_zero,ET.cells,Bc,Yb,jc,List.drop_one,List.tail_cons,this];exact .refl _
 obtain⟨S',W'⟩:=Nq (T:=fun j=>j∈[(id,(EO.slq t e l y:EO I.C))].map (·.1)) W g1 (by simp) hch;exact⟨w',h2,ι,S',W',trivial,fun p hp=>by
  simp at hp;subst hp;exact⟨S,Inn.keep (P:=P) z S'.toConv fun b' e'=>⟨e',hch.other b' fun eb=>by have:=(W.lt _ _ _ _ g1).2;rw[<-eb,e']at this;cases this⟩,hh'⟩,fun _ h _=>h⟩
theorem tY{α:Type}{l:List α}{i:Nat}{y:α}(h:l[i]? =some y)(z:α):l.set i z=l.take i++z::l.drop (i+1):=by rw[List.set_eq_take_append_cons_drop,Sa (Ja.1 h).1]
def nbad(i:TI):Bool:=match i.kd with| .bad=>false|_=>true
theorem zIy(hI:IpOK P I)(hT:TOK P T fk){t:Nat}{a x:ET I.C}(hg:q=[]->g=true)(h0:wM (T.at t) h a x q K=some r0):
  ∃res,K res=some r0/\(g=false->res.up=[])/\(g=true-> ∀ι w va vx,Wf ι w->Hd P h (res.rd++res.up.map (·.1)) ι w->RepT ι w a va->RepT ι w x vx-> ∃w',(Instr.storeAt t va vx).run P w= .ok () w'/\Done P ι w nx res undef w'):=by
 unfold wM at h0;split at h0
 case h_2=>cases h0
 rename_i id i c;have kd:nbad (T.at t)=true->T.at t=ti P t/\kdOf P t≠ .bad:=by intro h;have e:T.at t=ti P t:=Xi hT (.inl fun e=>by unfold nbad at h;rw[e]at h;cases h);refine⟨e,fun e'=> ?_⟩;unfold nbad at h;rw[e,show(ti P t).kd=kdOf P t from rfl,e']at h;cases h
 have key: ∀{o o':EO I.C} {row:List (EV I.C)} {res:OR I.C} {rd:List Nat},K res=some r0->res=⟨.any,[(id,o')],rd,0⟩->isR o=true->isR o'=true->h id=some o->(Zd o)[i]? =some row->Nat.beq x.cells.length (T.at t).sz=true->Nat.ble (c+(T.at t).sz) row.length=true->
   nbad (T.at t)=true->kE P o'=kE P o->tyE o'=tyE o->(∀ι w',LesR ι w' ((Zd o).set i (row.take c++x.cells++row.drop (c+(T.at t).sz))) (Zd o'))->
   ∃res,K res=some r0/\(g=false->res.up=[])/\(g=true-> ∀ι w va vx,Wf ι w->Hd P h (res.rd++res.up.map (·.1)) ι w->RepT (I:=I) ι w (.c (.optr id i c)) va->RepT ι w x vx-> ∃w',(Instr.storeAt t va vx).run P w= .ok () w'/\Done P ι w nx res undef w'):=by
  intro o o' row res rd hK hres ho ho' hid hi hl hc hb h1 h2 h3;subst hres;refine⟨_,hK,(fun e=>by rw[hg rfl]at e;cases e),fun _ ι w va vx W hd ha hx=> ?_⟩;obtain⟨e,hb⟩:=kd hb;have hsz:(T.at t).sz=P.cellsOf t:=by rw[e];rfl
  rw[hsz]at hl hc h3;exact aX W ((Zo ho).1 (hd.2 id (by simp) o hid)) hi hb (La hl) (Gc hc) ha hx ho' h1 h2 (h3 ι)
 split at h0
 ·rename_i ty cs hid;obtain⟨hc,h0⟩:=Zb h0;simp only[Da]at hc;obtain⟨⟨⟨c1,c2⟩,c3⟩,c4⟩:=hc;refine key h0 rfl rfl rfl hid (row:=cs) (by rw[La c1];rfl) c2 c3 c4 ?_ rfl fun ι w'=> ?_
  ·have:=Gc c3;have:=La c2;simp only[kE,Na,Wd,jb];omega
  ·rw[La c1];exact .refl _
 ·rename_i u l hid;obtain⟨y,hy,h0⟩:=Ka.1 h0;have hrow:(Zd (.sl u l:EO I.C))[i]? =some (I.exp u y):=by show(l.map _)[i]? =_;rw[Ra,hy];rfl
  obtain⟨hc,h0⟩:=Zb h0;simp only[Da]at hc;obtain⟨⟨c2,c3⟩,c4⟩:=hc;have hs: ∀z:List (EV I.C),(Zd (.sl u l:EO I.C)).set i z=(l.take i).map (I.exp u)++z::(l.drop (i+1)).map (I.exp u):=fun z=>by rw[tY hrow,Bf,List.map_drop];rfl
  cases hp:x.cells.all XV<;>rw[hp]at h0
  ·refine key h0 rfl rfl rfl hid hrow c2 c3 c4 rfl rfl fun ι w'=> ?_;rw[hs];exact .refl _
  ·obtain⟨z,hz,h0⟩:=Ka.1 h0;refine key h0 rfl rfl rfl hid hrow c2 c3 c4 rfl rfl fun ι w'=> ?_;have e:Zd (.sl u (l.set i z):EO I.C)=(l.take i).map (I.exp u)++([I.exp u z]++(l.drop (i+1)).map (I.exp u)):=by show(l.set i z).map _=_;rw[tY hy,ae];rfl
   rw[hs,e];exact(LesR.refl _).app (((aC hI hz).2 ι w').app (.refl _))
 ·rename_i u l1 cs l2 hid;obtain⟨hc,h0⟩:=Zb h0;simp only[Da]at hc;obtain⟨⟨c2,c3⟩,c4⟩:=hc;obtain⟨e,h0⟩:=Z8 h0;have e:=La e;refine key h0 rfl rfl rfl hid (row:=cs) (by rw[e];simp[Zd]) c2 c3 c4 rfl rfl fun ι w'=> ?_;rw[e];have:(Zd (.slo u l1 cs l2:EO I.C)).set l1.length (cs.take c++x.cells++cs.drop (c+(T.at t).sz))=Zd (.slo u l1 (cs.take c++x.cells++cs.drop (c+(T.at t).sz)) l2):=by simp[Zd,List.set_append]
  rw[this];exact .refl _
 ·split at h0
  case h_2=>cases h0
  rename_i y;obtain⟨hc,h9⟩:=Zb h0;clear h0;simp only[Da]at hc;obtain⟨⟨c2,c3⟩,c4⟩:=hc;obtain⟨e,h8⟩:=Z8 h9;clear h9;obtain rfl:=La e;obtain rfl:=La c3;obtain⟨e,hb⟩:=kd c4;refine⟨_,h8,(fun e=>by rw[hg rfl]at e;cases e),fun _ ι w va vx W hd ha hx=> ?_⟩;exact zIz W (hd.2 _ (by simp) _ (by assumption)) hb (by have:=La c2;rw[e]at this;exact this) ha hx
 ·cases h0
end
section
variable {I:Ip} {P:Program} {T:TT} {fk:List (Nat×List Kd)} {ι:Asg} {w w':World} {h:Nat->Option (EO I.C)} {nx:Nat} {R:Type} {r0:R} {q:Path} {g:Bool} {K:Kt I R}
theorem iJ{v:Value}(h:v.oneCell'=true):Rep1 (I:=I) ι w (Xt v) v:=by have key: ∃x:EV I.C,Xt v=x/\kv x=some v:=⟨_,rfl,by unfold Xt;split<;>rfl⟩;obtain⟨x,e,hx⟩:=key;rw[e];exact rep1 hx h
theorem Cu{z:Array Value}(h: ∀u∈z,u.oneCell'=true):RepA (I:=I) ι w (zeroE z.toList) z:=by
 refine⟨by simp[zeroE],fun j x hx=> ?_⟩;unfold zeroE at hx;simp only[Ra,Ma]at hx;obtain⟨u,hu,rfl⟩:=hx;have hu':z[j]? =some u:=by simpa using hu
 exact⟨u,hu',iJ (h u (Array.mem_of_getElem? hu'))⟩
theorem Tn(hT:TOK P T fk){t:Nat}(h:(T.at t).zok=true): ∃i z,P.info? t=some i/\i.zero=some z/\z.cells.size=P.cellsOf t/\(∀u∈z.cells,u.oneCell'=true)/\(T.at t).zero=z.cells.toList:=by have e:=Xi hT (.inr (.inl h));rw[e]at h ⊢;exact Uw h
theorem TB{id b k n:Nat}(e:ι id= .live (some b) k n):RepL (I:=I) ι w (.v (.c (.optr id 0 0))) (.pointer (some ⟨b,0,none⟩)):=NW e
theorem zIN(hT:TOK P T fk){t:Nat}(hg:q=[]->g=true)(hq:q=[])(hz:(T.at t).zok=true)(h0:K ⟨.v (.c (.optr nx 0 0)),[(nx, .cells t (zeroE (T.at t).zero))],[],1⟩=some r0):OpD P g h nx K r0 fun _ _ s=>s=Instr.alloc t true (.tuple #[]):=by refine opd h0 (fun e=>by rw[hg hq]at e;cases e) fun _ ι w s W hd hf es=> ?_;obtain⟨i,z,hi,hz,hs,h1,h2⟩:=Tn hT hz;rw[h2];have hr:=Cu (I:=I) (ι:=ι) (w:=w) h1;have hlen:(zeroE z.cells.toList:List (EV I.C)).length=z.cells.size:=hr.1.symm;refine⟨_,_,?_,Done.grow (o:= .cells t (zeroE z.cells.toList)) (cur:=z.cells) (fr:=(0,0)) W (fr0 hf) rfl (Em w _) (.inl rfl) (hr.cells rfl) (by simp[Zd,kE,hlen]) none (by simp) fun _ _ _ e=>TB e⟩;subst es;simp only[Instr.alloc,Sem.run_bind,Tq hi hz,Result.andThen_ok,newVar,newRow,run_newObj,Sem.run_pure];rfl
theorem zNj{t:Nat}{x:ET I.C}(hg:q=[]->g=true)(hq:q=[])(h0:K ⟨.v (.c (.optr nx 0 0)),[(nx, .cells t x.cells)],[],1⟩=some r0):OpD P g h nx K r0 fun ι w s=> ∃v,RepT ι w x v/\s=Instr.box t v:=by refine opd h0 (fun e=>by rw[hg hq]at e;cases e) fun _ ι w s W hd hf ⟨v,hv,es⟩=> ?_;have hr:=mJ hv;refine⟨_,_,?_,Done.grow (o:= .cells t x.cells) (cur:=v.cells) (fr:=(0,0)) W (fr0 hf) rfl (Em w _) (.inl rfl) (hr.cells rfl) (by simp[Zd,kE,hr.1]) none (by simp) fun _ _ _ e=>TB e⟩;subst es;simp only[Instr.box,Sem.run_bind,newVar,newRow,run_newObj,Result.andThen_ok,Sem.run_pure];rfl
def Jw(E:Operand->EL I.C)(q:Path)(ι:Asg)(w:World)(parts:List (Nat×Operand))(V:Operand->Value):Prop:= ∀p∈parts,∀t,useE q (E p.2)=some t->RepT ι w t (V p.2)
theorem YB(place:Nat->Option (Nat×Nat)){E:Operand->EL I.C}{V:Operand->Value}: ∀(parts:List (Nat×Operand)) (ps:List (Nat×List (EV I.C))) (cs cs':List (EV I.C)) (X:Array Value),
  rA E q parts=some ps->Jw E q ι w parts V->RepA ι w cs X->Fw place ps cs=some cs'-> ∃X',Instr.fill place X (parts.map fun p=>(p.1,V p.2))=some X'/\RepA ι w cs' X'/\cs'.length=cs.length
 |[],ps,cs,cs',X,h,_,hX,hf=>by cases h;cases hf;exact⟨X,rfl,hX,rfl⟩
 |(i,o)::r,ps,cs,cs',X,h,hV,hX,hf=>by
  simp only[rA]at h;split at h
  case h_2=>cases h
  rename_i t l ht hl;cases h;have c2:=mJ (hV (i,o) (by simp) t ht);simp only[Fw]at hf;cases hp:place i with
  |none=>rw[hp]at hf;cases hf
  |some z=>
   obtain⟨off,size⟩:=z;rw[hp]at hf;obtain⟨hc,hf⟩:=Zb hf;simp only[Da]at hc;have hc1:=La hc.1;have hc2:=Gc hc.2;simp only[Jc,Instr.fill,hp];have hsz:off+(V o).cells.size<=X.size:=by rw[c2.1,hX.1];omega
   rw[Oa (by simp only[c2.1,hc1,ne_eq,not_true_eq_false,decide_false,Ld,ja,Nat.not_lt,gt_iff_lt];rw[hX.1];omega)];rw[zIP];have hfold:=iX off (V o).cells.toList 0 X (by simp only[Nc,Od];exact hsz);simp only[Nc,Od]at hfold;obtain⟨X',g1,g2,g3⟩:=YB place r l _ cs' (((V o).cells.toList.zipIdx 0).foldl (fun cs (c:Value×Nat)=>cs.setIfInBounds (off+c.2) c.1) X) hl (fun p hp=>hV p (Kb _ hp)) ⟨by
     rw[<-Od,hfold];simp only[Na,Wd,jb,Od];rw[hX.1,c2.1];omega,fun j x hj=>by
     rw[<-hc1,Vt (by omega)]at hj;rw[<-Ed,hfold];have:=Vt (l:=X.toList) (v:=(V o).cells.toList) (off:=off) (by simpa using hsz) j;simp only[Od]at this;rw[this];split at hj<;>rename_i hjc
     ·rw[Sa (by rw[c2.1];exact hjc)];simpa using c2.2 _ x hj
     ·rw[Oa (by rw[c2.1];exact hjc)];simpa using hX.2 j x hj⟩ hf
   exact⟨X',g1,g2,by rw[g3];simp;omega⟩
theorem zFF(hT:TOK P T fk){E:Operand->EL I.C}{t:Nat}{parts:Array (Nat×Operand)}(h0:sN T E q t parts.toList K=some r0):
  OpV P g h K r0 fun ι w s=> ∃V,Jw E q ι w parts.toList V/\s=Instr.build t (parts.map fun(i,x)=>(i,V x)):=by
 have hpv: ∀V:Operand->Value,(parts.map fun(i,x)=>(i,V x)).toList=parts.toList.map fun p=>(p.1,V p.2):=by simp
 unfold sN at h0;split at h0
 case h_1=>cases h0
 rename_i ps hps;split at h0
 ·rename_i fs hk;obtain⟨l,hl,rfl⟩:=bU (QR hT hk (by simp));obtain⟨cs,hc,h0⟩:=Zw h0;obtain⟨hh,h0⟩:=Zb h0;rw[Da]at hh;obtain⟨i,z,hi,hz,hs,hz1,hz2⟩:=Tn hT hh.1;rw[hz2]at hc;have hb: ∀f∈l.toList,T.at f.type=ti P f.type/\kdOf P f.type≠ .bad:=fun f hf=>by have h3:nbad (T.at f.type)=true:=Pb.1 hh.2 (f.offset,f.type) (Nb.2 ⟨f,hf,rfl⟩);have e:T.at f.type=ti P f.type:=Xi hT (.inl fun e=>by unfold nbad at h3;rw[e]at h3;cases h3);refine⟨e,fun e'=> ?_⟩;unfold nbad at h3;rw[e,show(ti P f.type).kd=kdOf P f.type from rfl,e']at h3;cases h3
  refine opv h0 fun _ ι w s _ ⟨V,hV,es⟩=> ?_;obtain⟨X',f1,f2,_⟩:=YB _ parts.toList ps _ cs _ hps hV (Cu hz1) hc;refine⟨.agg X',?_,X',rfl,f2⟩;have hpl:(l.mapM (m:=Sem) fun f=>do pure (f.offset,<-sizeOf f.type)).run P w= .ok (l.toList.map fun f=>(f.offset,P.cellsOf f.type)).toArray w:=by rw[Array.mapM_eq_mapM_toList,Sem.run_map,jP (P:=P) (w:=w) l.toList fun f hf=>(hb f hf).2];rfl
  have hpe:(fun i:Nat=>((l.toList.map fun f=>(f.offset,P.cellsOf f.type)).toArray)[i]?)=fun i=>((l.toList.map fun f=>(f.offset,f.type))[i]?).map fun f=>(f.1,(T.at f.2).sz):=by
   funext i;simp only[Mg,Ra,Option.map_map];cases hf:l.toList[i]? with
   |none=>rfl
   |some f=>simp[(hb f (ma hf)).1,ti]
  subst es;simp only[Instr.build,Sem.run_bind,Tq hi hz,Result.andThen_ok,run_underlying hl,hpl,hpv,hpe,f1,Sem.run_pure]
 ·rename_i n e' hk;obtain⟨cs,hc,h0⟩:=Zw h0;obtain⟨hh,h0⟩:=Zb h0;rw[Da]at hh;obtain⟨i,z,hi,hz,hs,hz1,hz2⟩:=Tn hT hh.1;obtain⟨s1,s2⟩:=yg hT hh.2;rw[hz2,s1]at hc;refine opv h0 fun _ ι w s _ ⟨V,hV,es⟩=> ?_;obtain⟨X',f1,f2,_⟩:=YB _ parts.toList ps _ cs _ hps hV (Cu hz1) hc;refine⟨.agg X',?_,X',rfl,f2⟩;subst es;simp only[Instr.build,Sem.run_bind,Tq hi hz,Result.andThen_ok,run_underlying (Bq (QR hT hk (by simp))),Q8 s2,hpv,f1,Sem.run_pure]
 ·cases h0
def Oj(k:Nat):Nat->List (EV I.C)->List (List (EV I.C))
 |0,_=>[]
 |n+1,l=>l.take k::Oj k n (l.drop k)
theorem yD{k:Nat}: ∀(n:Nat) (l:List (EV I.C)) (i:Nat),(Oj k n l)[i]? =if i<n then some ((l.drop (i*k)).take k)else none
 |0,l,i=>by simp[Oj]
 |n+1,l,0=>by simp[Oj]
 |n+1,l,i+1=>by simp only[Oj,rf,yD n,Tf,Nat.succ_mul,Re k,Nat.add_lt_add_iff_right]
theorem Uy{k:Nat}: ∀(n:Nat) (l:List (EV I.C)),(Oj k n l).length=n
 |0,l=>rfl
 |n+1,l=>by simp[Oj,Uy n]
theorem RepA.chunks{cs:List (EV I.C)}{X:Array Value}{k n:Nat}(h:RepA ι w cs X)(hl:cs.length=n*k):qD ι w k (Oj k n cs) X:=by
 refine⟨fun row hr=> ?_,fun i row j x hi hj=> ?_⟩
 ·obtain⟨i,hi,rfl⟩:=Je hr;have h1:=Ta hi;rw[Uy]at hi;rw[yD,Sa hi]at h1;rw[<-Option.some.inj h1];have:=fw (k:=k+1) (j:=0) hi (by omega);have:i*k+k<=n*k:=by rw[<-Nat.succ_mul];exact Vb _ hi
  simp;omega
 ·rw[yD]at hi;split at hi<;>cases hi;rw[Uc]at hj;split at hj
  ·rw[Xc]at hj;exact h.2 _ x hj
  ·cases hj
theorem nP(hI:IpOK P I){t:Nat}: ∀{n:Nat} {cs:List (EV I.C)} {l:List (I.C t)},Ns I t (P.cellsOf t) n cs=some l->l.length=n/\ ∀ι w,LesR ι w (Oj (P.cellsOf t) n cs) (l.map (I.exp t))
 |0,cs,l,h0=>by cases h0;exact⟨rfl,fun _ _=> .refl _⟩
 |n+1,cs,l,h0=>by simp only[Ns]at h0;obtain⟨x,h1,h2⟩:=Ka.1 h0;obtain⟨l',h3,h4⟩:=Ka.1 h2;cases h4;obtain⟨i1,i2⟩:=nP hI h3;exact⟨by simp[i1],fun ι w=>((aC hI h1).2 ι w).app (i2 ι w)⟩
theorem KJ{k:Nat}{z:Array Value}(hz:z.size=k)(hk:0<k)(h1: ∀u∈z,u.oneCell'=true)(n:Nat):
  (List.replicate n (zeroE z.toList:List (EV I.C))).flatten.length=n*k/\RepA (I:=I) ι w (List.replicate n (zeroE z.toList)).flatten ((Array.range (n*k)).map fun i=>z[i%z.size]!):=by
 have hzl:(zeroE z.toList:List (EV I.C)).length=k:=by simp[zeroE,hz]
 have hlen: ∀n,(List.replicate n (zeroE z.toList:List (EV I.C))).flatten.length=n*k:=by
  intro n
  induction n with
  |zero=>simp
  |succ n ih=>rw[Dh,Nf,Na,hzl,ih,Xd];omega
 have hget: ∀n j x,(List.replicate n (zeroE z.toList:List (EV I.C))).flatten[j]? =some x->(zeroE z.toList)[j%k]? =some x:=by
  intro n
  induction n with
  |zero=>intro j x h;simp at h
  |succ n ih=>
   intro j x h;rw[Dh,Nf,Ec,hzl]at h;split at h<;>rename_i hj
   ·rw[Vf hj];exact h
   ·have:=ih _ _ h
    rwa [show(j - k)%k=j%k by rw[<-Nat.mod_eq_sub_mod (by omega)]]at this
 refine⟨hlen n,by simp[hlen],fun j x hj=> ?_⟩;have hj':j<n*k:=by rw[<-hlen];exact(Ja.1 hj).1
 obtain⟨u,a1,a2⟩:=(Cu (I:=I) (ι:=ι) (w:=w) h1).2 _ x (hget n j x hj);refine⟨u,?_,a2⟩;have hm:j%k<z.size:=by rw[hz];exact Nat.mod_lt _ hk
 rw[Di hm]at a1;injection a1 with a1;simp[hj',hz,getElem!_pos,hm,<-a1];rw[getElem!_pos z (j%k) hm]
theorem Done.froze(hI:IpOK P I)(W:Wf ι w){e c:Nat}{l:List (I.C e)}{cur:Array Value}{ty:Nat}(g:Grew w w' (.cells cur ty (0,0)))(hc:qD ι w (P.cellsOf e) (l.map (I.exp e)) cur)(hl:l.length<=c){rd:List Nat}{k:Nat}:
  Done P ι w nx ⟨.v (.c (.sl e l)),[],rd,k⟩ (.slice (some ⟨w.heap.size,0,none⟩) l.length c) w':=by
 have dom: ∀b,Dom ι w b->Dom ι w' b:=fun b hb=>⟨by rw[g.size];have:=hb.1;omega,hb.2⟩;have S: ∀T,Stp T ι w ι w':=fun T=>⟨⟨g.wld.shape,dom,fun b hb=>g.old hb.1⟩,g.os,g.tape,g.output,by rw[g.size];omega,fun _ _ _ _ _ e=>g.old (W.lt _ _ _ _ e).1,fun _ _=> .inl rfl,fun _ _ _=>rfl,fun _ _=>rfl,fun _ h=>h,fun b hx=>g.old (W.xlt b (Au hx))⟩;refine⟨ι,S _,⟨fun i b k n e=>by rw[g.size];have:=W.lt _ _ _ _ e;exact⟨by omega,this.2⟩,W.inj,W.glob.step (S fun _=>False),fun b hx=>by rw[g.size];have:=W.xlt b hx;omega⟩,⟨rfl,?_⟩,by simp,fun _ h _=>h⟩;have key: ∀(i:Nat) row j x,(l.map (I.full e))[i]? =some row->row[j]? =some x-> ∃v,cur[i*P.cellsOf e+j]? =some v/\RepP (Dom ι w) w x v:=by intro i row j x hi hj;simp only[Ra,Ma]at hi;obtain⟨y,hy,rfl⟩:=hi;rw[hI.exp,Ra,Ma]at hj;obtain⟨u,hu,rfl⟩:=hj;obtain⟨v,a1,_,a2⟩:=hc.2 i _ j u (by rw[Ra,hy];rfl) hu;exact⟨v,a1,(uh (hI.pur _ _ _ (ma hu))).1 a2⟩
 refine .sl _ _ _ _ (P.cellsOf e) w.heap.size 0 (fun i j=>(cur[i*P.cellsOf e+j]?).getD undef) (by simp) hl (fun _=>rfl) (fun _=>⟨by rw[g.size];omega,Me fun hx=>by have:=W.xlt _ hx;omega,fun id k n e=>by have:=(W.lt _ _ _ _ e).1;omega⟩) (fun row hr=> ?_) (fun i row j x hi hj=> ?_) fun i row j x hi hj=> ?_
 ·obtain⟨y,_,rfl⟩:=Nb.1 hr;exact hI.len _ _
 all_goals obtain⟨v,a1,a2⟩:=key i row j x hi hj
 ·rw[cell_of g.new,jc,a1];rfl
 ·rw[a1];exact a2.mono dom fun b hb=>g.old hb.1
theorem ztK(hI:IpOK P I)(hT:TOK P T fk){E:Operand->EL I.C}{fz t len:Nat}{parts:Array (Nat×Operand)}(hg:q=[]->g=true)(h0:YK T E q fz nx t len parts.toList K=some r0):
  OpD P g h nx K r0 fun ι w s=> ∃V,Jw E q ι w parts.toList V/\s=Instr.buildSlice t len (parts.map fun(i,x)=>(i,V x)):=by
 have hpv: ∀V:Operand->Value,(parts.map fun x=>(x.1,V x.2)).toList=parts.toList.map fun p=>(p.1,V p.2):=by simp
 unfold YK at h0;split at h0
 case h_2=>cases h0
 rename_i ps e hps hk;split at h0
 case h_2=>cases h0
 rename_i cs hc;obtain⟨hh,h0⟩:=Zb h0;simp only[Da]at hh;obtain⟨⟨c1,c2⟩,c3⟩:=hh;obtain⟨s1,s2⟩:=yg hT c2;obtain⟨i,z,hi,hz,hs,hz1,hz2⟩:=Tn hT c3;have c1:=Gc c1;rw[s1]at c1 h0;rw[hz2,s1]at hc;have run: ∀{ι w V},Jw E q ι w parts.toList V-> ∃X':Array Value,X'.size=len*P.cellsOf e/\cs.length=len*P.cellsOf e/\qD ι w (P.cellsOf e) (Oj (P.cellsOf e) len cs) X'/\
   (Instr.buildSlice t len (parts.map fun(i,x)=>(i,V x))).run P w= .ok (.slice (some ⟨w.heap.size,0,none⟩) len len) {w with heap:=w.heap.push (.cells X' e)}:=by
  intro ι w V hV;obtain⟨zl,hX⟩:=KJ (I:=I) (ι:=ι) (w:=w) hs s2 hz1 len;obtain⟨X',f1,f2,f3⟩:=YB _ parts.toList ps _ cs _ hps hV hX hc;rw[zl]at f3;refine⟨X',by rw[f2.1,f3],f3,f2.chunks f3,?_⟩;have hk:=QR hT hk (by simp);by_cases h0:len*P.cellsOf e=0
  ·simp only[Instr.buildSlice,Sem.run_bind,run_underlying (mg hk),Result.andThen_ok,Q8 s2,Oa (show¬len*P.cellsOf e>2 ^ 24 by omega),Sem.run_pure,Sa h0];have e:((Array.range (len*P.cellsOf e)).map fun x=>(#[]:Array Value)[x%(#[]:Array Value).size]!)=(Array.range (len*P.cellsOf e)).map fun i=>z.cells[i%z.cells.size]! :=by rw[h0];simp
   rw[hpv,e,f1];simp only[Sem.run_bind,newRow,run_newObj,Result.andThen_ok,Sem.run_pure]
  ·simp only[Instr.buildSlice,Sem.run_bind,run_underlying (mg hk),Result.andThen_ok,Q8 s2,Oa (show¬len*P.cellsOf e>2 ^ 24 by omega),Sem.run_pure,Oa h0,Tq hi hz];rw[hpv,f1];simp only[Sem.run_bind,newRow,run_newObj,Result.andThen_ok,Sem.run_pure]
 have hmax:len<=maxLen:=by have:len<=len*P.cellsOf e:=Nat.le_mul_of_pos_right _ s2;unfold maxLen;omega
 -- an own slice
 have own: ∀{o:EO I.C},K ⟨.v (.c (.own nx)),[(nx,o)],[],1⟩=some r0->q=[]->isR o=true->kE P o=P.cellsOf e->tyE o=e->(∀ι w,LesR ι w (Oj (P.cellsOf e) len cs) (Zd o))->OpD P g h nx K r0 fun ι w s=> ∃V,Jw E q ι w parts.toList V/\s=Instr.buildSlice t len (parts.map fun(i,x)=>(i,V x)):=by
  intro o h0 hq ho h1 h2 h3;refine opd h0 (fun e=>by rw[hg hq]at e;cases e) fun _ ι w s W _ hf ⟨V,hV,es⟩=> ?_;obtain⟨X',x1,_,x2,x3⟩:=run hV;have hn:(Zd o).length=len:=by rw[(h3 ι w).1,Uy]
  refine⟨_,_,es▸x3,Done.grow (o:=o) (cur:=X') (fr:=(0,0)) W (fr0 hf) ho (by rw[h2];exact Em w _) (.inl rfl) (by rw[h1];exact x2.les (h3 ι w)) (by rw[hn,h1,x1];exact Xa _) none (by simp) fun _ ι' _ e'=>dm e' ?_⟩;rw[hn,h1];exact EA (t:=e) (fr:=(0,0)) (cur:=X') (by simp) (Xa _) hmax (by rw[x1];exact Xa _)
 split at h0
 ·refine own h0 rfl rfl rfl rfl fun ι w=> ?_;show LesR ι w [cs.take (P.cellsOf e)] _;exact .refl _
 rw[oP]at h0;obtain⟨l,hl,h0⟩:=Ka.1 h0;obtain⟨m1,m2⟩:=nP hI hl;split at h0
 ·refine opd h0 (fun _=>rfl) fun _ ι w s W _ hf ⟨V,hV,es⟩=> ?_;obtain⟨X',x1,_,x2,x3⟩:=run hV;refine⟨_,_,es▸x3,?_⟩;have:=Done.froze (nx:=nx) (rd:=[]) (k:=1) hI W (Em w (.cells X' e)) (x2.les (m2 ι w)) (Xa l.length);rw[m1]at this;exact this
 ·exact own h0 rfl rfl rfl rfl m2
 ·obtain⟨c4,h0⟩:=Zb h0;have c4:=Gc c4;refine own h0 rfl rfl rfl rfl fun ι w=> ?_;obtain⟨n,rfl⟩: ∃n,len=n+1:=⟨len - 1,by omega⟩;have e1:Oj (P.cellsOf e) (n+1) cs=(Oj (P.cellsOf e) (n+1) cs).take n++[(cs.drop (n*P.cellsOf e)).take (P.cellsOf e)]:=by
   apply List.ext_getElem?;intro j;rw[Ec,Uc,Wd,Uy,yD];by_cases h1:j<n
   ·rw[Sa (by omega),Sa (by omega),Sa h1]
   ·rw[Oa (by omega: ¬j<min n (n+1))];by_cases h2:j=n
    ·subst h2;rw[Sa (by omega)];simp
    ·rw[Oa (by omega)];simp;omega
  rw[e1];refine LesR.app ?_ (.refl _);have h2:=m2 ι w;refine⟨by simp[m1,Uy],fun i r r' hr hr'=> ?_⟩;rw[Uc]at hr;split at hr
  ·rw[Nat.add_sub_cancel,Bf,Uc,Sa (by assumption)]at hr';exact h2.2 i r r' hr hr'
  ·cases hr
 ·cases h0
theorem flat_get{α:Type}{k:Nat}{Z:List α}(hk:Z.length=k): ∀{n i j:Nat},i<n->j<k->(List.replicate n Z).flatten[i*k+j]? =Z[j]?
 |0,i,j,h,_=>by omega
 |n+1,0,j,_,hj=>by rw[Dh,Nf,Ec,Sa (by omega)];simp
 |n+1,i+1,j,h,hj=>by rw[Dh,Nf,Ec,Oa (by rw[hk,Xd];omega),<-flat_get hk (n:=n) (i:=i) (by omega) hj];congr 1;rw[hk,Xd];omega
theorem OY(hI:IpOK P I)(hT:TOK P T fk){t:Nat}{l c:ET I.C}(hg:q=[]->g=true)(h0:WA T nx t l c q K=some r0):OpD P g h nx K r0 fun ι w s=> ∃vl vc,RepT ι w l vl/\RepT ι w c vc/\s=Instr.makeSlice t vl vc:=by
 unfold WA at h0;split at h0
 case h_2=>cases h0
 rename_i e kl l kc c hk;obtain⟨hh,h0⟩:=Zb h0;rw[Da]at hh;obtain⟨s1,s2⟩:=yg hT hh.1;obtain⟨i,z,hi,hz,hs,hz1,hz2⟩:=Tn hT hh.2;obtain⟨hb,h0⟩:=Z8 h0;simp only[Da,ja]at hb;obtain⟨⟨⟨b1,b2⟩,b3⟩,b4⟩:=hb;obtain⟨z0,h1,h9⟩:=Ka.1 h0;clear h0;obtain⟨ln,rfl⟩:=uf b1;obtain⟨cn,rfl⟩:=uf (show 0<=c by omega);refine opd h9 (fun e=>by rw[hg rfl]at e;cases e) fun _ ι w s W _ hf ⟨vl,vc,hl,hc,es⟩=> ?_;obtain rfl:=Zf rfl hl;obtain rfl:=Zf rfl hc;have hby:i.bytes=(T.at e).by_:=by rw[Xi hT (.inr (.inl hh.2))];exact Vy hi
 have hrun:=run_make (P:=P) w t e i z (mg (QR hT hk (by simp))) hi hz kl kc ln cn (by omega) (by omega) (by
  rw[hby];have:(cn:Int)*((T.at e).by_:Int)<=140737488355328:=b3;rw[Int.mul_comm]at this;omega) (by omega)
 obtain⟨zl,hX⟩:=KJ (I:=I) (ι:=ι) (w:=w) hs s2 hz1 cn;rw[hz2]at h1;obtain⟨g1,g2⟩:=aC hI h1;simp only[Cb,Yu hi]at hrun;have hcr:=hX.chunks zl;have hcr:qD ι w (P.cellsOf e) (List.replicate ln (I.exp e z0)) (madeCells z.cells (cn*P.cellsOf e)):=by
  refine⟨fun row hr=>by rw[List.eq_of_mem_replicate hr];exact Al hI _ _,fun i row j x hi hj=> ?_⟩;have hil:i<ln:=by have:=(Ja.1 hi).1;simpa using this
  obtain rfl:=List.eq_of_mem_replicate (ma hi);have hjl:j<P.cellsOf e:=by rw[<-Al hI e z0];exact(Ja.1 hj).1
  have hzj:=Ta (l:=(zeroE z.cells.toList:List (EV I.C))) (i:=j) (by rw[g1];exact hjl);obtain⟨v,a1,a2,a3⟩:=hX.2 (i*P.cellsOf e+j) (zeroE z.cells.toList)[j] (by
   rw[<-hzj];exact flat_get g1 (show i<cn by omega) hjl)
  exact⟨v,a1,a2,((g2 ι w).2 0 _ _ rfl rfl).2 j _ _ hzj hj v a3⟩
 refine⟨_,_,es▸hrun,Done.grow (o:= .sl e (List.replicate ln z0)) (cur:=madeCells z.cells (cn*P.cellsOf e)) (fr:=(0,0)) W (fr0 hf) rfl (Em w _) (.inl rfl) (by simpa [Zd,kE] using hcr) (by
  rw[size_madeCells];simp only[Zd,kE,Fb,List.length_replicate];exact Vb _ (by omega)) none (by simp) fun _ ι' _ e'=>dm e' ?_⟩
 simp only[Zd,kE,Fb,List.length_replicate];exact EA (t:=e) (fr:=(0,0)) (cur:=madeCells z.cells (cn*P.cellsOf e)) (Em w _).new (by omega) (by unfold maxLen;omega) (by rw[size_madeCells];exact Xa _)
end
section
variable {I:Ip} {P:Program} {T:TT} {fk:List (Nat×List Kd)} {ι:Asg} {w w':World} {h:Nat->Option (EO I.C)} {nx:Nat} {R:Type} {r0:R} {q:Path} {g:Bool} {K:Kt I R}
def Src(P:Program)(ι:Asg)(w:World)(k:Nat)(rows:List (List (EV I.C)))(v:Value):Prop:=
 ∃cs:List Value,cs.length=rows.length*k/\qD ι w k rows cs.toArray/\(∀u∈cs,u.oneCell'=true)/\ ∀w':World,w'.heap=w.heap->(Builtin.lenOf v).run P w'= .ok rows.length w'/\(Builtin.firstCells k rows.length v).run P w'= .ok cs.toArray w'
theorem Src.nil{k:Nat}:Src (I:=I) P ι w k [] (.slice none 0 0):=⟨[],by simp,⟨by simp,by simp⟩,by simp,fun w' _=>⟨by simp[Builtin.lenOf],by simp[Builtin.firstCells]⟩⟩
theorem bV {k b o c:Nat} {rows:List (List (EV I.C))} {a:Option Addr} (hk: ∀row∈rows,row.length=k) (ha:rows≠[]->a=some ⟨b,o,none⟩)
  (h: ∀(i:Nat) (row:List (EV I.C)) (j:Nat) (x:EV I.C),rows[i]? =some row->row[j]? =some x-> ∃u,w.cell? ⟨b,o+(i*k+j),none⟩=some u/\Rep1 ι w x u):Src P ι w k rows (.slice a rows.length c):=by
 have hrow: ∀t,t<rows.length*k-> ∃u,w.cell? ⟨b,o+t,none⟩=some u/\u.oneCell'=true/\ ∀row x,rows[t / k]? =some row->row[t%k]? =some x->Rep1 ι w x u:=by intro t ht;obtain⟨h1,h2⟩:=eQ ht;have hr:rows[t / k]? =some rows[t / k]:=Ta h1;have hl:=hk _ (Ha h1);have hx:rows[t / k][t%k]? =some (rows[t / k][t%k]'(by omega)):=Ta _;obtain⟨u,g1,g2⟩:=h _ _ _ _ hr hx;rw[Nat.mul_comm,Nat.div_add_mod]at g1;refine⟨u,g1,g2.1,fun row x e1 e2=> ?_⟩;rw[hr]at e1;cases e1;rw[hx]at e2;cases e2;exact g2
 obtain⟨f,hf⟩:=VP hrow;refine⟨(List.range (rows.length*k)).map f,by simp,⟨hk,fun i row j x hi hj=> ?_⟩,fun u hu=> ?_,fun w' hw=>⟨by simp[Builtin.lenOf],?_⟩⟩
 ·have h1:=(Ja.1 hi).1;have hjl:j<k:=by rw[<-hk row (ma hi)];exact(Ja.1 hj).1
  have hlt:=fw h1 hjl;obtain⟨e1,e2⟩:=divmod (i:=i) hjl;exact⟨f (i*k+j),by simp[hlt],(hf _ hlt).2.2 row x (by rw[e1];exact hi) (by rw[e2];exact hj)⟩
 ·obtain⟨t,ht,rfl⟩:=Nb.1 hu;exact(hf t (Md.1 ht)).2.1
 ·rcases Nat.eq_zero_or_pos rows.length with h0|h0
  ·obtain rfl:=ib h0;cases a<;>simp[Builtin.firstCells,loadCells,loadCellsFrom]
  ·rw[ha (by rintro rfl;simp at h0)];simp only[Builtin.firstCells];exact aR f (fun j hj=>by rw[zFR hw];exact(hf j hj).1)
theorem Src.own{id off n:Nat}{o:EO I.C}(hh:Cg P ι w id o)(hl:off+n<=(Zd o).length){b:Option Nat}{k m:Nat}(e:ι id= .live b k m){v:Value}(hv:SlAt w b k off n v):Src P ι w (kE P o) (((Zd o).drop off).take n) v:=by
 obtain⟨b',h1,h2,h3⟩:=hh;rw[e]at h1;cases h1;have hn:(((Zd o).drop off).take n).length=n:=by simp;omega
 rcases hv with⟨rfl,rfl,rfl⟩|⟨b',c,ty,sz,a,rfl,rfl,hca,hc,_⟩
 ·rw[List.take_zero];exact .nil
 ·rcases h3 with⟨h3,_⟩|⟨_,cur,fr,_,h4,h5,h6,h7,h8⟩
  ·cases h3
  ·cases h4;have:=bV (P:=P) (ι:=ι) (w:=w) (k:=kE P o) (b:=b') (o:=off*kE P o) (c:=c) (a:=a) (rows:=((Zd o).drop off).take n) (fun row hr=>by simpa using h2 (row.map (RepV ι w)) (Nb.2 ⟨row,List.mem_of_mem_drop (List.mem_of_mem_take hr),rfl⟩)) (fun hne=>hca.resolve_left fun h0=>hne (by
    have:n=0:=by omega
    subst this;simp)) fun i row j x hi hj=>by
     rw[Uc]at hi;split at hi
     ·rw[Xc]at hi;obtain⟨u,g1,g2⟩:=h8 (off+i) (row.map (RepV ι w)) j (RepV ι w x) (by simp[hi]) (by simp[hj]);exact⟨u,by rw[cell_of h5,<-g1,Xd,xe],g2⟩
     ·cases hi
   rw[hn]at this;exact this
theorem Src.all{id:Nat}{o:EO I.C}(hh:Cg P ι w id o){v:Value}(hv:RepV (I:=I) ι w (.own id) v):Src P ι w (kE P o) (Zd o) v:=by have hh':=hh;obtain⟨b,h1,_⟩:=hh';have hv:SlS ι w (ι id) none v:=hv;rw[h1]at hv;have:=Src.own (off:=0) (n:=(Zd o).length) hh (by omega) h1 hv;simpa using this
theorem Src.froz(hI:IpOK P I){e:Nat}{l:List (I.C e)}{v:Value}(hv:RepP (Dom ι w) w (.sl (l.map (I.full e))) v):Src P ι w (P.cellsOf e) (l.map (I.exp e)) v:=by
 cases hv with
 |sl _ a n c k b o val hn hc ha hD hkk hv hr=>
  rw[Fb]at hn;subst hn;have hk: ∀(i:Nat) row,(l.map (I.exp e))[i]? =some row->k=P.cellsOf e/\ ∃y,l[i]? =some y/\row=I.exp e y:=fun i row hi=>by simp only[Ra,Ma]at hi;obtain⟨y,hy,rfl⟩:=hi;exact⟨by rw[<-hkk (I.full e y) (Nb.2 ⟨y,ma hy,rfl⟩),hI.len],y,hy,rfl⟩
  have:=bV (P:=P) (ι:=ι) (w:=w) (k:=P.cellsOf e) (b:=b) (o:=o) (c:=c) (a:=a) (rows:=l.map (I.exp e)) (fun row hr=>by obtain⟨y,_,rfl⟩:=Nb.1 hr;exact Al hI _ _) (fun hne=>ha (by
   rcases Nat.eq_zero_or_pos l.length with h0|h0
   ·exact absurd (by rw[ib h0];rfl) hne
   ·exact h0)) fun i row j x hi hj=>by
    obtain⟨rfl,y,hy,rfl⟩:=hk i row hi;obtain⟨e1,e2⟩:=Gq hI hj;have hf:(l.map (I.full e))[i]? =some (I.full e y):=by rw[Ra,hy];rfl
    exact⟨_,by rw[<-xe];exact hv _ _ _ _ hf e1,iY (hr _ _ _ _ hf e1),(uh e2).2 (hr _ _ _ _ hf e1)⟩
  simpa using this
theorem kw(hI:IpOK P I){e:Nat}{p:(List UInt8->List (I.C e))×(List (I.C e)->List UInt8)}(hp:I.byt e=some p):P.cellsOf e=1:=by have h1:=congrArg (·[0]?) ((hI.byt e p hp).1 [0]);simp only[Jc,List.getElem?_cons_zero,Ra]at h1;obtain⟨y,_,hy⟩:=Ma.1 h1;rw[<-hI.len e y,hy];rfl
theorem Src.str(hI:IpOK P I){e:Nat}{p:(List UInt8->List (I.C e))×(List (I.C e)->List UInt8)}(hp:I.byt e=some p)(b:List UInt8):Src P ι w (P.cellsOf e) ((p.1 b).map (I.exp e)) (.string ⟨b.toArray⟩):=by
 obtain⟨q1,_,q3⟩:=hI.byt e p hp;have h1:=kw hI hp;have hlen:(p.1 b).length=b.length:=by have:=congrArg List.length (q1 b);simpa using this
 have hl:b.length=b.length*P.cellsOf e:=by rw[h1,Yg]
 refine⟨b.map fun b=> .int .u8 b.toNat,by rw[Fb,Fb,hlen];exact hl,⟨fun row hr=> ?_,fun i row j x hi hj=> ?_⟩,fun u hu=>(by obtain⟨_,_,rfl⟩:=Nb.1 hu;rfl),fun w' _=>⟨by simp[Builtin.lenOf,size_mk,hlen],?_⟩⟩
 ·obtain⟨y,_,rfl⟩:=Nb.1 hr;exact Al hI _ _
 ·simp only[Ra,Ma]at hi;obtain⟨y,hy,rfl⟩:=hi;obtain⟨e1,e2⟩:=Gq hI hj;have:=congrArg (·[i]?) (q1 b);simp only[Ra,hy,Cc]at this;obtain⟨c,hc,hf⟩:=Ma.1 this.symm;rw[<-hf]at e1;have hj0:j=0:=by have:=(Ja.1 e1).1;simpa using this
  subst hj0;have e1:PV.at (.int .u8 c.toNat)=pvE I x:=by simpa using e1
  refine⟨.int .u8 c.toNat,by rw[h1];simp[hc],rfl,(uh e2).2 ?_⟩;rw[<-e1];exact .at _ rfl
 ·simp only[Builtin.firstCells,Fb,hlen];have e:(ByteArray.mk b.toArray).extract 0 b.length=ByteArray.mk b.toArray:=by rw[Lib.extract_eq];simp
  rw[e];simp
theorem Ut(hI:IpOK P I)(hT:TOK P T fk){t e:Nat}(he:Nat.ble 1 (T.at e).sz=true){x:ET I.C}{new:List (I.C e)}{rd:List Nat}{ok:Bool}(h0:srcE e (T.at t).kd h x=some (new,rd,ok))(hok:ok=true):
  Vi (kdOf P t)/\ ∀{ι w v},Hd P h rd ι w->RepT ι w x v->Src P ι w (P.cellsOf e) (new.map (I.exp e)) v:=by
 generalize hk:(T.at t).kd=kd at h0;have hk:=fun hb=>QR hT hk hb;unfold srcE at h0;split at h0<;>first|(cases h0;done)|(have hk:=hk (by simp);refine⟨by rw[hk];trivial,?_⟩)
 ·split at h0<;>cases h0;rename_i hc;obtain⟨rfl,hc⟩:=qi hc;cases hc;exact fun _ hv=> .froz hI hv.2
 ·split at h0<;>cases h0;rename_i hc;obtain⟨rfl,hc⟩:=qi hc;cases hc;exact fun _ hv=> .froz hI hv.2.1
 ·cases h0;exact fun _ hv=>by obtain rfl:=Zf rfl hv;exact .nil
 ·split at h0
  case h_2=>cases h0
  rename_i hid;split at h0<;>cases h0;rename_i hc;obtain⟨rfl,hc⟩:=qi hc;cases hc;exact fun hd hv=>Src.all ((Zo rfl).1 (hd.2 _ (by simp) _ hid)) hv.2
 ·split at h0
  case h_2=>cases h0
  rename_i hid;split at h0<;>cases h0;rename_i hc;obtain⟨rfl,hc⟩:=qi hc;cases hc;intro ι w v hd hv;have hh:=(Zo rfl).1 (hd.2 _ (by simp) _ hid);have hh':=hh;obtain⟨b,h1,_⟩:=hh';have hv:SlS ι w _ (some _) v:=hv.2;rw[h1]at hv;have:=Src.own hh (by simpa [Zd] using Ib hok) h1 hv
  rwa [Bf,List.map_drop]
 ·split at h0<;>cases h0;rename_i hp;intro ι w v _ hv;obtain rfl:=Zf rfl hv;exact .str hI hp _
theorem aK {ts tx ty e:TypeId} {i:TypeInfo} {z:Value} (ht:P.underlying ts=some (.slice e)) (hx:Vi (kdOf P tx)) (hi:P.info? e=some i) (hz:i.zero=some z)
  {a:Option Addr} {c:Nat} {R0 R1:List (List (EV I.C))} {vx:Value} (h0:Src P ι w (P.cellsOf e) R0 (.slice a R0.length c)) (h1:Src P ι w (P.cellsOf e) R1 vx) (hg: ¬(R0.length+R1.length<=c))
  (h63:R0.length+R1.length<=maxLen) (h48:(R0.length+R1.length)*i.bytes<=140737488355328):
  ∃cs0 cs1:List Value,cs0.length=R0.length*P.cellsOf e/\cs1.length=R1.length*P.cellsOf e/\qD ι w (P.cellsOf e) R0 cs0.toArray/\qD ι w (P.cellsOf e) R1 cs1.toArray/\(Builtin.append_ #[ts,tx] ty #[.slice a R0.length c,vx]).run P w=
   .ok (.slice (some ⟨w.heap.size,0,none⟩) (R0.length+R1.length) (grownCap w (R0.length+R1.length) c e))
    (w.drew.alloc (.cells (cs0.toArray++cs1.toArray++Builtin.zeroCells z.cells (grownCap w (R0.length+R1.length) c e - (R0.length+R1.length))) e)):=by
 obtain⟨cs0,l0,g1,_,g2⟩:=h0;obtain⟨cs1,l1,g3,_,g4⟩:=h1;refine⟨cs0,cs1,l0,l1,g1,g3,?_⟩;have hl:=(g4 w rfl).1;have hf0:=(g2 w.drew rfl).2;have hf1:=(g4 w.drew rfl).2;have h63': ¬(9223372036854775807<((R0.length:Int)+(R1.length:Int))):=by unfold maxLen at h63;omega
 have h48': ¬(281474976710656<Builtin.nextslicecap (R0.length+R1.length) c*i.bytes):=by have:=growslice_fits (need:=R0.length+R1.length) (old:=c) (by omega) h48;omega
 have hsz:i.size=P.cellsOf e:=Yu hi;rcases HZ hx with⟨e',hd⟩|hd<;>
 ·simp[Builtin.append_,run_underlying ht,run_underlying hd,sizeOf,typeInfo,zeroValue,hi,hz,hsz,hl,hg,h63',h48',Question.forced,hf0,hf1,newRow,grownCap]
  try (congr 2;apply Array.ext';simp[Ub])
theorem SK {ts tx ty e:TypeId} {i:TypeInfo} (ht:P.underlying ts=some (.slice e)) (hx:Vi (kdOf P tx)) (hi:P.info? e=some i)
  {a:Option Addr} {n c:Nat} {R1:List (List (EV I.C))} {vx:Value} (h1:Src P ι w (P.cellsOf e) R1 vx) (hg:n+R1.length<=c):
  ∃cs1:List Value,cs1.length=R1.length*P.cellsOf e/\qD ι w (P.cellsOf e) R1 cs1.toArray/\(∀u∈cs1,u.oneCell'=true)/\(Builtin.append_ #[ts,tx] ty #[.slice a n c,vx]).run P w=
   (match a with|some a=>(storeCells (a.add (n*P.cellsOf e)) cs1).run P w|none=> .ok () w).andThen fun _ w'=> .ok (.slice a (n+R1.length) c) w':=by
 obtain⟨cs1,l1,g3,g3',g4⟩:=h1;refine⟨cs1,l1,g3,g3',?_⟩;obtain⟨hl,hf1⟩:=g4 w rfl;have hsz:i.size=P.cellsOf e:=Yu hi;rcases HZ hx with⟨e',hd⟩|hd<;>cases a<;>simp[Builtin.append_,run_underlying ht,run_underlying hd,sizeOf,typeInfo,hi,hsz,hl,hg,hf1]
theorem qD.app {k:Nat} {R0 R1:List (List (EV I.C))} {X:Array Value} (h0: ∀row∈R0,row.length=k) (h1: ∀row∈R1,row.length=k)
  (g0: ∀(i:Nat) row (j:Nat) x,R0[i]? =some row->row[j]? =some x-> ∃v,X[i*k+j]? =some v/\Rep1 ι w x v) (g1: ∀(i:Nat) row (j:Nat) x,R1[i]? =some row->row[j]? =some x-> ∃v,X[(R0.length+i)*k+j]? =some v/\Rep1 ι w x v):qD ι w k (R0++R1) X:=by
 refine⟨fun row hr=>(Rc.1 hr).elim (h0 row) (h1 row),fun i row j x hi hj=> ?_⟩;rw[Ec]at hi;split at hi
 ·exact g0 i row j x hi hj
 ·have:=g1 _ row j x hi hj
  rwa [show R0.length+(i - R0.length)=i by omega]at this
theorem qD.at_app{k:Nat}{R:List (List (EV I.C))}{X pre post:Array Value}(h:qD ι w k R X){n:Nat}(hn:pre.size=n*k): ∀(i:Nat) row (j:Nat) x,R[i]? =some row->row[j]? =some x-> ∃v,(pre++X++post)[(n+i)*k+j]? =some v/\Rep1 ι w x v:=by intro i row j x hi hj;obtain⟨v,a1,a2⟩:=h.2 i row j x hi hj;have:=(Lb.1 a1).1;refine⟨v,?_,a2⟩;rw[Xd,df,Sd,Oa (by omega),Sd,Sa (by omega),<-a1];congr 1;omega
theorem XJ {o:EO I.C} {ts tx ty e:TypeId} (hk:kdOf P ts= .sl e) (hxk:Vi (kdOf P tx)) (hz:(ti P e).zok=true) {R0 R1:List (List (EV I.C))} (ho:isR o=true) (ho1:kE P o=P.cellsOf e) (ho2:tyE o=e) (ho3:Zd o=R0++R1)
  {vs vx:Value} (S1:Src P ι w (P.cellsOf e) R1 vx) (W:Wf ι w) (hf:ι nx= .free) (kl:Option Nat) (hkl: ∀id,kl=some id->ι id≠ .free) (h63:R0.length+R1.length<=maxLen) (h48:(R0.length+R1.length)*(ti P e).by_<=140737488355328)
  {b:Option Nat} (hv:SlAt w b (P.cellsOf e) 0 R0.length vs) (S0:Src P ι w (P.cellsOf e) R0 vs) (hb: ∀b',b=some b'-> ∃id cur fr ty2,kl=some id/\ι id= .live (some b') (P.cellsOf e) R0.length/\w.heap[b']? =some (.cells cur ty2 fr)/\FT (TyOK P e) ty2 fr cur.size/\qD ι w (P.cellsOf e) R0 cur/\R0.length*P.cellsOf e<=cur.size) {rd:List Nat}:
  ∃v w',(Builtin.append_ #[ts,tx] ty #[vs,vx]).run P w= .ok v w'/\Done P ι w nx ⟨.v (.c (.own nx)),upK kl nx o,rd,1⟩ v w':=by
 obtain⟨i,z,hi,hz,hzs,hz1,hz2⟩:=Uw hz;have hR1: ∀row∈R1,row.length=P.cellsOf e:=by obtain⟨_,_,h,_⟩:=S1;exact h.1
 have hR0: ∀row∈R0,row.length=P.cellsOf e:=by obtain⟨_,_,h,_⟩:=S0;exact h.1
 have hn:(Zd o).length=R0.length+R1.length:=by rw[ho3,Na]
 obtain⟨a,c,rfl,hc⟩: ∃a c,vs= .slice a R0.length c/\R0.length<=c:=by
  rcases hv with⟨_,h1,rfl⟩|⟨_,c,_,_,a,_,rfl,_,h4,_⟩
  ·exact⟨_,_,by rw[h1],by omega⟩
  ·exact⟨_,_,rfl,h4⟩
 by_cases hfit:R0.length+R1.length<=c
 ·obtain⟨cs1,l1,c1,c1',hrun⟩:=SK (ty:=ty) (a:=a) (mg hk) hxk hi S1 hfit;rcases hv with⟨rfl,h1,hv⟩|⟨b',c',ty',sz,a',rfl,hv,hca,hnc,hcm,hsh,hle⟩
  ·injection hv with e1 e2 e3;subst e1;subst e3;have hr1:R1=[]:=ib (by omega);have hr0:R0=[]:=ib (by omega);subst hr1;subst hr0;refine⟨_,_,hrun, .put W hf ho (.refl w) (b:=none) kl hkl (fun _ e=>by cases e) (fun _ h=>h.elim) (fun _ _ _=>⟨by simp[ho3], .inl ⟨rfl,by simp[ho3]⟩⟩) fun _ ι' _ e'=>dm e' (.inl ⟨rfl,hn,rfl⟩)⟩
  ·cases hv;obtain⟨id,cur,fr,ty2,k0,k1,k2,k3,k4,k5⟩:=hb b' rfl;have hsz:sz=cur.size:=by simp[World.shape?,k2]at hsh;exact hsh.2.symm
   subst hsz;have hin:R0.length*P.cellsOf e+cs1.length<=cur.size:=by rw[l1,<-Xd];exact Bb (Vb _ (by omega)) hle
   obtain⟨w',hw1,hw2,cur',hw3,hw4,hw5⟩: ∃w',(match a with|some a=>(storeCells (a.add (R0.length*P.cellsOf e)) cs1).run P w|none=> .ok () w)= .ok () w'/\Chg w w' b'/\
     ∃cur',w'.heap[b']? =some (.cells cur' ty2 fr)/\cur'.size=cur.size/\cur'=(cur.toList.take (R0.length*P.cellsOf e)++cs1++cur.toList.drop (R0.length*P.cellsOf e+cs1.length)).toArray:=by
    have hsz2:(cur.toList.take (R0.length*P.cellsOf e)++cs1++cur.toList.drop (R0.length*P.cellsOf e+cs1.length)).toArray.size=cur.size:=by simp only[je,Na,Wd,jb,Od];omega
    by_cases hc0:c=0
    ·have hcs:cs1=[]:=ib (by rw[l1,show R1.length=0 by omega,Ef]);subst hcs;exact⟨w,by cases a<;>simp[storeCells],⟨rfl,rfl,rfl,rfl,fun _ _=>rfl,fun _ h=>h⟩,cur,k2,rfl,by simp⟩
    ·obtain rfl:=hca.resolve_left hc0;have hrunS:=Wz (P:=P) (g:=b') (o:=0+R0.length*P.cellsOf e) (t:=ty2) (fr:=fr) cs1 0 cur w k2 k3.1.out (by simpa using hin) c1';simp only[jc,Nc]at hrunS;exact⟨_,by simp only[Ef,addr_add,jc];exact hrunS,CE k2 hsz2,_,setRow_heap w b' cur _ ty2 fr k2,hsz2,rfl⟩
   rw[hw1]at hrun;have hcr:qD ι w (P.cellsOf e) (R0++R1) cur':=by
    have hpre:(cur.toList.take (R0.length*P.cellsOf e)).toArray.size=R0.length*P.cellsOf e:=by simp;omega
    have e1:cur'=(cur.toList.take (R0.length*P.cellsOf e)).toArray++cs1.toArray++(cur.toList.drop (R0.length*P.cellsOf e+cs1.length)).toArray:=by rw[hw5];simp
    refine .app hR0 hR1 (fun i row j x hi hj=> ?_) (by rw[e1];exact c1.at_app hpre);obtain⟨v,a1,a2⟩:=k4.2 i row j x hi hj;refine⟨v,?_,a2⟩;have:=fw (Ja.1 hi).1 (show j<P.cellsOf e by rw[<-hR0 row (ma hi)];exact(Ja.1 hj).1);rw[e1,df,Sd,Sa (by rw[hpre];exact this),Mg,Uc,Sa this,Ed];exact a1
   refine⟨_,_,hrun, .put (b:=some b') (B:=(· =b')) W hf ho hw2.wld kl hkl (fun b e=>by cases e;exact .inr ⟨id,_,_,k0,k1⟩) (fun b e=>by subst e;exact⟨id,_,_,k0,k1⟩) (fun T ι' S=> ?_) fun T ι' S e'=>dm e' ?_⟩
   ·rw[ho1,ho2,ho3];refine hcr.blk S hw3 (by rw[hw4];exact k3) ?_;rw[hw4,Na];exact Bb (Vb _ (by omega)) hle
   ·rw[ho1,hn];exact .inr ⟨b',c,ty2,cur'.size,a,rfl,rfl,hca,hfit,hcm,by simp[World.shape?,hw3],by rw[hw4];exact hle⟩
 ·have hby:i.bytes=(ti P e).by_:=Vy hi;obtain⟨cs0,cs1,l0,l1,c0,c1,hrun⟩:=aK (ty:=ty) (mg hk) hxk hi hz S0 S1 hfit h63 (by rw[hby];exact h48);have hge:=grownCap_ge w (R0.length+R1.length) c e;have hmx:=grownCap_le_maxLen w (R0.length+R1.length) c e h63;generalize grownCap w (R0.length+R1.length) c e=c2 at*;have hsz:(cs0.toArray++cs1.toArray++Builtin.zeroCells z.cells (c2 - (R0.length+R1.length))).size=c2*P.cellsOf e:=by simp only[Array.size_append,je,XR,l0,l1,hzs,<-Xd];congr 1;omega
  refine⟨_,_,hrun,Done.grow (fr:=(0,0)) (cur:=cs0.toArray++cs1.toArray++Builtin.zeroCells z.cells (c2 - (R0.length+R1.length))) W hf ho (by rw[ho2];exact⟨rfl,rfl,rfl,rfl⟩) (.inl rfl) ?_ (by rw[hsz,hn,ho1];exact Vb _ hge) kl hkl fun T ι' S e'=>dm e' ?_⟩
  ·rw[ho1,ho3];refine .app hR0 hR1 ?_ (c1.at_app (by simp[l0]));intro i row j x hi hj;obtain⟨v,a1,a2⟩:=c0.2 i row j x hi hj;have:=(Lb.1 a1).1;exact⟨v,by rw[df,Sd,Sa this];exact a1,a2⟩
  ·rw[hn,ho1];exact EA (t:=e) (fr:=(0,0)) (cur:=cs0.toArray++cs1.toArray++Builtin.zeroCells z.cells (c2 - (R0.length+R1.length))) (Grew.new (w:=w) (w':=w.drew.alloc _) ⟨rfl,rfl,rfl,rfl⟩) hge hmx (by rw[hsz];exact Xa _)
end
section
variable {I:Ip} {P:Program} {T:TT} {fk:List (Nat×List Kd)} {ι ι':Asg} {w w':World} {h:Nat->Option (EO I.C)} {nx:Nat} {R:Type} {r0:R} {q:Path} {g:Bool} {K:Kt I R}
theorem base_of{id:Nat}{o:EO I.C}(hh:Cg P ι w id o){vs:Value}(hv:RepT (I:=I) ι w (.c (.own id)) vs): ∃b,ι id= .live b (kE P o) (Zd o).length/\SlAt w b (kE P o) 0 (Zd o).length vs/\Src P ι w (kE P o) (Zd o) vs/\
  ∀b',b=some b'-> ∃cur fr ty2,w.heap[b']? =some (.cells cur ty2 fr)/\FT (TyOK P (tyE o)) ty2 fr cur.size/\qD ι w (kE P o) (Zd o) cur/\(Zd o).length*kE P o<=cur.size:=by
 have S:=Src.all hh hv.2;obtain⟨b,h1,h2,h3⟩:=hh;have hv:SlS ι w (ι id) none vs:=hv.2;rw[h1]at hv;refine⟨b,h1,hv,S,fun b' e'=> ?_⟩;rcases h3 with⟨h3,_⟩|⟨b2,cur,fr,ty2,h4,h5,h6,h7,h8⟩
 ·rw[h3]at e';cases e'
 ·rw[h4]at e';cases e';exact⟨cur,fr,ty2,h5,h6,⟨fun row hr=>by simpa using h2 (row.map (RepV ι w)) (Nb.2 ⟨row,hr,rfl⟩),fun i row j x hi hj=>h8 i (row.map (RepV ι w)) j _ (by rw[Ra,hi];rfl) (by rw[Ra,hj];rfl)⟩,by simpa using h7⟩
theorem wY{e:Nat}{l:List (List (I.C e))}{S:List (Option (Nat×Nat))}(h:S.length=l.length)(m:List (I.C e))(s:Option (Nat×Nat)):af P e (l++[m]) (S++[s])=af P e l S++[[.prd (slP (P.cellsOf e) m.length s)]]:=by unfold af;rw[List.zipWith_append (by rw[h])];rfl
theorem BN{b:Option Nat}{k n:Nat}{v:Value}{s:Option (Nat×Nat)}(hb:b=s.map (·.1))(hs: ∀x,s=some x-> ∃ty,w.shape? x.1=some (ty,x.2)):SlAt w b k 0 n v↔slP k n s v:=by
 subst hb;constructor
 ·rintro(⟨h1,h2,rfl⟩|⟨b',c,ty,sz,a,h1,rfl,h3,h4,h5,h6,h7⟩)
  ·cases s<;>cases h1;exact⟨h2,rfl⟩
  ·obtain⟨x,rfl,rfl⟩:=Ma.1 h1;obtain⟨ty',h8⟩:=hs x rfl;rw[h6]at h8;cases h8;exact⟨c,a,rfl,by simpa using h3,h4,h5,by simpa using h7⟩
 ·intro h;cases s with
  |none=>exact .inl ⟨rfl,h.1,h.2⟩
  |some x=> obtain⟨c,a,h1,h2,h3,h4,h5⟩:=h;obtain⟨ty,h6⟩:=hs x rfl;exact .inr ⟨x.1,c,ty,x.2,a,rfl,h1,by simpa using h2,h3,h4,h6,by simpa using h5⟩
theorem zFA{b k:Nat}{ty:TypeId->Nat->Prop}{rows:List (List (Value->Prop))}(h:Blk w (some b) k ty rows): ∃ty sz,w.shape? b=some (ty,sz):=by rcases h.2 with⟨h,_⟩|⟨_,cur,fr,ty2,h,h2,_⟩<;>cases h;exact⟨ty2,cur.size,by simp[World.shape?,h2]⟩
theorem RY(hI:IpOK P I){e:Nat}(m:List (I.C e)):Les ((m.map (I.exp e)).map (·.map (RepV ι w))) ((m.map (I.full e)).map (·.map (RepP (Dom ι w) w)))/\Les ((m.map (I.full e)).map (·.map (RepP (Dom ι w) w))) ((m.map (I.exp e)).map (·.map (RepV ι w))):=by
 constructor<;>refine⟨by simp,fun i r r' hr hr'=> ?_⟩<;>
 ·simp only[Ra,Option.map_map,Ma]at hr hr';obtain⟨x,hx,rfl⟩:=hr;obtain⟨y,hy,rfl⟩:=hr';rw[hx]at hy;cases hy;refine⟨by simp[hI.exp],fun j p p' hp hp' v _ hv=> ?_⟩;simp only[Function.comp,hI.exp,Ra,Option.map_map,Ma]at hp hp';obtain⟨y,hy,rfl⟩:=hp;obtain⟨z,hz,rfl⟩:=hp';rw[hy]at hz;cases hz;have:=hI.pur _ _ _ (ma hy)
  first|exact(uh this).1 hv|exact(uh this).2 hv
theorem Inn.of{id e:Nat}{l:List (List (I.C e))}{S:List (Option (Nat×Nat))}(h:Inn P ι w id e l S)(hC:Conv ι w ι' w'){id':Nat}(hX: ∀x,some x∈S->ι.X x.1= .inn id->ι'.X x.1= .inn id'/\w'.heap[x.1]? =w.heap[x.1]?):Inn P ι' w' id' e l S:=
 ⟨h.1,h.2.1,fun j m s hm hs=>by
  have:=h.2.2 j m s hm hs;cases s with
  |none=>exact this
  |some s=>
   obtain⟨x1,⟨ty,x2⟩,x3⟩:=this;have hx:=hX s (ma hs) x1;exact⟨hx.1,⟨ty,hC.shape _ _ x2⟩,x3.les (fun b' e=>by cases e;exact hx.2) (Les.map (fun _ _ h=>h.conv hC) _)⟩⟩
theorem Inn.app {id e:Nat} {l:List (List (I.C e))} {S:List (Option (Nat×Nat))} {m:List (I.C e)} {s:Option (Nat×Nat)} (h:Inn P ι w id e l S)
  (hs:match s with|none=>m=[]|some (b,sz)=>ι.X b= .inn id/\(∃ty,w.shape? b=some (ty,sz))/\Blk w (some b) (P.cellsOf e) (TyOK P e) ((m.map (I.full e)).map (·.map (RepP (Dom ι w) w)))) (hn: ∀x,s=some x-> ∀(j z:Nat),S[j]? ≠some (some (x.1,z))):Inn P ι w id e (l++[m]) (S++[s]):=by
 have at_: ∀{α:Type} {L:List α} {a:α} {j:Nat} {y:α},(L++[a])[j]? =some y->L[j]? =some y\/(j=L.length/\y=a):=fun {α L a j y} hj=>by
  rw[Ec]at hj;split at hj
  ·exact .inl hj
  ·cases hk:j - L.length with
   |zero=>rw[hk]at hj;cases hj;exact .inr ⟨by omega,rfl⟩
   |succ n=>rw[hk]at hj;cases hj
 refine⟨by simp[h.1],fun i j b z z' hi hj=> ?_,fun j m' s' hm hs'=> ?_⟩
 ·rcases at_ hi with hi|⟨e1,hi⟩<;>rcases at_ hj with hj|⟨e2,hj⟩
  ·exact h.2.1 i j b z z' hi hj
  ·exact absurd hi (hn (b,z') hj.symm i z)
  ·exact absurd hj (hn (b,z) hi.symm j z')
  ·rw[e1,e2]
 ·rcases at_ hm with hm|⟨e1,rfl⟩<;>rcases at_ hs' with hs'|⟨e2,rfl⟩
  ·exact h.2.2 j m' s' hm hs'
  ·have:=(Ja.1 hm).1;have:=h.1;omega
  ·have:=(Ja.1 hs').1;have:=h.1;omega
  ·exact hs
theorem MW (hI:IpOK P I) {ts tx ty t e id zid:Nat} {l:List (List (I.C e))} {m:List (I.C e)} {c c':EV I.C} (hk:kdOf P ts= .sl t) (hkx:Vi (kdOf P tx)) (hz:(ti P t).zok=true) (h1:P.cellsOf t=1) (W:Wf ι w) (hf:ι nx= .free) (hh:Qd P ι w id (.slq t e l c)) {bo:Option Nat} (hbo: ∀b,bo=some b->b≠id/\c= .own b/\Qd P ι w b (.sl e m)) (hbn:bo=none->c= .nil/\m=[])
  {vs vx:Value} (hvs:RepT (I:=I) ι w (.c (.own id)) vs) (hx:Qd P ι w zid (.slo t [] [c'] [])) (hvx:RepT (I:=I) ι w (.c (.own zid)) vx) (a2:l.length+1+1<=maxLen) (a1:(l.length+1+1)*(ti P t).by_<=140737488355328) {rd:List Nat}:
  ∃v w',(Builtin.append_ #[ts,tx] ty #[vs,vx]).run P w= .ok v w'/\Done P ι w nx ⟨.v (.c (.own nx)),(id, .dead)::(bo.map fun b=>(b,EO.dead)).toList++[(nx, .slq t e (l++[m]) c')],rd,1⟩ v w':=by
 obtain⟨S,z,hr⟩:=hh
 -- the last slice's block
 obtain⟨s,hs0,hs1,hs2⟩: ∃s:Option (Nat×Nat),(∀x,s=some x-> ∃ty,w.shape? x.1=some (ty,x.2))/\(∀v,RepV ι w c v->slP (P.cellsOf e) m.length s v)/\(∀x,s=some x-> ∃b k n,bo=some b/\ι b= .live (some x.1) k n/\Blk w (some x.1) (P.cellsOf e) (TyOK P e) ((m.map (I.full e)).map (·.map (RepP (Dom ι w) w))))/\(s=none->m=[]):=by
  cases hb:bo with
  |none=>
   obtain⟨rfl,rfl⟩:=hbn hb;exact⟨none,fun x e=>by(cases e),fun v hv=>by cases hv;exact⟨rfl,rfl⟩,fun x e=>(by cases e),fun _=>rfl⟩
  |some b=>
   obtain⟨_,rfl,hm⟩:=hbo b hb;obtain⟨bb,e1,hblk⟩:=(Zo rfl).1 hm;have e1:ι b= .live bb (P.cellsOf e) m.length:=by rw[e1];simp[kE,Zd]
   cases bb with
   |none=>
    refine⟨none,fun x e=>(by cases e),fun v hv=> ?_,fun x e=>(by cases e),fun _=> ?_⟩
    ·have hv:SlS ι w (ι b) none v:=hv;rw[e1]at hv;exact(BN rfl (fun x e=>by cases e)).1 hv
    ·rcases hblk.2 with⟨_,h⟩|⟨_,_,_,_,h,_⟩
     ·simpa [Zd] using h
     ·cases h
   |some bb=>
    obtain⟨ty',sz,hsh⟩:=zFA hblk;have hsh': ∀x:Nat×Nat,some (bb,sz)=some x-> ∃ty,w.shape? x.1=some (ty,x.2):=fun x e=>by cases e;exact⟨ty',hsh⟩
    refine⟨some (bb,sz),hsh',fun v hv=> ?_,fun x e=> ?_,fun e=>(by cases e)⟩
    ·have hv:SlS ι w (ι b) none v:=hv;rw[e1]at hv;exact(BN rfl hsh').1 hv
    ·cases e;exact⟨b,_,_,rfl,e1,hblk.les (fun _ _=>rfl) (RY hI m).1⟩
 obtain⟨hs2,hs3⟩:=hs2
 -- what is inside belongs to others meanwhile
 let ι0:Asg:=⟨ι.s,fun b=>match ι.X b with| .inn i=>if i=id then .far else .inn i|x=>x⟩
 have x0: ∀b,ι.X b= .inn id->ι0.X b= .far:=fun b e=>by show(match ι.X b with| .inn i=>if i=id then Own.far else .inn i|x=>x)=_;rw[e];exact Sa rfl
 have x1: ∀b,ι.X b≠ .inn id->ι0.X b=ι.X b:=fun b e=>by
  show(match ι.X b with| .inn i=>if i=id then Own.far else .inn i|x=>x)=_;cases hX:ι.X b with
  |inn i=>exact Oa fun e'=>e (by rw[hX,e'])
  |_=>rfl
 have x2: ∀b,ι0.X b= .no↔ι.X b= .no:=fun b=>by
  by_cases e:ι.X b= .inn id
  ·rw[x0 b e,e];simp
  ·rw[x1 b e]
 have hD: ∀b,Dom ι0 w b↔Dom ι w b:=fun b=>⟨fun h=>⟨h.1,(x2 b).1 h.2.1,h.2.2⟩,fun h=>⟨h.1,(x2 b).2 h.2.1,h.2.2⟩⟩;have C0:Conv ι w ι0 w:=⟨fun _ _ h=>h,fun b hb=>(hD b).2 hb,fun _ _=>rfl⟩;have W0:Wf ι0 w:=⟨fun i b k n e'=>let⟨q1,q2⟩:=W.lt i b k n e';⟨q1,(x2 b).2 q2⟩,W.inj,fun p hp=>let⟨q1,q2⟩:=W.glob p hp;⟨(hD _).2 q1,q2⟩,fun b hb=>W.xlt b fun e'=>hb ((x2 b).2 e')⟩;have sl0: ∀i,Slw ι ι0 w w i i:=fun i=>Rm rfl;have r0: ∀{x:EV I.C} {v},RepV ι w x v->RepV ι0 w x v:=fun {x v} hv=>by rw[<-Bt x];exact hv.ren C0 fun i _=>sl0 i
 have hr0:Cg P ι0 w id (.rows t 1 (af P e (l++[m]) (S++[s]))):=by
  refine Yl (o':= .rows t 1 (af P e (l++[m]) (S++[s]))) hr rfl rfl rfl (by simp[Zd,af,z.1]) fun j r r' hj hj'=> ?_;rw[wY z.1]at hj';simp only[Zd]at hj hj';rw[Ec]at hj hj';split at hj
  ·rename_i hlt;rw[Sa hlt,hj]at hj';cases hj';obtain⟨p,rfl⟩:=ED (ma hj);exact⟨rfl,fun k x y hx hy v _ hv=>by
    rw[hx]at hy;cases hy;cases k with
    |zero=>cases hx;exact hv
    |succ k=>cases hx⟩
  ·rename_i hlt;rw[Oa hlt]at hj';generalize j - (af P e l S).length=n at hj hj';cases n with
   |zero=>
    cases hj;cases hj';exact⟨rfl,fun k x y hx hy v _ hv=>by
     cases k with
     |zero=>cases hx;cases hy;exact hs1 v hv
     |succ k=>cases hx⟩
   |succ n=>cases hj
 have hlen:(af P e (l++[m]) (S++[s])).length=l.length+1:=by simp[af,z.1]
 have hvs0:RepT (I:=I) ι0 w (.c (.own id)) vs:=⟨hvs.1,r0 hvs.2⟩;obtain⟨B,b1,b2,b3,b4⟩:=base_of hr0 hvs0;have hx0:Cg P ι0 w zid (.slo t [] [c'] []):=Yl ((Zo rfl).1 hx) rfl rfl rfl rfl fun j r r' hj hj'=>by rw[hj]at hj';cases hj';exact⟨rfl,fun k x y hx hy v _ hv=>by rw[hx]at hy;cases hy;exact r0 hv⟩
 have hSx:Src P ι0 w (P.cellsOf t) [[c']] vx:=Src.all hx0 (r0 hvx.2);obtain⟨v,w',hrun,ι1,S1,W1,hr1,hu1,hf1⟩:=XJ (ty:=ty) (nx:=nx) (rd:=rd) (o:= .rows t 1 (af P e (l++[m]) (S++[s])++[[c']])) (R0:=af P e (l++[m]) (S++[s])) (R1:=[[c']]) hk hkx hz rfl h1.symm rfl rfl hSx W0 hf (some id) (fun _ e'=>by cases e';rw[b1];simp) (by rw[hlen];exact a2) (by rw[hlen];exact a1) (b:=B) (by rw[h1];exact b2) (by rw[h1];exact b3) fun b' e'=>by obtain⟨cur,fr,ty2,g1,g2,g3,g4⟩:=b4 b' e';exact⟨id,cur,fr,ty2,rfl,by rw[b1,e',h1];rfl,g1,g2,by rw[h1];exact g3,by rw[h1];exact g4⟩
 have hup: ∀i,i∈(upK (some id) nx (.rows t 1 (af P e (l++[m]) (S++[s])++[[c']]):EO I.C)).map (·.1)↔i=id\/i=nx:=fun i=>by simp[upK]
 have hu1:Cg P ι1 w' nx (.rows t 1 (af P e (l++[m]) (S++[s])++[[c']])):=(Zo rfl).1 (hu1 (nx,_) (by simp[upK]));have nid:nx≠id:=fun e'=>by rw[e']at hf;have q:=b1.symm.trans hf;cases q
 have bnx: ∀b,bo=some b->b≠nx/\b≠id/\ ∃k n,∃x,ι b= .live x k n:=fun b hb=>by obtain⟨q1,_,q2⟩:=hbo b hb;obtain⟨x,e',_⟩:=(Zo rfl).1 q2;exact⟨fun e2=>(by rw[e2,hf]at e';cases e'),q1,_,_,x,e'⟩
 -- the numbers behind it
 have dec: ∀b,Decidable (ι.X b= .inn id\/ ∃x,s=some x/\x.1=b):=fun _=>Classical.propDecidable _
 let ι2:Asg:=⟨fun i=>if bo=some i then .dead else ι1 i,fun b=>if ι.X b= .inn id\/(∃x,s=some x/\x.1=b)then .inn nx else ι1.X b⟩
 have k1: ∀i,bo≠some i->ι2 i=ι1 i:=fun i hi=>Oa hi;have k2: ∀i,bo=some i->ι2 i= .dead:=fun i hi=>Sa hi;have y1: ∀b,(ι.X b= .inn id\/ ∃x,s=some x/\x.1=b)->ι2.X b= .inn nx:=fun b hb=>Sa hb;have y2: ∀b,¬(ι.X b= .inn id\/ ∃x,s=some x/\x.1=b)->ι2.X b=ι1.X b:=fun b hb=>Oa hb;have knx:ι2 nx=ι1 nx:=k1 nx fun e'=>(bnx nx e').1 rfl;have sno: ∀x,s=some x->ι.X x.1= .no:=fun x hx=>by obtain⟨b,k,n,_,e',_⟩:=hs2 x hx;exact(W.lt _ _ _ _ e').2
 have sb: ∀x,s=some x-> ∀i k n,ι1 i= .live (some x.1) k n->bo=some i:=fun x hx i k n e'=>by obtain⟨b,k',n',hb,e2,_⟩:=hs2 x hx;have hq:ι1 b=ι b:=S1.fix b (fun hm=>((hup b).1 hm).elim (bnx b hb).2.1 (bnx b hb).1) (by rw[show ι0 b=_ from e2];simp);rw[hb,W1.inj i b _ _ _ _ _ e' (hq.trans e2)]
 have live2: ∀{i b k n},ι2 i= .live (some b) k n->ι1 i= .live (some b) k n/\bo≠some i:=fun {i b k n} e'=>by
  by_cases hi:bo=some i
  ·rw[k2 i hi]at e';cases e'
  ·exact⟨k1 i hi▸e',hi⟩
 have xi: ∀b,ι.X b= .inn id->ι1.X b= .far:=fun b e'=>(S1.xs b (by rw[x0 b e'];trivial)).trans (x0 b e');have dom2: ∀b,Dom ι1 w' b->Dom ι2 w' b:=fun b hb=>by
  refine⟨hb.1,?_,fun i k n e'=>hb.2.2 i k n (live2 e').1⟩;rw[y2 b ?_];exact hb.2.1;rintro(e'|⟨x,hx,rfl⟩)
  ·have:=hb.2.1;rw[xi b e']at this;cases this
  ·obtain⟨b',k,n,hb',e2,_⟩:=hs2 x hx;have hq:ι1 b'=ι b':=S1.fix b' (fun hm=>((hup b').1 hm).elim (bnx b' hb').2.1 (bnx b' hb').1) (by rw[show ι0 b'=_ from e2];simp);exact hb.2.2 b' k n (hq.trans e2)
 have C2:Conv ι1 w' ι2 w':=⟨fun _ _ h=>h,dom2,fun _ _=>rfl⟩;have sl2: ∀i,Slw ι1 ι2 w' w' i i:=fun i _=>by
  by_cases hi:bo=some i
  ·exact .inr (.inl (k2 i hi))
  ·exact .inl (k1 i hi)
 have r2: ∀{x:EV I.C} {v},RepV ι1 w' x v->RepV ι2 w' x v:=fun {x v} hv=>by rw[<-Bt x];exact hv.ren C2 fun i _=>sl2 i
 have CC:Conv ι w ι2 w':=⟨S1.shape,fun b hb=>dom2 b (S1.dom b ((hD b).2 hb)),fun b hb=>S1.keep b ((hD b).2 hb)⟩;refine⟨v,w',hrun,ι2,⟨CC,S1.os,S1.tape,S1.output,S1.size,fun i b k n hT e'=>S1.own i b k n (fun hm=>hT ?_) e',fun i h0=> ?_,fun i hT h0=> ?_,fun b hb=> ?_,fun b e'=> ?_,fun b hb=>S1.xkeep b ?_⟩,
  ⟨fun i b k n e'=> ?_,fun i j b k k' n n' e1 e2=>W1.inj i j b k k' n n' (live2 e1).1 (live2 e2).1,fun p hp=>let⟨q1,q2⟩:=W1.glob p hp;⟨dom2 _ q1,q2⟩,fun b hb=> ?_⟩,⟨hr1.1,r2 hr1.2⟩,fun p hp=> ?_,fun i hi hn=> ?_⟩
 ·rcases(hup i).1 hm with rfl|rfl<;>simp
 ·by_cases hi:bo=some i
  ·exact .inr (.inl (k2 i hi))
  ·rw[k1 i hi];rcases S1.slots i h0 with e'|e'|⟨b,k,n,rows,q1,q2,q3⟩
   ·exact .inl e'
   ·exact .inr (.inl e')
   ·exact .inr (.inr ⟨b,k,n,rows,q1,q2,fun v hv=>(q3 v hv).conv C2⟩)
 ·have hi:bo≠some i:=fun hi=>hT (by simp[hi]);rw[k1 i hi];exact S1.fix i (fun hm=>hT (by rcases(hup i).1 hm with rfl|rfl<;>simp)) h0
 ·have hne:ι.X b≠ .inn id:=fun e'=>by rw[e']at hb;exact hb (by simp)
  have hns: ¬ ∃x,s=some x/\x.1=b:=fun⟨x,hx,e'⟩=>by rw[<-e',sno x hx]at hb;exact hb
  rw[y2 b (fun h=>h.elim hne hns),<-x1 b hne];refine S1.xs b ?_;rw[x1 b hne];exact gq (fun i hm=>by rcases(hup i).1 hm with rfl|rfl<;>simp) hb
 ·by_cases hc:ι.X b= .inn id\/ ∃x,s=some x/\x.1=b
  ·rw[y1 b hc]at e';cases e'
  ·rw[y2 b hc]at e';have:=S1.xn b e';rw[x1 b (fun e2=>hc (.inl e2))]at this;exact this
 ·by_cases e':ι.X b= .inn id
  ·rw[x0 b e'];trivial
  ·rw[x1 b e'];exact gq (fun i hm=>by rcases(hup i).1 hm with rfl|rfl<;>simp) hb
 ·obtain⟨q1,q2⟩:=live2 e';obtain⟨q3,q4⟩:=W1.lt i b k n q1;refine⟨q3,?_⟩;rw[y2 b ?_];exact q4;rintro(e2|⟨x,hx,rfl⟩)
  ·rw[xi b e2]at q4;cases q4
  ·exact q2 (sb x hx i k n q1)
 ·by_cases hc:ι.X b= .inn id\/ ∃x,s=some x/\x.1=b
  ·rcases hc with e'|⟨x,hx,rfl⟩
   ·exact Dc (W.xlt b (by rw[e'];simp)) S1.size
   ·obtain⟨b',k,n,_,e2,_⟩:=hs2 x hx;exact Dc (W.lt _ _ _ _ e2).1 S1.size
  ·rw[y2 b hc]at hb;exact W1.xlt b hb
 ·have:p.2= .dead\/p=(nx, .slq t e (l++[m]) c'):=by
   have go: ∀bo:Option Nat,p∈(bo.map fun b=>(b,(EO.dead:EO I.C))).toList->p.2= .dead
    |none,h=>by cases h
    |some b,h=>by obtain rfl:=Tc.1 h;rfl
   rcases Jb.1 hp with rfl|hp
   ·exact .inl rfl
   ·exact(Rc.1 hp).imp (go bo) Tc.1
  rcases this with e'|rfl
  ·rw[e'];trivial
  ·refine⟨S++[s],Inn.app (Inn.of z CC fun x hx e'=>⟨y1 _ (.inl e'),S1.xkeep _ (by rw[x0 _ e'];trivial)⟩) ?_ (fun x hx j zz hj=> ?_),?_⟩
   ·cases hse:s with
    |none=>exact hs3 hse
    |some x=>
     obtain⟨b,k,n,hb,e2,h5⟩:=hs2 x hse;obtain⟨ty',h6⟩:=hs0 x hse;have hb':=bnx b hb;exact⟨y1 _ (.inr ⟨x,hse,rfl⟩),⟨ty',S1.shape _ _ h6⟩,h5.les (fun b' e'=>by
      cases e';exact S1.own b x.1 k n (fun hm=>((hup b).1 hm).elim hb'.2.1 hb'.1) e2) (Les.map (fun _ _ h=>h.conv CC) _)⟩
   ·obtain⟨mm,hmm⟩: ∃mm,l[j]? =some mm:=⟨_,Ta (by rw[<-z.1];exact(Ja.1 hj).1)⟩;have:=(z.2.2 j mm _ hmm hj).1;rw[sno x hx]at this;cases this
   ·obtain⟨b,e1,e2⟩:=hu1;exact⟨b,knx.trans e1,e2.les (fun _ _=>rfl) (Les.map (fun _ _ h=>r2 h) _)⟩
 ·have hi2:bo≠some i:=fun e'=>by obtain⟨_,_,k,n,x,e2⟩:=bnx i e';rw[hi]at e2;cases e2
  rw[k1 i hi2];exact hf1 i hi hn
theorem Blk.init{b:Option Nat}{k:Nat}{ty:TypeId->Nat->Prop}{L:List (List (Value->Prop))}{x:List (Value->Prop)}(h:Blk w b k ty (L++[x])):Blk w b k ty L:=by
 refine⟨fun row hr=>h.1 row (jd _ hr),?_⟩;rcases h.2 with⟨_,h⟩|⟨b',cur,fr,ty2,e,h3,h4,h5,h6⟩
 ·simp at h
 ·refine .inr ⟨b',cur,fr,ty2,e,h3,h4,Bb (Vb _ (by simp)) h5,fun i row j p hi hj=>h6 i row j p ?_ hj⟩;rw[Ci (Ja.1 hi).1];exact hi
theorem zNK{L L':List (List (EV I.C))}(h1:L'.length=L.length)(h2: ∀(j:Nat) r r',L[j]? =some r->L'[j]? =some r'->LesC ι w ι' r r'):Les (L.map (·.map (RepV ι w))) (L'.map (·.map (RepV ι' w))):=by refine⟨by simp[h1],fun j x x' hx hx'=> ?_⟩;simp only[Ra,Ma]at hx hx';obtain⟨r,hr,rfl⟩:=hx;obtain⟨r',hr',rfl⟩:=hx';obtain⟨l1,l2⟩:=h2 j r r' hr hr';refine⟨by simp[l1],fun k p p' hp hp' v h1=> ?_⟩;simp only[Ra,Ma]at hp hp';obtain⟨z,hz,rfl⟩:=hp;obtain⟨z',hz',rfl⟩:=hp';exact l2 k z z' hz hz' v h1
theorem zH8{e:Nat}{l:List (List (I.C e))}{S:List (Option (Nat×Nat))}{y y':EV I.C}(hy: ∀v,v.oneCell'=true->RepV ι w y v->RepV ι' w y' v):Les ((af P e l S++[[y]]).map (·.map (RepV ι w))) ((af P e l S++[[y']]).map (·.map (RepV ι' w))):=by
 refine zNK (by simp) fun j r r' hj hj'=> ?_;rw[Ec]at hj hj';split at hj
 ·rename_i hlt;rw[Sa hlt,hj]at hj';cases hj';obtain⟨p,rfl⟩:=ED (ma hj);exact⟨rfl,fun k x y hx hy v _ hv=>by
   rw[hx]at hy;cases hy;cases k with
   |zero=>cases hx;exact hv
   |succ k=>cases hx⟩
 ·rename_i hlt;rw[Oa hlt]at hj';generalize j - (af P e l S).length=n at hj hj';cases n with
  |zero=>
   cases hj;cases hj';exact⟨rfl,fun k x z hx hz v h1 hv=>by
    cases k with
    |zero=>cases hx;cases hz;exact hy v h1 hv
    |succ k=>cases hx⟩
  |succ n=>cases hj
theorem Inn.split{id e:Nat}{l:List (List (I.C e))}{S:List (Option (Nat×Nat))}{m:List (I.C e)}(h:Inn P ι w id e (l++[m]) S): ∃S0 s,S=S0++[s]/\Inn P ι w id e l S0/\(∀x,s=some x-> ∀(j z:Nat),S0[j]? ≠some (some (x.1,z)))/\
  match s with|none=>m=[]|some (b,sz)=>ι.X b= .inn id/\(∃ty,w.shape? b=some (ty,sz))/\Blk w (some b) (P.cellsOf e) (TyOK P e) ((m.map (I.full e)).map (·.map (RepP (Dom ι w) w))):=by
 obtain⟨S0,s,rfl⟩: ∃S0 s,S=S0++[s]:=by
  rcases List.eq_nil_or_concat S with e'|⟨S0,s,e'⟩
  ·have:=h.1;rw[e']at this;simp at this
  ·exact⟨S0,s,by simpa using e'⟩
 have hl:S0.length=l.length:=by have:=h.1;simpa using this
 have left: ∀{α:Type} {L:List α} {a y:α} {j:Nat},L[j]? =some y->(L++[a])[j]? =some y:=fun hj=>by rw[Ci (Ja.1 hj).1];exact hj
 refine⟨S0,s,rfl,⟨hl,fun i j b z z' hi hj=>h.2.1 i j b z z' (left hi) (left hj),fun j m' s' hm hs=>h.2.2 j m' s' (left hm) (left hs)⟩,fun x hx j z hj=> ?_,h.2.2 l.length m s (by simp) (by rw[<-hl];simp)⟩;have:=h.2.1 j S0.length x.1 z x.2 (left hj) (by rw[hx];simp);have h2:=(Ja.1 hj).1;omega
theorem zN9(hI:IpOK P I){t0 t e id:Nat}{l:List (List (I.C e))}{m:List (I.C e)}{c:EV I.C}(hk:kdOf P t0= .sl t)(h1:P.cellsOf t=1)(W:Wf ι w)(hf0:ι nx= .free)(hf1:ι (nx+1)= .free)(hh:Qd P ι w id (.slq t e (l++[m]) c)){vx:Value}(hvx:RepT (I:=I) ι w (.c (.own id)) vx){hi:Option Value}(hb:Bnd hi (some ((l.length+1:Nat):Int))){rd:List Nat}:
  ∃v,(Instr.sliceAt t0 vx none hi none).run P w= .ok v w/\Done P ι w nx ⟨.v (.c (.own nx)),[(id, .dead),(nx, .slq t e l (.own (nx+1))),(nx+1, .sl e m)],rd,2⟩ v w:=by
 obtain⟨S,z,B,b1,b2⟩:=hh;obtain⟨S0,s,rfl,z0,zn,zs⟩:=Inn.split z;have hn:(Zd (.rows t 1 (af P e (l++[m]) (S0++[s])++[[c]]):EO I.C)).length=l.length+2:=by simp[Zd,af,z0.1]
 rw[hn]at b1;have hv:SlAt w B 1 0 (l.length+2) vx:=by have h:SlS ι w (ι id) none vx:=hvx.2;rw[b1]at h;exact h
 obtain⟨a,cp,rfl,hcp⟩: ∃a cp,vx= .slice a (l.length+2) cp/\l.length+2<=cp:=by
  rcases hv with⟨_,e',_⟩|⟨_,cp,_,_,a,_,e',_,e2,_⟩
  ·omega
  ·exact⟨a,cp,e',e2⟩
 obtain⟨r1,r2,r3,r4,r5⟩:=yx (w:=w) hk (by rw[h1];exact Nat.zero_lt_one) (a:=a) hcp (lo:=none) (mx:=none) (l:=none) (m:=none) (.inl ⟨rfl,rfl⟩) hb (.inl ⟨rfl,rfl⟩) (by simp only[Uj,Da,ja];omega);have hcut:=SlAt.cut hv (L:=0) (H:=l.length+1) (M:=cp) (Va _) (by omega) (by omega) (Xa _);have hn0:nx≠id:=fun e'=>by rw[e',b1]at hf0;cases hf0
 have hn1:nx+1≠id:=fun e'=>by rw[e',b1]at hf1;cases hf1
 have dec: ∀b,Decidable (ι.X b= .inn id):=fun _=>Classical.propDecidable _
 let ι2:Asg:=⟨fun i=>if i=id then .dead else if i=nx then .live B 1 (l.length+1)else if i=nx+1 then .live (s.map (·.1)) (P.cellsOf e) m.length else ι i,fun b=>if s.map (·.1)=some b then .no else if ι.X b= .inn id then .inn nx else ι.X b⟩
 have k0:ι2 id= .dead:=Sa rfl;have k1:ι2 nx= .live B 1 (l.length+1):=(Oa hn0).trans (Sa rfl);have k2:ι2 (nx+1)= .live (s.map (·.1)) (P.cellsOf e) m.length:=(Oa hn1).trans ((Oa (by omega)).trans (Sa rfl));have k3: ∀i,i≠id->i≠nx->i≠nx+1->ι2 i=ι i:=fun i q1 q2 q3=>(Oa q1).trans ((Oa q2).trans (Oa q3));have sX: ∀b,s.map (·.1)=some b->ι.X b= .inn id:=fun b e'=>by obtain⟨x,rfl,rfl⟩:=Ma.1 e';exact zs.1
 have y0: ∀b,s.map (·.1)=some b->ι2.X b= .no:=fun b e'=>Sa e';have y1: ∀b,s.map (·.1)≠some b->ι.X b= .inn id->ι2.X b= .inn nx:=fun b e1 e2=>(Oa e1).trans (Sa e2);have y2: ∀b,ι.X b≠ .inn id->ι2.X b=ι.X b:=fun b e2=>(Oa fun e1=>e2 (sX b e1)).trans (Oa e2);have src: ∀{i b k n},ι2 i= .live (some b) k n->(i=nx/\B=some b)\/(i=nx+1/\s.map (·.1)=some b)\/(i≠id/\i≠nx/\i≠nx+1/\ι i= .live (some b) k n):=fun {i b k n} e'=>by
  by_cases q1:i=id
  ·rw[q1,k0]at e';cases e'
  by_cases q2:i=nx
  ·rw[q2,k1]at e';cases e';exact .inl ⟨q2,rfl⟩
  by_cases q3:i=nx+1
  ·rw[q3,k2]at e';injection e' with e';exact .inr (.inl ⟨q3,e'⟩)
  ·exact .inr (.inr ⟨q1,q2,q3,k3 i q1 q2 q3▸e'⟩)
 have hB: ∀b,B=some b->b<w.heap.size/\ι.X b= .no:=fun b e'=>W.lt id b _ _ (e'▸b1);have dom: ∀b,Dom ι w b->Dom ι2 w b:=fun b hb=>by
  have hX:ι.X b≠ .inn id:=fun e'=>by have:=hb.2.1;rw[e']at this;cases this
  refine⟨hb.1,(y2 b hX).trans hb.2.1,fun i k n e'=> ?_⟩;rcases src e' with⟨_,e2⟩|⟨_,e2⟩|⟨_,_,_,e2⟩
  ·exact hb.2.2 id _ _ (e2▸b1)
  ·exact hX (sX b e2)
  ·exact hb.2.2 i k n e2
 have C:Conv ι w ι2 w:=⟨fun _ _ h=>h,dom,fun _ _=>rfl⟩;refine⟨_,r1,ι2,⟨C,rfl,rfl,rfl,Xa _,fun _ _ _ _ _ _=>rfl,fun i h0=> ?_,fun i hT h0=> ?_,fun b hb=> ?_,fun b e'=> ?_,fun _ _=>rfl⟩,⟨fun i b k n e'=> ?_,fun i j b k k' n n' e1 e2=> ?_,fun p hp=>let⟨q1,q2⟩:=W.glob p hp;⟨dom _ q1,q2⟩,fun b hb=> ?_⟩,⟨rfl,?_⟩,fun p hp=> ?_,fun i hi hn=> ?_⟩
 ·by_cases q1:i=id
  ·rw[q1];exact .inr (.inl k0)
  ·exact .inl (k3 i q1 (fun e'=>h0 (by rw[e'];exact hf0)) fun e'=>h0 (by rw[e'];exact hf1))
 ·simp at hT;exact k3 i hT.1 hT.2.1 hT.2.2
 ·exact y2 b fun e'=>by rw[e']at hb;exact hb (by simp)
 ·by_cases q1:s.map (·.1)=some b
  ·rw[y0 b q1]at e';cases e'
  ·by_cases q2:ι.X b= .inn id
   ·rw[y1 b q1 q2]at e';cases e'
   ·rw[y2 b q2]at e';exact e'
 ·rcases src e' with⟨_,e2⟩|⟨_,e2⟩|⟨_,_,_,e2⟩
  ·obtain⟨q1,q2⟩:=hB b e2;exact⟨q1,(y2 b fun e3=>by rw[e3]at q2;cases q2).trans q2⟩
  ·exact⟨W.xlt b (by rw[sX b e2];simp),y0 b e2⟩
  ·obtain⟨q1,q2⟩:=W.lt i b k n e2;exact⟨q1,(y2 b fun e3=>by rw[e3]at q2;cases q2).trans q2⟩
 ·have no: ∀{i k n},ι i= .live (some b) k n->s.map (·.1)≠some b:=fun e3 e4=>by have:=(W.lt _ _ _ _ e3).2;rw[sX b e4]at this;cases this
  rcases src e1 with⟨q1,p1⟩|⟨q1,p1⟩|⟨q1,_,_,p1⟩<;>rcases src e2 with⟨q2,p2⟩|⟨q2,p2⟩|⟨q2,_,_,p2⟩
  ·rw[q1,q2]
  ·exact absurd p2 (no (p1▸b1))
  ·exact absurd (W.inj _ _ _ _ _ _ _ p2 (p1▸b1)) q2
  ·exact absurd p1 (no (p2▸b1))
  ·rw[q1,q2]
  ·exact absurd p1 (no p2)
  ·exact absurd (W.inj _ _ _ _ _ _ _ p1 (p2▸b1)) q1
  ·exact absurd p2 (no p1)
  ·exact W.inj _ _ _ _ _ _ _ p1 p2
 ·by_cases q2:ι.X b= .inn id
  ·exact W.xlt b (by rw[q2];simp)
  ·rw[y2 b q2]at hb;exact W.xlt b hb
 ·show SlS ι2 w (ι2 nx) none _;rw[k1];have:=hcut;simp only[h1,Nat.sub_zero]at this;simpa [h1] using (show SlS ι2 w (.live B 1 (l.length+1)) none _ from this)
 ·simp only[Jb,Pe,or_false]at hp;rcases hp with rfl|rfl|rfl
  ·trivial
  ·refine⟨S0,Inn.of z0 C fun x hx e'=>⟨y1 _ (fun e2=> ?_) e',rfl⟩,B,by rw[k1];simp[kE,Zd,af,z0.1],?_⟩
   ·obtain⟨y,q1,q2⟩:=Ma.1 e2;obtain⟨j,hj⟩:=List.getElem?_of_mem hx;exact zn y q1 j x.2 (by rw[hj,q2])
   ·have b3:Blk w B 1 (TyOK P t) (List.map (List.map (RepV ι w)) (af P e l S0++[[(.prd (slP (P.cellsOf e) m.length s):EV I.C)]])):=by rw[<-wY z0.1];refine Blk.init (x:=[RepV ι w c]) ?_;have:=b2;simp only[Zd,ae]at this;exact this
    refine b3.les (fun _ _=>rfl) (zH8 fun v _ hv=> ?_);show SlS ι2 w (ι2 (nx+1)) none v;rw[k2];exact(BN rfl fun x e'=>by subst e';exact zs.2.1).2 hv
  ·refine(Zo rfl).2 ⟨s.map (·.1),by rw[k2];simp[kE,Zd],?_⟩;cases s with
   |none=> have zs:m=[]:=zs;subst zs;exact⟨fun row hr=>(by simp[Zd]at hr), .inl ⟨rfl,rfl⟩⟩
   |some x=>exact(zs.2.2.les (fun _ _=>rfl) (Les.map (fun _ _ h=>h.conv C) _)).les (fun _ _=>rfl) (RY hI m).2
 ·have hn:i<nx\/nx+2<=i:=hn;rw[k3 i (fun e'=>by rw[e',b1]at hi;cases hi) (by omega) (by omega)];exact hi
theorem zLz{t e id n:Nat}{l:List (I.C e)}(hk:kdOf P t= .sl e)(hs:0<P.cellsOf e)(W:Wf ι w)(hf:ι nx= .free)(hh:Qd P ι w id (.sl e l)){vx:Value}(hvx:RepT (I:=I) ι w (.c (.own id)) vx){hi:Option Value}(hb:Bnd hi (some (n:Int)))(hn:n<=l.length){rd:List Nat}:
  ∃v,(Instr.sliceAt t vx none hi none).run P w= .ok v w/\Done P ι w nx ⟨.v (.c (.own nx)),[(id, .dead),(nx, .sl e (l.take n))],rd,1⟩ v w:=by
 obtain⟨B,b1,b2,b3,b4⟩:=base_of ((Zo rfl).1 hh) hvx;have hl:(Zd (.sl e l:EO I.C)).length=l.length:=by simp[Zd]
 rw[hl]at b1 b2 b4;obtain⟨a,cp,rfl,hcp⟩: ∃a cp,vx= .slice a l.length cp/\l.length<=cp:=by
  rcases b2 with⟨_,e',rfl⟩|⟨_,cp,_,_,a,_,e',_,e2,_⟩
  ·exact⟨none,0,by rw[e'],by omega⟩
  ·exact⟨a,cp,e',e2⟩
 obtain⟨r1,r2,r3,r4,r5⟩:=yx (w:=w) hk hs (a:=a) hcp (lo:=none) (mx:=none) (l:=none) (m:=none) (.inl ⟨rfl,rfl⟩) hb (.inl ⟨rfl,rfl⟩) (by simp only[Uj,Da,ja];omega);have hcut:=SlAt.cut b2 (L:=0) (H:=n) (M:=cp) (Va _) hn (by omega) (Xa _);refine⟨_,r1,Done.put (b:=B) (B:=fun _=>False) (o:= .sl e (l.take n)) W hf rfl (.refl w) (some id) (fun _ e'=>by cases e';rw[b1];simp) (fun b' e'=> .inr ⟨id,_,_,rfl,by rw[b1,e']⟩) (fun _ h=>h.elim) (fun T ι' S=> ?_) fun T ι' S e'=>dm e' ?_⟩
 ·cases B with
  |none=>
   rcases b2 with⟨_,e',_⟩|⟨_,_,_,_,_,e',_⟩
   ·obtain rfl:l=[]:=ib e';exact⟨fun row hr=>(by simp[Zd]at hr), .inl ⟨rfl,by simp[Zd]⟩⟩
   ·cases e'
  |some b'=>
   obtain⟨cur,fr,ty2,g1,g2,g3,g4⟩:=b4 b' rfl;refine qD.blk S (cur:=cur) (fr:=fr) ⟨fun row hr=>g3.1 row ?_,fun i row j x hi hj=>g3.2 i row j x ?_ hj⟩ g1 g2 (Bb (Vb _ (by simp[Zd];omega)) g4)
   ·simp only[Zd,Bf]at hr;exact List.mem_of_mem_take hr
   ·simp only[Zd,Bf,Uc]at hi;split at hi
    ·exact hi
    ·cases hi
 ·have:(Zd (.sl e (l.take n):EO I.C)).length=n:=by simp[Zd];omega
  rw[this];show SlAt w B (P.cellsOf e) 0 n _;have hc:SlAt w B (P.cellsOf e) 0 (n - 0) _:=hcut;simpa using hc
theorem zIt(hI:IpOK P I)(hT:TOK P T fk){t:Nat}{x:ET I.C}{l hh m:Option Int}(hg:q=[]->g=true)(h0:xM T nx h t x l hh m q K=some r0):
  OpD P g h nx K r0 fun ι w s=> ∃vx lo hi mx,RepT ι w x vx/\Bnd lo l/\Bnd hi hh/\Bnd mx m/\s=Instr.sliceAt t vx lo hi mx:=by
 unfold xM at h0;split at h0
 case h_2=>cases h0
 rename_i e id n hk;have hk:=QR hT hk (by simp);have hg': ∀{α:Prop},g=false->α:=fun e=>by rw[hg rfl]at e;cases e
 have nil: ∀{v:Option Value},Bnd v none->v=none:=fun h=>by rcases h with⟨e,_⟩|⟨_,_,_,e⟩<;>first|exact e|cases e
 split at h0
 ·rename_i u l hid;obtain⟨hc,h9⟩:=Zb h0;clear h0;simp only[Da]at hc;obtain rfl:=La hc.1;obtain⟨hn,h8⟩:=Z8 h9;clear h9;simp only[Da,ja]at hn;obtain⟨n,rfl⟩:=uf hn.1;refine opd h8 hg' fun _ ι w s W hd hf ⟨vx,lo,hi,mx,hx,b1,b2,b3,es⟩=> ?_;obtain rfl:=nil b1;obtain rfl:=nil b3;obtain⟨v,r1,r2⟩:=zLz hk (yg hT hc.2).2 W (fr0 hf) (hd.2 id (by simp) _ hid) hx b2 (by omega);exact⟨v,w,es▸r1,r2⟩
 ·rename_i u e' l c hid;obtain⟨hc,h9⟩:=Zb h0;clear h0;simp only[Da]at hc;obtain rfl:=La hc.1;obtain⟨m,hm,h8⟩:=Ka.1 h9;obtain⟨hn,h7⟩:=Z8 h8;clear h9 h8;have hn:=Ib hn;have hl:l=l.dropLast++[m]:=by obtain⟨l',rfl⟩:=List.getLast?_eq_some_iff.1 hm;simp
  have hs:=yg hT (by rw[La hc.2];rfl);refine opd h7 hg' fun _ ι w s W hd hf ⟨vx,lo,hi,mx,hx,b1,b2,b3,es⟩=> ?_;obtain rfl:=nil b1;obtain rfl:=nil b3;obtain⟨v,r1,r2⟩:=zN9 hI hk (hs.1.symm.trans (La hc.2)) W (hf 0 (by omega)) (hf 1 (by omega)) (l:=l.dropLast) (m:=m) (c:=c) (by rw[<-hl];exact hd.2 id (by simp) _ hid) hx (by
   have:((l.dropLast.length+1:Nat):Int)=n:=by rw[hn];have:=congrArg List.length hl;simp only[Na,Mc]at this;omega
   rw[this];exact b2)
  exact⟨v,w,es▸r1,r2⟩
 ·cases h0
theorem zJT(hT:TOK P T fk){t:Nat}{l c:ET I.C}(hg:q=[]->g=true)(h0:TM T nx t l c q K=some r0):OpD P g h nx K r0 fun ι w s=> ∃vl vc,RepT ι w l vl/\RepT ι w c vc/\s=Instr.makeSlice t vl vc:=by
 unfold TM at h0;split at h0
 case h_2=>cases h0
 rename_i e kl l kc c hk;split at h0
 case h_2=>cases h0
 rename_i e' hke hz0;obtain⟨hh,h9⟩:=Zb h0;clear h0;simp only[Da]at hh;obtain⟨⟨h1,h2⟩,h3⟩:=hh;have h1:=La h1;have h3:=Gc h3;obtain⟨s1,s2⟩:=yg hT (by rw[h1];rfl);have hk1:P.cellsOf e=1:=s1.symm.trans h1;obtain⟨i,z,hi,hz,hs,hz1,hz2⟩:=Tn hT h2;obtain⟨hb,h8⟩:=Z8 h9;clear h9;simp only[Da,ja]at hb;obtain⟨rfl,rfl⟩:=hb;refine opd h8 (fun e=>by rw[hg rfl]at e;cases e) fun _ ι w s W _ hf ⟨vl,vc,hl,hc,es⟩=> ?_;obtain rfl:=Zf rfl hl;obtain rfl:=Zf rfl hc;have hby:i.bytes=(T.at e).by_:=by rw[Xi hT (.inr (.inl h2))];exact Vy hi
 have hrun:=run_make (P:=P) w t e i z (mg (QR hT hk (by simp))) hi hz kl kc 1 1 (by omega) (by omega) (by rw[hby];omega) (by omega);obtain⟨zl,hX⟩:=KJ (I:=I) (ι:=ι) (w:=w) hs s2 hz1 1;have hzz:(List.replicate 1 (zeroE z.cells.toList:List (EV I.C))).flatten=[.nil]:=by rw[<-hz2,hz0];rfl
 rw[hzz]at hX;simp only[show(1:Int).toNat=1 from rfl,Yu hi]at hrun;obtain⟨ι',S,W',hr,hu,hfr⟩:=Done.grow (P:=P) (nx:=nx) (o:= .rows e 1 [[.nil]]) (cur:=madeCells z.cells (1*P.cellsOf e)) (fr:=(0,0)) (rd:=[]) (val:= .v (.c (.own nx))) (v:= .slice (some ⟨w.heap.size,0,none⟩) 1 1) W (fr0 hf) rfl (Em w _) (.inl rfl) (hX.cells rfl) (by show 1*1<=(madeCells z.cells (1*P.cellsOf e)).size;rw[size_madeCells,hk1];exact Xa _) none (by simp) fun _ ι' _ e'=>dm e' (by
  simp only[Zd,kE,Mc];exact EA (t:=e) (fr:=(0,0)) (cur:=madeCells z.cells (1*P.cellsOf e)) (Em w _).new (Xa _) (by unfold maxLen;omega) (by rw[size_madeCells,hk1];exact Xa _))
 refine⟨_,_,es▸hrun,ι',S,W',hr,fun p hp=> ?_,hfr⟩;obtain rfl:=Tc.1 hp;exact⟨[],⟨rfl,fun i j b z z' h=>(by simp at h),fun j m s h=>(by simp at h)⟩,(Zo rfl).1 (hu (nx, .rows e 1 [[.nil]]) (by simp[upK]))⟩
end
section
variable {I:Ip} {P:Program} {T:TT} {fk:List (Nat×List Kd)} {ι:Asg} {w w':World} {h:Nat->Option (EO I.C)} {nx:Nat} {R:Type} {r0:R} {q:Path} {g:Bool} {K:Kt I R}
theorem nC{id e:Nat}{l:List (I.C e)}(W:Wf ι w)(hh:Cg P ι w id (.sl e l)){vs:Value}(hv:RepT (I:=I) ι w (.c (.own id)) vs): ∃b,ι id= .live b (P.cellsOf e) l.length/\SlAt w b (P.cellsOf e) 0 l.length vs/\Src P ι w (P.cellsOf e) (l.map (I.exp e)) vs/\
  ∀b',b=some b'-> ∃cur fr ty2,w.heap[b']? =some (.cells cur ty2 fr)/\FT (TyOK P e) ty2 fr cur.size/\qD ι w (P.cellsOf e) (l.map (I.exp e)) cur/\(l.map (I.exp e)).length*P.cellsOf e<=cur.size:=by
 have S:=Src.all hh hv.2;obtain⟨b,h1,h2,h3⟩:=hh;have hl:(Zd (.sl e l:EO I.C)).length=l.length:=Fb ..;rw[hl]at h1;have hv:SlS ι w (ι id) none vs:=hv.2;rw[h1]at hv;refine⟨b,h1,hv,S,fun b' e'=> ?_⟩;rcases h3 with⟨h3,_⟩|⟨b2,cur,fr,ty2,h4,h5,h6,h7,h8⟩
 ·rw[h3]at e';cases e'
 ·rw[h4]at e';cases e';exact⟨cur,fr,ty2,h5,h6,⟨fun row hr=>(by simpa using h2 (row.map (RepV ι w)) (Nb.2 ⟨row,hr,rfl⟩):row.length=kE P (.sl e l:EO I.C)),fun i row j x hi hj=>h8 i (row.map (RepV ι w)) j _ (by rw[Ra];exact congrArg (Option.map _) hi) (by simp[hj])⟩,(by simpa [Zd] using h7:(l.map (I.exp e)).length*kE P (.sl e l:EO I.C)<=cur.size)⟩
theorem aP {ts tx ty e id:Nat} {l:List (I.C e)} {o:EO I.C} {R1:List (List (EV I.C))} (hk:kdOf P ts= .sl e) (hkx:Vi (kdOf P tx)) (hz:(ti P e).zok=true) (W:Wf ι w) (hf:ι nx= .free) (hh:Qd P ι w id (.sl e l)) (ho:isR o=true) (h1:kE P o=P.cellsOf e) (h2:tyE o=e) (h3:Zd o=l.map (I.exp e)++R1)
  {vs vx:Value} (hvs:RepT (I:=I) ι w (.c (.own id)) vs) (hS:Src P ι w (P.cellsOf e) R1 vx) (a2:l.length+R1.length<=maxLen) (a1:(l.length+R1.length)*(ti P e).by_<=140737488355328) {rd:List Nat}:
  ∃v w',(Builtin.append_ #[ts,tx] ty #[vs,vx]).run P w= .ok v w'/\Done P ι w nx ⟨.v (.c (.own nx)),[(id, .dead),(nx,o)],rd,1⟩ v w':=by
 obtain⟨b,b1,b2,b3,b4⟩:=nC W ((Zo rfl).1 hh) hvs;have hl:(l.map (I.exp e)).length=l.length:=Fb ..;refine XJ (R0:=l.map (I.exp e)) (b:=b) hk hkx hz ho h1 h2 h3 hS W hf (some id) (fun _ e=>by cases e;rw[b1];simp) (by rw[hl];exact a2) (by rw[hl];exact a1) (by rw[hl];exact b2) b3 fun b' e'=> ?_;obtain⟨cur,fr,ty2,g1,g2,g3,g4⟩:=b4 b' e';exact⟨id,cur,fr,ty2,rfl,by rw[b1,e',hl],g1,g2,g3,g4⟩
theorem Uu{n m by_:Nat}(hb:1<=by_)(h:ZB n m by_=true):(n+m)*by_<=140737488355328/\n+m<=maxLen:=by have h1:=Ib h;have:n+m<=(n+m)*by_:=Nat.le_mul_of_pos_right _ hb;exact⟨h1,by unfold maxLen;omega⟩
theorem zEr(hI:IpOK P I)(hT:TOK P T fk){ts tx:Nat}(ty:Nat){s x:ET I.C}(hg:q=[]->g=true)(h0:yO T h nx ts tx s x q K=some r0):
  OpD P g h nx K r0 fun ι w z=> ∃vs vx,RepT ι w s vs/\RepT ι w x vx/\z=Builtin.append_ #[ts,tx] ty #[vs,vx]:=by
 unfold yO at h0;split at h0
 case h_2=>cases h0
 rename_i e hk;have hk:=QR hT hk (by simp);have pre:Nat.ble 1 (T.at e).sz=true/\Nat.ble 1 (T.at e).by_=true/\(T.at e).zok=true:=by
  split at h0<;>obtain⟨hh,_⟩:=Zb h0<;>simp only[Da]at hh
  ·exact⟨hh.1.1.1,hh.1.1.2,hh.1.2⟩
  ·exact⟨hh.1.1,hh.1.2,hh.2⟩
 obtain⟨p1,p2,p3⟩:=pre;have p2:=Gc p2;have hti:=Xi hT (.inr (.inl p3));obtain⟨s1,s2⟩:=yg hT p1;have hz:(ti P e).zok=true:=by rw[<-hti];exact p3
 have hg': ∀{α:Prop},g=false->α:=fun e=>by rw[hg rfl]at e;cases e
 -- onto nil
 have onNil: ∀{o:EO I.C} {R1:List (List (EV I.C))} {rd:List Nat},K ⟨.v (.c (.own nx)),[(nx,o)],rd,1⟩=some r0->isR o=true->kE P o=P.cellsOf e->tyE o=e->Zd o=R1->ZB 0 R1.length (T.at e).by_=true->Vi (kdOf P tx)->
   (∀ι w v,Hd P h rd ι w->RepT ι w x v->Src P ι w (P.cellsOf e) R1 v)->OpD P g h nx K r0 fun ι w z=> ∃vs vx,RepT (I:=I) ι w (.c .nil) vs/\RepT ι w x vx/\z=Builtin.append_ #[ts,tx] ty #[vs,vx]:=by
  intro o R1 rd hK ho h1 h2 h3 hap hkx hS;obtain⟨a1,a2⟩:=Uu p2 hap;refine opd hK hg' fun _ ι w z W hd hf ⟨vs,vx,hvs,hvx,es⟩=> ?_;obtain rfl:=Zf rfl hvs;subst es;exact XJ (R0:=[]) (b:=none) hk hkx hz ho h1 h2 h3 (hS ι w vx (hd.mono fun i hi=>jd _ hi) hvx) W (fr0 hf) none (by simp) (by simpa using a2) (by rw[<-hti];simpa using a1) (.inl ⟨rfl,rfl,rfl⟩) .nil (by simp)
 have onOwn: ∀{id:Nat} {l:List (I.C e)} {o:EO I.C} {R1:List (List (EV I.C))} {rd:List Nat},K ⟨.v (.c (.own nx)),[(id, .dead),(nx,o)],rd,1⟩=some r0->h id=some (.sl e l)->isR o=true->kE P o=P.cellsOf e->tyE o=e->Zd o=l.map (I.exp e)++R1->ZB l.length R1.length (T.at e).by_=true->Vi (kdOf P tx)->
   (∀ι w v,Hd P h rd ι w->RepT ι w x v->Src P ι w (P.cellsOf e) R1 v)->OpD P g h nx K r0 fun ι w z=> ∃vs vx,RepT (I:=I) ι w (.c (.own id)) vs/\RepT ι w x vx/\z=Builtin.append_ #[ts,tx] ty #[vs,vx]:=by
  intro id l o R1 rd hK hid ho h1 h2 h3 hap hkx hS;obtain⟨a1,a2⟩:=Uu p2 hap;refine opd hK hg' fun _ ι w z W hd hf ⟨vs,vx,hvs,hvx,es⟩=> ?_;subst es;exact aP hk hkx hz W (fr0 hf) (hd.2 id (by simp) _ hid) ho h1 h2 h3 hvs (hS ι w vx (hd.mono fun i hi=>jd _ hi) hvx) a2 (by rw[<-hti];exact a1)
 -- onto a slice that is full
 have onFull: ∀{l new:List (I.C e)} {rd:List Nat},K ⟨.v (.c (.sl e (l++new))),[],rd,1⟩=some r0->ZB l.length new.length (T.at e).by_=true->Vi (kdOf P tx)->
   (∀ι w v,Hd P h rd ι w->RepT ι w x v->Src P ι w (P.cellsOf e) (new.map (I.exp e)) v)->OpD P g h nx K r0 fun ι w z=> ∃vs vx,RepT (I:=I) ι w (.c (.fsl e l)) vs/\RepT ι w x vx/\z=Builtin.append_ #[ts,tx] ty #[vs,vx]:=by
  intro l new rd hK ha hkx hS;obtain⟨a1,a2⟩:=Uu p2 ha;refine opd hK hg' fun _ ι w z W hd hf ⟨vs,vx,⟨_,hvs,a,n,hvs'⟩,hvx,es⟩=> ?_;subst hvs';subst es;have S1:=hS ι w vx (hd.mono fun i hi=>by simp[hi]) hvx;have S0:=Src.froz hI hvs;obtain rfl:n=l.length:=by cases hvs with|sl _ _ _ _ _ _ _ _ hn=>rw[hn,Fb]
  have hl:(l.map (I.exp e)).length=l.length:=Fb ..;have hl1:(new.map (I.exp e)).length=new.length:=Fb ..;obtain⟨i,z,hi,hz0,hzs,hz1,hz2⟩:=Uw hz;by_cases hn0:new.length=0
  ·obtain rfl:=ib hn0;obtain⟨cs1,l1,_,_,hrun⟩:=SK (ty:=ty) (a:=a) (n:=l.length) (c:=l.length) (mg hk) hkx hi S1 (by simp);obtain rfl:=ib (by rw[l1];simp:cs1.length=0);refine⟨.slice a l.length l.length,w,?_, .same W ⟨rfl,by rw[Yb];exact hvs⟩⟩;rw[hrun];cases a<;>simp[storeCells]
  ·rw[<-hl]at S0;obtain⟨cs0,cs1,l0,l1,c0,c1,hrun⟩:=aK (ty:=ty) (mg hk) hkx hi hz0 S0 S1 (by rw[hl,hl1];omega) (by rw[hl,hl1];exact a2) (by rw[hl,hl1,Vy hi];rw[hti]at a1;exact a1);rw[hl,hl1]at hrun;have hge:=grownCap_ge w (l.length+new.length) l.length e;generalize grownCap w (l.length+new.length) l.length e=c2 at*;refine⟨_,_,hrun,?_⟩;have:=Done.froze (nx:=nx) (rd:=rd) (k:=1) (l:=l++new) (c:=c2) (cur:=cs0.toArray++cs1.toArray++Builtin.zeroCells z.cells (c2 - (l.length+new.length))) (w':=w.drew.alloc (.cells (cs0.toArray++cs1.toArray++Builtin.zeroCells z.cells (c2 - (l.length+new.length))) e)) hI W ⟨rfl,rfl,rfl,rfl⟩ (by
    rw[ae];refine .app c0.1 c1.1 (fun i row j x hi hj=> ?_) (c1.at_app (by simp[l0]));obtain⟨v,a1,a2⟩:=c0.2 i row j x hi hj;have:=(Lb.1 a1).1;exact⟨v,by rw[df,Sd,Sa this];exact a1,a2⟩) (by rw[Na];exact hge)
   rw[Na]at this;exact this
 split at h0
 ·rename_i z hz';obtain⟨hh,h0⟩:=Zb h0;simp only[Da]at hh;have hlen:=La hh.2;rw[s1]at hlen;obtain⟨zid,l1,cs,l2⟩:=z;obtain⟨hkx,hS,hxz,hzid⟩:Vi (kdOf P tx)/\(∀rd,zid∈rd-> ∀ι w v,Hd P h rd ι w->RepT ι w x v->Src P ι w (P.cellsOf e) (Zd (.slo e l1 cs l2:EO I.C)) v)/\x= .c (.own zid)/\h zid=some (.slo e l1 cs l2):=by
   generalize hkx:(T.at tx).kd=kx at hz';unfold sloE at hz';split at hz'
   case h_2=>cases hz'
   have hkx:=QR hT hkx (by simp);split at hz'
   case h_2=>cases hz'
   rename_i hid;split at hz'
   case h_2=>cases hz'
   rename_i c1 c2;obtain⟨rfl,c1⟩:=qi c1;cases c1;obtain⟨_,c2⟩:=qi c2;cases c2;cases hz';exact⟨by rw[hkx];trivial,fun rd hrd ι w v hd hv=>Src.all ((Zo rfl).1 (hd.2 _ hrd _ hid)) hv.2,rfl,hid⟩
  have hRl:(Zd (.slo e l1 cs l2:EO I.C)).length=l1.length+1+l2.length:=by simp[Zd];omega
  unfold AX at h0;split at h0
  ·obtain⟨ha,h0⟩:=Z8 h0;exact onNil h0 rfl rfl rfl rfl (by rw[hRl];exact ha) hkx (hS _ (by simp))
  ·split at h0
   case h_3=>cases h0
   ·rename_i hid;split at h0
    case h_2=>cases h0
    rename_i c1;obtain⟨rfl,c1⟩:=qi c1;cases c1;obtain⟨ha,h0⟩:=Z8 h0;exact onOwn h0 hid rfl rfl rfl (by simp[Zd]) (by rw[hRl];exact ha) hkx (hS _ (by simp))
   ·rename_i u e' l c hid;obtain⟨hu,h9⟩:=Zb h0;clear h0;obtain rfl:=La hu;split at h9
    case h_2=>cases h9
    rename_i zid' c' he;cases he;have h1:P.cellsOf u=1:=hlen.symm;unfold LU at h9;split at h9
    case h_3=>cases h9
    ·rename_i b;split at h9
     case h_2=>cases h9
     rename_i hb;split at h9
     case h_2=>cases h9
     rename_i c1;obtain⟨rfl,c1⟩:=qi c1;cases c1;obtain⟨ha,h8⟩:=Z8 h9;obtain⟨a1,a2⟩:=Uu p2 ha;refine opd h8 hg' fun _ ι w z W hd hf ⟨vs,vx,hvs,hvx,es⟩=> ?_;rw[es];exact MW hI hk hkx hz h1 W (fr0 hf) (hd.2 _ (by simp) _ hid) (bo:=some b) (fun b' e=>by
      cases e;exact⟨fun e=>(by have h2:=hb;rw[e,hid]at h2;cases h2),rfl,hd.2 _ (by simp) _ hb⟩) (fun e=>by cases e) hvs (hd.2 zid (by simp) _ hzid) (by rw[<-hxz];exact hvx) a2 (by rw[<-hti];exact a1)
    ·obtain⟨ha,h8⟩:=Z8 h9;obtain⟨a1,a2⟩:=Uu p2 ha;refine opd h8 hg' fun _ ι w z W hd hf ⟨vs,vx,hvs,hvx,es⟩=> ?_;rw[es];exact MW hI hk hkx hz h1 W (fr0 hf) (hd.2 _ (by simp) _ hid) (bo:=none) (fun b' e=>by cases e) (fun _=>⟨rfl,rfl⟩) hvs (hd.2 zid (by simp) _ hzid) (by rw[<-hxz];exact hvx) a2 (by rw[<-hti];exact a1)
  ·cases h0
 ·obtain⟨_,h0⟩:=Zb h0;split at h0
  case h_2=>cases h0
  rename_i new rd ok hsrc;split at h0
  ·obtain⟨hok,h0⟩:=Z8 h0;obtain⟨ha,h0⟩:=Z8 h0;obtain⟨hkx,hS⟩:=Ut hI hT p1 hsrc hok;exact onNil h0 rfl rfl rfl rfl (by show ZB 0 (new.map (I.exp e)).length _=true;rw[Fb];exact ha) hkx fun ι w v hd hv=>hS hd hv
  ·split at h0
   case h_2=>cases h0
   rename_i hid;split at h0
   case h_2=>cases h0
   rename_i c1;obtain⟨rfl,c1⟩:=qi c1;cases c1;obtain⟨hok,h0⟩:=Z8 h0;obtain⟨ha,h0⟩:=Z8 h0;obtain⟨hkx,hS⟩:=Ut hI hT p1 hsrc hok;exact onOwn h0 hid rfl rfl rfl (by simp[Zd]) (by rw[Fb];exact ha) hkx fun ι w v hd hv=>hS (hd.mono fun i hi=>by simp[hi]) hv
  ·split at h0
   case h_2=>cases h0
   rename_i c1 _ _;obtain⟨rfl,c1⟩:=qi c1;cases c1;obtain⟨hok,h0⟩:=Z8 h0;obtain⟨ha,h0⟩:=Z8 h0;obtain⟨hkx,hS⟩:=Ut hI hT p1 hsrc hok;exact onFull h0 ha hkx fun ι w v hd hv=>hS hd hv
  ·cases h0
theorem PD{e:Nat}(hI:IpOK P I)(hk:P.cellsOf e=1){l:List (I.C e)}{bs:List UInt8}(hb:l.map (I.full e)=bs.map fun b=>[.at (.int .u8 b.toNat)]){a:Option Addr}{n c:Nat}(hs:Src P ι w (P.cellsOf e) (l.map (I.exp e)) (.slice a n c)):
  (Conv.bytesToString (.slice a n c)).run P w= .ok (.string ⟨bs.toArray⟩) w:=by
 obtain⟨cs,h1,h2,_,h4⟩:=hs;obtain⟨h5,h6⟩:=h4 w rfl;have hlen:l.length=bs.length:=by have:=congrArg List.length hb;simpa using this
 simp[Builtin.lenOf]at h5;subst h5;rw[hlen]at h6 ⊢;have hcs:cs=(bs.map fun b=>(b.toNat:Int)).map (Value.int .u8):=by
  apply List.ext_getElem?;intro i;rw[Fb,hlen]at h1;by_cases hi:i<bs.length
  ·obtain⟨y,hy⟩: ∃y,l[i]? =some y:=⟨_,Ta (by omega)⟩;have hf:=congrArg (·[i]?) hb;simp only[Ra,hy,Ta hi,Cc,Option.some.injEq]at hf;obtain⟨z,hz⟩: ∃z,(I.exp e y)[0]? =some z:=⟨_,Ta (by rw[Al hI,hk];omega)⟩;obtain⟨q1,q2⟩:=Gq hI hz;rw[hf]at q1;obtain⟨v,a1,_,a2⟩:=h2.2 i _ 0 z (by rw[Ra,hy];rfl) hz;rw[hk,Yg,Nc,Mg]at a1;have a2:=(uh q2).1 a2;rw[show pvE I z= .at (.int .u8 bs[i].toNat) by simpa using q1.symm]at a2;cases a2;simp[a1,hi]
  ·rw[Ng (by rw[h1,hk];omega),Ng (by simp;omega)]
 have hbs:(bs.map fun b=>(b.toNat:Int)).map (fun n=>UInt8.ofNat n.toNat)=bs:=by simp[Function.comp_def]
 cases a with
 |none=>
  simp only[Builtin.firstCells,Sem.run_pure,Result.ok.injEq,and_true]at h6;have hn:bs=[]:=by have:=congrArg Array.size h6;rw[hcs]at this;simp at this;first|exact this|exact ib this.symm
  subst hn;rfl
 |some a=> rw[hk,hcs]at h6;simp only[Builtin.firstCells,Yg,Fb,hlen]at h6 ⊢;rw[run_bytesToString w a bs.length c _ h6,PZ,hbs];simp
theorem zEU(hI:IpOK P I){e:Nat}{x:ET I.C}{bs:List UInt8}{rd:List Nat}{ok:Bool}(h0:wI e h x=some (bs,rd,ok))(hok:ok=true){v:Value}(hd:Hd P h rd ι w)(hv:RepT ι w x v): ∃a n c,v= .slice a n c/\(Conv.bytesToString v).run P w= .ok (.string ⟨bs.toArray⟩) w:=by
 unfold wI at h0;split at h0
 ·cases h0
 rename_i p hp;obtain⟨_,b2,_⟩:=hI.byt e p hp;split at h0
 ·cases h0;obtain rfl:=Zf rfl hv;exact⟨_,_,_,rfl,rfl⟩
 ·split at h0<;>cases h0;rename_i hc;obtain⟨rfl,hc⟩:=qi hc;cases hc;have S:=Src.froz hI hv.2;obtain⟨_,hv⟩:=hv;cases hv with|sl=>exact⟨_,_,_,rfl,PD hI (kw hI hp) (b2 _) S⟩
 ·split at h0
  case h_2=>cases h0
  rename_i hid;split at h0<;>cases h0;rename_i hc;obtain⟨rfl,hc⟩:=qi hc;cases hc;have hh:=(Zo rfl).1 (hd.2 _ (by simp) _ hid);have S:=Src.all hh hv.2;have hh':=hh;obtain⟨b,h1,_⟩:=hh';obtain⟨a,c,rfl⟩:=Jq h1 hv.2;exact⟨_,_,_,rfl,PD hI (kw hI hp) (b2 _) S⟩
 ·split at h0
  case h_2=>cases h0
  rename_i hid;split at h0<;>cases h0;rename_i off n _ _ l _ _ hc;obtain⟨rfl,hc⟩:=qi hc;cases hc;have hh:=(Zo rfl).1 (hd.2 _ (by simp) _ hid);have hh':=hh;obtain⟨b,h1,_⟩:=hh';have hv':SlS ι w _ (some _) v:=hv.2;rw[h1]at hv';have S:=Src.own hh (by simpa [Zd] using Ib hok) h1 hv';obtain⟨a,c,rfl⟩:=Jq h1 hv.2;refine⟨_,_,_,rfl,PD hI (kw hI hp) (l:=(l.drop off).take n) (by rw[Bf,List.map_drop,b2,<-List.map_drop,<-Bf]) (by rw[Bf,List.map_drop];exact S)⟩
 ·cases h0
theorem zJc(hI:IpOK P I)(hT:TOK P T fk){src dst:Nat}{x:ET I.C}(hg:q=[]->g=true)(h0:nM T h nx src dst x q g K=some r0):OpD P g h nx K r0 fun ι w s=> ∃v,RepT ι w x v/\s=convert src dst v:=by
 have hg':q=[]-> ∀{α:Prop},g=false->α:=fun h _ e=>by rw[hg h]at e;cases e
 unfold nM at h0;split at h0
 ·rename_i k k' n hk;split at h0
  ·cases h0
  rename_i hb;obtain⟨d,hd⟩:=Aq (show kdOf P src≠ .bad by rw[QR hT rfl hb];exact hb);refine(opv h0 fun _ ι w s _ ⟨v,hv,es⟩=>⟨_,?_,Q7 _ _⟩).opd;obtain rfl:=Zf rfl hv;subst es;cases d<;>simp[convert,run_underlying hd,run_underlying (Ps (QR hT hk (by simp))),Conv.intToInt]
 ·rename_i l hk;split at h0
  ·cases h0
  rename_i hb;obtain⟨d,hd⟩:=Aq (show kdOf P src≠ .bad by rw[QR hT rfl hb];exact hb);refine(opv h0 fun _ ι w s _ ⟨v,hv,es⟩=>⟨_,?_,OB _⟩).opd;obtain rfl:=Zf rfl hv;subst es;cases d<;>simp[convert,run_underlying hd,run_underlying (Um (QR hT hk (by simp)))]
 ·rename_i e l hk;split at h0
  case h_2=>cases h0
  rename_i p hp hks;obtain⟨_,h0⟩:=Zb h0;obtain⟨hm,h0⟩:=Z8 h0;have hm:=Ib hm;obtain⟨q1,q2,q3⟩:=hI.byt e p hp;refine opd h0 (hg' rfl) fun _ ι w s W _ hf ⟨v,hv,es⟩=> ?_;obtain rfl:=Zf rfl hv;refine⟨_,_,es▸Lib.run_convert_string_bytes w src dst e ⟨l.toArray⟩ (Um (QR hT hks (by simp))) (mg (QR hT hk (by simp))) (Ps q3),?_⟩;obtain⟨cs,c1,c2,_,c4⟩:=Src.str (P:=P) (ι:=ι) (w:=w) hI hp l;have hlen:(p.1 l).length=l.length:=by have:=congrArg List.length (q1 l);simpa using this
  have hcap:=grownCap_ge w l.length 0 e;have hmax:=grownCap_le_maxLen w l.length 0 e hm;have hsz:(Lib.bytesCells w e ⟨l.toArray⟩).size=grownCap w l.length 0 e:=by simp only[Lib.bytesCells,size_mk,Array.size_append,Array.size_map,Array.size_replicate,je];omega
  have k2:=kw hI hp;have hcr:qD ι w (P.cellsOf e) ((p.1 l).map (I.exp e)) (Lib.bytesCells w e ⟨l.toArray⟩):=by
   refine⟨c2.1,fun i row j x hi hj=> ?_⟩;obtain rfl:j=0:=by have:=(Ja.1 hj).1;have:=c2.1 row (ma hi);omega
   simp only[Ra,Ma]at hi;obtain⟨y,hy,rfl⟩:=hi;have hf:=congrArg (·[i]?) (q1 l);simp only[Ra,hy,Cc]at hf;obtain⟨b,hb,hf⟩:=Ma.1 hf.symm;obtain⟨e1,e2⟩:=Gq hI hj;rw[<-hf]at e1;refine⟨.int .u8 b.toNat,?_,rfl,(uh e2).2 ?_⟩
   ·have hil:=(Ja.1 hb).1;have hib:=(Ja.1 hb).2;simp only[k2,Yg,Nc,Lib.bytesCells];rw[Sd,Sa (by simpa using hil)];simp[hil,hib]
   ·rw[show pvE I x= .at (.int .u8 b.toNat) by simpa using e1.symm];exact .at _ rfl
  refine Done.grow (o:= .sl e (p.1 l)) (cur:=Lib.bytesCells w e ⟨l.toArray⟩) W (fr0 hf) rfl (UT w e ⟨l.toArray⟩) (.inr (Xa _)) hcr (by simp only[Zd,kE,Fb,hlen,hsz,k2,Yg];exact hcap) none (by simp) fun _ ι' _ e'=>dm e' ?_;simp only[Zd,kE,Fb,hlen,size_mk];refine .inr ⟨_,grownCap w l.length 0 e,e,(Lib.bytesCells w e ⟨l.toArray⟩).size,_,rfl,rfl, .inr (by simp),hcap,hmax,by simp[World.shape?,(UT w e ⟨l.toArray⟩).new],?_⟩;rw[hsz,k2];omega
 ·rename_i e id hk;split at h0
  case h_2=>cases h0
  rename_i u l hid;obtain⟨hh,h9⟩:=Zb h0;clear h0;simp only[Da]at hh;obtain⟨⟨⟨c1,c2⟩,c3⟩,c4⟩:=hh;obtain rfl:=La c1;have hk:=QR hT hk (by simp);have hu8:kdOf P e= .int .u8:=by generalize hke:(T.at e).kd=ke at c2;cases ke<;>simp only[isU8,reduceCtorEq]at c2;rename_i k;cases k<;>simp only[reduceCtorEq]at c2;exact QR hT hke (by simp)
  obtain⟨s1,s2⟩:=yg hT c4;have hl0:0<l.length:=by cases l<;>simp at c3 ⊢
  refine opd h9 (hg' rfl) fun _ ι w s W hd _ ⟨v,hv,es⟩=> ?_;obtain⟨b,b1,b2,_,b4⟩:=nC W ((Zo rfl).1 (hd.2 id (by simp) _ hid)) hv;rcases b2 with⟨_,e0,_⟩|⟨b',c,ty,sz,a,rfl,rfl,ha,hnc,hcm,hsh,hcs⟩
  ·omega
  obtain⟨cur,fr,ty2,d1,d2,d3,d4⟩:=b4 b' rfl;have ha:a=some ⟨b',0,none⟩:=by
   rcases ha with ha|ha
   ·omega
   ·rw[ha,Ef]
  subst ha;obtain⟨fr',g1,g2,ch⟩:=zEL d1 d2.1;have hsh':w.shape? b'=some (ty2,cur.size):=by simp[World.shape?,d1]
  obtain⟨S,W'⟩:=Nq (T:=fun i=>i∈[(id,(.sl u l:EO I.C))].map (·.1)) W b1 (by simp) ch;refine⟨.slice (some ⟨b',0,none⟩) l.length c,w.freeze ⟨b',cur.size,none⟩ 1,?_,ι,S,W',RepT.step S hv,fun p hp=> ?_,fun _ h _=>h⟩
  ·subst es;simp only[convert,Sem.run_bind,run_underlying (mg hk),Result.andThen_ok,run_underlying (Ps hu8),markStringish,run_shape,hsh',Kc];rfl
  ·simp at hp;subst hp;exact⟨some b',by rw[b1];simp[kE,Zd],d3.blk S g1 ⟨g2,d2.2⟩ d4⟩
 ·rename_i hk hn;split at h0
  case h_2=>cases h0
  rename_i e hks;obtain⟨hu,h0⟩:=Zb h0;have hu8:kdOf P e= .int .u8:=by generalize hke:(T.at e).kd=ke at hu;cases ke<;>simp only[isU8,reduceCtorEq]at hu;rename_i k;cases k<;>simp only[reduceCtorEq]at hu;exact QR hT hke (by simp)
  split at h0
  case h_2=>cases h0
  rename_i bs rd ok hl;obtain⟨hok,h0⟩:=Q4 hg h0;refine(opv h0 fun hg ι w s hd ⟨v,hv,es⟩=>⟨_,?_,OB _⟩).opd;obtain⟨a,n,c,rfl,hr⟩:=zEU hI hl (hok hg) hd hv;rw[es,run_convert_bytes_string w src dst e a n c (mg (QR hT hks (by simp))) (Ps hu8) (Um (QR hT hk (by simp)))];exact hr
 ·cases h0
end
theorem zL7(k x:List UInt8):((⟨k.toArray⟩:ByteArray)==⟨x.toArray⟩)=(k==x):=by
 have:((⟨k.toArray⟩:ByteArray)==⟨x.toArray⟩)=(k.toArray==x.toArray):=rfl;rw[this,Ve,Db,Db];constructor
 ·intro h;simpa using congrArg Array.toList h
 ·rintro rfl;rfl
theorem WK(kd:IntKind)(k:List UInt8): ∀(l:List (List UInt8×Int)) (n i:Nat),
  (Hw k l=false->Instr.findNow .string (Ph k) ((l.zipIdx n).map fun x=>(⟨Ph x.1.1, .int kd x.1.2,x.2⟩:MapEntry)) i=some none/\Xp k l=0)/\
  (Hw k l=true-> ∃j,Instr.findNow .string (Ph k) ((l.zipIdx n).map fun x=>(⟨Ph x.1.1, .int kd x.1.2,x.2⟩:MapEntry)) i=some (some (j, .int kd (Xp k l))))
 |[],n,i=>⟨fun _=>⟨rfl,rfl⟩,fun h=>by cases h⟩
 |(x,v)::l,n,i=>by
  obtain⟨h1,h2⟩:=WK kd k l (n+1) (i+1);have hs:Instr.sameNow .string (Ph k) (Ph x)=some (k==x):=congrArg some (zL7 k x);simp only[List.zipIdx_cons,Jc,Instr.findNow,hs,Hw,Xp];cases hkx:k==x with
  |true=>exact⟨fun h=>(by cases h),fun _=>⟨i,rfl⟩⟩
  |false=>exact⟨h1,h2⟩
section
variable {I:Ip} {P:Program} {T:TT} {fk:List (Nat×List Kd)} {ι:Asg} {w w':World} {h:Nat->Option (EO I.C)} {nx:Nat} {R:Type} {r0:R} {q:Path} {g:Bool} {K:Kt I R}
theorem kW{t:TypeId}(h:kdOf P t= .str):P.underlying t=some .string:=by unfold kdOf at h;split at h<;>first|assumption|cases h
theorem zJX(kd:IntKind)(l:List (List UInt8×Int))(k:List UInt8)(n:Int):(mpE kd l).push ⟨Ph k, .int kd n,l.length⟩=mpE kd (l++[(k,n)]):=by unfold mpE;simp[List.zipIdx_append]
theorem zNQ{id b k n:Nat}(e:ι id= .live (some b) k n):RepT (I:=I) ι w (.c (.mref id)) (.map (some b)):=
 ⟨rfl,by show MpAt (ι id) _;rw[e];exact⟨b,rfl,rfl⟩⟩
theorem KY{id:Nat}{kd:IntKind}{l:List (List UInt8×Int)}(hh:Qd (I:=I) P ι w id (.mp kd l)){v:Value}(hv:RepT (I:=I) ι w (.c (.mref id)) v):
  ∃b,v= .map (some b)/\ι id= .live (some b) 0 0/\w.heap[b]? =some (.map (mpE kd l) l.length):=by
 obtain⟨b,h1,h2⟩:=hh;have h3:MpAt (ι id) v:=hv.2;rw[h1]at h3;obtain⟨b',e,h4⟩:=h3;cases e;exact⟨b,h4,h1,h2⟩
theorem zEZ{t:TypeId}(hg:q=[]->g=true)(h0:pI T nx t q K=some r0):OpD P g h nx K r0 fun _ _ s=>s=Instr.makeMap t none:=by
 unfold pI at h0;split at h0
 case h_2=>cases h0
 split at h0
 case h_2=>cases h0
 rename_i kd _;refine opd h0 (fun e=>by rw[hg rfl]at e;cases e) fun _ ι w s W hd hf es=> ?_;subst es
 let ι1:Asg:=setA ι nx (.live (some w.heap.size) 0 0)
 have h1:ι1 nx=_:=zbR ..;have gr:Grew w (w.alloc (.map #[] 0)) (.map #[] 0):=⟨rfl,rfl,rfl,rfl⟩;obtain⟨S,W'⟩:=RB (ι':=ι1) (T:=fun i=>i∈[(nx,(EO.mp kd []:EO I.C))].map (·.1)) (d:=fun _=>False) W (fr0 hf) gr.wld rfl h1 (fun i hi=> .inl (ji _ _ _ hi)) (fun _ h=>h.elim)
  (fun b' e=>by cases e;exact .inl ⟨Xa _,by rw[gr.size];omega⟩) (fun _ h=>h.elim)
 refine⟨.map (some w.heap.size),_,rfl,ι1,S,W',zNQ h1,fun p hp=> ?_,fun id hi hn=> ?_⟩
 ·simp at hp;subst hp;exact⟨_,h1,gr.new⟩
 ·rw[show ι1 id=ι id from ji _ _ _ (by simp at hn;omega)];exact hi
theorem lW{kd:IntKind}: ∀{n:Nat} {cs:List (EV I.C)},isZs kd n cs=true->cs=List.replicate n (.int kd 0)
 |0,[],_=>rfl
 |0,_::_,h=>by cases h
 |_+1,[],h=>by cases h
 |n+1,x::r,h=>by
  cases x<;>try (cases h;done)
  simp only[isZs,Da,ja]at h;obtain rfl:=jm h.1;obtain rfl:=h.2.1;rw[Dh,lW h.2.2]
theorem zFq(hI:IpOK P I)(hT:TOK P T fk){t:Nat}(hg:q=[]->g=true)(h0:nN T nx t q K=some r0):OpD P g h nx K r0 fun _ _ s=>s=Instr.alloc t true (.tuple #[]):=by
 unfold nN at h0;split at h0
 case h_2=>cases h0
 rename_i n e hk;split at h0
 case h_2=>cases h0
 rename_i kd hke;obtain⟨zz,hm,h0⟩:=Zw h0;obtain⟨hc,h1⟩:=Zb h0;clear h0;simp only[Da]at hc;refine opd h1 (fun e=>by rw[hg rfl]at e;cases e) fun _ ι w s W hd hf es=> ?_;obtain⟨i,z,hi,hz,hs,c1,c2⟩:=Tn hT hc.2.1;have hr:=Cu (I:=I) (ι:=ι) (w:=w) c1;rw[<-c2,lW hc.2.2]at hr;obtain⟨m1,m2⟩:=aC (P:=P) hI hm;have hsz:z.cells.size=n:=by have:=hr.1;simpa using this
 have hlen:(Zd (.sl e (List.replicate n zz):EO I.C)).length=n:=by simp[Zd]
 have hk1:kE P (.sl e (List.replicate n zz):EO I.C)=1:=m1.symm;have hcr:qD ι w (kE P (.sl e (List.replicate n zz):EO I.C)) (Zd (.sl e (List.replicate n zz):EO I.C)) z.cells:=by
  rw[hk1];have hlx:(I.exp e zz).length=1:=(Al hI e zz).trans m1.symm;refine⟨fun row hr=> ?_,fun i row j x hi hj=> ?_⟩
  ·simp only[Zd,List.map_replicate]at hr;rw[(List.mem_replicate.1 hr).2];exact hlx
  ·simp only[Zd,List.map_replicate,List.getElem?_replicate]at hi;split at hi
   case isFalse=>cases hi
   rename_i hin;cases hi;obtain rfl:j=0:=by have:=(Ja.1 hj).1;omega
   obtain⟨u,u1,u2,u3⟩:=hr.2 i (.int kd 0) (by rw[List.getElem?_replicate,Sa hin]);refine⟨u,by simpa using u1,u2,?_⟩;obtain⟨_,h2⟩:=(m2 ι w).2 0 _ _ rfl rfl;exact h2 0 _ _ rfl hj u u3
 refine⟨_,_,?_,Done.growA (o:= .sl e (List.replicate n zz)) (cur:=z.cells) (ty2:=t) (fr:=(0,0)) W (fr0 hf) rfl (Em w _) ⟨.inl rfl, .inr ⟨n,QR hT hk (by simp),hs,by rw[hsz,show P.cellsOf (tyE (.sl e (List.replicate n zz):EO I.C))=1 from hk1,Yg]⟩⟩ hcr (by rw[hlen,hk1,hsz];simp) none (by simp) fun _ _ _ e=>TB e⟩;subst es;simp only[Instr.alloc,Sem.run_bind,Tq hi hz,Result.andThen_ok,newVar,newRow,run_newObj,Sem.run_pure]
theorem zFs(hT:TOK P T fk){t:Nat}(hg:q=[]->g=true)(h0:lN T nx t q K=some r0):OpD P g h nx K r0 fun _ _ s=>s=Instr.alloc t true (.tuple #[]):=by
 unfold lN at h0;split at h0
 case h_2=>cases h0
 rename_i r hz0;obtain⟨hc,h1⟩:=Zb h0;clear h0;simp only[Da]at hc;refine opd h1 (fun e=>by rw[hg rfl]at e;cases e) fun _ ι w s W hd hf es=> ?_;obtain⟨i,z,hi,hz,hs,c1,c2⟩:=Tn hT hc.1;have hsz:(T.at t).sz=P.cellsOf t:=by rw[Xi hT (.inr (.inl hc.1))];rfl
 have hr:=Cu (I:=I) (ι:=ι) (w:=w) c1;rw[c2]at hz0;rw[hz0]at hr;have hlen:z.cells.size=r.length+1:=by have:=hr.1;simpa using this
 let ι1:Asg:=setA ι nx (.live (some w.heap.size) (r.length+1) 1)
 have h2:ι1 nx=_:=zbR ..;have gr:=Em w (.cells z.cells t (0,0));obtain⟨S,W'⟩:=RB (ι':=ι1) (T:=fun i=>i∈[(nx,(EO.cells t (.nop nx t (T.at t).sz::r):EO I.C))].map (·.1)) (d:=fun _=>False) W (fr0 hf) gr.wld rfl h2 (fun i hi=> .inl (ji _ _ _ hi)) (fun _ h=>h.elim)
  (fun b' e=>by cases e;exact .inl ⟨Xa _,by rw[gr.size];omega⟩) (fun _ h=>h.elim)
 have hb:=qD.blk (ty:=TyOK P t) S (hr.cells rfl) gr.new ⟨.inl rfl, .inl rfl⟩ (by simp[hlen]);refine⟨_,_,?_,ι1,S,W',TB h2,fun p hp=> ?_,fun id hi hn=> ?_⟩
 ·subst es;simp only[Instr.alloc,Sem.run_bind,Tq hi hz,Result.andThen_ok,newVar,newRow,run_newObj,Sem.run_pure]
 ·simp at hp;subst hp;refine⟨_,h2,?_⟩;refine Blk.les hb (fun _ _=>rfl) ⟨by simp[Zd],fun i x x' hx hx'=> ?_⟩
  match i with
  |i+1=>simp at hx
  |0=>
   simp[Zd]at hx hx';subst hx;subst hx';refine⟨by simp,fun j p p' hp hp' v hv hpv=> ?_⟩
   match j with
   |j+1=>
    simp at hp hp';obtain⟨y,hy,rfl⟩:=hp;obtain⟨y',hy',rfl⟩:=hp';rw[hy]at hy';cases hy';exact hpv
   |0=> simp at hp hp';subst hp;subst hp';cases (show RepP _ _ (.at (.pointer none)) v from hpv);refine⟨.inl rfl,by rw[h2];simp,fun b k m e=> ?_⟩;rw[h2]at e;cases e;have hg2:(w.alloc (.cells z.cells t (0,0))).heap[w.heap.size]? =some (.cells z.cells t (0,0)):=gr.new;unfold World.shape?;rw[hg2];simp[hlen,hsz,<-hs]
 ·rw[show ι1 id=ι id from ji _ _ _ (by simp at hn;omega)];exact hi
theorem zGL(hT:TOK P T fk){t:TypeId}{m k x:ET I.C}(hg:q=[]->g=true)(h0:OO T h t m k x q K=some r0):
  ∃res,K res=some r0/\(g=false->res.up=[])/\(g=true-> ∀ι w vm vk vx,Wf ι w->Hd P h (res.rd++res.up.map (·.1)) ι w->RepT ι w m vm->RepT ι w k vk->RepT ι w x vx-> ∃w',(Instr.mapUpdate t vm vk vx).run P w= .ok () w'/\Done P ι w nx res undef w'):=by
 unfold OO at h0;split at h0
 case h_2=>cases h0
 rename_i kt et id k kd n hkd;split at h0
 case h_2=>cases h0
 rename_i kd' l hks hid;obtain⟨hc,h1⟩:=Zb h0;clear h0;rw[Da]at hc;obtain rfl:=jm hc.1;refine⟨_,h1,(fun e=>by rw[hg rfl]at e;cases e),fun _ ι w vm vk vx W hd hm hk hx=> ?_⟩;obtain⟨b,rfl,hl,hb⟩:=KY (hd.2 id (by simp) _ hid) hm;obtain rfl:=Zf rfl hk;obtain rfl:=Zf rfl hx;have k1:=QR hT hkd (by simp);have k2:=kW (QR hT hks (by simp));have hfind:Instr.findNow .string (Ph k) (mpE kd l).toList 0=some none:=by have:=((WK kd k l 0 0).1 (by simpa using hc.2)).1;unfold mpE;simpa using this
 have hrun:(Instr.mapUpdate t (.map (some b)) (Ph k) (.int kd n)).run P w= .ok () {w with heap:=w.heap.setIfInBounds b (.map ((mpE kd l).push ⟨Ph k, .int kd n,l.length⟩) (l.length+1))}:=by simp[Instr.mapUpdate,run_underlying (vM k1),MapKept.run_getObj_map hb,MapKept.run_checkKey (k:=Ph k) k2 trivial,MapKept.run_findKey k2 hfind,MapKept.run_setObj_map _ hb,Result.andThen]
 obtain⟨q1,q2⟩:=MapKept.heap_set (w:=w) (o':= .map ((mpE kd l).push ⟨Ph k, .int kd n,l.length⟩) (l.length+1)) hb;have hch:Chg w {w with heap:=w.heap.setIfInBounds b (.map ((mpE kd l).push ⟨Ph k, .int kd n,l.length⟩) (l.length+1))} b:=⟨rfl,rfl,rfl,by simp,q2,fun s hs=>by simp[World.shape?,hb]at hs⟩;obtain⟨S,W'⟩:=Nq (T:=fun j=>j∈[(id,(EO.mp kd (l++[(k,n)]):EO I.C))].map (·.1)) W hl (by simp) hch;refine⟨_,hrun,ι,S,W',trivial,fun p hp=> ?_,fun _ h _=>h⟩;simp at hp;subst hp;exact⟨b,hl,by rw[q1,zJX];simp⟩
theorem zG1(hT:TOK P T fk){t:TypeId}{m k:ET I.C}{ok:Bool}(h0:JO T h t m k ok q K=some r0):OpV P g h K r0 fun ι w s=> ∃vm vk,RepT ι w m vm/\RepT ι w k vk/\s=Instr.lookup t vm vk ok:=by
 unfold JO at h0;split at h0
 case h_2=>cases h0
 rename_i kt et id k hkd;split at h0
 case h_2=>cases h0
 rename_i kd kd' l hks hke hid;obtain⟨hc,h1⟩:=Zb h0;clear h0;rw[Da]at hc;obtain rfl:=jm hc.1;refine opv h1 fun _ ι w s hd hs=> ?_;obtain⟨vm,vk,hm,hk,rfl⟩:=hs;obtain⟨b,rfl,hl,hb⟩:=KY (hd.2 id (by simp) _ hid) hm;obtain rfl:=Zf rfl hk;have k1:=QR hT hkd (by simp);have k2:=kW (QR hT hks (by simp));have hke':=QR hT hke (by simp);have hti:=Xi hT (t:=et) (.inl (by rw[hke];simp));have hzero:(zeroValue et).run P w= .ok (.int kd 0) w:=by
  have: ∃inf,P.info? et=some inf/\inf.zero=some (.int kd 0):=by
   have hz:(ti P et).zi=true:=by rw[<-hti];exact hc.2
   unfold ti at hz;simp only[hke']at hz;split at hz
   ·rename_i k1 k2 e1 e2;have hk12:=Ib hz;injection e1 with e1;subst e1;subst hk12;simpa [Ka] using e2
   ·cases hz
  obtain⟨inf,h1,h2⟩:=this;exact Tq h1 h2 w
 obtain⟨f1,f2⟩:=WK kd k l 0 0;have fin: ∀r,Instr.findNow .string (Ph k) (mpE kd l).toList 0=some r->TN (.int kd 0) r= .int kd (Xp k l)->(Instr.lookup t (.map (some b)) (Ph k) false).run P w= .ok (.int kd (Xp k l)) w:=by
  intro r hfind e;cases r with
  |none=>rw[<-e];simp[Instr.lookup,run_underlying (vM k1),MapKept.run_getObj_map hb,MapKept.run_checkKey (k:=Ph k) k2 trivial,MapKept.run_findKey k2 hfind,hzero,Result.andThen,TN]
  |some p=>rw[<-e];simp[Instr.lookup,run_underlying (vM k1),MapKept.run_getObj_map hb,MapKept.run_checkKey (k:=Ph k) k2 trivial,MapKept.run_findKey k2 hfind,Result.andThen,TN]
 refine⟨_,?_,Q7 _ _⟩;cases hh:Hw k l with
 |false=> obtain⟨g1,g2⟩:=f1 hh;exact fin _ (by unfold mpE;simpa using g1) (by rw[g2];rfl)
 |true=> obtain⟨j,g1⟩:=f2 hh;exact fin _ (by unfold mpE;simpa using g1) rfl
end
section
variable {I:Ip} {P:Program} {T:TT} {fk:List (Nat×List Kd)} {ι:Asg} {w w':World} {h:Nat->Option (EO I.C)} {nx:Nat} {R:Type} {r0:R} {q:Path} {g:Bool} {K:Kt I R}
theorem qD.seg{k off:Nat}{R R1:List (List (EV I.C))}{cur:Array Value}{cs:List Value}(h0:qD ι w k R cur)(h1:qD ι w k R1 cs.toArray)(hl:cs.length=R1.length*k)(ho:off+R1.length<=R.length)(hs:R.length*k<=cur.size):
  qD ι w k (R.take off++R1++R.drop (off+R1.length)) (cur.toList.take (off*k)++cs++cur.toList.drop (off*k+cs.length)).toArray:=by
 have hin:off*k+cs.length<=cur.toList.length:=by rw[hl,<-Xd,Od];exact Bb (Vb _ ho) hs
 refine⟨fun row hr=> ?_,fun i row j x hi hj=> ?_⟩
 ·simp only[Rc]at hr;rcases hr with(hr|hr)|hr
  ·exact h0.1 row (List.mem_of_mem_take hr)
  ·exact h1.1 row hr
  ·exact h0.1 row (List.mem_of_mem_drop hr)
 rw[Vt ho]at hi;rw[Mg,Vt hin];split at hi<;>rename_i hc
 ·have hjk:j<k:=by rw[<-h1.1 row (ma hi)];exact(Ja.1 hj).1
  have hlt:=fw (Ja.1 hi).1 hjk;obtain⟨v,a1,a2⟩:=h1.2 _ row j x hi hj;have e:(i - off)*k+off*k=i*k:=by rw[<-Xd];congr 1;omega
  refine⟨v,?_,a2⟩;rw[Sa ⟨by omega,by rw[hl];omega⟩,show i*k+j - off*k=(i - off)*k+j by omega];simpa using a1
 ·have hjk:j<k:=by rw[<-h0.1 row (ma hi)];exact(Ja.1 hj).1
  obtain⟨v,a1,a2⟩:=h0.2 i row j x hi hj;refine⟨v,?_,a2⟩;rw[Oa,Ed]
  ·exact a1
  rintro⟨q1,q2⟩;rw[hl,<-Xd]at q2;rcases Yd i off with hlt|hge
  ·have:=Vb k (show i+1<=off from hlt);rw[Xd]at this;omega
  ·have:=Vb k (show off+R1.length<=i by omega);omega
theorem rX{ts tx ty e:TypeId}{i:TypeInfo}(ht:P.underlying ts=some (.slice e))(hi:P.info? e=some i){a:Option Addr}{n c:Nat}{R1:List (List (EV I.C))}{vx:Value}(h1:Src P ι w (P.cellsOf e) R1 vx)(hn:R1.length<=n):
  ∃cs:List Value,cs.length=R1.length*P.cellsOf e/\qD ι w (P.cellsOf e) R1 cs.toArray/\(∀u∈cs,u.oneCell'=true)/\ ∀w',(match a with|some a=>(storeCells a cs).run P w|none=> .ok () w)= .ok () w'->
   (Builtin.copy_ #[ts,tx] ty #[.slice a n c,vx]).run P w= .ok (.int .i64 R1.length) w':=by
 obtain⟨cs,l1,g3,g3',g4⟩:=h1;refine⟨cs,l1,g3,g3',fun w' hst=> ?_⟩;obtain⟨hl,hf1⟩:=g4 w rfl;have hsz:i.size=P.cellsOf e:=Yu hi;have hmin:Nat.min R1.length n=R1.length:=Nat.min_eq_left hn;cases a with
 |none=> injection hst with _ hst;subst hst;simp[Builtin.copy_,run_underlying ht,hl,hmin,sizeOf,typeInfo,hi,hsz,hf1,goInt]
 |some a=> simp only at hst;simp[Builtin.copy_,run_underlying ht,hl,hmin,sizeOf,typeInfo,hi,hsz,hf1,goInt,hst]
theorem MX {id off n:Nat} {o o':EO I.C} {ts tx ty e:TypeId} (hk:kdOf P ts= .sl e) (hz:(ti P e).zok=true) (W:Wf ι w) (ho':isR o'=true) (hh:Cg P ι w id o) (hkE:kE P o=P.cellsOf e) (h1:kE P o'=kE P o) (h2:tyE o'=tyE o)
  {R1:List (List (EV I.C))} {vs vx:Value} (S1:Src P ι w (P.cellsOf e) R1 vx) {b:Option Nat} (hb:ι id= .live b (kE P o) (Zd o).length) (hv:SlAt w b (P.cellsOf e) off n vs) (hn:R1.length<=n) (hon:off+n<=(Zd o).length)
  (h3:Zd o'=(Zd o).take off++R1++(Zd o).drop (off+R1.length)) {rd:List Nat} {m:Nat} (hm:R1.length=m):
  ∃v w',(Builtin.copy_ #[ts,tx] ty #[vs,vx]).run P w= .ok v w'/\Done P ι w nx ⟨.v (.c (.int .i64 m)),[(id,o')],rd,0⟩ v w':=by
 subst hm;obtain⟨i,z,hi,_⟩:=Uw hz;have hlen:(Zd o').length=(Zd o).length:=by rw[h3];simp;omega
 obtain⟨b0,e0,hr,h⟩:=hh;rw[hb]at e0;cases e0;rcases hv with⟨rfl,rfl,rfl⟩|⟨b',c,ty',sz,a,rfl,rfl,hca,hnc,hcm,hsh,hle⟩
 ·have hR1:R1=[]:=ib (by omega);subst hR1;obtain⟨cs,l1,_,_,hrun⟩:=rX (tx:=tx) (ty:=ty) (a:=none) (n:=0) (c:=0) (mg hk) hi S1 (by simp);refine⟨_,w,hrun w rfl,ι, .same _ _ _,W,Q7 _ _,fun p hp=> ?_,fun _ hf _=>hf⟩;obtain rfl:=Tc.1 hp;have e:Zd o'=Zd o:=by rw[h3];simp
  refine(Zo ho').2 ⟨none,?_,?_⟩
  ·rw[h1,e];exact hb
  ·rw[h1,h2,e];exact⟨hr,h⟩
 ·rcases h with⟨h,_⟩|⟨b2,cur,fr,ty2,h,k1,k2,k3,k4⟩
  ·cases h
  cases h;obtain⟨cs,l1,c1,c1',hrun⟩:=rX (tx:=tx) (ty:=ty) (a:=a) (n:=n) (c:=c) (mg hk) hi S1 hn;have hR:qD ι w (P.cellsOf e) (Zd o) cur:=by rw[<-hkE];exact⟨fun row hm=>(by simpa using hr (row.map (RepV ι w)) (Nb.2 ⟨row,hm,rfl⟩)),fun i row j x hi hj=>k4 i (row.map (RepV ι w)) j _ (by rw[Ra];exact congrArg (Option.map _) hi) (by simp[hj])⟩
  rw[Fb,hkE]at k3;have hin:off*P.cellsOf e+cs.length<=cur.size:=by rw[l1,<-Xd];exact Bb (Vb _ (by omega)) k3
  have hseg:=hR.seg c1 l1 (off:=off) (by omega) k3;have hsz2:(cur.toList.take (off*P.cellsOf e)++cs++cur.toList.drop (off*P.cellsOf e+cs.length)).toArray.size=cur.size:=by simp only[je,Na,Wd,jb,Od];omega
  have hst:(match a with|some a=>(storeCells a cs).run P w|none=> .ok () w)= .ok () (w.setRow b' (cur.toList.take (off*P.cellsOf e)++cs++cur.toList.drop (off*P.cellsOf e+cs.length)).toArray):=by
   by_cases hc0:c=0
   ·obtain rfl:cs=[]:=ib (by rw[l1,show R1.length=0 by omega,Ef]);simp only[Yb,Eb,Nc,Lg,Ae];rw[setRow_self w b' cur ty2 fr k1];cases a<;>rfl
   ·rw[hca.resolve_left hc0];have:=Wz (P:=P) (g:=b') (o:=off*P.cellsOf e) (t:=ty2) (fr:=fr) cs 0 cur w k1 k2.1.out (by simpa using hin) c1';simpa only[Nc] using this
  obtain⟨S,W'⟩:=Nq (T:=fun j=>j∈[(id,o')].map (·.1)) W hb (by simp) (CE (w:=w) k1 hsz2);refine⟨_,_,hrun _ hst,ι,S,W',Q7 _ _,fun p hp=> ?_,fun _ hf _=>hf⟩;obtain rfl:=Tc.1 hp;refine(Zo ho').2 ⟨some b',?_,?_⟩
  ·rw[h1,hlen];exact hb
  rw[h1,h2,h3,hkE];refine hseg.blk S (setRow_heap w b' cur _ ty2 fr k1) (by rw[hsz2];exact k2) ?_;rw[hsz2,<-h3,hlen];exact k3
theorem zJd(hI:IpOK P I)(hT:TOK P T fk){ts tx:Nat}(ty:Nat){s x:ET I.C}(hg:q=[]->g=true)(h0:mM T h ts tx s x q K=some r0):
  OpD P g h nx K r0 fun ι w z=> ∃vs vx,RepT ι w s vs/\RepT ι w x vx/\z=Builtin.copy_ #[ts,tx] ty #[vs,vx]:=by
 unfold mM at h0;split at h0
 case h_2=>cases h0
 rename_i e hk;have hk:=QR hT hk (by simp);obtain⟨hh,h0⟩:=Zb h0;simp only[Da]at hh;have hti:=Xi hT (.inr (.inl hh.2));have hz:(ti P e).zok=true:=by rw[<-hti];exact hh.2
 have hg': ∀{α:Prop},g=false->α:=fun e=>by rw[hg rfl]at e;cases e
 split at h0
 case h_2=>cases h0
 rename_i new rd ok hsrc;split at h0
 case h_3=>cases h0
 ·split at h0
  case h_2=>cases h0
  rename_i hid;split at h0
  case h_2=>cases h0
  rename_i c1;obtain⟨rfl,c1⟩:=qi c1;cases c1;obtain⟨hok,h0⟩:=Z8 h0;obtain⟨ha,h0⟩:=Z8 h0;have ha:=Ib ha;obtain⟨_,hS⟩:=Ut hI hT hh.1 hsrc hok;refine opd h0 hg' fun _ ι w z W hd hf ⟨vs,vx,hvs,hvx,es⟩=> ?_;subst es;have hH:=(Zo rfl).1 (hd.2 _ (by simp) _ hid);obtain⟨b,b1,b2,_⟩:=nC W hH hvs;have hl: ∀{t:Nat} (l:List (I.C t)),(l.map (I.exp t)).length=l.length:=fun l=>Fb (I.exp _);exact MX (off:=0) hk hz W (by rfl) hH rfl (by rfl) (by rfl) (hS (hd.mono fun i hi=>by simp[hi]) hvx) (by rw[b1];simp[Zd,kE]) b2 (by rw[hl];exact ha) (by simp[Zd]) (by simp[Zd]) (hl new)
 ·split at h0
  case h_2=>cases h0
  rename_i hid;split at h0
  case h_2=>cases h0
  rename_i c1;obtain⟨rfl,c1⟩:=qi c1;cases c1;obtain⟨hok,h0⟩:=Z8 h0;obtain⟨ha,h0⟩:=Z8 h0;simp only[Da,ja]at ha;obtain⟨_,hS⟩:=Ut hI hT hh.1 hsrc hok;refine opd h0 hg' fun _ ι w z W hd hf ⟨vs,vx,hvs,hvx,es⟩=> ?_;subst es;have hH:=(Zo rfl).1 (hd.2 _ (by simp) _ hid);have hH':=hH;obtain⟨b,b1,_⟩:=hH';have hv:SlS ι w _ (some _) vs:=hvs.2;rw[b1]at hv;have hl: ∀{t:Nat} (l:List (I.C t)),(l.map (I.exp t)).length=l.length:=fun l=>Fb (I.exp _);exact MX hk hz W (by rfl) hH rfl (by rfl) (by rfl) (hS (hd.mono fun i hi=>by simp[hi]) hvx) b1 hv (by rw[hl];exact ha.1) (by simp[Zd];exact ha.2) (by simp[Zd]) (hl new)
end
end Go.Lv
