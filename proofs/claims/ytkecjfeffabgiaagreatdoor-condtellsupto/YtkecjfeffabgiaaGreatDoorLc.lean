/- What operations that read do: slices, lengths, truth values. -/
import Derived.Test.YtkecjfeffabgiaaGreatDoorLb
import Derived.MapKept
set_option linter.unusedSimpArgs false
set_option linter.unusedVariables false
namespace Go.Lv
section
variable {I:Ip} {P:Program} {T:TT} {fk:List (Nat×List Kd)} {ι:Asg} {w:World} {h:Nat->Option (EO I.C)} {R:Type} {r0:R} {q:Path} {g:Bool} {K:Kt I R}
theorem fP: ∀{cs:List (EV I.C)} {ls:List (List UInt8)},OH cs=some ls->cs=ls.map .str
 |[],ls,h=>by cases h;rfl
 |x::r,ls,h=>by
  cases x<;>simp only[OH,reduceCtorEq]at h;split at h
  ·rename_i m hm;cases h;rw[fP hm];rfl
  ·cases h
theorem zBT(hT:TOK P T fk){t:Nat}{x i:ET I.C}(hg:q=[]->g=true)(h0:CP T t x i q g K=some r0):
  OpV P g h K r0 fun ι w s=> ∃vx vi,RepT ι w x vx/\RepT ι w i vi/\s=Instr.index t vx vi:=by
 unfold CP at h0;split at h0
 case h_2=>cases h0
 rename_i kk i;split at h0
 ·rename_i l hk;have hk:=Gg hT hk (by simp);obtain⟨b,h0,hb⟩:=SE hg h0;refine opv h0 fun hg ι w s hd ⟨vx,vi,hx,hi,es⟩=>⟨_,?_,Xh _ _⟩;obtain rfl:=zT rfl hi;obtain rfl:=zT rfl hx;obtain⟨i1,i2,i3,i4⟩:=vJ (hb hg);have hget:(ByteArray.mk l.toArray)[i.toNat]? =some b:=by rw[getElem?_pos (ByteArray.mk l.toArray) i.toNat (by rw[size_mk];exact i3)];rw[Xa i3]at i2;simpa [ByteArray.getElem_eq_getElem_data] using i2
  subst es;simp[Instr.index,asIntOf,run_underlying (Im hk),i1,hget]
 ·rename_i n e cs hk;split at h0
  case h_2=>cases h0
  rename_i ls he hl;obtain rfl:=fP hl;obtain⟨hc,h1⟩:=zQ h0;clear h0;simp only[Da]at hc;obtain rfl:=Ya hc.1;have hs:=Ya hc.2;have hs':=(oh hT (t:=e) (by rw[hs];rfl)).1;have he:=Gg hT he (by simp);obtain⟨s,h0,hb⟩:=SE hg h1;refine opv h0 fun hg ι w s' hd ⟨vx,vi,⟨X,hX,hX'⟩,hi,es⟩=> ?_;obtain rfl:=zT rfl hi;obtain⟨i1,i2,i3,i4⟩:=vJ (hb hg);obtain⟨u,hu,h6⟩:=hX'.2 i.toNat (.str s) (by rw[Sa,i2];rfl);subst es;subst hX;refine⟨u,?_,h6⟩;simp only[Instr.index,asIntOf,Sem.run_bind,Sem.run_pure,Result.andThen_ok,run_underlying (Et (Gg hT hk (by simp)))];simp only[i1,i4,and_self,Ee,Sem.run_bind,Wl (P:=P) (t:=e) (by omega),Result.andThen_ok,<-hs',hs,Tf];exact OG (by rw[he];simp) (by rw[he];rfl) hu
 ·cases h0
theorem Sq{id n:Nat}{m:Option (Nat×Nat)}{b:Option Nat}{k:Nat}(e:ι id= .live b k n){v:Value}(h:SlS ι w (ι id) m v): ∃a c,v= .slice a (match m with|none=>n|some x=>x.2) c:=by rw[e]at h;cases m<;>rcases h with⟨_,h1,rfl⟩|⟨_,c,_,_,a,_,rfl,_⟩<;>first|exact⟨_,_,by rw[<-h1]⟩|exact⟨_,_,rfl⟩
theorem zHI(hT:TOK P T fk){t:Nat}{x:ET I.C}(ty:TypeId)(h0:lenE (T.at t).kd h x K=some r0):OpV P g h K r0 fun ι w s=> ∃vx,RepT ι w x vx/\s=Builtin.len_ #[t] ty #[vx]:=by
 generalize hk:(T.at t).kd=kd at h0;have hk:=fun hb=>Gg hT hk hb;have sl: ∀{e a n c w},kd= .sl e->(Builtin.len_ #[t] ty #[.slice a n c]).run P w= .ok (.int .i64 n) w:=fun e=>by simp[Builtin.len_,run_underlying (Uh (e▸hk (by rw[e];simp))),goInt]
 unfold lenE at h0;split at h0
 ·refine opv h0 fun _ ι w s _ ⟨vx,hx,es⟩=>⟨_,?_,Xh _ _⟩;obtain rfl:=zT rfl hx;subst es;simp[Builtin.len_,run_underlying (Im (hk (by simp))),goInt,size_mk]
 ·refine opv h0 fun _ ι w s _ ⟨vx,⟨_,hx⟩,es⟩=>⟨_,?_,Xh _ _⟩;cases hx with
  |sl _ a n c k b o val hn=>rw[es,sl rfl,hn,Fb]
 ·refine opv h0 fun _ ι w s _ ⟨vx,hx,es⟩=>⟨_,?_,Xh _ _⟩;obtain rfl:=zT rfl hx;rw[es,sl rfl];rfl
 ·split at h0<;>first
   |(cases h0;done)
   |(rename_i hid
     refine opv h0 fun _ ι w s hd ⟨vx,⟨_,hx⟩,es⟩=>⟨_,?_,Xh _ _⟩;obtain⟨b,h3,_⟩:=(Zg rfl).1 (hd.2 _ (by simp) _ hid);obtain⟨a,c,rfl⟩:=Sq (n:=_) h3 hx;rw[es,sl rfl];simp[Zf,Nf,Rh 1])
   |(rename_i hid
     refine opv h0 fun _ ι w s hd ⟨vx,⟨_,hx⟩,es⟩=>⟨_,?_,Xh _ _⟩;obtain⟨rs,q1,b,h3,_⟩:=eO (hd.2 _ (by simp) _ hid);obtain⟨a,c,rfl⟩:=Sq (n:=_) h3 hx;rw[es,sl rfl];simp[Zf,q1])
 ·split at h0<;>first
   |(cases h0;done)
   |(rename_i hid
     refine opv h0 fun _ ι w s hd ⟨vx,⟨_,hx⟩,es⟩=>⟨_,?_,Xh _ _⟩;obtain⟨b,h3,_⟩:=(Zg rfl).1 (hd.2 _ (by simp) _ hid);obtain⟨a,c,rfl⟩:=Sq (n:=_) h3 hx;rw[es,sl rfl])
 ·refine opv h0 fun _ ι w s _ ⟨vx,hx,es⟩=>⟨_,?_,Xh _ _⟩;subst es;simp[Builtin.len_,run_underlying (Et (hk (by simp))),goInt]
 ·cases h0
def Bnd(v:Option Value)(n:Option Int):Prop:=(v=none/\n=none)\/ ∃k m,v=some (.int k m)/\n=some m
theorem lK{lo hi mx:Option Int}{n:Nat}(h:Dl lo hi mx n=true):0<=lo.getD 0/\lo.getD 0<=hi.getD n/\hi.getD n<=mx.getD n/\mx.getD n<=n/\(mx≠none->hi≠none):=by unfold Dl at h;split at h<;>simp only[Da,Eb,reduceCtorEq]at h<;>simp<;>omega
theorem G9{α:Type}(l:List α)(lo hi:Option Int):cutL l lo hi=(l.take (hi.getD l.length).toNat).drop (lo.getD 0).toNat:=by cases lo<;>cases hi<;>simp[cutL]
theorem SK{t e:Nat}(hk:kdOf P t= .sl e)(hs:0<P.cellsOf e){a:Option Addr}{n c:Nat}(hc:n<=c){lo hi mx:Option Value}{l hh m:Option Int}(h1:Bnd lo l)(h2:Bnd hi hh)(h3:Bnd mx m)(h:Dl l hh m n=true):
  (Instr.sliceAt t (.slice a n c) lo hi mx).run P w= .ok (.slice (if(m.map Int.toNat).getD c=(l.getD 0).toNat then a else a.map (·.add ((l.getD 0).toNat*P.cellsOf e))) ((hh.getD n).toNat - (l.getD 0).toNat) ((m.map Int.toNat).getD c - (l.getD 0).toNat)) w/\
   (l.getD 0).toNat<=(hh.getD n).toNat/\(hh.getD n).toNat<=n/\(hh.getD n).toNat<=(m.map Int.toNat).getD c/\(m.map Int.toNat).getD c<=c:=by
 obtain⟨g1,g2,g3,g4,g5⟩:=lK h;have hb:=vK (P:=P) (w:=w) (isSlice:=true) h1 h2 h3 g1 g2 g3 g4 hc g5;refine⟨by simp[Instr.sliceAt,Instr.slice,run_underlying (Uh hk),hb,Wl hs],by omega,by omega,?_,?_⟩<;>cases m<;>simp at g3 g4 ⊢ <;>omega
theorem SlAt.cut{b:Option Nat}{k n c L H M:Nat}{a:Option Addr}(h:SlAt w b k 0 n (.slice a n c))(h1:L<=H)(h2:H<=n)(h3:H<=M)(h4:M<=c):SlAt w b k L (H - L) (.slice (if M=L then a else a.map (·.add (L*k))) (H - L) (M - L)):=by
 rcases h with⟨rfl,rfl,e⟩|⟨b',c',ty,sz,a',rfl,e,hca,hc,hcm,hsh,hle⟩<;>cases e
 ·obtain rfl:M=0:=by omega
  exact .inl ⟨rfl,by omega,by simp;omega⟩
 ·refine .inr ⟨b',M - L,ty,sz,_,rfl,rfl,?_,by omega,by omega,hsh,?_⟩
  ·by_cases e:M=L
   ·exact .inl (by omega)
   ·rw[Ja e,hca.resolve_left (by omega)];exact .inr (by simp[addr_add])
  ·exact Gc (Tc _ (by omega)) hle
theorem zDm(hI:IpOK P I)(hT:TOK P T fk){t:Nat}{x:ET I.C}{l hh m:Option Int}(hg:q=[]->g=true)(h0:OO T h t x l hh m q g K=some r0):
  OpV P g h K r0 fun ι w s=> ∃vx lo hi mx,RepT ι w x vx/\Bnd lo l/\Bnd hi hh/\Bnd mx m/\s=Instr.sliceAt t vx lo hi mx:=by
 unfold OO at h0;split at h0
 ·rename_i s hk;have hk:=Gg hT hk (by simp);split at h0
  case h_2=>cases h0
  obtain⟨hc,h0⟩:=QZ hg h0;refine opv h0 fun hg ι w s' hd ⟨vx,lo,hi,mx,hx,b1,b2,b3,es⟩=> ?_;obtain rfl:=zT rfl hx;obtain⟨g1,g2,g3,g4,g5⟩:=lK (hc hg);obtain rfl:mx=none:=by rcases b3 with e|⟨_,_,_,e⟩<;>simp_all
  have hb:=vK (P:=P) (w:=w) (isSlice:=false) (cap:=s.length) b1 b2 b3 g1 g2 g3 g4 (ja _) g5;refine⟨_,?_,ED _⟩;have e:(ByteArray.mk s.toArray).extract (l.getD 0).toNat (hh.getD ↑s.length).toNat=⟨(cutL s l hh).toArray⟩:=by rw[Lib.extract_eq,G9];simp[uf]
  subst es;simp only[Instr.sliceAt,Instr.slice,Sem.run_bind,run_underlying (Im hk),Result.andThen_ok];simp[size_mk,hb,e]
 ·rename_i e u y hk;have hk:=Gg hT hk (by simp);obtain⟨hc,h0⟩:=zQ h0;simp only[Da]at hc;obtain rfl:=Ya hc.1;obtain⟨_,hs⟩:=oh hT hc.2;have key: ∀{ι w vx lo hi mx},Dl l hh m (y.length:Nat)=true->RepT ι w (.c (.sl e y)) vx->Bnd lo l->Bnd hi hh->Bnd mx m-> ∃a n c,(Instr.sliceAt t vx lo hi mx).run P w= .ok (.slice a n (c - (l.getD 0).toNat)) w/\n=(hh.getD y.length).toNat - (l.getD 0).toNat/\(∀b,m=some b->c=b.toNat)/\RepP (Dom ι w) w (.sl ((cutL y l hh).map (I.full e))) (.slice a n (c - (l.getD 0).toNat)):=by
   intro ι w vx lo hi mx hc hx b1 b2 b3;obtain⟨_,hx⟩:=hx;have hx:RepP (Dom ι w) w (.sl (y.map (I.full e))) vx:=hx;obtain⟨a,n,c,rfl,hn,hc'⟩: ∃a n c,vx= .slice a n c/\n=y.length/\n<=c:=by cases hx with|sl _ a n c k b o val hn hc'=>exact⟨a,n,c,rfl,by rw[hn,Fb],hc'⟩
   subst hn;obtain⟨r1,r2,r3,r4,r5⟩:=SK (w:=w) hk hs (a:=a) hc' b1 b2 b3 hc;refine⟨_,_,_,r1,rfl,fun b e=>by rw[e];rfl,?_⟩;have:=zFs hx (k:=P.cellsOf e) (fun row hr=>by obtain⟨z,_,rfl⟩:=Pb.1 hr;exact hI.len e z) r2 r4 r3 r5
   rwa [G9,List.map_drop,Ig]
  split at h0
  ·obtain⟨hc,h0⟩:=QZ hg h0;refine opv h0 fun hg ι w s' hd ⟨vx,lo,hi,mx,hx,b1,b2,b3,es⟩=> ?_;obtain⟨a,n,c,k1,_,_,k2⟩:=key (hc hg) hx b1 b2 b3;exact⟨_,es▸k1,rfl,k2⟩
  ·split at h0
   case h_2=>cases h0
   obtain⟨hc,h0⟩:=QZ hg h0;refine opv h0 fun hg ι w s' hd ⟨vx,lo,hi,mx,hx,b1,b2,b3,es⟩=> ?_;have hc:=hc hg;simp only[Da,Eb]at hc;obtain⟨a,n,c,k1,k3,k4,k2⟩:=key hc.1 hx b1 b2 b3;refine⟨_,es▸k1,rfl,k2,_,_,by rw[k3,k4 _ rfl,hc.2];rfl⟩
 ·rename_i e hk;have hk:=Gg hT hk (by simp);obtain⟨hs,h0⟩:=zQ h0;obtain⟨_,hs⟩:=oh hT hs;obtain⟨hc,h0⟩:=QZ hg h0;refine opv h0 fun hg ι w s' hd ⟨vx,lo,hi,mx,hx,b1,b2,b3,es⟩=> ?_;obtain rfl:=zT rfl hx;obtain⟨r1,r2,r3,r4,r5⟩:=SK (w:=w) hk hs (a:=none) (ja 0) b1 b2 b3 (hc hg);refine⟨.slice none 0 0,?_,rep1 rfl rfl⟩;rw[es,r1];congr 2<;>first|omega|simp
 ·rename_i e id hk;have hk:=Gg hT hk (by simp);split at h0
  case h_2=>cases h0
  rename_i u y hid;obtain⟨hc,h0⟩:=zQ h0;simp only[Da]at hc;obtain rfl:=Ya hc.1;obtain⟨_,hs⟩:=oh hT hc.2;obtain⟨hc,h0⟩:=QZ hg h0;refine opv h0 fun hg ι w s' hd ⟨vx,lo,hi,mx,⟨_,hx⟩,b1,b2,b3,es⟩=> ?_;obtain⟨b,h3,_⟩:=(Zg rfl).1 (hd.2 _ (by simp) _ hid);have hlen:(Zf (.sl e y:EO I.C)).length=y.length:=Fb ..;rw[hlen]at h3;have hx:SlS ι w (ι id) none vx:=hx;rw[h3]at hx;have hx:SlAt w b (P.cellsOf e) 0 y.length vx:=hx;obtain⟨a,c,rfl,hnc⟩: ∃a c,vx= .slice a y.length c/\y.length<=c:=by
   rcases hx with⟨_,h1,rfl⟩|⟨_,c,_,_,a,_,rfl,_,h4,_⟩
   ·exact⟨_,_,by rw[h1],by omega⟩
   ·exact⟨_,_,rfl,h4⟩
  obtain⟨r1,r2,r3,r4,r5⟩:=SK (w:=w) hk hs (a:=a) hnc b1 b2 b3 (hc hg);refine⟨_,es▸r1,rfl,?_⟩;show SlS ι w (ι id) (some _) _;rw[h3];exact hx.cut r2 r3 r4 r5
 ·rename_i n e id row cell hk;have hk:=Gg hT hk (by simp);split at h0
  case h_2=>cases h0
  rename_i u y hid;obtain⟨hc,h1⟩:=zQ h0;clear h0;simp only[Da]at hc;obtain⟨⟨⟨⟨c1,c2⟩,c3⟩,c4⟩,c5⟩:=hc;obtain rfl:=Ya c1;obtain rfl:=Ya c3;obtain rfl:=Ya c4;have c5:=Kc c5;obtain⟨_,hs⟩:=oh hT c2;obtain⟨hc,h1⟩:=QZ hg h1;refine opv h1 fun hg ι w s' hd ⟨vx,lo,hi,mx,hx,b1,b2,b3,es⟩=> ?_;have hc:=hc hg;rw[Da]at hc;have hn:=Ya hc.2;obtain⟨g1,g2,g3,g4,g5⟩:=lK hc.1;have hrun:=vK (P:=P) (w:=w) (isSlice:=false) b1 b2 b3 g1 g2 g3 g4 (ja n) g5;simp only[Option.map_none,Option.getD_none]at hrun g3;obtain⟨b,h3,hb⟩:=(Zg rfl).1 (hd.2 _ (by simp) _ hid);have hx:PtAt (ι id) 0 0 vx:=hx.2;rw[h3]at hx;obtain⟨b',rfl,rfl⟩:=hx;have hlen:(Zf (.sl e y:EO I.C)).length=n:=(Fb ..).trans hn;rw[hlen]at h3;have hk1:kE P (.sl e y:EO I.C)=P.cellsOf e:=rfl;refine⟨.slice (some (if n=(l.getD 0).toNat then⟨b',0,none⟩else(⟨b',0,none⟩:Addr).add ((l.getD 0).toNat*P.cellsOf e))) ((hh.getD n).toNat - (l.getD 0).toNat) (n - (l.getD 0).toNat),?_,rfl,?_⟩
  ·rw[es];simp[Instr.sliceAt,run_underlying (Et hk),Instr.sureAddr,hrun,Wl hs]
  ·show SlS ι w (ι id) (some _) _;rw[h3];rcases hb.2 with⟨q,_⟩|⟨b2,cur,fr,ty2,q,q1,_,q2,_⟩<;>cases q;rw[Fb,hlen,hk1]at q2;refine .inr ⟨b',n - (l.getD 0).toNat,ty2,cur.size,_,rfl,rfl,?_,by omega,by unfold maxLen;omega,by simp[World.shape?,q1],?_⟩
   ·by_cases e':n=(l.getD 0).toNat
    ·exact .inl (by omega)
    ·rw[Ja e'];exact .inr (by simp[addr_add,hk1])
   ·rw[hk1];exact Gc (Tc _ (by omega)) q2
 ·cases h0
theorem UZ{mx:Bool}{k:IntKind}: ∀(as:List (ET I.C)) (m:Int),vE mx k K m as=some r0->OpV P g h K r0 fun ι w s=> ∃vs:List Value,vs.length=as.length/\(∀(j:Nat) (t:ET I.C),as[j]? =some t-> ∃u,vs[j]? =some u/\RepT ι w t u)/\s=vs.foldlM (if mx=true then Builtin.max2 else Builtin.min2) (.int k m)
 |[],m,h0=>by refine opv h0 fun _ ι w s _ ⟨vs,h1,_,es⟩=>⟨_,?_,Xh _ _⟩;rw[es,Jc h1];simp
 | .agg _::_,_,h0=>by cases h0
 | .c y::r,m,h0=>by
  cases y<;>first|(cases h0;done)|skip
  rename_i k' n;obtain⟨hk,h1⟩:=zQ (show cond (eqIK k k') (vE mx k K (mmE mx m n) r) none=some r0 from h0);obtain rfl:=lu hk;obtain⟨res,a,b,c⟩:=UZ r (mmE mx m n) h1;refine⟨res,a,b,fun hg ι w s hd ⟨vs,h1,h2,es⟩=> ?_⟩;cases vs with
  |nil=>cases h1
  |cons v vs=> obtain⟨u,hu,hr⟩:=h2 0 _ rfl;cases hu;obtain rfl:=zT rfl hr;obtain⟨z,z1,z2⟩:=c hg ι w _ hd ⟨vs,by simpa using h1,fun j t ht=>h2 (j+1) t ht,rfl⟩;refine⟨z,?_,z2⟩;rw[es,List.foldlM_cons,Sem.run_bind];rw[show((if mx=true then Builtin.max2 else Builtin.min2) (.int k m) (.int k n)).run P w= .ok (.int k (mmE mx m n)) w by cases mx<;>simp[Builtin.max2,Builtin.min2,mmE]];exact z1
theorem bT{mx:Bool}{as:List (ET I.C)}(ts:Array TypeId)(tt:TypeId)(h0:rD mx as K=some r0):
  OpV P g h K r0 fun ι w s=> ∃vs:List Value,vs.length=as.length/\(∀(j:Nat) (t:ET I.C),as[j]? =some t-> ∃u,vs[j]? =some u/\RepT ι w t u)/\s=if mx=true then Builtin.max_ ts tt vs.toArray else Builtin.min_ ts tt vs.toArray:=by
 unfold rD at h0;split at h0
 ·rename_i k m r;refine(UZ _ _ h0).mono fun ι w s ⟨vs,h1,h2,es⟩=> ?_;cases vs with
  |nil=>cases h1
  |cons v vs=> obtain⟨u,hu,hr⟩:=h2 0 _ rfl;cases hu;obtain rfl:=zT rfl hr;refine⟨vs,by simpa using h1,fun j t ht=>h2 (j+1) t ht,?_⟩;rw[es];cases mx<;>rfl
 ·cases h0
end
section
variable {I:Ip} {P:Program} {T:TT} {fk:List (Nat×List Kd)} {ι:Asg} {w w':World} {h:Nat->Option (EO I.C)} {nx:Nat} {R:Type} {r0:R} {q:Path} {g:Bool} {K:Kt I R}
def OpD(P:Program)(g:Bool)(h:Nat->Option (EO I.C))(nx:Nat)(K:Kt I R)(r0:R)(A:Asg->World->Sem Value->Prop):Prop:=
 ∃res,K res=some r0/\(g=false->res.up=[])/\(g=true-> ∀ι w s,Wf ι w->Hd P h (res.rd++res.up.map (·.1)) ι w->(∀j,j<res.k->ι (nx+j)= .free)->A ι w s-> ∃v w',s.run P w= .ok v w'/\Done P ι w nx res v w')
theorem Hd.mono{l m:List Nat}(hd:Hd P h l ι w)(hm: ∀i∈m,i∈l):Hd P h m ι w:=⟨hd.1,fun i hi=>hd.2 i (hm i hi)⟩
theorem OpV.opd{A:Asg->World->Sem Value->Prop}(h1:OpV P g h K r0 A):OpD P g h nx K r0 A:=
 let⟨res,a,b,c⟩:=h1
 ⟨res,a,fun _=>b,fun hg ι w s W hd _ hA=>by
  obtain⟨v,e1,e2⟩:=c hg ι w s (hd.mono fun i hi=>We _ hi) hA;refine⟨v,w,e1,?_⟩;obtain⟨x,up,rd,k⟩:=res;cases b;exact .same W e2⟩
theorem opd {x:EL I.C} {up:EHeap I.C} {rd:List Nat} {k:Nat} {A:Asg->World->Sem Value->Prop} (h0:K ⟨x,up,rd,k⟩=some r0) (hu:g=false->up=[])
  (h1:g=true-> ∀ι w s,Wf ι w->Hd P h (rd++up.map (·.1)) ι w->(∀j,j<k->ι (nx+j)= .free)->A ι w s-> ∃v w',s.run P w= .ok v w'/\Done P ι w nx ⟨x,up,rd,k⟩ v w'):OpD P g h nx K r0 A:=⟨_,h0,hu,h1⟩
theorem fr0{k:Nat}(h: ∀j,j<k+1->ι (nx+j)= .free):ι nx= .free:=h 0 (by omega)
def LesR(ι:Asg)(w:World)(R R':List (List (EV I.C))):Prop:=R'.length=R.length/\ ∀(i:Nat) (r r':List (EV I.C)),R[i]? =some r->R'[i]? =some r'->r'.length=r.length/\ ∀(j:Nat) (x x':EV I.C),r[j]? =some x->r'[j]? =some x'-> ∀v,RepV ι w x v->RepV ι w x' v
theorem LesR.refl(R:List (List (EV I.C))):LesR ι w R R:=⟨rfl,fun i r r' h h'=>by rw[h]at h';cases h';exact⟨rfl,fun j x x' h h' v=>by rw[h]at h';cases h';exact id⟩⟩
theorem LesR.app{R R' S S':List (List (EV I.C))}(h1:LesR ι w R R')(h2:LesR ι w S S'):LesR ι w (R++S) (R'++S'):=by
 refine⟨by simp[h1.1,h2.1],fun i r r' hr hr'=> ?_⟩;rw[Uc]at hr hr';rw[h1.1]at hr';split at hr<;>rename_i hi
 ·rw[Ka hi]at hr';exact h1.2 i r r' hr hr'
 ·rw[Ja hi]at hr';exact h2.2 _ r r' hr hr'
theorem Qr.les{k:Nat}{R R':List (List (EV I.C))}{cur:Array Value}(h:Qr ι w k R cur)(hl:LesR ι w R R'):Qr ι w k R' cur:=by
 have row: ∀(i:Nat) r',R'[i]? =some r'-> ∃r,R[i]? =some r:=fun i r' h'=>⟨_,Xa (by rw[<-hl.1];exact(Ma.1 h').1)⟩;refine⟨fun r' hr'=> ?_,fun i r' j x' hi hj=> ?_⟩
 ·obtain⟨i,hi,rfl⟩:=Kh hr';obtain⟨r,hr⟩:=row i _ (Xa hi);rw[(hl.2 i r _ hr (Xa hi)).1,h.1 r (Nb hr)]
 ·obtain⟨r,hr⟩:=row i r' hi;obtain⟨e1,e2⟩:=hl.2 i r r' hr hi;have hp:=Xa (l:=r) (i:=j) (by rw[<-e1];exact(Ma.1 hj).1);obtain⟨v,a1,a2,a3⟩:=h.2 i r j _ hr hp;exact⟨v,a1,a2,e2 j _ x' hp hj v a3⟩
theorem iE(hI:IpOK P I){t:Nat}{cs:List (EV I.C)}{x:I.C t}(h:I.made t cs=some x):cs.length=P.cellsOf t/\ ∀ι w,LesR ι w [cs] [I.exp t x]:=by
 obtain⟨h1,h2,h3⟩:=hI.made t cs x h;rw[hI.len]at h2;refine⟨h2,fun ι w=>⟨rfl,fun i r r' hr hr'=> ?_⟩⟩;obtain⟨rfl,rfl⟩:r=cs/\r'=I.exp t x:=by cases i<;>simp at hr hr';exact⟨hr.symm,hr'.symm⟩
 refine⟨by rw[Vm hI,h2],fun j a b ha hb v hv=> ?_⟩;obtain⟨e1,e2⟩:=Lm hI hb;exact(Oi e2).2 ((h3 j _ _ (by rw[Sa,ha];rfl) e1).rep ((Oi (h1 a (Nb ha))).1 hv))
theorem pK{x:ET I.C}{v:Value}(hx:RepT ι w x v):RepA ι w x.cells v.cells:=by
 cases x with
 |c x=>
  have e:v.cells= #[v]:=by have h1:=hx.1;cases v<;>first|rfl|(simp[Value.oneCell']at h1)
  rw[e];refine⟨rfl,fun j c hj=> ?_⟩;cases j with
  |zero=>simp[ET.cells]at hj;subst hj;exact⟨v,rfl,hx⟩
  |succ n=>simp[ET.cells]at hj
 |agg xs=>obtain⟨vs,rfl,h1⟩:=hx;exact h1
theorem RepA.cells{xs:List (EV I.C)}{X:Array Value}(h:RepA ι w xs X){k:Nat}(hk:xs.length=k):Qr ι w k [xs] X:=by
 refine⟨fun row hr=>by simp at hr;rw[hr,hk],fun i row j x hi hj=> ?_⟩;cases i with
 |zero=>simp at hi;subst hi;rw[Cg,Od];exact h.2 j x hj
 |succ n=>simp at hi
theorem RepA.one{xs:List (EV I.C)}{X:Array Value}(h:RepA ι w xs X): ∀v∈X.toList,v.oneCell'=true:=fun v hv=>by obtain⟨j,hj,rfl⟩:=Kh hv;obtain⟨u,a,b,_⟩:=h.2 j _ (Xa (by rw[<-h.1];simpa using hj));rw[<-De,Xa hj]at a;rw[Option.some.inj a];exact b
theorem GU {id i c:Nat} {o:EO I.C} (W:Wf ι w) (hh:ng P ι w id o) {row:List (EV I.C)} (hi:(Zf o)[i]? =some row) {t:Nat} (hb:kdOf P t≠ .bad) {x:ET I.C} (hl:x.cells.length=P.cellsOf t) (hc:c+P.cellsOf t<=row.length)
  {va vx:Value} (ha:RepT (I:=I) ι w (.c (.optr id i c)) va) (hx:RepT ι w x vx) {o':EO I.C} (h1:kE P o'=kE P o) (h2:tyE o'=tyE o) (h3: ∀w',LesR ι w' ((Zf o).set i (row.take c++x.cells++row.drop (c+P.cellsOf t))) (Zf o')):
  ∃b w',ι id= .live (some b) (kE P o) (Zf o).length/\(Instr.storeAt t va vx).run P w= .ok () w'/\Chg w w' b/\ng P ι w' id o':=by
 obtain⟨b,cur,fr,ty2,g1,g2,g3,g4,g5,g6,g7⟩:=hh.row hi;have ha:PtAt (ι id) i c va:=ha.2;rw[g1]at ha;obtain⟨b',e,rfl⟩:=ha;cases e;have hx':=pK hx;have hsz:vx.cells.size=P.cellsOf t:=by rw[hx'.1,hl]
 obtain⟨d,hd⟩:=Hq hb;obtain⟨inf,hinf⟩:=FE hd;have hil:=(Ma.1 hi).1;have hin:i*kE P o+c+vx.cells.size<=cur.size:=by have h5:(i+1)*kE P o<=(Zf o).length*kE P o:=Tc _ hil;rw[je]at h5;omega
 have hrun:=XG (P:=P) (g:=b) (o:=i*kE P o+c) (t:=ty2) (fr:=fr) vx.cells.toList 0 cur w g2 g3.out (by simpa using hin) hx'.one;simp only[Ad,Ce]at hrun;generalize hcur':(cur.toList.take (i*kE P o+c)++vx.cells.toList++cur.toList.drop (i*kE P o+c+vx.cells.size)).toArray=cur' at hrun;have hsz':cur'.size=cur.size:=by rw[<-hcur'];simp only[af,Ea,Lc,Dc,Ce];omega
 have hget: ∀j:Nat,cur'[j]? =if i*kE P o+c<=j/\j<i*kE P o+c+P.cellsOf t then vx.cells[j - (i*kE P o+c)]? else cur[j]? :=by intro j;have:=TD (l:=cur.toList) (v:=vx.cells.toList) (off:=i*kE P o+c) (by simpa using hin) j;rw[Ce,hsz,De (xs:=vx.cells),De (xs:=cur)]at this;rw[<-this,<-hcur',hsz];simp
 have hch:=IL (w:=w) (cur':=cur') g2 hsz';obtain⟨S,W'⟩:=Ny (T:=(· =id)) W g1 rfl hch;refine⟨b,_,g1,?_,hch,?_⟩
 ·simp only[Instr.storeAt,Instr.sureAddr,Sem.run_bind,Sem.run_pure,Result.andThen_ok,storeVar,jv hinf];rw[Ja (by simp[hsz])];exact hrun
 ·refine⟨some b,?_,?_⟩
  ·rw[h1,(h3 w).1,List.length_set];exact g1
  rw[h1,h2];have hcr:Qr ι w (kE P o) ((Zf o).set i (row.take c++x.cells++row.drop (c+P.cellsOf t))) cur':=by
   refine⟨fun r' hr'=> ?_,fun ii r' j y hii hj=> ?_⟩
   ·rcases List.mem_or_eq_of_mem_set hr' with h4|h4
    ·exact g6.1 r' h4
    ·subst h4;simp only[Ea,Lc,Dc];omega
   ·rw[List.getElem?_set]at hii;split at hii
    ·rename_i e;subst e
     try rw[Ka hil]at hii
     cases hii;rw[<-hl,TD (by rw[hl];exact hc),hl]at hj;rw[hget];split at hj<;>rename_i hjc
     ·obtain⟨u,a1,a2⟩:=hx'.2 _ y hj;refine⟨u,?_,a2⟩;rw[Ka (by omega),<-a1];congr 1;omega
     ·obtain⟨u,a1,a2⟩:=g6.2 i row j y hi hj;exact⟨u,by rw[Ja (by omega)];exact a1,a2⟩
    ·rename_i hne;obtain⟨u,a1,a2⟩:=g6.2 ii r' j y hii hj;refine⟨u,?_,a2⟩;have hjk:j<kE P o:=by rw[<-g6.1 r' (Nb hii)];exact(Ma.1 hj).1
     rw[hget,Ja,a1];rintro⟨q1,q2⟩;rcases ic ii i with hlt|hge
     ·have:(ii+1)*kE P o<=i*kE P o:=Tc _ hlt;rw[je]at this;omega
     ·have:(i+1)*kE P o<=ii*kE P o:=Tc _ (by omega);rw[je]at this;omega
  exact(hcr.les (h3 w)).blk S (setRow_heap w b cur cur' _ fr g2) (by rw[hsz'];exact g3) (by rw[hsz',(h3 w).1,List.length_set];exact g5)
theorem gP {id i c:Nat} {o:EO I.C} (W:Wf ι w) (hh:ng P ι w id o) {row:List (EV I.C)} (hi:(Zf o)[i]? =some row) {t:Nat} (hb:kdOf P t≠ .bad) {x:ET I.C} (hl:x.cells.length=P.cellsOf t) (hc:c+P.cellsOf t<=row.length)
  {va vx:Value} (ha:RepT (I:=I) ι w (.c (.optr id i c)) va) (hx:RepT ι w x vx) {o':EO I.C} (ho:isR o'=true) (h1:kE P o'=kE P o) (h2:tyE o'=tyE o) {rd:List Nat} (h3: ∀w',LesR ι w' ((Zf o).set i (row.take c++x.cells++row.drop (c+P.cellsOf t))) (Zf o')):
  ∃w',(Instr.storeAt t va vx).run P w= .ok () w'/\Done P ι w nx ⟨.any,[(id,o')],rd,0⟩ undef w':=by
 obtain⟨b,w',g1,hr,hch,hh'⟩:=GU W hh hi hb hl hc ha hx h1 h2 h3;obtain⟨S,W'⟩:=Ny (T:=fun j=>j∈[(id,o')].map (·.1)) W g1 (by simp) hch;exact⟨w',hr,ι,S,W',trivial,fun p hp=>by simp at hp;subst hp;exact(Zg ho).2 hh',fun _ h _=>h⟩
theorem Inn.keep{ι':Asg}{id e:Nat}{l:List (List (I.C e))}{S:List (Option (Nat×Nat))}(h:Inn P ι w id e l S)(hC:Conv ι w ι' w'){id':Nat}(hX: ∀b,ι.X b= .inn id->ι'.X b= .inn id'/\w'.heap[b]? =w.heap[b]?):Inn P ι' w' id' e l S:=
 ⟨h.1,h.2.1,fun j m s hm hs=>by
  have:=h.2.2 j m s hm hs;cases s with
  |none=>exact this
  |some s=>
   obtain⟨x1,⟨ty,x2⟩,x3⟩:=this;exact⟨(hX _ x1).1,⟨ty,hC.shape _ _ x2⟩,x3.les (fun b' e=>by cases e;exact(hX _ x1).2) (Les.map (fun _ _ h=>h.conv hC) _)⟩⟩
theorem zDa{id e:Nat}{l:List (List (I.C e))}{S:List (Option (Nat×Nat))}(h:Inn P ι w id e l S):(Wi P e l S).length=l.length:=by simp[Wi,h.1]
theorem zDu{id t e:Nat}{l:List (List (I.C e))}{c y:EV I.C}(W:Wf ι w)(hh:qY P ι w id (.slq t e l c)){u:Nat}(hb:kdOf P u≠ .bad)(hu:P.cellsOf u=1){va vx:Value}(ha:RepT (I:=I) ι w (.c (.optr id l.length 0)) va)(hx:RepT ι w (.c y) vx){rd:List Nat}:
  ∃w',(Instr.storeAt u va vx).run P w= .ok () w'/\Done P ι w nx ⟨.any,[(id, .slq t e l y)],rd,0⟩ undef w':=by
 obtain⟨S,z,hr⟩:=hh;have hl:=zDa z;obtain⟨b,w',g1,h2,hch,hh'⟩:=GU (o':= .rows t 1 (Wi P e l S++[[y]])) W hr (i:=l.length) (row:=[c]) (by simp[Zf,<-hl]) hb (by rw[hu];rfl) (by rw[hu];exact ja _) ha hx rfl rfl fun w'=>by
  rw[hu];have:(Wi P e l S++[[c]]).set l.length [y]=Wi P e l S++[[y]]:=by rw[<-hl];simp
  simp only[Zf,mf,ET.cells,Vb,Db,Od,List.drop_one,List.tail_cons,this];exact .refl _
 obtain⟨S',W'⟩:=Ny (T:=fun j=>j∈[(id,(EO.slq t e l y:EO I.C))].map (·.1)) W g1 (by simp) hch;exact⟨w',h2,ι,S',W',trivial,fun p hp=>by
  simp at hp;subst hp;exact⟨S,Inn.keep (P:=P) z S'.toConv fun b' e'=>⟨e',hch.other b' fun eb=>by have:=(W.lt _ _ _ _ g1).2;rw[<-eb,e']at this;cases this⟩,hh'⟩,fun _ h _=>h⟩
theorem bR{α:Type}{l:List α}{i:Nat}{y:α}(h:l[i]? =some y)(z:α):l.set i z=l.take i++z::l.drop (i+1):=by rw[List.set_eq_take_append_cons_drop,Ka (Ma.1 h).1]
def nbad(i:TI):Bool:=match i.kd with| .bad=>false|_=>true
theorem zDt(hI:IpOK P I)(hT:TOK P T fk){t:Nat}{a x:ET I.C}(hg:q=[]->g=true)(h0:KO (T.at t) h a x q K=some r0):
  ∃res,K res=some r0/\(g=false->res.up=[])/\(g=true-> ∀ι w va vx,Wf ι w->Hd P h (res.rd++res.up.map (·.1)) ι w->RepT ι w a va->RepT ι w x vx-> ∃w',(Instr.storeAt t va vx).run P w= .ok () w'/\Done P ι w nx res undef w'):=by
 unfold KO at h0;split at h0
 case h_2=>cases h0
 rename_i id i c;have kd:nbad (T.at t)=true->T.at t=ti P t/\kdOf P t≠ .bad:=by intro h;have e:T.at t=ti P t:=Gl hT (.inl fun e=>by unfold nbad at h;rw[e]at h;cases h);refine⟨e,fun e'=> ?_⟩;unfold nbad at h;rw[e,show(ti P t).kd=kdOf P t from rfl,e']at h;cases h
 have key: ∀{o o':EO I.C} {row:List (EV I.C)} {res:OR I.C} {rd:List Nat},K res=some r0->res=⟨.any,[(id,o')],rd,0⟩->isR o=true->isR o'=true->h id=some o->(Zf o)[i]? =some row->Nat.beq x.cells.length (T.at t).sz=true->Nat.ble (c+(T.at t).sz) row.length=true->
   nbad (T.at t)=true->kE P o'=kE P o->tyE o'=tyE o->(∀ι w',LesR ι w' ((Zf o).set i (row.take c++x.cells++row.drop (c+(T.at t).sz))) (Zf o'))->
   ∃res,K res=some r0/\(g=false->res.up=[])/\(g=true-> ∀ι w va vx,Wf ι w->Hd P h (res.rd++res.up.map (·.1)) ι w->RepT (I:=I) ι w (.c (.optr id i c)) va->RepT ι w x vx-> ∃w',(Instr.storeAt t va vx).run P w= .ok () w'/\Done P ι w nx res undef w'):=by
  intro o o' row res rd hK hres ho ho' hid hi hl hc hb h1 h2 h3;subst hres;refine⟨_,hK,(fun e=>by rw[hg rfl]at e;cases e),fun _ ι w va vx W hd ha hx=> ?_⟩;obtain⟨e,hb⟩:=kd hb;have hsz:(T.at t).sz=P.cellsOf t:=by rw[e];rfl
  rw[hsz]at hl hc h3;exact gP W ((Zg ho).1 (hd.2 id (by simp) o hid)) hi hb (Ya hl) (Kc hc) ha hx ho' h1 h2 (h3 ι)
 split at h0
 ·rename_i ty cs hid;obtain⟨hc,h0⟩:=zQ h0;simp only[Da]at hc;obtain⟨⟨⟨c1,c2⟩,c3⟩,c4⟩:=hc;refine key h0 rfl rfl rfl hid (row:=cs) (by rw[Ya c1];rfl) c2 c3 c4 ?_ rfl fun ι w'=> ?_
  ·have:=Kc c3;have:=Ya c2;simp only[kE,Ea,Lc,Dc];omega
  ·rw[Ya c1];exact .refl _
 ·rename_i u l hid;obtain⟨y,hy,h0⟩:=Ha.1 h0;have hrow:(Zf (.sl u l:EO I.C))[i]? =some (I.exp u y):=by show(l.map _)[i]? =_;rw[Sa,hy];rfl
  obtain⟨hc,h0⟩:=zQ h0;simp only[Da]at hc;obtain⟨⟨c2,c3⟩,c4⟩:=hc;have hs: ∀z:List (EV I.C),(Zf (.sl u l:EO I.C)).set i z=(l.take i).map (I.exp u)++z::(l.drop (i+1)).map (I.exp u):=fun z=>by rw[bR hrow,Ig,List.map_drop];rfl
  cases hp:x.cells.all O3<;>rw[hp]at h0
  ·refine key h0 rfl rfl rfl hid hrow c2 c3 c4 rfl rfl fun ι w'=> ?_;rw[hs];exact .refl _
  ·obtain⟨z,hz,h0⟩:=Ha.1 h0;refine key h0 rfl rfl rfl hid hrow c2 c3 c4 rfl rfl fun ι w'=> ?_;have e:Zf (.sl u (l.set i z):EO I.C)=(l.take i).map (I.exp u)++([I.exp u z]++(l.drop (i+1)).map (I.exp u)):=by show(l.set i z).map _=_;rw[bR hy,Te];rfl
   rw[hs,e];exact(LesR.refl _).app (((iE hI hz).2 ι w').app (.refl _))
 ·rename_i u l1 cs l2 hid;obtain⟨hc,h0⟩:=zQ h0;simp only[Da]at hc;obtain⟨⟨c2,c3⟩,c4⟩:=hc;obtain⟨e,h0⟩:=Qp h0;have e:=Ya e;refine key h0 rfl rfl rfl hid (row:=cs) (by rw[e];simp[Zf]) c2 c3 c4 rfl rfl fun ι w'=> ?_;rw[e];have:(Zf (.slo u l1 cs l2:EO I.C)).set l1.length (cs.take c++x.cells++cs.drop (c+(T.at t).sz))=Zf (.slo u l1 (cs.take c++x.cells++cs.drop (c+(T.at t).sz)) l2):=by simp[Zf,List.set_append]
  rw[this];exact .refl _
 ·split at h0
  case h_2=>cases h0
  rename_i y;obtain⟨hc,h9⟩:=zQ h0;clear h0;simp only[Da]at hc;obtain⟨⟨c2,c3⟩,c4⟩:=hc;obtain⟨e,h8⟩:=Qp h9;clear h9;obtain rfl:=Ya e;obtain rfl:=Ya c3;obtain⟨e,hb⟩:=kd c4;refine⟨_,h8,(fun e=>by rw[hg rfl]at e;cases e),fun _ ι w va vx W hd ha hx=> ?_⟩;exact zDu W (hd.2 _ (by simp) _ (by assumption)) hb (by have:=Ya c2;rw[e]at this;exact this) ha hx
 ·cases h0
end
section
variable {I:Ip} {P:Program} {T:TT} {fk:List (Nat×List Kd)} {ι:Asg} {w w':World} {h:Nat->Option (EO I.C)} {nx:Nat} {R:Type} {r0:R} {q:Path} {g:Bool} {K:Kt I R}
theorem mK{v:Value}(h:v.oneCell'=true):Rep1 (I:=I) ι w (Ku v) v:=by have key: ∃x:EV I.C,Ku v=x/\Ps x=some v:=⟨_,rfl,by unfold Ku;split<;>rfl⟩;obtain⟨x,e,hx⟩:=key;rw[e];exact rep1 hx h
theorem jy{z:Array Value}(h: ∀u∈z,u.oneCell'=true):RepA (I:=I) ι w (zeroE z.toList) z:=by
 refine⟨by simp[zeroE],fun j x hx=> ?_⟩;unfold zeroE at hx;simp only[Sa,Ua]at hx;obtain⟨u,hu,rfl⟩:=hx;have hu':z[j]? =some u:=by simpa using hu
 exact⟨u,hu',mK (h u (Array.mem_of_getElem? hu'))⟩
theorem Lt(hT:TOK P T fk){t:Nat}(h:(T.at t).zok=true): ∃i z,P.info? t=some i/\i.zero=some z/\z.cells.size=P.cellsOf t/\(∀u∈z.cells,u.oneCell'=true)/\(T.at t).zero=z.cells.toList:=by have e:=Gl hT (.inr (.inl h));rw[e]at h ⊢;exact tC h
theorem xH{id b k n:Nat}(e:ι id= .live (some b) k n):RepL (I:=I) ι w (.v (.c (.optr id 0 0))) (.pointer (some ⟨b,0,none⟩)):=R7 e
theorem zDW(hT:TOK P T fk){t:Nat}(hg:q=[]->g=true)(hq:q=[])(hz:(T.at t).zok=true)(h0:K ⟨.v (.c (.optr nx 0 0)),[(nx, .cells t (zeroE (T.at t).zero))],[],1⟩=some r0):OpD P g h nx K r0 fun _ _ s=>s=Instr.alloc t true (.tuple #[]):=by refine opd h0 (fun e=>by rw[hg hq]at e;cases e) fun _ ι w s W hd hf es=> ?_;obtain⟨i,z,hi,hz,hs,h1,h2⟩:=Lt hT hz;rw[h2];have hr:=jy (I:=I) (ι:=ι) (w:=w) h1;have hlen:(zeroE z.cells.toList:List (EV I.C)).length=z.cells.size:=hr.1.symm;refine⟨_,_,?_,Done.grow (o:= .cells t (zeroE z.cells.toList)) (cur:=z.cells) (fr:=(0,0)) W (fr0 hf) rfl (Hr w _) (.inl rfl) (hr.cells rfl) (by simp[Zf,kE,hlen]) none (by simp) fun _ _ _ e=>xH e⟩;subst es;simp only[Instr.alloc,Sem.run_bind,Yy hi hz,Result.andThen_ok,newVar,newRow,run_newObj,Sem.run_pure];rfl
theorem zIT{t:Nat}{x:ET I.C}(hg:q=[]->g=true)(hq:q=[])(h0:K ⟨.v (.c (.optr nx 0 0)),[(nx, .cells t x.cells)],[],1⟩=some r0):OpD P g h nx K r0 fun ι w s=> ∃v,RepT ι w x v/\s=Instr.box t v:=by refine opd h0 (fun e=>by rw[hg hq]at e;cases e) fun _ ι w s W hd hf ⟨v,hv,es⟩=> ?_;have hr:=pK hv;refine⟨_,_,?_,Done.grow (o:= .cells t x.cells) (cur:=v.cells) (fr:=(0,0)) W (fr0 hf) rfl (Hr w _) (.inl rfl) (hr.cells rfl) (by simp[Zf,kE,hr.1]) none (by simp) fun _ _ _ e=>xH e⟩;subst es;simp only[Instr.box,Sem.run_bind,newVar,newRow,run_newObj,Result.andThen_ok,Sem.run_pure];rfl
def Ox(E:Operand->EL I.C)(q:Path)(ι:Asg)(w:World)(parts:List (Nat×Operand))(V:Operand->Value):Prop:= ∀p∈parts,∀t,useE q (E p.2)=some t->RepT ι w t (V p.2)
theorem YD(place:Nat->Option (Nat×Nat)){E:Operand->EL I.C}{V:Operand->Value}: ∀(parts:List (Nat×Operand)) (ps:List (Nat×List (EV I.C))) (cs cs':List (EV I.C)) (X:Array Value),
  Mx E q parts=some ps->Ox E q ι w parts V->RepA ι w cs X->Ns place ps cs=some cs'-> ∃X',Instr.fill place X (parts.map fun p=>(p.1,V p.2))=some X'/\RepA ι w cs' X'/\cs'.length=cs.length
 |[],ps,cs,cs',X,h,_,hX,hf=>by cases h;cases hf;exact⟨X,rfl,hX,rfl⟩
 |(i,o)::r,ps,cs,cs',X,h,hV,hX,hf=>by
  simp only[Mx]at h;split at h
  case h_2=>cases h
  rename_i t l ht hl;cases h;have c2:=pK (hV (i,o) (by simp) t ht);simp only[Ns]at hf;cases hp:place i with
  |none=>rw[hp]at hf;cases hf
  |some z=>
   obtain⟨off,size⟩:=z;rw[hp]at hf;obtain⟨hc,hf⟩:=zQ hf;simp only[Da]at hc;have hc1:=Ya hc.1;have hc2:=Kc hc.2;simp only[ib,Instr.fill,hp];have hsz:off+(V o).cells.size<=X.size:=by rw[c2.1,hX.1];omega
   rw[Ja (by simp only[c2.1,hc1,ne_eq,not_true_eq_false,decide_false,Xb,Eb,Nat.not_lt,gt_iff_lt];rw[hX.1];omega)];rw[zDY];have hfold:=AQ off (V o).cells.toList 0 X (by simp only[Ad,Ce];exact hsz);simp only[Ad,Ce]at hfold;obtain⟨X',g1,g2,g3⟩:=YD place r l _ cs' (((V o).cells.toList.zipIdx 0).foldl (fun cs (c:Value×Nat)=>cs.setIfInBounds (off+c.2) c.1) X) hl (fun p hp=>hV p (Cc _ hp)) ⟨by
     rw[<-Ce,hfold];simp only[Ea,Lc,Dc,Ce];rw[hX.1,c2.1];omega,fun j x hj=>by
     rw[<-hc1,TD (by omega)]at hj;rw[<-De,hfold];have:=TD (l:=X.toList) (v:=(V o).cells.toList) (off:=off) (by simpa using hsz) j;simp only[Ce]at this;rw[this];split at hj<;>rename_i hjc
     ·rw[Ka (by rw[c2.1];exact hjc)];simpa using c2.2 _ x hj
     ·rw[Ja (by rw[c2.1];exact hjc)];simpa using hX.2 j x hj⟩ hf
   exact⟨X',g1,g2,by rw[g3];simp;omega⟩
theorem zAQ(hT:TOK P T fk){E:Operand->EL I.C}{t:Nat}{parts:Array (Nat×Operand)}(h0:MP T E q t parts.toList K=some r0):
  OpV P g h K r0 fun ι w s=> ∃V,Ox E q ι w parts.toList V/\s=Instr.build t (parts.map fun(i,x)=>(i,V x)):=by
 have hpv: ∀V:Operand->Value,(parts.map fun(i,x)=>(i,V x)).toList=parts.toList.map fun p=>(p.1,V p.2):=by simp
 unfold MP at h0;split at h0
 case h_1=>cases h0
 rename_i ps hps;split at h0
 ·rename_i fs hk;obtain⟨l,hl,rfl⟩:=XZ (Gg hT hk (by simp));obtain⟨cs,hc,h0⟩:=zY h0;obtain⟨hh,h0⟩:=zQ h0;rw[Da]at hh;obtain⟨i,z,hi,hz,hs,hz1,hz2⟩:=Lt hT hh.1;rw[hz2]at hc;have hb: ∀f∈l.toList,T.at f.type=ti P f.type/\kdOf P f.type≠ .bad:=fun f hf=>by have h3:nbad (T.at f.type)=true:=Ab.1 hh.2 (f.offset,f.type) (Pb.2 ⟨f,hf,rfl⟩);have e:T.at f.type=ti P f.type:=Gl hT (.inl fun e=>by unfold nbad at h3;rw[e]at h3;cases h3);refine⟨e,fun e'=> ?_⟩;unfold nbad at h3;rw[e,show(ti P f.type).kd=kdOf P f.type from rfl,e']at h3;cases h3
  refine opv h0 fun _ ι w s _ ⟨V,hV,es⟩=> ?_;obtain⟨X',f1,f2,_⟩:=YD _ parts.toList ps _ cs _ hps hV (jy hz1) hc;refine⟨.agg X',?_,X',rfl,f2⟩;have hpl:(l.mapM (m:=Sem) fun f=>do pure (f.offset,<-sizeOf f.type)).run P w= .ok (l.toList.map fun f=>(f.offset,P.cellsOf f.type)).toArray w:=by rw[Array.mapM_eq_mapM_toList,Sem.run_map,LU (P:=P) (w:=w) l.toList fun f hf=>(hb f hf).2];rfl
  have hpe:(fun i:Nat=>((l.toList.map fun f=>(f.offset,P.cellsOf f.type)).toArray)[i]?)=fun i=>((l.toList.map fun f=>(f.offset,f.type))[i]?).map fun f=>(f.1,(T.at f.2).sz):=by
   funext i;simp only[List.getElem?_toArray,Sa,Option.map_map];cases hf:l.toList[i]? with
   |none=>rfl
   |some f=>simp[(hb f (Nb hf)).1,ti]
  subst es;simp only[Instr.build,Sem.run_bind,Yy hi hz,Result.andThen_ok,run_underlying hl,hpl,hpv,hpe,f1,Sem.run_pure]
 ·rename_i n e' hk;obtain⟨cs,hc,h0⟩:=zY h0;obtain⟨hh,h0⟩:=zQ h0;rw[Da]at hh;obtain⟨i,z,hi,hz,hs,hz1,hz2⟩:=Lt hT hh.1;obtain⟨s1,s2⟩:=oh hT hh.2;rw[hz2,s1]at hc;refine opv h0 fun _ ι w s _ ⟨V,hV,es⟩=> ?_;obtain⟨X',f1,f2,_⟩:=YD _ parts.toList ps _ cs _ hps hV (jy hz1) hc;refine⟨.agg X',?_,X',rfl,f2⟩;subst es;simp only[Instr.build,Sem.run_bind,Yy hi hz,Result.andThen_ok,run_underlying (Et (Gg hT hk (by simp))),Wl s2,hpv,f1,Sem.run_pure]
 ·cases h0
def Gj(k:Nat):Nat->List (EV I.C)->List (List (EV I.C))
 |0,_=>[]
 |n+1,l=>l.take k::Gj k n (l.drop k)
theorem fF{k:Nat}: ∀(n:Nat) (l:List (EV I.C)) (i:Nat),(Gj k n l)[i]? =if i<n then some ((l.drop (i*k)).take k)else none
 |0,l,i=>by simp[Gj]
 |n+1,l,0=>by simp[Gj]
 |n+1,l,i+1=>by simp only[Gj,Pf,fF n,Td,Nat.succ_mul,Rh k,Nat.add_lt_add_iff_right]
theorem Tz{k:Nat}: ∀(n:Nat) (l:List (EV I.C)),(Gj k n l).length=n
 |0,l=>rfl
 |n+1,l=>by simp[Gj,Tz n]
theorem RepA.chunks{cs:List (EV I.C)}{X:Array Value}{k n:Nat}(h:RepA ι w cs X)(hl:cs.length=n*k):Qr ι w k (Gj k n cs) X:=by
 refine⟨fun row hr=> ?_,fun i row j x hi hj=> ?_⟩
 ·obtain⟨i,hi,rfl⟩:=Kh hr;have h1:=Xa hi;rw[Tz]at hi;rw[fF,Ka hi]at h1;rw[<-Option.some.inj h1];have:=eD (k:=k+1) (j:=0) hi (by omega);have:i*k+k<=n*k:=by rw[<-Nat.succ_mul];exact Tc _ hi
  simp;omega
 ·rw[fF]at hi;split at hi<;>cases hi;rw[Wd]at hj;split at hj
  ·rw[Pd]at hj;exact h.2 _ x hj
  ·cases hj
theorem OU(hI:IpOK P I){t:Nat}: ∀{n:Nat} {cs:List (EV I.C)} {l:List (I.C t)},Bt I t (P.cellsOf t) n cs=some l->l.length=n/\ ∀ι w,LesR ι w (Gj (P.cellsOf t) n cs) (l.map (I.exp t))
 |0,cs,l,h0=>by cases h0;exact⟨rfl,fun _ _=> .refl _⟩
 |n+1,cs,l,h0=>by simp only[Bt]at h0;obtain⟨x,h1,h2⟩:=Ha.1 h0;obtain⟨l',h3,h4⟩:=Ha.1 h2;cases h4;obtain⟨i1,i2⟩:=OU hI h3;exact⟨by simp[i1],fun ι w=>((iE hI h1).2 ι w).app (i2 ι w)⟩
theorem mR{k:Nat}{z:Array Value}(hz:z.size=k)(hk:0<k)(h1: ∀u∈z,u.oneCell'=true)(n:Nat):
  (List.replicate n (zeroE z.toList:List (EV I.C))).flatten.length=n*k/\RepA (I:=I) ι w (List.replicate n (zeroE z.toList)).flatten ((Array.range (n*k)).map fun i=>z[i%z.size]!):=by
 have hzl:(zeroE z.toList:List (EV I.C)).length=k:=by simp[zeroE,hz]
 have hlen: ∀n,(List.replicate n (zeroE z.toList:List (EV I.C))).flatten.length=n*k:=by
  intro n
  induction n with
  |zero=>simp
  |succ n ih=>rw[Jh,bf,Ea,hzl,ih,je];omega
 have hget: ∀n j x,(List.replicate n (zeroE z.toList:List (EV I.C))).flatten[j]? =some x->(zeroE z.toList)[j%k]? =some x:=by
  intro n
  induction n with
  |zero=>intro j x h;simp at h
  |succ n ih=>
   intro j x h;rw[Jh,bf,Uc,hzl]at h;split at h<;>rename_i hj
   ·rw[ve hj];exact h
   ·have:=ih _ _ h
    rwa [show(j - k)%k=j%k by rw[<-Nat.mod_eq_sub_mod (by omega)]]at this
 refine⟨hlen n,by simp[hlen],fun j x hj=> ?_⟩;have hj':j<n*k:=by rw[<-hlen];exact(Ma.1 hj).1
 obtain⟨u,a1,a2⟩:=(jy (I:=I) (ι:=ι) (w:=w) h1).2 _ x (hget n j x hj);refine⟨u,?_,a2⟩;have hm:j%k<z.size:=by rw[hz];exact Uf _ hk
 rw[Pe hm]at a1;injection a1 with a1;simp[hj',hz,getElem!_pos,hm,<-a1];rw[getElem!_pos z (j%k) hm]
theorem Done.froze(hI:IpOK P I)(W:Wf ι w){e c:Nat}{l:List (I.C e)}{cur:Array Value}{ty:Nat}(g:Grew w w' (.cells cur ty (0,0)))(hc:Qr ι w (P.cellsOf e) (l.map (I.exp e)) cur)(hl:l.length<=c){rd:List Nat}{k:Nat}:
  Done P ι w nx ⟨.v (.c (.sl e l)),[],rd,k⟩ (.slice (some ⟨w.heap.size,0,none⟩) l.length c) w':=by
 have dom: ∀b,Dom ι w b->Dom ι w' b:=fun b hb=>⟨by rw[g.size];have:=hb.1;omega,hb.2⟩;have S: ∀T,Stp T ι w ι w':=fun T=>⟨⟨g.wld.shape,dom,fun b hb=>g.old hb.1⟩,g.os,g.tape,g.output,by rw[g.size];omega,fun _ _ _ _ _ e=>g.old (W.lt _ _ _ _ e).1,fun _ _=> .inl rfl,fun _ _ _=>rfl,fun _ _=>rfl,fun _ h=>h,fun b hx=>g.old (W.xlt b (Hu hx))⟩;refine⟨ι,S _,⟨fun i b k n e=>by rw[g.size];have:=W.lt _ _ _ _ e;exact⟨by omega,this.2⟩,W.inj,W.glob.step (S fun _=>False),fun b hx=>by rw[g.size];have:=W.xlt b hx;omega⟩,⟨rfl,?_⟩,by simp,fun _ h _=>h⟩;have key: ∀(i:Nat) row j x,(l.map (I.full e))[i]? =some row->row[j]? =some x-> ∃v,cur[i*P.cellsOf e+j]? =some v/\RepP (Dom ι w) w x v:=by intro i row j x hi hj;simp only[Sa,Ua]at hi;obtain⟨y,hy,rfl⟩:=hi;rw[hI.exp,Sa,Ua]at hj;obtain⟨u,hu,rfl⟩:=hj;obtain⟨v,a1,_,a2⟩:=hc.2 i _ j u (by rw[Sa,hy];rfl) hu;exact⟨v,a1,(Oi (hI.pur _ _ _ (Nb hu))).1 a2⟩
 refine .sl _ _ _ _ (P.cellsOf e) w.heap.size 0 (fun i j=>(cur[i*P.cellsOf e+j]?).getD undef) (by simp) hl (fun _=>rfl) (fun _=>⟨by rw[g.size];omega,Oe fun hx=>by have:=W.xlt _ hx;omega,fun id k n e=>by have:=(W.lt _ _ _ _ e).1;omega⟩) (fun row hr=> ?_) (fun i row j x hi hj=> ?_) fun i row j x hi hj=> ?_
 ·obtain⟨y,_,rfl⟩:=Pb.1 hr;exact hI.len _ _
 all_goals obtain⟨v,a1,a2⟩:=key i row j x hi hj
 ·rw[cell_of g.new,Od,a1];rfl
 ·rw[a1];exact a2.mono dom fun b hb=>g.old hb.1
theorem zqn(hI:IpOK P I)(hT:TOK P T fk){E:Operand->EL I.C}{fz t len:Nat}{parts:Array (Nat×Operand)}(hg:q=[]->g=true)(h0:XL T E q fz nx t len parts.toList K=some r0):
  OpD P g h nx K r0 fun ι w s=> ∃V,Ox E q ι w parts.toList V/\s=Instr.buildSlice t len (parts.map fun(i,x)=>(i,V x)):=by
 have hpv: ∀V:Operand->Value,(parts.map fun x=>(x.1,V x.2)).toList=parts.toList.map fun p=>(p.1,V p.2):=by simp
 unfold XL at h0;split at h0
 case h_2=>cases h0
 rename_i ps e hps hk;split at h0
 case h_2=>cases h0
 rename_i cs hc;obtain⟨hh,h0⟩:=zQ h0;simp only[Da]at hh;obtain⟨⟨c1,c2⟩,c3⟩:=hh;obtain⟨s1,s2⟩:=oh hT c2;obtain⟨i,z,hi,hz,hs,hz1,hz2⟩:=Lt hT c3;have c1:=Kc c1;rw[s1]at c1 h0;rw[hz2,s1]at hc;rw[aT]at h0;obtain⟨l,hl,h0⟩:=Ha.1 h0;obtain⟨m1,m2⟩:=OU hI hl;have run: ∀{ι w V},Ox E q ι w parts.toList V-> ∃X':Array Value,X'.size=len*P.cellsOf e/\cs.length=len*P.cellsOf e/\Qr ι w (P.cellsOf e) (Gj (P.cellsOf e) len cs) X'/\
   (Instr.buildSlice t len (parts.map fun(i,x)=>(i,V x))).run P w= .ok (.slice (some ⟨w.heap.size,0,none⟩) len len) {w with heap:=w.heap.push (.cells X' e)}:=by
  intro ι w V hV;obtain⟨zl,hX⟩:=mR (I:=I) (ι:=ι) (w:=w) hs s2 hz1 len;obtain⟨X',f1,f2,f3⟩:=YD _ parts.toList ps _ cs _ hps hV hX hc;rw[zl]at f3;refine⟨X',by rw[f2.1,f3],f3,f2.chunks f3,?_⟩;have hk:=Gg hT hk (by simp);by_cases h0:len*P.cellsOf e=0
  ·simp only[Instr.buildSlice,Sem.run_bind,run_underlying (Uh hk),Result.andThen_ok,Wl s2,Ja (show¬len*P.cellsOf e>2 ^ 24 by omega),Sem.run_pure,Ka h0];have e:((Array.range (len*P.cellsOf e)).map fun x=>(#[]:Array Value)[x%(#[]:Array Value).size]!)=(Array.range (len*P.cellsOf e)).map fun i=>z.cells[i%z.cells.size]! :=by rw[h0];simp
   rw[hpv,e,f1];simp only[Sem.run_bind,newRow,run_newObj,Result.andThen_ok,Sem.run_pure]
  ·simp only[Instr.buildSlice,Sem.run_bind,run_underlying (Uh hk),Result.andThen_ok,Wl s2,Ja (show¬len*P.cellsOf e>2 ^ 24 by omega),Sem.run_pure,Ja h0,Yy hi hz];rw[hpv,f1];simp only[Sem.run_bind,newRow,run_newObj,Result.andThen_ok,Sem.run_pure]
 have hmax:len<=maxLen:=by have:len<=len*P.cellsOf e:=Ie _ s2;unfold maxLen;omega
 -- an own slice
 have own: ∀{o:EO I.C},K ⟨.v (.c (.own nx)),[(nx,o)],[],1⟩=some r0->q=[]->isR o=true->kE P o=P.cellsOf e->tyE o=e->(∀ι w,LesR ι w (Gj (P.cellsOf e) len cs) (Zf o))->OpD P g h nx K r0 fun ι w s=> ∃V,Ox E q ι w parts.toList V/\s=Instr.buildSlice t len (parts.map fun(i,x)=>(i,V x)):=by
  intro o h0 hq ho h1 h2 h3;refine opd h0 (fun e=>by rw[hg hq]at e;cases e) fun _ ι w s W _ hf ⟨V,hV,es⟩=> ?_;obtain⟨X',x1,_,x2,x3⟩:=run hV;have hn:(Zf o).length=len:=by rw[(h3 ι w).1,Tz]
  refine⟨_,_,es▸x3,Done.grow (o:=o) (cur:=X') (fr:=(0,0)) W (fr0 hf) ho (by rw[h2];exact Hr w _) (.inl rfl) (by rw[h1];exact x2.les (h3 ι w)) (by rw[hn,h1,x1];exact ja _) none (by simp) fun _ ι' _ e'=>Eu e' ?_⟩;rw[hn,h1];exact PH (t:=e) (fr:=(0,0)) (cur:=X') (by simp) (ja _) hmax (by rw[x1];exact ja _)
 split at h0
 ·refine opd h0 (fun _=>rfl) fun _ ι w s W _ hf ⟨V,hV,es⟩=> ?_;obtain⟨X',x1,_,x2,x3⟩:=run hV;refine⟨_,_,es▸x3,?_⟩;have:=Done.froze (nx:=nx) (rd:=[]) (k:=1) hI W (Hr w (.cells X' e)) (x2.les (m2 ι w)) (ja l.length);rw[m1]at this;exact this
 ·exact own h0 rfl rfl rfl rfl m2
 ·obtain⟨c4,h0⟩:=zQ h0;have c4:=Kc c4;refine own h0 rfl rfl rfl rfl fun ι w=> ?_;obtain⟨n,rfl⟩: ∃n,len=n+1:=⟨len - 1,by omega⟩;have e1:Gj (P.cellsOf e) (n+1) cs=(Gj (P.cellsOf e) (n+1) cs).take n++[(cs.drop (n*P.cellsOf e)).take (P.cellsOf e)]:=by
   apply List.ext_getElem?;intro j;rw[Uc,Wd,Lc,Tz,fF];by_cases h1:j<n
   ·rw[Ka (by omega),Ka (by omega),Ka h1]
   ·rw[Ja (by omega: ¬j<min n (n+1))];by_cases h2:j=n
    ·subst h2;rw[Ka (by omega)];simp
    ·rw[Ja (by omega)];simp;omega
  rw[e1];refine LesR.app ?_ (.refl _);have h2:=m2 ι w;refine⟨by simp[m1,Tz],fun i r r' hr hr'=> ?_⟩;rw[Wd]at hr;split at hr
  ·rw[Nat.add_sub_cancel,Ig,Wd,Ka (by assumption)]at hr';exact h2.2 i r r' hr hr'
  ·cases hr
 ·cases h0
theorem flat_get{α:Type}{k:Nat}{Z:List α}(hk:Z.length=k): ∀{n i j:Nat},i<n->j<k->(List.replicate n Z).flatten[i*k+j]? =Z[j]?
 |0,i,j,h,_=>by omega
 |n+1,0,j,_,hj=>by rw[Jh,bf,Uc,Ka (by omega)];simp
 |n+1,i+1,j,h,hj=>by rw[Jh,bf,Uc,Ja (by rw[hk,je];omega),<-flat_get hk (n:=n) (i:=i) (by omega) hj];congr 1;rw[hk,je];omega
theorem bQ(hI:IpOK P I)(hT:TOK P T fk){t:Nat}{l c:ET I.C}(hg:q=[]->g=true)(h0:jB T nx t l c q K=some r0):OpD P g h nx K r0 fun ι w s=> ∃vl vc,RepT ι w l vl/\RepT ι w c vc/\s=Instr.makeSlice t vl vc:=by
 unfold jB at h0;split at h0
 case h_2=>cases h0
 rename_i e kl l kc c hk;obtain⟨hh,h0⟩:=zQ h0;rw[Da]at hh;obtain⟨s1,s2⟩:=oh hT hh.1;obtain⟨i,z,hi,hz,hs,hz1,hz2⟩:=Lt hT hh.2;obtain⟨hb,h0⟩:=Qp h0;simp only[Da,Eb]at hb;obtain⟨⟨⟨b1,b2⟩,b3⟩,b4⟩:=hb;obtain⟨z0,h1,h9⟩:=Ha.1 h0;clear h0;obtain⟨ln,rfl⟩:=Int.eq_ofNat_of_zero_le b1;obtain⟨cn,rfl⟩:=Int.eq_ofNat_of_zero_le (show 0<=c by omega);refine opd h9 (fun e=>by rw[hg rfl]at e;cases e) fun _ ι w s W _ hf ⟨vl,vc,hl,hc,es⟩=> ?_;obtain rfl:=zT rfl hl;obtain rfl:=zT rfl hc;have hby:i.bytes=(T.at e).by_:=by rw[Gl hT (.inr (.inl hh.2))];exact YF hi
 have hrun:=run_make (P:=P) w t e i z (Uh (Gg hT hk (by simp))) hi hz kl kc ln cn (by omega) (by omega) (by
  rw[hby];have:(cn:Int)*((T.at e).by_:Int)<=140737488355328:=b3;rw[Int.mul_comm]at this;omega) (by omega)
 obtain⟨zl,hX⟩:=mR (I:=I) (ι:=ι) (w:=w) hs s2 hz1 cn;rw[hz2]at h1;obtain⟨g1,g2⟩:=iE hI h1;simp only[Oa,xE hi]at hrun;have hcr:=hX.chunks zl;have hcr:Qr ι w (P.cellsOf e) (List.replicate ln (I.exp e z0)) (madeCells z.cells (cn*P.cellsOf e)):=by
  refine⟨fun row hr=>by rw[List.eq_of_mem_replicate hr];exact Vm hI _ _,fun i row j x hi hj=> ?_⟩;have hil:i<ln:=by have:=(Ma.1 hi).1;simpa using this
  obtain rfl:=List.eq_of_mem_replicate (Nb hi);have hjl:j<P.cellsOf e:=by rw[<-Vm hI e z0];exact(Ma.1 hj).1
  have hzj:=Xa (l:=(zeroE z.cells.toList:List (EV I.C))) (i:=j) (by rw[g1];exact hjl);obtain⟨v,a1,a2,a3⟩:=hX.2 (i*P.cellsOf e+j) (zeroE z.cells.toList)[j] (by
   rw[<-hzj];exact flat_get g1 (show i<cn by omega) hjl)
  exact⟨v,a1,a2,((g2 ι w).2 0 _ _ rfl rfl).2 j _ _ hzj hj v a3⟩
 refine⟨_,_,es▸hrun,Done.grow (o:= .sl e (List.replicate ln z0)) (cur:=madeCells z.cells (cn*P.cellsOf e)) (fr:=(0,0)) W (fr0 hf) rfl (Hr w _) (.inl rfl) (by simpa [Zf,kE] using hcr) (by
  rw[size_madeCells];simp only[Zf,kE,Fb,List.length_replicate];exact Tc _ (by omega)) none (by simp) fun _ ι' _ e'=>Eu e' ?_⟩
 simp only[Zf,kE,Fb,List.length_replicate];exact PH (t:=e) (fr:=(0,0)) (cur:=madeCells z.cells (cn*P.cellsOf e)) (Hr w _).new (by omega) (by unfold maxLen;omega) (by rw[size_madeCells];exact ja _)
end
section
variable {I:Ip} {P:Program} {T:TT} {fk:List (Nat×List Kd)} {ι:Asg} {w w':World} {h:Nat->Option (EO I.C)} {nx:Nat} {R:Type} {r0:R} {q:Path} {g:Bool} {K:Kt I R}
def Src(P:Program)(ι:Asg)(w:World)(k:Nat)(rows:List (List (EV I.C)))(v:Value):Prop:=
 ∃cs:List Value,cs.length=rows.length*k/\Qr ι w k rows cs.toArray/\(∀u∈cs,u.oneCell'=true)/\ ∀w':World,w'.heap=w.heap->(Builtin.lenOf v).run P w'= .ok rows.length w'/\(Builtin.firstCells k rows.length v).run P w'= .ok cs.toArray w'
theorem Src.nil{k:Nat}:Src (I:=I) P ι w k [] (.slice none 0 0):=⟨[],by simp,⟨by simp,by simp⟩,by simp,fun w' _=>⟨by simp[Builtin.lenOf],by simp[Builtin.firstCells]⟩⟩
theorem K6 {k b o c:Nat} {rows:List (List (EV I.C))} {a:Option Addr} (hk: ∀row∈rows,row.length=k) (ha:rows≠[]->a=some ⟨b,o,none⟩)
  (h: ∀(i:Nat) (row:List (EV I.C)) (j:Nat) (x:EV I.C),rows[i]? =some row->row[j]? =some x-> ∃u,w.cell? ⟨b,o+(i*k+j),none⟩=some u/\Rep1 ι w x u):Src P ι w k rows (.slice a rows.length c):=by
 have hrow: ∀t,t<rows.length*k-> ∃u,w.cell? ⟨b,o+t,none⟩=some u/\u.oneCell'=true/\ ∀row x,rows[t / k]? =some row->row[t%k]? =some x->Rep1 ι w x u:=by intro t ht;obtain⟨h1,h2⟩:=zwW ht;have hr:rows[t / k]? =some rows[t / k]:=Xa h1;have hl:=hk _ (Kb h1);have hx:rows[t / k][t%k]? =some (rows[t / k][t%k]'(by omega)):=Xa _;obtain⟨u,g1,g2⟩:=h _ _ _ _ hr hx;rw[Ph,Nat.div_add_mod]at g1;refine⟨u,g1,g2.1,fun row x e1 e2=> ?_⟩;rw[hr]at e1;cases e1;rw[hx]at e2;cases e2;exact g2
 obtain⟨f,hf⟩:=wT hrow;refine⟨(List.range (rows.length*k)).map f,by simp,⟨hk,fun i row j x hi hj=> ?_⟩,fun u hu=> ?_,fun w' hw=>⟨by simp[Builtin.lenOf],?_⟩⟩
 ·have h1:=(Ma.1 hi).1;have hjl:j<k:=by rw[<-hk row (Nb hi)];exact(Ma.1 hj).1
  have hlt:=eD h1 hjl;obtain⟨e1,e2⟩:=divmod (i:=i) hjl;exact⟨f (i*k+j),by simp[hlt],(hf _ hlt).2.2 row x (by rw[e1];exact hi) (by rw[e2];exact hj)⟩
 ·obtain⟨t,ht,rfl⟩:=Pb.1 hu;exact(hf t (Jd.1 ht)).2.1
 ·rcases Vf rows.length with h0|h0
  ·obtain rfl:=Jc h0;cases a<;>simp[Builtin.firstCells,loadCells,loadCellsFrom]
  ·rw[ha (by rintro rfl;simp at h0)];simp only[Builtin.firstCells];exact OX f (fun j hj=>by rw[zAZ hw];exact(hf j hj).1)
theorem Src.own{id off n:Nat}{o:EO I.C}(hh:ng P ι w id o)(hl:off+n<=(Zf o).length){b:Option Nat}{k m:Nat}(e:ι id= .live b k m){v:Value}(hv:SlAt w b k off n v):Src P ι w (kE P o) (((Zf o).drop off).take n) v:=by
 obtain⟨b',h1,h2,h3⟩:=hh;rw[e]at h1;cases h1;have hn:(((Zf o).drop off).take n).length=n:=by simp;omega
 rcases hv with⟨rfl,rfl,rfl⟩|⟨b',c,ty,sz,a,rfl,rfl,hca,hc,_⟩
 ·rw[mf];exact .nil
 ·rcases h3 with⟨h3,_⟩|⟨_,cur,fr,_,h4,h5,h6,h7,h8⟩
  ·cases h3
  ·cases h4;have:=K6 (P:=P) (ι:=ι) (w:=w) (k:=kE P o) (b:=b') (o:=off*kE P o) (c:=c) (a:=a) (rows:=((Zf o).drop off).take n) (fun row hr=>by simpa using h2 (row.map (RepV ι w)) (Pb.2 ⟨row,List.mem_of_mem_drop (Lf hr),rfl⟩)) (fun hne=>hca.resolve_left fun h0=>hne (by
    have:n=0:=by omega
    subst this;simp)) fun i row j x hi hj=>by
     rw[Wd]at hi;split at hi
     ·rw[Pd]at hi;obtain⟨u,g1,g2⟩:=h8 (off+i) (row.map (RepV ι w)) j (RepV ι w x) (by simp[hi]) (by simp[hj]);exact⟨u,by rw[cell_of h5,<-g1,je,Nf],g2⟩
     ·cases hi
   rw[hn]at this;exact this
theorem Src.all{id:Nat}{o:EO I.C}(hh:ng P ι w id o){v:Value}(hv:RepV (I:=I) ι w (.own id) v):Src P ι w (kE P o) (Zf o) v:=by have hh':=hh;obtain⟨b,h1,_⟩:=hh';have hv:SlS ι w (ι id) none v:=hv;rw[h1]at hv;have:=Src.own (off:=0) (n:=(Zf o).length) hh (by omega) h1 hv;simpa using this
theorem Src.froz(hI:IpOK P I){e:Nat}{l:List (I.C e)}{v:Value}(hv:RepP (Dom ι w) w (.sl (l.map (I.full e))) v):Src P ι w (P.cellsOf e) (l.map (I.exp e)) v:=by
 cases hv with
 |sl _ a n c k b o val hn hc ha hD hkk hv hr=>
  rw[Fb]at hn;subst hn;have hk: ∀(i:Nat) row,(l.map (I.exp e))[i]? =some row->k=P.cellsOf e/\ ∃y,l[i]? =some y/\row=I.exp e y:=fun i row hi=>by simp only[Sa,Ua]at hi;obtain⟨y,hy,rfl⟩:=hi;exact⟨by rw[<-hkk (I.full e y) (Pb.2 ⟨y,Nb hy,rfl⟩),hI.len],y,hy,rfl⟩
  have:=K6 (P:=P) (ι:=ι) (w:=w) (k:=P.cellsOf e) (b:=b) (o:=o) (c:=c) (a:=a) (rows:=l.map (I.exp e)) (fun row hr=>by obtain⟨y,_,rfl⟩:=Pb.1 hr;exact Vm hI _ _) (fun hne=>ha (by
   rcases Vf l.length with h0|h0
   ·exact absurd (by rw[Jc h0];rfl) hne
   ·exact h0)) fun i row j x hi hj=>by
    obtain⟨rfl,y,hy,rfl⟩:=hk i row hi;obtain⟨e1,e2⟩:=Lm hI hj;have hf:(l.map (I.full e))[i]? =some (I.full e y):=by rw[Sa,hy];rfl
    exact⟨_,by rw[<-Nf];exact hv _ _ _ _ hf e1,oP (hr _ _ _ _ hf e1),(Oi e2).2 (hr _ _ _ _ hf e1)⟩
  simpa using this
theorem Fy(hI:IpOK P I){e:Nat}{p:(List UInt8->List (I.C e))×(List (I.C e)->List UInt8)}(hp:I.byt e=some p):P.cellsOf e=1:=by have h1:=congrArg (·[0]?) ((hI.byt e p hp).1 [0]);simp only[ib,List.getElem?_cons_zero,Sa]at h1;obtain⟨y,_,hy⟩:=Ua.1 h1;rw[<-hI.len e y,hy];rfl
theorem Src.str(hI:IpOK P I){e:Nat}{p:(List UInt8->List (I.C e))×(List (I.C e)->List UInt8)}(hp:I.byt e=some p)(b:List UInt8):Src P ι w (P.cellsOf e) ((p.1 b).map (I.exp e)) (.string ⟨b.toArray⟩):=by
 obtain⟨q1,_,q3⟩:=hI.byt e p hp;have h1:=Fy hI hp;have hlen:(p.1 b).length=b.length:=by have:=congrArg List.length (q1 b);simpa using this
 have hl:b.length=b.length*P.cellsOf e:=by rw[h1,Tf]
 refine⟨b.map fun b=> .int .u8 b.toNat,by rw[Fb,Fb,hlen];exact hl,⟨fun row hr=> ?_,fun i row j x hi hj=> ?_⟩,fun u hu=>(by obtain⟨_,_,rfl⟩:=Pb.1 hu;rfl),fun w' _=>⟨by simp[Builtin.lenOf,size_mk,hlen],?_⟩⟩
 ·obtain⟨y,_,rfl⟩:=Pb.1 hr;exact Vm hI _ _
 ·simp only[Sa,Ua]at hi;obtain⟨y,hy,rfl⟩:=hi;obtain⟨e1,e2⟩:=Lm hI hj;have:=congrArg (·[i]?) (q1 b);simp only[Sa,hy,Gd]at this;obtain⟨c,hc,hf⟩:=Ua.1 this.symm;rw[<-hf]at e1;have hj0:j=0:=by have:=(Ma.1 e1).1;simpa using this
  subst hj0;have e1:PV.at (.int .u8 c.toNat)=pvE I x:=by simpa using e1
  refine⟨.int .u8 c.toNat,by rw[h1];simp[hc],rfl,(Oi e2).2 ?_⟩;rw[<-e1];exact .at _ rfl
 ·simp only[Builtin.firstCells,Fb,hlen];have e:(ByteArray.mk b.toArray).extract 0 b.length=ByteArray.mk b.toArray:=by rw[Lib.extract_eq];simp
  rw[e];simp
theorem OD(hI:IpOK P I)(hT:TOK P T fk){t e:Nat}(he:Nat.ble 1 (T.at e).sz=true){x:ET I.C}{new:List (I.C e)}{rd:List Nat}{ok:Bool}(h0:srcE e (T.at t).kd h x=some (new,rd,ok))(hok:ok=true):
  ui (kdOf P t)/\ ∀{ι w v},Hd P h rd ι w->RepT ι w x v->Src P ι w (P.cellsOf e) (new.map (I.exp e)) v:=by
 generalize hk:(T.at t).kd=kd at h0;have hk:=fun hb=>Gg hT hk hb;unfold srcE at h0;split at h0<;>first|(cases h0;done)|(have hk:=hk (by simp);refine⟨by rw[hk];trivial,?_⟩)
 ·split at h0<;>cases h0;rename_i hc;obtain⟨rfl,hc⟩:=qx hc;cases hc;exact fun _ hv=> .froz hI hv.2
 ·split at h0<;>cases h0;rename_i hc;obtain⟨rfl,hc⟩:=qx hc;cases hc;exact fun _ hv=> .froz hI hv.2.1
 ·cases h0;exact fun _ hv=>by obtain rfl:=zT rfl hv;exact .nil
 ·split at h0
  case h_2=>cases h0
  rename_i hid;split at h0<;>cases h0;rename_i hc;obtain⟨rfl,hc⟩:=qx hc;cases hc;exact fun hd hv=>Src.all ((Zg rfl).1 (hd.2 _ (by simp) _ hid)) hv.2
 ·split at h0
  case h_2=>cases h0
  rename_i hid;split at h0<;>cases h0;rename_i hc;obtain⟨rfl,hc⟩:=qx hc;cases hc;intro ι w v hd hv;have hh:=(Zg rfl).1 (hd.2 _ (by simp) _ hid);have hh':=hh;obtain⟨b,h1,_⟩:=hh';have hv:SlS ι w _ (some _) v:=hv.2;rw[h1]at hv;have:=Src.own hh (by simpa [Zf] using Ub hok) h1 hv
  rwa [Ig,List.map_drop]
 ·split at h0<;>cases h0;rename_i hp;intro ι w v _ hv;obtain rfl:=zT rfl hv;exact .str hI hp _
theorem YL {ts tx ty e:TypeId} {i:TypeInfo} {z:Value} (ht:P.underlying ts=some (.slice e)) (hx:ui (kdOf P tx)) (hi:P.info? e=some i) (hz:i.zero=some z)
  {a:Option Addr} {c:Nat} {R0 R1:List (List (EV I.C))} {vx:Value} (h0:Src P ι w (P.cellsOf e) R0 (.slice a R0.length c)) (h1:Src P ι w (P.cellsOf e) R1 vx) (hg: ¬(R0.length+R1.length<=c))
  (h63:R0.length+R1.length<=maxLen) (h48:(R0.length+R1.length)*i.bytes<=140737488355328):
  ∃cs0 cs1:List Value,cs0.length=R0.length*P.cellsOf e/\cs1.length=R1.length*P.cellsOf e/\Qr ι w (P.cellsOf e) R0 cs0.toArray/\Qr ι w (P.cellsOf e) R1 cs1.toArray/\(Builtin.append_ #[ts,tx] ty #[.slice a R0.length c,vx]).run P w=
   .ok (.slice (some ⟨w.heap.size,0,none⟩) (R0.length+R1.length) (grownCap w (R0.length+R1.length) c e))
    (w.drew.alloc (.cells (cs0.toArray++cs1.toArray++Builtin.zeroCells z.cells (grownCap w (R0.length+R1.length) c e - (R0.length+R1.length))) e)):=by
 obtain⟨cs0,l0,g1,_,g2⟩:=h0;obtain⟨cs1,l1,g3,_,g4⟩:=h1;refine⟨cs0,cs1,l0,l1,g1,g3,?_⟩;have hl:=(g4 w rfl).1;have hf0:=(g2 w.drew rfl).2;have hf1:=(g4 w.drew rfl).2;have h63': ¬(9223372036854775807<((R0.length:Int)+(R1.length:Int))):=by unfold maxLen at h63;omega
 have h48': ¬(281474976710656<Builtin.nextslicecap (R0.length+R1.length) c*i.bytes):=by have:=growslice_fits (need:=R0.length+R1.length) (old:=c) (by omega) h48;omega
 have hsz:i.size=P.cellsOf e:=xE hi;rcases VR hx with⟨e',hd⟩|hd<;>
 ·simp[Builtin.append_,run_underlying ht,run_underlying hd,sizeOf,typeInfo,zeroValue,hi,hz,hsz,hl,hg,h63',h48',Question.forced,hf0,hf1,newRow,grownCap]
  try (congr 2;apply Array.ext';simp[Na])
theorem NL {ts tx ty e:TypeId} {i:TypeInfo} (ht:P.underlying ts=some (.slice e)) (hx:ui (kdOf P tx)) (hi:P.info? e=some i)
  {a:Option Addr} {n c:Nat} {R1:List (List (EV I.C))} {vx:Value} (h1:Src P ι w (P.cellsOf e) R1 vx) (hg:n+R1.length<=c):
  ∃cs1:List Value,cs1.length=R1.length*P.cellsOf e/\Qr ι w (P.cellsOf e) R1 cs1.toArray/\(∀u∈cs1,u.oneCell'=true)/\(Builtin.append_ #[ts,tx] ty #[.slice a n c,vx]).run P w=
   (match a with|some a=>(storeCells (a.add (n*P.cellsOf e)) cs1).run P w|none=> .ok () w).andThen fun _ w'=> .ok (.slice a (n+R1.length) c) w':=by
 obtain⟨cs1,l1,g3,g3',g4⟩:=h1;refine⟨cs1,l1,g3,g3',?_⟩;obtain⟨hl,hf1⟩:=g4 w rfl;have hsz:i.size=P.cellsOf e:=xE hi;rcases VR hx with⟨e',hd⟩|hd<;>cases a<;>simp[Builtin.append_,run_underlying ht,run_underlying hd,sizeOf,typeInfo,hi,hsz,hl,hg,hf1]
theorem Qr.app {k:Nat} {R0 R1:List (List (EV I.C))} {X:Array Value} (h0: ∀row∈R0,row.length=k) (h1: ∀row∈R1,row.length=k)
  (g0: ∀(i:Nat) row (j:Nat) x,R0[i]? =some row->row[j]? =some x-> ∃v,X[i*k+j]? =some v/\Rep1 ι w x v) (g1: ∀(i:Nat) row (j:Nat) x,R1[i]? =some row->row[j]? =some x-> ∃v,X[(R0.length+i)*k+j]? =some v/\Rep1 ι w x v):Qr ι w k (R0++R1) X:=by
 refine⟨fun row hr=>(Yd.1 hr).elim (h0 row) (h1 row),fun i row j x hi hj=> ?_⟩;rw[Uc]at hi;split at hi
 ·exact g0 i row j x hi hj
 ·have:=g1 _ row j x hi hj
  rwa [show R0.length+(i - R0.length)=i by omega]at this
theorem Qr.at_app{k:Nat}{R:List (List (EV I.C))}{X pre post:Array Value}(h:Qr ι w k R X){n:Nat}(hn:pre.size=n*k): ∀(i:Nat) row (j:Nat) x,R[i]? =some row->row[j]? =some x-> ∃v,(pre++X++post)[(n+i)*k+j]? =some v/\Rep1 ι w x v:=by intro i row j x hi hj;obtain⟨v,a1,a2⟩:=h.2 i row j x hi hj;have:=(Bc.1 a1).1;refine⟨v,?_,a2⟩;rw[je,Kg,Sd,Ja (by omega),Sd,Ka (by omega),<-a1];congr 1;omega
theorem NT {o:EO I.C} {ts tx ty e:TypeId} (hk:kdOf P ts= .sl e) (hxk:ui (kdOf P tx)) (hz:(ti P e).zok=true) {R0 R1:List (List (EV I.C))} (ho:isR o=true) (ho1:kE P o=P.cellsOf e) (ho2:tyE o=e) (ho3:Zf o=R0++R1)
  {vs vx:Value} (S1:Src P ι w (P.cellsOf e) R1 vx) (W:Wf ι w) (hf:ι nx= .free) (kl:Option Nat) (hkl: ∀id,kl=some id->ι id≠ .free) (h63:R0.length+R1.length<=maxLen) (h48:(R0.length+R1.length)*(ti P e).by_<=140737488355328)
  {b:Option Nat} (hv:SlAt w b (P.cellsOf e) 0 R0.length vs) (S0:Src P ι w (P.cellsOf e) R0 vs) (hb: ∀b',b=some b'-> ∃id cur fr ty2,kl=some id/\ι id= .live (some b') (P.cellsOf e) R0.length/\w.heap[b']? =some (.cells cur ty2 fr)/\frOK fr cur.size/\Qr ι w (P.cellsOf e) R0 cur/\R0.length*P.cellsOf e<=cur.size) {rd:List Nat}:
  ∃v w',(Builtin.append_ #[ts,tx] ty #[vs,vx]).run P w= .ok v w'/\Done P ι w nx ⟨.v (.c (.own nx)),upK kl nx o,rd,1⟩ v w':=by
 obtain⟨i,z,hi,hz,hzs,hz1,hz2⟩:=tC hz;have hR1: ∀row∈R1,row.length=P.cellsOf e:=by obtain⟨_,_,h,_⟩:=S1;exact h.1
 have hR0: ∀row∈R0,row.length=P.cellsOf e:=by obtain⟨_,_,h,_⟩:=S0;exact h.1
 have hn:(Zf o).length=R0.length+R1.length:=by rw[ho3,Ea]
 obtain⟨a,c,rfl,hc⟩: ∃a c,vs= .slice a R0.length c/\R0.length<=c:=by
  rcases hv with⟨_,h1,rfl⟩|⟨_,c,_,_,a,_,rfl,_,h4,_⟩
  ·exact⟨_,_,by rw[h1],by omega⟩
  ·exact⟨_,_,rfl,h4⟩
 by_cases hfit:R0.length+R1.length<=c
 ·obtain⟨cs1,l1,c1,c1',hrun⟩:=NL (ty:=ty) (a:=a) (Uh hk) hxk hi S1 hfit;rcases hv with⟨rfl,h1,hv⟩|⟨b',c',ty',sz,a',rfl,hv,hca,hnc,hcm,hsh,hle⟩
  ·injection hv with e1 e2 e3;subst e1;subst e3;have hr1:R1=[]:=Jc (by omega);have hr0:R0=[]:=Jc (by omega);subst hr1;subst hr0;refine⟨_,_,hrun, .put W hf ho (.refl w) (b:=none) kl hkl (fun _ e=>by cases e) (fun _ h=>h.elim) (fun _ _ _=>⟨by simp[ho3], .inl ⟨rfl,by simp[ho3]⟩⟩) fun _ ι' _ e'=>Eu e' (.inl ⟨rfl,hn,rfl⟩)⟩
  ·cases hv;obtain⟨id,cur,fr,ty2,k0,k1,k2,k3,k4,k5⟩:=hb b' rfl;have hsz:sz=cur.size:=by simp[World.shape?,k2]at hsh;exact hsh.2.symm
   subst hsz;have hin:R0.length*P.cellsOf e+cs1.length<=cur.size:=by rw[l1,<-je];exact Gc (Tc _ (by omega)) hle
   obtain⟨w',hw1,hw2,cur',hw3,hw4,hw5⟩: ∃w',(match a with|some a=>(storeCells (a.add (R0.length*P.cellsOf e)) cs1).run P w|none=> .ok () w)= .ok () w'/\Chg w w' b'/\
     ∃cur',w'.heap[b']? =some (.cells cur' ty2 fr)/\cur'.size=cur.size/\cur'=(cur.toList.take (R0.length*P.cellsOf e)++cs1++cur.toList.drop (R0.length*P.cellsOf e+cs1.length)).toArray:=by
    have hsz2:(cur.toList.take (R0.length*P.cellsOf e)++cs1++cur.toList.drop (R0.length*P.cellsOf e+cs1.length)).toArray.size=cur.size:=by simp only[af,Ea,Lc,Dc,Ce];omega
    by_cases hc0:c=0
    ·have hcs:cs1=[]:=Jc (by rw[l1,show R1.length=0 by omega,Cg]);subst hcs;exact⟨w,by cases a<;>simp[storeCells],⟨rfl,rfl,rfl,rfl,fun _ _=>rfl,fun _ h=>h⟩,cur,k2,rfl,by simp⟩
    ·obtain rfl:=hca.resolve_left hc0;have hrunS:=XG (P:=P) (g:=b') (o:=0+R0.length*P.cellsOf e) (t:=ty2) (fr:=fr) cs1 0 cur w k2 k3.out (by simpa using hin) c1';simp only[Od,Ad]at hrunS;exact⟨_,by simp only[Cg,addr_add,Od];exact hrunS,IL k2 hsz2,_,setRow_heap w b' cur _ ty2 fr k2,hsz2,rfl⟩
   rw[hw1]at hrun;have hcr:Qr ι w (P.cellsOf e) (R0++R1) cur':=by
    have hpre:(cur.toList.take (R0.length*P.cellsOf e)).toArray.size=R0.length*P.cellsOf e:=by simp;omega
    have e1:cur'=(cur.toList.take (R0.length*P.cellsOf e)).toArray++cs1.toArray++(cur.toList.drop (R0.length*P.cellsOf e+cs1.length)).toArray:=by rw[hw5];simp
    refine .app hR0 hR1 (fun i row j x hi hj=> ?_) (by rw[e1];exact c1.at_app hpre);obtain⟨v,a1,a2⟩:=k4.2 i row j x hi hj;refine⟨v,?_,a2⟩;have:=eD (Ma.1 hi).1 (show j<P.cellsOf e by rw[<-hR0 row (Nb hi)];exact(Ma.1 hj).1);rw[e1,Kg,Sd,Ka (by rw[hpre];exact this),List.getElem?_toArray,Wd,Ka this,De];exact a1
   refine⟨_,_,hrun, .put (b:=some b') (B:=(· =b')) W hf ho hw2.wld kl hkl (fun b e=>by cases e;exact .inr ⟨id,_,_,k0,k1⟩) (fun b e=>by subst e;exact⟨id,_,_,k0,k1⟩) (fun T ι' S=> ?_) fun T ι' S e'=>Eu e' ?_⟩
   ·rw[ho1,ho2,ho3];refine hcr.blk S hw3 (by rw[hw4];exact k3) ?_;rw[hw4,Ea];exact Gc (Tc _ (by omega)) hle
   ·rw[ho1,hn];exact .inr ⟨b',c,ty2,cur'.size,a,rfl,rfl,hca,hfit,hcm,by simp[World.shape?,hw3],by rw[hw4];exact hle⟩
 ·have hby:i.bytes=(ti P e).by_:=YF hi;obtain⟨cs0,cs1,l0,l1,c0,c1,hrun⟩:=YL (ty:=ty) (Uh hk) hxk hi hz S0 S1 hfit h63 (by rw[hby];exact h48);have hge:=grownCap_ge w (R0.length+R1.length) c e;have hmx:=grownCap_le_maxLen w (R0.length+R1.length) c e h63;generalize grownCap w (R0.length+R1.length) c e=c2 at*;have hsz:(cs0.toArray++cs1.toArray++Builtin.zeroCells z.cells (c2 - (R0.length+R1.length))).size=c2*P.cellsOf e:=by simp only[Array.size_append,af,MX,l0,l1,hzs,<-je];congr 1;omega
  refine⟨_,_,hrun,Done.grow (fr:=(0,0)) (cur:=cs0.toArray++cs1.toArray++Builtin.zeroCells z.cells (c2 - (R0.length+R1.length))) W hf ho (by rw[ho2];exact⟨rfl,rfl,rfl,rfl⟩) (.inl rfl) ?_ (by rw[hsz,hn,ho1];exact Tc _ hge) kl hkl fun T ι' S e'=>Eu e' ?_⟩
  ·rw[ho1,ho3];refine .app hR0 hR1 ?_ (c1.at_app (by simp[l0]));intro i row j x hi hj;obtain⟨v,a1,a2⟩:=c0.2 i row j x hi hj;have:=(Bc.1 a1).1;exact⟨v,by rw[Kg,Sd,Ka this];exact a1,a2⟩
  ·rw[hn,ho1];exact PH (t:=e) (fr:=(0,0)) (cur:=cs0.toArray++cs1.toArray++Builtin.zeroCells z.cells (c2 - (R0.length+R1.length))) (Grew.new (w:=w) (w':=w.drew.alloc _) ⟨rfl,rfl,rfl,rfl⟩) hge hmx (by rw[hsz];exact ja _)
end
section
variable {I:Ip} {P:Program} {T:TT} {fk:List (Nat×List Kd)} {ι ι':Asg} {w w':World} {h:Nat->Option (EO I.C)} {nx:Nat} {R:Type} {r0:R} {q:Path} {g:Bool} {K:Kt I R}
theorem Inn.app {id e:Nat} {l:List (List (I.C e))} {S:List (Option (Nat×Nat))} {m:List (I.C e)} {s:Option (Nat×Nat)} (h:Inn P ι w id e l S)
  (hs:match s with|none=>m=[]|some (b,sz)=>ι.X b= .inn id/\(∃ty,w.shape? b=some (ty,sz))/\Blk w (some b) (P.cellsOf e) e ((m.map (I.full e)).map (·.map (RepP (Dom ι w) w)))) (hn: ∀x,s=some x-> ∀(j z:Nat),S[j]? ≠some (some (x.1,z))):Inn P ι w id e (l++[m]) (S++[s]):=by
 have at_: ∀{α:Type} {L:List α} {a:α} {j:Nat} {y:α},(L++[a])[j]? =some y->L[j]? =some y\/(j=L.length/\y=a):=fun {α L a j y} hj=>by
  rw[Uc]at hj;split at hj
  ·exact .inl hj
  ·cases hk:j - L.length with
   |zero=>rw[hk]at hj;cases hj;exact .inr ⟨by omega,rfl⟩
   |succ n=>rw[hk]at hj;cases hj
 refine⟨by simp[h.1],fun i j b z z' hi hj=> ?_,fun j m' s' hm hs'=> ?_⟩
 ·rcases at_ hi with hi|⟨e1,hi⟩<;>rcases at_ hj with hj|⟨e2,hj⟩
  ·exact h.2.1 i j b z z' hi hj
  ·exact absurd hi (hn (b,z') hj.symm i z)
  ·exact absurd hj (hn (b,z) hi.symm j z')
  ·rw[e1,e2]
 ·rcases at_ hm with hm|⟨e1,rfl⟩<;>rcases at_ hs' with hs'|⟨e2,rfl⟩
  ·exact h.2.2 j m' s' hm hs'
  ·have:=(Ma.1 hm).1;have:=h.1;omega
  ·have:=(Ma.1 hs').1;have:=h.1;omega
  ·exact hs
theorem Inn.split{id e:Nat}{l:List (List (I.C e))}{S:List (Option (Nat×Nat))}{m:List (I.C e)}(h:Inn P ι w id e (l++[m]) S): ∃S0 s,S=S0++[s]/\Inn P ι w id e l S0/\(∀x,s=some x-> ∀(j z:Nat),S0[j]? ≠some (some (x.1,z)))/\
  match s with|none=>m=[]|some (b,sz)=>ι.X b= .inn id/\(∃ty,w.shape? b=some (ty,sz))/\Blk w (some b) (P.cellsOf e) e ((m.map (I.full e)).map (·.map (RepP (Dom ι w) w))):=by
 obtain⟨S0,s,rfl⟩: ∃S0 s,S=S0++[s]:=by
  rcases List.eq_nil_or_concat S with e'|⟨S0,s,e'⟩
  ·have:=h.1;rw[e']at this;simp at this
  ·exact⟨S0,s,by simpa using e'⟩
 have hl:S0.length=l.length:=by have:=h.1;simpa using this
 have left: ∀{α:Type} {L:List α} {a y:α} {j:Nat},L[j]? =some y->(L++[a])[j]? =some y:=fun hj=>by rw[List.getElem?_append_left (Ma.1 hj).1];exact hj
 refine⟨S0,s,rfl,⟨hl,fun i j b z z' hi hj=>h.2.1 i j b z z' (left hi) (left hj),fun j m' s' hm hs=>h.2.2 j m' s' (left hm) (left hs)⟩,fun x hx j z hj=> ?_,h.2.2 l.length m s (by simp) (by rw[<-hl];simp)⟩;have:=h.2.1 j S0.length x.1 z x.2 (left hj) (by rw[hx];simp);have h2:=(Ma.1 hj).1;omega
theorem zDo(hI:IpOK P I)(hT:TOK P T fk){t:Nat}{x:ET I.C}{l hh m:Option Int}(hg:q=[]->g=true)(h0:MO T nx h t x l hh m q K=some r0):
  OpD P g h nx K r0 fun ι w s=> ∃vx lo hi mx,RepT ι w x vx/\Bnd lo l/\Bnd hi hh/\Bnd mx m/\s=Instr.sliceAt t vx lo hi mx:=by
 unfold MO at h0;cases h0
theorem zES(hT:TOK P T fk){t:Nat}{l c:ET I.C}(hg:q=[]->g=true)(h0:lN T nx t l c q K=some r0):OpD P g h nx K r0 fun ι w s=> ∃vl vc,RepT ι w l vl/\RepT ι w c vc/\s=Instr.makeSlice t vl vc:=by unfold lN at h0;cases h0
end
section
variable {I:Ip} {P:Program} {T:TT} {fk:List (Nat×List Kd)} {ι:Asg} {w w':World} {h:Nat->Option (EO I.C)} {nx:Nat} {R:Type} {r0:R} {q:Path} {g:Bool} {K:Kt I R}
theorem GK{id e:Nat}{l:List (I.C e)}(W:Wf ι w)(hh:ng P ι w id (.sl e l)){vs:Value}(hv:RepT (I:=I) ι w (.c (.own id)) vs): ∃b,ι id= .live b (P.cellsOf e) l.length/\SlAt w b (P.cellsOf e) 0 l.length vs/\Src P ι w (P.cellsOf e) (l.map (I.exp e)) vs/\
  ∀b',b=some b'-> ∃cur fr ty2,w.heap[b']? =some (.cells cur ty2 fr)/\frOK fr cur.size/\Qr ι w (P.cellsOf e) (l.map (I.exp e)) cur/\(l.map (I.exp e)).length*P.cellsOf e<=cur.size:=by
 have S:=Src.all hh hv.2;obtain⟨b,h1,h2,h3⟩:=hh;have hl:(Zf (.sl e l:EO I.C)).length=l.length:=Fb ..;rw[hl]at h1;have hv:SlS ι w (ι id) none vs:=hv.2;rw[h1]at hv;refine⟨b,h1,hv,S,fun b' e'=> ?_⟩;rcases h3 with⟨h3,_⟩|⟨b2,cur,fr,ty2,h4,h5,h6,h7,h8⟩
 ·rw[h3]at e';cases e'
 ·rw[h4]at e';cases e';exact⟨cur,fr,ty2,h5,h6,⟨fun row hr=>(by simpa using h2 (row.map (RepV ι w)) (Pb.2 ⟨row,hr,rfl⟩):row.length=kE P (.sl e l:EO I.C)),fun i row j x hi hj=>h8 i (row.map (RepV ι w)) j _ (by rw[Sa];exact congrArg (Option.map _) hi) (by simp[hj])⟩,(by simpa [Zf] using h7:(l.map (I.exp e)).length*kE P (.sl e l:EO I.C)<=cur.size)⟩
theorem DU {ts tx ty e id:Nat} {l:List (I.C e)} {o:EO I.C} {R1:List (List (EV I.C))} (hk:kdOf P ts= .sl e) (hkx:ui (kdOf P tx)) (hz:(ti P e).zok=true) (W:Wf ι w) (hf:ι nx= .free) (hh:qY P ι w id (.sl e l)) (ho:isR o=true) (h1:kE P o=P.cellsOf e) (h2:tyE o=e) (h3:Zf o=l.map (I.exp e)++R1)
  {vs vx:Value} (hvs:RepT (I:=I) ι w (.c (.own id)) vs) (hS:Src P ι w (P.cellsOf e) R1 vx) (a2:l.length+R1.length<=maxLen) (a1:(l.length+R1.length)*(ti P e).by_<=140737488355328) {rd:List Nat}:
  ∃v w',(Builtin.append_ #[ts,tx] ty #[vs,vx]).run P w= .ok v w'/\Done P ι w nx ⟨.v (.c (.own nx)),[(id, .dead),(nx,o)],rd,1⟩ v w':=by
 obtain⟨b,b1,b2,b3,b4⟩:=GK W ((Zg rfl).1 hh) hvs;have hl:(l.map (I.exp e)).length=l.length:=Fb ..;refine NT (R0:=l.map (I.exp e)) (b:=b) hk hkx hz ho h1 h2 h3 hS W hf (some id) (fun _ e=>by cases e;rw[b1];simp) (by rw[hl];exact a2) (by rw[hl];exact a1) (by rw[hl];exact b2) b3 fun b' e'=> ?_;obtain⟨cur,fr,ty2,g1,g2,g3,g4⟩:=b4 b' e';exact⟨id,cur,fr,ty2,rfl,by rw[b1,e',hl],g1,g2,g3,g4⟩
theorem RF{n m by_:Nat}(hb:1<=by_)(h:Zj n m by_=true):(n+m)*by_<=140737488355328/\n+m<=maxLen:=by have h1:=Ub h;have:n+m<=(n+m)*by_:=Ie _ hb;exact⟨h1,by unfold maxLen;omega⟩
theorem w9(hI:IpOK P I)(hT:TOK P T fk){ts tx:Nat}(ty:Nat){s x:ET I.C}(hg:q=[]->g=true)(h0:sI T h nx ts tx s x q K=some r0):
  OpD P g h nx K r0 fun ι w z=> ∃vs vx,RepT ι w s vs/\RepT ι w x vx/\z=Builtin.append_ #[ts,tx] ty #[vs,vx]:=by
 unfold sI at h0;split at h0
 case h_2=>cases h0
 rename_i e hk;have hk:=Gg hT hk (by simp);have pre:Nat.ble 1 (T.at e).sz=true/\Nat.ble 1 (T.at e).by_=true/\(T.at e).zok=true:=by
  split at h0<;>obtain⟨hh,_⟩:=zQ h0<;>simp only[Da]at hh
  ·exact⟨hh.1.1.1,hh.1.1.2,hh.1.2⟩
  ·exact⟨hh.1.1,hh.1.2,hh.2⟩
 obtain⟨p1,p2,p3⟩:=pre;have p2:=Kc p2;have hti:=Gl hT (.inr (.inl p3));obtain⟨s1,s2⟩:=oh hT p1;have hz:(ti P e).zok=true:=by rw[<-hti];exact p3
 have hg': ∀{α:Prop},g=false->α:=fun e=>by rw[hg rfl]at e;cases e
 -- onto nil
 have onNil: ∀{o:EO I.C} {R1:List (List (EV I.C))} {rd:List Nat},K ⟨.v (.c (.own nx)),[(nx,o)],rd,1⟩=some r0->isR o=true->kE P o=P.cellsOf e->tyE o=e->Zf o=R1->Zj 0 R1.length (T.at e).by_=true->ui (kdOf P tx)->
   (∀ι w v,Hd P h rd ι w->RepT ι w x v->Src P ι w (P.cellsOf e) R1 v)->OpD P g h nx K r0 fun ι w z=> ∃vs vx,RepT (I:=I) ι w (.c .nil) vs/\RepT ι w x vx/\z=Builtin.append_ #[ts,tx] ty #[vs,vx]:=by
  intro o R1 rd hK ho h1 h2 h3 hap hkx hS;obtain⟨a1,a2⟩:=RF p2 hap;refine opd hK hg' fun _ ι w z W hd hf ⟨vs,vx,hvs,hvx,es⟩=> ?_;obtain rfl:=zT rfl hvs;subst es;exact NT (R0:=[]) (b:=none) hk hkx hz ho h1 h2 h3 (hS ι w vx (hd.mono fun i hi=>We _ hi) hvx) W (fr0 hf) none (by simp) (by simpa using a2) (by rw[<-hti];simpa using a1) (.inl ⟨rfl,rfl,rfl⟩) .nil (by simp)
 have onOwn: ∀{id:Nat} {l:List (I.C e)} {o:EO I.C} {R1:List (List (EV I.C))} {rd:List Nat},K ⟨.v (.c (.own nx)),[(id, .dead),(nx,o)],rd,1⟩=some r0->h id=some (.sl e l)->isR o=true->kE P o=P.cellsOf e->tyE o=e->Zf o=l.map (I.exp e)++R1->Zj l.length R1.length (T.at e).by_=true->ui (kdOf P tx)->
   (∀ι w v,Hd P h rd ι w->RepT ι w x v->Src P ι w (P.cellsOf e) R1 v)->OpD P g h nx K r0 fun ι w z=> ∃vs vx,RepT (I:=I) ι w (.c (.own id)) vs/\RepT ι w x vx/\z=Builtin.append_ #[ts,tx] ty #[vs,vx]:=by
  intro id l o R1 rd hK hid ho h1 h2 h3 hap hkx hS;obtain⟨a1,a2⟩:=RF p2 hap;refine opd hK hg' fun _ ι w z W hd hf ⟨vs,vx,hvs,hvx,es⟩=> ?_;subst es;exact DU hk hkx hz W (fr0 hf) (hd.2 id (by simp) _ hid) ho h1 h2 h3 hvs (hS ι w vx (hd.mono fun i hi=>We _ hi) hvx) a2 (by rw[<-hti];exact a1)
 -- onto a slice that is full
 have onFull: ∀{l new:List (I.C e)} {rd:List Nat},K ⟨.v (.c (.sl e (l++new))),[],rd,1⟩=some r0->Zj l.length new.length (T.at e).by_=true->ui (kdOf P tx)->
   (∀ι w v,Hd P h rd ι w->RepT ι w x v->Src P ι w (P.cellsOf e) (new.map (I.exp e)) v)->OpD P g h nx K r0 fun ι w z=> ∃vs vx,RepT (I:=I) ι w (.c (.fsl e l)) vs/\RepT ι w x vx/\z=Builtin.append_ #[ts,tx] ty #[vs,vx]:=by
  intro l new rd hK ha hkx hS;obtain⟨a1,a2⟩:=RF p2 ha;refine opd hK hg' fun _ ι w z W hd hf ⟨vs,vx,⟨_,hvs,a,n,hvs'⟩,hvx,es⟩=> ?_;subst hvs';subst es;have S1:=hS ι w vx (hd.mono fun i hi=>by simp[hi]) hvx;have S0:=Src.froz hI hvs;obtain rfl:n=l.length:=by cases hvs with|sl _ _ _ _ _ _ _ _ hn=>rw[hn,Fb]
  have hl:(l.map (I.exp e)).length=l.length:=Fb ..;have hl1:(new.map (I.exp e)).length=new.length:=Fb ..;obtain⟨i,z,hi,hz0,hzs,hz1,hz2⟩:=tC hz;by_cases hn0:new.length=0
  ·obtain rfl:=Jc hn0;obtain⟨cs1,l1,_,_,hrun⟩:=NL (ty:=ty) (a:=a) (n:=l.length) (c:=l.length) (Uh hk) hkx hi S1 (by simp);obtain rfl:=Jc (by rw[l1];simp:cs1.length=0);refine⟨.slice a l.length l.length,w,?_, .same W ⟨rfl,by rw[Db];exact hvs⟩⟩;rw[hrun];cases a<;>simp[storeCells]
  ·rw[<-hl]at S0;obtain⟨cs0,cs1,l0,l1,c0,c1,hrun⟩:=YL (ty:=ty) (Uh hk) hkx hi hz0 S0 S1 (by rw[hl,hl1];omega) (by rw[hl,hl1];exact a2) (by rw[hl,hl1,YF hi];rw[hti]at a1;exact a1);rw[hl,hl1]at hrun;have hge:=grownCap_ge w (l.length+new.length) l.length e;generalize grownCap w (l.length+new.length) l.length e=c2 at*;refine⟨_,_,hrun,?_⟩;have:=Done.froze (nx:=nx) (rd:=rd) (k:=1) (l:=l++new) (c:=c2) (cur:=cs0.toArray++cs1.toArray++Builtin.zeroCells z.cells (c2 - (l.length+new.length))) (w':=w.drew.alloc (.cells (cs0.toArray++cs1.toArray++Builtin.zeroCells z.cells (c2 - (l.length+new.length))) e)) hI W ⟨rfl,rfl,rfl,rfl⟩ (by
    rw[Te];refine .app c0.1 c1.1 (fun i row j x hi hj=> ?_) (c1.at_app (by simp[l0]));obtain⟨v,a1,a2⟩:=c0.2 i row j x hi hj;have:=(Bc.1 a1).1;exact⟨v,by rw[Kg,Sd,Ka this];exact a1,a2⟩) (by rw[Ea];exact hge)
   rw[Ea]at this;exact this
 split at h0
 ·rename_i z hz';obtain⟨hh,h0⟩:=zQ h0;simp only[Da]at hh;have hlen:=Ya hh.2;rw[s1]at hlen;obtain⟨zid,l1,cs,l2⟩:=z;obtain⟨hkx,hS,hxz,hzid⟩:ui (kdOf P tx)/\(∀rd,zid∈rd-> ∀ι w v,Hd P h rd ι w->RepT ι w x v->Src P ι w (P.cellsOf e) (Zf (.slo e l1 cs l2:EO I.C)) v)/\x= .c (.own zid)/\h zid=some (.slo e l1 cs l2):=by
   generalize hkx:(T.at tx).kd=kx at hz';unfold sloE at hz';split at hz'
   case h_2=>cases hz'
   have hkx:=Gg hT hkx (by simp);split at hz'
   case h_2=>cases hz'
   rename_i hid;split at hz'
   case h_2=>cases hz'
   rename_i c1 c2;obtain⟨rfl,c1⟩:=qx c1;cases c1;obtain⟨_,c2⟩:=qx c2;cases c2;cases hz';exact⟨by rw[hkx];trivial,fun rd hrd ι w v hd hv=>Src.all ((Zg rfl).1 (hd.2 _ hrd _ hid)) hv.2,rfl,hid⟩
  have hRl:(Zf (.slo e l1 cs l2:EO I.C)).length=l1.length+1+l2.length:=by simp[Zf];omega
  unfold E9 at h0;split at h0
  ·obtain⟨ha,h0⟩:=Qp h0;exact onNil h0 rfl rfl rfl rfl (by rw[hRl];exact ha) hkx (hS _ (by simp))
  ·split at h0
   case h_3=>cases h0
   ·rename_i hid;split at h0
    case h_2=>cases h0
    rename_i c1;obtain⟨rfl,c1⟩:=qx c1;cases c1;obtain⟨ha,h0⟩:=Qp h0;exact onOwn h0 hid rfl rfl rfl (by simp[Zf]) (by rw[hRl];exact ha) hkx (hS _ (by simp))
   ·rename_i u e' l c hid;obtain⟨hu,h9⟩:=zQ h0;clear h0;obtain rfl:=Ya hu;split at h9
    case h_2=>cases h9
    rename_i zid' c' he;cases he;have h1:P.cellsOf u=1:=hlen.symm;unfold eZ at h9;cases h9
  ·cases h0
 ·obtain⟨_,h0⟩:=zQ h0;split at h0
  case h_2=>cases h0
  rename_i new rd ok hsrc;split at h0
  ·obtain⟨hok,h0⟩:=Qp h0;obtain⟨ha,h0⟩:=Qp h0;obtain⟨hkx,hS⟩:=OD hI hT p1 hsrc hok;exact onNil h0 rfl rfl rfl rfl (by show Zj 0 (new.map (I.exp e)).length _=true;rw[Fb];exact ha) hkx fun ι w v hd hv=>hS hd hv
  ·split at h0
   case h_2=>cases h0
   rename_i hid;split at h0
   case h_2=>cases h0
   rename_i c1;obtain⟨rfl,c1⟩:=qx c1;cases c1;obtain⟨hok,h0⟩:=Qp h0;obtain⟨ha,h0⟩:=Qp h0;obtain⟨hkx,hS⟩:=OD hI hT p1 hsrc hok;exact onOwn h0 hid rfl rfl rfl (by simp[Zf]) (by rw[Fb];exact ha) hkx fun ι w v hd hv=>hS (hd.mono fun i hi=>by simp[hi]) hv
  ·split at h0
   case h_2=>cases h0
   rename_i c1 _ _;obtain⟨rfl,c1⟩:=qx c1;cases c1;obtain⟨hok,h0⟩:=Qp h0;obtain⟨ha,h0⟩:=Qp h0;obtain⟨hkx,hS⟩:=OD hI hT p1 hsrc hok;exact onFull h0 ha hkx fun ι w v hd hv=>hS hd hv
  ·cases h0
theorem MF{e:Nat}(hI:IpOK P I)(hk:P.cellsOf e=1){l:List (I.C e)}{bs:List UInt8}(hb:l.map (I.full e)=bs.map fun b=>[.at (.int .u8 b.toNat)]){a:Option Addr}{n c:Nat}(hs:Src P ι w (P.cellsOf e) (l.map (I.exp e)) (.slice a n c)):
  (Conv.bytesToString (.slice a n c)).run P w= .ok (.string ⟨bs.toArray⟩) w:=by
 obtain⟨cs,h1,h2,_,h4⟩:=hs;obtain⟨h5,h6⟩:=h4 w rfl;have hlen:l.length=bs.length:=by have:=congrArg List.length hb;simpa using this
 simp[Builtin.lenOf]at h5;subst h5;rw[hlen]at h6 ⊢;have hcs:cs=(bs.map fun b=>(b.toNat:Int)).map (Value.int .u8):=by
  apply List.ext_getElem?;intro i;rw[Fb,hlen]at h1;by_cases hi:i<bs.length
  ·obtain⟨y,hy⟩: ∃y,l[i]? =some y:=⟨_,Xa (by omega)⟩;have hf:=congrArg (·[i]?) hb;simp only[Sa,hy,Xa hi,Gd,Option.some.injEq]at hf;obtain⟨z,hz⟩: ∃z,(I.exp e y)[0]? =some z:=⟨_,Xa (by rw[Vm hI,hk];omega)⟩;obtain⟨q1,q2⟩:=Lm hI hz;rw[hf]at q1;obtain⟨v,a1,_,a2⟩:=h2.2 i _ 0 z (by rw[Sa,hy];rfl) hz;rw[hk,Tf,Ad,List.getElem?_toArray]at a1;have a2:=(Oi q2).1 a2;rw[show pvE I z= .at (.int .u8 bs[i].toNat) by simpa using q1.symm]at a2;cases a2;simp[a1,hi]
  ·rw[List.getElem?_eq_none (by rw[h1,hk];omega),List.getElem?_eq_none (by simp;omega)]
 have hbs:(bs.map fun b=>(b.toNat:Int)).map (fun n=>UInt8.ofNat n.toNat)=bs:=by simp[Function.comp_def]
 cases a with
 |none=>
  simp only[Builtin.firstCells,Sem.run_pure,Result.ok.injEq,and_true]at h6;have hn:bs=[]:=by have:=congrArg Array.size h6;rw[hcs]at this;simp at this;first|exact this|exact Jc this.symm
  subst hn;rfl
 |some a=> rw[hk,hcs]at h6;simp only[Builtin.firstCells,Tf,Fb,hlen]at h6 ⊢;rw[run_bytesToString w a bs.length c _ h6,UT,hbs];simp
theorem L9(hI:IpOK P I){e:Nat}{x:ET I.C}{bs:List UInt8}{rd:List Nat}{ok:Bool}(h0:nJ e h x=some (bs,rd,ok))(hok:ok=true){v:Value}(hd:Hd P h rd ι w)(hv:RepT ι w x v): ∃a n c,v= .slice a n c/\(Conv.bytesToString v).run P w= .ok (.string ⟨bs.toArray⟩) w:=by
 unfold nJ at h0;split at h0
 ·cases h0
 rename_i p hp;obtain⟨_,b2,_⟩:=hI.byt e p hp;split at h0
 ·cases h0;obtain rfl:=zT rfl hv;exact⟨_,_,_,rfl,rfl⟩
 ·split at h0<;>cases h0;rename_i hc;obtain⟨rfl,hc⟩:=qx hc;cases hc;have S:=Src.froz hI hv.2;obtain⟨_,hv⟩:=hv;cases hv with|sl=>exact⟨_,_,_,rfl,MF hI (Fy hI hp) (b2 _) S⟩
 ·split at h0
  case h_2=>cases h0
  rename_i hid;split at h0<;>cases h0;rename_i hc;obtain⟨rfl,hc⟩:=qx hc;cases hc;have hh:=(Zg rfl).1 (hd.2 _ (by simp) _ hid);have S:=Src.all hh hv.2;have hh':=hh;obtain⟨b,h1,_⟩:=hh';obtain⟨a,c,rfl⟩:=Sq h1 hv.2;exact⟨_,_,_,rfl,MF hI (Fy hI hp) (b2 _) S⟩
 ·split at h0
  case h_2=>cases h0
  rename_i hid;split at h0<;>cases h0;rename_i off n _ _ l _ _ hc;obtain⟨rfl,hc⟩:=qx hc;cases hc;have hh:=(Zg rfl).1 (hd.2 _ (by simp) _ hid);have hh':=hh;obtain⟨b,h1,_⟩:=hh';have hv':SlS ι w _ (some _) v:=hv.2;rw[h1]at hv';have S:=Src.own hh (by simpa [Zf] using Ub hok) h1 hv';obtain⟨a,c,rfl⟩:=Sq h1 hv.2;refine⟨_,_,_,rfl,MF hI (Fy hI hp) (l:=(l.drop off).take n) (by rw[Ig,List.map_drop,b2,<-List.map_drop,<-Ig]) (by rw[Ig,List.map_drop];exact S)⟩
 ·cases h0
theorem zEe(hI:IpOK P I)(hT:TOK P T fk){src dst:Nat}{x:ET I.C}(hg:q=[]->g=true)(h0:BO T h nx src dst x q g K=some r0):OpD P g h nx K r0 fun ι w s=> ∃v,RepT ι w x v/\s=convert src dst v:=by
 have hg':q=[]-> ∀{α:Prop},g=false->α:=fun h _ e=>by rw[hg h]at e;cases e
 unfold BO at h0;split at h0
 ·rename_i k k' n hk;split at h0
  ·cases h0
  rename_i hb;obtain⟨d,hd⟩:=Hq (show kdOf P src≠ .bad by rw[Gg hT rfl hb];exact hb);refine(opv h0 fun _ ι w s _ ⟨v,hv,es⟩=>⟨_,?_,Xh _ _⟩).opd;obtain rfl:=zT rfl hv;subst es;cases d<;>simp[convert,run_underlying hd,run_underlying (Dt (Gg hT hk (by simp))),Conv.intToInt]
 ·rename_i l hk;split at h0
  ·cases h0
  rename_i hb;obtain⟨d,hd⟩:=Hq (show kdOf P src≠ .bad by rw[Gg hT rfl hb];exact hb);refine(opv h0 fun _ ι w s _ ⟨v,hv,es⟩=>⟨_,?_,ED _⟩).opd;obtain rfl:=zT rfl hv;subst es;cases d<;>simp[convert,run_underlying hd,run_underlying (Im (Gg hT hk (by simp)))]
 ·rename_i e l hk;split at h0
  case h_2=>cases h0
  rename_i p hp hks;obtain⟨_,h0⟩:=zQ h0;obtain⟨hm,h0⟩:=Qp h0;have hm:=Ub hm;obtain⟨q1,q2,q3⟩:=hI.byt e p hp;refine opd h0 (hg' rfl) fun _ ι w s W _ hf ⟨v,hv,es⟩=> ?_;obtain rfl:=zT rfl hv;refine⟨_,_,es▸Lib.run_convert_string_bytes w src dst e ⟨l.toArray⟩ (Im (Gg hT hks (by simp))) (Uh (Gg hT hk (by simp))) (Dt q3),?_⟩;obtain⟨cs,c1,c2,_,c4⟩:=Src.str (P:=P) (ι:=ι) (w:=w) hI hp l;have hlen:(p.1 l).length=l.length:=by have:=congrArg List.length (q1 l);simpa using this
  have hcap:=grownCap_ge w l.length 0 e;have hmax:=grownCap_le_maxLen w l.length 0 e hm;have hsz:(Lib.bytesCells w e ⟨l.toArray⟩).size=grownCap w l.length 0 e:=by simp only[Lib.bytesCells,size_mk,Array.size_append,Array.size_map,yf,af];omega
  have k2:=Fy hI hp;have hcr:Qr ι w (P.cellsOf e) ((p.1 l).map (I.exp e)) (Lib.bytesCells w e ⟨l.toArray⟩):=by
   refine⟨c2.1,fun i row j x hi hj=> ?_⟩;obtain rfl:j=0:=by have:=(Ma.1 hj).1;have:=c2.1 row (Nb hi);omega
   simp only[Sa,Ua]at hi;obtain⟨y,hy,rfl⟩:=hi;have hf:=congrArg (·[i]?) (q1 l);simp only[Sa,hy,Gd]at hf;obtain⟨b,hb,hf⟩:=Ua.1 hf.symm;obtain⟨e1,e2⟩:=Lm hI hj;rw[<-hf]at e1;refine⟨.int .u8 b.toNat,?_,rfl,(Oi e2).2 ?_⟩
   ·have hil:=(Ma.1 hb).1;have hib:=(Ma.1 hb).2;simp only[k2,Tf,Ad,Lib.bytesCells];rw[Sd,Ka (by simpa using hil)];simp[hil,hib]
   ·rw[show pvE I x= .at (.int .u8 b.toNat) by simpa using e1.symm];exact .at _ rfl
  refine Done.grow (o:= .sl e (p.1 l)) (cur:=Lib.bytesCells w e ⟨l.toArray⟩) W (fr0 hf) rfl (HY w e ⟨l.toArray⟩) (.inr (ja _)) hcr (by simp only[Zf,kE,Fb,hlen,hsz,k2,Tf];exact hcap) none (by simp) fun _ ι' _ e'=>Eu e' ?_;simp only[Zf,kE,Fb,hlen,size_mk];refine .inr ⟨_,grownCap w l.length 0 e,e,(Lib.bytesCells w e ⟨l.toArray⟩).size,_,rfl,rfl, .inr (by simp),hcap,hmax,by simp[World.shape?,(HY w e ⟨l.toArray⟩).new],?_⟩;rw[hsz,k2];omega
 ·rename_i e id hk;split at h0
  case h_2=>cases h0
  rename_i u l hid;obtain⟨hh,h9⟩:=zQ h0;clear h0;simp only[Da]at hh;obtain⟨⟨⟨c1,c2⟩,c3⟩,c4⟩:=hh;obtain rfl:=Ya c1;have hk:=Gg hT hk (by simp);have hu8:kdOf P e= .int .u8:=by generalize hke:(T.at e).kd=ke at c2;cases ke<;>simp only[isU8,reduceCtorEq]at c2;rename_i k;cases k<;>simp only[reduceCtorEq]at c2;exact Gg hT hke (by simp)
  obtain⟨s1,s2⟩:=oh hT c4;have hl0:0<l.length:=by cases l<;>simp at c3 ⊢
  refine opd h9 (hg' rfl) fun _ ι w s W hd _ ⟨v,hv,es⟩=> ?_;obtain⟨b,b1,b2,_,b4⟩:=GK W ((Zg rfl).1 (hd.2 id (by simp) _ hid)) hv;rcases b2 with⟨_,e0,_⟩|⟨b',c,ty,sz,a,rfl,rfl,ha,hnc,hcm,hsh,hcs⟩
  ·omega
  obtain⟨cur,fr,ty2,d1,d2,d3,d4⟩:=b4 b' rfl;have ha:a=some ⟨b',0,none⟩:=by
   rcases ha with ha|ha
   ·omega
   ·rw[ha,Cg]
  subst ha;obtain⟨fr',g1,g2,ch⟩:=S9 d1 d2;have hsh':w.shape? b'=some (ty2,cur.size):=by simp[World.shape?,d1]
  obtain⟨S,W'⟩:=Ny (T:=fun i=>i∈[(id,(.sl u l:EO I.C))].map (·.1)) W b1 (by simp) ch;refine⟨.slice (some ⟨b',0,none⟩) l.length c,w.freeze ⟨b',cur.size,none⟩ 1,?_,ι,S,W',RepT.step S hv,fun p hp=> ?_,fun _ h _=>h⟩
  ·subst es;simp only[convert,Sem.run_bind,run_underlying (Uh hk),Result.andThen_ok,run_underlying (Dt hu8),markStringish,run_shape,hsh',Gf];rfl
  ·simp at hp;subst hp;exact⟨some b',by rw[b1];simp[kE,Zf],d3.blk S g1 g2 d4⟩
 ·rename_i hk hn;split at h0
  case h_2=>cases h0
  rename_i e hks;obtain⟨hu,h0⟩:=zQ h0;have hu8:kdOf P e= .int .u8:=by generalize hke:(T.at e).kd=ke at hu;cases ke<;>simp only[isU8,reduceCtorEq]at hu;rename_i k;cases k<;>simp only[reduceCtorEq]at hu;exact Gg hT hke (by simp)
  split at h0
  case h_2=>cases h0
  rename_i bs rd ok hl;obtain⟨hok,h0⟩:=QZ hg h0;refine(opv h0 fun hg ι w s hd ⟨v,hv,es⟩=>⟨_,?_,ED _⟩).opd;obtain⟨a,n,c,rfl,hr⟩:=L9 hI hl (hok hg) hd hv;rw[es,run_convert_bytes_string w src dst e a n c (Uh (Gg hT hks (by simp))) (Dt hu8) (Im (Gg hT hk (by simp)))];exact hr
 ·cases h0
end
section
variable {I:Ip} {P:Program} {T:TT} {fk:List (Nat×List Kd)} {ι:Asg} {w w':World} {h:Nat->Option (EO I.C)} {nx:Nat} {R:Type} {r0:R} {q:Path} {g:Bool} {K:Kt I R}
theorem zz0{t:TypeId}(hg:q=[]->g=true)(h0:iJ T nx t q K=some r0):OpD P g h nx K r0 fun _ _ s=>s=Instr.makeMap t none:=by unfold iJ at h0;cases h0
theorem J8{kd:IntKind}: ∀{n:Nat} {cs:List (EV I.C)},isZs kd n cs=true->cs=List.replicate n (.int kd 0)
 |0,[],_=>rfl
 |0,_::_,h=>by cases h
 |_+1,[],h=>by cases h
 |n+1,x::r,h=>by
  cases x<;>try (cases h;done)
  simp only[isZs,Da,Eb]at h;obtain rfl:=lu h.1;obtain rfl:=h.2.1;rw[Jh,J8 h.2.2]
theorem zAy(hI:IpOK P I)(hT:TOK P T fk){t:Nat}(hg:q=[]->g=true)(h0:KP T nx t q K=some r0):OpD P g h nx K r0 fun _ _ s=>s=Instr.alloc t true (.tuple #[]):=by
 unfold KP at h0;split at h0
 case h_2=>cases h0
 rename_i n e hk;split at h0
 case h_2=>cases h0
 rename_i kd hke;obtain⟨zz,hm,h0⟩:=zY h0;obtain⟨hc,h1⟩:=zQ h0;clear h0;simp only[Da]at hc;refine opd h1 (fun e=>by rw[hg rfl]at e;cases e) fun _ ι w s W hd hf es=> ?_;obtain⟨i,z,hi,hz,hs,c1,c2⟩:=Lt hT hc.2.1;have hr:=jy (I:=I) (ι:=ι) (w:=w) c1;rw[<-c2,J8 hc.2.2]at hr;obtain⟨m1,m2⟩:=iE (P:=P) hI hm;have hsz:z.cells.size=n:=by have:=hr.1;simpa using this
 have hlen:(Zf (.sl e (List.replicate n zz):EO I.C)).length=n:=by simp[Zf]
 have hk1:kE P (.sl e (List.replicate n zz):EO I.C)=1:=m1.symm;have hcr:Qr ι w (kE P (.sl e (List.replicate n zz):EO I.C)) (Zf (.sl e (List.replicate n zz):EO I.C)) z.cells:=by
  rw[hk1];have hlx:(I.exp e zz).length=1:=(Vm hI e zz).trans m1.symm;refine⟨fun row hr=> ?_,fun i row j x hi hj=> ?_⟩
  ·simp only[Zf,List.map_replicate]at hr;rw[(List.mem_replicate.1 hr).2];exact hlx
  ·simp only[Zf,List.map_replicate,List.getElem?_replicate]at hi;split at hi
   case isFalse=>cases hi
   rename_i hin;cases hi;obtain rfl:j=0:=by have:=(Ma.1 hj).1;omega
   obtain⟨u,u1,u2,u3⟩:=hr.2 i (.int kd 0) (by rw[List.getElem?_replicate,Ka hin]);refine⟨u,by simpa using u1,u2,?_⟩;obtain⟨_,h2⟩:=(m2 ι w).2 0 _ _ rfl rfl;exact h2 0 _ _ rfl hj u u3
 refine⟨_,_,?_,Done.growA (o:= .sl e (List.replicate n zz)) (cur:=z.cells) (ty2:=t) (fr:=(0,0)) W (fr0 hf) rfl (Hr w _) (.inl rfl) hcr (by rw[hlen,hk1,hsz];simp) none (by simp) fun _ _ _ e=>xH e⟩;subst es;simp only[Instr.alloc,Sem.run_bind,Yy hi hz,Result.andThen_ok,newVar,newRow,run_newObj,Sem.run_pure]
theorem zBU(hT:TOK P T fk){t:TypeId}{m k x:ET I.C}(hg:q=[]->g=true)(h0:vI T h t m k x q K=some r0):
  ∃res,K res=some r0/\(g=false->res.up=[])/\(g=true-> ∀ι w vm vk vx,Wf ι w->Hd P h (res.rd++res.up.map (·.1)) ι w->RepT ι w m vm->RepT ι w k vk->RepT ι w x vx-> ∃w',(Instr.mapUpdate t vm vk vx).run P w= .ok () w'/\Done P ι w nx res undef w'):=by
 unfold vI at h0;cases h0
theorem zCd(hT:TOK P T fk){t:TypeId}{m k:ET I.C}{ok:Bool}(h0:EI T h t m k ok q K=some r0):OpV P g h K r0 fun ι w s=> ∃vm vk,RepT ι w m vm/\RepT ι w k vk/\s=Instr.lookup t vm vk ok:=by unfold EI at h0;cases h0
end
end Go.Lv
