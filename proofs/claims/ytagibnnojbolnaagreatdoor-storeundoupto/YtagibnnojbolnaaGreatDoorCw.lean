/- slices.Delete at the sheets of a store: the walk. -/
import Derived.Test.YtagibnnojbolnaaGreatDoorProg
import Derived.WalkKit
import Derived.Deep.RegionLaw
import Derived.Deep.LoopGhost
import Derived.Lib.Walk
import Derived.Lib.SliceRun
import Derived.Sort.WalkB12
import Derived.Sort.EncStr
import Derived.Shelf.RegionOpenPlain
import Derived.Test.YtagibnnojbolnaaGreatDoorLf
import Derived.Test.YtagibnnojbolnaaGreatDoorTy
import Derived.Test.YtagibnnojbolnaaGreatDoorIp
set_option linter.unusedSimpArgs false
set_option linter.unusedVariables false
namespace Go.Proofs
open Go.RowKit Go.Lib
set_option maxRecDepth 1000000
set_option maxHeartbeats 4000000
theorem Kd.size:(Tryz.prog.info? 37).map (·.size)=some 4:=by kernel_rfl
theorem Kd.clear(w:World)(ty:TypeId)(b o n c:Nat)(hn:0<n)(hc: ∀j,j<n*4->(w.cell? ⟨b,o+j,none⟩).isSome=true)(hf: ∀j,j<n*4->w.frozen? ⟨b,o+j,none⟩=false):
  ∃zs:List Value,zs.length=n*4/\(Builtin.clear_ #[22] ty #[.slice (some ⟨b,o,none⟩) n c]).run Tryz.prog w= .ok (.tuple #[]) (w.setCells b o zs):=by
 obtain⟨z,hz,hz4,hz1⟩: ∃z:Value,(∀w,(zeroValue 37).run Tryz.prog w= .ok z w)/\z.cells.size=4/\ ∀u∈z.cells,u.oneCell'=true:=by refine⟨_,fun w=>Tryz.zeroValue37 w,by decide,by decide⟩
 obtain⟨zs,hzs⟩: ∃zs,zs=(Builtin.zeroCells z.cells n).toList:=⟨_,rfl⟩;have hl:zs.length=n*4:=by rw[hzs];simp[Builtin.zeroCells,hz4]
 have h1: ∀u∈zs,u.oneCell'=true:=by intro u hu;rw[hzs]at hu;simp only[Builtin.zeroCells]at hu;obtain⟨k,hk,rfl⟩:=Je hu;simp only[Array.getElem_toList,Array.getElem_map,Array.getElem_range];refine hz1 _ ?_;rw[getElem!_pos z.cells _ (by rw[hz4];omega)];exact Array.getElem_mem _
 have hst:=run_storeCells_cells (P:=Tryz.prog) b o zs 0 w (by simpa [hl] using hc) (by simpa [hl] using hf) h1;simp only[Nc]at hst;refine⟨zs,hl,?_⟩;obtain⟨m,rfl⟩: ∃m,n=m+1:=⟨n - 1,by omega⟩;simp[Builtin.clear_,run_underlying (show Tryz.prog.underlying 22=some (.slice 37)from by kernel_rfl),hz,<-hzs,hst]
theorem Kd.del (blk cap i j n:Nat) (w:World) (news:List Value) (hij:i<j) (hj:j<=n) (hcap:n<=cap) (hm:cap<=9223372036854775807) (hlen:news.length=(n - j)*4) (hget: ∀t u,news[t]? =some u->w.cell? ⟨blk,j*4+t,none⟩=some u) (h1: ∀u∈news,u.oneCell'=true)
  (hok: ∀t,t<n*4->(w.cell? ⟨blk,t,none⟩).isSome=true/\w.frozen? ⟨blk,t,none⟩=false):
  Calls Tryz.prog 19 #[.slice (some ⟨blk,0,none⟩) n cap, .int .i64 i, .int .i64 j] w fun e w'=>e= .returned (.slice (some ⟨blk,0,none⟩) (n - (j - i)) cap)/\
   ∃zs:List Value,zs.length=(j - i)*4/\w'=(w.drew.setCells blk (i*4) news).setCells blk ((i+(n - j))*4) zs:=by
 obtain⟨i0,hi0,hz1⟩:=Ma.1 Kd.size;have t22:Tryz.prog.underlying 22=some (.slice 37):=by kernel_rfl
 obtain⟨A,hA,hsrc⟩: ∃A:Addr,(if cap=j then some (⟨blk,0,none⟩:Addr)else some ⟨blk,j*4,none⟩)=some A/\Hid (∀t u,news[t]? =some u->w.drew.cell? (A.add t)=some u):=by
  by_cases h:cap=j
  ·refine⟨⟨blk,0,none⟩,by simp[h],fun t u hu=> ?_⟩;have h0:news.length=0:=by rw[hlen];omega
   rw[List.length_eq_zero_iff.1 h0]at hu;simp at hu
  ·refine⟨⟨blk,j*4,none⟩,by simp[h],fun t u hu=> ?_⟩;rw[Addr.add_lit];exact hget t u hu
 have s1:Hid (news.length=(n - j)*4):=hlen;have s2:Hid (∀u∈news,u.oneCell'=true):=h1;have s3:Hid (∀t,t<news.length->(w.drew.cell? ⟨blk,0+i*4+t,none⟩).isSome=true/\w.drew.frozen? ⟨blk,0+i*4+t,none⟩=false):=by intro t ht;rw[hlen]at ht;rw[jc];exact hok _ (by omega)
 obtain⟨W1,hW1⟩: ∃W1,W1=w.drew.setCells blk (0+i*4) news:=⟨_,rfl⟩;have hW1c: ∀t,t<n*4->(W1.cell? ⟨blk,t,none⟩).isSome=true/\W1.frozen? ⟨blk,t,none⟩=false:=by
  intro t ht;rw[hW1,World.frozen?_setCells];refine⟨?_,(hok t ht).2⟩;by_cases hin:0+i*4<=t/\t<0+i*4+news.length
  ·have:=World.cell?_setCells_in blk news (0+i*4) w.drew (fun q hq=>(s3 q hq).1) (t - (0+i*4)) (by omega);rw[show 0+i*4+(t - (0+i*4))=t by omega]at this;rw[this];rfl
  ·rw[World.cell?_setCells_out blk news (0+i*4) w.drew ⟨blk,t,none⟩ (fun _ _=>by show t<_\/_<=t;omega)];exact(hok t ht).1
 obtain⟨zs,hzl,hcl⟩: ∃zs:List Value,Hid (zs.length=(j - i)*4)/\ ∀ty,(Builtin.clear_ #[22] ty #[.slice (some ⟨blk,(i+(n - j))*4,none⟩) (n - (i+(n - j))) (cap - (i+(n - j)))]).run Tryz.prog W1= .ok (.tuple #[]) (W1.setCells blk ((i+(n - j))*4) zs):=by obtain⟨zs,a1,a2⟩:=Kd.clear W1 0 blk ((i+(n - j))*4) (n - (i+(n - j))) (cap - (i+(n - j))) (by omega) (fun t ht=>(hW1c _ (by omega)).1) (fun t ht=>(hW1c _ (by omega)).2);exact⟨zs,by rw[a1];congr 1;omega,fun ty=>a2⟩
 have hW:Hid (W1=w.drew.setCells blk (0+i*4) news):=hW1;have mixed:Tryz.prog.follows Departure.mixedOrders=true:=by kernel_rfl
 have hic:i<=cap:=by omega
 have hjc:j<=cap:=by omega
 clear hW1 hW1c hget hlen h1 hok;go_enter Tryz.func19,Tryz.ntmps19
 go_wp2_with fail
 go_region_law_o (refine step_append_room rfl (.tmp 22) (.tmp 25) 22 rfl 37 i0 4 t22 hi0 hz1 blk 0 i cap (by simp[Act.eval,Act.put]) A (n - j) (cap - j) news (by simp[Act.eval,Act.put]) s1.out hsrc.out s2.out (by omega) s3.out ?_;rw[<-hW.out])
 go_wp2
 go_ret;refine⟨by rw[show n - (j - i)=i+(n - j) by omega];rfl,zs,hzl.out,?_⟩;rw[hW.out,jc]
end Go.Proofs

namespace Go.Lv
open Go.Proofs
set_option maxRecDepth 100000
section
variable {I:Ip}
theorem rY{w:World}{b o:Nat}{cur:Array Value}{t:TypeId}{fr:Nat×Nat}(h:w.heap[b]? =some (.cells cur t fr))(v:Value):(w.setCell ⟨b,o,none⟩ v).heap[b]? =some (.cells (cur.setIfInBounds o v) t fr):=by unfold World.setCell;simp[Pg,h]
theorem zKo{w:World}{b o:Nat}{cur:Array Value}{t:TypeId}{fr:Nat×Nat}(h:w.heap[b]? =some (.cells cur t fr))(v:Value):Chg w (w.setCell ⟨b,o,none⟩ v) b:=by
 refine⟨rfl,rfl,rfl,by simp[World.setCell],fun b' hb=> ?_,fun s hs=> ?_⟩
 ·unfold World.setCell;simp only[Pg];rw[Oa (fun e=>hb e.symm)]
 ·unfold World.shape? at hs ⊢;rw[h]at hs;rw[rY h];simpa using hs
theorem lJ{w w' w'':World}{b:Nat}(h:Chg w w' b)(h':Chg w' w'' b):Chg w w'' b:=
 ⟨h'.os.trans h.os,h'.tape.trans h.tape,h'.output.trans h.output,h'.size.trans h.size,fun b' hb=>(h'.other b' hb).trans (h.other b' hb),fun s hs=>h'.shape s (h.shape s hs)⟩
theorem setks{b:Nat}{t:TypeId}{fr:Nat×Nat}: ∀(vs:List Value) (o:Nat) (w:World) (cur:Array Value),w.heap[b]? =some (.cells cur t fr)->o+vs.length<=cur.size->
  ∃cur',(w.setCells b o vs).heap[b]? =some (.cells cur' t fr)/\cur'.size=cur.size/\Chg w (w.setCells b o vs) b/\(∀m,m<o\/o+vs.length<=m->cur'[m]? =cur[m]?)/\ ∀m,m<vs.length->cur'[o+m]? =vs[m]?
 |[],o,w,cur,h,_=>⟨cur,h,rfl,⟨rfl,rfl,rfl,rfl,fun _ _=>rfl,fun _ h=>h⟩,fun _ _=>rfl,fun m hm=>by cases hm⟩
 |v::r,o,w,cur,h,hs=>by
  simp only[Ga]at hs;obtain⟨cur',a1,a2,a3,a4,a5⟩:=setks r (o+1) (w.setCell ⟨b,o,none⟩ v) _ (rY h v) (by simp;omega);refine⟨cur',a1,by rw[a2];simp,lJ (zKo h v) a3,fun m hm=> ?_,fun m hm=> ?_⟩
  ·simp only[Ga]at hm;rw[a4 m (by omega),ug,Oa (by omega)]
  ·cases m with
   |zero=> rw[Nc,a4 o (by omega),ug,Sa rfl,Sa (by omega)];rfl
   |succ m=> simp only[Ga]at hm;rw[show o+(m+1)=o+1+m by omega,a5 m (by omega)];rfl
theorem zMR{T T':Nat->Prop}{ι ι':Asg}{w w':World}(S:Stp T ι w ι' w')(h: ∀i,T i->T' i):Stp T' ι w ι' w':=
 ⟨S.toConv,S.os,S.tape,S.output,S.size,fun id b k n hT=>S.own id b k n (fun t=>hT (h id t)),S.slots,fun id hT=>S.fix id (fun t=>hT (h id t)),fun b hx=>S.xs b (gq h hx),S.xn,fun b hx=>S.xkeep b (gq h hx)⟩
theorem zFX(hI:IpOK Tryz.prog I)(hwf:Bj (⟨19,⟨[.own 0, .int .i64, .int .i64],[(0, .sl 37)]⟩,[],⟨[.own 1],[(1, .sl 37)]⟩,1,delK⟩:Con I)=true):
  ZL Tryz.prog (⟨19,⟨[.own 0, .int .i64, .int .i64],[(0, .sl 37)]⟩,[],⟨[.own 1],[(1, .sl 37)]⟩,1,delK⟩:Con I):=
 ⟨hwf,fun _ _ _=>⟨_,Tryz.func19,by kernel_rfl,by kernel_rfl⟩,fun x y hxy ι w vs WF hfr hobj hv=>by
  obtain⟨i,j,l,rfl⟩: ∃(i j:Int) (l:List (I.C 37)),x=((i,j),l):=⟨x.1.1,x.1.2,x.2,rfl⟩;obtain⟨y,rfl⟩: ∃y':List (I.C 37),y'=y:=⟨y,rfl⟩;have hxy:delK ((i,j),l)=some y:=hxy;unfold delK at hxy;cases hc:(decide (0<=i)&&(decide (i<j)&&decide (j<=(l.length:Int))))with
  |false=>simp only[hc,Ba]at hxy;cases hxy
  |true=>
  simp only[hc,Ca,Option.some.injEq]at hxy;simp only[Da,ja]at hc;obtain⟨hi0,hij,hjl⟩:=hc;obtain⟨i,rfl⟩:=uf hi0;obtain⟨j,rfl⟩:=uf (show 0<=j by omega);simp only[Cb]at hxy;have hij:i<j:=by omega
  have hjl:j<=l.length:=by omega
  have hk:Tryz.prog.cellsOf 37=4:=by kernel_rfl
  have hobj:Qd Tryz.prog ι w 0 (.sl 37 l:EO I.C):=hobj (0, .sl 37 l) (Ob ..);obtain⟨hv3,hv⟩:=hv;obtain⟨v0,b0,r0⟩:=hv 0 (.c (.own 0)) rfl;obtain⟨v1,b1,r1⟩:=hv 1 (.c (.int .i64 i)) rfl;obtain⟨v2,b2,r2⟩:=hv 2 (.c (.int .i64 j)) rfl;obtain rfl:=Zf rfl r1;obtain rfl:=Zf rfl r2;obtain⟨b,h1,h2,_,h4⟩:=base_of ((Zo rfl).1 hobj) r0;have hn:(Zd (.sl 37 l:EO I.C)).length=l.length:=by simp[Zd]
  have hkE:kE Tryz.prog (.sl 37 l:EO I.C)=4:=hk;rw[hn,hkE]at h1 h2;rcases h2 with⟨_,h0,_⟩|⟨b',c,ty,sz,a,rfl,rfl,g1,g2,g3,g4,g5⟩
  ·omega
  obtain rfl:a=some ⟨b',0,none⟩:=by
   rcases g1 with g1|g1
   ·omega
   ·simpa using g1
  obtain⟨cur,fr,ty2,k1,k2,k3,k4⟩:=h4 b' rfl;rw[hkE]at k3 k4;rw[hn]at k4;obtain rfl:vs= #[.slice (some ⟨b',0,none⟩) l.length c, .int .i64 i, .int .i64 j]:=by
   have h1:vs.size=3:=hv3;apply Array.ext
   ·simp[h1]
   ·intro q hq hq';have hq3:q<3:=by omega
    have e0:=(Lb.1 b0).2;have e1:=(Lb.1 b1).2;have e2:=(Lb.1 b2).2
    match q,hq3 with
    |0,_=>simpa using e0
    |1,_=>simpa using e1
    |2,_=>simpa using e2
  have hcell: ∀t,w.cell? ⟨b',t,none⟩=cur[t]? :=fun t=>by unfold World.cell?;rw[k1];simp
  have hone: ∀t u,t<l.length*4->cur[t]? =some u->u.oneCell'=true:=fun t u ht hu=>by
   obtain⟨d1,d2⟩:=eQ (n:=l.length) (k:=4) ht;have hr:(Zd (.sl 37 l:EO I.C))[t / 4]? =some (I.exp _ l[t / 4]):=by simp[Zd,d1]
   have hl4:=k3.1 _ (ma hr);obtain⟨v,q1,q2⟩:=k3.2 (t / 4) _ (t%4) _ hr (Ta (by omega));rw[show t / 4*4+t%4=t by omega,hu]at q1;cases q1;exact q2.1
  have hfz: ∀t,t<l.length*4->w.frozen? ⟨b',t,none⟩=false:=fun t ht=>by unfold World.frozen?;rw[k1];rcases k2.1 with h|h<;>simp<;>omega
  have hnl:((cur.toList.drop (j*4)).take ((l.length - j)*4)).length=(l.length - j)*4:=by simp;omega
  have hnews: ∀t u,((cur.toList.drop (j*4)).take ((l.length - j)*4))[t]? =some u->t<(l.length - j)*4/\cur[j*4+t]? =some u:=fun t u hu=>by
   rw[Uc]at hu;split at hu
   ·rw[Xc,Ed]at hu;exact⟨by assumption,hu⟩
   ·cases hu
  refine(Kd.del b' c i j l.length w ((cur.toList.drop (j*4)).take ((l.length - j)*4)) hij hjl g2 g3 hnl (fun t u hu=>by rw[hcell];exact(hnews t u hu).2) (fun u hu=>by
    obtain⟨t,ht,rfl⟩:=Je hu;obtain⟨q1,q2⟩:=hnews t _ (Ta ht);exact hone _ _ (by omega) q2) (fun t ht=>⟨by rw[hcell];simp;omega,hfz t ht⟩)).mono ?_
  rintro e w' ⟨rfl,zs,hz,rfl⟩;have hd:(w.drew).heap[b']? =some (.cells cur ty2 fr):=k1;have cd:Chg w w.drew b':=⟨rfl,rfl,rfl,rfl,fun _ _=>rfl,fun _ h=>h⟩;obtain⟨cur1,a1,a2,a3,a4,a5⟩:=setks (b:=b') ((cur.toList.drop (j*4)).take ((l.length - j)*4)) (i*4) w.drew cur hd (by rw[hnl];omega);obtain⟨cur2,c1,c2,c3,c4,c5⟩:=setks (b:=b') zs ((i+(l.length - j))*4) _ cur1 a1 (by rw[hz,a2];omega);have hch:=lJ cd (lJ a3 c3);subst hxy;have hyl:(Zd (.sl 37 (l.take i++l.drop j):EO I.C)).length=i+(l.length - j):=by simp[Zd];omega
  have hcr:qD ι w 4 (Zd (.sl 37 (l.take i++l.drop j):EO I.C)) cur2:=by
   refine⟨fun row hr=> ?_,fun m row q x hm hq=> ?_⟩
   ·obtain⟨y,_,rfl⟩:=Nb.1 hr;rw[Al hI,hk]
   ·simp only[Zd,Ra,Ma]at hm;obtain⟨y,hy,rfl⟩:=hm;have hq4:q<4:=by have:=(Ja.1 hq).1;rw[Al hI,hk]at this;exact this
    have hml:m<i+(l.length - j):=by have:=(Ja.1 hy).1;simp at this;omega
    rw[Ec]at hy;have tl:(l.take i).length=i:=by simp;omega
    rw[tl]at hy;split at hy
    ·rename_i hmi;rw[Uc,Sa hmi]at hy;obtain⟨v,q1,q2⟩:=k3.2 m (I.exp _ y) q x (by simp[Zd,hy]) hq;exact⟨v,by rw[c4 _ (.inl (by omega)),a4 _ (.inl (by omega))];exact q1,q2⟩
    ·rename_i hmi;rw[Xc]at hy;obtain⟨v,q1,q2⟩:=k3.2 (j+(m - i)) (I.exp _ y) q x (by simp[Zd,hy]) hq;refine⟨v,?_,q2⟩;rw[c4 _ (.inl (by omega)),show m*4+q=i*4+((m - i)*4+q) by omega,a5 _ (by rw[hnl];omega),Uc,Sa (by omega),Xc,Ed,<-q1];congr 1;omega
  obtain⟨ι',S,W',hR,hO,hF⟩:Done Tryz.prog ι w 1 ⟨.v (.c (.own 1)),upK (some 0) 1 (.sl 37 (l.take i++l.drop j)),[],1⟩ (.slice (some ⟨b',0,none⟩) (l.length - (j - i)) c) _:=
   .put (b:=some b') (B:=(· =b')) WF (hfr 1 (Xa _)) rfl hch.wld (some 0) (fun id e=>by cases e;rw[h1];intro h;cases h) (fun b e=>by cases e;exact .inr ⟨0,_,_,rfl,h1⟩) (fun b e=>by subst e;exact⟨0,_,_,rfl,h1⟩)
    (fun T ι' S=>by
     rw[show kE Tryz.prog (.sl 37 (l.take i++l.drop j):EO I.C)=4 from hk];refine hcr.blk S c1 ?_ ?_
     ·rw[c2,a2];exact k2
     ·rw[hyl,c2,a2];omega)
    fun T ι' S e'=>dm e' (by
     rw[show kE Tryz.prog (.sl 37 (l.take i++l.drop j):EO I.C)=4 from hk,hyl];refine .inr ⟨b',c,ty,sz,_,rfl,by rw[show l.length - (j - i)=i+(l.length - j) by omega], .inr (by simp),by omega,g3,hch.wld.shape _ _ g4,g5⟩)
  exact⟨_,ι',rfl,zMR S (fun _ _=>by simp),W',hR,fun o ho=>by obtain rfl:=Tc.1 ho;exact hO (1, .sl 37 (l.take i++l.drop j)) (by simp[upK]),fun q hq=>hF q (hfr q (by omega)) (.inr (by omega))⟩⟩
end
end Go.Lv

namespace Go.Lv.VT
open Go.Proofs
set_option maxRecDepth 100000
theorem zLY:ZL Tryz.prog (⟨19,⟨[.own 0, .int .i64, .int .i64],[(0, .sl 37)]⟩,[],⟨[.own 1],[(1, .sl 37)]⟩,1,delK⟩:Con VT.I):=zFX ipOK (by kernel_rfl)
end Go.Lv.VT
