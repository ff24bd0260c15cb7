import Derived.Test.YtiidaccdmolmkaaGreatDoorCb
set_option linter.all false
namespace Go.Proofs
set_option maxRecDepth 100000
set_option maxHeartbeats 4000000
def Cl.mS(w:World)(C:Array Value)(t:TypeId)(n o:Nat)(v:Value):((w.alloc (.cells C t)).drewN n).setCell ⟨w.heap.size,o,none⟩ v=(w.alloc (.cells (C.setIfInBounds o v) t)).drewN n:=by have h:((w.alloc (.cells C t)).drewN n).setCell ⟨w.heap.size,o,none⟩ v=((w.alloc (.cells C t)).setCell ⟨w.heap.size,o,none⟩ v).drewN n:=rfl;rw[h,World.setCell_alloc_at _ _ _ _ _ rfl]
structure Cl.M2 (C:Array Value) (k:Nat):Prop where
 sz:C.size=262
 cn:C[5]? =some (.int .i64 4)
 lo: ∀j,j<k->C[6+j]? =some (.int .u8 (Cl.mp j))
 hi: ∀j,k<=j->C[6+j]? =Cl.C1[6+j]?
 ot: ∀o,o<5->C[o]? =Cl.C1[o]?
structure Cl.M1 (C:Array Value) (k:Nat):Prop where
 sz:C.size=262
 cn:C[5]? =some (.int .i64 (Cl.cnt k))
 ot: ∀o,o≠5->C[o]? =Cl.C1[o]?
def Cl.od(k:Nat):Cl.mk k<=1/\0<=Cl.mk k:=by unfold Cl.mk;split<;>omega
def Cl.np: ∀k:Nat,Cl.cnt k<=k/\0<=Cl.cnt k
 |0=>by simp[Cl.cnt]
 |k+1=>by have:=Cl.np k;have:=Cl.od k;simp only[Cl.cnt];omega
def Cl.M1.next{C:Array Value}{k:Nat}(h:Cl.M1 C k):Cl.M1 (C.setIfInBounds 5 (.int .i64 (Cl.cnt k+Cl.mk k))) (k+1):=
 ⟨by simp[h.sz],by simp[h.sz,Cl.cnt],λo ho=>by rw[Ce (by omega)];exact h.ot o ho⟩
def Cl.oT:Cl.cnt 256=4:=by decide+kernel
def Cl.M1.end_{C:Array Value}(h:Cl.M1 C 256):Cl.M2 C 0:=
 ⟨h.sz,by rw[h.cn,Cl.oT],λj hj=>by omega,λj _=>h.ot _ (by omega),λo ho=>h.ot _ (by omega)⟩
def Cl.M2.next{C:Array Value}{k:Nat}(h:Cl.M2 C k)(hk:k<256)(v:Int)(hv:v=Cl.mp k):Cl.M2 (C.setIfInBounds (6+k) (.int .u8 v)) (k+1):=by
 subst hv;refine⟨by simp[h.sz],?_,λj hj=> ?_,λj hj=> ?_,λo ho=> ?_⟩
 ·rw[Ce (by omega)];exact h.cn
 ·by_cases e:j=k
  ·subst e;rw[Fh];rw[La rfl,La (by rw[h.sz];omega)]
  ·rw[Ce (by omega)];exact h.lo j (by omega)
 ·rw[Ce (by omega)];exact h.hi j (by omega)
 ·rw[Ce (by omega)];exact h.ot o ho
def Cl.mk0{k:Nat}(h:Cl.mk k=0):Cl.mp k=4:=by
 unfold Cl.mk at h;unfold Cl.mp;split at h
 ·cases h
 ·rename_i h1;simp only[not_or]at h1;simp[h1]
def Cl.mk1{k:Nat}(h:Cl.mk k=1):Cl.cnt k=Cl.mp k:=by
 unfold Cl.mk at h;split at h
 ·rename_i h1;rcases h1 with rfl|rfl|rfl|rfl<;>decide+kernel
 ·cases h
def Cl.pP(k:Nat):Cl.mk k=0\/Cl.mk k=1:=by have:=Cl.od k;omega
def Cl.oS: ∀k:Nat,k<256->Cl.cnt k<=4:=by decide+kernel
def Cl.pf{w W:World}(C:Array Value)(hC: ∀o,o≠5->C[o]? =Cl.C1[o]?)(hW: ∀o,W.cell? ⟨w.heap.size,o,none⟩=C[o]?):W.rangeAt w.heap.size 6 Cl.mv.toList:=λj v hv=>by
 rw[hW,hC _ (by omega)];have hj:j<256:=by have:=(Ua.1 hv).1;simpa [Cl.mv] using this
 rw[Cl.mT hj,<-hv];simp[Cl.mv,hj]
def Cl.base{w:World}{C:Array Value}(n ob:Nat)(hO:Cl.Old w ob)(hM:Cl.M2 C 256):
  let W:=(((w.alloc (.cells C 363)).drewN n).setCell ⟨w.heap.size,4,none⟩ (.slice (some ⟨w.heap.size+1,0,none⟩) 4 4)).alloc (.cells #[.pointer none, .pointer none, .pointer none, .pointer none] 358)
  Cl.Base W w.heap.size (w.heap.size+1) ob/\Cl.Fr w W []/\W.cell? ⟨w.heap.size+1,0,none⟩=some (.pointer none)/\W.cell? ⟨w.heap.size+1,1,none⟩=some (.pointer none)/\
   W.cell? ⟨w.heap.size+1,2,none⟩=some (.pointer none)/\W.cell? ⟨w.heap.size+1,3,none⟩=some (.pointer none):=by
 intro W;have hob:ob<w.heap.size:=Cl.mu hO.o0;have hw:W=((w.alloc (.cells (C.setIfInBounds 4 (.slice (some ⟨w.heap.size+1,0,none⟩) 4 4)) 363)).drewN n).alloc (.cells #[.pointer none, .pointer none, .pointer none, .pointer none] 358):=by show World.alloc _ _=_;rw[Cl.mS]
 rw[hw];clear hw W;have f1:=Cl.Fr.alloc w (.cells (C.setIfInBounds 4 (.slice (some ⟨w.heap.size+1,0,none⟩) 4 4)) 363);have f2:=Cl.Fr.drewN (w.alloc (.cells (C.setIfInBounds 4 (.slice (some ⟨w.heap.size+1,0,none⟩) 4 4)) 363)) n;have f3:=Cl.Fr.alloc ((w.alloc (.cells (C.setIfInBounds 4 (.slice (some ⟨w.heap.size+1,0,none⟩) 4 4)) 363)).drewN n) (.cells #[.pointer none, .pointer none, .pointer none, .pointer none] 358);have hF:Cl.Fr w _ []:=(f1.trans f2).trans f3;have hs:w.heap.size+1=((w.alloc (.cells (C.setIfInBounds 4 (.slice (some ⟨w.heap.size+1,0,none⟩) 4 4)) 363)).drewN n).heap.size:=by show _=(World.alloc _ _).heap.size;rw[World.size_alloc]
 have hg: ∀o,(((w.alloc (.cells (C.setIfInBounds 4 (.slice (some ⟨w.heap.size+1,0,none⟩) 4 4)) 363)).drewN n).alloc (.cells #[.pointer none, .pointer none, .pointer none, .pointer none] 358)).cell? ⟨w.heap.size,o,none⟩=(C.setIfInBounds 4 (.slice (some ⟨w.heap.size+1,0,none⟩) 4 4))[o]? :=λo=>
  (f3.cell w.heap.size o (by rw[<-hs];omega) (by simp)).trans (Cl.ml w _ _ _ _ rfl)
 have hc: ∀o,o≠4->(C.setIfInBounds 4 (.slice (some ⟨w.heap.size+1,0,none⟩) 4 4))[o]? =C[o]? :=λo ho=>Ce (by omega);have ho:=λo=>hF.cell ob o hob (by simp);have h1:Cl.C1[1]? =some (.int .i64 0):=by kernel_rfl
 have h2:Cl.C1[2]? =some (.string ⟨#[]⟩):=by kernel_rfl
 refine⟨⟨hob,by omega,?_,?_,?_,?_,?_,?_,?_,?_⟩,hF,?_,?_,?_,?_⟩
 ·rw[hg,hc _ (by omega),hM.ot _ (by omega),h1]
 ·rw[hg,hc _ (by omega),hM.ot _ (by omega),h2]
 ·rw[hg,Fh,La rfl,La (by rw[hM.sz];omega)]
 ·rw[hg,hc _ (by omega),hM.cn]
 ·intro k hk;rw[hg,hc _ (by omega),hM.lo k hk]
 ·exact λm _=>Cl.mm _ _ _ _ _ hs
 ·rw[World.size_alloc];omega
 ·exact⟨(ho _).trans hO.o0,(ho _).trans hO.o1,(ho _).trans hO.o2,(ho _).trans hO.o3,(ho _).trans hO.o4,(ho _).trans hO.o5,(ho _).trans hO.o6,(ho _).trans hO.o7⟩
 all_goals (rw[Cl.ml _ _ _ _ _ hs];rfl)
def Cl.made(ob c:Nat)(w:World)(hO:Cl.Old w ob):
  Calls Tryz.prog 341 #[.slice (some ⟨ob,0,none⟩) 8 c] w λe w'=> ∃g tb a b c d,e= .returned (.pointer (some ⟨g,0,none⟩))/\Cl.Gr w w'/\Cl.TW w' g tb a b c d/\Cl.Old w' ob:=by
 have o0:=hO.o0;have o2:=hO.o2;have o4:=hO.o4;have o6:=hO.o6;go_enter Tryz.func341,Tryz.ntmps341;have e6:Tryz.zeroCells363[6]? =some (.int .u8 0):=by kernel_rfl
 have e16:Tryz.zeroCells363[16]? =some (.int .u8 0):=by kernel_rfl
 have e18:Tryz.zeroCells363[18]? =some (.int .u8 0):=by kernel_rfl
 have e19:Tryz.zeroCells363[19]? =some (.int .u8 0):=by kernel_rfl
 have hob:ob<w.heap.size:=Cl.mu o0;have hO:=λo v (h:w.cell? ⟨ob,o,none⟩=some v) (C:Array Value)=>(show(w.alloc (.cells C 363)).cell? ⟨ob,o,none⟩=some v by rw[World.cell?_alloc_past _ _ _ hob];exact h);have a0:=λC=>hO _ _ o0 C;have a2:=λC=>hO _ _ o2 C;have a4:=λC=>hO _ _ o4 C;have a6:=λC=>hO _ _ o6 C;clear hO
 go_wp2_with fail
 refine wp_loop_rounds 5 ?_;rw[rounds_succ]
 go_wp2_with fail
 refine wp_loop_rounds 3 ?_;rw[rounds_succ]
 go_wp2_with fail
 go_region_with (fail)
 all_goals go_wp2_with fail
 rw[rounds_succ]
 go_wp2_with fail
 go_region_with (fail)
 all_goals go_wp2_with fail
 rw[rounds_succ]
 go_wp2_with fail
 rw[rounds_succ]
 go_wp2_with fail
 refine wp_loop_rounds 2 ?_;rw[rounds_succ]
 go_wp2_with fail
 go_region_with (fail)
 all_goals go_wp2_with fail
 rw[rounds_succ]
 go_wp2_with fail
 rw[rounds_succ]
 go_wp2_with fail
 refine wp_loop_rounds 2 ?_;rw[rounds_succ]
 go_wp2_with fail
 go_region_with (fail)
 all_goals go_wp2_with fail
 rw[rounds_succ]
 go_wp2_with fail
 rw[rounds_succ]
 go_wp2_with fail
 refine wp_loop_rounds 2 ?_;rw[rounds_succ]
 go_wp2_with fail
 go_region_with (fail)
 all_goals go_wp2_with fail
 rw[rounds_succ]
 go_wp2_with fail
 rw[rounds_succ]
 go_wp2_with fail
 refine wp_load_mid 341 _ rfl w.heap.size 6 (by rfl) Cl.mv.toList (.array 256 5) ?_ Cl.nn rfl Cl.oA ?_
 ·exact Cl.ph (w:=w) _ (by rfl) λo=>Cl.ml w _ _ _ _ rfl
 go_wp2_with fail
 clear a0 a2 a4 a6 e6 e16 e18 e19 o0 o2 o4 o6
 go_loopw [41] (λi W=> ∃(k n:Nat) (C:Array Value),k<=256/\i= .int .i64 k/\W=(w.alloc (.cells C 363)).drewN n/\Cl.M1 C k) (λi _=>256 - (Cl.iOf i).toNat)
 case atStart=>exact⟨0,5,Cl.C1,by omega,rfl,rfl,⟨Cl.o8,by kernel_rfl,λ_ _=>rfl⟩⟩
 case round=>
  obtain⟨k,n,C,k1,rfl,rfl,hM⟩:=hrel;by_cases hk:k<256
  ·have hk':(k:Int)<256:=by omega
   have hm:Cl.mv[k]? =some (.int .u8 (Cl.mk k)):=by simp[Cl.mv,hk]
   have hx:=Cl.mL hk hm;have hc:=hM.cn;have hl:Cl.cnt k<=k/\0<=Cl.cnt k:=Cl.np k;have hb:Cl.mk k<=1/\0<=Cl.mk k:=Cl.od k;have hb2:0<=Cl.mk k/\Cl.mk k<256:=by omega
   have HM:=Lib.hid hM;clear hM
   go_wp2_with fail
   exact⟨⟨k+1,n,_,by omega,rfl,Cl.mS ..,HM.out.next⟩,by simp[Cl.iOf];omega⟩
  ·obtain rfl:k=256:=by omega
   have HM:=Lib.hid hM;have HR:=Lib.hid (λ(n:Nat)=>Cl.pf (w:=w) (W:=(w.alloc (.cells C 363)).drewN n) C hM.ot λo=>Cl.ml w _ _ _ _ rfl);clear hM
   go_wp2_with fail
   refine wp_load_mid 341 _ rfl w.heap.size 6 (by rfl) Cl.mv.toList (.array 256 5) (HR.out _) Cl.nn rfl Cl.oA ?_
   go_wp2_with fail
   clear hk
   go_loopw [58,9] (λi x W=> ∃(k n:Nat) (C:Array Value),k<=256/\i= .int .i64 k/\x= .int .u8 (Cl.cnt k)/\W=(w.alloc (.cells C 363)).drewN n/\Cl.M2 C k) (λi _ _=>256 - (Cl.iOf i).toNat)
   case atStart=>exact⟨0,n,C,by omega,rfl,rfl,rfl,HM.out.end_⟩
   case round=>
    obtain⟨k,n,C,k1,rfl,rfl,rfl,hM⟩:=hrel;by_cases hk:k<256
    ·have hk':(k:Int)<256:=by omega
     have hm:Cl.mv[k]? =some (.int .u8 (Cl.mk k)):=by simp[Cl.mv,hk]
     rcases Cl.pP k with h0|h0
     ·rw[h0]at hm;have hx:=Cl.mL hk hm;have hc:=hM.cn;have he:=(hM.hi k (by omega)).trans ((Cl.mT hk).trans (by rw[h0]));have HM:=Lib.hid hM;have H0:=Lib.hid h0;have h4:=Lib.hid (Cl.mk0 h0);clear hM h0
      go_wp2_with fail
      go_region_with (fail)
      all_goals go_wp2_with fail
      exact⟨⟨k+1,_,_,by omega,rfl,by rw[Cl.cnt,H0.out];simp,Cl.mS ..,HM.out.next hk _ (by rw[h4.out];rfl)⟩,by simp[Cl.iOf];omega⟩
     ·rw[h0]at hm;have hx:=Cl.mL hk hm;have hc:=hM.cn;have he:=(hM.hi k (by omega)).trans ((Cl.mT hk).trans (by rw[h0]));have hl:=Cl.oS k hk;have hl2:=(Cl.np k).2;have HM:=Lib.hid hM;have H0:=Lib.hid h0;have h4:=Lib.hid (Cl.mk1 h0);clear hM h0
      go_wp2_with fail
      exact⟨⟨k+1,_,_,by omega,rfl,by rw[Cl.cnt,H0.out],Cl.mS ..,HM.out.next hk _ h4.out⟩,by simp[Cl.iOf];omega⟩
    ·obtain rfl:k=256:=by omega
     have e256:((256:Nat):Int)=256:=rfl;rw[e256];have h1:=hM.cn;have hmk:=Cl.mk4;have hn:C[4]? =some (.slice none 0 0):=(hM.ot 4 (by omega)).trans (by kernel_rfl);have HM:=Lib.hid hM;clear hM hk
     go_wp2_with fail
     obtain⟨hB,hF,t0,t1,t2,t3⟩:=Cl.base n ob hO HM.out;generalize ((((w.alloc (.cells C 363)).drewN n).setCell ⟨w.heap.size,4,none⟩ (.slice (some ⟨w.heap.size+1,0,none⟩) 4 4)).alloc (.cells #[.pointer none, .pointer none, .pointer none, .pointer none] 358))=W at hB hF t0 t1 t2 t3 ⊢;have hS:Cl.St w w.heap.size (w.heap.size+1) ob 0 W:=⟨hB,hF,by omega,t0,t1,t2,t3⟩;clear hB hF t0 t1 t2 t3 HM h1 hn hmk;have hg:w.heap.size+1=w.heap.size+1:=rfl
     go_loopw [12] (λi W=>(i= .int .i64 0/\Cl.St w w.heap.size (w.heap.size+1) ob 0 W)\/(i= .int .i64 2/\Cl.St w w.heap.size (w.heap.size+1) ob 1 W)\/(i= .int .i64 4/\Cl.St w w.heap.size (w.heap.size+1) ob 2 W)\/
      (i= .int .i64 6/\Cl.St w w.heap.size (w.heap.size+1) ob 3 W)\/(i= .int .i64 8/\Cl.St w w.heap.size (w.heap.size+1) ob 4 W)) (λi _=>8 - (Cl.iOf i).toNat)
     case atStart=>exact .inl ⟨rfl,hS⟩
     case round=>
      clear hS;rcases hrel with⟨rfl,hS⟩|⟨rfl,hS⟩|⟨rfl,hS⟩|⟨rfl,hS⟩|⟨rfl,hS⟩
      ·have o0:=hS.1.old.o0;have o1:=hS.1.old.o1;have HA:=Lib.hid (Cl.st0 hS);clear hS
       go_wp2_with fail
       go_region_with (go_at_call 353;refine(HA.out _).mono ?_;rintro e w1 ⟨rfl,hS⟩)
       all_goals go_wp2_with fail
       all_goals exact⟨.inr (.inl ⟨rfl,hS⟩),by decide⟩
      ·have o0:=hS.1.old.o2;have o1:=hS.1.old.o3;have HA:=Lib.hid (Cl.st1 hS);clear hS
       go_wp2_with fail
       go_region_with (go_at_call 353;refine(HA.out _).mono ?_;rintro e w1 ⟨rfl,hS⟩)
       all_goals go_wp2_with fail
       all_goals exact⟨.inr (.inr (.inl ⟨rfl,hS⟩)),by decide⟩
      ·have o0:=hS.1.old.o4;have o1:=hS.1.old.o5;have HA:=Lib.hid (Cl.st2 hS);clear hS
       go_wp2_with fail
       go_region_with (go_at_call 353;refine(HA.out _).mono ?_;rintro e w1 ⟨rfl,hS⟩)
       all_goals go_wp2_with fail
       all_goals exact⟨.inr (.inr (.inr (.inl ⟨rfl,hS⟩))),by decide⟩
      ·have o0:=hS.1.old.o6;have o1:=hS.1.old.o7;have HA:=Lib.hid (Cl.st3 hS);clear hS
       go_wp2_with fail
       go_region_with (go_at_call 353;refine(HA.out _).mono ?_;rintro e w1 ⟨rfl,hS⟩)
       all_goals go_wp2_with fail
       all_goals exact⟨.inr (.inr (.inr (.inr ⟨rfl,hS⟩))),by decide⟩
      ·have hG:=hS.gr;obtain⟨hO',_,a',b',c',d',hT⟩:=hS;have HT:=Lib.hid hT;clear hT hg
       go_wp2_with fail
       go_ret;exact⟨_,_,a',b',c',d',rfl,hG,HT.out,hO'⟩
end Go.Proofs
