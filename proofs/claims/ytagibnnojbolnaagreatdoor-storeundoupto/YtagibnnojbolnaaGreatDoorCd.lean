/- build, buildOnce. -/
import Derived.Test.YtagibnnojbolnaaGreatDoorCb
import Derived.Defers
import Derived.Laws.Pointers
import Derived.Laws.LoneSync
import Derived.RegionTactic
import Derived.RegionCalls
import Derived.ChangeAlike
import Derived.Test.YtagibnnojbolnaaGreatDoorCc
set_option linter.unusedSimpArgs false
set_option linter.unusedVariables false
namespace Go.Proofs
set_option maxRecDepth 100000
set_option maxHeartbeats 4000000
def Cl.Made(ob c:Nat):Prop:= ∀w,Cl.Old w ob->Calls Tryz.prog 263 #[.slice (some ⟨ob,0,none⟩) 8 c] w fun e w'=> ∃g tb a b c d,e= .returned (.pointer (some ⟨g,0,none⟩))/\Cl.Gr w w'/\Cl.TW w' g tb a b c d/\Cl.Old w' ob
theorem Cl.build(rp ob c:Nat)(HM:Cl.Made ob c)(w:World)(hO:Cl.Old w ob)(hr:w.cell? ⟨rp,4,none⟩=some (.slice (some ⟨ob,0,none⟩) 8 c)):
  Calls Tryz.prog 226 #[.pointer (some ⟨rp,0,none⟩)] w fun e w'=> ∃g tb a b c d,e= .returned (.iface 290 (.pointer (some ⟨g,0,none⟩)))/\Cl.Gr w w'/\Cl.TW w' g tb a b c d/\Cl.Old w' ob:=by
 have o0:=hO.o0;have HA:=Lib.hid (HM w hO);clear HM hO;go_enter Tryz.func226,Tryz.ntmps226
 go_wp2_with fail
 refine wp_loop_rounds 2 ?_;rw[rounds_succ]
 go_wp2_with (go_at_call 263;refine HA.out.mono ?_;rintro e w' ⟨g,tb,a',b',c',d',rfl,hG,hT,hO⟩)
 go_ret;exact⟨g,tb,a',b',c',d',rfl,hG,hT,hO⟩
theorem Cl.buildOnce (rp ob c:Nat) (v:Value) (HM:Cl.Made ob c) (w:World) (hO:Cl.Old w ob) (hr:w.cell? ⟨rp,4,none⟩=some (.slice (some ⟨ob,0,none⟩) 8 c)) (h3:w.cell? ⟨rp,3,none⟩=some v)
  (f3:w.frozen? ⟨rp,3,none⟩=false) (f4:w.frozen? ⟨rp,4,none⟩=false) (hne:rp≠ob):
  Calls Tryz.prog 188 #[.pointer (some ⟨rp,0,none⟩)] w fun e w'=>e= .returned (.tuple #[])/\ ∃g tb a b c d W,Cl.Gr w W/\Cl.TW W g tb a b c d/\w'=(W.setCell ⟨rp,3,none⟩ (.iface 290 (.pointer (some ⟨g,0,none⟩)))).setCell ⟨rp,4,none⟩ (.slice none 0 0):=by
 have HA:=Lib.hid (Cl.build rp ob c HM w hO hr);have HX: ∀W,Cl.Gr w W->W.cell? ⟨rp,3,none⟩=some v/\W.cell? ⟨rp,4,none⟩=some (.slice (some ⟨ob,0,none⟩) 8 c)/\W.frozen? ⟨rp,3,none⟩=false/\W.frozen? ⟨rp,4,none⟩=false:=fun W hG=>by
  have e:=hG.old rp (Cl.lt_of h3);refine⟨?_,?_,?_,?_⟩
  ·rw[<-h3];simp only[World.cell?,e]
  ·rw[<-hr];simp only[World.cell?,e]
  ·rw[<-f3];simp only[World.frozen?,e]
  ·rw[<-f4];simp only[World.frozen?,e]
 clear HM hO hr h3 f3 f4;go_enter Tryz.func188,Tryz.ntmps188
 go_wp2_with (go_at_call 226;refine HA.out.mono ?_;rintro e w' ⟨g,tb,a',b',c',d',rfl,hG,hT,hO⟩;obtain⟨h3,h4,f3,f4⟩:=HX _ hG)
 go_end0
 exact⟨rfl,g,tb,a',b',c',d',_,hG,hT,rfl⟩
set_option maxHeartbeats 2000000
theorem Cl.disable(w:World):(callFunc 313 #[]).run Tryz.prog w= .ok (.value (.tuple #[])) w:=run_call_mark0 Tryz.func313 (by kernel_rfl) (by kernel_rfl) (by kernel_rfl) .disable (by kernel_rfl) w
theorem Cl.enable(w:World):(callFunc 315 #[]).run Tryz.prog w= .ok (.value (.tuple #[])) w:=run_call_mark0 Tryz.func315 (by kernel_rfl) (by kernel_rfl) (by kernel_rfl) .enable (by kernel_rfl) w
theorem Cl.acquire(a:Addr)(w:World):(callFunc 316 #[.pointer (some a)]).run Tryz.prog w= .ok (.value (.tuple #[])) w:=run_call_marked Tryz.func316 (by kernel_rfl) (by kernel_rfl) (by kernel_rfl) .acquire (by kernel_rfl) a w
theorem Cl.releaseMerge(a:Addr)(w:World):(callFunc 318 #[.pointer (some a)]).run Tryz.prog w= .ok (.value (.tuple #[])) w:=run_call_marked Tryz.func318 (by kernel_rfl) (by kernel_rfl) (by kernel_rfl) .releaseMerge (by kernel_rfl) a w
theorem Cl.store_deferred(a:Addr)(x:Value)(u:FrameMode)(w:World)(hc:w.cell? a=some x)(hz:w.frozen? a=false):
  CallsD Tryz.prog 261 #[.pointer (some a), .bool true] u w fun e u' w'=>u'=u/\(e= .returned (.tuple #[])/\w'=w.drew.setCell a (.int .u32 1)):=by
 have hc':w.drew.cell? a=some x:=by go_simp
 have hz':w.drew.frozen? a=false:=by go_simp
 have hst:=run_call_store (P:=Tryz.prog) Tryz.func289 (by kernel_rfl) (by kernel_rfl) (by kernel_rfl) (by kernel_rfl) (k:= .u32) (y:=1) hc' hz'
 go_enter_d Tryz.func261,Tryz.ntmps261
 go_wp2
 go_region_calls
 all_goals (go_end0;exact⟨rfl,rfl⟩)
theorem Cl.unlock_deferred(a:Addr)(u:FrameMode)(w:World)(hc:w.cell? a=some (.int .i32 1))(hz:w.frozen? a=false):
  CallsD Tryz.prog 260 #[.pointer (some a)] u w fun e u' w'=>u'=u/\(e= .returned (.tuple #[])/\w'=w.setCell a (.int .i32 0)):=by
 have hd:=Cl.disable;have he:=Cl.enable;have hr:=Cl.releaseMerge;have hadd:=run_call_add (P:=Tryz.prog) Tryz.func319 (by kernel_rfl) (by kernel_rfl) (by kernel_rfl) .i32 (by kernel_rfl) (y:= -1) (s:=0) hc hz (by simp[go_sem];rfl);have hcv:=run_convert_to_unsafe (P:=Tryz.prog) (src:=350) (dst:=354) Tryz.underlying350 Tryz.underlying354 (by kernel_rfl) hc
 go_enter_d Tryz.func260,Tryz.ntmps260
 go_wp2
 go_end0
 go_wp2
theorem Cl.lock_free(a:Addr)(w:World)(hc:w.cell? a=some (.int .i32 0))(hz:w.frozen? a=false):
  Calls Tryz.prog 259 #[.pointer (some a)] w fun e w'=>e= .returned (.tuple #[])/\w'=w.setCell a (.int .i32 1):=by
 have hd:=Cl.disable;have he:=Cl.enable;have ha:=Cl.acquire;have hcas:=run_call_cas_hit (P:=Tryz.prog) Tryz.func314 (by kernel_rfl) (by kernel_rfl) (by kernel_rfl) .i32 (by kernel_rfl) (y:=1) hc hz;have hc':(w.setCell a (.int .i32 1)).cell? a=some (.int .i32 1):=World.cell?_setCell_same w a _ hc;have hcv:=run_convert_to_unsafe (P:=Tryz.prog) (src:=350) (dst:=354) Tryz.underlying350 Tryz.underlying354 (by kernel_rfl) hc';go_enter Tryz.func259,Tryz.ntmps259
 go_wp2
 first|go_end0|(simp only[Exit.inBlock,Exit.then];refine bodyPost_ret (results_none rfl _ _ _) rfl ?_)|refine bodyPost_ret (results_none rfl _ _ _) rfl ?_
 go_wp2
theorem Cl.Gr.fr{w w':World}(h:Cl.Gr w w'):Cl.Fr w w' []where
 os:=h.os
 tape:=h.tape
 output:=h.output
 size:=h.size
 blk:=fun b hb _=>h.old b hb
 cell:=fun b o hb _=>by simp only[World.cell?,h.old b hb]
 frz:=fun b o hb=>by simp only[World.frozen?,h.old b hb]
theorem Cl.TW.ne{w:World}{g tb a b c d rp:Nat}{x y:Int}(h:Cl.TW w g tb a b c d)(h0:w.cell? ⟨rp,0,none⟩=some (.int .u32 x))(h1:w.cell? ⟨rp,1,none⟩=some (.int .i32 y)):
  ∀z,z=g\/z=tb\/z=a\/z=b\/z=c\/z=d->rp≠z:=by
 rintro z hz rfl;rcases hz with rfl|rfl|rfl|rfl|rfl|rfl
 ·have:=h.p1.symm.trans h1;simp at this
 ·have:=h.t0.symm.trans h0;simp at this
 ·have:=h.a0.symm.trans h0;simp at this
 ·have:=h.b0.symm.trans h0;simp at this
 ·have:=h.c0.symm.trans h0;simp at this
 ·have:=h.d0.symm.trans h0;simp at this
theorem Cl.TW.fr{w w':World}{g tb a b c d rp:Nat}{L:List (Nat×Nat)}(h:Cl.TW w g tb a b c d)(f:Cl.Fr w w' L)(hn: ∀z,z=g\/z=tb\/z=a\/z=b\/z=c\/z=d->rp≠z)(hL: ∀b o,(b,o)∈L->b=rp):Cl.TW w' g tb a b c d:=by
 refine h.keep fun x o hx=>f.cell x o ?_ fun hm=>hn x hx (hL _ _ hm).symm;rcases hx with rfl|rfl|rfl|rfl|rfl|rfl
 ·exact Cl.lt_of h.p1
 ·exact Cl.lt_of h.t0
 ·exact Cl.lt_of h.a0
 ·exact Cl.lt_of h.b0
 ·exact Cl.lt_of h.c0
 ·exact Cl.lt_of h.d0
structure Cl.Raw (w:World) (rp ob c:Nat):Prop where
 old:Cl.Old w ob
 h0:w.cell? ⟨rp,0,none⟩=some (.int .u32 0)
 h1:w.cell? ⟨rp,1,none⟩=some (.int .i32 0)
 h3:w.cell? ⟨rp,3,none⟩=some .nilIface
 h4:w.cell? ⟨rp,4,none⟩=some (.slice (some ⟨ob,0,none⟩) 8 c)
 fz: ∀o,w.frozen? ⟨rp,o,none⟩=false
theorem Cl.slow(rp ob c:Nat)(HM:Cl.Made ob c)(w:World)(hR:Cl.Raw w rp ob c):
  Calls Tryz.prog 225 #[.pointer (some ⟨rp,0,none⟩), .func (.func 188) #[.pointer (some ⟨rp,0,none⟩)] #[]] w fun e w'=>e= .returned (.tuple #[])/\ ∃g tb a b c d,Cl.TW w' g tb a b c d/\
   w'.cell? ⟨rp,3,none⟩=some (.iface 290 (.pointer (some ⟨g,0,none⟩)))/\Cl.Fr w w' [(rp,0),(rp,1),(rp,3),(rp,4)]:=by
 have hne:rp≠ob:=fun e=>by have h:=hR.h0;rw[e,hR.old.o0]at h;cases h
 obtain⟨O,h0,h1,h3,h4,fz⟩:=hR;have f1:=fz 1;have w1: ∀b o,(b,o)≠(rp,1)->(w.setCell ⟨rp,1,none⟩ (.int .i32 1)).cell? ⟨b,o,none⟩=w.cell? ⟨b,o,none⟩:=fun b o hn=>World.cell?_setCell_other _ _ _ _ (fun e=>by injection e with e1 e2;subst e1;subst e2;exact hn rfl);have f0: ∀o,(w.setCell ⟨rp,1,none⟩ (.int .i32 1)).frozen? ⟨rp,o,none⟩=false:=fun o=>(World.frozen?_setCell ..).trans (fz o);have O1:Cl.Old (w.setCell ⟨rp,1,none⟩ (.int .i32 1)) ob:=by have e:=fun o=>w1 ob o (fun e=>by injection e with e1;exact hne e1.symm);exact⟨(e _).trans O.o0,(e _).trans O.o1,(e _).trans O.o2,(e _).trans O.o3,(e _).trans O.o4,(e _).trans O.o5,(e _).trans O.o6,(e _).trans O.o7⟩
 have g0:=(w1 rp 0 (by simp)).trans h0;have g1:=World.cell?_setCell_same w ⟨rp,1,none⟩ (.int .i32 1) h1;have g3:=(w1 rp 3 (by simp)).trans h3;have g4:=(w1 rp 4 (by simp)).trans h4;have HB:=Lib.hid (Cl.buildOnce rp ob c .nilIface HM _ O1 g4 g3 (f0 3) (f0 4) hne);have HL:=Lib.hid (Cl.lock_free ⟨rp,1,none⟩ w h1 f1);have hl:=run_call_load (P:=Tryz.prog) Tryz.func258 (by kernel_rfl) (by kernel_rfl) (by kernel_rfl) .u32 (by kernel_rfl) (w:=w.setCell ⟨rp,1,none⟩ (.int .i32 1)) (a:=⟨rp,0,none⟩) (x:=0) g0;have hnot: ∀(x:Bool) (w:World),(Op.unary .not (.bool x)).run Tryz.prog w= .ok (.bool (!x)) w:=fun _ _=>rfl;have G:=Lib.hid (And.intro g0 (And.intro g1 (And.intro g3 (And.intro g4 f0))));clear O O1 g0 g1 g3 g4 h0 h1 h3 h4 w1 fz f0 f1 HM
 go_enter_defers Tryz.func225,Tryz.ntmps225
 go_wp2_with (first|(go_at_call 259;refine HL.out.mono ?_;rintro e w' ⟨rfl,rfl⟩)|(go_at_call 224;go_in)|(go_at_call 188;refine HB.out.mono ?_;rintro e w' ⟨rfl,g,tb,a,b,c,d,W,hG,hT,rfl⟩))
 simp only[bodyPostD];obtain⟨g0,g1,g3,g4,f0⟩:=G.out;have F1:=hG.fr;have lt:=Cl.lt_of g0;have c0:=(F1.cell rp 0 lt (by simp)).trans g0;have c1:=(F1.cell rp 1 lt (by simp)).trans g1;have c3:=(F1.cell rp 3 lt (by simp)).trans g3;have f0': ∀o,W.frozen? ⟨rp,o,none⟩=false:=fun o=>(F1.frz rp o lt).trans (f0 o);have F2:=((Cl.Fr.set W rp 3 (.iface 290 (.pointer (some ⟨g,0,none⟩)))).trans (Cl.Fr.set _ rp 4 (.slice none 0 0)));have ltW:=Cl.lt_of c0;have c3':((W.setCell ⟨rp,3,none⟩ (.iface 290 (.pointer (some ⟨g,0,none⟩)))).setCell ⟨rp,4,none⟩ (.slice none 0 0)).cell? ⟨rp,3,none⟩=some (.iface 290 (.pointer (some ⟨g,0,none⟩))):=
  (World.cell?_setCell_other _ ⟨rp,4,none⟩ ⟨rp,3,none⟩ _ (by simp)).trans (World.cell?_setCell_same W _ _ c3)
 have c0':=(F2.cell rp 0 ltW (by simp)).trans c0;have c1':=(F2.cell rp 1 ltW (by simp)).trans c1;have z':=fun o=>(F2.frz rp o ltW).trans (f0' o);have hW:=hT.ne c0 c1;have F3:=F1.trans F2;have F4:=(Cl.Fr.set w rp 1 (.int .i32 1)).trans F3;have T2:=hT.fr F2 hW (by intro b o hm;simp at hm;omega);generalize ((W.setCell ⟨rp,3,none⟩ (.iface 290 (.pointer (some ⟨g,0,none⟩)))).setCell ⟨rp,4,none⟩ (.slice none 0 0))=V at c3' c0' c1' z' F4 T2 ⊢;refine leaves_cons (f:=261) (args:= #[.pointer (some ⟨rp,0,none⟩), .bool true]) (by simp) (by simp[go_sem]) ?_;refine(Cl.store_deferred ⟨rp,0,none⟩ (.int .u32 0) .returning _ c0' (z' 0)).mono ?_;rintro e u' w'' ⟨rfl,rfl,rfl⟩;refine leaves_cons (f:=260) (args:= #[.pointer (some ⟨rp,1,none⟩)]) (by simp[settle]) (by simp[go_sem]) ?_;have c1'':(V.drew.setCell ⟨rp,0,none⟩ (.int .u32 1)).cell? ⟨rp,1,none⟩=some (.int .i32 1):=(World.cell?_setCell_other _ ⟨rp,0,none⟩ ⟨rp,1,none⟩ _ (by simp)).trans c1';refine(Cl.unlock_deferred ⟨rp,1,none⟩ _ _ c1'' ((World.frozen?_setCell ..).trans (z' 1))).mono ?_;rintro e u' w'' ⟨rfl,rfl,rfl⟩;have F5:=((Cl.Fr.drewN V 1).trans (Cl.Fr.set _ rp 0 (.int .u32 1))).trans (Cl.Fr.set _ rp 1 (.int .i32 0));have ltV:=Cl.lt_of c0';have hend: ∃g tb a b c d,Cl.TW ((V.drew.setCell ⟨rp,0,none⟩ (.int .u32 1)).setCell ⟨rp,1,none⟩ (.int .i32 0)) g tb a b c d/\
   ((V.drew.setCell ⟨rp,0,none⟩ (.int .u32 1)).setCell ⟨rp,1,none⟩ (.int .i32 0)).cell? ⟨rp,3,none⟩=some (.iface 290 (.pointer (some ⟨g,0,none⟩)))/\
   Cl.Fr w ((V.drew.setCell ⟨rp,0,none⟩ (.int .u32 1)).setCell ⟨rp,1,none⟩ (.int .i32 0)) [(rp,0),(rp,1),(rp,3),(rp,4)]:=
  ⟨g,tb,a,b,c,d,T2.fr F5 hW (by intro b o hm;simp at hm;omega),(F5.cell rp 3 ltV (by simp)).trans c3',(F4.trans F5).wk (by simp;omega)⟩
 simpa [Leaves,settle,results,Tryz.results225] using hend
theorem Cl.onceDo(rp ob c:Nat)(HM:Cl.Made ob c)(w:World)(hR:Cl.Raw w rp ob c):
  Calls Tryz.prog 187 #[.pointer (some ⟨rp,0,none⟩), .func (.func 188) #[.pointer (some ⟨rp,0,none⟩)] #[]] w fun e w'=>e= .returned (.tuple #[])/\ ∃g tb a b c d,Cl.TW w' g tb a b c d/\
   w'.cell? ⟨rp,3,none⟩=some (.iface 290 (.pointer (some ⟨g,0,none⟩)))/\Cl.Fr w w' [(rp,0),(rp,1),(rp,3),(rp,4)]:=by
 have HS:=Lib.hid (Cl.slow rp ob c HM w hR);have hl:=run_call_load (P:=Tryz.prog) Tryz.func258 (by kernel_rfl) (by kernel_rfl) (by kernel_rfl) .u32 (by kernel_rfl) (w:=w) (a:=⟨rp,0,none⟩) (x:=0) hR.h0;have hnot: ∀(x:Bool) (w:World),(Op.unary .not (.bool x)).run Tryz.prog w= .ok (.bool (!x)) w:=fun _ _=>rfl;clear hR HM;go_enter Tryz.func187,Tryz.ntmps187
 go_wp2_with (first|(go_at_call 224;go_in)|(go_at_call 225;refine HS.out.mono ?_;rintro e w' ⟨rfl,hE⟩))
 go_end0
 exact⟨rfl,hE⟩
theorem Cl.made'(ob c:Nat):Cl.Made ob c:=fun w hO=>Cl.made ob c w hO
theorem Cl.Gb.fr{w w':World}{rp:Nat}(h:Cl.Gb w)(hrp: ∀q∈Go.Lv.tabG,q.1≠rp)(f:Cl.Fr w w' [(rp,0),(rp,1),(rp,3),(rp,4)]):Cl.Gb w':=fun q hq=>by obtain⟨h1,o,h2,h3⟩:=h q hq;refine⟨Dc h1 f.size,o,?_,h3⟩;rw[f.blk _ h1 (by intro o hm;have:=hrp q hq;simp at hm;omega)];exact h2
theorem Cl.replace(rp ob c:Nat)(s:ByteArray)(hs:s.size<=4000)(w:World)(hg:Cl.Gb w)(hrp: ∀q∈Go.Lv.tabG,q.1≠rp)(hR:Cl.Raw w rp ob c):
  Calls Tryz.prog 136 #[.pointer (some ⟨rp,0,none⟩), .string s] w fun e w'=>e= .returned (.string ⟨(Cl.cleanS s.data.toList).toArray⟩)/\Cl.Fr w w' [(rp,0),(rp,1),(rp,3),(rp,4)]:=by
 have HS:=Lib.hid (Cl.onceDo rp ob c (Cl.made' ob c) w hR);have hmf: ∀(fn:Fn) (first cap:Array Value) (w:World),(Instr.makeFunc fn first cap).run Tryz.prog w= .ok (.func fn first cap) w:=fun _ _ _ _=>rfl;have HP:=Lib.hid (fun g tb a b c d w' (hF:Cl.Fr w w' [(rp,0),(rp,1),(rp,3),(rp,4)]) (hT:Cl.TW w' g tb a b c d)=>Cl.repl g tb a b c d s hs w' (hg.fr hrp hF) hT);clear hR hs hg hrp;go_enter Tryz.func136,Tryz.ntmps136
 go_wp2_with (first|(go_at_call 187;refine HS.out.mono ?_;rintro e w' ⟨rfl,g,tb,a,b,c,d,hT,h3,hF⟩)|(go_at_call 412;refine(HP.out _ _ _ _ _ _ _ hF hT).mono ?_;rintro e w'' ⟨rfl,hG⟩))
 go_ret;exact⟨rfl,(hF.trans hG.fr).wk (by intro b o hm _;simpa using hm)⟩
def Cl.eight:List Value:=[.string ⟨#[13,10]⟩, .string ⟨#[10]⟩, .string ⟨#[13]⟩, .string ⟨#[10]⟩, .string ⟨#[12]⟩, .string ⟨#[10]⟩, .string ⟨#[0]⟩, .string ⟨#[239,191,189]⟩]
theorem Cl.inf9: ∃i,Tryz.prog.info? 9=some i/\i.zero=some (.string ⟨#[]⟩)/\i.size=1/\i.bytes=16:=⟨(Tryz.prog.info? 9).getD default,by kernel_rfl,by kernel_rfl,by kernel_rfl,by kernel_rfl⟩
theorem Cl.und136:Tryz.prog.underlying 90=some (.slice 9):=by kernel_rfl
theorem Cl.eight_run(ob:Nat)(w:World)(O:Cl.Old w ob): ∃G Z,(Builtin.append_ #[90,90] 90 #[.slice none 0 0, .slice (some ⟨ob,0,none⟩) 8 8]).run Tryz.prog w= .ok (.slice (some ⟨w.heap.size,0,none⟩) 8 G) (w.drew.alloc (.cells (Cl.eight.toArray++Z) 9)):=by obtain⟨i,hi,hz,hs,hb⟩:=Cl.inf9;refine⟨_,_,run_append_nil w 90 90 9 i _ Cl.und136 hi hz ⟨ob,0,none⟩ 8 8 Cl.eight (by rw[hs];rfl) ?_ (by omega) (by omega) (by rw[hb];omega)⟩;intro j v h;rw[Addr.add_mid,jc];obtain⟨o0,o1,o2,o3,o4,o5,o6,o7⟩:=O;rcases j with _|_|_|_|_|_|_|_|j<;>simp[Cl.eight]at h<;>subst h<;>assumption
theorem Cl.eight_old{W:World}{n:Nat}{Z:Array Value}(h: ∀o,W.cell? ⟨n,o,none⟩=(Cl.eight.toArray++Z)[o]?):Cl.Old W n:=by constructor<;>(rw[h,Array.getElem?_append_left (by simp[Cl.eight])];rfl)
theorem Cl.newReplacer(ob:Nat)(w:World)(hO:Cl.Old w ob):
  Calls Tryz.prog 186 #[.slice (some ⟨ob,0,none⟩) 8 8] w fun e w'=> ∃rp o2 c,e= .returned (.pointer (some ⟨rp,0,none⟩))/\Cl.Raw w' rp o2 c/\Cl.Gr w w'/\w.heap.size<=rp:=by
 obtain⟨G,Z,hap⟩:=Cl.eight_run ob w hO;have HA:=Lib.hid hap;clear hap hO;go_enter Tryz.func186,Tryz.ntmps186
 go_wp2_with (at_builtin;refine Cl.append_run rfl _ _ _ _ rfl (by rfl) (by rfl) HA.out ?_)
 go_ret;have F1:=Cl.Fr.alloc w (.cells (Cl.eight.toArray++Z) 9);have F2:=Cl.Fr.alloc (w.alloc (.cells (Cl.eight.toArray++Z) 9)) (.cells #[.int .u32 0, .int .i32 0, .int .u32 0, .nilIface, .slice (some ⟨w.heap.size,0,none⟩) 8 G] 243);have F:=F1.trans F2;have hs:w.heap.size+1=(w.alloc (.cells (Cl.eight.toArray++Z) 9)).heap.size:=by rw[World.size_alloc]
 have hc:=fun o=>Cl.new_cell (w.alloc (.cells (Cl.eight.toArray++Z) 9)) #[.int .u32 0, .int .i32 0, .int .u32 0, .nilIface, .slice (some ⟨w.heap.size,0,none⟩) 8 G] 243 o _ hs;have hO:Cl.Old ((w.alloc (.cells (Cl.eight.toArray++Z) 9)).alloc (.cells #[.int .u32 0, .int .i32 0, .int .u32 0, .nilIface, .slice (some ⟨w.heap.size,0,none⟩) 8 G] 243)) w.heap.size:=
  Cl.eight_old fun o=>(F2.cell _ o (by rw[World.size_alloc];omega) (by simp)).trans (Cl.new_cell w _ _ _ _ rfl)
 refine⟨_,w.heap.size,G,rfl,⟨⟨hO.o0,hO.o1,hO.o2,hO.o3,hO.o4,hO.o5,hO.o6,hO.o7⟩,hc 0,hc 1,hc 3,hc 4,fun o=>Cl.new_frozen (w.alloc (.cells (Cl.eight.toArray++Z) 9)) _ _ _ _ hs⟩,⟨F.os,F.tape,F.output,F.size,fun b hb=>F.blk b hb (by simp)⟩,by omega⟩
theorem Cl.cleaner(w:World):
  Calls Tryz.prog 135 #[] w fun e w'=> ∃rp o2 c,e= .returned (.pointer (some ⟨rp,0,none⟩))/\Cl.Raw w' rp o2 c/\Cl.Gr w w'/\w.heap.size<=rp:=by
 have F1:=Cl.Fr.alloc w (.cells Cl.eight.toArray 9);have hO:Cl.Old (w.alloc (.cells Cl.eight.toArray 9)) w.heap.size:=Cl.eight_old (Z:= #[]) fun o=>by rw[Cl.new_cell w _ _ _ _ rfl];simp
 have HN:=Lib.hid (Cl.newReplacer w.heap.size _ hO);have G:=Lib.hid F1;clear hO F1;go_enter Tryz.func135,Tryz.ntmps135
 go_wp2_with (go_at_call 186;refine HN.out.mono ?_;rintro e w' ⟨rp,o2,c,rfl,hR,hG,hs⟩)
 go_ret;have F:=G.out.trans hG.fr;exact⟨rp,o2,c,rfl,hR,⟨F.os,F.tape,F.output,F.size,fun b hb=>F.blk b hb (by simp)⟩,Bb G.out.size hs⟩
theorem Cl.clean(s:ByteArray)(w:World)(hg:Cl.Gb w):
  Calls Tryz.prog 88 #[.string s] w fun e w'=>e= .returned (if 4000<s.size then .tuple #[.string ⟨#[]⟩, .int .i64 28]else .tuple #[.string ⟨(Cl.cleanS s.data.toList).toArray⟩, .int .i64 0])/\Cl.Gr w w':=by
 by_cases hs:4000<s.size
 ·have h1:((s.size:Nat):Int)>4000:=by omega
  rw[Sa hs];go_enter Tryz.func88,Tryz.ntmps88
  go_wp2_with fail
  go_ret2;exact⟨rfl,rfl,rfl,rfl,Xa _,fun _ _=>rfl⟩
 ·have h1: ¬((s.size:Nat):Int)>4000:=by omega
  rw[Oa hs];have HC:=Lib.hid (Cl.cleaner w);have HR:=Lib.hid (fun rp ob c w' (hG:Cl.Gr w w') (hz:w.heap.size<=rp) hR=>Cl.replace rp ob c s (by omega) w' (hg.gr hG) (fun q hq=>by have:=(hg q hq).1;omega) hR);clear hg;go_enter Tryz.func88,Tryz.ntmps88
  go_wp2_with (first|(go_at_call 135;refine HC.out.mono ?_;rintro e w' ⟨rp,o2,c,rfl,hR,hG,hz⟩)|(go_at_call 136;refine(HR.out _ _ _ _ hG hz hR).mono ?_;rintro e w'' ⟨rfl,hF⟩))
  go_ret2;have F:=hG.fr.trans hF;refine⟨rfl,F.os,F.tape,F.output,F.size,fun b hb=>F.blk b hb ?_⟩;intro o hm;simp at hm;omega
end Go.Proofs

namespace Go.Lv
open Go.RowKit
set_option maxRecDepth 100000
theorem zB9:ZL Proofs.Tryz.prog (⟨88,⟨[.str],[]⟩,[],⟨[.str, .int .i64],[]⟩,0,yn⟩:Con VT.I):=
 Yt VT.ipOK rfl Proofs.Tryz.func88 (by kernel_rfl) (by kernel_rfl) fun x y hxy ι w vs W hv=>by
  cases hxy;obtain rfl:=zMx hv.1 (Ym (l:=x) hv rfl);refine(Proofs.Cl.clean ⟨x.toArray⟩ w fun q hq=>let⟨h1,h2⟩:=W.glob q hq;⟨h1.1,h2⟩).mono ?_;rintro e w' ⟨rfl,hG⟩;have hsz:(⟨x.toArray⟩:ByteArray).size=List.length x:=by rw[ByteArray.size];exact je ..
  rw[hsz];refine⟨_,rfl,⟨hG.os,hG.tape,hG.output,hG.size,hG.old⟩,?_⟩;by_cases hl:4000<List.length (α:=UInt8) x
  ·rw[Sa hl,Sa hl];refine⟨_,rfl,rfl,fun j t ht=> ?_⟩;rcases j with _|_|j
   ·injection ht with ht;subst ht;exact⟨_,rfl,Tw []⟩
   ·injection ht with ht;subst ht;exact⟨_,rfl,Q7 _ _⟩
   ·cases ht
  ·rw[Oa hl,Oa hl];refine⟨_,rfl,rfl,fun j t ht=> ?_⟩;rcases j with _|_|j
   ·injection ht with ht;subst ht;exact⟨_,rfl,Tw _⟩
   ·injection ht with ht;subst ht;exact⟨_,rfl,Q7 _ _⟩
   ·cases ht
end Go.Lv
