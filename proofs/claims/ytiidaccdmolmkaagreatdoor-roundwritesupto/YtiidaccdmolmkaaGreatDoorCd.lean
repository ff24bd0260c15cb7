import Derived.Test.YtiidaccdmolmkaaGreatDoorCc
import Derived.Defers
import Derived.Laws.Pointers
import Derived.Laws.LoneSync
import Derived.RegionTactic
import Derived.RegionCalls
import Derived.ChangeAlike
set_option linter.all false
namespace Go.Proofs
set_option maxRecDepth 100000
set_option maxHeartbeats 4000000
def Cl.Made(ob c:Nat):Prop:= ∀w,Cl.Old w ob->Calls Tryz.prog 341 #[.slice (some ⟨ob,0,none⟩) 8 c] w λe w'=> ∃g tb a b c d,e= .returned (.pointer (some ⟨g,0,none⟩))/\Cl.Gr w w'/\Cl.TW w' g tb a b c d/\Cl.Old w' ob
def Cl.build(rp ob c:Nat)(HM:Cl.Made ob c)(w:World)(hO:Cl.Old w ob)(hr:w.cell? ⟨rp,4,none⟩=some (.slice (some ⟨ob,0,none⟩) 8 c)):
  Calls Tryz.prog 326 #[.pointer (some ⟨rp,0,none⟩)] w λe w'=> ∃g tb a b c d,e= .returned (.iface 339 (.pointer (some ⟨g,0,none⟩)))/\Cl.Gr w w'/\Cl.TW w' g tb a b c d/\Cl.Old w' ob:=by
 have o0:=hO.o0;have HA:=Lib.hid (HM w hO);clear HM hO;go_enter Tryz.func326,Tryz.ntmps326
 go_wp2_with fail
 refine wp_loop_rounds 2 ?_;rw[rounds_succ]
 go_wp2_with (go_at_call 341;refine HA.out.mono ?_;rintro e w' ⟨g,tb,a',b',c',d',rfl,hG,hT,hO⟩)
 go_ret;exact⟨g,tb,a',b',c',d',rfl,hG,hT,hO⟩
def Cl.buildOnce (rp ob c:Nat)(v:Value)(HM:Cl.Made ob c)(w:World)(hO:Cl.Old w ob)(hr:w.cell? ⟨rp,4,none⟩=some (.slice (some ⟨ob,0,none⟩) 8 c))(h3:w.cell? ⟨rp,3,none⟩=some v)
  (f3:w.frozen? ⟨rp,3,none⟩=false) (f4:w.frozen? ⟨rp,4,none⟩=false) (hne:rp≠ob):
  Calls Tryz.prog 314 #[.pointer (some ⟨rp,0,none⟩)] w λe w'=>e= .returned (.tuple #[])/\ ∃g tb a b c d W,Cl.Gr w W/\Cl.TW W g tb a b c d/\w'=(W.setCell ⟨rp,3,none⟩ (.iface 339 (.pointer (some ⟨g,0,none⟩)))).setCell ⟨rp,4,none⟩ (.slice none 0 0):=by
 have HA:=Lib.hid (Cl.build rp ob c HM w hO hr);have HX: ∀W,Cl.Gr w W->W.cell? ⟨rp,3,none⟩=some v/\W.cell? ⟨rp,4,none⟩=some (.slice (some ⟨ob,0,none⟩) 8 c)/\W.frozen? ⟨rp,3,none⟩=false/\W.frozen? ⟨rp,4,none⟩=false:=λW hG=>by
  have e:=hG.old rp (Cl.mu h3);refine⟨?_,?_,?_,?_⟩
  ·rw[<-h3];simp only[World.cell?,e]
  ·rw[<-hr];simp only[World.cell?,e]
  ·rw[<-f3];simp only[World.frozen?,e]
  ·rw[<-f4];simp only[World.frozen?,e]
 clear HM hO hr h3 f3 f4;go_enter Tryz.func314,Tryz.ntmps314
 go_wp2_with (go_at_call 326;refine HA.out.mono ?_;rintro e w' ⟨g,tb,a',b',c',d',rfl,hG,hT,hO⟩;obtain⟨h3,h4,f3,f4⟩:=HX _ hG)
 go_end0
 exact⟨rfl,g,tb,a',b',c',d',_,hG,hT,rfl⟩
set_option maxHeartbeats 2000000
def Cl.disable(w:World):(callFunc 354 #[]).run Tryz.prog w= .ok (.value (.tuple #[])) w:=run_call_mark0 Tryz.func354 (by kernel_rfl) (by kernel_rfl) (by kernel_rfl) .disable (by kernel_rfl) w
def Cl.enable(w:World):(callFunc 356 #[]).run Tryz.prog w= .ok (.value (.tuple #[])) w:=run_call_mark0 Tryz.func356 (by kernel_rfl) (by kernel_rfl) (by kernel_rfl) .enable (by kernel_rfl) w
def Cl.acquire(a:Addr)(w:World):(callFunc 357 #[.pointer (some a)]).run Tryz.prog w= .ok (.value (.tuple #[])) w:=run_call_marked Tryz.func357 (by kernel_rfl) (by kernel_rfl) (by kernel_rfl) .acquire (by kernel_rfl) a w
def Cl.releaseMerge(a:Addr)(w:World):(callFunc 359 #[.pointer (some a)]).run Tryz.prog w= .ok (.value (.tuple #[])) w:=run_call_marked Tryz.func359 (by kernel_rfl) (by kernel_rfl) (by kernel_rfl) .releaseMerge (by kernel_rfl) a w
def Cl.m5(a:Addr)(x:Value)(u:FrameMode)(w:World)(hc:w.cell? a=some x)(hz:w.frozen? a=false):
  CallsD Tryz.prog 339 #[.pointer (some a), .bool true] u w λe u' w'=>u'=u/\(e= .returned (.tuple #[])/\w'=w.drew.setCell a (.int .u32 1)):=by
 have hc':w.drew.cell? a=some x:=by go_simp
 have hz':w.drew.frozen? a=false:=by go_simp
 have hst:=run_call_store (P:=Tryz.prog) Tryz.func350 (by kernel_rfl) (by kernel_rfl) (by kernel_rfl) (by kernel_rfl) (k:= .u32) (y:=1) hc' hz'
 go_enter_d Tryz.func339,Tryz.ntmps339
 go_wp2
 go_region_calls
 all_goals (go_end0;exact⟨rfl,rfl⟩)
def Cl.mN(a:Addr)(u:FrameMode)(w:World)(hc:w.cell? a=some (.int .i32 1))(hz:w.frozen? a=false):
  CallsD Tryz.prog 338 #[.pointer (some a)] u w λe u' w'=>u'=u/\(e= .returned (.tuple #[])/\w'=w.setCell a (.int .i32 0)):=by
 have hd:=Cl.disable;have he:=Cl.enable;have hr:=Cl.releaseMerge;have hadd:=run_call_add (P:=Tryz.prog) Tryz.func360 (by kernel_rfl) (by kernel_rfl) (by kernel_rfl) .i32 (by kernel_rfl) (y:= -1) (s:=0) hc hz (by simp[go_sem];rfl);have hcv:=run_convert_to_unsafe (P:=Tryz.prog) (src:=365) (dst:=145) Tryz.underlying365 Tryz.underlying145 (by kernel_rfl) hc
 go_enter_d Tryz.func338,Tryz.ntmps338
 go_wp2
 go_end0
 go_wp2
def Cl.nF(a:Addr)(w:World)(hc:w.cell? a=some (.int .i32 0))(hz:w.frozen? a=false):
  Calls Tryz.prog 337 #[.pointer (some a)] w λe w'=>e= .returned (.tuple #[])/\w'=w.setCell a (.int .i32 1):=by
 have hd:=Cl.disable;have he:=Cl.enable;have ha:=Cl.acquire;have hcas:=run_call_cas_hit (P:=Tryz.prog) Tryz.func355 (by kernel_rfl) (by kernel_rfl) (by kernel_rfl) .i32 (by kernel_rfl) (y:=1) hc hz;have hc':(w.setCell a (.int .i32 1)).cell? a=some (.int .i32 1):=World.cell?_setCell_same w a _ hc;have hcv:=run_convert_to_unsafe (P:=Tryz.prog) (src:=365) (dst:=145) Tryz.underlying365 Tryz.underlying145 (by kernel_rfl) hc';go_enter Tryz.func337,Tryz.ntmps337
 go_wp2
 first|go_end0|(simp only[Exit.inBlock,Exit.then];refine bodyPost_ret (results_none rfl _ _ _) rfl ?_)|refine bodyPost_ret (results_none rfl _ _ _) rfl ?_
 go_wp2
def Cl.Gr.fr{w w':World}(h:Cl.Gr w w'):Cl.Fr w w' []where
 os:=h.os
 tape:=h.tape
 output:=h.output
 size:=h.size
 blk:=λb hb _=>h.old b hb
 cell:=λb o hb _=>by simp only[World.cell?,h.old b hb]
 frz:=λb o hb=>by simp only[World.frozen?,h.old b hb]
def Cl.TW.ne{w:World}{g tb a b c d rp:Nat}{x y:Int}(h:Cl.TW w g tb a b c d)(h0:w.cell? ⟨rp,0,none⟩=some (.int .u32 x))(h1:w.cell? ⟨rp,1,none⟩=some (.int .i32 y)):
  ∀z,z=g\/z=tb\/z=a\/z=b\/z=c\/z=d->rp≠z:=by
 rintro z hz rfl;rcases hz with rfl|rfl|rfl|rfl|rfl|rfl
 ·have:=h.p1.symm.trans h1;simp at this
 ·have:=h.t0.symm.trans h0;simp at this
 ·have:=h.a0.symm.trans h0;simp at this
 ·have:=h.b0.symm.trans h0;simp at this
 ·have:=h.c0.symm.trans h0;simp at this
 ·have:=h.d0.symm.trans h0;simp at this
def Cl.TW.fr{w w':World}{g tb a b c d rp:Nat}{L:List (Nat×Nat)}(h:Cl.TW w g tb a b c d)(f:Cl.Fr w w' L)(hn: ∀z,z=g\/z=tb\/z=a\/z=b\/z=c\/z=d->rp≠z)(hL: ∀b o,(b,o)∈L->b=rp):Cl.TW w' g tb a b c d:=by
 refine h.keep λx o hx=>f.cell x o ?_ λhm=>hn x hx (hL _ _ hm).symm;rcases hx with rfl|rfl|rfl|rfl|rfl|rfl
 ·exact Cl.mu h.p1
 ·exact Cl.mu h.t0
 ·exact Cl.mu h.a0
 ·exact Cl.mu h.b0
 ·exact Cl.mu h.c0
 ·exact Cl.mu h.d0
structure Cl.Raw (w:World) (rp ob c:Nat):Prop where
 old:Cl.Old w ob
 h0:w.cell? ⟨rp,0,none⟩=some (.int .u32 0)
 h1:w.cell? ⟨rp,1,none⟩=some (.int .i32 0)
 h3:w.cell? ⟨rp,3,none⟩=some .nilIface
 h4:w.cell? ⟨rp,4,none⟩=some (.slice (some ⟨ob,0,none⟩) 8 c)
 fz: ∀o,w.frozen? ⟨rp,o,none⟩=false
def Cl.pD(rp ob c:Nat)(HM:Cl.Made ob c)(w:World)(hR:Cl.Raw w rp ob c):
  Calls Tryz.prog 325 #[.pointer (some ⟨rp,0,none⟩), .func (.func 314) #[.pointer (some ⟨rp,0,none⟩)] #[]] w λe w'=>e= .returned (.tuple #[])/\ ∃g tb a b c d,Cl.TW w' g tb a b c d/\
   w'.cell? ⟨rp,3,none⟩=some (.iface 339 (.pointer (some ⟨g,0,none⟩)))/\Cl.Fr w w' [(rp,0),(rp,1),(rp,3),(rp,4)]:=by
 have hne:rp≠ob:=λe=>by have h:=hR.h0;rw[e,hR.old.o0]at h;cases h
 obtain⟨O,h0,h1,h3,h4,fz⟩:=hR;have f1:=fz 1;have w1: ∀b o,(b,o)≠(rp,1)->(w.setCell ⟨rp,1,none⟩ (.int .i32 1)).cell? ⟨b,o,none⟩=w.cell? ⟨b,o,none⟩:=λb o hn=>World.cell?_setCell_other _ _ _ _ (λe=>by injection e with e1 e2;subst e1;subst e2;exact hn rfl);have f0: ∀o,(w.setCell ⟨rp,1,none⟩ (.int .i32 1)).frozen? ⟨rp,o,none⟩=false:=λo=>(World.frozen?_setCell ..).trans (fz o);have O1:Cl.Old (w.setCell ⟨rp,1,none⟩ (.int .i32 1)) ob:=by have e:=λo=>w1 ob o (λe=>by injection e with e1;exact hne e1.symm);exact⟨(e _).trans O.o0,(e _).trans O.o1,(e _).trans O.o2,(e _).trans O.o3,(e _).trans O.o4,(e _).trans O.o5,(e _).trans O.o6,(e _).trans O.o7⟩
 have g0:=(w1 rp 0 (by simp)).trans h0;have g1:=World.cell?_setCell_same w ⟨rp,1,none⟩ (.int .i32 1) h1;have g3:=(w1 rp 3 (by simp)).trans h3;have g4:=(w1 rp 4 (by simp)).trans h4;have HB:=Lib.hid (Cl.buildOnce rp ob c .nilIface HM _ O1 g4 g3 (f0 3) (f0 4) hne);have HL:=Lib.hid (Cl.nF ⟨rp,1,none⟩ w h1 f1);have hl:=run_call_load (P:=Tryz.prog) Tryz.func336 (by kernel_rfl) (by kernel_rfl) (by kernel_rfl) .u32 (by kernel_rfl) (w:=w.setCell ⟨rp,1,none⟩ (.int .i32 1)) (a:=⟨rp,0,none⟩) (x:=0) g0;have hnot: ∀(x:Bool) (w:World),(Op.unary .not (.bool x)).run Tryz.prog w= .ok (.bool (!x)) w:=λ_ _=>rfl;have G:=Lib.hid (And.intro g0 (And.intro g1 (And.intro g3 (And.intro g4 f0))));clear O O1 g0 g1 g3 g4 h0 h1 h3 h4 w1 fz f0 f1 HM
 go_enter_defers Tryz.func325,Tryz.ntmps325
 go_wp2_with (first|(go_at_call 337;refine HL.out.mono ?_;rintro e w' ⟨rfl,rfl⟩)|(go_at_call 324;go_in)|(go_at_call 314;refine HB.out.mono ?_;rintro e w' ⟨rfl,g,tb,a,b,c,d,W,hG,hT,rfl⟩))
 simp only[bodyPostD];obtain⟨g0,g1,g3,g4,f0⟩:=G.out;have F1:=hG.fr;have lt:=Cl.mu g0;have c0:=(F1.cell rp 0 lt (by simp)).trans g0;have c1:=(F1.cell rp 1 lt (by simp)).trans g1;have c3:=(F1.cell rp 3 lt (by simp)).trans g3;have f0': ∀o,W.frozen? ⟨rp,o,none⟩=false:=λo=>(F1.frz rp o lt).trans (f0 o);have F2:=((Cl.Fr.set W rp 3 (.iface 339 (.pointer (some ⟨g,0,none⟩)))).trans (Cl.Fr.set _ rp 4 (.slice none 0 0)));have ltW:=Cl.mu c0;have c3':((W.setCell ⟨rp,3,none⟩ (.iface 339 (.pointer (some ⟨g,0,none⟩)))).setCell ⟨rp,4,none⟩ (.slice none 0 0)).cell? ⟨rp,3,none⟩=some (.iface 339 (.pointer (some ⟨g,0,none⟩))):=
  (World.cell?_setCell_other _ ⟨rp,4,none⟩ ⟨rp,3,none⟩ _ (by simp)).trans (World.cell?_setCell_same W _ _ c3)
 have c0':=(F2.cell rp 0 ltW (by simp)).trans c0;have c1':=(F2.cell rp 1 ltW (by simp)).trans c1;have z':=λo=>(F2.frz rp o ltW).trans (f0' o);have hW:=hT.ne c0 c1;have F3:=F1.trans F2;have F4:=(Cl.Fr.set w rp 1 (.int .i32 1)).trans F3;have T2:=hT.fr F2 hW (by intro b o hm;simp at hm;omega);generalize ((W.setCell ⟨rp,3,none⟩ (.iface 339 (.pointer (some ⟨g,0,none⟩)))).setCell ⟨rp,4,none⟩ (.slice none 0 0))=V at c3' c0' c1' z' F4 T2 ⊢;refine leaves_cons (f:=339) (args:= #[.pointer (some ⟨rp,0,none⟩), .bool true]) (by simp) (by simp[go_sem]) ?_;refine(Cl.m5 ⟨rp,0,none⟩ (.int .u32 0) .returning _ c0' (z' 0)).mono ?_;rintro e u' w'' ⟨rfl,rfl,rfl⟩;refine leaves_cons (f:=338) (args:= #[.pointer (some ⟨rp,1,none⟩)]) (by simp[settle]) (by simp[go_sem]) ?_;have c1'':(V.drew.setCell ⟨rp,0,none⟩ (.int .u32 1)).cell? ⟨rp,1,none⟩=some (.int .i32 1):=(World.cell?_setCell_other _ ⟨rp,0,none⟩ ⟨rp,1,none⟩ _ (by simp)).trans c1';refine(Cl.mN ⟨rp,1,none⟩ _ _ c1'' ((World.frozen?_setCell ..).trans (z' 1))).mono ?_;rintro e u' w'' ⟨rfl,rfl,rfl⟩;have F5:=((Cl.Fr.drewN V 1).trans (Cl.Fr.set _ rp 0 (.int .u32 1))).trans (Cl.Fr.set _ rp 1 (.int .i32 0));have ltV:=Cl.mu c0';have hend: ∃g tb a b c d,Cl.TW ((V.drew.setCell ⟨rp,0,none⟩ (.int .u32 1)).setCell ⟨rp,1,none⟩ (.int .i32 0)) g tb a b c d/\
   ((V.drew.setCell ⟨rp,0,none⟩ (.int .u32 1)).setCell ⟨rp,1,none⟩ (.int .i32 0)).cell? ⟨rp,3,none⟩=some (.iface 339 (.pointer (some ⟨g,0,none⟩)))/\
   Cl.Fr w ((V.drew.setCell ⟨rp,0,none⟩ (.int .u32 1)).setCell ⟨rp,1,none⟩ (.int .i32 0)) [(rp,0),(rp,1),(rp,3),(rp,4)]:=
  ⟨g,tb,a,b,c,d,T2.fr F5 hW (by intro b o hm;simp at hm;omega),(F5.cell rp 3 ltV (by simp)).trans c3',(F4.trans F5).wk (by simp;omega)⟩
 simpa [Leaves,settle,results,Tryz.results325] using hend
def Cl.pi(rp ob c:Nat)(HM:Cl.Made ob c)(w:World)(hR:Cl.Raw w rp ob c):
  Calls Tryz.prog 313 #[.pointer (some ⟨rp,0,none⟩), .func (.func 314) #[.pointer (some ⟨rp,0,none⟩)] #[]] w λe w'=>e= .returned (.tuple #[])/\ ∃g tb a b c d,Cl.TW w' g tb a b c d/\
   w'.cell? ⟨rp,3,none⟩=some (.iface 339 (.pointer (some ⟨g,0,none⟩)))/\Cl.Fr w w' [(rp,0),(rp,1),(rp,3),(rp,4)]:=by
 have HS:=Lib.hid (Cl.pD rp ob c HM w hR);have hl:=run_call_load (P:=Tryz.prog) Tryz.func336 (by kernel_rfl) (by kernel_rfl) (by kernel_rfl) .u32 (by kernel_rfl) (w:=w) (a:=⟨rp,0,none⟩) (x:=0) hR.h0;have hnot: ∀(x:Bool) (w:World),(Op.unary .not (.bool x)).run Tryz.prog w= .ok (.bool (!x)) w:=λ_ _=>rfl;clear hR HM;go_enter Tryz.func313,Tryz.ntmps313
 go_wp2_with (first|(go_at_call 324;go_in)|(go_at_call 325;refine HS.out.mono ?_;rintro e w' ⟨rfl,hE⟩))
 go_end0
 exact⟨rfl,hE⟩
def Cl.pv(ob c:Nat):Cl.Made ob c:=λw hO=>Cl.made ob c w hO
def Cl.Gb.fr{w w':World}{rp:Nat}(h:Cl.Gb w)(hrp: ∀q∈Go.Lv.tabG,q.1≠rp)(f:Cl.Fr w w' [(rp,0),(rp,1),(rp,3),(rp,4)]):Cl.Gb w':=λq hq=>by obtain⟨h1,o,h2,h3⟩:=h q hq;refine⟨Mc h1 f.size,o,?_,h3⟩;rw[f.blk _ h1 (by intro o hm;have:=hrp q hq;simp at hm;omega)];exact h2
def Cl.replace(rp ob c:Nat)(s:ByteArray)(hs:s.size<=4000)(w:World)(hg:Cl.Gb w)(hrp: ∀q∈Go.Lv.tabG,q.1≠rp)(hR:Cl.Raw w rp ob c):
  Calls Tryz.prog 293 #[.pointer (some ⟨rp,0,none⟩), .string s] w λe w'=>e= .returned (.string ⟨(Cl.ds s.data.toList).toArray⟩)/\Cl.Fr w w' [(rp,0),(rp,1),(rp,3),(rp,4)]:=by
 have HS:=Lib.hid (Cl.pi rp ob c (Cl.pv ob c) w hR);have hmf: ∀(fn:Fn) (first cap:Array Value) (w:World),(Instr.makeFunc fn first cap).run Tryz.prog w= .ok (.func fn first cap) w:=λ_ _ _ _=>rfl;have HP:=Lib.hid (λg tb a b c d w' (hF:Cl.Fr w w' [(rp,0),(rp,1),(rp,3),(rp,4)]) (hT:Cl.TW w' g tb a b c d)=>Cl.pH g tb a b c d s hs w' (hg.fr hrp hF) hT);clear hR hs hg hrp;go_enter Tryz.func293,Tryz.ntmps293
 go_wp2_with (first|(go_at_call 313;refine HS.out.mono ?_;rintro e w' ⟨rfl,g,tb,a,b,c,d,hT,h3,hF⟩)|(go_at_call 390;refine(HP.out _ _ _ _ _ _ _ hF hT).mono ?_;rintro e w'' ⟨rfl,hG⟩))
 go_ret;exact⟨rfl,(hF.trans hG.fr).wk (by intro b o hm _;simpa using hm)⟩
def Cl.mA:List Value:=[.string ⟨#[13,10]⟩, .string ⟨#[10]⟩, .string ⟨#[13]⟩, .string ⟨#[10]⟩, .string ⟨#[12]⟩, .string ⟨#[10]⟩, .string ⟨#[0]⟩, .string ⟨#[239,191,189]⟩]
def Cl.pT: ∃i,Tryz.prog.info? 9=some i/\i.zero=some (.string ⟨#[]⟩)/\i.size=1/\i.bytes=16:=⟨(Tryz.prog.info? 9).getD default,by kernel_rfl,by kernel_rfl,by kernel_rfl,by kernel_rfl⟩
def Cl.pe:Tryz.prog.underlying 42=some (.slice 9):=by kernel_rfl
def Cl.n6(ob:Nat)(w:World)(O:Cl.Old w ob): ∃G Z,(Builtin.append_ #[42,42] 42 #[.slice none 0 0, .slice (some ⟨ob,0,none⟩) 8 8]).run Tryz.prog w= .ok (.slice (some ⟨w.heap.size,0,none⟩) 8 G) (w.drew.alloc (.cells (Cl.mA.toArray++Z) 9)):=by obtain⟨i,hi,hz,hs,hb⟩:=Cl.pT;refine⟨_,_,run_append_nil w 42 42 9 i _ Cl.pe hi hz ⟨ob,0,none⟩ 8 8 Cl.mA (by rw[hs];rfl) ?_ (by omega) (by omega) (by rw[hb];omega)⟩;intro j v h;rw[Addr.add_mid,Gd];obtain⟨o0,o1,o2,o3,o4,o5,o6,o7⟩:=O;rcases j with _|_|_|_|_|_|_|_|j<;>simp[Cl.mA]at h<;>subst h<;>assumption
def Cl.nh{W:World}{n:Nat}{Z:Array Value}(h: ∀o,W.cell? ⟨n,o,none⟩=(Cl.mA.toArray++Z)[o]?):Cl.Old W n:=by constructor<;>(rw[h,Array.getElem?_append_left (by simp[Cl.mA])];rfl)
def Cl.nl(ob:Nat)(w:World)(hO:Cl.Old w ob):
  Calls Tryz.prog 312 #[.slice (some ⟨ob,0,none⟩) 8 8] w λe w'=> ∃rp o2 c,e= .returned (.pointer (some ⟨rp,0,none⟩))/\Cl.Raw w' rp o2 c/\Cl.Gr w w'/\w.heap.size<=rp:=by
 obtain⟨G,Z,hap⟩:=Cl.n6 ob w hO;have HA:=Lib.hid hap;clear hap hO;go_enter Tryz.func312,Tryz.ntmps312
 go_wp2_with (at_builtin;refine Cl.my rfl _ _ _ _ rfl (by rfl) (by rfl) HA.out ?_)
 go_ret;have F1:=Cl.Fr.alloc w (.cells (Cl.mA.toArray++Z) 9);have F2:=Cl.Fr.alloc (w.alloc (.cells (Cl.mA.toArray++Z) 9)) (.cells #[.int .u32 0, .int .i32 0, .int .u32 0, .nilIface, .slice (some ⟨w.heap.size,0,none⟩) 8 G] 320);have F:=F1.trans F2;have hs:w.heap.size+1=(w.alloc (.cells (Cl.mA.toArray++Z) 9)).heap.size:=by rw[World.size_alloc]
 have hc:=λo=>Cl.ml (w.alloc (.cells (Cl.mA.toArray++Z) 9)) #[.int .u32 0, .int .i32 0, .int .u32 0, .nilIface, .slice (some ⟨w.heap.size,0,none⟩) 8 G] 320 o _ hs;have hO:Cl.Old ((w.alloc (.cells (Cl.mA.toArray++Z) 9)).alloc (.cells #[.int .u32 0, .int .i32 0, .int .u32 0, .nilIface, .slice (some ⟨w.heap.size,0,none⟩) 8 G] 320)) w.heap.size:=
  Cl.nh λo=>(F2.cell _ o (by rw[World.size_alloc];omega) (by simp)).trans (Cl.ml w _ _ _ _ rfl)
 refine⟨_,w.heap.size,G,rfl,⟨⟨hO.o0,hO.o1,hO.o2,hO.o3,hO.o4,hO.o5,hO.o6,hO.o7⟩,hc 0,hc 1,hc 3,hc 4,λo=>Cl.mm (w.alloc (.cells (Cl.mA.toArray++Z) 9)) _ _ _ _ hs⟩,⟨F.os,F.tape,F.output,F.size,λb hb=>F.blk b hb (by simp)⟩,by omega⟩
def Cl.oX(w:World):
  Calls Tryz.prog 292 #[] w λe w'=> ∃rp o2 c,e= .returned (.pointer (some ⟨rp,0,none⟩))/\Cl.Raw w' rp o2 c/\Cl.Gr w w'/\w.heap.size<=rp:=by
 have F1:=Cl.Fr.alloc w (.cells Cl.mA.toArray 9);have hO:Cl.Old (w.alloc (.cells Cl.mA.toArray 9)) w.heap.size:=Cl.nh (Z:= #[]) λo=>by rw[Cl.ml w _ _ _ _ rfl];simp
 have HN:=Lib.hid (Cl.nl w.heap.size _ hO);have G:=Lib.hid F1;clear hO F1;go_enter Tryz.func292,Tryz.ntmps292
 go_wp2_with (go_at_call 312;refine HN.out.mono ?_;rintro e w' ⟨rp,o2,c,rfl,hR,hG,hs⟩)
 go_ret;have F:=G.out.trans hG.fr;exact⟨rp,o2,c,rfl,hR,⟨F.os,F.tape,F.output,F.size,λb hb=>F.blk b hb (by simp)⟩,Jc G.out.size hs⟩
def Cl.pB(s:ByteArray)(w:World)(hg:Cl.Gb w):
  Calls Tryz.prog 267 #[.string s] w λe w'=>e= .returned (if 4000<s.size then .tuple #[.string ⟨#[]⟩, .int .i64 28]else .tuple #[.string ⟨(Cl.ds s.data.toList).toArray⟩, .int .i64 0])/\Cl.Gr w w':=by
 by_cases hs:4000<s.size
 ·have h1:((s.size:Nat):Int)>4000:=by omega
  rw[La hs];go_enter Tryz.func267,Tryz.ntmps267
  go_wp2_with fail
  go_ret2;exact⟨rfl,rfl,rfl,rfl,Db _,λ_ _=>rfl⟩
 ·have h1: ¬((s.size:Nat):Int)>4000:=by omega
  rw[Ka hs];have HC:=Lib.hid (Cl.oX w);have HR:=Lib.hid (λrp ob c w' (hG:Cl.Gr w w') (hz:w.heap.size<=rp) hR=>Cl.replace rp ob c s (by omega) w' (hg.gr hG) (λq hq=>by have:=(hg q hq).1;omega) hR);clear hg;go_enter Tryz.func267,Tryz.ntmps267
  go_wp2_with (first|(go_at_call 292;refine HC.out.mono ?_;rintro e w' ⟨rp,o2,c,rfl,hR,hG,hz⟩)|(go_at_call 293;refine(HR.out _ _ _ _ hG hz hR).mono ?_;rintro e w'' ⟨rfl,hF⟩))
  go_ret2;have F:=hG.fr.trans hF;refine⟨rfl,F.os,F.tape,F.output,F.size,λb hb=>F.blk b hb ?_⟩;intro o hm;simp at hm;omega
end Go.Proofs

namespace Go.Lv
open Go.RowKit
set_option maxRecDepth 100000
def zDE:ZH Proofs.Tryz.prog (⟨267,⟨[.str],[]⟩,[],⟨[.str, .int .i64],[]⟩,0,Bq⟩:Con VT.I):=
 Ps VT.ipOK rfl Proofs.Tryz.func267 (by kernel_rfl) (by kernel_rfl) λx y hxy ι w vs W hv=>by
  cases hxy;obtain rfl:=zQN hv.1 (Io (l:=x) hv rfl);refine(Proofs.Cl.pB ⟨x.toArray⟩ w λq hq=>let⟨h1,h2⟩:=W.glob q hq;⟨h1.1,h2⟩).mono ?_;rintro e w' ⟨rfl,hG⟩;have hsz:(⟨x.toArray⟩:ByteArray).size=List.length x:=by rw[ByteArray.size];exact df ..
  rw[hsz];refine⟨_,rfl,⟨hG.os,hG.tape,hG.output,hG.size,hG.old⟩,?_⟩;by_cases hl:4000<List.length (α:=UInt8) x
  ·rw[La hl,La hl];refine⟨_,rfl,rfl,λj t ht=> ?_⟩;rcases j with _|_|j
   ·injection ht with ht;subst ht;exact⟨_,rfl,Rq []⟩
   ·injection ht with ht;subst ht;exact⟨_,rfl,Ci _ _⟩
   ·cases ht
  ·rw[Ka hl,Ka hl];refine⟨_,rfl,rfl,λj t ht=> ?_⟩;rcases j with _|_|j
   ·injection ht with ht;subst ht;exact⟨_,rfl,Rq _⟩
   ·injection ht with ht;subst ht;exact⟨_,rfl,Ci _ _⟩
   ·cases ht
end Go.Lv
