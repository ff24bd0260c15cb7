/- build, buildOnce. -/
import Derived.Test.YtcdeccnjlkkejaaGreatDoorCb
import Derived.Defers
import Derived.Laws.Pointers
import Derived.Laws.LoneSync
import Derived.RegionTactic
import Derived.RegionCalls
import Derived.ChangeAlike
import Derived.Test.YtcdeccnjlkkejaaGreatDoorCc
set_option linter.unusedSimpArgs false
set_option linter.unusedVariables false
namespace Go.Proofs
set_option maxRecDepth 100000
set_option maxHeartbeats 4000000
def Cl.Made(h c:Nat):Prop:= ∀w,Cl.Old w h->Calls Tryz.prog 235 #[.slice (some ⟨h,0,none⟩) 8 c] w fun e f=> ∃g i a b c d,e= .returned (.pointer (some ⟨g,0,none⟩))/\Cl.Gr w f/\Cl.TW f g i a b c d/\Cl.Old f h
theorem Cl.build(j h c:Nat)(i:Cl.Made h c)(w:World)(f:Cl.Old w h)(r:w.cell? ⟨j,4,none⟩=some (.slice (some ⟨h,0,none⟩) 8 c)):
  Calls Tryz.prog 206 #[.pointer (some ⟨j,0,none⟩)] w fun e w'=> ∃g tb a b c d,e= .returned (.iface 241 (.pointer (some ⟨g,0,none⟩)))/\Cl.Gr w w'/\Cl.TW w' g tb a b c d/\Cl.Old w' h:=by
 have s:=f.o0;have k:=Lib.hid (i w f);clear i f;go_enter Tryz.func206,Tryz.ntmps206
 go_wp2_with fail
 refine wp_loop_rounds 2 ?_;rw[rounds_succ]
 go_wp2_with (go_at_call 235;refine k.out.mono ?_;rintro e w' ⟨g,tb,m,q,l,n,rfl,o,p,f⟩)
 go_ret;exact⟨g,tb,m,q,l,n,rfl,o,p,f⟩
theorem Cl.buildOnce (f h c:Nat) (v:Value) (o:Cl.Made h c) (w:World) (j:Cl.Old w h) (k:w.cell? ⟨f,4,none⟩=some (.slice (some ⟨h,0,none⟩) 8 c)) (i:w.cell? ⟨f,3,none⟩=some v)
  (l:w.frozen? ⟨f,3,none⟩=false) (m:w.frozen? ⟨f,4,none⟩=false) (r:f≠h):
  Calls Tryz.prog 170 #[.pointer (some ⟨f,0,none⟩)] w fun e w'=>e= .returned (.tuple #[])/\ ∃g tb a b c d W,Cl.Gr w W/\Cl.TW W g tb a b c d/\w'=(W.setCell ⟨f,3,none⟩ (.iface 241 (.pointer (some ⟨g,0,none⟩)))).setCell ⟨f,4,none⟩ (.slice none 0 0):=by
 have q:=Lib.hid (Cl.build f h c o w j k);have p: ∀W,Cl.Gr w W->W.cell? ⟨f,3,none⟩=some v/\W.cell? ⟨f,4,none⟩=some (.slice (some ⟨h,0,none⟩) 8 c)/\W.frozen? ⟨f,3,none⟩=false/\W.frozen? ⟨f,4,none⟩=false:=fun W n=>by
  have e:=n.old f (Cl.lt_of i);refine⟨?_,?_,?_,?_⟩
  ·rw[<-i];simp only[World.cell?,e]
  ·rw[<-k];simp only[World.cell?,e]
  ·rw[<-l];simp only[World.frozen?,e]
  ·rw[<-m];simp only[World.frozen?,e]
 clear o j k i l m;go_enter Tryz.func170,Tryz.ntmps170
 go_wp2_with (go_at_call 206;refine q.out.mono ?_;rintro e w' ⟨g,tb,u,z,t,x,rfl,n,y,j⟩;obtain⟨i,s,l,m⟩:=p _ n)
 go_end0
 grind
set_option maxHeartbeats 2000000
theorem Cl.disable(w:World):(callFunc 267 #[]).run Tryz.prog w= .ok (.value (.tuple #[])) w:=run_call_mark0 Tryz.func267 (by kernel_rfl) (by kernel_rfl) (by kernel_rfl) .disable (by kernel_rfl) w
theorem Cl.enable(w:World):(callFunc 269 #[]).run Tryz.prog w= .ok (.value (.tuple #[])) w:=run_call_mark0 Tryz.func269 (by kernel_rfl) (by kernel_rfl) (by kernel_rfl) .enable (by kernel_rfl) w
theorem Cl.acquire(a:Addr)(w:World):(callFunc 270 #[.pointer (some a)]).run Tryz.prog w= .ok (.value (.tuple #[])) w:=run_call_marked Tryz.func270 (by kernel_rfl) (by kernel_rfl) (by kernel_rfl) .acquire (by kernel_rfl) a w
theorem Cl.releaseMerge(a:Addr)(w:World):(callFunc 272 #[.pointer (some a)]).run Tryz.prog w= .ok (.value (.tuple #[])) w:=run_call_marked Tryz.func272 (by kernel_rfl) (by kernel_rfl) (by kernel_rfl) .releaseMerge (by kernel_rfl) a w
theorem Cl.store_deferred(a:Addr)(x:Value)(u:FrameMode)(w:World)(g:w.cell? a=some x)(h:w.frozen? a=false):
  CallsD Tryz.prog 233 #[.pointer (some a), .bool true] u w fun e f w'=>f=u/\(e= .returned (.tuple #[])/\w'=w.drew.setCell a (.int .u32 1)):=by
 have c:w.drew.cell? a=some x:=by go_simp
 have b:w.drew.frozen? a=false:=by go_simp
 have d:=run_call_store (P:=Tryz.prog) Tryz.func259 (by kernel_rfl) (by kernel_rfl) (by kernel_rfl) (by kernel_rfl) (k:= .u32) (y:=1) c b
 go_enter_d Tryz.func233,Tryz.ntmps233
 go_wp2
 go_region_calls
 all_goals (go_end0;exact⟨rfl,rfl⟩)
theorem Cl.unlock_deferred(a:Addr)(u:FrameMode)(w:World)(b:w.cell? a=some (.int .i32 1))(d:w.frozen? a=false):
  CallsD Tryz.prog 232 #[.pointer (some a)] u w fun e f w'=>f=u/\(e= .returned (.tuple #[])/\w'=w.setCell a (.int .i32 0)):=by
 have i:=Cl.disable;have j:=Cl.enable;have h:=Cl.releaseMerge;have c:=run_call_add (P:=Tryz.prog) Tryz.func273 (by kernel_rfl) (by kernel_rfl) (by kernel_rfl) .i32 (by kernel_rfl) (y:= -1) (s:=0) b d (by simp[go_sem];rfl);have g:=run_convert_to_unsafe (P:=Tryz.prog) (src:=274) (dst:=211) Tryz.underlying274 Tryz.underlying211 (by kernel_rfl) b
 go_enter_d Tryz.func232,Tryz.ntmps232
 go_wp2
 go_end0
 go_wp2
theorem Cl.lock_free(a:Addr)(w:World)(c:w.cell? a=some (.int .i32 0))(f:w.frozen? a=false):
  Calls Tryz.prog 231 #[.pointer (some a)] w fun e w'=>e= .returned (.tuple #[])/\w'=w.setCell a (.int .i32 1):=by
 have h:=Cl.disable;have j:=Cl.enable;have i:=Cl.acquire;have d:=run_call_cas_hit (P:=Tryz.prog) Tryz.func268 (by kernel_rfl) (by kernel_rfl) (by kernel_rfl) .i32 (by kernel_rfl) (y:=1) c f;have b:(w.setCell a (.int .i32 1)).cell? a=some (.int .i32 1):=World.cell?_setCell_same w a _ c;have g:=run_convert_to_unsafe (P:=Tryz.prog) (src:=274) (dst:=211) Tryz.underlying274 Tryz.underlying211 (by kernel_rfl) b;go_enter Tryz.func231,Tryz.ntmps231
 go_wp2
 first|go_end0|(simp only[Exit.inBlock,Exit.then];refine bodyPost_ret (results_none rfl _ _ _) rfl ?_)|refine bodyPost_ret (results_none rfl _ _ _) rfl ?_
 go_wp2
theorem Cl.Gr.fr{w w':World}(h:Cl.Gr w w'):Cl.Fr w w' []where
 os:=h.os
 tape:=h.tape
 output:=h.output
 size:=h.size
 blk:=fun b a _=>h.old b a
 cell:=fun b o a _=>by simp only[World.cell?,h.old b a]
 frz:=fun b o a=>by simp only[World.frozen?,h.old b a]
theorem Cl.TW.ne{w:World}{g tb a b c d rp:Nat}{x y:Int}(h:Cl.TW w g tb a b c d)(h0:w.cell? ⟨rp,0,none⟩=some (.int .u32 x))(h1:w.cell? ⟨rp,1,none⟩=some (.int .i32 y)):
  ∀z,z=g\/z=tb\/z=a\/z=b\/z=c\/z=d->rp≠z:=by
 rintro z hz rfl;rcases hz with rfl|rfl|rfl|rfl|rfl|rfl
 ·have:=h.p1.symm.trans h1;simp at this
 ·have:=h.t0.symm.trans h0;simp at this
 ·have:=h.a0.symm.trans h0;simp at this
 ·have:=h.b0.symm.trans h0;simp at this
 ·have:=h.c0.symm.trans h0;simp at this
 ·have:=h.d0.symm.trans h0;simp at this
theorem Cl.TW.fr{w w':World}{g tb a b c d i:Nat}{L:List (Nat×Nat)}(h:Cl.TW w g tb a b c d)(f:Cl.Fr w w' L)(l: ∀z,z=g\/z=tb\/z=a\/z=b\/z=c\/z=d->i≠z)(k: ∀b o,(b,o)∈L->b=i):Cl.TW w' g tb a b c d:=by
 refine h.keep fun x o e=>f.cell x o ?_ fun j=>l x e (k _ _ j).symm;rcases e with rfl|rfl|rfl|rfl|rfl|rfl
 ·exact Cl.lt_of h.p1
 ·exact Cl.lt_of h.t0
 ·exact Cl.lt_of h.a0
 ·exact Cl.lt_of h.b0
 ·exact Cl.lt_of h.c0
 ·exact Cl.lt_of h.d0
structure Cl.Raw (w:World) (rp ob c:Nat):Prop where
 old:Cl.Old w ob
 h0:w.cell? ⟨rp,0,none⟩=some (.int .u32 0)
 h1:w.cell? ⟨rp,1,none⟩=some (.int .i32 0)
 h3:w.cell? ⟨rp,3,none⟩=some .nilIface
 h4:w.cell? ⟨rp,4,none⟩=some (.slice (some ⟨ob,0,none⟩) 8 c)
 fz: ∀o,w.frozen? ⟨rp,o,none⟩=false
theorem Cl.slow(i n c:Nat)(S:Cl.Made n c)(w:World)(K:Cl.Raw w i n c):
  Calls Tryz.prog 205 #[.pointer (some ⟨i,0,none⟩), .func (.func 170) #[.pointer (some ⟨i,0,none⟩)] #[]] w fun e w'=>e= .returned (.tuple #[])/\ ∃g tb a b c d,Cl.TW w' g tb a b c d/\
   w'.cell? ⟨i,3,none⟩=some (.iface 241 (.pointer (some ⟨g,0,none⟩)))/\Cl.Fr w w' [(i,0),(i,1),(i,3),(i,4)]:=by
 have N:i≠n:=fun e=>by have h:=K.h0;rw[e,K.old.o0]at h;cases h
 obtain⟨O,T,E,Z,Y,F⟩:=K;have f1:=F 1;have s: ∀b o,(b,o)≠(i,1)->(w.setCell ⟨i,1,none⟩ (.int .i32 1)).cell? ⟨b,o,none⟩=w.cell? ⟨b,o,none⟩:=fun b o hn=>World.cell?_setCell_other _ _ _ _ (fun e=>by grind);have m: ∀o,(w.setCell ⟨i,1,none⟩ (.int .i32 1)).frozen? ⟨i,o,none⟩=false:=fun o=>(World.frozen?_setCell ..).trans (F o);have R:Cl.Old (w.setCell ⟨i,1,none⟩ (.int .i32 1)) n:=by have e:=fun o=>s n o (fun e=>by grind);exact⟨(e _).trans O.o0,(e _).trans O.o1,(e _).trans O.o2,(e _).trans O.o3,(e _).trans O.o4,(e _).trans O.o5,(e _).trans O.o6,(e _).trans O.o7⟩
 have l:=(s i 0 (by simp)).trans T;have z:=World.cell?_setCell_same w ⟨i,1,none⟩ (.int .i32 1) E;have y:=(s i 3 (by simp)).trans Z;have B:=(s i 4 (by simp)).trans Y;have HB:=Lib.hid (Cl.buildOnce i n c .nilIface S _ R B y (m 3) (m 4) N);have HL:=Lib.hid (Cl.lock_free ⟨i,1,none⟩ w E f1);have hl:=run_call_load (P:=Tryz.prog) Tryz.func230 (by kernel_rfl) (by kernel_rfl) (by kernel_rfl) .u32 (by kernel_rfl) (w:=w.setCell ⟨i,1,none⟩ (.int .i32 1)) (a:=⟨i,0,none⟩) (x:=0) l;have Q: ∀(x:Bool) (w:World),(Op.unary .not (.bool x)).run Tryz.prog w= .ok (.bool (!x)) w:=fun _ _=>rfl;have G:=Lib.hid (And.intro l (And.intro z (And.intro y (And.intro B m))));clear O R l z y B T E Z Y s F m f1 S
 go_enter_defers Tryz.func205,Tryz.ntmps205
 go_wp2_with (first|(go_at_call 231;refine HL.out.mono ?_;rintro e w' ⟨rfl,rfl⟩)|(go_at_call 204;go_in)|(go_at_call 170;refine HB.out.mono ?_;rintro e w' ⟨rfl,g,tb,a,b,c,d,W,hG,hT,rfl⟩))
 simp only[bodyPostD];obtain⟨l,z,y,B,m⟩:=G.out;have p:=hG.fr;have A:=Cl.lt_of l;have M:=(p.cell i 0 A (by simp)).trans l;have X:=(p.cell i 1 A (by simp)).trans z;have c3:=(p.cell i 3 A (by simp)).trans y;have L: ∀o,W.frozen? ⟨i,o,none⟩=false:=fun o=>(p.frz i o A).trans (m o);have v:=((Cl.Fr.set W i 3 (.iface 241 (.pointer (some ⟨g,0,none⟩)))).trans (Cl.Fr.set _ i 4 (.slice none 0 0)));have k:=Cl.lt_of M;have r:((W.setCell ⟨i,3,none⟩ (.iface 241 (.pointer (some ⟨g,0,none⟩)))).setCell ⟨i,4,none⟩ (.slice none 0 0)).cell? ⟨i,3,none⟩=some (.iface 241 (.pointer (some ⟨g,0,none⟩))):=
  (World.cell?_setCell_other _ ⟨i,4,none⟩ ⟨i,3,none⟩ _ (by simp)).trans (World.cell?_setCell_same W _ _ c3)
 have j:=(v.cell i 0 k (by simp)).trans M;have q:=(v.cell i 1 k (by simp)).trans X;have D:=fun o=>(v.frz i o k).trans (L o);have hW:=hT.ne M X;have F3:=p.trans v;have F4:=(Cl.Fr.set w i 1 (.int .i32 1)).trans F3;have U:=hT.fr v hW (by grind);generalize ((W.setCell ⟨i,3,none⟩ (.iface 241 (.pointer (some ⟨g,0,none⟩)))).setCell ⟨i,4,none⟩ (.slice none 0 0))=V at r j q D F4 U ⊢;refine leaves_cons (f:=233) (args:= #[.pointer (some ⟨i,0,none⟩), .bool true]) (by simp) (by simp[go_sem]) ?_;refine(Cl.store_deferred ⟨i,0,none⟩ (.int .u32 0) .returning _ j (D 0)).mono ?_;rintro e u' C ⟨rfl,rfl,rfl⟩;refine leaves_cons (f:=232) (args:= #[.pointer (some ⟨i,1,none⟩)]) (by simp[settle]) (by simp[go_sem]) ?_;have t:(V.drew.setCell ⟨i,0,none⟩ (.int .u32 1)).cell? ⟨i,1,none⟩=some (.int .i32 1):=(World.cell?_setCell_other _ ⟨i,0,none⟩ ⟨i,1,none⟩ _ (by simp)).trans q;refine(Cl.unlock_deferred ⟨i,1,none⟩ _ _ t ((World.frozen?_setCell ..).trans (D 1))).mono ?_;rintro e u' C ⟨rfl,rfl,rfl⟩;have H:=((Cl.Fr.drewN V 1).trans (Cl.Fr.set _ i 0 (.int .u32 1))).trans (Cl.Fr.set _ i 1 (.int .i32 0));have J:=Cl.lt_of j;have u: ∃g tb a b c d,Cl.TW ((V.drew.setCell ⟨i,0,none⟩ (.int .u32 1)).setCell ⟨i,1,none⟩ (.int .i32 0)) g tb a b c d/\
   ((V.drew.setCell ⟨i,0,none⟩ (.int .u32 1)).setCell ⟨i,1,none⟩ (.int .i32 0)).cell? ⟨i,3,none⟩=some (.iface 241 (.pointer (some ⟨g,0,none⟩)))/\
   Cl.Fr w ((V.drew.setCell ⟨i,0,none⟩ (.int .u32 1)).setCell ⟨i,1,none⟩ (.int .i32 0)) [(i,0),(i,1),(i,3),(i,4)]:=
  ⟨g,tb,a,b,c,d,U.fr H hW (by grind),(H.cell i 3 J (by simp)).trans r,(F4.trans H).wk (by simp;omega)⟩
 simpa [Leaves,settle,results,Tryz.results205] using u
theorem Cl.onceDo(f h c:Nat)(k:Cl.Made h c)(w:World)(i:Cl.Raw w f h c):
  Calls Tryz.prog 169 #[.pointer (some ⟨f,0,none⟩), .func (.func 170) #[.pointer (some ⟨f,0,none⟩)] #[]] w fun e w'=>e= .returned (.tuple #[])/\ ∃g tb a b c d,Cl.TW w' g tb a b c d/\
   w'.cell? ⟨f,3,none⟩=some (.iface 241 (.pointer (some ⟨g,0,none⟩)))/\Cl.Fr w w' [(f,0),(f,1),(f,3),(f,4)]:=by
 have m:=Lib.hid (Cl.slow f h c k w i);have n:=run_call_load (P:=Tryz.prog) Tryz.func230 (by kernel_rfl) (by kernel_rfl) (by kernel_rfl) .u32 (by kernel_rfl) (w:=w) (a:=⟨f,0,none⟩) (x:=0) i.h0;have j: ∀(x:Bool) (w:World),(Op.unary .not (.bool x)).run Tryz.prog w= .ok (.bool (!x)) w:=fun _ _=>rfl;clear i k;go_enter Tryz.func169,Tryz.ntmps169
 go_wp2_with (first|(go_at_call 204;go_in)|(go_at_call 205;refine m.out.mono ?_;rintro e w' ⟨rfl,l⟩))
 go_end0
 exact⟨rfl,l⟩
theorem Cl.made'(a c:Nat):Cl.Made a c:=fun w b=>Cl.made a c w b
theorem Cl.Gb.fr{w w':World}{a:Nat}(h:Cl.Gb w)(g: ∀q∈Go.Lv.tabG,q.1≠a)(f:Cl.Fr w w' [(a,0),(a,1),(a,3),(a,4)]):Cl.Gb w':=fun q e=>by obtain⟨b,o,c,d⟩:=h q e;refine⟨Cc b f.size,o,?_,d⟩;rw[f.blk _ b (by grind)];exact c
theorem Cl.replace(f l c:Nat)(s:ByteArray)(o:s.size<=4000)(w:World)(p:Cl.Gb w)(i: ∀q∈Go.Lv.tabG,q.1≠f)(r:Cl.Raw w f l c):
  Calls Tryz.prog 135 #[.pointer (some ⟨f,0,none⟩), .string s] w fun e w'=>e= .returned (.string ⟨(Cl.cleanS s.data.toList).toArray⟩)/\Cl.Fr w w' [(f,0),(f,1),(f,3),(f,4)]:=by
 have x:=Lib.hid (Cl.onceDo f l c (Cl.made' l c) w r);have v: ∀(n:Fn) (first h:Array Value) (w:World),(Instr.makeFunc n first h).run Tryz.prog w= .ok (.func n first h) w:=fun _ _ _ _=>rfl;have t:=Lib.hid (fun g k a b c d w' (j:Cl.Fr w w' [(f,0),(f,1),(f,3),(f,4)]) (m:Cl.TW w' g k a b c d)=>Cl.repl g k a b c d s o w' (p.fr i j) m);clear r o p i;go_enter Tryz.func135,Tryz.ntmps135
 go_wp2_with (first|(go_at_call 169;refine x.out.mono ?_;rintro e w' ⟨rfl,g,k,a,b,c,d,m,z,j⟩)|(go_at_call 303;refine(t.out _ _ _ _ _ _ _ j m).mono ?_;rintro e u ⟨rfl,y⟩))
 go_ret;exact⟨rfl,(j.trans y.fr).wk (by grind)⟩
def Cl.eight:List Value:=[.string ⟨#[13,10]⟩, .string ⟨#[10]⟩, .string ⟨#[13]⟩, .string ⟨#[10]⟩, .string ⟨#[12]⟩, .string ⟨#[10]⟩, .string ⟨#[0]⟩, .string ⟨#[239,191,189]⟩]
theorem Cl.inf9: ∃i,Tryz.prog.info? 9=some i/\i.zero=some (.string ⟨#[]⟩)/\i.size=1/\i.bytes=16:=⟨(Tryz.prog.info? 9).getD default,by kernel_rfl,by kernel_rfl,by kernel_rfl,by kernel_rfl⟩
theorem Cl.und136:Tryz.prog.underlying 122=some (.slice 9):=by kernel_rfl
theorem Cl.eight_run(a:Nat)(w:World)(O:Cl.Old w a): ∃G Z,(Builtin.append_ #[122,122] 122 #[.slice none 0 0, .slice (some ⟨a,0,none⟩) 8 8]).run Tryz.prog w= .ok (.slice (some ⟨w.heap.size,0,none⟩) 8 G) (w.drew.alloc (.cells (Cl.eight.toArray++Z) 9)):=by obtain⟨i,d,c,b,e⟩:=Cl.inf9;refine⟨_,_,run_append_nil w 122 122 9 i _ Cl.und136 d c ⟨a,0,none⟩ 8 8 Cl.eight (by rw[b];rfl) ?_ (by omega) (by omega) (by rw[e];omega)⟩;intro j v h;rw[Addr.add_mid,Sd];obtain⟨o,f,p,n,m,g,k,l⟩:=O;rcases j with _|_|_|_|_|_|_|_|j<;>simp[Cl.eight]at h<;>subst h<;>assumption
theorem Cl.eight_old{W:World}{n:Nat}{Z:Array Value}(h: ∀o,W.cell? ⟨n,o,none⟩=(Cl.eight.toArray++Z)[o]?):Cl.Old W n:=by constructor<;>(rw[h,Array.getElem?_append_left (by simp[Cl.eight])];rfl)
theorem Cl.newReplacer(g:Nat)(w:World)(a:Cl.Old w g):
  Calls Tryz.prog 168 #[.slice (some ⟨g,0,none⟩) 8 8] w fun e w'=> ∃h n c,e= .returned (.pointer (some ⟨h,0,none⟩))/\Cl.Raw w' h n c/\Cl.Gr w w'/\w.heap.size<=h:=by
 obtain⟨G,Z,d⟩:=Cl.eight_run g w a;have k:=Lib.hid d;clear d a;go_enter Tryz.func168,Tryz.ntmps168
 go_wp2_with (at_builtin;refine Cl.append_run rfl _ _ _ _ rfl (by rfl) (by rfl) k.out ?_)
 go_ret;have l:=Cl.Fr.alloc w (.cells (Cl.eight.toArray++Z) 9);have j:=Cl.Fr.alloc (w.alloc (.cells (Cl.eight.toArray++Z) 9)) (.cells #[.int .u32 0, .int .i32 0, .int .u32 0, .nilIface, .slice (some ⟨w.heap.size,0,none⟩) 8 G] 197);have F:=l.trans j;have i:w.heap.size+1=(w.alloc (.cells (Cl.eight.toArray++Z) 9)).heap.size:=by rw[World.size_alloc]
 have f:=fun o=>Cl.new_cell (w.alloc (.cells (Cl.eight.toArray++Z) 9)) #[.int .u32 0, .int .i32 0, .int .u32 0, .nilIface, .slice (some ⟨w.heap.size,0,none⟩) 8 G] 197 o _ i;have a:Cl.Old ((w.alloc (.cells (Cl.eight.toArray++Z) 9)).alloc (.cells #[.int .u32 0, .int .i32 0, .int .u32 0, .nilIface, .slice (some ⟨w.heap.size,0,none⟩) 8 G] 197)) w.heap.size:=
  Cl.eight_old fun o=>(j.cell _ o (by grind) (by simp)).trans (Cl.new_cell w _ _ _ _ rfl)
 refine⟨_,w.heap.size,G,rfl,⟨⟨a.o0,a.o1,a.o2,a.o3,a.o4,a.o5,a.o6,a.o7⟩,f 0,f 1,f 3,f 4,fun o=>Cl.new_frozen (w.alloc (.cells (Cl.eight.toArray++Z) 9)) _ _ _ _ i⟩,⟨F.os,F.tape,F.output,F.size,fun b m=>F.blk b m (by simp)⟩,by omega⟩
theorem Cl.cleaner(w:World):
  Calls Tryz.prog 134 #[] w fun e w'=> ∃a d c,e= .returned (.pointer (some ⟨a,0,none⟩))/\Cl.Raw w' a d c/\Cl.Gr w w'/\w.heap.size<=a:=by
 have g:=Cl.Fr.alloc w (.cells Cl.eight.toArray 9);have f:Cl.Old (w.alloc (.cells Cl.eight.toArray 9)) w.heap.size:=Cl.eight_old (Z:= #[]) fun o=>by simp_all
 have i:=Lib.hid (Cl.newReplacer w.heap.size _ f);have G:=Lib.hid g;clear f g;go_enter Tryz.func134,Tryz.ntmps134
 go_wp2_with (go_at_call 168;refine i.out.mono ?_;rintro e w' ⟨a,d,c,rfl,j,k,h⟩)
 go_ret;have F:=G.out.trans k.fr;exact⟨a,d,c,rfl,j,⟨F.os,F.tape,F.output,F.size,fun b l=>F.blk b l (by simp)⟩,Ub G.out.size h⟩
theorem Cl.clean(s:ByteArray)(w:World)(g:Cl.Gb w):
  Calls Tryz.prog 99 #[.string s] w fun e w'=>e= .returned (if 4000<s.size then .tuple #[.string ⟨#[]⟩, .int .i64 28]else .tuple #[.string ⟨(Cl.cleanS s.data.toList).toArray⟩, .int .i64 0])/\Cl.Gr w w':=by
 by_cases h:4000<s.size
 ·have j:((s.size:Nat):Int)>4000:=by omega
  rw[Ia h];go_enter Tryz.func99,Tryz.ntmps99
  go_wp2_with fail
  go_ret2;exact⟨rfl,rfl,rfl,rfl,Ua _,fun _ _=>rfl⟩
 ·have j: ¬((s.size:Nat):Int)>4000:=by omega
  rw[Fa h];have p:=Lib.hid (Cl.cleaner w);have o:=Lib.hid (fun f k c w' (a:Cl.Gr w w') (i:w.heap.size<=f) d=>Cl.replace f k c s (by omega) w' (g.gr a) (fun q m=>by have:=(g q m).1;omega) d);clear g;go_enter Tryz.func99,Tryz.ntmps99
  go_wp2_with (first|(go_at_call 134;refine p.out.mono ?_;rintro e w' ⟨f,t,c,rfl,d,a,i⟩)|(go_at_call 135;refine(o.out _ _ _ _ a i d).mono ?_;rintro e l ⟨rfl,n⟩))
  go_ret2;have F:=a.fr.trans n;refine⟨rfl,F.os,F.tape,F.output,F.size,fun b r=>F.blk b r ?_⟩
  grind
end Go.Proofs

namespace Go.Lv
open Go.RowKit
set_option maxRecDepth 100000
theorem nZ:zt Proofs.Tryz.prog (⟨99,⟨[.str],[]⟩,[],⟨[.str, .int .i64],[]⟩,0,Ki⟩:Con VT.I):=
 Wl VT.ipOK rfl Proofs.Tryz.func99 (by kernel_rfl) (by kernel_rfl) fun x y hxy ι w vs W hv=>by
  cases hxy;obtain rfl:=YS hv.1 (si (l:=x) hv rfl);refine(Proofs.Cl.clean ⟨x.toArray⟩ w fun q hq=>let⟨h1,h2⟩:=W.glob q hq;⟨h1.1,h2⟩).mono ?_;rintro e w' ⟨rfl,hG⟩;have hsz:(⟨x.toArray⟩:ByteArray).size=List.length x:=by rw[ByteArray.size];exact je ..
  rw[hsz];refine⟨_,rfl,⟨hG.os,hG.tape,hG.output,hG.size,hG.old⟩,?_⟩;by_cases hl:4000<List.length (α:=UInt8) x
  ·rw[Ia hl,Ia hl];refine⟨_,rfl,rfl,fun j t ht=> ?_⟩;rcases j with _|_|j
   ·injection ht with ht;subst ht;exact⟨_,rfl,Jk []⟩
   ·injection ht with ht;subst ht;exact⟨_,rfl,Qq _ _⟩
   ·cases ht
  ·rw[Fa hl,Fa hl];refine⟨_,rfl,rfl,fun j t ht=> ?_⟩;rcases j with _|_|j
   ·injection ht with ht;subst ht;exact⟨_,rfl,Jk _⟩
   ·injection ht with ht;subst ht;exact⟨_,rfl,Qq _ _⟩
   ·cases ht
end Go.Lv
