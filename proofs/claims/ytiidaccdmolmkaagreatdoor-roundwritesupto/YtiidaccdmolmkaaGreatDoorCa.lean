import Derived.Test.YtiidaccdmolmkaaGreatDoorIp
import Derived.Handy
import Derived.Lib.Walk
import Derived.Laws.Cover3
import Derived.Deep.QuietTactic
import Derived.BigQuiet
import Derived.Stop.Asserts
import Derived.Lib.Hide
import Derived.Deep.RegionWith
set_option linter.all false
namespace Go.Proofs
set_option maxRecDepth 100000
set_option maxHeartbeats 2000000
def Cl.ne1{s:ByteArray}(hs:0<s.size):s.toList.isEmpty=false:=by
 have:s.toList.length=s.size:=by rw[Lib.toList_data];rfl
 cases h:s.toList with
 |nil=>rw[h]at this;simp at this;omega
 |cons a l=>rfl
def Cl.ne2{s:ByteArray}(hs:0<s.size):(s.toList==[])=false:=by
 have:=Cl.ne1 hs;cases h:s.toList with
 |nil=>rw[h]at this;cases this
 |cons a l=>rfl
def Cl.oj (g:Nat)(w:World)
  (h1:w.cell? ⟨g,1,none⟩=some (.int .i64 0)):
  Calls Tryz.prog 393 #[.pointer (some ⟨g,0,none⟩), .string ⟨#[]⟩, .bool false] w λe w'=>e= .returned (.tuple #[.string ⟨#[]⟩, .int .i64 0, .bool false])/\ ∃n,w'=w.drewN n:=by
 go_enter Tryz.func393,Tryz.ntmps393
 go_wp2
 go_rounds 1
 go_ret3;exact⟨rfl,0,rfl⟩
def Cl.nf (g tb nb k:Nat)(p:Int)(hp:decide (p>0)=true)(v:ByteArray)(hk:k<4)(s:ByteArray)(hs:0<s.size)(w:World)
  (h1:w.cell? ⟨g,1,none⟩=some (.int .i64 0)) (h4:w.cell? ⟨g,4,none⟩=some (.slice (some ⟨tb,0,none⟩) 4 4)) (h5:w.cell? ⟨g,5,none⟩=some (.int .i64 4))
  (hm:w.cell? ⟨g,6+s[0].toNat,none⟩=some (.int .u8 k)) (ht:w.cell? ⟨tb,k,none⟩=some (.pointer (some ⟨nb,0,none⟩)))
  (n0:w.cell? ⟨nb,0,none⟩=some (.string v)) (n1:w.cell? ⟨nb,1,none⟩=some (.int .i64 p)) (n2:w.cell? ⟨nb,2,none⟩=some (.string ⟨#[]⟩)) (n4:w.cell? ⟨nb,4,none⟩=some (.slice none 0 0)):
  Calls Tryz.prog 393 #[.pointer (some ⟨g,0,none⟩), .string s, .bool false] w λe w'=>e= .returned (.tuple #[.string v, .int .i64 1, .bool true])/\ ∃n,w'=w.drewN n:=by
 have he:=Cl.ne1 hs;have he2:=Cl.ne2 hs;have hb:(s[0].toNat:Int)<256:=by have:=s[0].toNat_lt;omega
 go_enter Tryz.func393,Tryz.ntmps393
 go_wp2
 go_rounds 3
 go_quiet (fail)
 go_wp2
 rw[rounds_succ]
 go_wp2
 all_goals (go_ret3;exact⟨rfl,_,rfl⟩)
def Cl.ov (g tb na nb k:Nat)(hk:k<4)(v u:ByteArray)(c:UInt8)(s:ByteArray)(hs:0<s.size)(w:World)
  (h1:w.cell? ⟨g,1,none⟩=some (.int .i64 0)) (h4:w.cell? ⟨g,4,none⟩=some (.slice (some ⟨tb,0,none⟩) 4 4)) (h5:w.cell? ⟨g,5,none⟩=some (.int .i64 4))
  (hm:w.cell? ⟨g,6+s[0].toNat,none⟩=some (.int .u8 k)) (ht:w.cell? ⟨tb,k,none⟩=some (.pointer (some ⟨na,0,none⟩)))
  (a0:w.cell? ⟨na,0,none⟩=some (.string v)) (a1:w.cell? ⟨na,1,none⟩=some (.int .i64 6)) (a2:w.cell? ⟨na,2,none⟩=some (.string ⟨#[c]⟩)) (a3:w.cell? ⟨na,3,none⟩=some (.pointer (some ⟨nb,0,none⟩))) (a4:w.cell? ⟨na,4,none⟩=some (.slice none 0 0))
  (n0:w.cell? ⟨nb,0,none⟩=some (.string u)) (n1:w.cell? ⟨nb,1,none⟩=some (.int .i64 8)) (n2:w.cell? ⟨nb,2,none⟩=some (.string ⟨#[]⟩)) (n4:w.cell? ⟨nb,4,none⟩=some (.slice none 0 0))
  (e1:(s.extract 1 s.size).toList.isEmpty=false) (e2:(1:Int)<=((s.size - 1:Nat):Int)) (e3:(((s.extract 1 s.size).extract 0 1).toList==[c])=true):
  Calls Tryz.prog 393 #[.pointer (some ⟨g,0,none⟩), .string s, .bool false] w λe w'=>e= .returned (.tuple #[.string u, .int .i64 2, .bool true])/\ ∃n,w'=w.drewN n:=by
 have he:=Cl.ne1 hs;have he2:=Cl.ne2 hs;have hb:(s[0].toNat:Int)<256:=by have:=s[0].toNat_lt;omega
 go_enter Tryz.func393,Tryz.ntmps393
 go_wp2
 go_rounds 3
 go_quiet (fail)
 go_wp2
 rw[rounds_succ]
 go_wp2
 rw[rounds_succ]
 go_wp2
 all_goals (go_ret3;exact⟨rfl,_,rfl⟩)
def Cl.oi (g tb na nb k:Nat)(hk:k<4)(v u:ByteArray)(c:UInt8)(s:ByteArray)(hs:0<s.size)(w:World)
  (h1:w.cell? ⟨g,1,none⟩=some (.int .i64 0)) (h4:w.cell? ⟨g,4,none⟩=some (.slice (some ⟨tb,0,none⟩) 4 4)) (h5:w.cell? ⟨g,5,none⟩=some (.int .i64 4))
  (hm:w.cell? ⟨g,6+s[0].toNat,none⟩=some (.int .u8 k)) (ht:w.cell? ⟨tb,k,none⟩=some (.pointer (some ⟨na,0,none⟩)))
  (a0:w.cell? ⟨na,0,none⟩=some (.string v)) (a1:w.cell? ⟨na,1,none⟩=some (.int .i64 6)) (a2:w.cell? ⟨na,2,none⟩=some (.string ⟨#[c]⟩)) (a3:w.cell? ⟨na,3,none⟩=some (.pointer (some ⟨nb,0,none⟩))) (a4:w.cell? ⟨na,4,none⟩=some (.slice none 0 0))
  (n0:w.cell? ⟨nb,0,none⟩=some (.string u)) (n1:w.cell? ⟨nb,1,none⟩=some (.int .i64 8)) (n2:w.cell? ⟨nb,2,none⟩=some (.string ⟨#[]⟩)) (n4:w.cell? ⟨nb,4,none⟩=some (.slice none 0 0))
  (e1:(s.extract 1 s.size).toList.isEmpty=false) (e2:(1:Int)<=((s.size - 1:Nat):Int)) (e3:(((s.extract 1 s.size).extract 0 1).toList==[c])=false):
  Calls Tryz.prog 393 #[.pointer (some ⟨g,0,none⟩), .string s, .bool false] w λe w'=>e= .returned (.tuple #[.string v, .int .i64 1, .bool true])/\ ∃n,w'=w.drewN n:=by
 have he:=Cl.ne1 hs;have he2:=Cl.ne2 hs;have hb:(s[0].toNat:Int)<256:=by have:=s[0].toNat_lt;omega
 go_enter Tryz.func393,Tryz.ntmps393
 go_wp2
 go_rounds 3
 go_quiet (fail)
 go_wp2
 rw[rounds_succ]
 go_wp2
 all_goals (go_ret3;exact⟨rfl,_,rfl⟩)
def Cl.nB (g tb na nb k:Nat)(hk:k<4)(v u:ByteArray)(c:UInt8)(s:ByteArray)(hs:0<s.size)(w:World)
  (h1:w.cell? ⟨g,1,none⟩=some (.int .i64 0)) (h4:w.cell? ⟨g,4,none⟩=some (.slice (some ⟨tb,0,none⟩) 4 4)) (h5:w.cell? ⟨g,5,none⟩=some (.int .i64 4))
  (hm:w.cell? ⟨g,6+s[0].toNat,none⟩=some (.int .u8 k)) (ht:w.cell? ⟨tb,k,none⟩=some (.pointer (some ⟨na,0,none⟩)))
  (a0:w.cell? ⟨na,0,none⟩=some (.string v)) (a1:w.cell? ⟨na,1,none⟩=some (.int .i64 6)) (a2:w.cell? ⟨na,2,none⟩=some (.string ⟨#[c]⟩)) (a3:w.cell? ⟨na,3,none⟩=some (.pointer (some ⟨nb,0,none⟩))) (a4:w.cell? ⟨na,4,none⟩=some (.slice none 0 0))
  (n0:w.cell? ⟨nb,0,none⟩=some (.string u)) (n1:w.cell? ⟨nb,1,none⟩=some (.int .i64 8)) (n2:w.cell? ⟨nb,2,none⟩=some (.string ⟨#[]⟩)) (n4:w.cell? ⟨nb,4,none⟩=some (.slice none 0 0))
  (e1:(s.extract 1 s.size).toList.isEmpty=true):
  Calls Tryz.prog 393 #[.pointer (some ⟨g,0,none⟩), .string s, .bool false] w λe w'=>e= .returned (.tuple #[.string v, .int .i64 1, .bool true])/\ ∃n,w'=w.drewN n:=by
 have he:=Cl.ne1 hs;have he2:=Cl.ne2 hs;have hb:(s[0].toNat:Int)<256:=by have:=s[0].toNat_lt;omega
 go_enter Tryz.func393,Tryz.ntmps393
 go_wp2
 go_rounds 3
 go_quiet (fail)
 go_wp2
 rw[rounds_succ]
 go_wp2
 all_goals (go_ret3;exact⟨rfl,_,rfl⟩)
open Go.Lv
def Cl.my {P:Program}{w:World}{ops:Array Oper}{rest:List Oper}{o:Oper}{a:Act}{Q:Exit->Act->World->Prop}(hgd:o.guard=none)(s x:Operand)(t u:TypeId)
  (ho:o.op= .call {callee:= .builtin .append,args:= #[s,x],argTypes:= #[t,u]}) {vs vx v:Value} {w':World} (hs:a.eval s=vs) (hx:a.eval x=vx) (hr:(Builtin.append_ #[t,u] o.type #[vs,vx]).run P w= .ok v w')
  (h:wpList P ops Q rest (a.put o.dst v) w'):wpList P ops Q (o::rest) a w:=
 wpList_plain hgd λK hK=>by unfold Oper.wp execOp;simp only[ho,resolve,invoke,builtin,Sem.run_bind,Sem.run_pure,Result.andThen_ok,List.map_toArray,Xb,Ye,hs,hx,hr];exact hK _ _ h
def Cl.Buf(ι:cL)(w:World)(pb id:Nat)(l:List UInt8):Prop:=
 Wf ι w/\0<id/\(∀j,id<j->ι j= .free)/\ι 0= .live (some pb) 1 1/\Sg Tryz.prog ι w 0 (.cells 391 [.own id]:EO VT.I.C)/\Sg Tryz.prog ι w id (.sl 5 l:EO VT.I.C)
def Cl.oy:cI Tryz.prog 391= .sl 5:=by kernel_rfl
def Cl.kd9:cI Tryz.prog 9= .str:=by kernel_rfl
def Cl.kd5:cI Tryz.prog 5= .int .u8:=by kernel_rfl
def Cl.sz5:Tryz.prog.cellsOf 5=1:=by kernel_rfl
def Cl.by5:(ti Tryz.prog 5).by_=1:=by kernel_rfl
def Cl.pC:(ti Tryz.prog 5).zok=true:=by kernel_rfl
def Cl.po:(Tryz.prog.info? 391).map (·.size)=some 1:=by kernel_rfl
def Cl.n9:(ti Tryz.prog 391).sz=1:=by kernel_rfl
def Cl.nm (pb:Nat)(t:ByteArray)(w w1:World)(a a':Option Addr)(n c n' c':Nat)(hc:w.cell? ⟨pb,0,none⟩=some (.slice a n c))(hap:(Builtin.append_ #[391,9] 391 #[.slice a n c, .string t]).run Tryz.prog w= .ok (.slice a' n' c') w1)
  (u:Value) (hc1:w1.cell? ⟨pb,0,none⟩=some u) (hf1:w1.frozen? ⟨pb,0,none⟩=false):
  Calls Tryz.prog 403 #[.pointer (some ⟨pb,0,none⟩), .string t] w λe w'=>e= .returned (.tuple #[.int .i64 t.size, .nilIface])/\w'=w1.setCell ⟨pb,0,none⟩ (.slice a' n' c'):=by
 go_enter Tryz.func403,Tryz.ntmps403
 go_wp2_with (at_builtin;refine Cl.my rfl _ _ _ _ rfl (by rfl) (by rfl) hap ?_)
 go_ret2;exact⟨rfl,rfl⟩
abbrev Tru:Nat->Prop:=λ_=>True
def Cl.src(ι:cL)(w:World)(t:List UInt8):gx (I:=VT.I) Tryz.prog ι w (Tryz.prog.cellsOf 5) (t.map (VT.I.exp 5)) (.string ⟨t.toArray⟩):=gx.str VT.ipOK (e:=5) (p:=(λl=>l,λl=>l)) rfl t
def Cl.push{ι:cL}{w:World}{ts tx ty id nx:Nat}{l t:List UInt8}(hk:cI Tryz.prog ts= .sl 5)(hx:Wj (cI Tryz.prog tx))(W:Wf ι w)(hf:ι nx= .free)(hh:Qu Tryz.prog ι w id (.sl 5 l:EO VT.I.C)){v vx:Value}(hv:cx (I:=VT.I) ι w (.c (.own id)) v)(hs:gx (I:=VT.I) Tryz.prog ι w (Tryz.prog.cellsOf 5) (t.map (VT.I.exp 5)) vx)(hl:l.length+t.length<=140737488355328):
  ∃v' w',(Builtin.append_ #[ts,tx] ty #[v,vx]).run Tryz.prog w= .ok v' w'/\Done (I:=VT.I) Tryz.prog ι w nx ⟨.v (.c (.own nx)),[(id, .dead),(nx, .sl 5 (l++t))],[],1⟩ v' w':=by
 have hn:(t.map (VT.I.exp 5)).length=t.length:=Xa ..;exact EU (I:=VT.I) (e:=5) (l:=l) (o:= .sl 5 (l++t)) hk hx Cl.pC W hf hh rfl rfl rfl (Tc ..) hv hs (by rw[hn];exact Jc hl (jb rfl)) (by rw[hn,Cl.by5,Jf];exact hl)
def Cl.n8{ι:cL}{w:World}{pb id:Nat}{l:List UInt8}(t:ByteArray)(h:Cl.Buf ι w pb id l)(hl:l.length+t.size<=140737488355328):
  Calls Tryz.prog 403 #[.pointer (some ⟨pb,0,none⟩), .string t] w λe w'=>e= .returned (.tuple #[.int .i64 t.size, .nilIface])/\ ∃ι',Cl.Buf ι' w' pb (id+1) (l++t.data.toList)/\fW Tru ι w ι' w':=by
 obtain⟨W,h0,hf,hp,g0,g1⟩:=h;obtain⟨b,cur,fr,_,e1,hh,hfr,_,_,hc,hat⟩:=g0.row (i:=0) rfl;rw[hp]at e1;cases e1;obtain⟨v,hcell,hv⟩:=hat 0 (.own id) rfl;simp only[Uf,Od]at hcell;have htl:t.data.toList.length=t.size:=rfl;obtain⟨v',w1,hap,ι1,S1,W1,hv1,hu1,f1⟩:=Cl.push (ts:=391) (tx:=9) (ty:=391) (nx:=id+1) (t:=t.data.toList) Cl.oy (by rw[Cl.kd9];trivial) W (hf _ (by omega)) ((Zu rfl).2 g1) hv (Cl.src ι w _) (by rw[htl];exact hl);have n0: ¬(0∈List.map (·.1) [(id,(EO.dead:EO VT.I.C)),(id+1, .sl 5 (l++t.data.toList))]):=by simp;omega
 have hp1:ι1 0= .live (some pb) 1 1:=(S1.fix 0 n0 (by rw[hp];simp)).trans hp;have g01:Qu Tryz.prog ι1 w1 0 (.cells 391 [.own id]:EO VT.I.C):=((Zu rfl).2 g0).step S1 n0;have g11:Qu Tryz.prog ι1 w1 (id+1) (.sl 5 (l++t.data.toList):EO VT.I.C):=hu1 (id+1, .sl 5 (l++t.data.toList)) (by simp);have hv1:cx (I:=VT.I) ι1 w1 (.c (.own (id+1))) v':=hv1;obtain⟨w2,hst,ι2,S2,W2,_,hu2,f2⟩:=H8 (I:=VT.I) (nx:=id+2) (rd:=[]) (t:=391) (c:=0) (x:= .c (.own (id+1))) (o':= .cells 391 [.own (id+1)]) W1 ((Zu rfl).1 g01) (i:=0) rfl (by rw[Cl.oy];simp) (by rw[show Tryz.prog.cellsOf 391=1 from Cl.n9];rfl) (by rw[show Tryz.prog.cellsOf 391=1 from Cl.n9];simp)
  (va:= .pointer (some ⟨pb,0,none⟩)) (vx:=v') (R3 hp1) hv1 rfl rfl rfl (λw'=>by rw[show Tryz.prog.cellsOf 391=1 from Cl.n9];exact .refl _)
 have n1: ¬(id+1∈List.map (·.1) [(0,(.cells 391 [.own (id+1)]:EO VT.I.C))]):=by simp
 have g02:Qu Tryz.prog ι2 w2 0 (.cells 391 [.own (id+1)]:EO VT.I.C):=hu2 _ (jc.2 rfl);have slice: ∀{ι:cL} {w:World} {id:Nat} {l:List UInt8} {v:Value},Qu Tryz.prog ι w id (.sl 5 l:EO VT.I.C)->cx (I:=VT.I) ι w (.c (.own id)) v-> ∃a n c,v= .slice a n c:=λ{ι w id l v} hh hv=>by obtain⟨b,e,_⟩:=(Zu rfl).1 hh;obtain⟨a,c,h⟩:=Sv e (m:=none) hv.2;exact⟨_,_,_,h⟩
 obtain⟨a',n',c',rfl⟩:=slice g11 hv1;obtain⟨a,n,c,rfl⟩:=slice ((Zu rfl).2 g1) hv;obtain⟨bq,cur1,fr1,_,eq1,hh1,hfr1,_,_,hc1,hat1⟩:=((Zu rfl).1 g01).row (i:=0) rfl;rw[hp1]at eq1;cases eq1;obtain⟨u1,hcell1,_⟩:=hat1 0 _ rfl;simp only[Uf,Od]at hcell1;have hfro1:w1.frozen? ⟨pb,0,none⟩=false:=by
  have hu1:cur1[0]? =some u1:=by rw[<-hU hh1];exact hcell1
  have hlt:=(Sb.1 hu1).1;have:=hfr1.1.out 0 (by simpa using hlt);simp only[World.frozen?,hh1];simp only[bg,decide_eq_false_iff_not];by_cases h:fr1.1<=0
  ·exact .inr (λh'=>this ⟨h,h'⟩)
  ·exact .inl h
 obtain⟨inf,hinf,hinf1⟩:=Sa.1 Cl.po;have hst2:(Instr.storeAt 391 (.pointer (some ⟨pb,0,none⟩)) (.slice a' n' c')).run Tryz.prog w1= .ok () (w1.setCell ⟨pb,0,none⟩ (.slice a' n' c')):=by simp[Instr.storeAt,storeVar,Instr.sureAddr,Value.cells,sizeOf,typeInfo,hinf,hinf1,storeCells,hcell1,hfro1,go_sem]
 obtain rfl:w2=w1.setCell ⟨pb,0,none⟩ (.slice a' n' c'):=by rw[hst]at hst2;injection hst2
 refine(Cl.nm pb t w w1 a a' n c n' c' hcell hap u1 hcell1 hfro1).mono λe w' ⟨h1,h2⟩=>⟨h1,?_⟩;subst h2;obtain⟨b2,k2,m2,e2⟩:=Yz rfl g02;have hp2:ι2 0= .live (some pb) 1 1:=by
  rcases S2.slots 0 (by rw[hp1];simp)with e|e|⟨_,_,_,_,_,e,_⟩
  ·exact e.trans hp1
  ·rw[e]at e2;cases e2
  ·rw[e]at e2;cases e2
 exact⟨ι2,⟨W2,by omega,λj hj=>f2 j (f1 j (hf j (by omega)) (.inr (by show id+1+1<=j;omega))) (.inr (by show id+2+0<=j;omega)),hp2,(Zu rfl).1 g02,(Zu rfl).1 (g11.step S2 n1)⟩,(S1.wk λ_ _=>trivial).trans (S2.wk λ_ _=>trivial)⟩
set_option maxHeartbeats 4000000
def Cl.na(pb:Nat)(w:World):(nilAhead 504 392 (.pointer (some ⟨pb,0,none⟩)) "WriteString").run Tryz.prog w= .ok (some false) w:=by kernel_rfl
def Cl.pS(v:Value)(w:World):(Instr.typeAssert (.iface 392 v) 394 396 true).run Tryz.prog w= .ok (.tuple #[.iface 392 v, .bool true]) w:=run_typeAssert_hasB Tryz.underlying396 (by kernel_rfl) v 394 w
def Cl.py(pb:Nat)(w:World):
  Calls Tryz.prog 392 #[.iface 392 (.pointer (some ⟨pb,0,none⟩))] w λe w'=>e= .returned (.iface 392 (.pointer (some ⟨pb,0,none⟩)))/\w=w':=by
 have H:=Cl.pS (.pointer (some ⟨pb,0,none⟩)) w;go_enter Tryz.func392,Tryz.ntmps392
 go_wp2
 go_ret;exact⟨rfl,rfl⟩
def Cl.iOf:Value->Int
 | .int _ n=>n
 |_=>0
def Cl.mp(k:Nat):Nat:=if k=0 then 0 else if k=10 then 1 else if k=12 then 2 else if k=13 then 3 else 4
structure Cl.TW (w:World) (g tb a b c d:Nat):Prop where
 p1:w.cell? ⟨g,1,none⟩=some (.int .i64 0)
 p4:w.cell? ⟨g,4,none⟩=some (.slice (some ⟨tb,0,none⟩) 4 4)
 p5:w.cell? ⟨g,5,none⟩=some (.int .i64 4)
 pm: ∀k:Nat,k<256->w.cell? ⟨g,6+k,none⟩=some (.int .u8 (Cl.mp k))
 t0:w.cell? ⟨tb,0,none⟩=some (.pointer (some ⟨a,0,none⟩))
 t1:w.cell? ⟨tb,1,none⟩=some (.pointer none)
 t2:w.cell? ⟨tb,2,none⟩=some (.pointer (some ⟨b,0,none⟩))
 t3:w.cell? ⟨tb,3,none⟩=some (.pointer (some ⟨c,0,none⟩))
 a0:w.cell? ⟨a,0,none⟩=some (.string ⟨#[239,191,189]⟩)
 a1:w.cell? ⟨a,1,none⟩=some (.int .i64 2)
 a2:w.cell? ⟨a,2,none⟩=some (.string ⟨#[]⟩)
 a4:w.cell? ⟨a,4,none⟩=some (.slice none 0 0)
 b0:w.cell? ⟨b,0,none⟩=some (.string ⟨#[10]⟩)
 b1:w.cell? ⟨b,1,none⟩=some (.int .i64 4)
 b2:w.cell? ⟨b,2,none⟩=some (.string ⟨#[]⟩)
 b4:w.cell? ⟨b,4,none⟩=some (.slice none 0 0)
 c0:w.cell? ⟨c,0,none⟩=some (.string ⟨#[10]⟩)
 c1:w.cell? ⟨c,1,none⟩=some (.int .i64 6)
 c2:w.cell? ⟨c,2,none⟩=some (.string ⟨#[10]⟩)
 c3:w.cell? ⟨c,3,none⟩=some (.pointer (some ⟨d,0,none⟩))
 c4:w.cell? ⟨c,4,none⟩=some (.slice none 0 0)
 d0:w.cell? ⟨d,0,none⟩=some (.string ⟨#[10]⟩)
 d1:w.cell? ⟨d,1,none⟩=some (.int .i64 8)
 d2:w.cell? ⟨d,2,none⟩=some (.string ⟨#[]⟩)
 d4:w.cell? ⟨d,4,none⟩=some (.slice none 0 0)
def Cl.Inv(ι:cL)(w:World)(pb:Nat)(s:ByteArray)(i pm n last:Value)(W:World):Prop:=
 ∃(k la:Nat) (N:Int) (ι':cL) (id':Nat) (B:List UInt8),k<=s.size+1/\la<=k/\la<=s.size/\i= .int .i64 k/\pm= .bool false/\n= .int .i64 N/\last= .int .i64 la/\
  Cl.Buf ι' W pb id' B/\fW Tru ι w ι' W/\B++(s.data.toList.take k).drop la++Cl.ds (s.data.toList.drop k)=Cl.ds s.data.toList/\B.length<=3*la
def Cl.TW.keep{w w':World}{g tb a b c d:Nat}(h:Cl.TW w g tb a b c d)(hk: ∀x o,x=g\/x=tb\/x=a\/x=b\/x=c\/x=d->w'.cell? ⟨x,o,none⟩=w.cell? ⟨x,o,none⟩):Cl.TW w' g tb a b c d:=by have hg:=λo=>hk g o (by simp);have ht:=λo=>hk tb o (by simp);have ha:=λo=>hk a o (by simp);have hb:=λo=>hk b o (by simp);have hc:=λo=>hk c o (by simp);have hd:=λo=>hk d o (by simp);obtain⟨⟩:=h;constructor<;>(first|(intro k hk';rw[hg];rename_i pm _ _ _ _ _ _ _ _ _ _ _ _ _ _ _ _ _ _ _ _ _;exact pm k hk')|(simp only[hg,ht,ha,hb,hc,hd];assumption))
def Cl.TW.drewN{w:World}{g tb a b c d:Nat}(h:Cl.TW w g tb a b c d)(n:Nat):Cl.TW (w.drewN n) g tb a b c d:=h.keep λ_ _ _=>rfl
def Cl.mw{s:ByteArray}{k:Nat}(h:k<s.size):0<(s.extract k s.size).size:=by simp;omega
def Cl.nj{s:ByteArray}{k:Nat}(h:k<s.size):(s.extract k s.size)[0]'(Cl.mw h)=s[k]:=by rw[ByteArray.getElem_extract];simp only[Od]
def Cl.pw{w:World}{g tb a b c d:Nat}(h:Cl.TW w g tb a b c d)(s:ByteArray)(k:Nat)(hlt:k<s.size)(h0:s[k].toNat=0):
  Calls Tryz.prog 393 #[.pointer (some ⟨g,0,none⟩), .string (s.extract k s.size), .bool false] w λe w'=>e= .returned (.tuple #[.string ⟨#[239,191,189]⟩, .int .i64 1, .bool true])/\ ∃n,w'=w.drewN n:=
 Cl.nf g tb a 0 2 (by decide) _ (by decide) _ (Cl.mw hlt) w h.p1 h.p4 h.p5 (by rw[Cl.nj hlt,h0];exact h.pm 0 (by decide)) h.t0 h.a0 h.a1 h.a2 h.a4
def Cl.pn{w:World}{g tb a b c d:Nat}(h:Cl.TW w g tb a b c d)(s:ByteArray)(k:Nat)(hlt:k<s.size)(h0:s[k].toNat=12):
  Calls Tryz.prog 393 #[.pointer (some ⟨g,0,none⟩), .string (s.extract k s.size), .bool false] w λe w'=>e= .returned (.tuple #[.string ⟨#[10]⟩, .int .i64 1, .bool true])/\ ∃n,w'=w.drewN n:=
 Cl.nf g tb b 2 4 (by decide) _ (by decide) _ (Cl.mw hlt) w h.p1 h.p4 h.p5 (by rw[Cl.nj hlt,h0];exact h.pm 12 (by decide)) h.t2 h.b0 h.b1 h.b2 h.b4
def Cl.m8(s:ByteArray)(k:Nat):(s.extract k s.size).data.toList=s.data.toList.drop k:=by rw[Lib.extract_eq];have:s.data.toList.length=s.size:=rfl;simp only[List.toList_toArray];exact List.take_of_length_le (by rw[Ic];omega)
def Cl.m7(s:ByteArray)(k:Nat):((s.extract k s.size).extract 1 (s.extract k s.size).size).toList=s.data.toList.drop (k+1):=by rw[Lib.toList_data,Cl.m8,Cl.m8,ae]
def Cl.oE(s:ByteArray)(k:Nat):(((s.extract k s.size).extract 1 (s.extract k s.size).size).extract 0 1).toList=(s.data.toList.drop (k+1)).take 1:=by have h:=Cl.m7 s k;rw[Lib.toList_data]at h;generalize (s.extract k s.size).extract 1 (s.extract k s.size).size=t at h ⊢;rw[Lib.toList_data,Lib.extract_eq,h];simp
def Cl.n7{r:List UInt8}(h: ∀r',r=10::r'->False):Cl.ds (13::r)=10::Cl.ds r:=by
 rw[Cl.ds]
 ·rfl
 ·intro r' _ h2;exact h r' h2
def Cl.pA{w:World}{g tb a b c d:Nat}(h:Cl.TW w g tb a b c d){s:ByteArray}{k:Nat}(hlt:k<s.size)(hm:Cl.mp s[k].toNat≠4)(h10:s[k].toNat≠10):
  ∃(m x:Nat) (val:ByteArray) (j:Nat),m<4/\w.cell? ⟨g,6+s[k].toNat,none⟩=some (.int .u8 m)/\w.cell? ⟨tb,m,none⟩=some (.pointer (some ⟨x,0,none⟩))/\1<=j/\k+j<=s.size/\val.size<=3*j/\
   Cl.ds (s.data.toList.drop k)=val.data.toList++Cl.ds (s.data.toList.drop (k+j))/\
   ∀n,Calls Tryz.prog 393 #[.pointer (some ⟨g,0,none⟩), .string (s.extract k s.size), .bool false] (w.drewN n) λe w'=>e= .returned (.tuple #[.string val, .int .i64 j, .bool true])/\ ∃n',w'=(w.drewN n).drewN n':=by
 have hk:k<s.data.toList.length:=hlt;have e:s.data.toList[k]=s[k]:=rfl;by_cases h0:s[k].toNat=0
 ·refine⟨0,a,⟨#[239,191,189]⟩,1,by omega,by rw[h0];exact h.pm 0 (by decide),h.t0,by omega,by omega,by decide,?_,λn=>Cl.pw (h.drewN n) s k hlt h0⟩;have:s[k]=0:=Cf.1 h0;rw[Eb hk,e,this];rfl
 ·by_cases h12:s[k].toNat=12
  ·refine⟨2,b,⟨#[10]⟩,1,by omega,by rw[h12];exact h.pm 12 (by decide),h.t2,by omega,by omega,by decide,?_,λn=>Cl.pn (h.drewN n) s k hlt h12⟩;have:s[k]=12:=Cf.1 h12;rw[Eb hk,e,this];rfl
  ·have h13:s[k].toNat=13:=by
    unfold Cl.mp at hm;rw[Ka h0,Ka h10,Ka h12]at hm;by_cases h:s[k].toNat=13
    ·exact h
    ·rw[Ka h]at hm;exact absurd rfl hm
   have hc:s[k]=13:=Cf.1 h13;have hm3: ∀n,(w.drewN n).cell? ⟨g,6+((s.extract k s.size)[0]'(Cl.mw hlt)).toNat,none⟩=some (.int .u8 (3:Nat)):=λn=>by rw[Cl.nj hlt,h13];exact h.pm 13 (by decide)
   have hm0:w.cell? ⟨g,6+s[k].toNat,none⟩=some (.int .u8 (3:Nat)):=by rw[h13];exact h.pm 13 (by decide)
   have hsz:(s.extract k s.size).size=s.size - k:=by simp
   by_cases h1:k+1<s.size
   ·have hk1:k+1<s.data.toList.length:=h1;have e2:s.data.toList[k+1]=s[k+1]:=rfl;have hd:s.data.toList.drop k=13::s[k+1]::s.data.toList.drop (k+2):=by rw[Eb hk,e,hc,Eb hk1,e2]
    have hh:(((s.extract k s.size).extract 1 (s.extract k s.size).size).extract 0 1).toList=[s[k+1]]:=by rw[Cl.oE,Eb hk1,e2];rfl
    have he:((s.extract k s.size).extract 1 (s.extract k s.size).size).toList.isEmpty=false:=by rw[Cl.m7,Eb hk1];rfl
    have h1i:(1:Int)<=(((s.extract k s.size).size - 1:Nat):Int):=by rw[hsz];omega
    by_cases h2:s[k+1]=10
    ·refine⟨3,c,⟨#[10]⟩,2,by omega,hm0,h.t3,by omega,by omega,by decide,?_,λn=> ?_⟩
     ·rw[hd,h2];rfl
     ·have h':=h.drewN n;exact Cl.ov g tb c d 3 (by decide) _ _ 10 _ (Cl.mw hlt) _ h'.p1 h'.p4 h'.p5 (hm3 n) h'.t3 h'.c0 h'.c1 h'.c2 h'.c3 h'.c4 h'.d0 h'.d1 h'.d2 h'.d4 he h1i (by rw[hh,h2];rfl)
    ·refine⟨3,c,⟨#[10]⟩,1,by omega,hm0,h.t3,by omega,by omega,by decide,?_,λn=> ?_⟩
     ·rw[hd,Cl.n7 (λr' hr=>by injection hr with hr _;exact h2 hr),Eb hk1,e2];rfl
     ·have h':=h.drewN n;refine Cl.oi g tb c d 3 (by decide) _ ⟨#[10]⟩ 10 _ (Cl.mw hlt) _ h'.p1 h'.p4 h'.p5 (hm3 n) h'.t3 h'.c0 h'.c1 h'.c2 h'.c3 h'.c4 h'.d0 h'.d1 h'.d2 h'.d4 he h1i (by rw[hh];exact Fa.2 (λhr=>by injection hr with hr _;exact h2 hr))
   ·have hd1:s.data.toList.drop (k+1)=[]:=Ad.2 (by have:s.data.toList.length=s.size:=rfl;omega);refine⟨3,c,⟨#[10]⟩,1,by omega,hm0,h.t3,by omega,by omega,by decide,?_,λn=> ?_⟩
    ·rw[Eb hk,e,hc,hd1];rfl
    ·have h':=h.drewN n;exact Cl.nB g tb c d 3 (by decide) _ ⟨#[10]⟩ 10 _ (Cl.mw hlt) _ h'.p1 h'.p4 h'.p5 (hm3 n) h'.t3 h'.c0 h'.c1 h'.c2 h'.c3 h'.c4 h'.d0 h'.d1 h'.d2 h'.d4 (by rw[Cl.m7,hd1];rfl)
def Cl.nv(T:Nat->Prop)(ι:cL)(w:World)(n:Nat):fW T ι w ι (w.drewN n):=⟨⟨λ_ _ h=>h,λ_ h=>h,λ_ _=>rfl⟩,rfl,rfl,rfl,Db _,λ_ _ _ _ _ _=>rfl,λ_ _=> .inl rfl,λ_ _ _=>rfl,λ_ _=>rfl,λ_ h=>h,λ_ _=>rfl⟩
def Cl.Buf.drewN{ι:cL}{w:World}{pb id:Nat}{l:List UInt8}(h:Cl.Buf ι w pb id l)(n:Nat):Cl.Buf ι (w.drewN n) pb id l:=
 ⟨⟨h.1.lt,h.1.inj,h.1.glob.step (Cl.nv Tru ι w n),h.1.xlt⟩,h.2.1,h.2.2.1,h.2.2.2.1,(Zu rfl).1 (((Zu rfl).2 h.2.2.2.2.1).step (Cl.nv (λ_=>False) ι w n) λh=>h),(Zu rfl).1 (((Zu rfl).2 h.2.2.2.2.2).step (Cl.nv (λ_=>False) ι w n) λh=>h)⟩
def Cl.mz{ι ι':cL}{w w':World}(h:fW Tru ι w ι' w')(n:Nat):fW Tru ι w ι' (w'.drewN n):=h.trans (Cl.nv _ _ _ n)
def Cl.nr{c:UInt8}{r:List UInt8}(h:Cl.mp c.toNat=4\/c.toNat=10):Cl.ds (c::r)=c::Cl.ds r:=by
 have h0:c≠0:=by rintro rfl;revert h;decide
 have h12:c≠12:=by rintro rfl;revert h;decide
 have h13:c≠13:=by rintro rfl;revert h;decide
 have b0:(c==0)=false:=Fa.2 h0;have b12:(c==12)=false:=Fa.2 h12;have b13:(c==13)=false:=Fa.2 h13;rw[Cl.ds]
 ·rw[b0,b12,b13];rfl
 ·intro r' h1;exact absurd h1 h13
def Cl.m6 {s:ByteArray}{k la:Nat}{B:List UInt8}(h:k<s.size)(hl:la<=k)(hc:Cl.mp s[k].toNat=4\/s[k].toNat=10)
  (hq:B++(s.data.toList.take k).drop la++Cl.ds (s.data.toList.drop k)=Cl.ds s.data.toList):B++(s.data.toList.take (k+1)).drop la++Cl.ds (s.data.toList.drop (k+1))=Cl.ds s.data.toList:=by
 have hk:k<s.data.toList.length:=h;have e:s.data.toList[k]=s[k]:=rfl;rw[Eb hk,Cl.nr (by rw[e];exact hc)]at hq;rw[<-hq,Jb hk,List.drop_append_of_le_length (by simp;omega)];simp
def Cl.oa {s val:ByteArray}{k la j:Nat}{B:List UInt8}(h:k+j<=s.size)(hl:la<=k)(hv:Cl.ds (s.data.toList.drop k)=val.data.toList++Cl.ds (s.data.toList.drop (k+j)))
  (hq:B++(s.data.toList.take k).drop la++Cl.ds (s.data.toList.drop k)=Cl.ds s.data.toList):
  (B++(s.extract la k).data.toList++val.data.toList)++(s.data.toList.take (k+j)).drop (k+j)++Cl.ds (s.data.toList.drop (k+j))=Cl.ds s.data.toList:=by
 have e1:(s.data.toList.take (k+j)).drop (k+j)=[]:=Ad.2 (by simp;omega);have e2:(s.extract la k).data.toList=(s.data.toList.take k).drop la:=by rw[Lib.extract_eq];simp[List.drop_take]
 rw[e1,e2,Ib,<-hq,hv];simp
def Cl.ox(g:Nat)(w:World)(h1:w.cell? ⟨g,1,none⟩=some (.int .i64 0)):
  Calls Tryz.prog 393 #[.pointer (some ⟨g,0,none⟩), .string ByteArray.empty, .bool false] w λe w'=>e= .returned (.tuple #[.string ⟨#[]⟩, .int .i64 0, .bool false])/\ ∃n,w'=w.drewN n:=
 Cl.oj g w h1
def Cl.oc{s:ByteArray}{la:Nat}{B:List UInt8}(hq:B++(s.data.toList.take s.size).drop la++Cl.ds (s.data.toList.drop s.size)=Cl.ds s.data.toList):
  B++(s.data.toList.take (s.size+1)).drop la++Cl.ds (s.data.toList.drop (s.size+1))=Cl.ds s.data.toList:=by
 have hl:s.data.toList.length=s.size:=rfl;have h1:s.data.toList.drop (s.size+1)=[]:=Ad.2 (by omega);have h2:s.data.toList.take (s.size+1)=s.data.toList:=List.take_of_length_le (by omega);have h3:s.data.toList.drop s.size=[]:=Ad.2 (by omega);have h4:s.data.toList.take s.size=s.data.toList:=List.take_of_length_le (by omega);rw[h3,h4]at hq;rw[h1,h2];exact hq
def Cl.ns{s:ByteArray}{la:Nat}{B:List UInt8}(hq:B++(s.data.toList.take (s.size+1)).drop la++Cl.ds (s.data.toList.drop (s.size+1))=Cl.ds s.data.toList):
  B++s.data.toList.drop la=Cl.ds s.data.toList:=by
 have h1:s.data.toList.drop (s.size+1)=[]:=Ad.2 (by have:s.data.toList.length=s.size:=rfl;omega);have h2:s.data.toList.take (s.size+1)=s.data.toList:=List.take_of_length_le (by have:s.data.toList.length=s.size:=rfl;omega);rw[h1,h2]at hq;simpa [Cl.ds] using hq
def Cl.ws{ι:cL}{id:Nat}(g tb a b c d pb:Nat)(s:ByteArray)(hs:s.size<=4000)(w:World)(hT:Cl.TW w g tb a b c d)(hD: ∀x,x=g\/x=tb\/x=a\/x=b\/x=c\/x=d->fm ι w x)(hB:Cl.Buf ι w pb id []):
  Calls Tryz.prog 391 #[.pointer (some ⟨g,0,none⟩), .iface 392 (.pointer (some ⟨pb,0,none⟩)), .string s] w λe w'=>(∃n:Int,e= .returned (.tuple #[.int .i64 n, .nilIface]))/\ ∃ι' id',Cl.Buf ι' w' pb id' (Cl.ds s.data.toList)/\fW Tru ι w ι' w':=by
 go_enter Tryz.func391,Tryz.ntmps391
 go_wp2_with (go_at_call 392;refine(Cl.py _ _).mono ?_;rintro e w' ⟨rfl,rfl⟩)
 go_loopw [12,11,6,9,7] (λi pm n last er W=>Cl.Inv ι w pb s i pm n last W/\er= .nilIface) (λi _ _ _ _ _=>s.size+1 - (Cl.iOf i).toNat)
 case atStart=>exact⟨⟨0,0,0,ι,id,[],by omega,by omega,by omega,rfl,rfl,rfl,rfl,hB, .same _ _ _,by simp,by simp⟩,rfl⟩
 case round=>
  obtain⟨⟨k,la,N,ι',id',B,k1,k2,k3,rfl,rfl,rfl,rfl,hB',hS',hq,hl⟩,rfl⟩:=hrel;have hT':Cl.TW wr g tb a b c d:=hT.keep λx o hx=>World.cell?_of_block (a:=⟨x,o,none⟩) (hS'.keep x (hD x hx));by_cases hlt:k<s.size
  ·have hb:s[k].toNat<256:=s[k].toNat_lt;have e1:=hT'.p1;have e4:=hT'.p4;have e5:=hT'.p5;have em:=hT'.pm _ hb;by_cases hm:Cl.mp s[k].toNat=4
   ·rw[hm]at em;have HB:=Lib.hid hB';have HS:=Lib.hid hS';have HQ:=Lib.hid hq;have HM:=Lib.hid hm;clear hB' hS' hq hT' hm hB hT;have kk:(k:Int)<=(s.size:Int):=by omega
    have kn:(k:Int)≠(s.size:Int):=by omega
    go_wp2
    go_quiet (fail)
    go_wp2
    refine⟨⟨⟨k+1,la,N,ι',id',B,by omega,by omega,k3,rfl,rfl,rfl,rfl,HB.out.drewN nq,Cl.mz HS.out nq,?_,hl⟩,rfl⟩,by simp[Cl.iOf];omega⟩;exact Cl.m6 hlt k2 (.inl HM.out) HQ.out
   ·by_cases h10:s[k].toNat=10
    ·have e10:=hT'.t1;rw[h10]at em;have HB:=Lib.hid hB';have HS:=Lib.hid hS';have HQ:=Lib.hid hq;have H10:=Lib.hid h10;have em':wr.cell? ⟨g,6+s[k].toNat,none⟩=some (.int .u8 1):=by rw[h10];exact em
     clear hB' hS' hq hT' hm hB hT h10 em;have kk:(k:Int)<=(s.size:Int):=by omega
     have kn:(k:Int)≠(s.size:Int):=by omega
     go_wp2
     go_quiet (fail)
     go_wp2
     refine⟨⟨⟨k+1,la,N,ι',id',B,by omega,by omega,k3,rfl,rfl,rfl,rfl,HB.out.drewN nq,Cl.mz HS.out nq,?_,hl⟩,rfl⟩,by simp[Cl.iOf];omega⟩;exact Cl.m6 hlt k2 (.inr H10.out) HQ.out
    ·obtain⟨m,x,val,j,m4,em',et,j1,j2,vs,hv,hlook⟩:=Cl.pA hT' hlt hm h10;have HB:=Lib.hid hB';have HS:=Lib.hid hS';have HQ:=Lib.hid hq;have HV:=Lib.hid hv;have HL:=Lib.hid hlook;clear hB' hS' hq hT' hm hB hT h10 em hv hlook;have kk:(k:Int)<=(s.size:Int):=by omega
     have kn:(k:Int)≠(s.size:Int):=by omega
     have mn:((m:Int)==4)=false:=Fa.2 (by omega);have jn:((j:Int)==0)=false:=Fa.2 (by omega)
     go_wp2
     go_quiet (fail)
     go_wp2_with (go_at_call 393;refine(HL.out _).mono ?_;rintro e w' ⟨rfl,n2,rfl⟩)
     have kl:(la:Int)<=(k:Int):=by omega
     have hl2:B.length+(s.extract la k).size<=140737488355328:=by simp;omega
     have hna:=Cl.na pb
     go_region_with (go_at_call 403;refine(Cl.n8 (s.extract la k) (HB.out.drewN _) hl2).mono ?_;rintro e w' ⟨rfl,ι2,HB2,HS2⟩)
     have hl3:(B++(s.extract la k).data.toList).length+val.size<=140737488355328:=by have:(s.extract la k).data.toList.length=(s.extract la k).size:=rfl;rw[Ea,this,ByteArray.size_extract];omega
     clear hl2
     go_wp2_with (go_at_call 403;refine(Cl.n8 val HB2 hl3).mono ?_;rintro e w' ⟨rfl,ι3,HB3,HS3⟩)
     have hq:=HQ.out;have hv:=HV.out;have hlen:(s.extract la k).data.toList.length=k - la:=by have:(s.extract la k).data.toList.length=(s.extract la k).size:=rfl;rw[this,ByteArray.size_extract];omega
     refine⟨⟨⟨k+j,k+j,_,ι3,_,_,by omega,by omega,by omega,rfl,rfl,rfl,rfl,HB3,((Cl.mz HS.out _).trans HS2).trans HS3,Cl.oa j2 k2 hv hq,?_⟩,rfl⟩,by simp[Cl.iOf];omega⟩;have hvs:val.data.toList.length=val.size:=rfl;rw[Ea,Ea,hlen,hvs];omega
  ·by_cases hk:k=s.size
   ·subst hk;have e1:=hT'.p1;have HB:=Lib.hid hB';have HS:=Lib.hid hS';have HQ:=Lib.hid hq;clear hB' hS' hq hT' hB hT hlt
    go_wp2_with (go_at_call 393;refine(Cl.ox g _ e1).mono ?_;rintro e w' ⟨rfl,n2,rfl⟩)
    exact⟨⟨⟨s.size+1,la,N,ι',id',B,by omega,by omega,k3,rfl,rfl,rfl,rfl,HB.out.drewN n2,Cl.mz HS.out n2,Cl.oc HQ.out,hl⟩,rfl⟩,by simp[Cl.iOf]⟩
   ·obtain rfl:k=s.size+1:=by omega
    have HB:=Lib.hid hB';have HS:=Lib.hid hS';have HQ:=Lib.hid hq;clear hB' hS' hq hT' hB hT hlt hk;by_cases hla:la=s.size
    ·subst hla
     go_wp2
     go_ret2;have hq:=Cl.ns HQ.out;have h3:s.data.toList.drop s.size=[]:=Ad.2 (Db _);rw[h3,Ib]at hq;rw[<-hq];exact⟨⟨N,rfl⟩,ι',id',HB.out,HS.out⟩
    ·have kl:(la:Int)≠(s.size:Int):=by omega
     have k4:(la:Int)<=(s.size:Int):=by omega
     go_wp2
     have hl2:B.length+(s.extract la s.size).size<=140737488355328:=by simp;omega
     have hna:=Cl.na pb
     go_region_with (go_at_call 403;refine(Cl.n8 (s.extract la s.size) (HB.out.drewN _) hl2).mono ?_;rintro e w' ⟨rfl,ι2,HB2,HS2⟩)
     go_wp2
     go_ret2;have hq:=Cl.ns HQ.out;rw[Cl.m8,hq]at HB2;exact⟨⟨_,rfl⟩,ι2,_,HB2,(Cl.mz HS.out _).trans HS2⟩
structure Cl.Gr (w w':World):Prop where
 os:w'.os=w.os
 tape:w'.tape=w.tape
 output:w'.output=w.output
 size:w.heap.size<=w'.heap.size
 old: ∀b,b<w.heap.size->w'.heap[b]? =w.heap[b]?
def Cl.oe {P:Program}{w:World}{ops:Array Oper}{rest:List Oper}{o:Oper}{a:Act}{Q:Exit->Act->World->Prop}(hgd:o.guard=none)(t:TypeId)(l c:Operand)
  (ho:o.op= .makeSlice t l c) {vl vc v:Value} {w':World} (hl:a.eval l=vl) (hc:a.eval c=vc) (hr:(Instr.makeSlice t vl vc).run P w= .ok v w')
  (h:wpList P ops Q rest (a.put o.dst v) w'):wpList P ops Q (o::rest) a w:=
 wpList_plain hgd λK hK=>by unfold Oper.wp execOp;simp only[ho,Sem.run_bind,Sem.run_pure,Result.andThen_ok,hl,hc,hr];exact hK _ _ h
def Cl.Gb(w:World):Prop:=Glob (λb=>b<w.heap.size) w
def Cl.Gb.gr{w w':World}(h:Cl.Gb w)(g:Cl.Gr w w'):Cl.Gb w':=λq hq=>by obtain⟨h1,o,h2,h3⟩:=h q hq;exact⟨Mc h1 g.size,o,by rw[g.old _ h1];exact h2,h3⟩
abbrev Cl.noO:cL:=⟨λ_=> .free,λ_=> .no⟩
def Cl.pj(w:World)(hg:Cl.Gb w):Wf Cl.noO w:=⟨λi b k n e=>(by cases e),λi j b k k' n n' e=>(by cases e),λq hq=>let⟨h1,h2⟩:=hg q hq;⟨⟨h1,rfl,λi k n e=>by cases e⟩,h2⟩,λb h=>absurd rfl h⟩
def Cl.slice{ι:cL}{w:World}{id:Nat}{l:List UInt8}{v:Value}(hh:Sg Tryz.prog ι w id (.sl 5 l:EO VT.I.C))(hv:cx (I:=VT.I) ι w (.c (.own id)) v): ∃a n c,v= .slice a n c:=by obtain⟨b,e,_⟩:=hh;obtain⟨a,c,h⟩:=Sv e (m:=none) hv.2;exact⟨_,_,_,h⟩
def Cl.Buf.read{ι:cL}{w:World}{pb id:Nat}{l:List UInt8}(h:Cl.Buf ι w pb id l):
  ∃a n c,w.cell? ⟨pb,0,none⟩=some (.slice a n c)/\(convert 391 9 (.slice a n c)).run Tryz.prog w= .ok (.string ⟨l.toArray⟩) w:=by
 obtain⟨W,h0,hf,hp,g0,g1⟩:=h;obtain⟨b,cur,fr,_,e1,hh,hfr,_,_,hc,hat⟩:=g0.row (i:=0) rfl;rw[hp]at e1;cases e1;obtain⟨v,hcell,hv⟩:=hat 0 (.own id) rfl;simp only[Uf,Od]at hcell;obtain⟨a,n,c,rfl⟩:=Cl.slice g1 hv;refine⟨a,n,c,hcell,?_⟩;have hr:=TG (I:=VT.I) (e:=5) (l:=l) (bs:=l) VT.ipOK Cl.sz5 rfl (gx.all g1 hv.2);simp only[convert,run_underlying (mh Cl.oy),run_underlying (Yn Cl.kd9),run_underlying (lu Cl.kd5),Sem.run_bind,Result.andThen_ok];exact hr
def Cl.mkB(n:Nat)(hn:n<=4000):XC (I:=VT.I) ([391,5].map λt=>(t,ti Tryz.prog t)) 1 391 (.c (.int .i64 0)) (.c (.int .i64 n)) [] (λres=>some res)=some ⟨.v (.c (.own 1)),[(1, .sl 5 [])],[],1⟩:=by
 have e0:(TT.at ([391,5].map λt=>(t,ti Tryz.prog t)) 391).kd= .sl 5:=by kernel_rfl
 have e1:(Nat.ble 1 (TT.at ([391,5].map λt=>(t,ti Tryz.prog t)) 5).sz&&(TT.at ([391,5].map λt=>(t,ti Tryz.prog t)) 5).zok)=true:=by kernel_rfl
 have e2:(TT.at ([391,5].map λt=>(t,ti Tryz.prog t)) 5).by_=1:=by kernel_rfl
 have e3:VT.I.made 5 (ep (TT.at ([391,5].map λt=>(t,ti Tryz.prog t)) 5).zero)=some (0:UInt8):=by kernel_rfl
 have h2:(0:Int)<=(n:Int):=by omega
 have h3:(n:Int)<=140737488355328:=by omega
 have h4:(n:Int)<=9223372036854775807:=by omega
 unfold XC;rw[e0];simp only[e1,e2,e3,Ca,ck,h2,h3,h4,decide_true,Nb,Int.mul_one,Int.natCast_one,Int.toNat_zero,List.replicate_zero,Int.le_refl];rfl
def Cl.start{w w1:World}{a':Option Addr}{n' c':Nat}{ι1:cL}(W:Wf ι1 w1)(hh:Sg Tryz.prog ι1 w1 1 (.sl 5 []:EO VT.I.C))(hv:cx (I:=VT.I) ι1 w1 (.c (.own 1)) (.slice a' n' c'))(hf: ∀j,j<1\/2<=j->ι1 j= .free)(hs:fW Tru Cl.noO w ι1 w1):
  ∃ι2,Cl.Buf ι2 (w1.alloc (.cells #[.slice a' n' c'] 391)) w1.heap.size 1 []/\fW Tru Cl.noO w ι2 (w1.alloc (.cells #[.slice a' n' c'] 391)):=by
 have g:i7 w1 (w1.alloc (.cells #[.slice a' n' c'] 391)) (.cells #[.slice a' n' c'] 391 (0,0)):=⟨rfl,rfl,rfl,rfl⟩;have hc:Qf ι1 w1 1 [[(.own 1:EV VT.I.C)]] #[.slice a' n' c']:=⟨by simp,λi row j x hi hj=>by
  obtain rfl:i=0:=(by have:=(Ua.1 hi).1;simpa using this);cases hi;obtain rfl:j=0:=(by have:=(Ua.1 hj).1;simpa using this);cases hj;exact⟨_,rfl,hv⟩⟩
 obtain⟨S,W2⟩:=mR (ι':=ju ι1 0 (.live (some w1.heap.size) 1 1)) (T:=λ_=>False) (d:=λ_=>False) (B:=λ_=>False) W (hf 0 (by omega)) g.wld rfl (zg0 ..) (λi hi=> .inl (ik _ _ _ hi)) (λ_ h=>h) (λb' e=>by cases e;exact .inl ⟨Db _,by rw[g.size];omega⟩) (λ_ h=>h.elim);refine⟨_,⟨W2,by omega,λj hj=> ?_,zg0 ..,⟨_,zg0 ..,?_⟩,(Zu rfl).1 (((Zu rfl).2 hh).step S λh=>h)⟩,hs.trans (S.wk λ_ h=>h.elim)⟩
 ·rw[ik _ _ _ (by omega)];exact hf j (by omega)
 ·exact hc.blk S g.new ⟨.inl rfl, .inl rfl⟩ (Db _)
def Cl.px{ι':cL}{w w':World}(h:fW Tru Cl.noO w ι' w'):Cl.Gr w w':=
 ⟨h.os,h.tape,h.output,h.size,λb hb=>h.keep b ⟨hb,rfl,λ_ _ _ e=>by cases e⟩⟩
def Cl.pH(g tb a b c d:Nat)(s:ByteArray)(hs:s.size<=4000)(w:World)(hg:Cl.Gb w)(hT:Cl.TW w g tb a b c d):
  Calls Tryz.prog 390 #[.pointer (some ⟨g,0,none⟩), .string s] w λe w'=>e= .returned (.string ⟨(Cl.ds s.data.toList).toArray⟩)/\Cl.Gr w w':=by
 obtain⟨res,hres,_,hmk⟩:=zFA (I:=VT.I) (P:=Tryz.prog) (h:=λ_=>none) VT.ipOK (cZ (l:=[391,5]) (fk:=[]) (by simp)) (λ_=>rfl) (Cl.mkB s.size hs);cases hres;obtain⟨v1,w1,hmake,ι1,s1,r1,p1,u1,f1⟩:=hmk rfl Cl.noO w _ (Cl.pj w hg) ⟨λ_ _ _ h=>(by cases h),λ_ _ _ h=>(by cases h)⟩ (λ_ _=>rfl) ⟨_,_,Ci _ _,Ci _ _,rfl⟩;have u1:Sg Tryz.prog ι1 w1 1 (.sl 5 []:EO VT.I.C):=(Zu rfl).1 (u1 (1,_) (by simp));obtain⟨a',n',c',rfl⟩:=Cl.slice u1 p1;obtain⟨ι2,hB2,hS2⟩:=Cl.start (w:=w) r1 u1 p1 (λj hj=>f1 j rfl hj) (s1.wk λ_ _=>trivial);have hlt: ∀x o v,w.cell? ⟨x,o,none⟩=some v->x<w.heap.size:=λx o v h=>World.block_lt_of_cell? w _ h;have hin: ∀x,x=g\/x=tb\/x=a\/x=b\/x=c\/x=d->x<w.heap.size:=by
  rintro x (rfl|rfl|rfl|rfl|rfl|rfl)
  ·exact hlt _ _ _ hT.p1
  ·exact hlt _ _ _ hT.t0
  ·exact hlt _ _ _ hT.a0
  ·exact hlt _ _ _ hT.b0
  ·exact hlt _ _ _ hT.c0
  ·exact hlt _ _ _ hT.d0
 have hD: ∀x,x=g\/x=tb\/x=a\/x=b\/x=c\/x=d->fm Cl.noO w x:=λx hx=>⟨hin x hx,rfl,λ_ _ _ e=>by cases e⟩;have hT2:Cl.TW (w1.alloc (.cells #[.slice a' n' c'] 391)) g tb a b c d:=hT.keep λx o hx=>World.cell?_of_block (a:=⟨x,o,none⟩) (hS2.keep x (hD x hx));have HM:=Lib.hid hmake;have HW:=Lib.hid (Cl.ws g tb a b c d _ s hs _ hT2 (λx hx=>hS2.dom x (hD x hx)) hB2);have HS:=Lib.hid hS2;clear hg r1 p1 s1 f1 u1 hmk hT hmake hT2 hB2 hS2 hD hin hlt;go_enter Tryz.func390,Tryz.ntmps390
 go_wp2_with (at_make;refine Cl.oe rfl _ _ _ rfl (by rfl) (by rfl) HM.out ?_)
 refine HW.out.mono ?_;rintro e w' ⟨⟨n,rfl⟩,ι3,id3,HB3,HS3⟩;obtain⟨a3,n3,c3,hcell3,hconv⟩:=HB3.read
 go_wp2
 go_ret;exact⟨rfl,Cl.px (HS.out.trans HS3)⟩
end Go.Proofs
