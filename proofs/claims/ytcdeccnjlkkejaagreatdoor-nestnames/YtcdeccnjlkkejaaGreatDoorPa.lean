/- nest.Parse, walked on logical values: types, small facts. -/
import Derived.Test.YtcdeccnjlkkejaaGreatDoorLf
import Derived.Test.YtcdeccnjlkkejaaGreatDoorIp
import Derived.Test.YtcdeccnjlkkejaaGreatDoorTy
import Derived.Test.YtcdeccnjlkkejaaGreatDoorTx
import Derived.Test.YtcdeccnjlkkejaaGreatDoorGa
import Derived.Test.YtcdeccnjlkkejaaGreatDoorCd
noncomputable section
set_option linter.unusedSimpArgs false
set_option linter.unusedVariables false
namespace Go.Lv.Par
open Go.Proofs Go.Lv.VT
set_option maxRecDepth 100000
abbrev P:=Tryz.prog
theorem k22:kdOf P 22= .sl 44:=by kernel_rfl
theorem k23:kdOf P 23= .sl 49:=by kernel_rfl
theorem k52:kdOf P 52= .sl 23:=by kernel_rfl
theorem k44:kdOf P 44= .st [(0,5),(1,9),(2,2),(3,9),(4,4)]:=by kernel_rfl
theorem k49:kdOf P 49= .st [(0,44),(5,23)]:=by kernel_rfl
theorem k5:kdOf P 5= .int .u8:=by kernel_rfl
theorem k4:kdOf P 4= .bool:=by kernel_rfl
theorem c22:P.cellsOf 22=1:=by kernel_rfl
theorem c23:P.cellsOf 23=1:=by kernel_rfl
theorem c52:P.cellsOf 52=1:=by kernel_rfl
theorem c44:P.cellsOf 44=5:=by kernel_rfl
theorem c49:P.cellsOf 49=6:=by kernel_rfl
theorem c5:P.cellsOf 5=1:=by kernel_rfl
theorem c4:P.cellsOf 4=1:=by kernel_rfl
theorem MS:(ti P 22).zero=[.slice none 0 0]:=by kernel_rfl
theorem uz:(ti P 23).zero=[.slice none 0 0]:=by kernel_rfl
theorem KS:(ti P 52).zero=[.slice none 0 0]:=by kernel_rfl
theorem rz:(ti P 44).zero=[.int .u8 0, .string ⟨#[]⟩, .int .i64 0, .string ⟨#[]⟩, .bool false]:=by kernel_rfl
theorem Eh:(ti P 49).zero=[.int .u8 0, .string ⟨#[]⟩, .int .i64 0, .string ⟨#[]⟩, .bool false, .slice none 0 0]:=by kernel_rfl
theorem z4:(ti P 4).zero=[.bool false]:=by kernel_rfl
theorem o22:(ti P 22).zok=true:=by kernel_rfl
theorem o23:(ti P 23).zok=true:=by kernel_rfl
theorem o52:(ti P 52).zok=true:=by kernel_rfl
theorem o44:(ti P 44).zok=true:=by kernel_rfl
theorem o49:(ti P 49).zok=true:=by kernel_rfl
theorem o4:(ti P 4).zok=true:=by kernel_rfl
theorem b49:(ti P 49).by_=80:=by kernel_rfl
theorem b44:(ti P 44).by_=56:=by kernel_rfl
theorem b23:(ti P 23).by_=24:=by kernel_rfl
def tkC(t:zf):List CV:=(QU t).map .p
def vlC(v:zg):List CV:=(zw v).map .p
theorem Rq(t:zf)(l:List zg):vlC ⟨t,l⟩=tkC t++[.p (.sl (l.map zw))]:=by unfold vlC;rw[wP];rfl
theorem Tn(t:zf):(tkC t).length=5:=rfl
theorem uA(v:zg):(vlC v).length=6:=by obtain⟨t,l⟩:=v;rw[Rq];rfl
abbrev nilC:CV:= .p (.at (.slice none 0 0))
section
variable {E:Operand->LV} {get:Get} {nx:Nat}
theorem bld2{x y:Operand}{xs:List CV}{c:CV}(hx:E x= .v (.agg xs))(hl:xs.length=5)(hy:E y= .v (.c c)):Op1 P E get nx (.build 49 #[(0,x),(1,y)]) (.v (.agg (xs++[c]))) [] [] 0:=by
 refine⟨True/\(ti P 49).zok=true/\ ∀f∈([(0,44),(5,23)]:List (Nat×TypeId)),kdOf P f.2≠ .bad,?_,⟨trivial,o49,fun f hf=> ?_⟩,rfl⟩
 ·match xs,hl with
  |[a1,a2,a3,a4,a5],_=> simp only[opR,Ih,Cg,hx,hy,k49,TV.cells,Eh];simp only[yf,Uc,List.getElem?_cons_succ,Db,c44,c23];rfl
 ·rcases Ra.1 hf with rfl|hf
  ·rw[k44];simp
  ·rcases Ra.1 hf with rfl|hf
   ·rw[k23];simp
   ·cases hf
theorem bld1{x:Operand}{xs:List CV}(hx:E x= .v (.agg xs))(hl:xs.length=5):Op1 P E get nx (.build 49 #[(0,x)]) (.v (.agg (xs++[nilC]))) [] [] 0:=by
 refine⟨True/\(ti P 49).zok=true/\ ∀f∈([(0,44),(5,23)]:List (Nat×TypeId)),kdOf P f.2≠ .bad,?_,⟨trivial,o49,fun f hf=> ?_⟩,rfl⟩
 ·match xs,hl with
  |[a1,a2,a3,a4,a5],_=> simp only[opR,Ih,Cg,hx,k49,TV.cells,Eh];simp only[yf,Uc,Db,c44];rfl
 ·rcases Ra.1 hf with rfl|hf
  ·rw[k44];simp
  ·rcases Ra.1 hf with rfl|hf
   ·rw[k23];simp
   ·cases hf
end
theorem QF(k:Int):Zh k=some (zI k):=by
 unfold Zh zI;by_cases h1:k=19
 ·subst h1;rfl
 by_cases h2:k=21
 ·subst h2;rfl
 by_cases h3:k=2
 ·subst h3;rfl
 by_cases h4:k=23
 ·subst h4;rfl
 have e1:(k==19)=false:=Ac.2 h1;have e2:(k==21)=false:=Ac.2 h2;have e3:(k==2)=false:=Ac.2 h3;have e4:(k==23)=false:=Ac.2 h4;simp only[e1,e2,e3,e4,Ed,zcY,h1,h2,h3,h4,if_false,or_self]
theorem okC{con:Con I}{A:Env0 I}{exS:StSh}(f:Go.Func)(hS: ∀c∈A.S,zm Tryz.prog c)(hf:Tryz.prog.funcs[con.f]? =some f)(h:chk con A f=true)(he: ∀x,evF2 A T FK f.ntmps (rsl f) (body f) con exS x=con.F x):zm Tryz.prog con:=
 okC0 mixed ipOK tok rfl rfl hS hf h he
def Qm(F:Int->Option Int):Con I:=⟨61,⟨[.int .u8],[]⟩,[],⟨[.int .u8],[]⟩,0,F⟩
theorem QH:zm Tryz.prog (Qm Zh):=
 okC (A:=⟨[],[],[],0,[],[(7,⟨[6],⟨[.bool],[]⟩,[0],[],[],0,[],⟨[],[]⟩,[]⟩)],[]⟩) (exS:=⟨[.int .u8],[]⟩) Tryz.f61 zR (by kernel_rfl) (by kernel_rfl) fun x=>by kernel_rfl
theorem VE(k:Int)(nx:Nat):zbA P 61 [.c (.p (.at (.int .u8 k)))] [] nx 0 (.v (.c (.p (.at (.int .u8 (zI k)))))) []:=
 QH.ok (k:Int) (zI k:Int) (QF k) (fun i=>nx+i) nx (fun i j h=>absurd h (Ee _)) (fun i h=>absurd h (Ee _)) (fun j=>congrArg (nx+ ·) (Yc j))
theorem w64s{n:Int}(h1: -9223372036854775808<=n)(h2:n<=9223372036854775807):IntKind.i64.wrap n=n:=Sj h1 h2
def z6:List CV:=[.p (.at (.int .u8 0)), .p (.str []), .p (.at (.int .i64 0)), .p (.str []), .p (.at (.bool false)),nilC]
theorem vG:Qu (ti P 49).zero=z6:=by rw[Eh];rfl
section
variable {aO aL idO idL k M:Nat} {RL RO:List (List CV)} {o:zf} {c1:CV} {v1 v2:List zg} {g:Get} {Q:Post}
theorem pI (hk:k<=16) (hL:g aL=some ⟨52,1,[[.osl idL 0 (k+2)]],none⟩) (hO:g aO=some ⟨22,1,[[.osl idO 0 (k+1)]],none⟩) (hIL:g idL=some ⟨23,1,RL,none⟩) (hIO:g idO=some ⟨44,5,RO,none⟩)
  (hr1:RL[k+1]? =some [.p (.sl (v2.map zw))]) (hr2:RO[k]? =some (tkC o)) (hM:aL<M/\aO<M/\idL<M/\idO<M) {c:Code}
  (h: ∀e,look e 0= .v (.c (.optr aO 0 0))->look e 1= .v (.c (.optr aL 0 0))->look e 2= .v (.c (.p (.at (.int .i64 k))))->look e 3= .v (.c (.optr M 0 0))->
   SW P 46 c Q e ⟨M+1,upd (upd (upd (upd g [(M,some ⟨49,6,[z6],none⟩)]) [(M,some ⟨49,6,[vlC ⟨o,v2⟩],none⟩)]) [(aL,some ⟨52,1,[[.osl idL 0 (k+1)]],none⟩)]) [(aO,some ⟨22,1,[[.osl idO 0 k]],none⟩)]⟩):
  SW P 46 (match Tryz.f60.body with|some (.seq r0 (.seq r1 (.seq r2 _)))=> .seq r0 (.seq r1 (.seq r2 c))|_=> .skip) Q [(0, .v (.c (.optr aO 0 0))),(1, .v (.c (.optr aL 0 0)))] ⟨M,g⟩:=by
 have n1:aO≠aL:=at1 hO hL rfl;have n2:aO≠idO:=at1 hO hIO rfl;have n3:aO≠idL:=at1 hO hIL rfl;have n4:aL≠idO:=at1 hL hIO rfl;have n5:aL≠idL:=at1 hL hIL rfl;have n6:idO≠idL:=at1 hIO hIL rfl;obtain⟨m1,m2,m3,m4⟩:=hM;have a1:=Sa m1;have a2:=Sa m2;have a3:=Sa m3;have a4:=Sa m4;have e0:IntKind.i64.wrap (((k+1:Nat):Int) - 1)=(k:Int):=by rw[w64s (by omega) (by omega)];omega
 have e1:IntKind.i64.wrap ((k:Int)+1)=((k+1:Nat):Int):=by rw[w64s (by omega) (by omega)];omega
 have q1:k+1<RL.length:=(Ba.1 hr1).1;have q2:k<RO.length:=(Ba.1 hr2).1;refine SW.seq (SW.reg (fun|0=>aO|1=>idO|n=>M+n) [([0],[]),([1],[]),([],[]),([],[])] ?_);refine Walk.n (Op1.load (.inl rfl) hO rfl rfl k22) rfl rfl rfl rfl rfl ?_;refine Walk.n (Op1.lenO rfl rfl rfl (.inl rfl) hIO k22) rfl rfl rfl rfl rfl ?_;refine Walk.n (Op1.bin (val:= .v (.c (.p (.at (.int .i64 k))))) (.inl rfl) (.inl rfl) (fun _ _=>by rw[<-e0];rfl)) rfl rfl rfl rfl rfl ?_;refine Walk.n (Op1.assign _) rfl rfl rfl rfl rfl ?_;refine Walk.end ?_;refine SW.seq (SW.regD mixed (fun i=>[aO,aL,idO,idL,M].getD i 0) 5 [([0],[]),([],[]),([2],[]),([2],[]),([1],[]),([],[]),([],[]),([3],[]),([3],[]),([],[]),([],[4]),([4],[4])] (by decide)
  (Xg (l:=[aO,aL,idO,idL,M]) (by simp only[Rc,Ra,Ec,ic,jd,Pf,Cc,Ce];omega)) (by kernel_rfl) (by kernel_rfl) ?_)
 refine Walk.n (Op1.load (.inl rfl) hO rfl rfl k22) rfl rfl rfl rfl rfl ?_;refine Walk.n (Op1.move _) rfl rfl rfl rfl rfl ?_;refine Walk.n (Op1.idxO (.inl rfl) (.inl rfl) hIO k22 c44 rfl (by decide) ⟨by omega,by omega⟩) rfl rfl rfl rfl rfl ?_;refine Walk.n (Op1.loadA (cs:=tkC o) (.inl rfl) hIO (by rw[jb,Yc];exact hr2) k44 c44 (by rw[Tn];omega)) rfl rfl rfl rfl rfl ?_;refine Walk.n (Op1.load (.inl rfl) hL rfl rfl k52) rfl rfl rfl rfl rfl ?_;refine Walk.n (Op1.move _) rfl rfl rfl rfl rfl ?_;refine Walk.n (Op1.bin (val:= .v (.c (.p (.at (.int .i64 ((k+1:Nat):Int)))))) (.inl rfl) (.inl rfl) (fun _ _=>by rw[<-e1];rfl)) rfl rfl rfl rfl rfl ?_;refine Walk.n (Op1.idxO (.inl rfl) (.inl rfl) hIL k52 c23 rfl (by decide) ⟨by omega,by omega⟩) rfl rfl rfl rfl rfl ?_;refine Walk.n (Op1.load (cs:=[.p (.sl (v2.map zw))]) (.inl rfl) hIL (by rw[jb,Yc];exact hr1) rfl k23) rfl rfl rfl rfl rfl ?_;refine Walk.n (bld2 (xs:=tkC o) rfl rfl rfl) rfl rfl rfl rfl rfl ?_;refine Walk.n (Op1.alloc vG c49 o49) rfl rfl rfl rfl rfl ?_;refine Walk.n0 (Op1.store (cs:=z6) (.inl rfl) (.inl rfl) upS rfl k49 c49 rfl (Ma 6)) rfl rfl rfl rfl ?_;refine Walk.end ?_;refine SW.seq (SW.regD mixed (fun i=>[aO,aL,idO,idL].getD i 0) 4 [([1],[]),([],[]),([],[]),([3],[]),([0],[]),([],[]),([2],[]),([1],[1]),([0],[0])] (by decide)
  (Xg (l:=[aO,aL,idO,idL]) (by simp only[Rc,Ra,Ec,ic,jd,Pf,Cc,Ce];omega)) (by kernel_rfl) (by kernel_rfl) ?_)
 refine Walk.n (Op1.load (.inl rfl) (upK (upK hL a1) a1) rfl rfl k52) rfl rfl rfl rfl rfl ?_;refine Walk.n (Op1.move _) rfl rfl rfl rfl rfl ?_;refine Walk.n (Op1.bin (val:= .v (.c (.p (.at (.int .i64 ((k+1:Nat):Int)))))) (.inl rfl) (.inl rfl) (fun _ _=>by rw[<-e1];rfl)) rfl rfl rfl rfl rfl ?_;refine Walk.n (Op1.cutO rfl rfl (upK (upK hIL a3) a3) k52 c23 (by decide) rfl ⟨by omega,by omega⟩) rfl rfl rfl rfl rfl ?_;refine Walk.n (Op1.load (.inl rfl) (upK (upK hO a2) a2) rfl rfl k22) rfl rfl rfl rfl rfl ?_;refine Walk.n (Op1.move _) rfl rfl rfl rfl rfl ?_;refine Walk.n (Op1.cutO rfl rfl (upK (upK hIO a4) a4) k22 c44 (by decide) rfl ⟨by omega,by omega⟩) rfl rfl rfl rfl rfl ?_;refine Walk.n0 (Op1.store (.inl rfl) (.inl rfl) (upK (upK hL a1) a1) rfl k52 c52 rfl (Ma 1)) rfl rfl rfl rfl ?_;refine Walk.n0 (Op1.store (.inl rfl) (.inl rfl) (upK (upK (upK hO a2) a2) n1) rfl k22 c22 rfl (Ma 1)) rfl rfl rfl rfl ?_;refine Walk.end ?_;have h4:vlC ⟨o,v2⟩=z6.take 0++(tkC o++[.p (.sl (v2.map zw))])++z6.drop (0+6):=by rw[Rq];rfl
 revert h;rw[h4];intro h;exact h _ rfl rfl rfl rfl
end
theorem SW.condB{nt:Nat}{c:Operand}{x y:Code}{Q:Post}{e:Env}{lh:LH}{b:Bool}(hc:opd e c= .v (.c (.p (.at (.bool b)))))(h1:b=true->SW P nt x Q e lh)(h2:b=false->SW P nt y Q e lh):SW P nt (.cond c x y) Q e lh:=
 SW.cond (b:=b) (fun ι a w hE=>by have:=zA hE c;rw[hc]at this;exact Wp (t:= .c (.p (.at (.bool b)))) rfl this) h1 h2
def Lst(g:Get)(c:CV)(v:List zg):Prop:=(c=nilC/\v=[])\/ ∃id,c= .osl id 0 v.length/\g id=some ⟨49,6,v.map vlC,none⟩
theorem sI{α:Type}(l:List α)(x y:α):(l++[x]).set l.length y=l++[y]:=by rw[List.set_append_right _ _ (Ma _),Nat.sub_self];rfl
section
variable {aL idL k M N:Nat} {RL:List (List CV)} {x:zg} {c1:CV} {v1:List zg} {G:Get} {Q:Post} {e:Env}
theorem opN'{nt:Nat}{ops:List Oper}{o:Oper}{s:TS}{val:LV}{rd:List Nat}{up:List (Nat×Option OB)}{k n:Nat}(h:Op1 P (opd s.e) s.get s.next o.op val rd up k)(hg:o.guard=none)(hd: ∀d,o.dst=some d->d<nt)(hn:n=s.next):
  OpOK P nt ops o ⟨none,val,up,rd,n,k⟩ s:=by subst hn;exact opN h hg hd
theorem stN{o:Oper}{val:LV}{up:List (Nat×Option OB)}{rd:List Nat}{nx k:Nat}{e:Env}{g:Get}{n:Nat}(h:o.dst=none):zO o ⟨none,val,up,rd,nx,k⟩ ⟨e,g,n⟩=⟨e,upd g up,n+k⟩:=by unfold zO;rw[h];rfl
theorem stS{o:Oper}{d:Nat}{val:LV}{up:List (Nat×Option OB)}{rd:List Nat}{nx k:Nat}{e:Env}{g:Get}{n:Nat}(h:o.dst=some d):zO o ⟨none,val,up,rd,nx,k⟩ ⟨e,g,n⟩=⟨(d,val)::e,upd g up,n+k⟩:=by unfold zO;rw[h];rfl
theorem anyR {tb tl:Nat} {o0 o1 o2 o3:Oper} {id nt:Nat} {Q:Post} {e:Env} {G:Get} {N:Nat} (d0:direct o0=[]) (d1:direct o1=[0]) (d2:direct o2=[0]) (d3:direct o3=[0,0,1,2])
  (p0:o0.op= .alloc 4/\o0.dst=some tb/\o0.guard=none) (p1:o1.op= .store 4 (.tmp tb) (.const (.bool true))/\o1.dst=none/\o1.guard=none) (p2:o2.op= .store 4 (.tmp tb) (.const (.bool false))/\o2.dst=none/\o2.guard=none)
  (p3:o3.op= .load 4 (.tmp tb)/\o3.dst=some tl/\o3.guard=none) (hb:tb<nt/\tl<nt)
  (h: ∀(b:Bool) (get':Get),(∀i,i<N->get' i=G i)->Q .normal ((tl, .v (.c (.p (.at (.bool b)))))::(tb, .v (.c (.optr N 0 0)))::e) ⟨N+1,get'⟩):SW P nt (.region id #[o0,o1,o2,o3] true) Q e ⟨N,G⟩:=by
 obtain⟨p00,p01,p02⟩:=p0;obtain⟨p10,p11,p12⟩:=p1;obtain⟨p20,p21,p22⟩:=p2;obtain⟨p30,p31,p32⟩:=p3;have ha: ∀(E:Operand->LV) (g:Get) (n:Nat),Op1 P E g n o0.op (.v (.c (.optr n 0 0))) [] [(n,some ⟨4,1,[[.p (.at (.bool false))]],none⟩)] 1:=fun E g n=>by rw[p00];exact Op1.alloc (by rw[z4];rfl) c4 o4
 have hst: ∀(b:Bool) (E:Operand->LV) (g:Get) (n:Nat) (r:List CV),E (.tmp tb)= .v (.c (.optr N 0 0))->E (.const (.bool b))= .v (.c (.p (.at (.bool b))))->r.length=1->g N=some ⟨4,1,[r],none⟩->Op1 P E g n (.store 4 (.tmp tb) (.const (.bool b))) .any [N] [(N,some ⟨4,1,[[.p (.at (.bool b))]],none⟩)] 0:=fun b E g n r h1 h2 hr h3=>by
  have:=Op1.store (P:=P) (nx:=n) (t:=4) (cs:=r) (n:=1) (.inl h1) (.inl h2) h3 rfl k4 c4 rfl (by omega)
  match r,hr with
  |[r0],_=>exact this
 have hld: ∀(b:Bool) (E:Operand->LV) (g:Get) (n:Nat),E (.tmp tb)= .v (.c (.optr N 0 0))->g N=some ⟨4,1,[[.p (.at (.bool b))]],none⟩->Op1 P E g n o3.op (.v (.c (.p (.at (.bool b))))) [N] [] 0:=fun b E g n h1 h3=>by rw[p30];exact Op1.load (.inl h1) h3 rfl rfl k4
 have dN: ∀{o:Oper},o.dst=none-> ∀d,o.dst=some d->d<nt:=fun h d hd=>by rw[h]at hd;cases hd
 have dS: ∀{o:Oper} {t:Nat},o.dst=some t->t<nt-> ∀d,o.dst=some d->d<nt:=fun h ht d hd=>by rw[h]at hd;cases hd;exact ht
 have lk0:look ((tb, .v (.c (.optr N 0 0)))::e) tb= .v (.c (.optr N 0 0)):=Va rfl;refine SW.anyBool mixed d0 d1 d2 d3 (lh:=⟨N,G⟩) (opN (ha _ _ _) p02 (dS p01 hb.1))
  (r1:=⟨none, .any,[(N,some ⟨4,1,[[.p (.at (.bool true))]],none⟩)],[N],N+1,0⟩) (r2:=⟨none, .any,[(N,some ⟨4,1,[[.p (.at (.bool false))]],none⟩)],[N],N+1,0⟩) (r3:=⟨none, .v (.c (.p (.at (.bool false)))),[],[N],N+1,0⟩)
  (r2':=⟨none, .any,[(N,some ⟨4,1,[[.p (.at (.bool false))]],none⟩)],[N],N+1,0⟩) (r1':=⟨none, .any,[(N,some ⟨4,1,[[.p (.at (.bool true))]],none⟩)],[N],N+1,0⟩) (r3':=⟨none, .v (.c (.p (.at (.bool true)))),[],[N],N+1,0⟩) ?_ ?_ ?_ ?_ ?_ ?_ ?_ ?_
 all_goals rw[stS p01]
 ·(refine opN' ?_ p12 (dN p11) rfl;rw[p10];exact hst true _ _ _ _ lk0 rfl rfl upS)
 ·rw[stN p11]
  (refine opN' ?_ p22 (dN p21) rfl;rw[p20];exact hst false _ _ _ _ lk0 rfl rfl upS)
 ·rw[stN p11,stN p21]
  (refine opN' ?_ p32 (dS p31 hb.2) rfl;exact hld false _ _ _ lk0 upS)
 ·(refine opN' ?_ p22 (dN p21) rfl;rw[p20];exact hst false _ _ _ _ lk0 rfl rfl upS)
 ·rw[stN p21]
  (refine opN' ?_ p12 (dN p11) rfl;rw[p10];exact hst true _ _ _ _ lk0 rfl rfl upS)
 ·rw[stN p21,stN p11]
  (refine opN' ?_ p32 (dS p31 hb.2) rfl;exact hld true _ _ _ lk0 upS)
 ·rw[stN p11,stN p21,stS p31];exact h false _ fun i hi=>upK (upK (upK rfl (Sa hi)) (Sa hi)) (Sa hi)
 ·rw[stN p21,stN p11,stS p31];exact h true _ fun i hi=>upK (upK (upK rfl (Sa hi)) (Sa hi)) (Sa hi)
end
theorem Xf{t j:Nat}{x:LV}{e:Env}(h:t≠j):look ((j,x)::e) t=look e t:=Oa h
theorem Yu{e:Env}:opd e (.const (.agg #[.int .u8 0, .string ⟨#[]⟩, .int .i64 0, .string ⟨#[]⟩, .bool false, .slice none 0 0]))= .v (.agg z6):=by simp only[opd,Ni];rw[Va (by decide+kernel)];rfl
theorem EB(v:List zg)(x y:List CV):(v.map vlC++[x]).set v.length y=v.map vlC++[y]:=by
 have:=sI (v.map vlC) x y
 rwa [Ga]at this
theorem NC(v:List zg)(x:List CV):(v.map vlC++[x])[v.length]? =some x:=by rw[Mc (by rw[Ga];exact Ma _),Ga,Nat.sub_self];rfl
theorem lN {aL idL src k N:Nat} {RL:List (List CV)} {G:Get} {Q:Post} {e:Env} {xc:List CV}
  (hl:look e 1= .v (.c (.optr aL 0 0))) (hi:look e 2= .v (.c (.p (.at (.int .i64 k))))) (hs:look e 3= .v (.c (.optr src 0 0))) (hL:G aL=some ⟨52,1,[[.osl idL 0 (k+1)]],none⟩) (hIL:G idL=some ⟨23,1,RL,none⟩) (hr:RL[k]? =some [nilC])
  (hS:G src=some ⟨49,6,[xc],none⟩) (hx:xc.length=6) (hN:aL<N/\idL<N/\src<N) (n1:aL≠idL/\aL≠src/\idL≠src)
  (h: ∀e',(∀t,t<17->look e' t=look e t)->Q .normal e' ⟨N+2,upd (upd (upd (upd G [(N,some ⟨49,6,[z6],none⟩)]) [(N+1,some ⟨49,6,[z6],none⟩)]) [(idL,some ⟨23,1,RL.set k [.osl (N+1) 0 (1)],none⟩)]) [(N+1,some ⟨49,6,[xc],none⟩)]⟩):
  SW P 46 (match Tryz.f60.body with|some (.seq _ (.seq _ (.seq _ (.seq _ (.cond _ c _)))))=>c|_=> .skip) Q e ⟨N,G⟩:=by
 obtain⟨m1,m2,m3⟩:=hN;obtain⟨p1,p2,p3⟩:=n1;have eI:=Sa m2;have eI1:idL≠N+1:=by omega
 have q2:N+1≠idL:=by omega
 have hk0:k<RL.length:=(Ba.1 hr).1;refine SW.seq (SW.regD mixed (fun i=>[aL,idL,src,N,N+1].getD i 0) 5 [([0],[]),([],[]),([1],[]),([1],[]),([2],[]),([],[]),([],[3]),([3],[4]),([1],[]),([1],[1])] (by decide)
  (Xg (l:=[aL,idL,src,N,N+1]) (by simp only[Rc,Ra,Ec,ic,jd,Pf,Cc,Ce];omega)) (by kernel_rfl) (by kernel_rfl) ?_)
 refine Walk.n (Op1.load (.inl hl) hL rfl rfl k52) rfl rfl rfl rfl rfl ?_;refine Walk.n (Op1.move _) rfl rfl rfl rfl rfl ?_;refine Walk.n (Op1.idxL (.inl rfl) (.inl hi) hIL k52 c23 rfl (by decide) (Cb k)) rfl rfl rfl rfl rfl ?_;refine Walk.n (Op1.load (cs:=[nilC]) (.inl rfl) hIL hr rfl k23) rfl rfl rfl rfl rfl ?_;refine Walk.n (Op1.loadW (cs:=xc) (.inl hs) hS rfl k49 c49 hx) rfl rfl rfl rfl rfl ?_;refine Walk.n (Op1.lenN rfl rfl rfl (.inl rfl) k23) rfl rfl rfl rfl rfl ?_;refine Walk.n (Op1.bs1 (u:= .agg z6) Yu k23 c49 rfl (by rw[Eh];rfl) (by decide) (by decide) o49) rfl rfl rfl rfl rfl ?_;refine Walk.n (Op1.appN (n:=6) (row:=z6) rfl rfl rfl rfl rfl upS rfl rfl k23 k23 c49 (by decide) rfl (by rw[b49];decide) o49) rfl rfl rfl rfl rfl ?_;refine Walk.n (Op1.idxL (.inl rfl) (.inl hi) (upK (upK hIL eI) eI1) k52 c23 rfl (by decide) (Cb k)) rfl rfl rfl rfl rfl ?_;refine Walk.n0 (Op1.storeX (cs:=[nilC]) (.inl rfl) (.inl rfl) (upK (upK hIL eI) eI1) hr k23 c23 rfl rfl rfl) rfl rfl rfl rfl ?_;refine Walk.end ?_;refine SW.reg (fun _=>N+1) [([0],[]),([0],[0])] ?_;refine Walk.n (Op1.idxL (n:=0+1) (j:=0) (.inl rfl) (.inl rfl) (upK upS q2) k23 c49 rfl (by decide) (Cb _)) rfl rfl rfl rfl rfl ?_;refine Walk.n0 (Op1.storeX (cs:=z6) (.inl rfl) (.inl rfl) (upK upS q2) rfl k49 c49 rfl hx rfl) rfl rfl rfl rfl ?_;refine Walk.end ?_;exact h _ (fun t ht=>by simp only[look];repeat rw[Oa (by omega)])
theorem kN {aL idL src k N:Nat} {RL:List (List CV)} {v1:List zg} {G:Get} {Q:Post} {e:Env} {xc:List CV} {id1:Nat}
  (hl:look e 1= .v (.c (.optr aL 0 0))) (hi:look e 2= .v (.c (.p (.at (.int .i64 k))))) (hs:look e 3= .v (.c (.optr src 0 0))) (hL:G aL=some ⟨52,1,[[.osl idL 0 (k+1)]],none⟩) (hIL:G idL=some ⟨23,1,RL,none⟩) (hr:RL[k]? =some [.osl id1 0 v1.length])
  (hS:G src=some ⟨49,6,[xc],none⟩) (hx:xc.length=6) (h1:G id1=some ⟨49,6,v1.map vlC,none⟩) (hv:v1.length<=3000) (hN:aL<N/\idL<N/\src<N/\id1<N) (n1:aL≠idL/\aL≠src/\idL≠src/\aL≠id1/\idL≠id1/\src≠id1)
  (h: ∀e',(∀t,t<17->look e' t=look e t)->Q .normal e' ⟨N+2,upd (upd (upd (upd G [(N,some ⟨49,6,[z6],none⟩)]) [(id1,none),(N+1,some ⟨49,6,v1.map vlC++[z6],none⟩)]) [(idL,some ⟨23,1,RL.set k [.osl (N+1) 0 (v1.length+1)],none⟩)]) [(N+1,some ⟨49,6,v1.map vlC++[xc],none⟩)]⟩):
  SW P 46 (match Tryz.f60.body with|some (.seq _ (.seq _ (.seq _ (.seq _ (.cond _ c _)))))=>c|_=> .skip) Q e ⟨N,G⟩:=by
 obtain⟨m1,m2,m3,m4⟩:=hN;obtain⟨p1,p2,p3,p4,p5,p6⟩:=n1;have e1:=Sa m4;have eI:=Sa m2;have eI1:idL≠N+1:=by omega
 have q2:N+1≠idL:=by omega
 have nI1:=p5;have q1:N+1≠id1:=by omega
 have hk0:k<RL.length:=(Ba.1 hr).1;refine SW.seq (SW.regD mixed (fun i=>[aL,idL,src,id1,N,N+1].getD i 0) 6 [([0],[]),([],[]),([1],[]),([1],[]),([2],[]),([3],[]),([],[4]),([3,4],[3,5]),([1],[]),([1],[1])] (by decide)
  (Xg (l:=[aL,idL,src,id1,N,N+1]) (by simp only[Rc,Ra,Ec,ic,jd,Pf,Cc,Ce];omega)) (by kernel_rfl) (by kernel_rfl) ?_)
 refine Walk.n (Op1.load (.inl hl) hL rfl rfl k52) rfl rfl rfl rfl rfl ?_;refine Walk.n (Op1.move _) rfl rfl rfl rfl rfl ?_;refine Walk.n (Op1.idxL (.inl rfl) (.inl hi) hIL k52 c23 rfl (by decide) (Cb k)) rfl rfl rfl rfl rfl ?_;refine Walk.n (Op1.load (cs:=[.osl id1 0 v1.length]) (.inl rfl) hIL hr rfl k23) rfl rfl rfl rfl rfl ?_;refine Walk.n (Op1.loadW (cs:=xc) (.inl hs) hS rfl k49 c49 hx) rfl rfl rfl rfl rfl ?_;refine Walk.n (Op1.lenO rfl rfl rfl (.inl rfl) h1 k23) rfl rfl rfl rfl rfl ?_;refine Walk.n (Op1.bs1 (u:= .agg z6) Yu k23 c49 rfl (by rw[Eh];rfl) (by decide) (by decide) o49) rfl rfl rfl rfl rfl ?_;refine Walk.n (Op1.appF (n:=6) (row:=z6) (m:=v1.length) rfl rfl rfl rfl rfl (upK h1 e1) upS rfl rfl k23 k23 c49 (by decide) (Ga ..) rfl (by rw[b49];omega) (by omega) o49) rfl rfl rfl rfl rfl ?_;refine Walk.n (Op1.idxL (.inl rfl) (.inl hi) (upK2 (upK hIL eI) nI1 eI1) k52 c23 rfl (by decide) (Cb k)) rfl rfl rfl rfl rfl ?_;refine Walk.n0 (Op1.storeX (cs:=[.osl id1 0 v1.length]) (.inl rfl) (.inl rfl) (upK2 (upK hIL eI) nI1 eI1) hr k23 c23 rfl rfl rfl) rfl rfl rfl rfl ?_;refine Walk.end ?_;refine SW.reg (fun _=>N+1) [([0],[]),([0],[0])] ?_;refine Walk.n (Op1.idxL (n:=v1.length+1) (j:=v1.length) (.inl rfl) (.inl rfl) (upK (upS2 q1) q2) k23 c49 rfl (by decide) (Cb _)) rfl rfl rfl rfl rfl ?_;refine Walk.n0 (Op1.storeX (cs:=z6) (.inl rfl) (.inl rfl) (upK (upS2 q1) q2) (NC _ _) k49 c49 rfl hx (EB _ _ _)) rfl rfl rfl rfl ?_;refine Walk.end ?_;exact h _ (fun t ht=>by simp only[look];repeat rw[Oa (by omega)])
theorem oN {aL idL src k N:Nat} {RL:List (List CV)} {G:Get} {Q:Post} {e:Env} {xc:List CV}
  (hl:look e 1= .v (.c (.optr aL 0 0))) (hi:look e 2= .v (.c (.p (.at (.int .i64 k))))) (hs:look e 3= .v (.c (.optr src 0 0))) (hL:G aL=some ⟨52,1,[[.osl idL 0 (k+1)]],none⟩) (hIL:G idL=some ⟨23,1,RL,none⟩) (hr:RL[k]? =some [nilC])
  (hS:G src=some ⟨49,6,[xc],none⟩) (hx:xc.length=6) (hN:aL<N/\idL<N/\src<N) (n1:aL≠idL/\aL≠src/\idL≠src)
  (h: ∀e',(∀t,t<17->look e' t=look e t)->Q .normal e' ⟨N+2,upd (upd (upd G [(N,some ⟨49,6,[xc],none⟩)]) [(N+1,some ⟨49,6,[xc],none⟩)]) [(idL,some ⟨23,1,RL.set k [.osl (N+1) 0 (1)],none⟩)]⟩):
  SW P 46 (match Tryz.f60.body with|some (.seq _ (.seq _ (.seq _ (.seq _ (.cond _ _ c)))))=>c|_=> .skip) Q e ⟨N,G⟩:=by
 obtain⟨m1,m2,m3⟩:=hN;obtain⟨p1,p2,p3⟩:=n1;have eI:=Sa m2;have eI1:idL≠N+1:=by omega
 have q2:N+1≠idL:=by omega
 have hk0:k<RL.length:=(Ba.1 hr).1;refine SW.regD mixed (fun i=>[aL,idL,src,N,N+1].getD i 0) 5 [([0],[]),([],[]),([0],[]),([],[]),([1],[]),([1],[]),([2],[]),([],[3]),([3],[4]),([1],[]),([1],[1])] (by decide)
  (Xg (l:=[aL,idL,src,N,N+1]) (by simp only[Rc,Ra,Ec,ic,jd,Pf,Cc,Ce];omega)) (by kernel_rfl) (by kernel_rfl) ?_
 refine Walk.n (Op1.load (.inl hl) hL rfl rfl k52) rfl rfl rfl rfl rfl ?_;refine Walk.n (Op1.move _) rfl rfl rfl rfl rfl ?_;refine Walk.n (Op1.load (.inl hl) hL rfl rfl k52) rfl rfl rfl rfl rfl ?_;refine Walk.n (Op1.move _) rfl rfl rfl rfl rfl ?_;refine Walk.n (Op1.idxL (.inl rfl) (.inl hi) hIL k52 c23 rfl (by decide) (Cb k)) rfl rfl rfl rfl rfl ?_;refine Walk.n (Op1.load (cs:=[nilC]) (.inl rfl) hIL hr rfl k23) rfl rfl rfl rfl rfl ?_;refine Walk.n (Op1.loadW (cs:=xc) (.inl hs) hS rfl k49 c49 hx) rfl rfl rfl rfl rfl ?_;refine Walk.n (Op1.bs1 (u:= .agg xc) rfl k23 c49 hx (by rw[Eh];rfl) (by decide) (by decide) o49) rfl rfl rfl rfl rfl ?_;refine Walk.n (Op1.appN (n:=6) (row:=xc) rfl rfl rfl rfl rfl upS rfl hx k23 k23 c49 (by decide) rfl (by rw[b49];decide) o49) rfl rfl rfl rfl rfl ?_;refine Walk.n (Op1.idxL (.inl rfl) (.inl hi) (upK (upK hIL eI) eI1) k52 c23 rfl (by decide) (Cb k)) rfl rfl rfl rfl rfl ?_;refine Walk.n0 (Op1.storeX (cs:=[nilC]) (.inl rfl) (.inl rfl) (upK (upK hIL eI) eI1) hr k23 c23 rfl rfl rfl) rfl rfl rfl rfl ?_;refine Walk.end ?_;exact h _ (fun t ht=>by simp only[look];repeat rw[Oa (by omega)])
theorem nN {aL idL src k N:Nat} {RL:List (List CV)} {v1:List zg} {G:Get} {Q:Post} {e:Env} {xc:List CV} {id1:Nat}
  (hl:look e 1= .v (.c (.optr aL 0 0))) (hi:look e 2= .v (.c (.p (.at (.int .i64 k))))) (hs:look e 3= .v (.c (.optr src 0 0))) (hL:G aL=some ⟨52,1,[[.osl idL 0 (k+1)]],none⟩) (hIL:G idL=some ⟨23,1,RL,none⟩) (hr:RL[k]? =some [.osl id1 0 v1.length])
  (hS:G src=some ⟨49,6,[xc],none⟩) (hx:xc.length=6) (h1:G id1=some ⟨49,6,v1.map vlC,none⟩) (hv:v1.length<=3000) (hN:aL<N/\idL<N/\src<N/\id1<N) (n1:aL≠idL/\aL≠src/\idL≠src/\aL≠id1/\idL≠id1/\src≠id1)
  (h: ∀e',(∀t,t<17->look e' t=look e t)->Q .normal e' ⟨N+2,upd (upd (upd G [(N,some ⟨49,6,[xc],none⟩)]) [(id1,none),(N+1,some ⟨49,6,v1.map vlC++[xc],none⟩)]) [(idL,some ⟨23,1,RL.set k [.osl (N+1) 0 (v1.length+1)],none⟩)]⟩):
  SW P 46 (match Tryz.f60.body with|some (.seq _ (.seq _ (.seq _ (.seq _ (.cond _ _ c)))))=>c|_=> .skip) Q e ⟨N,G⟩:=by
 obtain⟨m1,m2,m3,m4⟩:=hN;obtain⟨p1,p2,p3,p4,p5,p6⟩:=n1;have e1:=Sa m4;have eI:=Sa m2;have eI1:idL≠N+1:=by omega
 have q2:N+1≠idL:=by omega
 have nI1:=p5;have q1:N+1≠id1:=by omega
 have hk0:k<RL.length:=(Ba.1 hr).1;refine SW.regD mixed (fun i=>[aL,idL,src,id1,N,N+1].getD i 0) 6 [([0],[]),([],[]),([0],[]),([],[]),([1],[]),([1],[]),([2],[]),([],[4]),([3,4],[3,5]),([1],[]),([1],[1])] (by decide)
  (Xg (l:=[aL,idL,src,id1,N,N+1]) (by simp only[Rc,Ra,Ec,ic,jd,Pf,Cc,Ce];omega)) (by kernel_rfl) (by kernel_rfl) ?_
 refine Walk.n (Op1.load (.inl hl) hL rfl rfl k52) rfl rfl rfl rfl rfl ?_;refine Walk.n (Op1.move _) rfl rfl rfl rfl rfl ?_;refine Walk.n (Op1.load (.inl hl) hL rfl rfl k52) rfl rfl rfl rfl rfl ?_;refine Walk.n (Op1.move _) rfl rfl rfl rfl rfl ?_;refine Walk.n (Op1.idxL (.inl rfl) (.inl hi) hIL k52 c23 rfl (by decide) (Cb k)) rfl rfl rfl rfl rfl ?_;refine Walk.n (Op1.load (cs:=[.osl id1 0 v1.length]) (.inl rfl) hIL hr rfl k23) rfl rfl rfl rfl rfl ?_;refine Walk.n (Op1.loadW (cs:=xc) (.inl hs) hS rfl k49 c49 hx) rfl rfl rfl rfl rfl ?_;refine Walk.n (Op1.bs1 (u:= .agg xc) rfl k23 c49 hx (by rw[Eh];rfl) (by decide) (by decide) o49) rfl rfl rfl rfl rfl ?_;refine Walk.n (Op1.appF (n:=6) (row:=xc) (m:=v1.length) rfl rfl rfl rfl rfl (upK h1 e1) upS rfl hx k23 k23 c49 (by decide) (Ga ..) rfl (by rw[b49];omega) (by omega) o49) rfl rfl rfl rfl rfl ?_;refine Walk.n (Op1.idxL (.inl rfl) (.inl hi) (upK2 (upK hIL eI) nI1 eI1) k52 c23 rfl (by decide) (Cb k)) rfl rfl rfl rfl rfl ?_;refine Walk.n0 (Op1.storeX (cs:=[.osl id1 0 v1.length]) (.inl rfl) (.inl rfl) (upK2 (upK hIL eI) nI1 eI1) hr k23 c23 rfl rfl rfl) rfl rfl rfl rfl ?_;refine Walk.end ?_;exact h _ (fun t ht=>by simp only[look];repeat rw[Oa (by omega)])
theorem FO {aL idL src k N:Nat} {RL:List (List CV)} {G:Get} {Q:Post} {e:Env} {tk:zf}
  (hl:look e 4= .v (.c (.optr aL 0 0))) (hi:look e 9= .v (.c (.p (.at (.int .i64 k))))) (hs:look e 8= .v (.c (.optr src 0 0))) (hL:G aL=some ⟨52,1,[[.osl idL 0 (k+1)]],none⟩) (hIL:G idL=some ⟨23,1,RL,none⟩) (hr:RL[k]? =some [nilC])
  (hS:G src=some ⟨44,5,[tkC tk],none⟩) (hN:aL<N/\idL<N/\src<N) (n1:aL≠idL/\aL≠src/\idL≠src)
  (h: ∀e',(∀t,t<23->look e' t=look e t)->Q .normal e' ⟨N+2,upd (upd (upd (upd G [(N,some ⟨49,6,[z6],none⟩)]) [(N+1,some ⟨49,6,[z6],none⟩)]) [(idL,some ⟨23,1,RL.set k [.osl (N+1) 0 (1)],none⟩)]) [(N+1,some ⟨49,6,[(tkC tk++[nilC])],none⟩)]⟩):
  SW P 93 (match Tryz.f16.body with|some (.seq _ (.seq _ (.seq _ (.seq _ (.seq (.seq _ (.block _ (.loop (.seq _ (.seq _ (.seq (.block _ (.seq _ (.seq _ (.block _ (.seq _ (.cond _ _ (.seq _ (.cond _ _ (.seq _ (.cond _ c _)))))))))) _)))))) _)))))=>c|_=> .skip) Q e ⟨N,G⟩:=by
 obtain⟨m1,m2,m3⟩:=hN;obtain⟨p1,p2,p3⟩:=n1;have eI:=Sa m2;have eI1:idL≠N+1:=by omega
 have q2:N+1≠idL:=by omega
 have hk0:k<RL.length:=(Ba.1 hr).1;refine SW.seq (SW.regD mixed (fun i=>[aL,idL,src,N,N+1].getD i 0) 5 [([0],[]),([],[]),([1],[]),([1],[]),([2],[]),([],[]),([],[]),([],[3]),([3],[4]),([1],[]),([1],[1])] (by decide)
  (Xg (l:=[aL,idL,src,N,N+1]) (by simp only[Rc,Ra,Ec,ic,jd,Pf,Cc,Ce];omega)) (by kernel_rfl) (by kernel_rfl) ?_)
 refine Walk.n (Op1.load (.inl hl) hL rfl rfl k52) rfl rfl rfl rfl rfl ?_;refine Walk.n (Op1.move _) rfl rfl rfl rfl rfl ?_;refine Walk.n (Op1.idxL (.inl rfl) (.inl hi) hIL k52 c23 rfl (by decide) (Cb k)) rfl rfl rfl rfl rfl ?_;refine Walk.n (Op1.load (cs:=[nilC]) (.inl rfl) hIL hr rfl k23) rfl rfl rfl rfl rfl ?_;refine Walk.n (Op1.loadA (cs:=tkC tk) (.inl hs) hS rfl k44 c44 (by rw[Tn];omega)) rfl rfl rfl rfl rfl ?_;refine Walk.n (bld1 (xs:=tkC tk) rfl rfl) rfl rfl rfl rfl rfl ?_;refine Walk.n (Op1.lenN rfl rfl rfl (.inl rfl) k23) rfl rfl rfl rfl rfl ?_;refine Walk.n (Op1.bs1 (u:= .agg z6) Yu k23 c49 rfl (by rw[Eh];rfl) (by decide) (by decide) o49) rfl rfl rfl rfl rfl ?_;refine Walk.n (Op1.appN (n:=6) (row:=z6) rfl rfl rfl rfl rfl upS rfl rfl k23 k23 c49 (by decide) rfl (by rw[b49];decide) o49) rfl rfl rfl rfl rfl ?_;refine Walk.n (Op1.idxL (.inl rfl) (.inl hi) (upK (upK hIL eI) eI1) k52 c23 rfl (by decide) (Cb k)) rfl rfl rfl rfl rfl ?_;refine Walk.n0 (Op1.storeX (cs:=[nilC]) (.inl rfl) (.inl rfl) (upK (upK hIL eI) eI1) hr k23 c23 rfl rfl rfl) rfl rfl rfl rfl ?_;refine Walk.end ?_;refine SW.reg (fun _=>N+1) [([0],[]),([0],[0])] ?_;refine Walk.n (Op1.idxL (n:=0+1) (j:=0) (.inl rfl) (.inl rfl) (upK upS q2) k23 c49 rfl (by decide) (Cb _)) rfl rfl rfl rfl rfl ?_;refine Walk.n0 (Op1.storeX (cs:=z6) (.inl rfl) (.inl rfl) (upK upS q2) rfl k49 c49 rfl rfl rfl) rfl rfl rfl rfl ?_;refine Walk.end ?_;exact h _ (fun t ht=>by simp only[look];repeat rw[Oa (by omega)])
theorem CO {aL idL src k N:Nat} {RL:List (List CV)} {v1:List zg} {G:Get} {Q:Post} {e:Env} {tk:zf} {id1:Nat}
  (hl:look e 4= .v (.c (.optr aL 0 0))) (hi:look e 9= .v (.c (.p (.at (.int .i64 k))))) (hs:look e 8= .v (.c (.optr src 0 0))) (hL:G aL=some ⟨52,1,[[.osl idL 0 (k+1)]],none⟩) (hIL:G idL=some ⟨23,1,RL,none⟩) (hr:RL[k]? =some [.osl id1 0 v1.length])
  (hS:G src=some ⟨44,5,[tkC tk],none⟩) (h1:G id1=some ⟨49,6,v1.map vlC,none⟩) (hv:v1.length<=3000) (hN:aL<N/\idL<N/\src<N/\id1<N) (n1:aL≠idL/\aL≠src/\idL≠src/\aL≠id1/\idL≠id1/\src≠id1)
  (h: ∀e',(∀t,t<23->look e' t=look e t)->Q .normal e' ⟨N+2,upd (upd (upd (upd G [(N,some ⟨49,6,[z6],none⟩)]) [(id1,none),(N+1,some ⟨49,6,v1.map vlC++[z6],none⟩)]) [(idL,some ⟨23,1,RL.set k [.osl (N+1) 0 (v1.length+1)],none⟩)]) [(N+1,some ⟨49,6,v1.map vlC++[(tkC tk++[nilC])],none⟩)]⟩):
  SW P 93 (match Tryz.f16.body with|some (.seq _ (.seq _ (.seq _ (.seq _ (.seq (.seq _ (.block _ (.loop (.seq _ (.seq _ (.seq (.block _ (.seq _ (.seq _ (.block _ (.seq _ (.cond _ _ (.seq _ (.cond _ _ (.seq _ (.cond _ c _)))))))))) _)))))) _)))))=>c|_=> .skip) Q e ⟨N,G⟩:=by
 obtain⟨m1,m2,m3,m4⟩:=hN;obtain⟨p1,p2,p3,p4,p5,p6⟩:=n1;have e1:=Sa m4;have eI:=Sa m2;have eI1:idL≠N+1:=by omega
 have q2:N+1≠idL:=by omega
 have nI1:=p5;have q1:N+1≠id1:=by omega
 have hk0:k<RL.length:=(Ba.1 hr).1;refine SW.seq (SW.regD mixed (fun i=>[aL,idL,src,id1,N,N+1].getD i 0) 6 [([0],[]),([],[]),([1],[]),([1],[]),([2],[]),([],[]),([3],[]),([],[4]),([3,4],[3,5]),([1],[]),([1],[1])] (by decide)
  (Xg (l:=[aL,idL,src,id1,N,N+1]) (by simp only[Rc,Ra,Ec,ic,jd,Pf,Cc,Ce];omega)) (by kernel_rfl) (by kernel_rfl) ?_)
 refine Walk.n (Op1.load (.inl hl) hL rfl rfl k52) rfl rfl rfl rfl rfl ?_;refine Walk.n (Op1.move _) rfl rfl rfl rfl rfl ?_;refine Walk.n (Op1.idxL (.inl rfl) (.inl hi) hIL k52 c23 rfl (by decide) (Cb k)) rfl rfl rfl rfl rfl ?_;refine Walk.n (Op1.load (cs:=[.osl id1 0 v1.length]) (.inl rfl) hIL hr rfl k23) rfl rfl rfl rfl rfl ?_;refine Walk.n (Op1.loadA (cs:=tkC tk) (.inl hs) hS rfl k44 c44 (by rw[Tn];omega)) rfl rfl rfl rfl rfl ?_;refine Walk.n (bld1 (xs:=tkC tk) rfl rfl) rfl rfl rfl rfl rfl ?_;refine Walk.n (Op1.lenO rfl rfl rfl (.inl rfl) h1 k23) rfl rfl rfl rfl rfl ?_;refine Walk.n (Op1.bs1 (u:= .agg z6) Yu k23 c49 rfl (by rw[Eh];rfl) (by decide) (by decide) o49) rfl rfl rfl rfl rfl ?_;refine Walk.n (Op1.appF (n:=6) (row:=z6) (m:=v1.length) rfl rfl rfl rfl rfl (upK h1 e1) upS rfl rfl k23 k23 c49 (by decide) (Ga ..) rfl (by rw[b49];omega) (by omega) o49) rfl rfl rfl rfl rfl ?_;refine Walk.n (Op1.idxL (.inl rfl) (.inl hi) (upK2 (upK hIL eI) nI1 eI1) k52 c23 rfl (by decide) (Cb k)) rfl rfl rfl rfl rfl ?_;refine Walk.n0 (Op1.storeX (cs:=[.osl id1 0 v1.length]) (.inl rfl) (.inl rfl) (upK2 (upK hIL eI) nI1 eI1) hr k23 c23 rfl rfl rfl) rfl rfl rfl rfl ?_;refine Walk.end ?_;refine SW.reg (fun _=>N+1) [([0],[]),([0],[0])] ?_;refine Walk.n (Op1.idxL (n:=v1.length+1) (j:=v1.length) (.inl rfl) (.inl rfl) (upK (upS2 q1) q2) k23 c49 rfl (by decide) (Cb _)) rfl rfl rfl rfl rfl ?_;refine Walk.n0 (Op1.storeX (cs:=z6) (.inl rfl) (.inl rfl) (upK (upS2 q1) q2) (NC _ _) k49 c49 rfl rfl (EB _ _ _)) rfl rfl rfl rfl ?_;refine Walk.end ?_;exact h _ (fun t ht=>by simp only[look];repeat rw[Oa (by omega)])
theorem KO {aL idL src k N:Nat} {RL:List (List CV)} {G:Get} {Q:Post} {e:Env} {tk:zf}
  (hl:look e 4= .v (.c (.optr aL 0 0))) (hi:look e 9= .v (.c (.p (.at (.int .i64 k))))) (hs:look e 8= .v (.c (.optr src 0 0))) (hL:G aL=some ⟨52,1,[[.osl idL 0 (k+1)]],none⟩) (hIL:G idL=some ⟨23,1,RL,none⟩) (hr:RL[k]? =some [nilC])
  (hS:G src=some ⟨44,5,[tkC tk],none⟩) (hN:aL<N/\idL<N/\src<N) (n1:aL≠idL/\aL≠src/\idL≠src)
  (h: ∀e',(∀t,t<23->look e' t=look e t)->Q .normal e' ⟨N+2,upd (upd (upd G [(N,some ⟨49,6,[(tkC tk++[nilC])],none⟩)]) [(N+1,some ⟨49,6,[(tkC tk++[nilC])],none⟩)]) [(idL,some ⟨23,1,RL.set k [.osl (N+1) 0 (1)],none⟩)]⟩):
  SW P 93 (match Tryz.f16.body with|some (.seq _ (.seq _ (.seq _ (.seq _ (.seq (.seq _ (.block _ (.loop (.seq _ (.seq _ (.seq (.block _ (.seq _ (.seq _ (.block _ (.seq _ (.cond _ _ (.seq _ (.cond _ _ (.seq _ (.cond _ _ c)))))))))) _)))))) _)))))=>c|_=> .skip) Q e ⟨N,G⟩:=by
 obtain⟨m1,m2,m3⟩:=hN;obtain⟨p1,p2,p3⟩:=n1;have eI:=Sa m2;have eI1:idL≠N+1:=by omega
 have q2:N+1≠idL:=by omega
 have hk0:k<RL.length:=(Ba.1 hr).1;refine SW.regD mixed (fun i=>[aL,idL,src,N,N+1].getD i 0) 5 [([0],[]),([],[]),([0],[]),([],[]),([1],[]),([1],[]),([2],[]),([],[]),([],[3]),([3],[4]),([1],[]),([1],[1])] (by decide)
  (Xg (l:=[aL,idL,src,N,N+1]) (by simp only[Rc,Ra,Ec,ic,jd,Pf,Cc,Ce];omega)) (by kernel_rfl) (by kernel_rfl) ?_
 refine Walk.n (Op1.load (.inl hl) hL rfl rfl k52) rfl rfl rfl rfl rfl ?_;refine Walk.n (Op1.move _) rfl rfl rfl rfl rfl ?_;refine Walk.n (Op1.load (.inl hl) hL rfl rfl k52) rfl rfl rfl rfl rfl ?_;refine Walk.n (Op1.move _) rfl rfl rfl rfl rfl ?_;refine Walk.n (Op1.idxL (.inl rfl) (.inl hi) hIL k52 c23 rfl (by decide) (Cb k)) rfl rfl rfl rfl rfl ?_;refine Walk.n (Op1.load (cs:=[nilC]) (.inl rfl) hIL hr rfl k23) rfl rfl rfl rfl rfl ?_;refine Walk.n (Op1.loadA (cs:=tkC tk) (.inl hs) hS rfl k44 c44 (by rw[Tn];omega)) rfl rfl rfl rfl rfl ?_;refine Walk.n (bld1 (xs:=tkC tk) rfl rfl) rfl rfl rfl rfl rfl ?_;refine Walk.n (Op1.bs1 (u:= .agg (tkC tk++[nilC])) rfl k23 c49 rfl (by rw[Eh];rfl) (by decide) (by decide) o49) rfl rfl rfl rfl rfl ?_;refine Walk.n (Op1.appN (n:=6) (row:=(tkC tk++[nilC])) rfl rfl rfl rfl rfl upS rfl rfl k23 k23 c49 (by decide) rfl (by rw[b49];decide) o49) rfl rfl rfl rfl rfl ?_;refine Walk.n (Op1.idxL (.inl rfl) (.inl hi) (upK (upK hIL eI) eI1) k52 c23 rfl (by decide) (Cb k)) rfl rfl rfl rfl rfl ?_;refine Walk.n0 (Op1.storeX (cs:=[nilC]) (.inl rfl) (.inl rfl) (upK (upK hIL eI) eI1) hr k23 c23 rfl rfl rfl) rfl rfl rfl rfl ?_;refine Walk.end ?_;exact h _ (fun t ht=>by simp only[look];repeat rw[Oa (by omega)])
theorem JO {aL idL src k N:Nat} {RL:List (List CV)} {v1:List zg} {G:Get} {Q:Post} {e:Env} {tk:zf} {id1:Nat}
  (hl:look e 4= .v (.c (.optr aL 0 0))) (hi:look e 9= .v (.c (.p (.at (.int .i64 k))))) (hs:look e 8= .v (.c (.optr src 0 0))) (hL:G aL=some ⟨52,1,[[.osl idL 0 (k+1)]],none⟩) (hIL:G idL=some ⟨23,1,RL,none⟩) (hr:RL[k]? =some [.osl id1 0 v1.length])
  (hS:G src=some ⟨44,5,[tkC tk],none⟩) (h1:G id1=some ⟨49,6,v1.map vlC,none⟩) (hv:v1.length<=3000) (hN:aL<N/\idL<N/\src<N/\id1<N) (n1:aL≠idL/\aL≠src/\idL≠src/\aL≠id1/\idL≠id1/\src≠id1)
  (h: ∀e',(∀t,t<23->look e' t=look e t)->Q .normal e' ⟨N+2,upd (upd (upd G [(N,some ⟨49,6,[(tkC tk++[nilC])],none⟩)]) [(id1,none),(N+1,some ⟨49,6,v1.map vlC++[(tkC tk++[nilC])],none⟩)]) [(idL,some ⟨23,1,RL.set k [.osl (N+1) 0 (v1.length+1)],none⟩)]⟩):
  SW P 93 (match Tryz.f16.body with|some (.seq _ (.seq _ (.seq _ (.seq _ (.seq (.seq _ (.block _ (.loop (.seq _ (.seq _ (.seq (.block _ (.seq _ (.seq _ (.block _ (.seq _ (.cond _ _ (.seq _ (.cond _ _ (.seq _ (.cond _ _ c)))))))))) _)))))) _)))))=>c|_=> .skip) Q e ⟨N,G⟩:=by
 obtain⟨m1,m2,m3,m4⟩:=hN;obtain⟨p1,p2,p3,p4,p5,p6⟩:=n1;have e1:=Sa m4;have eI:=Sa m2;have eI1:idL≠N+1:=by omega
 have q2:N+1≠idL:=by omega
 have nI1:=p5;have q1:N+1≠id1:=by omega
 have hk0:k<RL.length:=(Ba.1 hr).1;refine SW.regD mixed (fun i=>[aL,idL,src,id1,N,N+1].getD i 0) 6 [([0],[]),([],[]),([0],[]),([],[]),([1],[]),([1],[]),([2],[]),([],[]),([],[4]),([3,4],[3,5]),([1],[]),([1],[1])] (by decide)
  (Xg (l:=[aL,idL,src,id1,N,N+1]) (by simp only[Rc,Ra,Ec,ic,jd,Pf,Cc,Ce];omega)) (by kernel_rfl) (by kernel_rfl) ?_
 refine Walk.n (Op1.load (.inl hl) hL rfl rfl k52) rfl rfl rfl rfl rfl ?_;refine Walk.n (Op1.move _) rfl rfl rfl rfl rfl ?_;refine Walk.n (Op1.load (.inl hl) hL rfl rfl k52) rfl rfl rfl rfl rfl ?_;refine Walk.n (Op1.move _) rfl rfl rfl rfl rfl ?_;refine Walk.n (Op1.idxL (.inl rfl) (.inl hi) hIL k52 c23 rfl (by decide) (Cb k)) rfl rfl rfl rfl rfl ?_;refine Walk.n (Op1.load (cs:=[.osl id1 0 v1.length]) (.inl rfl) hIL hr rfl k23) rfl rfl rfl rfl rfl ?_;refine Walk.n (Op1.loadA (cs:=tkC tk) (.inl hs) hS rfl k44 c44 (by rw[Tn];omega)) rfl rfl rfl rfl rfl ?_;refine Walk.n (bld1 (xs:=tkC tk) rfl rfl) rfl rfl rfl rfl rfl ?_;refine Walk.n (Op1.bs1 (u:= .agg (tkC tk++[nilC])) rfl k23 c49 rfl (by rw[Eh];rfl) (by decide) (by decide) o49) rfl rfl rfl rfl rfl ?_;refine Walk.n (Op1.appF (n:=6) (row:=(tkC tk++[nilC])) (m:=v1.length) rfl rfl rfl rfl rfl (upK h1 e1) upS rfl rfl k23 k23 c49 (by decide) (Ga ..) rfl (by rw[b49];omega) (by omega) o49) rfl rfl rfl rfl rfl ?_;refine Walk.n (Op1.idxL (.inl rfl) (.inl hi) (upK2 (upK hIL eI) nI1 eI1) k52 c23 rfl (by decide) (Cb k)) rfl rfl rfl rfl rfl ?_;refine Walk.n0 (Op1.storeX (cs:=[.osl id1 0 v1.length]) (.inl rfl) (.inl rfl) (upK2 (upK hIL eI) nI1 eI1) hr k23 c23 rfl rfl rfl) rfl rfl rfl rfl ?_;refine Walk.end ?_;exact h _ (fun t ht=>by simp only[look];repeat rw[Oa (by omega)])
def Put(G:Get)(idL k n:Nat)(RL:List (List CV))(c1:CV)(v1:List zg)(xc:List CV)(get':Get):Prop:=
 get' idL=some ⟨23,1,RL.set k [.osl n 0 (v1.length+1)],none⟩/\get' n=some ⟨49,6,v1.map vlC++[xc],none⟩/\(∀id∈zy c1,get' id=none)/\ ∀id,id+2<n->id≠idL->id ∉ zy c1->get' id=G id
theorem MO {aL idL src k N:Nat} {RL:List (List CV)} {c1:CV} {v1:List zg} {G:Get} {Q:Post} {e:Env} {xc:List CV}
  (hl:look e 1= .v (.c (.optr aL 0 0))) (hi:look e 2= .v (.c (.p (.at (.int .i64 k))))) (hs:look e 3= .v (.c (.optr src 0 0))) (hL:G aL=some ⟨52,1,[[.osl idL 0 (k+1)]],none⟩) (hIL:G idL=some ⟨23,1,RL,none⟩) (hr:RL[k]? =some [c1])
  (hS:G src=some ⟨49,6,[xc],none⟩) (hx:xc.length=6) (hsc:src ∉ zy c1) (h1:Lst G c1 v1) (hv:v1.length<=3000) (hN:aL<N/\idL<N/\src<N) (hN1: ∀i∈zy c1,i<N)
  (h: ∀e' get',Put G idL k (N+2) RL c1 v1 xc get'->Q .normal e' ⟨N+3,get'⟩):
  SW P 46 (match Tryz.f60.body with|some (.seq _ (.seq _ (.seq _ c)))=>c|_=> .skip) Q e ⟨N,G⟩:=by
 obtain⟨m1,m2,m3⟩:=hN;have p1:aL≠idL:=at1 hL hIL rfl;have p2:aL≠src:=at1 hL hS rfl;have p3:idL≠src:=at1 hIL hS rfl;refine SW.seq (anyR (tb:=24) (tl:=25) rfl rfl rfl rfl ⟨rfl,rfl,rfl⟩ ⟨rfl,rfl,rfl⟩ ⟨rfl,rfl,rfl⟩ ⟨rfl,rfl,rfl⟩ ⟨by decide,by decide⟩ fun b g hg=> ?_);have hl': ∀t,t<17->look ((25, .v (.c (.p (.at (.bool b)))))::(24, .v (.c (.optr N 0 0)))::e) t=look e t:=fun t ht=>(Xf (by omega)).trans (Xf (by omega));have gL:=(hg aL m1).trans hL;have gIL:=(hg idL m2).trans hIL;have gS:=(hg src m3).trans hS;have lt: ∀{x y:Nat},x<y->x<y+1:=fun h=>Ya h;rcases h1 with⟨rfl,rfl⟩|⟨id1,rfl,h1⟩
 ·skip
  refine SW.condB (b:=b) rfl (fun _=> ?_) (fun _=> ?_)
  ·refine lN ((hl' _ (by decide)).trans hl) ((hl' _ (by decide)).trans hi) ((hl' _ (by decide)).trans hs) gL gIL hr gS hx ⟨lt m1,lt m2,lt m3⟩ ⟨p1,p2,p3⟩ fun e' he=> ?_;refine h _ _ ⟨?_,?_,?_,fun id hid h1 h2=> ?_⟩
   ·exact upK upS (by omega)
   ·exact upS
   ·intro id hid;cases hid
   ·exact upK (upK (upK (upK (hg id (by omega)) (by omega)) (by omega)) h1) (by omega)
  ·refine oN ((hl' _ (by decide)).trans hl) ((hl' _ (by decide)).trans hi) ((hl' _ (by decide)).trans hs) gL gIL hr gS hx ⟨lt m1,lt m2,lt m3⟩ ⟨p1,p2,p3⟩ fun e' he=> ?_;refine h _ _ ⟨?_,?_,?_,fun id hid h1 h2=> ?_⟩
   ·exact upS
   ·exact upK upS (by omega)
   ·intro id hid;cases hid
   ·exact upK (upK (upK (hg id (by omega)) (by omega)) (by omega)) h1
 ·have m4:id1<N:=hN1 id1 (Fa.2 rfl);have g1:=(hg id1 m4).trans h1;have p4:aL≠id1:=at1 hL h1 rfl;have p5:idL≠id1:=at1 hIL h1 rfl;have p6:src≠id1:=fun e=>hsc (Fa.2 e);refine SW.condB (b:=b) rfl (fun _=> ?_) (fun _=> ?_)
  ·refine kN ((hl' _ (by decide)).trans hl) ((hl' _ (by decide)).trans hi) ((hl' _ (by decide)).trans hs) gL gIL hr gS hx g1 hv ⟨lt m1,lt m2,lt m3,lt m4⟩ ⟨p1,p2,p3,p4,p5,p6⟩ fun e' he=> ?_;refine h _ _ ⟨?_,?_,?_,fun id hid h1 h2=> ?_⟩
   ·exact upK upS (by omega)
   ·exact upS
   ·intro id hid;obtain rfl:=Fa.1 hid;exact upK (upK (Va rfl) (Ne.symm p5)) (by omega)
   ·exact upK (upK (upK2 (upK (hg id (by omega)) (by omega)) (fun e=>h2 (Fa.2 e)) (by omega)) h1) (by omega)
  ·refine nN ((hl' _ (by decide)).trans hl) ((hl' _ (by decide)).trans hi) ((hl' _ (by decide)).trans hs) gL gIL hr gS hx g1 hv ⟨lt m1,lt m2,lt m3,lt m4⟩ ⟨p1,p2,p3,p4,p5,p6⟩ fun e' he=> ?_;refine h _ _ ⟨?_,?_,?_,fun id hid h1 h2=> ?_⟩
   ·exact upS
   ·exact upK (upS2 (by omega)) (by omega)
   ·intro id hid;obtain rfl:=Fa.1 hid;exact(upK (Va rfl) (Ne.symm p5))
   ·exact upK (upK2 (upK (hg id (by omega)) (by omega)) (fun e=>h2 (Fa.2 e)) (by omega)) h1
theorem xO {aL idL src k N:Nat} {RL:List (List CV)} {c1:CV} {v1:List zg} {G:Get} {Q:Post} {e:Env} {tk:zf}
  (hl:look e 4= .v (.c (.optr aL 0 0))) (hi:look e 9= .v (.c (.p (.at (.int .i64 k))))) (hs:look e 8= .v (.c (.optr src 0 0))) (hL:G aL=some ⟨52,1,[[.osl idL 0 (k+1)]],none⟩) (hIL:G idL=some ⟨23,1,RL,none⟩) (hr:RL[k]? =some [c1])
  (hS:G src=some ⟨44,5,[tkC tk],none⟩) (h1:Lst G c1 v1) (hv:v1.length<=3000) (hN:aL<N/\idL<N/\src<N) (hN1: ∀i∈zy c1,i<N)
  (h: ∀e' get',(∀t,t<23->look e' t=look e t)->Put G idL k (N+2) RL c1 v1 (tkC tk++[nilC]) get'->Q .normal e' ⟨N+3,get'⟩):
  SW P 93 (match Tryz.f16.body with|some (.seq _ (.seq _ (.seq _ (.seq _ (.seq (.seq _ (.block _ (.loop (.seq _ (.seq _ (.seq (.block _ (.seq _ (.seq _ (.block _ (.seq _ (.cond _ _ (.seq _ (.cond _ _ (c))))))))) _)))))) _)))))=>c|_=> .skip) Q e ⟨N,G⟩:=by
 obtain⟨m1,m2,m3⟩:=hN;have p1:aL≠idL:=at1 hL hIL rfl;have p2:aL≠src:=at1 hL hS rfl;have p3:idL≠src:=at1 hIL hS rfl;refine SW.seq (anyR (tb:=23) (tl:=24) rfl rfl rfl rfl ⟨rfl,rfl,rfl⟩ ⟨rfl,rfl,rfl⟩ ⟨rfl,rfl,rfl⟩ ⟨rfl,rfl,rfl⟩ ⟨by decide,by decide⟩ fun b g hg=> ?_);have hl': ∀t,t<23->look ((24, .v (.c (.p (.at (.bool b)))))::(23, .v (.c (.optr N 0 0)))::e) t=look e t:=fun t ht=>(Xf (by omega)).trans (Xf (by omega));have gL:=(hg aL m1).trans hL;have gIL:=(hg idL m2).trans hIL;have gS:=(hg src m3).trans hS;have lt: ∀{x y:Nat},x<y->x<y+1:=fun h=>Ya h;rcases h1 with⟨rfl,rfl⟩|⟨id1,rfl,h1⟩
 ·skip
  refine SW.condB (b:=b) rfl (fun _=> ?_) (fun _=> ?_)
  ·refine FO ((hl' _ (by decide)).trans hl) ((hl' _ (by decide)).trans hi) ((hl' _ (by decide)).trans hs) gL gIL hr gS ⟨lt m1,lt m2,lt m3⟩ ⟨p1,p2,p3⟩ fun e' he=> ?_;refine h _ _ (fun t ht=>(he t ht).trans (hl' t ht)) ⟨?_,?_,?_,fun id hid h1 h2=> ?_⟩
   ·exact upK upS (by omega)
   ·exact upS
   ·intro id hid;cases hid
   ·exact upK (upK (upK (upK (hg id (by omega)) (by omega)) (by omega)) h1) (by omega)
  ·refine KO ((hl' _ (by decide)).trans hl) ((hl' _ (by decide)).trans hi) ((hl' _ (by decide)).trans hs) gL gIL hr gS ⟨lt m1,lt m2,lt m3⟩ ⟨p1,p2,p3⟩ fun e' he=> ?_;refine h _ _ (fun t ht=>(he t ht).trans (hl' t ht)) ⟨?_,?_,?_,fun id hid h1 h2=> ?_⟩
   ·exact upS
   ·exact upK upS (by omega)
   ·intro id hid;cases hid
   ·exact upK (upK (upK (hg id (by omega)) (by omega)) (by omega)) h1
 ·have m4:id1<N:=hN1 id1 (Fa.2 rfl);have g1:=(hg id1 m4).trans h1;have p4:aL≠id1:=at1 hL h1 rfl;have p5:idL≠id1:=at1 hIL h1 rfl;have p6:src≠id1:=at1 hS h1 rfl;refine SW.condB (b:=b) rfl (fun _=> ?_) (fun _=> ?_)
  ·refine CO ((hl' _ (by decide)).trans hl) ((hl' _ (by decide)).trans hi) ((hl' _ (by decide)).trans hs) gL gIL hr gS g1 hv ⟨lt m1,lt m2,lt m3,lt m4⟩ ⟨p1,p2,p3,p4,p5,p6⟩ fun e' he=> ?_;refine h _ _ (fun t ht=>(he t ht).trans (hl' t ht)) ⟨?_,?_,?_,fun id hid h1 h2=> ?_⟩
   ·exact upK upS (by omega)
   ·exact upS
   ·intro id hid;obtain rfl:=Fa.1 hid;exact upK (upK (Va rfl) (Ne.symm p5)) (by omega)
   ·exact upK (upK (upK2 (upK (hg id (by omega)) (by omega)) (fun e=>h2 (Fa.2 e)) (by omega)) h1) (by omega)
  ·refine JO ((hl' _ (by decide)).trans hl) ((hl' _ (by decide)).trans hi) ((hl' _ (by decide)).trans hs) gL gIL hr gS g1 hv ⟨lt m1,lt m2,lt m3,lt m4⟩ ⟨p1,p2,p3,p4,p5,p6⟩ fun e' he=> ?_;refine h _ _ (fun t ht=>(he t ht).trans (hl' t ht)) ⟨?_,?_,?_,fun id hid h1 h2=> ?_⟩
   ·exact upS
   ·exact upK (upS2 (by omega)) (by omega)
   ·intro id hid;obtain rfl:=Fa.1 hid;exact(upK (Va rfl) (Ne.symm p5))
   ·exact upK (upK2 (upK (hg id (by omega)) (by omega)) (fun e=>h2 (Fa.2 e)) (by omega)) h1
theorem RcL.refl{Z:Nat->Prop}{get:Get}{D:Nat->Prop}(x:LV):RcL Z get D x x:=by
 have hT: ∀t:TV,RcT Z get D t t:=fun t=>by
  cases t with
  |c x=>exact .c _ _ (RcC.refl x)
  |agg xs=>exact .agg _ _ rfl fun j a b ha hb=>by rw[ha]at hb;cases hb;exact RcC.refl a
 cases x with
 |any=>exact .any _
 |v t=>exact .v _ _ (hT t)
 |opt g t=>exact .opt _ _ _ (hT t)
 |tup ts=>exact .tup _ _ rfl fun j a b ha hb=>by rw[ha]at hb;cases hb;exact hT a
theorem SA{g:Get}{D:Nat->Prop}{c:CV}{v:List zg}(h:Lst g c v)(hD: ∀id∈zy c,D id):Fz g D c (.sl (v.map zw)):=by
 rcases h with⟨rfl,rfl⟩|⟨id,rfl,h⟩
 ·exact .nil
 ·refine .osl id 0 _ _ _ (hD id (Fa.2 rfl)) h (Ga ..) (by rw[Ga];omega) (fun row hr=> ?_) (fun i row j x r y ha hj hr hy=> ?_)
  ·obtain⟨z,_,rfl⟩:=Da.1 hr;have:=uA z;unfold vlC at this
   rwa [Ga]at this
  ·simp only[Ka,Yc]at ha hr;cases hz:v[i]? with
   |none=>rw[hz]at ha;cases ha
   |some z=> rw[hz]at ha hr;cases ha;cases hr;unfold vlC at hj;rw[Ka,hy]at hj;cases hj;exact .p _
theorem CJ {nt:Nat} {e:Env} {g:Get} {M id0 ty r:Nat} {RL:List (List CV)} {c:CV} {v:List zg} (h0:g id0=some ⟨ty,1,RL,none⟩) (hr:RL[r]? =some [c]) (hc:Lst g c v) (hi:id0 ∉ zy c) (get2:Get)
  (k1:get2 id0=some ⟨ty,1,RL.set r [.p (.sl (v.map zw))],none⟩) (k2: ∀id∈zy c,get2 id=none) (k3: ∀id,id≠id0->id ∉ zy c->get2 id=g id):Sub nt e ⟨M,g⟩ e ⟨M,get2⟩:=by
 refine recast (Z:=fun _=>False) (Ma _) (fun z hz=>hz.elim) (fun id o2 ho _=> ?_) (fun t=>RcL.refl _);by_cases h1:id=id0
 ·subst h1;replace ho:get2 id=some o2:=ho;rw[k1]at ho;cases ho;refine⟨_,h0,rfl,rfl,List.length_set,fun i row row2 a b=> ?_,rfl⟩;replace b:(RL.set r [.p (.sl (v.map zw))])[i]? =some row2:=b;replace a:RL[i]? =some row:=a;by_cases hir:i=r
  ·subst hir;rw[hr]at a;cases a;rw[De (Ba.1 hr).1]at b;cases b;refine⟨rfl,fun j x y hx hy=> ?_⟩;cases j with
   |zero=>cases hx;cases hy;exact .inr ⟨_,rfl,SA hc k2⟩
   |succ j=>cases hx
  ·rw[Jd (Ne.symm hir),a]at b;cases b;exact⟨rfl,fun j x y hx hy=>by rw[hx]at hy;cases hy;exact RcC.refl x⟩
 ·by_cases h2:id∈zy c
  ·have:=k2 id h2;replace ho:get2 id=some o2:=ho;rw[this]at ho;cases ho
  ·have:=k3 id h1 h2;replace ho:get2 id=some o2:=ho;rw[this]at ho;exact⟨o2,ho,RcO.refl o2⟩
structure zmI (get:Get) (aO aL idO idL k nx:Nat) (RL:List (List CV)) (c1 c2:CV) (v1 v2:List zg) (o:zf) (U:Get):Prop where
 uO:U aO=some ⟨22,1,[[.osl idO 0 k]],none⟩
 uL:U aL=some ⟨52,1,[[.osl idL 0 (k+1)]],none⟩
 uI:U idL=some ⟨23,1,(RL.set (k+1) [.p (.sl (v2.map zw))]).set k [.osl nx 0 (v1.length+1)],none⟩
 uN:U nx=some ⟨49,6,v1.map vlC++[vlC ⟨o,v2⟩],none⟩
 gone: ∀id,id∈zy c1\/id∈zy c2->U id=none
 keep: ∀id,id≠aO->id≠aL->id≠idL->id≠nx->id ∉ zy c1->id ∉ zy c2->U id=get id
def Vn(aO aL idO idL k nx:Nat)(RL:List (List CV))(c1 c2:CV)(v1 v2:List zg)(o:zf):List (Nat×Option OB):=
 [(aO,some ⟨22,1,[[.osl idO 0 k]],none⟩),(aL,some ⟨52,1,[[.osl idL 0 (k+1)]],none⟩),(idL,some ⟨23,1,(RL.set (k+1) [.p (.sl (v2.map zw))]).set k [.osl nx 0 (v1.length+1)],none⟩),
  (nx,some ⟨49,6,v1.map vlC++[vlC ⟨o,v2⟩],none⟩)]++((zy c1++zy c2).map fun i=>(i,none))
theorem AB{get:Get}(b:List (Nat×Option OB)): ∀(a:List (Nat×Option OB)) (i:Nat),upd get (a++b) i=upd (upd get b) a i
 |[],_=>rfl
 |(j,o)::a,i=>by simp only[Xc,upd];rw[AB b a i]
theorem Dx{get:Get}: ∀(l:List Nat) (i:Nat),upd get (l.map fun i=>(i,none)) i=if i∈l then none else get i
 |[],_=>rfl
 |j::l,i=>by
  simp only[Na,upd];rw[Dx l i];by_cases h:i=j
  ·rw[Va h,Va (by rw[h];exact Ib ..)]
  ·rw[Oa h];by_cases h2:i∈l
   ·rw[Va h2,Va (Fb _ h2)]
   ·rw[Oa h2,Oa (fun h3=>(Ra.1 h3).elim h h2)]
theorem CE{get:Get}{aO aL idO idL k nx:Nat}{RL:List (List CV)}{c1 c2:CV}{v1 v2:List zg}{o:zf}(n1:aO≠aL)(n2:aO≠idL)(n3:aL≠idL)(n4:aO≠nx/\aL≠nx/\idL≠nx)(n5: ∀id,id∈zy c1\/id∈zy c2->id≠aO/\id≠aL/\id≠idL/\id≠nx):
  zmI get aO aL idO idL k nx RL c1 c2 v1 v2 o (upd get (Vn aO aL idO idL k nx RL c1 c2 v1 v2 o)):=by
 obtain⟨n6,n7,n8⟩:=n4;have key: ∀i,upd get (Vn aO aL idO idL k nx RL c1 c2 v1 v2 o) i=_:=fun i=>AB _ _ i;refine⟨?_,?_,?_,?_,fun id hid=> ?_,fun id h1 h2 h3 h4 h5 h6=> ?_⟩
 all_goals rw[key]
 all_goals simp only[upd]
 ·rw[Va trivial]
 ·rw[Oa (Ne.symm n1),Va trivial]
 ·rw[Oa (Ne.symm n2),Oa (Ne.symm n3),Va trivial]
 ·rw[Oa (Ne.symm n6),Oa (Ne.symm n7),Oa (Ne.symm n8),Va trivial]
 ·obtain⟨q1,q2,q3,q4⟩:=n5 id hid;rw[Oa q1,Oa q2,Oa q3,Oa q4,Dx,Va (Eb.2 hid)]
 ·rw[Oa h1,Oa h2,Oa h3,Oa h4,Dx,Oa (fun h=>(Eb.1 h).elim h5 h6)]
theorem Tq{hs:List Nat}{nx id:Nat}(h:id ∉ hs):rnI hs nx id=id:=by
 unfold rnI;cases hi:hs.idxOf? id with
 |none=>rfl
 |some j=>exact absurd (Ia (Bw hi)) h
theorem xI{hs:List Nat}{nx:Nat}{c:CV}(h: ∀id∈zy c,id ∉ hs):rnC hs nx c=c:=by
 cases c with
 |p x=>rfl
 |osl id off n=>simp only[rnC,Tq (h id (Fa.2 rfl))]
 |optr id row cell=>simp only[rnC,Tq (h id (Fa.2 rfl))]
 |mref id=>simp only[rnC,Tq (h id (Fa.2 rfl))]
 |fsl rows=>rfl
 |clo f caps=> simp only[rnC];congr 1;refine(Ha fun q hq=> ?_).trans (List.map_id caps);rw[Tq (h q.1 (Da.2 ⟨q,hq,rfl⟩))];rfl
theorem Ur{hs:List Nat}{nx:Nat}{rows:List (List CV)}(h: ∀row∈rows,∀c∈row,∀id∈zy c,id ∉ hs):rows.map (·.map (rnC hs nx))=rows:=by refine(Ha fun row hr=> ?_).trans (List.map_id rows);exact(Ha fun c hc=>xI (h row hr c hc)).trans (List.map_id row)
theorem dB{v:zg}: ∀c∈vlC v,zy c=[]:=fun c hc=>by unfold vlC at hc;obtain⟨p,_,rfl⟩:=Da.1 hc;rfl
theorem dL{v:List zg}{x:zg}: ∀row∈v.map vlC++[vlC x],∀c∈row,zy c=[]:=fun row hr=>by
 rcases Eb.1 hr with hr|hr
 ·obtain⟨z,_,rfl⟩:=Da.1 hr;exact dB
 ·rw[Fa.1 hr];exact dB
theorem oI {aO aL idO idL k nx:Nat} {RL RO:List (List CV)} {o:zf} {c1 c2:CV} {v1 v2:List zg} {rd:List (Nat×OB)} (hk:k<=16) (hv1:v1.length<=3000) (r1:RL[k]? =some [c1]) (r2:RL[k+1]? =some [c2]) (r3:RO[k]? =some (tkC o))
  (d0:(aO,(⟨22,1,[[.osl idO 0 (k+1)]],none⟩:OB))∈rd) (d1:(aL,(⟨52,1,[[.osl idL 0 (k+2)]],none⟩:OB))∈rd) (d2:(idL,(⟨23,1,RL,none⟩:OB))∈rd) (d3:(idO,(⟨44,5,RO,none⟩:OB))∈rd)
  (q1:c1=nilC/\v1=[]\/ ∃id,c1= .osl id 0 v1.length/\(id,(⟨49,6,v1.map vlC,none⟩:OB))∈rd) (q2:c2=nilC/\v2=[]\/ ∃id,c2= .osl id 0 v2.length/\(id,(⟨49,6,v2.map vlC,none⟩:OB))∈rd)
  (hne: ∀id∈zy c1,id ∉ zy c2) (hrefs: ∀i row,RL[i]? =some row->i≠k+1-> ∀c∈row,∀id∈zy c,∃ob,(id,ob)∈rd):
  zbA P 60 [.c (.optr aO 0 0), .c (.optr aL 0 0)] rd nx 1 (.tup []) (Vn aO aL idO idL k nx RL c1 c2 v1 v2 o):=by
 refine VF (fn:=Tryz.f60) (c:=match Tryz.f60.body with|some c=>c|none=> .skip) (rs:=[]) (nt:=46) Tryz.func60 rfl rfl rfl (by kernel_rfl) (Bb rfl) fun get M hM hget hrd=> ?_;have hL:=hrd _ d1;have hO:=hrd _ d0;have hIL:=hrd _ d2;have hIO:=hrd _ d3;have lt: ∀{id:Nat} {ob:OB},get id=some ob->id<M:=fun h=>(hget _ _ h).1;have nn: ∀{id:Nat} {ob:OB},get id=some ob->id≠nx:=fun h=>by have:=(hget _ _ h).2;omega
 have n1:aO≠aL:=at1 hO hL rfl;have n2:aO≠idL:=at1 hO hIL rfl;have n3:aL≠idL:=at1 hL hIL rfl;have n4:idO≠idL:=at1 hIO hIL rfl;have L1:Lst get c1 v1:=q1.elim .inl fun⟨id,h1,h2⟩=> .inr ⟨id,h1,hrd _ h2⟩;have L2:Lst get c2 v2:=q2.elim .inl fun⟨id,h1,h2⟩=> .inr ⟨id,h1,hrd _ h2⟩;have rf: ∀{c:CV} {v:List zg},Lst get c v-> ∀id∈zy c,get id=some ⟨49,6,v.map vlC,none⟩:=fun {c v} h id hid=>by
  rcases h with⟨rfl,_⟩|⟨i,rfl,h⟩
  ·cases hid
  ·rw[Fa.1 hid];exact h
 have f1:=rf L1;have f2:=rf L2
 -- the list that is shut is frozen
 let g2:Get:=fun id=>if id=idL then some ⟨23,1,RL.set (k+1) [.p (.sl (v2.map zw))],none⟩else if id∈zy c2 then none else get id
 have g2I:g2 idL=some ⟨23,1,RL.set (k+1) [.p (.sl (v2.map zw))],none⟩:=Va rfl;have g2k: ∀id,id≠idL->id ∉ zy c2->g2 id=get id:=fun id h1 h2=>by show(if _ then _ else if _ then _ else _)=_;rw[Oa h1,Oa h2]
 have hi2:idL ∉ zy c2:=fun h=>at1 hIL (f2 _ h) rfl rfl;refine SW.sub (CJ hIL r2 L2 hi2 g2 g2I (fun id hid=>by show(if _ then _ else if _ then _ else _)=_;rw[Oa (fun(e:id=idL)=>hi2 (by rw[<-e];exact hid)),Va hid]) g2k) ?_;have e2: ∀{id:Nat} {ob:OB},get id=some ob->id≠idL->Nat.beq ob.ty 49=false->g2 id=some ob:=fun {id ob} h h1 h2=>by rw[g2k id h1 fun h3=>by have:=f2 id h3;rw[h]at this;cases this;cases h2];exact h
 have gL:=e2 hL n3 rfl;have gO:=e2 hO n2 rfl;have gIO:=e2 hIO n4 rfl;have hl1:k+1<RL.length:=(Ba.1 r2).1;have hM1:aL<M/\aO<M/\idL<M/\idO<M:=⟨lt hL,lt hO,lt hIL,lt hIO⟩;obtain⟨m1,m2,m3,m4⟩:=hM1;refine pI (k:=k) (RL:=RL.set (k+1) [.p (.sl (v2.map zw))]) (RO:=RO) (o:=o) (v2:=v2) (c:=match Tryz.f60.body with|some (.seq _ (.seq _ (.seq _ c)))=>c|_=> .skip) hk gL gO g2I gIO (De hl1) r3 ⟨m1,m2,m3,m4⟩ fun e h0 h1 h2 h3=> ?_;have r1':(RL.set (k+1) [.p (.sl (v2.map zw))])[k]? =some [c1]:=by rw[Jd (by omega)];exact r1
 generalize hG:upd (upd (upd (upd g2 [(M,some ⟨49,6,[z6],none⟩)]) [(M,some ⟨49,6,[vlC ⟨o,v2⟩],none⟩)]) [(aL,some ⟨52,1,[[.osl idL 0 (k+1)]],none⟩)]) [(aO,some ⟨22,1,[[.osl idO 0 k]],none⟩)]=G;have Gk: ∀id,id≠M->id≠aL->id≠aO->G id=g2 id:=fun id a b c=>by rw[<-hG];exact upK (upK (upK (upK rfl a) a) b) c
 have GL:G aL=some ⟨52,1,[[.osl idL 0 (k+1)]],none⟩:=by rw[<-hG];exact upK upS (Ne.symm n1)
 have GO:G aO=some ⟨22,1,[[.osl idO 0 k]],none⟩:=by rw[<-hG];exact upS
 have GI:G idL=_:=(Gk idL (by omega) (Ne.symm n3) (Ne.symm n2)).trans g2I;have GM:G M=some ⟨49,6,[vlC ⟨o,v2⟩],none⟩:=by rw[<-hG];exact upK (upK upS (by omega)) (by omega)
 have c1M: ∀id∈zy c1,id<M:=fun id hid=>lt (f1 id hid);have c1k: ∀id∈zy c1,id≠aL/\id≠aO/\id≠idL:=fun id hid=>⟨at1 (f1 id hid) hL rfl,at1 (f1 id hid) hO rfl,at1 (f1 id hid) hIL rfl⟩;have c2k: ∀id∈zy c2,id≠aL/\id≠aO/\id≠idL:=fun id hid=>⟨at1 (f2 id hid) hL rfl,at1 (f2 id hid) hO rfl,at1 (f2 id hid) hIL rfl⟩;have L1G:Lst G c1 v1:=by
  rcases L1 with h|⟨id,rfl,h⟩
  ·exact .inl h
  ·have hm:id∈zy (.osl id 0 v1.length):=Fa.2 rfl;obtain⟨a,b,c⟩:=c1k id hm;exact .inr ⟨id,rfl,by rw[Gk id (by have:=c1M id hm;omega) a b,g2k id c (hne id hm)];exact h⟩
 refine MO (src:=M) (N:=M+1) (xc:=vlC ⟨o,v2⟩) h1 h2 h3 GL GI r1' GM (uA _) (fun h=>by have:=c1M _ h;omega) L1G hv1 ⟨by omega,by omega,by omega⟩ (fun i hi=>Ya (c1M i hi)) fun e' get' hput=> ?_;obtain⟨t1,t2,t3,t4⟩:=hput;have hU:=CE (get:=get) (idO:=idO) (k:=k) (nx:=nx) (RL:=RL) (c1:=c1) (c2:=c2) (v1:=v1) (v2:=v2) (o:=o) n1 n2 n3 ⟨nn hO,nn hL,nn hIL⟩ (fun id hid=>by
  rcases hid with hid|hid
  ·obtain⟨a,b,c⟩:=c1k id hid;exact⟨b,a,c,nn (f1 id hid)⟩
  ·obtain⟨a,b,c⟩:=c2k id hid;exact⟨b,a,c,nn (f2 id hid)⟩)
 have keep: ∀id,id<M->id≠idL->id ∉ zy c1->get' id=G id:=fun id a b c=>t4 id (by omega) b c;refine⟨.inl rfl,[M+3],[],rfl,by simp,fun i hi=> .inl (by rw[Fa.1 hi];omega),trivial,(fun t ht=>by cases ht),rfl,fun j hj=> ?_,fun id o1 ho1=> ?_⟩
 ·replace hj:j<1:=hj;obtain rfl:j=0:=by omega
  show(upd get _ (nx+0)).isSome=true;rw[Pd,hU.uN];rfl
 ·have ne3: ∀{id:Nat},id<M->id ∉ [M+3]:=fun h h'=>by have:=Fa.1 h';omega
  by_cases i1:id=nx
  ·subst i1;rw[hU.uN]at ho1;cases ho1;have pure: ∀row∈v1.map vlC++[vlC ⟨o,v2⟩],∀c∈row,zy c=[]:=dL;refine .inl ⟨0,M+3,_,rfl,rfl,t2,?_,fun i hi=> ?_⟩
   ·unfold rnO;rw[Ur (fun row hr c hc i hi=>by rw[pure row hr c hc]at hi;cases hi)]
   ·simp only[Gg,Xa]at hi;obtain⟨row,hr,c,hc,hi⟩:=hi;rw[pure row hr c hc]at hi;cases hi
  refine .inr ?_;by_cases i2:id=aO
  ·subst i2;rw[hU.uO]at ho1;cases ho1;refine⟨_,_,hO,(keep id m2 n2 (fun h=>(c1k id h).2.1 rfl)).trans GO, .inr ⟨?_,fun i hi=> .inr ?_⟩⟩
   ·unfold rnO;rw[Ur (fun row hr c hc i hi=>by
     rw[Fa.1 hr]at hc;rw[Fa.1 hc]at hi;rw[Fa.1 hi];exact ne3 m4)]
   ·have:i=idO:=by simpa [Gg,zy] using hi
    rw[this];exact m4
  by_cases i3:id=aL
  ·subst i3;rw[hU.uL]at ho1;cases ho1;refine⟨_,_,hL,(keep id m1 n3 (fun h=>(c1k id h).1 rfl)).trans GL, .inr ⟨?_,fun i hi=> .inr ?_⟩⟩
   ·unfold rnO;rw[Ur (fun row hr c hc i hi=>by
     rw[Fa.1 hr]at hc;rw[Fa.1 hc]at hi;rw[Fa.1 hi];exact ne3 m3)]
   ·have:i=idL:=by simpa [Gg,zy] using hi
    rw[this];exact m3
  by_cases i4:id=idL
  ·subst i4;rw[hU.uI]at ho1;cases ho1;have rowsM: ∀i row,(RL.set (k+1) [.p (.sl (v2.map zw))])[i]? =some row-> ∀c∈row,∀j∈zy c,j<M:=fun i row hi c hc j hj=>by
    by_cases hik:i=k+1
    ·subst hik;rw[De hl1]at hi;cases hi;rw[Fa.1 hc]at hj;cases hj
    ·rw[Jd (Ne.symm hik)]at hi;obtain⟨ob,hob⟩:=hrefs i row hi hik c hc j hj;exact lt (hrd _ hob)
   have rowsM': ∀row∈RL.set (k+1) [.p (.sl (v2.map zw))],∀c∈row,∀j∈zy c,j<M:=fun row hr=>by obtain⟨i,hi⟩:=List.mem_iff_getElem?.1 hr;exact rowsM i row hi
   refine⟨_,_,hIL,t1, .inr ⟨?_,fun i hi=> ?_⟩⟩
   ·unfold rnO;rw[List.map_set,Ur (fun row hr c hc i hi=>ne3 (rowsM' row hr c hc i hi))];have:rnI [M+1+2] nx (M+1+2)=nx:=by unfold rnI;rw[show [M+1+2].idxOf? (M+1+2)=some 0 by simp[List.idxOf?,List.findIdx?_cons]];rfl
    simp only[Na,Rb,rnC];rw[show rnI [M+3] nx (M+1+2)=nx from this]
   ·simp only[Gg,Xa]at hi;obtain⟨row,hr,c,hc,hi⟩:=hi;rcases List.mem_or_eq_of_mem_set hr with hr|hr
    ·exact .inr (rowsM' row hr c hc i hi)
    ·subst hr;rw[Fa.1 hc]at hi;exact .inl hi
  ·by_cases i5:id∈zy c1\/id∈zy c2
   ·rw[hU.gone id i5]at ho1;cases ho1
   ·have i6:id ∉ zy c1:=fun h=>i5 (.inl h);have i7:id ∉ zy c2:=fun h=>i5 (.inr h);rw[hU.keep id i2 i3 i4 i1 i6 i7]at ho1;have hlt:=lt ho1;exact⟨o1,o1,ho1,by show get' id=some o1;rw[keep id hlt i4 i6,Gk id (by omega) i3 i2,g2k id i4 i7];exact ho1, .inl ⟨rfl,rfl⟩⟩
theorem qp{α:Type}{l:List α}{x y:α}{i:Nat}(h:(l++[x])[i]? =some y):(i<l.length/\l[i]? =some y)\/(i=l.length/\y=x):=by
 rcases Nat.lt_trichotomy i l.length with q|q|q
 ·rw[Ua q]at h;exact .inl ⟨q,h⟩
 ·subst q;rw[Mc (Ma _),Nat.sub_self]at h;cases h;exact .inr ⟨rfl,rfl⟩
 ·rw[Mc (by omega)]at h;have:=(Ba.1 h).1;simp at this;omega
theorem ZR{α:Type}(l:List α)(x:α):(l++[x])[l.length]? =some x:=by rw[Mc (Ma _),Nat.sub_self];rfl
structure PI (get:Get) (N M0:Nat) (get0:Get) (aL aO b:Nat) (os:List zf) (vs:List (List zg)) (idL:Nat) (RL:List (List CV)) (cs:List CV) (cO:CV):Prop where
 hL:get aL=some ⟨52,1,[[.osl idL 0 (os.length+1)]],none⟩
 hI:get idL=some ⟨23,1,RL,none⟩
 hcl:cs.length=os.length+1
 hvl:vs.length=os.length+1
 hrow: ∀(i:Nat) c,cs[i]? =some c->RL[i]? =some [c]
 hst: ∀(i:Nat) row,RL[i]? =some row->os.length<i-> ∀c∈row,zy c=[]
 hlst: ∀(i:Nat) c v,cs[i]? =some c->vs[i]? =some v->Lst get c v
 hdis: ∀(i j:Nat) c d,i≠j->cs[i]? =some c->cs[j]? =some d-> ∀id∈zy c,id ∉ zy d
 hO:get aO=some ⟨22,1,[[cO]],none⟩
 hop:(cO=nilC/\os=[])\/ ∃idO RO,cO= .osl idO 0 os.length/\get idO=some ⟨44,5,RO,none⟩/\M0<=idO/\idO<N/\ ∀(i:Nat) o,os[i]? =some o->RO[i]? =some (tkC o)
 hn:os.length<=16
 hb: ∀v∈vs,v.length<=b
 hk: ∀id,id<M0->get id=get0 id
 hM:M0<=aL/\M0<=aO/\M0<=idL/\aL<N/\aO<N/\idL<N
 href: ∀c∈cs,∀id∈zy c,M0<=id/\id<N
section
variable {get get':Get} {N N' M0 aL aO b b':Nat} {get0:Get} {os:List zf} {vs:List (List zg)} {idL:Nat} {RL:List (List CV)} {cs:List CV} {cO:CV}
theorem Lst.keep{c:CV}{v:List zg}(h:Lst get c v)(hk: ∀id∈zy c,get' id=get id):Lst get' c v:=by
 rcases h with h|⟨id,rfl,h⟩
 ·exact .inl h
 ·exact .inr ⟨id,rfl,(hk id (Fa.2 rfl)).trans h⟩
theorem Lst.at{c:CV}{v:List zg}(h:Lst get c v): ∀id∈zy c,get id=some ⟨49,6,v.map vlC,none⟩:=fun id hid=>by
 rcases h with⟨rfl,_⟩|⟨i,rfl,h⟩
 ·cases hid
 ·rw[Fa.1 hid];exact h
theorem PI.grow(h:PI get N M0 get0 aL aO b os vs idL RL cs cO)(hN:N<=N')(hb:b<=b')(hM:M0<=N)(hk: ∀id,id<N->get' id=get id):PI get' N' M0 get0 aL aO b' os vs idL RL cs cO:=by
 obtain⟨m1,m2,m3,m4,m5,m6⟩:=h.hM;refine⟨(hk _ m4).trans h.hL,(hk _ m6).trans h.hI,h.hcl,h.hvl,h.hrow,h.hst,fun i c v h1 h2=>(h.hlst i c v h1 h2).keep fun id hid=>hk id (h.href c (Ia h1) id hid).2,h.hdis,(hk _ m5).trans h.hO,?_,h.hn,
  fun v hv=>ja (h.hb v hv) hb,fun id hid=>(hk id (Kb hid hM)).trans (h.hk id hid),⟨m1,m2,m3,by omega,by omega,by omega⟩,fun c hc id hid=>⟨(h.href c hc id hid).1,Kb (h.href c hc id hid).2 hN⟩⟩
 rcases h.hop with q|⟨idO,RO,q1,q2,q3,q4,q5⟩
 ·exact .inl q
 ·exact .inr ⟨idO,RO,q1,(hk _ q4).trans q2,q3,by omega,q5⟩
theorem PI.ne(h:PI get N M0 get0 aL aO b os vs idL RL cs cO):aO≠aL/\aO≠idL/\aL≠idL:=⟨at1 h.hO h.hL rfl,at1 h.hO h.hI rfl,at1 h.hL h.hI rfl⟩
theorem PI.lst(h:PI get N M0 get0 aL aO b os vs idL RL cs cO){c:CV}(hc:c∈cs): ∃v,Lst get c v:=by
 obtain⟨i,hi⟩:=List.mem_iff_getElem?.1 hc;have hl:=(Ba.1 hi).1;have hl2:i<vs.length:=by rw[h.hvl,<-h.hcl];exact hl
 exact⟨_,h.hlst i c _ hi (Ea hl2)⟩
theorem PI.put {vs0:List (List zg)} {cur:List zg} {cs0:List CV} {c:CV} {t:zf} {n:Nat} (h:PI get N M0 get0 aL aO b os (vs0++[cur]) idL RL (cs0++[c]) cO) (hp:Put get idL os.length n RL c cur (vlC ⟨t,[]⟩) get') (hn:N<=n) (hnN:n<N')
  (hfr: ∀id,id<N->id+2<n) (hM:M0<=N):PI get' N' M0 get0 aL aO (b+1) os (vs0++[cur++[⟨t,[]⟩]]) idL (RL.set os.length [.osl n 0 (cur.length+1)]) (cs0++[.osl n 0 (cur.length+1)]) cO:=by
 obtain⟨p1,p2,p3,p4⟩:=hp;obtain⟨n1,n2,n3⟩:=h.ne;obtain⟨m1,m2,m3,m4,m5,m6⟩:=h.hM;have hcl:cs0.length=os.length:=by have:=h.hcl;rw[Ja]at this;simpa using this
 have hvl:vs0.length=os.length:=by have:=h.hvl;rw[Ja]at this;simpa using this
 have hLc:Lst get c cur:=h.hlst os.length c cur (by rw[<-hcl];exact ZR _ _) (by rw[<-hvl];exact ZR _ _);have hcR: ∀id∈zy c,M0<=id/\id<N:=h.href c (by simp);have kp: ∀id,id<N->id≠idL->id ∉ zy c->get' id=get id:=fun id a b d=>p4 id (hfr id a) b d;have nc: ∀{id:Nat} {ob:OB},get id=some ob->Nat.beq ob.ty 49=false->id ∉ zy c:=fun {id ob} ho hb hid=>by have:=hLc.at id hid;rw[ho]at this;cases this;cases hb
 have hl1:os.length<RL.length:=(Ba.1 (h.hrow os.length c (by rw[<-hcl];exact ZR _ _))).1;refine⟨(kp aL m4 n3 (nc h.hL rfl)).trans h.hL,p1,by rw[Ja,hcl];rfl,by rw[Ja,hvl];rfl,fun i d hi=> ?_,fun i row hi hlt=> ?_,fun i d v hi hv=> ?_,fun i j d d' hij hi hj id hid=> ?_,(kp aO m5 n2 (nc h.hO rfl)).trans h.hO,?_,h.hn,
  fun v hv=> ?_,fun id hid=>(kp id (by omega) (by omega) (fun q=>by have:=(hcR id q).1;omega)).trans (h.hk id hid),⟨m1,m2,m3,by omega,by omega,by omega⟩,fun d hd id hid=> ?_⟩
 ·rcases qp hi with⟨h1,h2⟩|⟨h1,rfl⟩
  ·rw[Jd (by omega)];exact h.hrow i d (by rw[Ua h1];exact h2)
  ·rw[h1,hcl,De hl1]
 ·rw[Jd (by omega)]at hi;exact h.hst i row hi hlt
 ·rcases qp hi with⟨h1,h2⟩|⟨h1,rfl⟩
  ·rcases qp hv with⟨h3,h4⟩|⟨h3,_⟩
   ·have hd:(cs0++[c])[i]? =some d:=by rw[Ua h1];exact h2
    refine(h.hlst i d v hd (by rw[Ua h3];exact h4)).keep fun id hid=> ?_;have hr:=h.href d (Ia hd) id hid;refine kp id hr.2 (fun e=> ?_) (h.hdis i os.length d c (by omega) hd (by rw[<-hcl];exact ZR _ _) id hid);obtain⟨v',hv'⟩:=h.lst (Ia hd);exact at1 (hv'.at id hid) h.hI rfl e
   ·omega
  ·rcases qp hv with⟨h3,_⟩|⟨_,rfl⟩
   ·omega
   ·refine .inr ⟨n,by rw[Ja];rfl,?_⟩;rw[Vb];exact p2
 ·rcases qp hi with⟨h1,h2⟩|⟨h1,rfl⟩
  ·have hd:(cs0++[c])[i]? =some d:=by rw[Ua h1];exact h2
   rcases qp hj with⟨h3,h4⟩|⟨h3,rfl⟩
   ·exact h.hdis i j d d' hij hd (by rw[Ua h3];exact h4) id hid
   ·intro q;have:=Fa.1 q;have:=(h.href d (Ia hd) id hid).2;omega
  ·rcases qp hj with⟨h3,h4⟩|⟨h3,rfl⟩
   ·have hd:(cs0++[c])[j]? =some d':=by rw[Ua h3];exact h4
    intro q;have e:=Fa.1 hid;have:=(h.href d' (Ia hd) id q).2;omega
   ·omega
 ·rcases h.hop with q|⟨idO,RO,q1,q2,q3,q4,q5⟩
  ·exact .inl q
  ·exact .inr ⟨idO,RO,q1,(kp idO q4 (at1 q2 h.hI rfl) (nc q2 rfl)).trans q2,q3,by omega,q5⟩
 ·rcases Eb.1 hv with hv|hv
  ·have:=h.hb v (Hd _ hv);omega
  ·rw[Fa.1 hv,Ja];have:=h.hb cur (by simp);show cur.length+1<=b+1;omega
 ·rcases Eb.1 hd with hd|hd
  ·have:=h.href d (Hd _ hd) id hid;exact⟨this.1,by omega⟩
  ·rw[Fa.1 hd]at hid;rw[Fa.1 hid];exact⟨by omega,hnN⟩
theorem PI.push {t:zf} {nL nO:Nat} {ROs:List (List CV)} (h:PI get N M0 get0 aL aO b os vs idL RL cs cO) (hn:os.length<16) (f1:get' aL=some ⟨52,1,[[.osl nL 0 (os.length+2)]],none⟩) (f2:get' nL=some ⟨23,1,RL.take (os.length+1)++[[nilC]],none⟩)
  (f3:get' aO=some ⟨22,1,[[.osl nO 0 (os.length+1)]],none⟩) (f4:get' nO=some ⟨44,5,ROs,none⟩) (f4': ∀(i:Nat) o,(os++[t])[i]? =some o->ROs[i]? =some (tkC o))
  (f5: ∀id,id<N->id≠aL->id≠aO->id≠idL->id ∉ zy cO->get' id=get id) (hL:N<=nL/\nL<N') (hO:N<=nO/\nO<N') (hM:M0<=N):
  PI get' N' M0 get0 aL aO b (os++[t]) (vs++[[]]) nL (RL.take (os.length+1)++[[nilC]]) (cs++[nilC]) (.osl nO 0 (os.length+1)):=by
 obtain⟨n1,n2,n3⟩:=h.ne;obtain⟨m1,m2,m3,m4,m5,m6⟩:=h.hM;have hol:(os++[t]).length=os.length+1:=by rw[Ja];rfl
 have hRl:os.length+1<=RL.length:=by
  have hlt:os.length<cs.length:=by rw[h.hcl];exact Cb _
  have:=(Ba.1 (h.hrow os.length _ (Ea hlt))).1;omega
 have htl:(RL.take (os.length+1)).length=os.length+1:=by rw[Ad];omega
 have cOr: ∀id∈zy cO,∃RO,get id=some ⟨44,5,RO,none⟩/\M0<=id:=fun id hid=>by
  rcases h.hop with⟨rfl,_⟩|⟨idO,RO,rfl,q2,q3,_⟩
  ·cases hid
  ·rw[Fa.1 hid];exact⟨RO,q2,q3⟩
 have kc: ∀c∈cs,∀id∈zy c,get' id=get id:=fun c hc id hid=>by
  obtain⟨v,hv⟩:=h.lst hc;have hg:=hv.at id hid;exact f5 id (h.href c hc id hid).2 (at1 hg h.hL rfl) (at1 hg h.hO rfl) (at1 hg h.hI rfl) fun q=>by obtain⟨RO,q2,_⟩:=cOr id q;exact at1 hg q2 rfl rfl
 refine⟨by rw[hol];exact f1,f2,by rw[Ja,h.hcl,hol];rfl,by rw[Ja,h.hvl,hol];rfl,fun i d hi=> ?_,fun i row hi hlt=> ?_,fun i d v hi hv=> ?_,fun i j d d' hij hi hj id hid=> ?_,f3, .inr ⟨nO,ROs,by rw[hol],f4,by omega,hO.2,f4'⟩,by rw[hol];omega,
  fun v hv=> ?_,fun id hid=>(f5 id (by omega) (by omega) (by omega) (by omega) (fun q=>by obtain⟨_,_,q3⟩:=cOr id q;omega)).trans (h.hk id hid),⟨m1,m2,by omega,by omega,by omega,hL.2⟩,fun d hd id hid=> ?_⟩
 ·rcases qp hi with⟨h1,h2⟩|⟨h1,rfl⟩
  ·have hlt:i<os.length+1:=by rw[<-h.hcl];exact h1
   rw[Ua (by rw[htl];exact hlt),List.getElem?_take_of_lt hlt];exact h.hrow i d h2
  ·rw[h1,h.hcl];have:=ZR (RL.take (os.length+1)) [nilC]
   rwa [htl]at this
 ·have:=(Ba.1 hi).1;rw[Ja,htl]at this;simp at this;omega
 ·rcases qp hi with⟨h1,h2⟩|⟨h1,rfl⟩
  ·rcases qp hv with⟨h3,h4⟩|⟨h3,_⟩
   ·exact(h.hlst i d v h2 h4).keep (kc d (Ia h2))
   ·rw[h.hvl,<-h.hcl]at h3;omega
  ·rcases qp hv with⟨h3,_⟩|⟨_,rfl⟩
   ·rw[h.hvl,<-h.hcl]at h3;omega
   ·exact .inl ⟨rfl,rfl⟩
 ·rcases qp hi with⟨h1,h2⟩|⟨h1,rfl⟩
  ·rcases qp hj with⟨h3,h4⟩|⟨h3,rfl⟩
   ·exact h.hdis i j d d' hij h2 h4 id hid
   ·intro q;cases q
  ·cases hid
 ·rcases Eb.1 hv with hv|hv
  ·exact h.hb v hv
  ·rw[Fa.1 hv];exact Nb _
 ·rcases Eb.1 hd with hd|hd
  ·have:=h.href d hd id hid;exact⟨this.1,by omega⟩
  ·rw[Fa.1 hd]at hid;cases hid
theorem PI.shut {os0:List zf} {o:zf} {vs0:List (List zg)} {v1 v2:List zg} {cs0:List CV} {c1 c2:CV} {idO:Nat} {RO:List (List CV)} (h:PI get N M0 get0 aL aO b (os0++[o]) (vs0++[v1]++[v2]) idL RL (cs0++[c1]++[c2]) (.osl idO 0 (os0.length+1)))
  (hRO:get idO=some ⟨44,5,RO,none⟩) (hRO': ∀(i:Nat) o',(os0++[o])[i]? =some o'->RO[i]? =some (tkC o')) (hOM:M0<=idO/\idO<N) (hU:zmI get aO aL idO idL os0.length N RL c1 c2 v1 v2 o get') (hM:M0<=N):
  PI get' (N+1) M0 get0 aL aO (b+1) os0 (vs0++[v1++[⟨o,v2⟩]]) idL ((RL.set (os0.length+1) [.p (.sl (v2.map zw))]).set os0.length [.osl N 0 (v1.length+1)]) (cs0++[.osl N 0 (v1.length+1)]) (.osl idO 0 os0.length):=by
 obtain⟨n1,n2,n3⟩:=h.ne;obtain⟨m1,m2,m3,m4,m5,m6⟩:=h.hM;have hol:(os0++[o]).length=os0.length+1:=by rw[Ja];rfl
 have hcl:cs0.length=os0.length:=by have:=h.hcl;simp only[Ja,Ob,Tc]at this;omega
 have hvl:vs0.length=os0.length:=by have:=h.hvl;simp only[Ja,Ob,Tc]at this;omega
 have a1:(cs0++[c1]++[c2])[os0.length]? =some c1:=by rw[Ua (by simp;omega),<-hcl];exact ZR _ _
 have a2:(cs0++[c1]++[c2])[os0.length+1]? =some c2:=by rw[show os0.length+1=(cs0++[c1]).length by simp;omega];exact ZR _ _
 have b1:(vs0++[v1]++[v2])[os0.length]? =some v1:=by rw[Ua (by simp;omega),<-hvl];exact ZR _ _
 have b2:(vs0++[v1]++[v2])[os0.length+1]? =some v2:=by rw[show os0.length+1=(vs0++[v1]).length by simp;omega];exact ZR _ _
 have a0: ∀{i:Nat} {d:CV},i<cs0.length->cs0[i]? =some d->(cs0++[c1]++[c2])[i]? =some d:=fun {i d} h1 h2=>by rw[Ua (by simp;omega),Ua h1];exact h2
 have b0: ∀{i:Nat} {d:List zg},i<vs0.length->vs0[i]? =some d->(vs0++[v1]++[v2])[i]? =some d:=fun {i d} h1 h2=>by rw[Ua (by simp;omega),Ua h1];exact h2
 have L1:=h.hlst _ _ _ a1 b1;have L2:=h.hlst _ _ _ a2 b2;have r1:=h.hrow _ _ a1;have r2:=h.hrow _ _ a2;have hl1:os0.length+1<RL.length:=(Ba.1 r2).1;have kp: ∀{id:Nat} {ob:OB},get id=some ob->id<N->id≠aO->id≠aL->id≠idL->id ∉ zy c1->id ∉ zy c2->get' id=get id:=fun hg hlt h1 h2 h3 h4 h5=>hU.keep _ h1 h2 h3 (by omega) h4 h5;have kc: ∀{i:Nat} {d:CV},i<cs0.length->cs0[i]? =some d-> ∀id∈zy d,get' id=get id:=fun {i d} h1 h2 id hid=>by have hd:=a0 h1 h2;obtain⟨v,hv⟩:=h.lst (Ia hd);have hg:=hv.at id hid;exact kp hg (h.href d (Ia hd) id hid).2 (at1 hg h.hO rfl) (at1 hg h.hL rfl) (at1 hg h.hI rfl) (h.hdis _ _ d c1 (by omega) hd a1 id hid) (h.hdis _ _ d c2 (by omega) hd a2 id hid)
 refine⟨hU.uL,hU.uI,by rw[Ja,hcl];rfl,by rw[Ja,hvl];rfl,fun i d hi=> ?_,fun i row hi hlt=> ?_,fun i d v hi hv=> ?_,fun i j d d' hij hi hj id hid=> ?_,hU.uO, .inr ⟨idO,RO,rfl,?_,hOM.1,by omega,fun i o' hi=>hRO' i o' (by rw[Ua (Ba.1 hi).1];exact hi)⟩,by have:=h.hn;rw[hol]at this;omega,
  fun v hv=> ?_,fun id hid=>(hU.keep id (by omega) (by omega) (by omega) (by omega) (fun q=> ?_) (fun q=> ?_)).trans (h.hk id hid),⟨m1,m2,m3,by omega,by omega,by omega⟩,fun d hd id hid=> ?_⟩
 ·rcases qp hi with⟨h1,h2⟩|⟨h1,rfl⟩
  ·rw[Jd (by omega),Jd (by omega)];exact h.hrow i d (a0 h1 h2)
  ·rw[h1,hcl,De (by rw[List.length_set];omega)]
 ·rw[Jd (by omega)]at hi;by_cases h1:i=os0.length+1
  ·subst h1;rw[De hl1]at hi;cases hi;intro c hc;rw[Fa.1 hc];rfl
  ·rw[Jd (Ne.symm h1)]at hi;exact h.hst i row hi (by rw[hol];omega)
 ·rcases qp hi with⟨h1,h2⟩|⟨h1,rfl⟩
  ·rcases qp hv with⟨h3,h4⟩|⟨h3,_⟩
   ·exact(h.hlst i d v (a0 h1 h2) (b0 h3 h4)).keep (kc h1 h2)
   ·omega
  ·rcases qp hv with⟨h3,_⟩|⟨_,rfl⟩
   ·omega
   ·refine .inr ⟨N,by rw[Ja];rfl,?_⟩;rw[Vb];exact hU.uN
 ·rcases qp hi with⟨h1,h2⟩|⟨h1,rfl⟩
  ·rcases qp hj with⟨h3,h4⟩|⟨h3,rfl⟩
   ·exact h.hdis i j d d' hij (a0 h1 h2) (a0 h3 h4) id hid
   ·intro q;have:=Fa.1 q;have:=(h.href d (Ia (a0 h1 h2)) id hid).2;omega
  ·rcases qp hj with⟨h3,h4⟩|⟨h3,rfl⟩
   ·intro q;have e:=Fa.1 hid;have:=(h.href d' (Ia (a0 h3 h4)) id q).2;omega
   ·omega
 ·rw[kp hRO hOM.2 (at1 hRO h.hO rfl) (at1 hRO h.hL rfl) (at1 hRO h.hI rfl) (fun q=>at1 hRO (L1.at _ q) rfl rfl) (fun q=>at1 hRO (L2.at _ q) rfl rfl)];exact hRO
 ·rcases Eb.1 hv with hv|hv
  ·have:=h.hb v (Hd _ (Hd _ hv));omega
  ·rw[Fa.1 hv,Ja];have:=h.hb v1 (by simp);show v1.length+1<=b+1;omega
 ·have:=(h.href c1 (Ia a1) id q).1;omega
 ·have:=(h.href c2 (Ia a2) id q).1;omega
 ·rcases Eb.1 hd with hd|hd
  ·have:=h.href d (Hd _ (Hd _ hd)) id hid;exact⟨this.1,by omega⟩
  ·rw[Fa.1 hd]at hid;rw[Fa.1 hid];exact⟨hM,Cb _⟩
end
section
variable {nt:Nat} {ops:List Oper} {ρ:Nat->Nat} {K:TS->Prop}
theorem Walk.g {o:Oper} {l:List Oper} {f:Fp} {fs:List Fp} {e:Env} {get:Get} {nx d:Nat} {t:TV} {rd:List Nat} (h:Op1 P (opd e) get nx o.op (.v t) rd [] 0) (hdst:o.dst=some d) (hd:Nat.blt d nt=true) (hg:ZV ops e o.guard=some (some true))
  (h2:rd=f.1.map ρ) (h3:[]=f.2.map ρ) (h4:Walk P nt ops ρ l fs ⟨(d, .opt true t)::e,get,nx⟩ K):Walk P nt ops ρ (o::l) (f::fs) ⟨e,get,nx⟩ K:=
 ⟨_,opG h hg (fun d' h'=>by rw[hdst]at h';cases h';exact zU.1 hd),h2,h3,by unfold zO;rw[hdst];exact h4⟩
theorem Walk.f {o:Oper} {l:List Oper} {f:Fp} {fs:List Fp} {e:Env} {get:Get} {nx d:Nat} (t:TV) (hdst:o.dst=some d) (hd:Nat.blt d nt=true) (hg:ZV ops e o.guard=some (some false))
  (h2:[]=f.1.map ρ) (h3:[]=f.2.map ρ) (h4:Walk P nt ops ρ l fs ⟨(d, .opt false t)::e,get,nx⟩ K):Walk P nt ops ρ (o::l) (f::fs) ⟨e,get,nx⟩ K:=
 ⟨_,opF hg (fun d' h'=>by rw[hdst]at h';cases h';exact zU.1 hd) t,h2,h3,by unfold zO;rw[hdst];exact h4⟩
theorem Walk.cl {o:Oper} {l:List Oper} {f:Fp} {fs:List Fp} {e:Env} {get:Get} {nx d:Nat} {c:Call} {x:Operand} {k:Int} (ho:o.op= .call c) (hc:c.callee= .value (.func 61)) (ha:c.args.toList=[x]) (hx:opd e x= .v (.c (.p (.at (.int .u8 k))))) (hdst:o.dst=some d) (hd:Nat.blt d nt=true) (hg:o.guard=none)
  (h2:[]=f.1.map ρ) (h3:[]=f.2.map ρ) (h4:Walk P nt ops ρ l fs ⟨(d, .v (.c (.p (.at (.int .u8 (zI k))))))::e,get,nx⟩ K):Walk P nt ops ρ (o::l) (f::fs) ⟨e,get,nx⟩ K:=
 ⟨_,wy (P:=P) (nt:=nt) (ops:=ops) (o:=o) (s:=⟨e,get,nx⟩) (g:=none) (c:=c) (cf:= .func 61) (f:=61) (caps:=[]) (g0:=true) (g1:=true) («as»:=[.c (.p (.at (.int .u8 k)))]) (rd:=[]) (k:=0) (up:=[]) (by rw[hg];rfl) (fun d' h'=>by rw[hdst]at h';cases h';exact zU.1 hd) ho hc (.inl rfl)
  (by rw[ha];simp only[Na,Rb,hx];rfl) (fun _=>⟨rfl, .inl rfl⟩) (fun _=>VE k nx) (fun p hp=>by cases hp),h2,h3,by unfold zO;rw[hdst];exact h4⟩
theorem Walk.clg {o:Oper} {l:List Oper} {f:Fp} {fs:List Fp} {e:Env} {get:Get} {nx d:Nat} {c:Call} {x:Operand} {k:Int} (ho:o.op= .call c) (hc:c.callee= .value (.func 61)) (ha:c.args.toList=[x]) (hx:opd e x= .opt true (.c (.p (.at (.int .u8 k))))) (hdst:o.dst=some d) (hd:Nat.blt d nt=true) (hg:ZV ops e o.guard=some (some true))
  (h2:[]=f.1.map ρ) (h3:[]=f.2.map ρ) (h4:Walk P nt ops ρ l fs ⟨(d, .opt true (.c (.p (.at (.int .u8 (zI k))))))::e,get,nx⟩ K):Walk P nt ops ρ (o::l) (f::fs) ⟨e,get,nx⟩ K:=
 ⟨_,wy (P:=P) (nt:=nt) (ops:=ops) (o:=o) (s:=⟨e,get,nx⟩) (g:=some true) (c:=c) (cf:= .func 61) (f:=61) (caps:=[]) (g0:=true) (g1:=true) («as»:=[.c (.p (.at (.int .u8 k)))]) (rd:=[]) (k:=0) (up:=[]) hg (fun d' h'=>by rw[hdst]at h';cases h';exact zU.1 hd) ho hc (.inl rfl)
  (by rw[ha];simp only[Na,Rb,hx];rfl) (fun _=>⟨rfl, .inl rfl⟩) (fun _=>VE k nx) (fun p hp=>by cases hp),h2,h3,by unfold zO;rw[hdst];exact h4⟩
end
abbrev Xh:Code:=match Tryz.f16.body with
 |some (.seq _ (.seq _ (.seq _ (.seq _ (.seq (.seq _ (.block _ (.loop (.seq _ (.seq _ (.seq (.block _ (.seq _ (.seq _ (.block _ c)))) _)))))) _)))))=>c
 |_=> .skip
section
variable {aL aO aT n N:Nat} {e:Env} {G:Get} {Q:Post} {t o:zf} {idO:Nat} {RO:List (List CV)}
theorem YK(h5:look e 5= .v (.c (.optr aO 0 0)))(h9:look e 9= .v (.c (.p (.at (.int .i64 ((0:Nat):Int))))))(h: ∀e',(∀t,t<23->look e' t=look e t)->look e' 47= .v (.c (.p (.at (.bool false))))->Q .normal e' ⟨N,G⟩):
  SW P 93 (match Xh with| .seq c _=>c|_=> .skip) Q e ⟨N,G⟩:=by
 refine SW.regD mixed (fun _=>0) 0 (List.replicate 15 ([],[])) (by decide) (fun i j hi=>absurd hi (Ee _)) (by kernel_rfl) (by kernel_rfl) ?_;refine Walk.n (val:= .v (.c (.p (.at (.int .i64 ((0:Nat):Int)))))) (by have:=Op1.move (P:=P) (E:=opd e) (get:=G) (nx:=N) (.tmp 9);rw[show opd e (.tmp 9)=_ from h9]at this;exact this) rfl rfl rfl rfl rfl ?_;refine Walk.n (Op1.bin (val:= .v (.c (.p (.at (.bool false))))) (.inl rfl) (.inl rfl) (fun _ _=>rfl)) rfl rfl rfl rfl rfl ?_;refine Walk.n (Op1.move _) rfl rfl rfl rfl rfl ?_
 iterate 10 refine Walk.f (.c (.p (.at (.bool false)))) rfl rfl rfl rfl rfl ?_
 refine Walk.n (Op1.pick (z:=false) (ga:=false) (x:=false) (gb:=true) (y:=false) rfl rfl rfl (fun h=>by cases h) (fun _=>rfl)) rfl rfl rfl rfl rfl ?_;refine Walk.n (Op1.assign _) rfl rfl rfl rfl rfl ?_;refine Walk.end ?_;exact h _ (fun t ht=>by simp only[look];repeat rw[Oa (by omega)]) rfl
theorem mv{x:Operand}{v:LV}{get:Get}{nx:Nat}(h:opd e x=v):Op1 P (opd e) get nx (.move x) v [] [] 0:=by subst h;exact Op1.move _
theorem XK {m:Nat} (hm:m<=16) (h5:look e 5= .v (.c (.optr aO 0 0))) (h8:look e 8= .v (.c (.optr aT 0 0))) (h9:look e 9= .v (.c (.p (.at (.int .i64 ((m+1:Nat):Int)))))) (hO:G aO=some ⟨22,1,[[.osl idO 0 (m+1)]],none⟩) (hIO:G idO=some ⟨44,5,RO,none⟩)
  (hr:RO[m]? =some (tkC o)) (hT:G aT=some ⟨44,5,[tkC t],none⟩) (n3:idO≠aT) (h: ∀e',(∀t,t<23->look e' t=look e t)->look e' 47= .v (.c (.p (.at (.bool (t.kind==zI o.kind)))))->Q .normal e' ⟨N,G⟩):
  SW P 93 (match Xh with| .seq c _=>c|_=> .skip) Q e ⟨N,G⟩:=by
 have n1:aO≠idO:=at1 hO hIO rfl;have n2:aO≠aT:=at1 hO hT rfl;have e1:IntKind.i64.wrap (((m+1:Nat):Int) - 1)=(m:Int):=by rw[w64s (by omega) (by omega)];omega
 have e2:decide (((m+1:Nat):Int)>0)=true:=Od (by omega);refine SW.regD mixed (fun i=>[aT,aO,idO].getD i 0) 3 [([],[]),([],[]),([],[]),([0],[]),([0],[]),([1],[]),([],[]),([],[]),([2],[]),([2],[]),([2],[]),([],[]),([],[]),([],[]),([],[])] (by decide)
  (Xg (l:=[aT,aO,idO]) (by simp only[Rc,Ra,Ec,ic,jd,Pf,Cc,Ce];omega)) (by kernel_rfl) (by kernel_rfl) ?_
 refine Walk.n (mv h9) rfl rfl rfl rfl rfl ?_;refine Walk.n (Op1.bin (val:= .v (.c (.p (.at (.bool true))))) (.inl rfl) (.inl rfl) (fun _ _=>by rw[<-e2];rfl)) rfl rfl rfl rfl rfl ?_;refine Walk.n (Op1.move _) rfl rfl rfl rfl rfl ?_;refine Walk.g (Op1.fldO (.inl h8) hT k44 rfl (by rw[c5];decide)) rfl rfl rfl rfl rfl ?_;refine Walk.g (Op1.load (cs:=tkC t) (.inr rfl) hT rfl rfl k5) rfl rfl rfl rfl rfl ?_;refine Walk.g (Op1.load (.inl h5) hO rfl rfl k22) rfl rfl rfl rfl rfl ?_;refine Walk.g (mv h9) rfl rfl rfl rfl rfl ?_;refine Walk.g (Op1.bin (val:= .v (.c (.p (.at (.int .i64 (m:Int)))))) (.inr rfl) (.inl rfl) (fun _ _=>by rw[<-e1];rfl)) rfl rfl rfl rfl rfl ?_;refine Walk.g (Op1.idxL (.inr rfl) (.inr rfl) hIO k22 c44 rfl (by decide) (Cb m)) rfl rfl rfl rfl rfl ?_;refine Walk.g (Op1.fldO (.inr rfl) hIO k44 rfl (by rw[c5];decide)) rfl rfl rfl rfl rfl ?_;refine Walk.g (Op1.load (cs:=tkC o) (.inr rfl) hIO hr rfl k5) rfl rfl rfl rfl rfl ?_;refine Walk.clg (k:=o.kind) rfl rfl rfl rfl rfl rfl rfl rfl rfl ?_;refine Walk.g (Op1.bin (val:= .v (.c (.p (.at (.bool (t.kind==zI o.kind)))))) (.inr rfl) (.inr rfl) (fun _ _=>rfl)) rfl rfl rfl rfl rfl ?_;refine Walk.n (Op1.pick (z:=true) (ga:=true) (x:=t.kind==zI o.kind) (gb:=true) (y:=false) rfl rfl rfl (fun _=>rfl) (fun h=>by cases h)) rfl rfl rfl rfl rfl ?_;refine Walk.n (Op1.assign _) rfl rfl rfl rfl rfl ?_;refine Walk.end ?_;exact h _ (fun t ht=>by simp only[look];repeat rw[Oa (by omega)]) rfl
theorem r15(h8:look e 8= .v (.c (.optr aT 0 0)))(hT:G aT=some ⟨44,5,[tkC t],none⟩)(h: ∀e',(∀t,t<23->look e' t=look e t)->look e' 64= .v (.c (.p (.at (.bool (zI t.kind != 0)))))->Q .normal e' ⟨N,G⟩):
  SW P 93 (match Xh with| .seq _ (.cond _ _ (.seq c _))=>c|_=> .skip) Q e ⟨N,G⟩:=by
 refine SW.reg (fun _=>aT) [([0],[]),([0],[]),([],[]),([],[]),([],[])] ?_;refine Walk.n (Op1.fldO (.inl h8) hT k44 rfl (by rw[c5];decide)) rfl rfl rfl rfl rfl ?_;refine Walk.n (Op1.load (cs:=tkC t) (.inl rfl) hT rfl rfl k5) rfl rfl rfl rfl rfl ?_;refine Walk.cl (k:=t.kind) rfl rfl rfl rfl rfl rfl rfl rfl rfl ?_;refine Walk.n (Op1.bin (val:= .v (.c (.p (.at (.bool (zI t.kind != 0)))))) (.inl rfl) (.inl rfl) (fun _ _=>rfl)) rfl rfl rfl rfl rfl ?_;refine Walk.n (Op1.assign _) rfl rfl rfl rfl rfl ?_;refine Walk.end ?_;exact h _ (fun t ht=>by simp only[look];repeat rw[Oa (by omega)]) rfl
theorem r16(h9:look e 9= .v (.c (.p (.at (.int .i64 ((n:Nat):Int))))))(h: ∀e',(∀t,t<23->look e' t=look e t)->look e' 70= .v (.c (.p (.at (.bool (((n:Nat):Int)==16)))))->Q .normal e' ⟨N,G⟩):
  SW P 93 (match Xh with| .seq _ (.cond _ _ (.seq _ (.cond _ (.seq (.seq c _) _) _)))=>c|_=> .skip) Q e ⟨N,G⟩:=by
 refine SW.reg (fun _=>0) [([],[]),([],[])] ?_;refine Walk.n (mv h9) rfl rfl rfl rfl rfl ?_;refine Walk.n (Op1.bin (val:= .v (.c (.p (.at (.bool (((n:Nat):Int)==16)))))) (.inl rfl) (.inl rfl) (fun _ _=>rfl)) rfl rfl rfl rfl rfl ?_;refine Walk.end ?_;exact h _ (fun t ht=>by simp only[look];repeat rw[Oa (by omega)]) rfl
end
section
variable {aL aO aT idL n N:Nat} {e:Env} {G:Get} {Q:Post} {t:zf} {RL:List (List CV)}
theorem GH (h4:look e 4= .v (.c (.optr aL 0 0))) (h5:look e 5= .v (.c (.optr aO 0 0))) (h8:look e 8= .v (.c (.optr aT 0 0))) (hL:G aL=some ⟨52,1,[[.osl idL 0 (n+1)]],none⟩) (hI:G idL=some ⟨23,1,RL,none⟩) (hT:G aT=some ⟨44,5,[tkC t],none⟩)
  (hO:G aO=some ⟨22,1,[[nilC]],none⟩) (hn0:n=0)
  (hn:n<=16) (hRL:n+1<=RL.length) (hlt:aL<N/\aO<N/\aT<N/\idL<N)
  (h: ∀e' get',(∀t,t<23->look e' t=look e t)->get' aL=some ⟨52,1,[[.osl (N+1) 0 (n+2)]],none⟩->get' (N+1)=some ⟨23,1,RL.take (n+1)++[[nilC]],none⟩->get' aO=some ⟨22,1,[[.osl (N+3) 0 (n+1)]],none⟩->
   get' (N+3)=some ⟨44,5,[tkC t],none⟩->(∀id,id<N->id≠aL->id≠aO->id≠idL->get' id=G id)->Q .normal e' ⟨N+4,get'⟩):
  SW P 93 (match Xh with| .seq _ (.cond _ _ (.seq _ (.cond _ (.seq _ c) _)))=>c|_=> .skip) Q e ⟨N,G⟩:=by
 obtain⟨m1,m2,m3,m4⟩:=hlt;have p1:aL≠aO:=at1 hL hO rfl;have p2:aL≠idL:=at1 hL hI rfl;have p3:aL≠aT:=at1 hL hT rfl;have p4:aO≠idL:=at1 hO hI rfl;have p5:aO≠aT:=at1 hO hT rfl;have p6:idL≠aT:=at1 hI hT rfl;subst hn0;refine SW.regD mixed (fun i=>[aL,aO,aT,idL,N,N+1,N+2,N+3].getD i 0) 8 [([0],[]),([],[4]),([3,4],[3,5]),([1],[]),([2],[]),([],[6]),([6],[7]),([0],[0]),([1],[1])] (by decide)
  (Xg (l:=[aL,aO,aT,idL,N,N+1,N+2,N+3]) (by simp only[Rc,Ra,Ec,ic,jd,Pf,Cc,Ce];omega)) (by kernel_rfl) (by kernel_rfl) ?_
 refine Walk.n (Op1.load (.inl h4) hL rfl rfl k52) rfl rfl rfl rfl rfl ?_;refine Walk.n (Op1.bs1 (u:= .c nilC) rfl k52 c23 rfl (by rw[uz];rfl) (by decide) (by decide) o23) rfl rfl rfl rfl rfl ?_;refine Walk.n (Op1.appO (n:=1) (row:=[nilC]) (m:=0+1) rfl rfl rfl rfl rfl (upK hI (Sa m4)) upS rfl rfl k52 k52 c23 (by decide) rfl rfl hRL rfl (by rw[b23];omega) (by omega) o23) rfl rfl rfl rfl rfl ?_;refine Walk.n (Op1.load (.inl h5) (upK2 (upK hO (Sa m2)) p4 (Sa (Ya m2))) rfl rfl k22) rfl rfl rfl rfl rfl ?_;refine Walk.n (Op1.loadA (cs:=tkC t) (.inl h8) (upK2 (upK hT (Sa m3)) (Ne.symm p6) (Sa (Ya m3))) rfl k44 c44 (Ma 5)) rfl rfl rfl rfl rfl ?_;refine Walk.n (Op1.bs1 (u:= .agg (tkC t)) rfl k22 c44 rfl (by rw[rz];rfl) (by decide) (by decide) o44) rfl rfl rfl rfl rfl ?_;refine Walk.n (Op1.appN (n:=5) (row:=tkC t) rfl rfl rfl rfl rfl upS rfl rfl k22 k22 c44 (by decide) rfl (by rw[b44];decide) o44) rfl rfl rfl rfl rfl ?_;refine Walk.n0 (Op1.storeX (cs:=[.osl idL 0 (0+1)]) (.inl h4) (.inl rfl) (upK (upK (upK2 (upK hL (Sa m1)) p2 (Sa (Ya m1))) (Sa (Ya (Ya m1)))) (Sa (Ya (Ya (Ya m1))))) rfl k52 c52 rfl rfl rfl) rfl rfl rfl rfl ?_;refine Walk.n0 (Op1.storeX (cs:=[nilC]) (.inl h5) (.inl rfl) (upK (upK (upK (upK2 (upK hO (Sa m2)) p4 (Sa (Ya m2))) (Sa (Ya (Ya m2)))) (Sa (Ya (Ya (Ya m2))))) (Ne.symm p1)) rfl k22 c22 rfl rfl rfl) rfl rfl rfl rfl ?_;refine Walk.end ?_;refine h _ _ (fun t ht=>by simp only[look];repeat rw[Oa (by omega)]) ?_ ?_ ?_ ?_ (fun id hid q1 q2 q3=> ?_)
 ·exact upK upS p1
 ·exact upK (upK (upK (upK (upS2 (by first|omega|(dsimp only;omega))) (by first|omega|(dsimp only;omega))) (by first|omega|(dsimp only;omega))) (by first|omega|(dsimp only;omega))) (by first|omega|(dsimp only;omega))
 ·exact upS
 ·exact upK (upK upS (by first|omega|(dsimp only;omega))) (by first|omega|(dsimp only;omega))
 ·exact upK (upK (upK (upK (upK2 (upK rfl (by first|omega|(dsimp only;omega))) q3 (by first|omega|(dsimp only;omega))) (by first|omega|(dsimp only;omega))) (by first|omega|(dsimp only;omega))) q1) q2
theorem FH {idO:Nat} {RO:List (List CV)} (h4:look e 4= .v (.c (.optr aL 0 0))) (h5:look e 5= .v (.c (.optr aO 0 0))) (h8:look e 8= .v (.c (.optr aT 0 0))) (hL:G aL=some ⟨52,1,[[.osl idL 0 (n+1)]],none⟩) (hI:G idL=some ⟨23,1,RL,none⟩) (hT:G aT=some ⟨44,5,[tkC t],none⟩)
  (hO:G aO=some ⟨22,1,[[.osl idO 0 n]],none⟩) (hIO:G idO=some ⟨44,5,RO,none⟩) (hRO:n<=RO.length) (n3:idO≠aT)
  (hn:n<=16) (hRL:n+1<=RL.length) (hlt:aL<N/\aO<N/\aT<N/\idL<N/\idO<N)
  (h: ∀e' get',(∀t,t<23->look e' t=look e t)->get' aL=some ⟨52,1,[[.osl (N+1) 0 (n+2)]],none⟩->get' (N+1)=some ⟨23,1,RL.take (n+1)++[[nilC]],none⟩->get' aO=some ⟨22,1,[[.osl (N+3) 0 (n+1)]],none⟩->
   get' (N+3)=some ⟨44,5,RO.take n++[tkC t],none⟩->(∀id,id<N->id≠aL->id≠aO->id≠idL->id≠idO->get' id=G id)->Q .normal e' ⟨N+4,get'⟩):
  SW P 93 (match Xh with| .seq _ (.cond _ _ (.seq _ (.cond _ (.seq _ c) _)))=>c|_=> .skip) Q e ⟨N,G⟩:=by
 obtain⟨m1,m2,m3,m4,m5⟩:=hlt;have p1:aL≠aO:=at1 hL hO rfl;have p2:aL≠idL:=at1 hL hI rfl;have p3:aL≠aT:=at1 hL hT rfl;have p4:aO≠idL:=at1 hO hI rfl;have p5:aO≠aT:=at1 hO hT rfl;have p6:idL≠aT:=at1 hI hT rfl;have p7:aL≠idO:=at1 hL hIO rfl;have p8:aO≠idO:=at1 hO hIO rfl;have p9:idL≠idO:=at1 hI hIO rfl;refine SW.regD mixed (fun i=>[aL,aO,aT,idL,N,N+1,N+2,N+3,idO].getD i 0) 9 [([0],[]),([],[4]),([3,4],[3,5]),([1],[]),([2],[]),([],[6]),([8,6],[8,7]),([0],[0]),([1],[1])] (by decide)
  (Xg (l:=[aL,aO,aT,idL,N,N+1,N+2,N+3,idO]) (by simp only[Rc,Ra,Ec,ic,jd,Pf,Cc,Ce];omega)) (by kernel_rfl) (by kernel_rfl) ?_
 refine Walk.n (Op1.load (.inl h4) hL rfl rfl k52) rfl rfl rfl rfl rfl ?_;refine Walk.n (Op1.bs1 (u:= .c nilC) rfl k52 c23 rfl (by rw[uz];rfl) (by decide) (by decide) o23) rfl rfl rfl rfl rfl ?_;refine Walk.n (Op1.appO (n:=1) (row:=[nilC]) (m:=n+1) rfl rfl rfl rfl rfl (upK hI (Sa m4)) upS rfl rfl k52 k52 c23 (by decide) rfl rfl hRL rfl (by rw[b23];omega) (by omega) o23) rfl rfl rfl rfl rfl ?_;refine Walk.n (Op1.load (.inl h5) (upK2 (upK hO (Sa m2)) p4 (Sa (Ya m2))) rfl rfl k22) rfl rfl rfl rfl rfl ?_;refine Walk.n (Op1.loadA (cs:=tkC t) (.inl h8) (upK2 (upK hT (Sa m3)) (Ne.symm p6) (Sa (Ya m3))) rfl k44 c44 (Ma 5)) rfl rfl rfl rfl rfl ?_;refine Walk.n (Op1.bs1 (u:= .agg (tkC t)) rfl k22 c44 rfl (by rw[rz];rfl) (by decide) (by decide) o44) rfl rfl rfl rfl rfl ?_;refine Walk.n (Op1.appO (n:=5) (row:=tkC t) (m:=n) rfl rfl rfl rfl rfl (upK (upK2 (upK hIO (Sa m5)) (Ne.symm p9) (Sa (Ya m5))) (Sa (Ya (Ya m5)))) upS rfl rfl k22 k22 c44 (by decide) rfl rfl hRO rfl (by rw[b44];omega) (by omega) o44) rfl rfl rfl rfl rfl ?_;refine Walk.n0 (Op1.storeX (cs:=[.osl idL 0 (n+1)]) (.inl h4) (.inl rfl) (upK2 (upK (upK2 (upK hL (Sa m1)) p2 (Sa (Ya m1))) (Sa (Ya (Ya m1)))) p7 (Sa (Ya (Ya (Ya m1))))) rfl k52 c52 rfl rfl rfl) rfl rfl rfl rfl ?_;refine Walk.n0 (Op1.storeX (cs:=[.osl idO 0 n]) (.inl h5) (.inl rfl) (upK (upK2 (upK (upK2 (upK hO (Sa m2)) p4 (Sa (Ya m2))) (Sa (Ya (Ya m2)))) p8 (Sa (Ya (Ya (Ya m2))))) (Ne.symm p1)) rfl k22 c22 rfl rfl rfl) rfl rfl rfl rfl ?_;refine Walk.end ?_;refine h _ _ (fun t ht=>by simp only[look];repeat rw[Oa (by omega)]) ?_ ?_ ?_ ?_ (fun id hid q1 q2 q3 q4=> ?_)
 ·exact upK upS p1
 ·exact upK (upK (upK2 (upK (upS2 (by first|omega|(dsimp only;omega))) (by first|omega|(dsimp only;omega))) (by first|omega|(dsimp only;omega)) (by first|omega|(dsimp only;omega))) (by first|omega|(dsimp only;omega))) (by first|omega|(dsimp only;omega))
 ·exact upS
 ·exact upK (upK (upS2 (by first|omega|(dsimp only;omega))) (by first|omega|(dsimp only;omega))) (by first|omega|(dsimp only;omega))
 ·exact upK (upK (upK2 (upK (upK2 (upK rfl (by first|omega|(dsimp only;omega))) q3 (by first|omega|(dsimp only;omega))) (by first|omega|(dsimp only;omega))) q4 (by first|omega|(dsimp only;omega))) q1) q2
end
theorem DJ{nt:Nat}{e:Env}{g:Get}{M n:Nat}{v:List zg}{t:zf}(h:g n=some ⟨49,6,v.map vlC++[tkC t++[nilC]],none⟩):Sub nt e ⟨M,g⟩ e ⟨M,upd g [(n,some ⟨49,6,v.map vlC++[vlC ⟨t,[]⟩],none⟩)]⟩:=by
 refine recast (Z:=fun _=>False) (Ma _) (fun z hz=>hz.elim) (fun id o2 ho _=> ?_) (fun t=>RcL.refl _);replace ho:upd g [(n,some ⟨49,6,v.map vlC++[vlC ⟨t,[]⟩],none⟩)] id=some o2:=ho;by_cases hi:id=n
 ·subst hi;rw[upS]at ho;cases ho;refine⟨_,h,rfl,rfl,by rw[Ja,Ja];rfl,fun i row row2 a b=> ?_,rfl⟩;rcases qp a with⟨h1,h2⟩|⟨h1,rfl⟩
  ·rcases qp b with⟨h3,h4⟩|⟨h3,_⟩
   ·rw[h2]at h4;cases h4;exact⟨rfl,fun j x y hx hy=>by rw[hx]at hy;cases hy;exact RcC.refl x⟩
   ·omega
  ·rcases qp b with⟨h3,_⟩|⟨_,rfl⟩
   ·omega
   ·refine⟨by rw[Rq];rfl,fun j x y hx hy=> ?_⟩;rw[Rq]at hy;rcases qp hx with⟨h3,h4⟩|⟨h3,rfl⟩
    ·rcases qp hy with⟨h5,h6⟩|⟨h5,_⟩
     ·rw[h4]at h6;cases h6;exact RcC.refl x
     ·omega
    ·rcases qp hy with⟨h5,_⟩|⟨_,rfl⟩
     ·omega
     ·exact .inr ⟨_,rfl, .nil⟩
 ·rw[upK rfl hi]at ho;exact⟨o2,ho,RcO.refl o2⟩
def Ck:List CV->List (List zg)->List (Nat×OB)
 | .osl id _ _::cs,v::vs=>(id,⟨49,6,v.map vlC,none⟩)::Ck cs vs
 |_::cs,_::vs=>Ck cs vs
 |_,_=>[]
theorem ow: ∀{cs:List CV} {vs:List (List zg)} {i id a b:Nat} {v:List zg},cs[i]? =some (.osl id a b)->vs[i]? =some v->(id,(⟨49,6,v.map vlC,none⟩:OB))∈Ck cs vs
 |[],_,i,_,_,_,_,h,_=>by simp at h
 |_::_,[],i,_,_,_,_,_,h=>by simp at h
 |c::cs,w::vs,0,id,a,b,v,h1,h2=>by cases h1;cases h2;exact Ib ..
 |c::cs,w::vs,i+1,id,a,b,v,h1,h2=>by have:=ow (cs:=cs) (vs:=vs) (i:=i) h1 h2;cases c<;>first|exact this|exact Fb _ this
theorem OC: ∀{cs:List CV} {vs:List (List zg)} {p:Nat×OB},p∈Ck cs vs-> ∃(i a b:Nat) (v:List zg),cs[i]? =some (.osl p.1 a b)/\vs[i]? =some v/\p.2=⟨49,6,v.map vlC,none⟩
 |[],vs,p,h=>by cases vs<;>cases h
 |c::cs,[],p,h=>by cases c<;>cases h
 |c::cs,w::vs,p,h=>by
  have key:p∈Ck cs vs-> ∃(i a b:Nat) (v:List zg),(c::cs)[i]? =some (.osl p.1 a b)/\(w::vs)[i]? =some v/\p.2=⟨49,6,v.map vlC,none⟩:=fun h=>by obtain⟨i,a,b,v,h1,h2,h3⟩:=OC h;exact⟨i+1,a,b,v,h1,h2,h3⟩
  cases c with
  |osl id a b=>
   rcases Ra.1 h with rfl|h
   ·exact⟨0,a,b,w,rfl,rfl,rfl⟩
   ·exact key h
  |_=>exact key h
section
variable {M0 aL aO b N idL idO:Nat} {e:Env} {G get0:Get} {Q:Post} {RL RO:List (List CV)}
theorem BA {o0 o1:Oper} {c:Call} {id d0 d1:Nat} {os0:List zf} {o:zf} {vs0:List (List zg)} {v1 v2:List zg} {cs0:List CV} {c1 c2:CV} (p0:o0.op= .move (.tmp 6)/\o0.dst=some d0/\o0.guard=none) (p1:o1.op= .call c/\o1.dst=some d1/\o1.guard=none)
  (pc:c.callee= .value (.tmp d0)/\c.args.toList=[]) (hd:Nat.blt d0 93=true/\Nat.blt d1 93=true/\23<=d0/\23<=d1) (h6:look e 6= .v (.c (.clo 60 [(aO,0,0),(aL,0,0)])))
  (hP:PI G N M0 get0 aL aO b (os0++[o]) (vs0++[v1]++[v2]) idL RL (cs0++[c1]++[c2]) (.osl idO 0 (os0.length+1))) (hIO:G idO=some ⟨44,5,RO,none⟩) (hRO: ∀(i:Nat) o',(os0++[o])[i]? =some o'->RO[i]? =some (tkC o')) (hOM:M0<=idO/\idO<N) (hb:b<=2000)
  (h: ∀e' get',(∀t,t<23->look e' t=look e t)->zmI G aO aL idO idL os0.length N RL c1 c2 v1 v2 o get'->Q .normal e' ⟨N+1,get'⟩):SW P 93 (.region id #[o0,o1] false) Q e ⟨N,G⟩:=by
 obtain⟨p00,p01,p02⟩:=p0;obtain⟨p10,p11,p12⟩:=p1;obtain⟨pc1,pc2⟩:=pc;obtain⟨hd0,hd1,hd2,hd3⟩:=hd;obtain⟨n1,n2,n3⟩:=hP.ne;obtain⟨m1,m2,m3,m4,m5,m6⟩:=hP.hM;have hol:(os0++[o]).length=os0.length+1:=by rw[Ja];rfl
 have hcl:cs0.length=os0.length:=by have:=hP.hcl;simp only[Ja,Ob,Tc]at this;omega
 have hvl:vs0.length=os0.length:=by have:=hP.hvl;simp only[Ja,Ob,Tc]at this;omega
 have a1:(cs0++[c1]++[c2])[os0.length]? =some c1:=by rw[Ua (by simp;omega),<-hcl];exact ZR _ _
 have a2:(cs0++[c1]++[c2])[os0.length+1]? =some c2:=by rw[show os0.length+1=(cs0++[c1]).length by simp;omega];exact ZR _ _
 have b1:(vs0++[v1]++[v2])[os0.length]? =some v1:=by rw[Ua (by simp;omega),<-hvl];exact ZR _ _
 have b2:(vs0++[v1]++[v2])[os0.length+1]? =some v2:=by rw[show os0.length+1=(vs0++[v1]).length by simp;omega];exact ZR _ _
 generalize hcs:cs0++[c1]++[c2]=cs at*;generalize hvs:vs0++[v1]++[v2]=vs at*
 let rd:List (Nat×OB):=[(aO,⟨22,1,[[.osl idO 0 (os0.length+1)]],none⟩),(aL,⟨52,1,[[.osl idL 0 (os0.length+2)]],none⟩),(idL,⟨23,1,RL,none⟩),(idO,⟨44,5,RO,none⟩)]++Ck cs vs
 have hrd: ∀p∈rd,G p.1=some p.2:=fun p hp=>by
  rcases Eb.1 hp with hp|hp
  ·rcases Ra.1 hp with rfl|hp
   ·exact hP.hO
   rcases Ra.1 hp with rfl|hp
   ·have:=hP.hL;rwa [hol]at this
   rcases Ra.1 hp with rfl|hp
   ·exact hP.hI
   ·rw[Fa.1 hp];exact hIO
  ·obtain⟨i,a,b,v,q1,q2,q3⟩:=OC hp;rw[q3];exact(hP.hlst i _ v q1 q2).at p.1 (Fa.2 rfl)
 have inL: ∀{i:Nat} {c:CV},cs[i]? =some c-> ∀id∈zy c,∃ob,(id,ob)∈rd:=fun {i c} hc id hid=>by
  obtain⟨v,hv⟩: ∃v,vs[i]? =some v:=by
   have:=(Ba.1 hc).1;have hl2:i<vs.length:=by rw[hP.hvl,<-hP.hcl];exact this
   exact⟨_,Ea hl2⟩
  rcases hP.hlst i c v hc hv with⟨rfl,_⟩|⟨j,rfl,_⟩
  ·cases hid
  ·rw[Fa.1 hid];exact⟨_,Af _ (ow hc hv)⟩
 have isL: ∀{i:Nat} {c:CV} {v:List zg},cs[i]? =some c->vs[i]? =some v->c=nilC/\v=[]\/ ∃id,c= .osl id 0 v.length/\(id,(⟨49,6,v.map vlC,none⟩:OB))∈rd:=fun {i c v} hc hv=>by
  rcases hP.hlst i c v hc hv with q|⟨j,rfl,_⟩
  ·exact .inl q
  ·exact .inr ⟨j,rfl,Af _ (ow hc hv)⟩
 have r1:=hP.hrow _ _ a1;have r2:=hP.hrow _ _ a2;have hn:os0.length+1<=16:=by have:=hP.hn;rwa [hol]at this
 have hv1:v1.length<=3000:=by have:=hP.hb v1 (Ia b1);omega
 have call:=oI (nx:=N) (rd:=rd) (v1:=v1) (v2:=v2) (o:=o) (RO:=RO) (k:=os0.length) (aO:=aO) (aL:=aL) (idO:=idO) (idL:=idL) (by omega) hv1 r1 r2 (hRO _ _ (ZR _ _)) (by simp[rd]) (by simp[rd]) (by simp[rd]) (by simp[rd]) (isL a1 b1) (isL a2 b2)
  (fun id hid=>hP.hdis _ _ c1 c2 (by omega) a1 a2 id hid) (fun i row hi hne c hc id hid=> ?_)
 ·have hp0: ∀d,o0.dst=some d->d<93:=fun d hd=>by rw[p01]at hd;cases hd;exact zU.1 hd0
  have hp1: ∀d,o1.dst=some d->d<93:=fun d hd=>by rw[p11]at hd;cases hd;exact zU.1 hd1
  have s1:OpOK P 93 [o0,o1] o0 ⟨none, .v (.c (.clo 60 [(aO,0,0),(aL,0,0)])),[],[],N,0⟩ ⟨e,G,N⟩:=opN' (by rw[p00];exact mv h6) p02 hp0 rfl;have e1:zO o0 ⟨none, .v (.c (.clo 60 [(aO,0,0),(aL,0,0)])),[],[],N,0⟩ ⟨e,G,N⟩=⟨(d0, .v (.c (.clo 60 [(aO,0,0),(aL,0,0)])))::e,G,N⟩:=by rw[stS p01];rfl
  have s2:OpOK P 93 [o0,o1] o1 ⟨none, .tup [],Vn aO aL idO idL os0.length N RL c1 c2 v1 v2 o,rd.map (·.1),N,1⟩ ⟨(d0, .v (.c (.clo 60 [(aO,0,0),(aL,0,0)])))::e,G,N⟩:=
   wy (s:=⟨(d0, .v (.c (.clo 60 [(aO,0,0),(aL,0,0)])))::e,G,N⟩) (g:=none) (c:=c) (cf:= .tmp d0) (f:=60) (caps:=[(aO,0,0),(aL,0,0)]) (g0:=true) (g1:=true) («as»:=[]) (rd:=rd) (k:=1) (by rw[p12];rfl) hp1 p10 pc1 (.inl (Va rfl)) (by rw[pc2];rfl) (fun _=>⟨rfl, .inl (Va rfl)⟩) (fun _=>call) hrd
  refine Iu (s0:=⟨e,G,N⟩) (zs:=[(o0,(⟨none, .v (.c (.clo 60 [(aO,0,0),(aL,0,0)])),[],[],N,0⟩:Lv.RO)),(o1,(⟨none, .tup [],Vn aO aL idO idL os0.length N RL c1 c2 v1 v2 o,rd.map (·.1),N,1⟩:Lv.RO))]) rfl ⟨rfl,fun j oo r hj=> ?_⟩ ?_
  ·rcases j with _|_|j
   ·cases hj;exact s1
   ·cases hj;show OpOK P 93 [o0,o1] o1 _ (zO o0 _ ⟨e,G,N⟩);rw[e1];exact s2
   ·cases hj
  ·show Q .normal (zO o1 _ (zO o0 _ ⟨e,G,N⟩)).e ⟨(zO o1 _ (zO o0 _ ⟨e,G,N⟩)).next,(zO o1 _ (zO o0 _ ⟨e,G,N⟩)).get⟩;rw[e1,stS p11];refine h _ _ (fun t ht=>by rw[Xf (by omega),Xf (by omega)]) ?_;have cr: ∀{i:Nat} {c:CV} {v:List zg},cs[i]? =some c->vs[i]? =some v-> ∀id∈zy c,id≠aO/\id≠aL/\id≠idL/\id≠N:=fun {i c v} hc hv id hid=>by have hg:=(hP.hlst i c v hc hv).at id hid;have:=(hP.href c (Ia hc) id hid).2;exact⟨at1 hg hP.hO rfl,at1 hg hP.hL rfl,at1 hg hP.hI rfl,by omega⟩
   exact CE n1 n2 n3 ⟨by omega,by omega,by omega⟩ (fun id hid=>hid.elim (cr a1 b1 id) (cr a2 b2 id))
 ·by_cases hlt:i<os0.length+2
  ·have hc2:i<cs.length:=by rw[hP.hcl,hol];exact hlt
   have hci:=Ea hc2;have:=hP.hrow i _ hci;rw[hi]at this;cases this;rw[Fa.1 hc]at hid;exact inL hci id hid
  ·rw[hP.hst i row hi (by rw[hol];omega) c hc]at hid;cases hid
end
def PS(G:Get)(N M0:Nat)(get0:Get)(aL aO b:Nat)(s:PSt):Prop:= ∃idL RL cs cO,PI G N M0 get0 aL aO b (s.2.reverse.map (·.1)) (s.2.reverse.map (·.2)++[s.1]) idL RL cs cO
section
variable {M0 aL aO aT b:Nat} {e:Env} {G get0:Get} {Q:Post} {s:PSt} {t:zf}
theorem PS.of{N:Nat}{os:List zf}{vs:List (List zg)}{idL:Nat}{RL:List (List CV)}{cs:List CV}{cO:CV}(h:PI G N M0 get0 aL aO b os vs idL RL cs cO)(ho:s.2.reverse.map (·.1)=os)(hv:s.2.reverse.map (·.2)++[s.1]=vs):PS G N M0 get0 aL aO b s:=by subst ho hv;exact⟨_,_,_,_,h⟩
theorem last_of{α:Type}{l:List α}{n:Nat}(h:l.length=n+1): ∃l0 x,l=l0++[x]:=by
 rcases List.eq_nil_or_concat l with rfl|⟨l0,x,h2⟩
 ·simp at h
 ·exact⟨l0,x,by rw[h2,List.concat_eq_append]⟩
theorem YH (hPS:PS G aT M0 get0 aL aO b s) (hns:ym s.2 t=false) (hb:b<=2000) (hM:M0<=aT) (h4:look e 4= .v (.c (.optr aL 0 0))) (h5:look e 5= .v (.c (.optr aO 0 0))) (h8:look e 8= .v (.c (.optr aT 0 0))) (h9:look e 9= .v (.c (.p (.at (.int .i64 ((s.2.length:Nat):Int)))))) (hT:G aT=some ⟨44,5,[tkC t],none⟩)
  (h1: ∀s',Qz s t=some s'-> ∀e' N' get',(∀t,t<23->look e' t=look e t)->aT<N'->(∃get2,(∀e2,Sub 93 e2 ⟨N',get'⟩ e2 ⟨N',get2⟩)/\PS get2 N' M0 get0 aL aO (b+1) s')->Q .normal e' ⟨N',get'⟩)
  (h2:Qz s t=none-> ∀e',look e' 2= .v (.c nilC)->look e' 3= .v (.c (.p (.at (.int .i64 20))))->Q .ret e' ⟨aT+1,G⟩):
  SW P 93 (match Xh with| .seq _ (.cond _ _ c)=>c|_=> .skip) Q e ⟨aT+1,G⟩:=by
 obtain⟨cur,st⟩:=s;obtain⟨idL,RL,cs,cO,hP⟩:=hPS;simp only at hP h9 hns;have hos:(st.reverse.map (·.1)).length=st.length:=by rw[Ga,Ke]
 generalize ho:st.reverse.map (·.1)=os at hP hos;generalize hv:st.reverse.map (·.2)=vs0 at hP;obtain⟨n1,n2,n3⟩:=hP.ne;obtain⟨m1,m2,m3,m4,m5,m6⟩:=hP.hM;have hps:Qz (cur,st) t=if zI t.kind≠0 then(if st.length=16 then none else some ([],(t,cur)::st))else some (cur++[⟨t,[]⟩],st):=by unfold Qz;rw[Oa (by rw[hns];decide)]
 refine SW.seq (r15 h8 hT fun e1 k1 l1=> ?_);refine SW.condB (b:=zI t.kind != 0) l1 (fun hb1=> ?_) (fun hb1=> ?_)
 ·have hc:zI t.kind≠0:=by simpa using hb1
  rw[Va hc]at hps;refine SW.seq (SW.seq (r16 (n:=st.length) ((k1 9 (by decide)).trans h9) fun e2 k2 l2=> ?_));refine SW.condB (b:=((st.length:Nat):Int)==16) l2 (fun hb2=> ?_) (fun hb2=> ?_)
  ·have h16:st.length=16:=by have:=Cf.1 hb2;omega
   rw[Va h16]at hps;refine SW.seq (SW.reg (fun _=>0) [([],[]),([],[])] ?_);refine Walk.n (Op1.assign _) rfl rfl rfl rfl rfl ?_;refine Walk.n (Op1.assign _) rfl rfl rfl rfl rfl ?_;refine Walk.end ?_;refine SW.end_ ?_ (fun _ _ _=>wp_ret);exact h2 hps _ rfl rfl
  ·have h16:st.length≠16:=fun h=>by rw[h]at hb2;revert hb2;decide
   rw[Oa h16]at hps;refine SW.end_ ?_ (fun _ _ _=>wp_skip);show SW P 93 _ Q e2 ⟨aT+1,G⟩;have kk: ∀t,t<23->look e2 t=look e t:=fun t ht=>(k2 t ht).trans (k1 t ht);have hn16:os.length<16:=by have:=hP.hn;omega
   have hRl:os.length+1<=RL.length:=by
    have hlt:os.length<cs.length:=by rw[hP.hcl];exact Cb _
    have:=(Ba.1 (hP.hrow os.length _ (Ea hlt))).1;omega
   have fin: ∀(get':Get) (ROs:List (List CV)),get' aL=some ⟨52,1,[[.osl (aT+1+1) 0 (os.length+2)]],none⟩->get' (aT+1+1)=some ⟨23,1,RL.take (os.length+1)++[[nilC]],none⟩->get' aO=some ⟨22,1,[[.osl (aT+1+3) 0 (os.length+1)]],none⟩->
     get' (aT+1+3)=some ⟨44,5,ROs,none⟩->(∀(i:Nat) o,(os++[t])[i]? =some o->ROs[i]? =some (tkC o))->(∀id,id<aT->id≠aL->id≠aO->id≠idL->id ∉ zy cO->get' id=G id)->PS get' (aT+1+4) M0 get0 aL aO (b+1) ([],(t,cur)::st):=fun get' ROs f1 f2 f3 f4 f5 f6=>by
    have:=(hP.grow (get':=G) (Ma _) (Nat.le_succ b) hM (fun _ _=>rfl)).push hn16 f1 f2 f3 f4 f5 f6 ⟨by omega,by omega⟩ ⟨by omega,by omega⟩ hM (N':=aT+1+4);exact PS.of this (by simp only[List.reverse_cons,Vb,Na,Rb,ho]) (by simp only[List.reverse_cons,Vb,Na,Rb,hv])
   rcases hP.hop with⟨rfl,hos0⟩|⟨idO,RO,rfl,q2,q3,q4,q5⟩
   ·refine GH (n:=os.length) (idL:=idL) (RL:=RL) (t:=t) ((kk 4 (by decide)).trans h4) ((kk 5 (by decide)).trans h5) ((kk 8 (by decide)).trans h8) hP.hL hP.hI hT hP.hO (by rw[hos0];rfl) (by omega) hRl ⟨by omega,by omega,by omega,by omega⟩ fun e' get' k3 f1 f2 f3 f4 f5=> ?_;refine h1 _ hps e' _ get' (fun t ht=>(k3 t ht).trans (kk t ht)) (by omega) ⟨get',fun e2=>Sub.refl _ _ _,fin get' [tkC t] f1 f2 f3 f4 (fun i o hi=> ?_) (fun id a b c d _=>f5 id (by omega) b c d)⟩;rw[hos0]at hi;rcases i with _|i
    ·cases hi;rfl
    ·cases hi
   ·have hRO:os.length<=RO.length:=by
     rcases Nat.eq_zero_or_pos os.length with h0|h0
     ·omega
     ·have hlt:os.length - 1<os.length:=by omega
      have:=(Ba.1 (q5 _ _ (Ea hlt))).1;omega
    refine FH (n:=os.length) (idL:=idL) (RL:=RL) (t:=t) (idO:=idO) (RO:=RO) ((kk 4 (by decide)).trans h4) ((kk 5 (by decide)).trans h5) ((kk 8 (by decide)).trans h8) hP.hL hP.hI hT hP.hO q2 hRO (by omega) (by omega) hRl ⟨by omega,by omega,by omega,by omega,by omega⟩ fun e' get' k3 f1 f2 f3 f4 f5=> ?_;refine h1 _ hps e' _ get' (fun t ht=>(k3 t ht).trans (kk t ht)) (by omega) ⟨get',fun e2=>Sub.refl _ _ _,fin get' _ f1 f2 f3 f4 (fun i o hi=> ?_) (fun id a b c d g=>f5 id (by omega) b c d (fun q=>g (Fa.2 q)))⟩;have htl:(RO.take os.length).length=os.length:=by rw[Ad];omega
    rcases qp hi with⟨h3,h4⟩|⟨h3,rfl⟩
    ·rw[Ua (by omega),List.getElem?_take_of_lt h3];exact q5 i o h4
    ·have:=ZR (RO.take os.length) (tkC o);rw[htl]at this;rw[h3];exact this
 ·have hc:zI t.kind=0:=by simpa using hb1
  rw[Oa (by rw[hc];decide)]at hps;obtain⟨cs0,c,rfl⟩:=last_of hP.hcl;have hcl:cs0.length=os.length:=by have:=hP.hcl;rw[Ja]at this;simpa using this
  have hvl:vs0.length=os.length:=by have:=hP.hvl;rw[Ja]at this;simpa using this
  have a1:(cs0++[c])[os.length]? =some c:=by rw[<-hcl];exact ZR _ _
  have hcu:cur.length<=b:=hP.hb cur (by simp);refine xO (aL:=aL) (idL:=idL) (src:=aT) (k:=os.length) (N:=aT+1) (RL:=RL) (c1:=c) (v1:=cur) (tk:=t) ((k1 4 (by decide)).trans h4) (by rw[hos];exact(k1 9 (by decide)).trans h9) ((k1 8 (by decide)).trans h8) hP.hL hP.hI (hP.hrow _ _ a1) hT (hP.hlst _ _ _ a1 (by rw[<-hvl];exact ZR _ _)) (by omega) ⟨by omega,by omega,by omega⟩
   (fun i hi=>by have:=(hP.href c (by simp) i hi).2;omega) fun e' get' k3 hput=> ?_
  refine h1 _ hps e' _ get' (fun t ht=>(k3 t ht).trans (k1 t ht)) (by omega) ⟨_,fun e2=>DJ hput.2.1,?_⟩;obtain⟨t1,t2,t3,t4⟩:=hput;refine PS.of (hP.put (N':=aT+1+3) (n:=aT+1+2) ⟨upK t1 (by omega),upS,fun id hid=>upK (t3 id hid) (by have:=(hP.href c (by simp) id hid).2;omega),fun id a b d=>upK (t4 id a b d) (by omega)⟩ (by omega) (by omega) (fun id hid=>by omega) hM) ho (by simp only[hv])
end
section
variable {M0 aL aO aT b:Nat} {e:Env} {G get0:Get} {Q:Post} {s:PSt} {t:zf}
theorem PS.grow{N N' b':Nat}{get':Get}(h:PS G N M0 get0 aL aO b s)(hN:N<=N')(hb:b<=b')(hM:M0<=N)(hk: ∀id,id<N->get' id=G id):PS get' N' M0 get0 aL aO b' s:=by obtain⟨_,_,_,_,hP⟩:=h;exact⟨_,_,_,_,hP.grow hN hb hM hk⟩
theorem PS.some_open{N:Nat}{cur out:List zg}{o:zf}{st:List (zf×List zg)}(h:PS G N M0 get0 aL aO b (cur,(o,out)::st)):
  ∃idL RL cs0 c1 c2 idO RO,PI G N M0 get0 aL aO b (st.reverse.map (·.1)++[o]) (st.reverse.map (·.2)++[out]++[cur]) idL RL (cs0++[c1]++[c2]) (.osl idO 0 (st.length+1))/\G idO=some ⟨44,5,RO,none⟩/\M0<=idO/\idO<N/\(∀(i:Nat) o',(st.reverse.map (·.1)++[o])[i]? =some o'->RO[i]? =some (tkC o'))/\(st.reverse.map (·.1)).length=st.length:=by
 obtain⟨idL,RL,cs,cO,hP⟩:=h;simp only[List.reverse_cons,Vb,Na,Rb]at hP;have hos:(st.reverse.map (·.1)).length=st.length:=by rw[Ga,Ke]
 have hcl:=hP.hcl;rw[Ja]at hcl;obtain⟨cs1,c2,rfl⟩:=last_of hcl;rw[Ja]at hcl;obtain⟨cs0,c1,rfl⟩:=last_of (l:=cs1) (n:=(st.reverse.map (·.1)).length) (by simpa using hcl);rcases hP.hop with⟨_,h0⟩|⟨idO,RO,rfl,q2,q3,q4,q5⟩
 ·simp at h0
 ·have hl:(st.reverse.map (·.1)++[o]).length=st.length+1:=by rw[Ja,hos];rfl
  rw[hl]at hP;exact⟨idL,RL,cs0,c1,c2,idO,RO,hP,q2,q3,q4,q5,hos⟩
theorem PS.shut {N:Nat} {cur out:List zg} {o:zf} {st:List (zf×List zg)} {get':Get} {idL idO:Nat} {RL RO:List (List CV)} {cs0:List CV} {c1 c2:CV} (hP:PI G N M0 get0 aL aO b (st.reverse.map (·.1)++[o]) (st.reverse.map (·.2)++[out]++[cur]) idL RL (cs0++[c1]++[c2]) (.osl idO 0 ((st.reverse.map (·.1)).length+1)))
  (q2:G idO=some ⟨44,5,RO,none⟩) (q3:M0<=idO/\idO<N) (q5: ∀(i:Nat) o',(st.reverse.map (·.1)++[o])[i]? =some o'->RO[i]? =some (tkC o')) (hU:zmI G aO aL idO idL (st.reverse.map (·.1)).length N RL c1 c2 out cur o get') (hM:M0<=N):
  PS get' (N+1) M0 get0 aL aO (b+1) (out++[⟨o,cur⟩],st):=PS.of (hP.shut q2 q5 q3 hU hM) rfl rfl
theorem yH (hPS:PS G aT M0 get0 aL aO b s) (hb:b<=2000) (hM:M0<=aT) (h4:look e 4= .v (.c (.optr aL 0 0))) (h5:look e 5= .v (.c (.optr aO 0 0))) (h6:look e 6= .v (.c (.clo 60 [(aO,0,0),(aL,0,0)]))) (h8:look e 8= .v (.c (.optr aT 0 0)))
  (h9:look e 9= .v (.c (.p (.at (.int .i64 ((s.2.length:Nat):Int)))))) (hT:G aT=some ⟨44,5,[tkC t],none⟩)
  (h1: ∀s',Qz s t=some s'-> ∀e' N' get',(∀t,t<23->look e' t=look e t)->aT<N'->(∃get2,(∀e2,Sub 93 e2 ⟨N',get'⟩ e2 ⟨N',get2⟩)/\PS get2 N' M0 get0 aL aO (b+1) s')->Q .normal e' ⟨N',get'⟩)
  (h2:Qz s t=none-> ∀e',look e' 2= .v (.c nilC)->look e' 3= .v (.c (.p (.at (.int .i64 20))))->Q .ret e' ⟨aT+1,G⟩):
  SW P 93 Xh Q e ⟨aT+1,G⟩:=by
 obtain⟨cur,st⟩:=s;have el: ∀e1:Env,(∀t,t<23->look e1 t=look e t)->ym st t=false->SW P 93 (match Xh with| .seq _ (.cond _ _ c)=>c|_=> .skip) Q e1 ⟨aT+1,G⟩:=fun e1 k1 hns=>
  YH hPS hns hb hM ((k1 4 (by decide)).trans h4) ((k1 5 (by decide)).trans h5) ((k1 8 (by decide)).trans h8) ((k1 9 (by decide)).trans h9) hT (fun s' hs e' N' get' k2=>h1 s' hs e' N' get' fun t ht=>(k2 t ht).trans (k1 t ht)) h2
 cases st with
 |nil=>
  refine SW.seq (YK h5 h9 fun e1 k1 l1=> ?_);exact SW.condB (b:=false) l1 (fun h=>by cases h) (fun _=>el e1 k1 rfl)
 |cons x st=>
  obtain⟨o,out⟩:=x;obtain⟨idL,RL,cs0,c1,c2,idO,RO,hP,q2,q3,q4,q5,hos⟩:=hPS.some_open;have hn:=hP.hn;rw[Ja,hos]at hn;refine SW.seq (XK (m:=st.length) (o:=o) (t:=t) (idO:=idO) (RO:=RO) (by simp at hn;omega) h5 h8 h9 hP.hO q2 (q5 _ _ (by rw[<-hos];exact ZR _ _)) hT (by omega) fun e1 k1 l1=> ?_);refine SW.condB (b:=t.kind==zI o.kind) l1 (fun hb1=> ?_) (fun hb1=> ?_)
  ·have hps:Qz (cur,(o,out)::st) t=some (out++[⟨o,cur⟩],st):=by unfold Qz;rw[Va (show ym ((o,out)::st) t=true from hb1)];rfl
   rw[<-hos]at hP;have hP':=hP.grow (get':=G) (Nat.le_succ aT) (Ma b) hM (fun _ _=>rfl);refine BA (d0:=62) (d1:=63) ⟨rfl,rfl,rfl⟩ ⟨rfl,rfl,rfl⟩ ⟨rfl,rfl⟩ ⟨rfl,rfl,by decide,by decide⟩ ((k1 6 (by decide)).trans h6) hP' q2 q5 ⟨q3,by omega⟩ hb fun e' get' k2 hU=> ?_;exact h1 _ hps e' _ get' (fun t ht=>(k2 t ht).trans (k1 t ht)) (by omega) ⟨get',fun e2=>Sub.refl _ _ _,PS.shut hP' q2 ⟨q3,by omega⟩ q5 hU (by omega)⟩
  ·exact el e1 k1 hb1
end
theorem Wy: ∀(a b:List zf) (s:PSt),Qa (a++b) s=(Qa a s).bind (Qa b)
 |[],b,s=>rfl
 |t::a,b,s=>by
  rw[Xc,Qa,Qa];cases Qz s t with
  |none=>rfl
  |some s'=>exact Wy a b s'
theorem sN(t:zf)(s:PSt):Qa [t] s=Qz s t:=by rw[Qa];cases Qz s t<;>rfl
structure PE (e:Env) (l:List zf) (aL aO i:Nat):Prop where
 t0:look e 0= .v (.c (.p (.sl (l.map QU))))
 t4:look e 4= .v (.c (.optr aL 0 0))
 t5:look e 5= .v (.c (.optr aO 0 0))
 t6:look e 6= .v (.c (.clo 60 [(aO,0,0),(aL,0,0)]))
 t15:look e 15= .v (.c (.p (.sl (l.map QU))))
 t16:look e 16= .v (.c (.p (.at (.int .i64 ((l.length:Nat):Int)))))
 t17:look e 17= .v (.c (.p (.at (.int .i64 ((i:Nat):Int)))))
def Kp(e' e:Env):Prop:=look e' 0=look e 0/\look e' 4=look e 4/\look e' 5=look e 5/\look e' 6=look e 6/\look e' 15=look e 15/\look e' 16=look e 16/\look e' 17=look e 17
theorem Kp.of{e' e:Env}(hk: ∀t,t<23->look e' t=look e t):Kp e' e:=⟨hk 0 (by decide),hk 4 (by decide),hk 5 (by decide),hk 6 (by decide),hk 15 (by decide),hk 16 (by decide),hk 17 (by decide)⟩
theorem Kp.trans{a b c:Env}(h:Kp a b)(g:Kp b c):Kp a c:=by obtain⟨h1,h2,h3,h4,h5,h6,h7⟩:=h;obtain⟨g1,g2,g3,g4,g5,g6,g7⟩:=g;exact⟨h1.trans g1,h2.trans g2,h3.trans g3,h4.trans g4,h5.trans g5,h6.trans g6,h7.trans g7⟩
theorem PE.of{e e':Env}{l:List zf}{aL aO i:Nat}(h:PE e l aL aO i)(hk:Kp e' e):PE e' l aL aO i:=by obtain⟨h1,h2,h3,h4,h5,h6,h7⟩:=hk;exact⟨h1.trans h.t0,h2.trans h.t4,h3.trans h.t5,h4.trans h.t6,h5.trans h.t15,h6.trans h.t16,h7.trans h.t17⟩
abbrev Ev:Code:=match Tryz.f16.body with
 |some (.seq _ (.seq _ (.seq _ (.seq _ (.seq (.seq _ (.block _ (.loop c))) _)))))=>c
 |_=> .skip
theorem PS.cell{G get0:Get}{N M0 aL aO b:Nat}{s:PSt}(h:PS G N M0 get0 aL aO b s): ∃cO,G aO=some ⟨22,1,[[cO]],none⟩/\((cO=nilC/\s.2.length=0)\/ ∃id ob,cO= .osl id 0 s.2.length/\G id=some ob):=by
 obtain⟨_,_,_,cO,hP⟩:=h;have hos:(s.2.reverse.map (·.1)).length=s.2.length:=by rw[Ga,Ke]
 refine⟨cO,hP.hO,?_⟩;rcases hP.hop with⟨h1,h2⟩|⟨idO,RO,q1,q2,_⟩
 ·exact .inl ⟨h1,by rw[<-hos,h2];rfl⟩
 ·exact .inr ⟨idO,_,by rw[q1,hos],q2⟩
def zX(nt:Nat)(ops:List Oper):List Oper->TS->(TS->Prop)->Prop
 |[],s,K=>K s
 |o::l,s,K=> ∃r:RO,OpOK P nt ops o r s/\zX nt ops l (zO o r s) K
theorem zX.zs{nt:Nat}{ops:List Oper}{K:TS->Prop}: ∀{l:List Oper} {s:TS},zX nt ops l s K-> ∃zs:List (Oper×RO),zs.map (·.1)=l/\(∀(j:Nat) (o:Oper) (r:RO),zs[j]? =some (o,r)->OpOK P nt ops o r (runA (zs.take j) s))/\K (runA zs s)
 |[],s,h=>⟨[],rfl,fun j o r hj=>by simp at hj,h⟩
 |o::l,s,h=>by
  obtain⟨r,h1,h2⟩:=h;obtain⟨zs,h3,h4,h5⟩:=h2.zs;refine⟨(o,r)::zs,by simp[h3],fun j o' r' hj=> ?_,h5⟩;cases j with
  |zero=>simp at hj;obtain⟨rfl,rfl⟩:=hj;exact h1
  |succ j=> have:=h4 j o' r' (by simpa using hj);simpa [runA] using this
theorem SW.regL{nt id:Nat}{opa:Array Oper}{Q:Post}{e:Env}{g:Get}{n:Nat}(h:zX nt opa.toList opa.toList ⟨e,g,n⟩ (fun s=>Q .normal s.e ⟨s.next,s.get⟩)):SW P nt (.region id opa false) Q e ⟨n,g⟩:=by obtain⟨zs,h1,h2,h3⟩:=h.zs;exact Iu (s0:=⟨e,g,n⟩) h1 ⟨h1,h2⟩ h3
section
variable {nt:Nat} {ops:List Oper} {K:TS->Prop}
theorem zX.n{o:Oper}{l:List Oper}{e:Env}{get:Get}{nx k d:Nat}{val:LV}{up:List (Nat×Option OB)}(h: ∃rd,Op1 P (opd e) get nx o.op val rd up k)(hdst:o.dst=some d)(hd:Nat.blt d nt=true)(hg:o.guard=none)(h4:zX nt ops l ⟨(d,val)::e,upd get up,nx+k⟩ K):zX nt ops (o::l) ⟨e,get,nx⟩ K:=by obtain⟨rd,h⟩:=h;exact⟨_,opN h hg (fun d' h'=>by rw[hdst]at h';cases h';exact zU.1 hd),by unfold zO;rw[hdst];exact h4⟩
theorem zX.n0{o:Oper}{l:List Oper}{e:Env}{get:Get}{nx k:Nat}{val:LV}{up:List (Nat×Option OB)}(h: ∃rd,Op1 P (opd e) get nx o.op val rd up k)(hdst:o.dst=none)(hg:o.guard=none)(h4:zX nt ops l ⟨e,upd get up,nx+k⟩ K):zX nt ops (o::l) ⟨e,get,nx⟩ K:=by obtain⟨rd,h⟩:=h;exact⟨_,opN h hg (fun d' h'=>by rw[hdst]at h';cases h'),by unfold zO;rw[hdst];exact h4⟩
theorem zX.end{s:TS}(h:K s):zX nt ops [] s K:=h
theorem lenC{E:Operand->LV}{G:Get}{nx n:Nat}{c:Call}{x:Operand}{cO:CV}(h:(cO=nilC/\n=0)\/ ∃id ob,cO= .osl id 0 n/\G id=some ob)(hc:c.callee= .builtin .len)(ha:c.args.toList=[x])(ht:c.argTypes.toList=[22])(hx:E x= .v (.c cO)):
  ∃rd,Op1 P E G nx (.call c) (.v (.c (.p (.at (.int .i64 ((n:Nat):Int)))))) rd [] 0:=by
 rcases h with⟨rfl,rfl⟩|⟨id,ob,rfl,hg⟩
 ·exact⟨_,Op1.lenN hc ha ht (.inl hx) k22⟩
 ·exact⟨_,Op1.lenO hc ha ht (.inl hx) hg k22⟩
theorem lenl{E:Operand->LV}{G:Get}{nx:Nat}{c:Call}{x:Operand}{l:List zf}(hc:c.callee= .builtin .len)(ha:c.args.toList=[x])(ht:c.argTypes.toList=[22])(hx:E x= .v (.c (.p (.sl (l.map QU))))):
  ∃rd,Op1 P E G nx (.call c) (.v (.c (.p (.at (.int .i64 ((l.length:Nat):Int)))))) rd [] 0:=by
 have:=Op1.lenS (P:=P) (get:=G) (nx:=nx) hc ha ht (.inl hx) k22;rw[Ga]at this;exact⟨_,this⟩
end
section
variable {M0 aL aO:Nat} {e:Env} {get0:Get} {Q:Post} {l:List zf}
theorem yG {i N:Nat} {G:Get} {s:PSt} {t:zf} (hb:i<=2000) (hE:PE e l aL aO i) (hPS:PS G N M0 get0 aL aO i s) (hM:M0<=N) (h8:look e 8= .v (.c (.optr N 0 0))) (hT:G N=some ⟨44,5,[tkC t],none⟩)
  (h1: ∀s',Qz s t=some s'-> ∀e' N' get',Kp e' e->N<N'->(∃get2,(∀e2,Sub 93 e2 ⟨N',get'⟩ e2 ⟨N',get2⟩)/\PS get2 N' M0 get0 aL aO (i+1) s')->Q .normal e' ⟨N',get'⟩)
  (h2:Qz s t=none-> ∀e',look e' 2= .v (.c nilC)->look e' 3= .v (.c (.p (.at (.int .i64 20))))->Q .ret e' ⟨N+1,G⟩) (hq: ∀x e lh,(x= .normal\/x= .ret)->Q x e lh->fq 2 Q x e lh):
  SW P 93 (match Ev with| .seq _ (.seq _ (.seq (.block _ (.seq _ c)) _))=>c|_=> .skip) Q e ⟨N+1,G⟩:=by
 obtain⟨cO,hcO,hc2⟩:=hPS.cell;refine SW.seq (SW.regL ?_);refine zX.n ⟨_,Op1.load (.inl hE.t5) hcO rfl rfl k22⟩ rfl rfl rfl ?_;refine zX.n (lenC (n:=s.2.length) (cO:=cO) hc2 rfl rfl rfl rfl) rfl rfl rfl ?_;refine zX.n ⟨_,Op1.assign _⟩ rfl rfl rfl ?_;refine zX.end ?_;refine SW.block (yH (s:=s) (t:=t) hPS hb hM ((Xf (by decide)).trans ((Xf (by decide)).trans ((Xf (by decide)).trans hE.t4))) ((Xf (by decide)).trans ((Xf (by decide)).trans ((Xf (by decide)).trans hE.t5))) ((Xf (by decide)).trans ((Xf (by decide)).trans ((Xf (by decide)).trans hE.t6)))
  ((Xf (by decide)).trans ((Xf (by decide)).trans ((Xf (by decide)).trans h8))) rfl hT (fun s' hs e' N' get' hk hN hg=> ?_) (fun hs e' q2 q3=>hq _ _ _ (.inr rfl) (h2 hs e' q2 q3)))
 exact hq _ _ _ (.inl rfl) (h1 s' hs e' N' get' ((Kp.of hk).trans ⟨rfl,rfl,rfl,rfl,rfl,rfl,rfl⟩) hN hg)
theorem II {i N:Nat} {G:Get} {s:PSt} (hl:l.length<=1500) (hE:PE e l aL aO i) (hi:i<=l.length) (hrun:Qa (l.take i) ([],[])=some s) (hPS:PS G N M0 get0 aL aO i s) (hM:M0<=N)
  (hX:i=l.length-> ∀e':Env,Kp e' e->Q (.exit 0) e' ⟨N,G⟩)
  (hN: ∀e' N' get' s',PE e' l aL aO (i+1)->i<l.length->Qa (l.take (i+1)) ([],[])=some s'->M0<=N'->(∃get2,(∀e2,Sub 93 e2 ⟨N',get'⟩ e2 ⟨N',get2⟩)/\PS get2 N' M0 get0 aL aO (i+1) s')->Q .normal e' ⟨N',get'⟩)
  (hR:Qa l ([],[])=none-> ∀e' lh',look e' 2= .v (.c nilC)->look e' 3= .v (.c (.p (.at (.int .i64 20))))->(∀id,id<M0->lh'.get id=get0 id)->M0<=lh'.next->Q .ret e' lh'):
  SW P 93 Ev Q e ⟨N,G⟩:=by
 refine SW.seq (SW.regL ?_);refine zX.n ⟨_,Op1.bin (val:= .v (.c (.p (.at (.bool (decide (i<l.length))))))) (.inl hE.t17) (.inl hE.t16) (fun _ _=>by
  rw[show decide (i<l.length)=decide (((i:Nat):Int)<((l.length:Nat):Int))from decide_eq_decide.2 (by omega)];rfl)⟩ rfl rfl rfl ?_
 refine zX.end ?_;refine SW.seq (SW.condB (b:=decide (i<l.length)) rfl (fun h1=> ?_) (fun h1=> ?_))
 rotate_left
 ·have hil:i=l.length:=by have:=of_decide_eq_false h1;omega
  refine SW.end_ ?_ (fun _ _ _=>wp_exit);exact hX hil _ ⟨rfl,rfl,rfl,rfl,rfl,rfl,rfl⟩
 have hil:i<l.length:=Sb h1;refine SW.end_ ?_ (fun _ _ _=>wp_skip);have hti:l[i]? =some l[i]:=Ea hil;generalize l[i]=t at hti;refine SW.seq (SW.block (SW.seq (SW.regL ?_)));refine zX.n ⟨_,Op1.idxS (row:=QU t) (.inl hE.t15) (.inl hE.t17) k22 c44 (by decide) (by omega) (by rw[jb,Ka,hti,Db]) rfl⟩ rfl rfl rfl ?_;refine zX.n ⟨_,Op1.loadP (.inl rfl) k44 c44 (Ma 5)⟩ rfl rfl rfl ?_;refine zX.n ⟨_,Op1.alloc (z:=[.p (.at (.int .u8 0)), .p (.str []), .p (.at (.int .i64 0)), .p (.str []), .p (.at (.bool false))]) (by rw[rz];rfl) c44 o44⟩ rfl rfl rfl ?_;refine zX.n0 ⟨_,Op1.storeX (u:= .agg (tkC t)) (.inl rfl) (.inl rfl) upS rfl k44 c44 rfl rfl rfl⟩ rfl rfl ?_;refine zX.end ?_;refine yG (i:=i) (s:=s) (t:=t) (by omega) (hE.of ⟨rfl,rfl,rfl,rfl,rfl,rfl,rfl⟩) (hPS.grow (Ma _) (Ma _) hM fun id hid=>upK (upK rfl (Sa hid)) (Sa hid)) hM rfl upS (fun s' hs e' N' get' hk hN' hg=> ?_) (fun hs e' q2 q3=> ?_) (fun x e lh hx hq=> ?_)
 ·show SW P 93 _ Q e' ⟨N',get'⟩;have hE':=hE.of hk;refine SW.regL ?_;have e1:IntKind.i64.wrap (((i:Nat):Int)+1)=((i+1:Nat):Int):=by rw[w64s (by omega) (by omega)];omega
  refine zX.n ⟨_,Op1.bin (val:= .v (.c (.p (.at (.int .i64 ((i+1:Nat):Int)))))) (.inl hE'.t17) (.inl rfl) (fun _ _=>by rw[<-e1];rfl)⟩ rfl rfl rfl ?_;refine zX.n ⟨_,Op1.move _⟩ rfl rfl rfl ?_;refine zX.end ?_;refine hN _ N' get' s' ⟨hE'.t0,hE'.t4,hE'.t5,hE'.t6,hE'.t15,hE'.t16,rfl⟩ hil ?_ (ja hM (Nat.le_of_lt hN')) hg;rw[List.take_add_one,hti,Wy,hrun];show Qa [t] s=some s';rw[sN,hs]
 ·refine hR ?_ e' _ q2 q3 (fun id hid=> ?_) (ja hM (Nat.le_succ N))
  ·rw[<-xe i l,Wy,hrun];have:l.drop i=t::l.drop (i+1):=by rw[ib hil];rw[Ea hil]at hti;rw[Option.some.inj hti]
   rw[this];show Qa (t::l.drop (i+1)) s=none;rw[Qa,hs];rfl
  ·obtain⟨_,_,_,_,hP⟩:=hPS;exact(upK (upK rfl (Sa (Kb hid hM))) (Sa (Kb hid hM))).trans (hP.hk id hid)
 ·rcases hx with rfl|rfl
  ·exact hq
  ·exact hq
end
section
variable {M0 aL aO:Nat} {e:Env} {get0:Get} {Q:Post} {l:List zf}
theorem OH {N:Nat} {G:Get} (hl:l.length<=1500) (hE:PE e l aL aO 0) (hPS:PS G N M0 get0 aL aO 0 ([],[])) (hM:M0<=N)
  (hX: ∀e' N' get' s,PE e' l aL aO l.length->Qa l ([],[])=some s->M0<=N'->PS get' N' M0 get0 aL aO l.length s->Q .normal e' ⟨N',get'⟩)
  (hR:Qa l ([],[])=none-> ∀e' lh',look e' 2= .v (.c nilC)->look e' 3= .v (.c (.p (.at (.int .i64 20))))->(∀id,id<M0->lh'.get id=get0 id)->M0<=lh'.next->Q .ret e' lh'):SW P 93 (.block 0 (.loop Ev)) Q e ⟨N,G⟩:=by
 refine SW.block (sw (α:=Env×LH×Nat×PSt) (·.1) (·.2.1) (fun x=>PE x.1 l aL aO x.2.2.1/\x.2.2.1<=l.length/\Qa (l.take x.2.2.1) ([],[])=some x.2.2.2/\PS x.2.1.get x.2.1.next M0 get0 aL aO x.2.2.1 x.2.2.2/\M0<=x.2.1.next) (fun x=>l.length - x.2.2.1)
  (e,⟨N,G⟩,0,([],[])) ⟨hE,Nb _,rfl,hPS,hM⟩ (Sub.refl _ _ _) fun⟨e,⟨N,G⟩,i,s⟩ ⟨h1,h2,h3,h4,h5⟩=> ?_)
 refine II (i:=i) (s:=s) hl h1 h2 h3 h4 h5 (fun hi e' hk=> ?_) (fun e' N' get' s' q1 q2 q3 q4 q5=> ?_) (fun hn e' lh' q2 q3 q4 q5=>hR hn e' lh' q2 q3 q4 q5)
 ·subst hi;rw[List.take_length]at h3;exact hX e' N G s (h1.of hk) h3 h5 h4
 ·obtain⟨get2,q6,q7⟩:=q5;exact⟨(e',⟨N',get2⟩,i+1,s'),⟨q1,q2,q3,q7,q4⟩,by show l.length - (i+1)<l.length - i;omega,q6 e'⟩
abbrev AA:Code:=match Tryz.f16.body with
 |some (.seq _ (.seq _ (.seq _ (.seq _ (.seq _ c)))))=>c
 |_=> .skip
theorem NH {b N:Nat} {G:Get} {s:PSt} (h4:look e 4= .v (.c (.optr aL 0 0))) (h5:look e 5= .v (.c (.optr aO 0 0))) (h6:look e 6= .v (.c (.clo 60 [(aO,0,0),(aL,0,0)]))) (hPS:PS G N M0 get0 aL aO b s) (hb:b+s.2.length<=2000) (hM:M0<=N)
  (hX: ∀e' N' get' b',look e' 4= .v (.c (.optr aL 0 0))->M0<=N'->PS get' N' M0 get0 aL aO b' (shutAll s.1 s.2,[])->Q .normal e' ⟨N',get'⟩):
  SW P 93 (match AA with| .seq _ (.seq c _)=>c|_=> .skip) Q e ⟨N,G⟩:=by
 refine SW.block (sw (α:=Env×LH×Nat×PSt) (·.1) (·.2.1) (fun x=>look x.1 4= .v (.c (.optr aL 0 0))/\look x.1 5= .v (.c (.optr aO 0 0))/\look x.1 6= .v (.c (.clo 60 [(aO,0,0),(aL,0,0)]))/\x.2.2.1+x.2.2.2.2.length<=2000/\shutAll x.2.2.2.1 x.2.2.2.2=shutAll s.1 s.2/\PS x.2.1.get x.2.1.next M0 get0 aL aO x.2.2.1 x.2.2.2/\M0<=x.2.1.next) (fun x=>x.2.2.2.2.length)
  (e,⟨N,G⟩,b,s) ⟨h4,h5,h6,hb,rfl,hPS,hM⟩ (Sub.refl _ _ _) fun⟨e,⟨N,G⟩,b,⟨cur,st⟩⟩ ⟨k4,k5,k6,kb,ks,kP,kM⟩=> ?_)
 simp only at k4 k5 k6 kb ks kP kM;obtain⟨cO,hcO,hc2⟩:=kP.cell;refine SW.seq (SW.seq (SW.regL ?_));refine zX.n ⟨_,Op1.load (.inl k5) hcO rfl rfl k22⟩ rfl rfl rfl ?_;refine zX.n (lenC (n:=st.length) (cO:=cO) hc2 rfl rfl rfl rfl) rfl rfl rfl ?_;refine zX.n ⟨_,Op1.bin (val:= .v (.c (.p (.at (.bool (decide (0<st.length))))))) (.inl rfl) (.inl rfl) (fun _ _=>by
  rw[show decide (0<st.length)=decide (((st.length:Nat):Int)>0)from decide_eq_decide.2 (by omega)];rfl)⟩ rfl rfl rfl ?_
 refine zX.end ?_;refine SW.condB (b:=decide (0<st.length)) rfl (fun h1=> ?_) (fun h1=> ?_)
 ·refine SW.end_ ?_ (fun _ _ _=>wp_skip);cases st with
  |nil=>cases h1
  |cons x st=>
   obtain⟨o,out⟩:=x;obtain⟨idL,RL,cs0,c1,c2,idO,RO,hP,q2,q3,q4,q5,hos⟩:=kP.some_open;rw[<-hos]at hP;refine SW.block (BA (d0:=88) (d1:=89) ⟨rfl,rfl,rfl⟩ ⟨rfl,rfl,rfl⟩ ⟨rfl,rfl⟩ ⟨rfl,rfl,by decide,by decide⟩ k6 hP q2 q5 ⟨q3,q4⟩ (by rw[Ob]at kb;omega) fun e' get' k2 hU=> ?_);have hs:=PS.shut hP q2 ⟨q3,q4⟩ q5 hU kM;refine⟨(e',⟨N+1,get'⟩,b+1,(out++[⟨o,cur⟩],st)),⟨(k2 4 (by decide)).trans k4,(k2 5 (by decide)).trans k5,(k2 6 (by decide)).trans k6,?_,ks,hs,Nat.le_succ_of_le kM⟩,?_,Sub.refl _ _ _⟩
   ·show b+1+st.length<=2000;rw[Ob]at kb;omega
   ·show st.length<(_::st).length;rw[Ob];exact Cb _
 ·have h0:st=[]:=by
   cases st with
   |nil=>rfl
   |cons x st=>simp at h1
  subst h0;refine SW.end_ ?_ (fun _ _ _=>wp_exit);exact hX _ N G b k4 kM (by rw[<-ks];exact kP)
theorem mk1{x y:Operand}{get:Get}{nx:Nat}(hx:opd e x= .v (.c (.p (.at (.int .i64 1)))))(hy:opd e y= .v (.c (.p (.at (.int .i64 1))))): ∃rd,Op1 P (opd e) get nx (.makeSlice 52 x y) (.v (.c (.osl nx 0 1))) rd [(nx,some ⟨23,1,[[nilC]],none⟩)] 1:=by
 have hr:rep (1:Int).toNat (Qu (ti P 23).zero)=[[nilC]]:=by rw[uz];rfl
 refine⟨[],(0:Int)<=1/\(1:Int)<=1/\(1:Int)*(ti P 23).by_<=140737488355328/\(1:Int)<=9223372036854775807/\0<P.cellsOf 23/\(ti P 23).zok=true,?_,⟨by decide,by decide,by rw[b23];decide,by decide,by rw[c23];decide,o23⟩,rfl⟩;simp only[opR,hx,hy,zP,pg,k52,hr,c23];rfl
theorem mkf{get:Get}{nx:Nat}(h5:opd e (.tmp 5)= .v (.c (.optr aO 0 0)))(h4:opd e (.tmp 4)= .v (.c (.optr aL 0 0))): ∃rd,Op1 P (opd e) get nx (.makeFunc (.func 60) #[] #[.tmp 5, .tmp 4]) (.v (.c (.clo 60 [(aO,0,0),(aL,0,0)]))) rd [] 0:=by refine⟨[],True,?_,trivial,rfl⟩;simp only[opR,vg,h5,h4];rfl
def PQ(M0:Nat)(get0:Get)(l:List zf):Post:=fun x e lh=>
 x= .ret/\ ∃(c:CV) (v:List zg) (code:Int),look e 2= .v (.c c)/\look e 3= .v (.c (.p (.at (.int .i64 code))))/\Lst lh.get c v/\(∀id,id<M0->lh.get id=get0 id)/\(∀id∈zy c,M0<=id)/\M0<=lh.next/\parS l=(v,code)
theorem PQ.nil{lh:LH}{code:Int}(h2:look e 2= .v (.c nilC))(h3:look e 3= .v (.c (.p (.at (.int .i64 code)))))(hk: ∀id,id<M0->lh.get id=get0 id)(hM:M0<=lh.next)(hp:parS l=([],code)):PQ M0 get0 l .ret e lh:=
 ⟨rfl,nilC,[],code,h2,h3, .inl ⟨rfl,rfl⟩,hk,(fun id hid=>by cases hid),hM,hp⟩
theorem ML{N:Nat}{G:Get}{s:PSt}(hl:l.length<=1500)(hE:PE e l aL aO l.length)(hrun:Qa l ([],[])=some s)(hM:M0<=N)(hPS:PS G N M0 get0 aL aO l.length s):SW P 93 AA (PQ M0 get0 l) e ⟨N,G⟩:=by
 obtain⟨cO,hcO,hc2⟩:=hPS.cell;obtain⟨_,_,_,_,hP⟩:=id hPS;have hn:s.2.length<=16:=by have:=hP.hn;rwa [Ga,Ke]at this
 refine SW.seq (SW.seq (SW.regL ?_));have e1:IntKind.i64.wrap (((l.length:Nat):Int)+((s.2.length:Nat):Int))=((l.length+s.2.length:Nat):Int):=by rw[w64s (by omega) (by omega)];omega
 refine zX.n ⟨_,mv hE.t0⟩ rfl rfl rfl ?_;refine zX.n (lenl rfl rfl rfl rfl) rfl rfl rfl ?_;refine zX.n ⟨_,Op1.load (.inl hE.t5) hcO rfl rfl k22⟩ rfl rfl rfl ?_;refine zX.n (lenC (n:=s.2.length) (cO:=cO) hc2 rfl rfl rfl rfl) rfl rfl rfl ?_;refine zX.n ⟨_,Op1.bin (val:= .v (.c (.p (.at (.int .i64 ((l.length+s.2.length:Nat):Int)))))) (.inl rfl) (.inl rfl) (fun _ _=>by rw[<-e1];rfl)⟩ rfl rfl rfl ?_;refine zX.n ⟨_,Op1.bin (val:= .v (.c (.p (.at (.bool (decide (1500<l.length+s.2.length))))))) (.inl rfl) (.inl rfl) (fun _ _=>by
  rw[show decide (1500<l.length+s.2.length)=decide (((l.length+s.2.length:Nat):Int)>1500)from decide_eq_decide.2 (by omega)];rfl)⟩ rfl rfl rfl ?_
 refine zX.end ?_;have hk:=hP.hk;refine SW.condB (b:=decide (1500<l.length+s.2.length)) rfl (fun h1=> ?_) (fun h1=> ?_)
 ·refine SW.seq (SW.regL ?_);refine zX.n ⟨_,Op1.assign _⟩ rfl rfl rfl ?_;refine zX.n ⟨_,Op1.assign _⟩ rfl rfl rfl ?_;refine zX.end ?_;refine SW.end_ ?_ (fun _ _ _=>wp_ret);refine PQ.nil rfl rfl hk hM ?_;unfold parS;rw[Oa (by omega),hrun];simp only;rw[Va (Sb h1)]
 ·refine SW.end_ ?_ (fun _ _ _=>wp_skip);have h1: ¬1500<l.length+s.2.length:=of_decide_eq_false h1;refine SW.seq (NH (s:=s) (b:=l.length) hE.t4 hE.t5 hE.t6 hPS (by omega) hM fun e' N' get' b' k4 kM kP=> ?_);obtain⟨idL,RL,cs,cO',hP'⟩:=kP;simp only[List.reverse_nil,Rb,Vd]at hP';obtain⟨cs0,c,rfl⟩:=last_of hP'.hcl;have hcl:cs0=[]:=by have:=hP'.hcl;rw[Ja]at this;exact List.length_eq_zero_iff.1 (by simpa using this)
  subst hcl;have hr:=hP'.hrow 0 c rfl;have hl:=hP'.hlst 0 c _ rfl rfl;refine SW.seq (SW.regL ?_);refine zX.n ⟨_,Op1.load (.inl k4) hP'.hL rfl rfl k52⟩ rfl rfl rfl ?_;refine zX.n ⟨_,Op1.idxL (j:=0) (.inl rfl) (.inl rfl) hP'.hI k52 c23 rfl (by decide) (Cb 0)⟩ rfl rfl rfl ?_;refine zX.n ⟨_,Op1.load (cs:=[c]) (.inl rfl) hP'.hI hr rfl k23⟩ rfl rfl rfl ?_;refine zX.n ⟨_,Op1.assign _⟩ rfl rfl rfl ?_;refine zX.n ⟨_,Op1.assign _⟩ rfl rfl rfl ?_;refine zX.end ?_;refine SW.end_ ?_ (fun _ _ _=>wp_ret);refine⟨rfl,c,shutAll s.1 s.2,0,rfl,rfl,hl,hP'.hk,fun id hid=>(hP'.href c (by simp) id hid).1,kM,?_⟩;unfold parS;rw[Oa (by omega),hrun];simp only;rw[Oa h1]
theorem NL{get:Get}:SW P 93 (match Tryz.f16.body with|some c=>c|none=> .skip) (PQ M0 get l) [(0, .v (.c (.p (.sl (l.map QU)))))] ⟨M0,get⟩:=by
 refine SW.seq (SW.regL ?_);refine zX.n ⟨_,Op1.assign _⟩ rfl rfl rfl ?_;refine zX.n ⟨_,Op1.assign _⟩ rfl rfl rfl ?_;refine zX.end ?_;refine SW.seq (SW.seq (SW.regL ?_));refine zX.n ⟨_,Op1.move _⟩ rfl rfl rfl ?_;refine zX.n (lenl rfl rfl rfl rfl) rfl rfl rfl ?_;refine zX.n ⟨_,Op1.bin (val:= .v (.c (.p (.at (.bool (decide (1500<l.length))))))) (.inl rfl) (.inl rfl) (fun _ _=>by
  rw[show decide (1500<l.length)=decide (((l.length:Nat):Int)>1500)from decide_eq_decide.2 (by omega)];rfl)⟩ rfl rfl rfl ?_
 refine zX.end ?_;refine SW.condB (b:=decide (1500<l.length)) rfl (fun h1=> ?_) (fun h1=> ?_)
 ·refine SW.seq (SW.regL ?_);refine zX.n ⟨_,Op1.assign _⟩ rfl rfl rfl ?_;refine zX.n ⟨_,Op1.assign _⟩ rfl rfl rfl ?_;refine zX.end ?_;refine SW.end_ ?_ (fun _ _ _=>wp_ret);refine PQ.nil rfl rfl (fun _ _=>rfl) (Ma _) ?_;unfold parS;rw[Va (Sb h1)]
 ·refine SW.end_ ?_ (fun _ _ _=>wp_skip);have h1: ¬1500<l.length:=of_decide_eq_false h1;refine SW.seq (SW.regL ?_);refine zX.n (mk1 rfl rfl) rfl rfl rfl ?_;refine zX.n ⟨_,Op1.alloc (z:=[nilC]) (by rw[KS];rfl) c52 o52⟩ rfl rfl rfl ?_;refine zX.n ⟨_,Op1.alloc (z:=[nilC]) (by rw[MS];rfl) c22 o22⟩ rfl rfl rfl ?_;refine zX.n0 ⟨_,Op1.storeX (cs:=[nilC]) (.inl rfl) (.inl rfl) (upK upS (Sa (Cb _))) rfl k52 c52 rfl rfl rfl⟩ rfl rfl ?_;refine zX.n0 ⟨_,Op1.storeX (cs:=[nilC]) (.inl rfl) (.inl rfl) (upK upS (Nat.ne_of_gt (Cb _))) rfl k22 c22 rfl rfl rfl⟩ rfl rfl ?_;refine zX.end ?_;refine SW.seq (SW.regL ?_);refine zX.n (mkf (aL:=M0+1) (aO:=M0+2) rfl rfl) rfl rfl rfl ?_;refine zX.n ⟨_,Op1.assign _⟩ rfl rfl rfl ?_;refine zX.end ?_;refine SW.seq (SW.seq (SW.regL ?_));refine zX.n ⟨_,Op1.move _⟩ rfl rfl rfl ?_;refine zX.n (lenl rfl rfl rfl rfl) rfl rfl rfl ?_;refine zX.n ⟨_,Op1.move _⟩ rfl rfl rfl ?_;refine zX.end ?_;refine OH (aL:=M0+1) (aO:=M0+2) (N:=M0+3) (by omega) ⟨rfl,rfl,rfl,rfl,rfl,rfl,rfl⟩ ?_ (Dc _ _) (fun e' N' get' s hE hr hM hP=>ML (by omega) hE hr hM hP) (fun hn e' lh' q2 q3 q4 q5=>PQ.nil q2 q3 q4 q5 (by unfold parS;rw[Oa h1,hn]));refine⟨M0,[[nilC]],[nilC],nilC,⟨?_,?_,rfl,rfl,fun i c hi=> ?_,fun i row hi hlt=> ?_,fun i c v hi hv=> ?_,fun i j c d hij hi hj=> ?_,?_, .inl ⟨rfl,rfl⟩,Nb _,fun v hv=> ?_,fun id hid=> ?_,⟨by omega,by omega,by omega,by omega,by omega,by omega⟩,fun c hc id hid=> ?_⟩⟩
  ·exact upK upS (show M0+1≠M0+2 by omega)
  ·exact upK (upK (upK (upK upS (show M0≠M0+1 by omega)) (show M0≠M0+2 by omega)) (show M0≠M0+1 by omega)) (show M0≠M0+2 by omega)
  ·rcases i with _|i
   ·cases hi;rfl
   ·cases hi
  ·rcases i with _|i
   ·exact absurd hlt (Nat.lt_irrefl 0)
   ·cases hi
  ·rcases i with _|i
   ·cases hi;cases hv;exact .inl ⟨rfl,rfl⟩
   ·cases hi
  ·rcases i with _|i
   ·rcases j with _|j
    ·exact absurd rfl hij
    ·cases hj
   ·cases hi
  ·exact upS
  ·rw[Fa.1 hv];exact Ma _
  ·have n0:id≠M0:=by omega
   have n1:id≠M0+1:=by omega
   have n2:id≠M0+2:=by omega
   exact upK (upK (upK (upK (upK rfl n0) n1) n2) n1) n2
  ·rw[Fa.1 hc]at hid;cases hid
end
end Go.Lv.Par

namespace Go.Lv
open Go.Proofs Go.Lv.VT
set_option maxRecDepth 100000
theorem Par.endSub{e:Env}{g:Get}{N:Nat}{c:CV}{v:List zg}{code:Int}(h2:look e 2= .v (.c c))(h3:look e 3= .v (.c (.p (.at (.int .i64 code)))))(hl:Par.Lst g c v):
  Sub 93 e ⟨N,g⟩ [(2, .v (.c (.p (.sl (v.map zw))))),(3, .v (.c (.p (.at (.int .i64 code)))))] ⟨N,fun id=>if id∈zy c then none else g id⟩:=by
 refine recast (Z:=fun _=>False) (Ma _) (fun z hz=>hz.elim) (fun id o2 ho _=> ?_) (fun t=> ?_)
 ·replace ho:(if id∈zy c then none else g id)=some o2:=ho;by_cases h:id∈zy c
  ·rw[Va h]at ho;cases ho
  ·rw[Oa h]at ho;exact⟨o2,ho,RcO.refl o2⟩
 ·by_cases e2:t=2
  ·subst e2;rw[h2];exact .v _ _ (.c _ _ (.inr ⟨_,rfl,Par.SA hl fun id hid=>Va hid⟩))
  ·by_cases e3:t=3
   ·subst e3;rw[h3];exact .v _ _ (.c _ _ (RcC.refl _))
   ·rw[Par.Xf e2,Par.Xf e3];exact .any _
theorem eD:zm Tryz.prog (⟨16,⟨[.sl 44],[]⟩,[],⟨[.sl 49, .int .i64],[]⟩,0,VT.parseF⟩:Con VT.I)where
 wf:=rfl
 ok:=fun x y hxy ρ nx _ _ hnew=>by
  cases hxy;refine VF (P:=Tryz.prog) (fn:=Tryz.f16) (c:=match Tryz.f16.body with|some c=>c|none=> .skip) (rs:=[.tmp 2, .tmp 3]) (nt:=93) Tryz.func16 rfl rfl rfl (by kernel_rfl) (Bb rfl) fun get M hM hget _=> ?_;refine SW.post (Par.NL (M0:=M) (l:=x)) fun xx e lh hq=> ?_;obtain⟨rfl,c,v,code,h2,h3,hl,hk,hr,hn,hp⟩:=hq;refine⟨_,_,Par.endSub h2 h3 hl, .inr rfl,[],[.c (.p (.sl (v.map zw))), .c (.p (.at (.int .i64 code)))],rfl,ic,(fun i hi=>by cases hi),⟨⟨True,rfl,trivial⟩,⟨True,rfl,trivial⟩,trivial⟩,fun t ht id hid=> ?_,?_,fun j hj=>absurd hj (Ee j),fun id o1 ho=> ?_⟩
  ·rcases Ra.1 ht with rfl|ht
   ·cases hid
   ·rw[Fa.1 ht]at hid;cases hid
  ·show valOf _=valOf _;rw[show parS x=(v,code)from hp];rfl
  ·replace ho:get id=some o1:=ho;have hlt:=(hget id o1 ho).1;refine .inr ⟨o1,o1,ho,?_, .inl ⟨rfl,rfl⟩⟩;show(if id∈zy c then none else lh.get id)=some o1;rw[Oa (fun h=>Nat.lt_irrefl _ (Kb hlt (hr id h))),hk id hlt];exact ho
theorem CL{I:Ip}:zm Proofs.Tryz.prog (⟨99,⟨[.str],[]⟩,[],⟨[.str, .int .i64],[]⟩,0,Pk⟩:Con I):=AP
theorem VN:zm Proofs.Tryz.prog (⟨16,⟨[.own 0],[(0, .sl 44)]⟩,[],⟨[.sl 49, .int .i64],[]⟩,0,VT.parseFo⟩:Con VT.I):=nM VT.ipOK rfl eD
end Go.Lv
end
