/- nest.Parse, walked on logical values: types, small facts. -/
import Derived.Test.YtcdeccnjlkkejaaGreatDoorLf
import Derived.Test.YtcdeccnjlkkejaaGreatDoorIp
import Derived.Test.YtcdeccnjlkkejaaGreatDoorTy
import Derived.Test.YtcdeccnjlkkejaaGreatDoorTx
import Derived.Test.YtcdeccnjlkkejaaGreatDoorGa
import Derived.Test.YtcdeccnjlkkejaaGreatDoorCd
noncomputable section
set_option linter.unusedSimpArgs false
set_option linter.unusedVariables false
namespace Go.Lv.Par
open Go.Proofs Go.Lv.VT
set_option maxRecDepth 100000
abbrev P:=Tryz.prog
theorem k22:kdOf P 22= .sl 44:=by kernel_rfl
theorem k23:kdOf P 23= .sl 49:=by kernel_rfl
theorem k52:kdOf P 52= .sl 23:=by kernel_rfl
theorem k44:kdOf P 44= .st [(0,5),(1,9),(2,2),(3,9),(4,4)]:=by kernel_rfl
theorem k49:kdOf P 49= .st [(0,44),(5,23)]:=by kernel_rfl
theorem k5:kdOf P 5= .int .u8:=by kernel_rfl
theorem k4:kdOf P 4= .bool:=by kernel_rfl
theorem c22:P.cellsOf 22=1:=by kernel_rfl
theorem c23:P.cellsOf 23=1:=by kernel_rfl
theorem c52:P.cellsOf 52=1:=by kernel_rfl
theorem c44:P.cellsOf 44=5:=by kernel_rfl
theorem c49:P.cellsOf 49=6:=by kernel_rfl
theorem c5:P.cellsOf 5=1:=by kernel_rfl
theorem c4:P.cellsOf 4=1:=by kernel_rfl
theorem z22:(ti P 22).zero=[.slice none 0 0]:=by kernel_rfl
theorem FM:(ti P 23).zero=[.slice none 0 0]:=by kernel_rfl
theorem z52:(ti P 52).zero=[.slice none 0 0]:=by kernel_rfl
theorem EM:(ti P 44).zero=[.int .u8 0, .string ⟨#[]⟩, .int .i64 0, .string ⟨#[]⟩, .bool false]:=by kernel_rfl
theorem uk:(ti P 49).zero=[.int .u8 0, .string ⟨#[]⟩, .int .i64 0, .string ⟨#[]⟩, .bool false, .slice none 0 0]:=by kernel_rfl
theorem z4:(ti P 4).zero=[.bool false]:=by kernel_rfl
theorem o22:(ti P 22).zok=true:=by kernel_rfl
theorem o23:(ti P 23).zok=true:=by kernel_rfl
theorem o52:(ti P 52).zok=true:=by kernel_rfl
theorem o44:(ti P 44).zok=true:=by kernel_rfl
theorem o49:(ti P 49).zok=true:=by kernel_rfl
theorem o4:(ti P 4).zok=true:=by kernel_rfl
theorem b49:(ti P 49).by_=80:=by kernel_rfl
theorem b44:(ti P 44).by_=56:=by kernel_rfl
theorem b23:(ti P 23).by_=24:=by kernel_rfl
def tkC(t:zb):List CV:=(Io t).map .p
def vlC(v:zg):List CV:=(zG v).map .p
theorem AB(t:zb)(l:List zg):vlC ⟨t,l⟩=tkC t++[.p (.sl (l.map zG))]:=by unfold vlC;rw[WU];rfl
theorem xw(t:zb):(tkC t).length=5:=rfl
theorem YM(v:zg):(vlC v).length=6:=by obtain⟨t,l⟩:=v;rw[AB];rfl
abbrev nilC:CV:= .p (.at (.slice none 0 0))
section
variable {E:Operand->LV} {get:Get} {nx:Nat}
theorem bld2{x y:Operand}{xs:List CV}{c:CV}(d:E x= .v (.agg xs))(hl:xs.length=5)(i:E y= .v (.c c)):Op1 P E get nx (.build 49 #[(0,x),(1,y)]) (.v (.agg (xs++[c]))) [] [] 0:=by
 refine⟨True/\(ti P 49).zok=true/\ ∀f∈([(0,44),(5,23)]:List (Nat×TypeId)),kdOf P f.2≠ .bad,?_,⟨trivial,o49,fun f hf=> ?_⟩,rfl⟩
 ·match xs,hl with
  |[a1,a2,j,a4,m],_=> simp only[opR,Dl,Ji,d,i,k49,TV.cells,uk];simp only[Gi,De,Ef,Kb,c44,c23];rfl
 ·rcases ma.1 hf with rfl|hf
  ·rw[k44];simp
  ·rcases ma.1 hf with rfl|hf
   ·rw[k23];simp
   ·cases hf
theorem bld1{x:Operand}{xs:List CV}(c:E x= .v (.agg xs))(hl:xs.length=5):Op1 P E get nx (.build 49 #[(0,x)]) (.v (.agg (xs++[nilC]))) [] [] 0:=by
 refine⟨True/\(ti P 49).zok=true/\ ∀f∈([(0,44),(5,23)]:List (Nat×TypeId)),kdOf P f.2≠ .bad,?_,⟨trivial,o49,fun f hf=> ?_⟩,rfl⟩
 ·match xs,hl with
  |[a1,a2,d,a4,i],_=> simp only[opR,Dl,Ji,c,k49,TV.cells,uk];simp only[Gi,De,Kb,c44];rfl
 ·rcases ma.1 hf with rfl|hf
  ·rw[k44];simp
  ·rcases ma.1 hf with rfl|hf
   ·rw[k23];simp
   ·cases hf
end
theorem BA(k:Int):qb k=some (zo k):=by
 unfold qb zo;by_cases h1:k=19
 ·subst h1;rfl
 by_cases h2:k=21
 ·subst h2;rfl
 by_cases h3:k=2
 ·subst h3;rfl
 by_cases h4:k=23
 ·subst h4;rfl
 have e1:(k==19)=false:=Ga.2 h1;have e2:(k==21)=false:=Ga.2 h2;have e3:(k==2)=false:=Ga.2 h3;have e4:(k==23)=false:=Ga.2 h4;simp only[e1,e2,e3,e4,Ia,zh,h1,h2,h3,h4,Te,or_self]
theorem okC{con:Con I}{A:Env0 I}{exS:StSh}(f:Go.Func)(d: ∀c∈A.S,zn Tryz.prog c)(hf:Tryz.prog.funcs[con.f]? =some f)(h:chk con A f=true)(i: ∀x,evF2 A T FK f.ntmps (rsl f) (body f) con exS x=con.F x):zn Tryz.prog con:=
 okC0 mixed ipOK tok rfl rfl d hf h i
def yu(F:Int->Option Int):Con I:=⟨61,⟨[.int .u8],[]⟩,[],⟨[.int .u8],[]⟩,0,F⟩
theorem RA:zn Tryz.prog (yu qb):=
 okC (A:=⟨[],[],[],0,[],[(7,⟨[6],⟨[.bool],[]⟩,[0],[],[],0,[],⟨[],[]⟩,[]⟩)],[]⟩) (exS:=⟨[.int .u8],[]⟩) Tryz.f61 zK (by kernel_rfl) (by kernel_rfl) fun x=>by kernel_rfl
theorem MR(k:Int)(nx:Nat):zdf P 61 [.c (.p (.at (.int .u8 k)))] [] nx 0 (.v (.c (.p (.at (.int .u8 (zo k)))))) []:=
 RA.ok (k:Int) (zo k:Int) (BA k) (fun i=>nx+i) nx (fun i j h=>absurd h (Og _)) (fun i h=>absurd h (Og _)) (fun j=>congrArg (nx+ ·) (Be j))
theorem w64s{n:Int}(h1: -9223372036854775808<=n)(h2:n<=9223372036854775807):IntKind.i64.wrap n=n:=Jm h1 h2
def z6:List CV:=[.p (.at (.int .u8 0)), .p (.str []), .p (.at (.int .i64 0)), .p (.str []), .p (.at (.bool false)),nilC]
theorem zEW:Pg (ti P 49).zero=z6:=by rw[uk];rfl
section
variable {aO aL idO idL k M:Nat} {RL RO:List (List CV)} {o:zb} {c1:CV} {v1 v2:List zg} {g:Get} {Q:Post}
theorem zAz (hk:k<=16) (hL:g aL=some ⟨52,1,[[.osl idL 0 (k+2)]],none⟩) (hO:g aO=some ⟨22,1,[[.osl idO 0 (k+1)]],none⟩) (f:g idL=some ⟨23,1,RL,none⟩) (d:g idO=some ⟨44,5,RO,none⟩)
  (j:RL[k+1]? =some [.p (.sl (v2.map zG))]) (m:RO[k]? =some (tkC o)) (hM:aL<M/\aO<M/\idL<M/\idO<M) {c:Code}
  (h: ∀e,look e 0= .v (.c (.optr aO 0 0))->look e 1= .v (.c (.optr aL 0 0))->look e 2= .v (.c (.p (.at (.int .i64 k))))->look e 3= .v (.c (.optr M 0 0))->
   SW P 46 c Q e ⟨M+1,upd (upd (upd (upd g [(M,some ⟨49,6,[z6],none⟩)]) [(M,some ⟨49,6,[vlC ⟨o,v2⟩],none⟩)]) [(aL,some ⟨52,1,[[.osl idL 0 (k+1)]],none⟩)]) [(aO,some ⟨22,1,[[.osl idO 0 k]],none⟩)]⟩):
  SW P 46 (match Tryz.f60.body with|some (.seq r0 (.seq r1 (.seq r2 _)))=> .seq r0 (.seq r1 (.seq r2 c))|_=> .skip) Q [(0, .v (.c (.optr aO 0 0))),(1, .v (.c (.optr aL 0 0)))] ⟨M,g⟩:=by
 have u:aO≠aL:=at1 hO hL rfl;have J:aO≠idO:=at1 hO d rfl;have L:aO≠idL:=at1 hO f rfl;have O:aL≠idO:=at1 hL d rfl;have U:aL≠idL:=at1 hL f rfl;have V:idO≠idL:=at1 d f rfl;obtain⟨y,z,A,B⟩:=hM;have a1:=Nb y;have a2:=Nb z;have r:=Nb A;have a4:=Nb B;have e0:IntKind.i64.wrap (((k+1:Nat):Int) - 1)=(k:Int):=by rw[w64s (by omega) (by omega)];omega
 have e1:IntKind.i64.wrap ((k:Int)+1)=((k+1:Nat):Int):=by rw[w64s (by omega) (by omega)];omega
 have W:k+1<RL.length:=(Fa.1 j).1;have Y:k<RO.length:=(Fa.1 m).1;refine SW.seq (SW.reg (fun|0=>aO|1=>idO|n=>M+n) [([0],[]),([1],[]),([],[]),([],[])] ?_);refine Walk.n (Op1.load (.inl rfl) hO rfl rfl k22) rfl rfl rfl rfl rfl ?_;refine Walk.n (Op1.lenO rfl rfl rfl (.inl rfl) d k22) rfl rfl rfl rfl rfl ?_;refine Walk.n (Op1.bin (val:= .v (.c (.p (.at (.int .i64 k))))) (.inl rfl) (.inl rfl) (fun _ _=>by rw[<-e0];rfl)) rfl rfl rfl rfl rfl ?_;refine Walk.n (Op1.assign _) rfl rfl rfl rfl rfl ?_;refine Walk.end ?_;refine SW.seq (SW.regD mixed (fun i=>[aO,aL,idO,idL,M].getD i 0) 5 [([0],[]),([],[]),([2],[]),([2],[]),([1],[]),([],[]),([],[]),([3],[]),([3],[]),([],[]),([],[4]),([4],[4])] (by decide)
  (Mj (l:=[aO,aL,idO,idL,M]) (by simp only[Ie,ma,Ed,Ue,Bf,jg,Wd,Ag];omega)) (by kernel_rfl) (by kernel_rfl) ?_)
 refine Walk.n (Op1.load (.inl rfl) hO rfl rfl k22) rfl rfl rfl rfl rfl ?_;refine Walk.n (Op1.move _) rfl rfl rfl rfl rfl ?_;refine Walk.n (Op1.idxO (.inl rfl) (.inl rfl) d k22 c44 rfl (by decide) ⟨by omega,by omega⟩) rfl rfl rfl rfl rfl ?_;refine Walk.n (Op1.loadA (cs:=tkC o) (.inl rfl) d (by rw[jb,Be];exact m) k44 c44 (by rw[xw];omega)) rfl rfl rfl rfl rfl ?_;refine Walk.n (Op1.load (.inl rfl) hL rfl rfl k52) rfl rfl rfl rfl rfl ?_;refine Walk.n (Op1.move _) rfl rfl rfl rfl rfl ?_;refine Walk.n (Op1.bin (val:= .v (.c (.p (.at (.int .i64 ((k+1:Nat):Int)))))) (.inl rfl) (.inl rfl) (fun _ _=>by rw[<-e1];rfl)) rfl rfl rfl rfl rfl ?_;refine Walk.n (Op1.idxO (.inl rfl) (.inl rfl) f k52 c23 rfl (by decide) ⟨by omega,by omega⟩) rfl rfl rfl rfl rfl ?_;refine Walk.n (Op1.load (cs:=[.p (.sl (v2.map zG))]) (.inl rfl) f (by rw[jb,Be];exact j) rfl k23) rfl rfl rfl rfl rfl ?_;refine Walk.n (bld2 (xs:=tkC o) rfl rfl rfl) rfl rfl rfl rfl rfl ?_;refine Walk.n (Op1.alloc zEW c49 o49) rfl rfl rfl rfl rfl ?_;refine Walk.n0 (Op1.store (cs:=z6) (.inl rfl) (.inl rfl) upS rfl k49 c49 rfl (Va 6)) rfl rfl rfl rfl ?_;refine Walk.end ?_;refine SW.seq (SW.regD mixed (fun i=>[aO,aL,idO,idL].getD i 0) 4 [([1],[]),([],[]),([],[]),([3],[]),([0],[]),([],[]),([2],[]),([1],[1]),([0],[0])] (by decide)
  (Mj (l:=[aO,aL,idO,idL]) (by simp only[Ie,ma,Ed,Ue,Bf,jg,Wd,Ag];omega)) (by kernel_rfl) (by kernel_rfl) ?_)
 refine Walk.n (Op1.load (.inl rfl) (upK (upK hL a1) a1) rfl rfl k52) rfl rfl rfl rfl rfl ?_;refine Walk.n (Op1.move _) rfl rfl rfl rfl rfl ?_;refine Walk.n (Op1.bin (val:= .v (.c (.p (.at (.int .i64 ((k+1:Nat):Int)))))) (.inl rfl) (.inl rfl) (fun _ _=>by rw[<-e1];rfl)) rfl rfl rfl rfl rfl ?_;refine Walk.n (Op1.cutO rfl rfl (upK (upK f r) r) k52 c23 (by decide) rfl ⟨by omega,by omega⟩) rfl rfl rfl rfl rfl ?_;refine Walk.n (Op1.load (.inl rfl) (upK (upK hO a2) a2) rfl rfl k22) rfl rfl rfl rfl rfl ?_;refine Walk.n (Op1.move _) rfl rfl rfl rfl rfl ?_;refine Walk.n (Op1.cutO rfl rfl (upK (upK d a4) a4) k22 c44 (by decide) rfl ⟨by omega,by omega⟩) rfl rfl rfl rfl rfl ?_;refine Walk.n0 (Op1.store (.inl rfl) (.inl rfl) (upK (upK hL a1) a1) rfl k52 c52 rfl (Va 1)) rfl rfl rfl rfl ?_;refine Walk.n0 (Op1.store (.inl rfl) (.inl rfl) (upK (upK (upK hO a2) a2) u) rfl k22 c22 rfl (Va 1)) rfl rfl rfl rfl ?_;refine Walk.end ?_;have h4:vlC ⟨o,v2⟩=z6.take 0++(tkC o++[.p (.sl (v2.map zG))])++z6.drop (0+6):=by rw[AB];rfl
 revert h;rw[h4];intro h;exact h _ rfl rfl rfl rfl
end
theorem SW.condB{nt:Nat}{c:Operand}{x y:Code}{Q:Post}{e:Env}{lh:LH}{b:Bool}(hc:opd e c= .v (.c (.p (.at (.bool b)))))(h1:b=true->SW P nt x Q e lh)(h2:b=false->SW P nt y Q e lh):SW P nt (.cond c x y) Q e lh:=
 SW.cond (b:=b) (fun ι a w f=>by have:=zR f c;rw[hc]at d;exact Vz (t:= .c (.p (.at (.bool b)))) rfl d) h1 h2
def Lst(g:Get)(c:CV)(v:List zg):Prop:=(c=nilC/\v=[])\/ ∃id,c= .osl id 0 v.length/\g id=some ⟨49,6,v.map vlC,none⟩
theorem zAx{α:Type}(l:List α)(x y:α):(l++[x]).set l.length y=l++[y]:=by rw[List.set_append_right _ _ (Va _),Vh];rfl
section
variable {aL idL k M N:Nat} {RL:List (List CV)} {x:zg} {c1:CV} {v1:List zg} {G:Get} {Q:Post} {e:Env}
theorem opN'{nt:Nat}{ops:List Oper}{o:Oper}{s:TS}{val:LV}{rd:List Nat}{up:List (Nat×Option OB)}{k n:Nat}(h:Op1 P (opd s.e) s.get s.next o.op val rd up k)(c:o.guard=none)(f: ∀d,o.dst=some d->d<nt)(hn:n=s.next):
  OpOK P nt ops o ⟨none,val,up,rd,n,k⟩ s:=by subst hn;exact opN h c f
theorem stN{o:Oper}{val:LV}{up:List (Nat×Option OB)}{rd:List Nat}{nx k:Nat}{e:Env}{g:Get}{n:Nat}(h:o.dst=none):Zi o ⟨none,val,up,rd,nx,k⟩ ⟨e,g,n⟩=⟨e,upd g up,n+k⟩:=by unfold Zi;rw[h];rfl
theorem stS{o:Oper}{d:Nat}{val:LV}{up:List (Nat×Option OB)}{rd:List Nat}{nx k:Nat}{e:Env}{g:Get}{n:Nat}(h:o.dst=some d):Zi o ⟨none,val,up,rd,nx,k⟩ ⟨e,g,n⟩=⟨(d,val)::e,upd g up,n+k⟩:=by unfold Zi;rw[h];rfl
theorem anyR {tb tl:Nat} {o0 o1 o2 o3:Oper} {id nt:Nat} {Q:Post} {e:Env} {G:Get} {N:Nat} (d0:direct o0=[]) (d1:direct o1=[0]) (d2:direct o2=[0]) (d3:direct o3=[0,0,1,2])
  (p0:o0.op= .alloc 4/\o0.dst=some tb/\o0.guard=none) (p1:o1.op= .store 4 (.tmp tb) (.const (.bool true))/\o1.dst=none/\o1.guard=none) (p2:o2.op= .store 4 (.tmp tb) (.const (.bool false))/\o2.dst=none/\o2.guard=none)
  (p3:o3.op= .load 4 (.tmp tb)/\o3.dst=some tl/\o3.guard=none) (hb:tb<nt/\tl<nt)
  (h: ∀(b:Bool) (get':Get),(∀i,i<N->get' i=G i)->Q .normal ((tl, .v (.c (.p (.at (.bool b)))))::(tb, .v (.c (.optr N 0 0)))::e) ⟨N+1,get'⟩):SW P nt (.region id #[o0,o1,o2,o3] true) Q e ⟨N,G⟩:=by
 obtain⟨W,y,Y⟩:=p0;obtain⟨z,f,A⟩:=p1;obtain⟨B,j,J⟩:=p2;obtain⟨Z,u,L⟩:=p3;have ha: ∀(E:Operand->LV) (g:Get) (n:Nat),Op1 P E g n o0.op (.v (.c (.optr n 0 0))) [] [(n,some ⟨4,1,[[.p (.at (.bool false))]],none⟩)] 1:=fun E g n=>by rw[W];exact Op1.alloc (by rw[z4];rfl) c4 o4
 have hst: ∀(b:Bool) (E:Operand->LV) (g:Get) (n:Nat) (r:List CV),E (.tmp tb)= .v (.c (.optr N 0 0))->E (.const (.bool b))= .v (.c (.p (.at (.bool b))))->r.length=1->g N=some ⟨4,1,[r],none⟩->Op1 P E g n (.store 4 (.tmp tb) (.const (.bool b))) .any [N] [(N,some ⟨4,1,[[.p (.at (.bool b))]],none⟩)] 0:=fun b E g n r h1 h2 hr h3=>by
  have:=Op1.store (P:=P) (nx:=n) (t:=4) (cs:=r) (n:=1) (.inl h1) (.inl h2) h3 rfl k4 c4 rfl (by omega)
  match r,hr with
  |[r0],_=>exact a3
 have O: ∀(b:Bool) (E:Operand->LV) (g:Get) (n:Nat),E (.tmp tb)= .v (.c (.optr N 0 0))->g N=some ⟨4,1,[[.p (.at (.bool b))]],none⟩->Op1 P E g n o3.op (.v (.c (.p (.at (.bool b))))) [N] [] 0:=fun b E g n h1 h3=>by rw[Z];exact Op1.load (.inl h1) h3 rfl rfl k4
 have V: ∀{o:Oper},o.dst=none-> ∀d,o.dst=some d->d<nt:=fun h d U=>by rw[h]at U;cases U
 have dS: ∀{o:Oper} {t:Nat},o.dst=some t->t<nt-> ∀d,o.dst=some d->d<nt:=fun h ht d U=>by rw[h]at U;cases U;exact ht
 have m:look ((tb, .v (.c (.optr N 0 0)))::e) tb= .v (.c (.optr N 0 0)):=La rfl;refine SW.anyBool mixed d0 d1 d2 d3 (lh:=⟨N,G⟩) (opN (ha _ _ _) Y (dS y hb.1))
  (r1:=⟨none, .any,[(N,some ⟨4,1,[[.p (.at (.bool true))]],none⟩)],[N],N+1,0⟩) (r2:=⟨none, .any,[(N,some ⟨4,1,[[.p (.at (.bool false))]],none⟩)],[N],N+1,0⟩) (r3:=⟨none, .v (.c (.p (.at (.bool false)))),[],[N],N+1,0⟩)
  (r2':=⟨none, .any,[(N,some ⟨4,1,[[.p (.at (.bool false))]],none⟩)],[N],N+1,0⟩) (r1':=⟨none, .any,[(N,some ⟨4,1,[[.p (.at (.bool true))]],none⟩)],[N],N+1,0⟩) (r3':=⟨none, .v (.c (.p (.at (.bool true)))),[],[N],N+1,0⟩) ?_ ?_ ?_ ?_ ?_ ?_ ?_ ?_
 all_goals rw[stS y]
 ·(refine opN' ?_ A (V f) rfl;rw[z];exact hst true _ _ _ _ m rfl rfl upS)
 ·rw[stN f]
  (refine opN' ?_ J (V j) rfl;rw[B];exact hst false _ _ _ _ m rfl rfl upS)
 ·rw[stN f,stN j]
  (refine opN' ?_ L (dS u hb.2) rfl;exact O false _ _ _ m upS)
 ·(refine opN' ?_ J (V j) rfl;rw[B];exact hst false _ _ _ _ m rfl rfl upS)
 ·rw[stN j]
  (refine opN' ?_ A (V f) rfl;rw[z];exact hst true _ _ _ _ m rfl rfl upS)
 ·rw[stN j,stN f]
  (refine opN' ?_ L (dS u hb.2) rfl;exact O true _ _ _ m upS)
 ·rw[stN f,stN j,stS u];exact h false _ fun i hi=>upK (upK (upK rfl (Nb hi)) (Nb hi)) (Nb hi)
 ·rw[stN j,stN f,stS u];exact h true _ fun i hi=>upK (upK (upK rfl (Nb hi)) (Nb hi)) (Nb hi)
end
theorem Uh{t j:Nat}{x:LV}{e:Env}(h:t≠j):look ((j,x)::e) t=look e t:=Ha h
theorem jF{e:Env}:opd e (.const (.agg #[.int .u8 0, .string ⟨#[]⟩, .int .i64 0, .string ⟨#[]⟩, .bool false, .slice none 0 0]))= .v (.agg z6):=by simp only[opd,Jn];rw[La (by decide+c)];rfl
theorem oM(v:List zg)(x y:List CV):(v.map vlC++[x]).set v.length y=v.map vlC++[y]:=by
 have:=zAx (v.map vlC) x y
 rwa [Ra]at c
theorem MP(v:List zg)(x:List CV):(v.map vlC++[x])[v.length]? =some x:=by rw[Xc (by rw[Ra];exact Va _),Ra,Vh];rfl
theorem N7 {aL idL src k N:Nat} {RL:List (List CV)} {G:Get} {Q:Post} {e:Env} {xc:List CV}
  (hl:look e 1= .v (.c (.optr aL 0 0))) (hi:look e 2= .v (.c (.p (.at (.int .i64 k))))) (z:look e 3= .v (.c (.optr src 0 0))) (hL:G aL=some ⟨52,1,[[.osl idL 0 (k+1)]],none⟩) (d:G idL=some ⟨23,1,RL,none⟩) (hr:RL[k]? =some [nilC])
  (A:G src=some ⟨49,6,[xc],none⟩) (m:xc.length=6) (B:aL<N/\idL<N/\src<N) (J:aL≠idL/\aL≠src/\idL≠src)
  (h: ∀e',(∀t,t<17->look e' t=look e t)->Q .normal e' ⟨N+2,upd (upd (upd (upd G [(N,some ⟨49,6,[z6],none⟩)]) [(N+1,some ⟨49,6,[z6],none⟩)]) [(idL,some ⟨23,1,RL.set k [.osl (N+1) 0 (1)],none⟩)]) [(N+1,some ⟨49,6,[xc],none⟩)]⟩):
  SW P 46 (match Tryz.f60.body with|some (.seq _ (.seq _ (.seq _ (.seq _ (.cond _ c _)))))=>c|_=> .skip) Q e ⟨N,G⟩:=by
 obtain⟨U,L,V⟩:=B;obtain⟨p1,p2,W⟩:=J;have r:=Nb L;have f:idL≠N+1:=by omega
 have y:N+1≠idL:=by omega
 have O:k<RL.length:=(Fa.1 hr).1;refine SW.seq (SW.regD mixed (fun i=>[aL,idL,src,N,N+1].getD i 0) 5 [([0],[]),([],[]),([1],[]),([1],[]),([2],[]),([],[]),([],[3]),([3],[4]),([1],[]),([1],[1])] (by decide)
  (Mj (l:=[aL,idL,src,N,N+1]) (by simp only[Ie,ma,Ed,Ue,Bf,jg,Wd,Ag];omega)) (by kernel_rfl) (by kernel_rfl) ?_)
 refine Walk.n (Op1.load (.inl hl) hL rfl rfl k52) rfl rfl rfl rfl rfl ?_;refine Walk.n (Op1.move _) rfl rfl rfl rfl rfl ?_;refine Walk.n (Op1.idxL (.inl rfl) (.inl hi) d k52 c23 rfl (by decide) (Dc k)) rfl rfl rfl rfl rfl ?_;refine Walk.n (Op1.load (cs:=[nilC]) (.inl rfl) d hr rfl k23) rfl rfl rfl rfl rfl ?_;refine Walk.n (Op1.loadW (cs:=xc) (.inl z) A rfl k49 c49 m) rfl rfl rfl rfl rfl ?_;refine Walk.n (Op1.lenN rfl rfl rfl (.inl rfl) k23) rfl rfl rfl rfl rfl ?_;refine Walk.n (Op1.bs1 (u:= .agg z6) jF k23 c49 rfl (by rw[uk];rfl) (by decide) (by decide) o49) rfl rfl rfl rfl rfl ?_;refine Walk.n (Op1.appN (n:=6) (row:=z6) rfl rfl rfl rfl rfl upS rfl rfl k23 k23 c49 (by decide) rfl (by rw[b49];decide) o49) rfl rfl rfl rfl rfl ?_;refine Walk.n (Op1.idxL (.inl rfl) (.inl hi) (upK (upK d r) f) k52 c23 rfl (by decide) (Dc k)) rfl rfl rfl rfl rfl ?_;refine Walk.n0 (Op1.storeX (cs:=[nilC]) (.inl rfl) (.inl rfl) (upK (upK d r) f) hr k23 c23 rfl rfl rfl) rfl rfl rfl rfl ?_;refine Walk.end ?_;refine SW.reg (fun _=>N+1) [([0],[]),([0],[0])] ?_;refine Walk.n (Op1.idxL (n:=0+1) (j:=0) (.inl rfl) (.inl rfl) (upK upS y) k23 c49 rfl (by decide) (Dc _)) rfl rfl rfl rfl rfl ?_;refine Walk.n0 (Op1.storeX (cs:=z6) (.inl rfl) (.inl rfl) (upK upS y) rfl k49 c49 rfl m rfl) rfl rfl rfl rfl ?_;refine Walk.end ?_;exact h _ (fun t ht=>by simp only[look];repeat rw[Ha (by omega)])
theorem M7 {aL idL src k N:Nat} {RL:List (List CV)} {v1:List zg} {G:Get} {Q:Post} {e:Env} {xc:List CV} {d:Nat}
  (hl:look e 1= .v (.c (.optr aL 0 0))) (hi:look e 2= .v (.c (.p (.at (.int .i64 k))))) (L:look e 3= .v (.c (.optr src 0 0))) (hL:G aL=some ⟨52,1,[[.osl idL 0 (k+1)]],none⟩) (f:G idL=some ⟨23,1,RL,none⟩) (hr:RL[k]? =some [.osl d 0 v1.length])
  (O:G src=some ⟨49,6,[xc],none⟩) (z:xc.length=6) (h1:G d=some ⟨49,6,v1.map vlC,none⟩) (hv:v1.length<=3000) (U:aL<N/\idL<N/\src<N/\d<N) (V:aL≠idL/\aL≠src/\idL≠src/\aL≠d/\idL≠d/\src≠d)
  (h: ∀e',(∀t,t<17->look e' t=look e t)->Q .normal e' ⟨N+2,upd (upd (upd (upd G [(N,some ⟨49,6,[z6],none⟩)]) [(d,none),(N+1,some ⟨49,6,v1.map vlC++[z6],none⟩)]) [(idL,some ⟨23,1,RL.set k [.osl (N+1) 0 (v1.length+1)],none⟩)]) [(N+1,some ⟨49,6,v1.map vlC++[xc],none⟩)]⟩):
  SW P 46 (match Tryz.f60.body with|some (.seq _ (.seq _ (.seq _ (.seq _ (.cond _ c _)))))=>c|_=> .skip) Q e ⟨N,G⟩:=by
 obtain⟨m1,W,m3,Y⟩:=U;obtain⟨p1,p2,p3,p4,p5,p6⟩:=V;have e1:=Nb Y;have A:=Nb W;have r:idL≠N+1:=by omega
 have B:N+1≠idL:=by omega
 have y:=p5;have J:N+1≠d:=by omega
 have Z:k<RL.length:=(Fa.1 hr).1;refine SW.seq (SW.regD mixed (fun i=>[aL,idL,src,d,N,N+1].getD i 0) 6 [([0],[]),([],[]),([1],[]),([1],[]),([2],[]),([3],[]),([],[4]),([3,4],[3,5]),([1],[]),([1],[1])] (by decide)
  (Mj (l:=[aL,idL,src,d,N,N+1]) (by simp only[Ie,ma,Ed,Ue,Bf,jg,Wd,Ag];omega)) (by kernel_rfl) (by kernel_rfl) ?_)
 refine Walk.n (Op1.load (.inl hl) hL rfl rfl k52) rfl rfl rfl rfl rfl ?_;refine Walk.n (Op1.move _) rfl rfl rfl rfl rfl ?_;refine Walk.n (Op1.idxL (.inl rfl) (.inl hi) f k52 c23 rfl (by decide) (Dc k)) rfl rfl rfl rfl rfl ?_;refine Walk.n (Op1.load (cs:=[.osl d 0 v1.length]) (.inl rfl) f hr rfl k23) rfl rfl rfl rfl rfl ?_;refine Walk.n (Op1.loadW (cs:=xc) (.inl L) O rfl k49 c49 z) rfl rfl rfl rfl rfl ?_;refine Walk.n (Op1.lenO rfl rfl rfl (.inl rfl) h1 k23) rfl rfl rfl rfl rfl ?_;refine Walk.n (Op1.bs1 (u:= .agg z6) jF k23 c49 rfl (by rw[uk];rfl) (by decide) (by decide) o49) rfl rfl rfl rfl rfl ?_;refine Walk.n (Op1.appF (n:=6) (row:=z6) (m:=v1.length) rfl rfl rfl rfl rfl (upK h1 e1) upS rfl rfl k23 k23 c49 (by decide) (Ra ..) rfl (by rw[b49];omega) (by omega) o49) rfl rfl rfl rfl rfl ?_;refine Walk.n (Op1.idxL (.inl rfl) (.inl hi) (upK2 (upK f A) y r) k52 c23 rfl (by decide) (Dc k)) rfl rfl rfl rfl rfl ?_;refine Walk.n0 (Op1.storeX (cs:=[.osl d 0 v1.length]) (.inl rfl) (.inl rfl) (upK2 (upK f A) y r) hr k23 c23 rfl rfl rfl) rfl rfl rfl rfl ?_;refine Walk.end ?_;refine SW.reg (fun _=>N+1) [([0],[]),([0],[0])] ?_;refine Walk.n (Op1.idxL (n:=v1.length+1) (j:=v1.length) (.inl rfl) (.inl rfl) (upK (upS2 J) B) k23 c49 rfl (by decide) (Dc _)) rfl rfl rfl rfl rfl ?_;refine Walk.n0 (Op1.storeX (cs:=z6) (.inl rfl) (.inl rfl) (upK (upS2 J) B) (MP _ _) k49 c49 rfl z (oM _ _ _)) rfl rfl rfl rfl ?_;refine Walk.end ?_;exact h _ (fun t ht=>by simp only[look];repeat rw[Ha (by omega)])
theorem P7 {aL idL src k N:Nat} {RL:List (List CV)} {G:Get} {Q:Post} {e:Env} {xc:List CV}
  (hl:look e 1= .v (.c (.optr aL 0 0))) (hi:look e 2= .v (.c (.p (.at (.int .i64 k))))) (r:look e 3= .v (.c (.optr src 0 0))) (hL:G aL=some ⟨52,1,[[.osl idL 0 (k+1)]],none⟩) (d:G idL=some ⟨23,1,RL,none⟩) (hr:RL[k]? =some [nilC])
  (y:G src=some ⟨49,6,[xc],none⟩) (j:xc.length=6) (z:aL<N/\idL<N/\src<N) (A:aL≠idL/\aL≠src/\idL≠src)
  (h: ∀e',(∀t,t<17->look e' t=look e t)->Q .normal e' ⟨N+2,upd (upd (upd G [(N,some ⟨49,6,[xc],none⟩)]) [(N+1,some ⟨49,6,[xc],none⟩)]) [(idL,some ⟨23,1,RL.set k [.osl (N+1) 0 (1)],none⟩)]⟩):
  SW P 46 (match Tryz.f60.body with|some (.seq _ (.seq _ (.seq _ (.seq _ (.cond _ _ c)))))=>c|_=> .skip) Q e ⟨N,G⟩:=by
 obtain⟨L,B,O⟩:=z;obtain⟨p1,p2,U⟩:=A;have m:=Nb B;have f:idL≠N+1:=by omega
 have V:N+1≠idL:=by omega
 have J:k<RL.length:=(Fa.1 hr).1;refine SW.regD mixed (fun i=>[aL,idL,src,N,N+1].getD i 0) 5 [([0],[]),([],[]),([0],[]),([],[]),([1],[]),([1],[]),([2],[]),([],[3]),([3],[4]),([1],[]),([1],[1])] (by decide)
  (Mj (l:=[aL,idL,src,N,N+1]) (by simp only[Ie,ma,Ed,Ue,Bf,jg,Wd,Ag];omega)) (by kernel_rfl) (by kernel_rfl) ?_
 refine Walk.n (Op1.load (.inl hl) hL rfl rfl k52) rfl rfl rfl rfl rfl ?_;refine Walk.n (Op1.move _) rfl rfl rfl rfl rfl ?_;refine Walk.n (Op1.load (.inl hl) hL rfl rfl k52) rfl rfl rfl rfl rfl ?_;refine Walk.n (Op1.move _) rfl rfl rfl rfl rfl ?_;refine Walk.n (Op1.idxL (.inl rfl) (.inl hi) d k52 c23 rfl (by decide) (Dc k)) rfl rfl rfl rfl rfl ?_;refine Walk.n (Op1.load (cs:=[nilC]) (.inl rfl) d hr rfl k23) rfl rfl rfl rfl rfl ?_;refine Walk.n (Op1.loadW (cs:=xc) (.inl r) y rfl k49 c49 j) rfl rfl rfl rfl rfl ?_;refine Walk.n (Op1.bs1 (u:= .agg xc) rfl k23 c49 j (by rw[uk];rfl) (by decide) (by decide) o49) rfl rfl rfl rfl rfl ?_;refine Walk.n (Op1.appN (n:=6) (row:=xc) rfl rfl rfl rfl rfl upS rfl j k23 k23 c49 (by decide) rfl (by rw[b49];decide) o49) rfl rfl rfl rfl rfl ?_;refine Walk.n (Op1.idxL (.inl rfl) (.inl hi) (upK (upK d m) f) k52 c23 rfl (by decide) (Dc k)) rfl rfl rfl rfl rfl ?_;refine Walk.n0 (Op1.storeX (cs:=[nilC]) (.inl rfl) (.inl rfl) (upK (upK d m) f) hr k23 c23 rfl rfl rfl) rfl rfl rfl rfl ?_;refine Walk.end ?_;exact h _ (fun t ht=>by simp only[look];repeat rw[Ha (by omega)])
theorem O7 {aL idL src k N:Nat} {RL:List (List CV)} {v1:List zg} {G:Get} {Q:Post} {e:Env} {xc:List CV} {d:Nat}
  (hl:look e 1= .v (.c (.optr aL 0 0))) (hi:look e 2= .v (.c (.p (.at (.int .i64 k))))) (A:look e 3= .v (.c (.optr src 0 0))) (hL:G aL=some ⟨52,1,[[.osl idL 0 (k+1)]],none⟩) (f:G idL=some ⟨23,1,RL,none⟩) (hr:RL[k]? =some [.osl d 0 v1.length])
  (B:G src=some ⟨49,6,[xc],none⟩) (y:xc.length=6) (h1:G d=some ⟨49,6,v1.map vlC,none⟩) (hv:v1.length<=3000) (J:aL<N/\idL<N/\src<N/\d<N) (L:aL≠idL/\aL≠src/\idL≠src/\aL≠d/\idL≠d/\src≠d)
  (h: ∀e',(∀t,t<17->look e' t=look e t)->Q .normal e' ⟨N+2,upd (upd (upd G [(N,some ⟨49,6,[xc],none⟩)]) [(d,none),(N+1,some ⟨49,6,v1.map vlC++[xc],none⟩)]) [(idL,some ⟨23,1,RL.set k [.osl (N+1) 0 (v1.length+1)],none⟩)]⟩):
  SW P 46 (match Tryz.f60.body with|some (.seq _ (.seq _ (.seq _ (.seq _ (.cond _ _ c)))))=>c|_=> .skip) Q e ⟨N,G⟩:=by
 obtain⟨W,O,Y,U⟩:=J;obtain⟨p1,p2,Z,p4,p5,p6⟩:=L;have e1:=Nb U;have z:=Nb O;have j:idL≠N+1:=by omega
 have q2:N+1≠idL:=by omega
 have r:=p5;have q1:N+1≠d:=by omega
 have V:k<RL.length:=(Fa.1 hr).1;refine SW.regD mixed (fun i=>[aL,idL,src,d,N,N+1].getD i 0) 6 [([0],[]),([],[]),([0],[]),([],[]),([1],[]),([1],[]),([2],[]),([],[4]),([3,4],[3,5]),([1],[]),([1],[1])] (by decide)
  (Mj (l:=[aL,idL,src,d,N,N+1]) (by simp only[Ie,ma,Ed,Ue,Bf,jg,Wd,Ag];omega)) (by kernel_rfl) (by kernel_rfl) ?_
 refine Walk.n (Op1.load (.inl hl) hL rfl rfl k52) rfl rfl rfl rfl rfl ?_;refine Walk.n (Op1.move _) rfl rfl rfl rfl rfl ?_;refine Walk.n (Op1.load (.inl hl) hL rfl rfl k52) rfl rfl rfl rfl rfl ?_;refine Walk.n (Op1.move _) rfl rfl rfl rfl rfl ?_;refine Walk.n (Op1.idxL (.inl rfl) (.inl hi) f k52 c23 rfl (by decide) (Dc k)) rfl rfl rfl rfl rfl ?_;refine Walk.n (Op1.load (cs:=[.osl d 0 v1.length]) (.inl rfl) f hr rfl k23) rfl rfl rfl rfl rfl ?_;refine Walk.n (Op1.loadW (cs:=xc) (.inl A) B rfl k49 c49 y) rfl rfl rfl rfl rfl ?_;refine Walk.n (Op1.bs1 (u:= .agg xc) rfl k23 c49 y (by rw[uk];rfl) (by decide) (by decide) o49) rfl rfl rfl rfl rfl ?_;refine Walk.n (Op1.appF (n:=6) (row:=xc) (m:=v1.length) rfl rfl rfl rfl rfl (upK h1 e1) upS rfl y k23 k23 c49 (by decide) (Ra ..) rfl (by rw[b49];omega) (by omega) o49) rfl rfl rfl rfl rfl ?_;refine Walk.n (Op1.idxL (.inl rfl) (.inl hi) (upK2 (upK f z) r j) k52 c23 rfl (by decide) (Dc k)) rfl rfl rfl rfl rfl ?_;refine Walk.n0 (Op1.storeX (cs:=[.osl d 0 v1.length]) (.inl rfl) (.inl rfl) (upK2 (upK f z) r j) hr k23 c23 rfl rfl rfl) rfl rfl rfl rfl ?_;refine Walk.end ?_;exact h _ (fun t ht=>by simp only[look];repeat rw[Ha (by omega)])
theorem F9 {aL idL src k N:Nat} {RL:List (List CV)} {G:Get} {Q:Post} {e:Env} {tk:zb}
  (hl:look e 4= .v (.c (.optr aL 0 0))) (hi:look e 9= .v (.c (.p (.at (.int .i64 k))))) (y:look e 8= .v (.c (.optr src 0 0))) (hL:G aL=some ⟨52,1,[[.osl idL 0 (k+1)]],none⟩) (d:G idL=some ⟨23,1,RL,none⟩) (hr:RL[k]? =some [nilC])
  (z:G src=some ⟨44,5,[tkC tk],none⟩) (A:aL<N/\idL<N/\src<N) (B:aL≠idL/\aL≠src/\idL≠src)
  (h: ∀e',(∀t,t<23->look e' t=look e t)->Q .normal e' ⟨N+2,upd (upd (upd (upd G [(N,some ⟨49,6,[z6],none⟩)]) [(N+1,some ⟨49,6,[z6],none⟩)]) [(idL,some ⟨23,1,RL.set k [.osl (N+1) 0 (1)],none⟩)]) [(N+1,some ⟨49,6,[(tkC tk++[nilC])],none⟩)]⟩):
  SW P 93 (match Tryz.f16.body with|some (.seq _ (.seq _ (.seq _ (.seq _ (.seq (.seq _ (.block _ (.loop (.seq _ (.seq _ (.seq (.block _ (.seq _ (.seq _ (.block _ (.seq _ (.cond _ _ (.seq _ (.cond _ _ (.seq _ (.cond _ c _)))))))))) _)))))) _)))))=>c|_=> .skip) Q e ⟨N,G⟩:=by
 obtain⟨O,J,U⟩:=A;obtain⟨p1,p2,V⟩:=B;have m:=Nb J;have f:idL≠N+1:=by omega
 have r:N+1≠idL:=by omega
 have L:k<RL.length:=(Fa.1 hr).1;refine SW.seq (SW.regD mixed (fun i=>[aL,idL,src,N,N+1].getD i 0) 5 [([0],[]),([],[]),([1],[]),([1],[]),([2],[]),([],[]),([],[]),([],[3]),([3],[4]),([1],[]),([1],[1])] (by decide)
  (Mj (l:=[aL,idL,src,N,N+1]) (by simp only[Ie,ma,Ed,Ue,Bf,jg,Wd,Ag];omega)) (by kernel_rfl) (by kernel_rfl) ?_)
 refine Walk.n (Op1.load (.inl hl) hL rfl rfl k52) rfl rfl rfl rfl rfl ?_;refine Walk.n (Op1.move _) rfl rfl rfl rfl rfl ?_;refine Walk.n (Op1.idxL (.inl rfl) (.inl hi) d k52 c23 rfl (by decide) (Dc k)) rfl rfl rfl rfl rfl ?_;refine Walk.n (Op1.load (cs:=[nilC]) (.inl rfl) d hr rfl k23) rfl rfl rfl rfl rfl ?_;refine Walk.n (Op1.loadA (cs:=tkC tk) (.inl y) z rfl k44 c44 (by rw[xw];omega)) rfl rfl rfl rfl rfl ?_;refine Walk.n (bld1 (xs:=tkC tk) rfl rfl) rfl rfl rfl rfl rfl ?_;refine Walk.n (Op1.lenN rfl rfl rfl (.inl rfl) k23) rfl rfl rfl rfl rfl ?_;refine Walk.n (Op1.bs1 (u:= .agg z6) jF k23 c49 rfl (by rw[uk];rfl) (by decide) (by decide) o49) rfl rfl rfl rfl rfl ?_;refine Walk.n (Op1.appN (n:=6) (row:=z6) rfl rfl rfl rfl rfl upS rfl rfl k23 k23 c49 (by decide) rfl (by rw[b49];decide) o49) rfl rfl rfl rfl rfl ?_;refine Walk.n (Op1.idxL (.inl rfl) (.inl hi) (upK (upK d m) f) k52 c23 rfl (by decide) (Dc k)) rfl rfl rfl rfl rfl ?_;refine Walk.n0 (Op1.storeX (cs:=[nilC]) (.inl rfl) (.inl rfl) (upK (upK d m) f) hr k23 c23 rfl rfl rfl) rfl rfl rfl rfl ?_;refine Walk.end ?_;refine SW.reg (fun _=>N+1) [([0],[]),([0],[0])] ?_;refine Walk.n (Op1.idxL (n:=0+1) (j:=0) (.inl rfl) (.inl rfl) (upK upS r) k23 c49 rfl (by decide) (Dc _)) rfl rfl rfl rfl rfl ?_;refine Walk.n0 (Op1.storeX (cs:=z6) (.inl rfl) (.inl rfl) (upK upS r) rfl k49 c49 rfl rfl rfl) rfl rfl rfl rfl ?_;refine Walk.end ?_;exact h _ (fun t ht=>by simp only[look];repeat rw[Ha (by omega)])
theorem E9 {aL idL src k N:Nat} {RL:List (List CV)} {v1:List zg} {G:Get} {Q:Post} {e:Env} {tk:zb} {d:Nat}
  (hl:look e 4= .v (.c (.optr aL 0 0))) (hi:look e 9= .v (.c (.p (.at (.int .i64 k))))) (J:look e 8= .v (.c (.optr src 0 0))) (hL:G aL=some ⟨52,1,[[.osl idL 0 (k+1)]],none⟩) (f:G idL=some ⟨23,1,RL,none⟩) (hr:RL[k]? =some [.osl d 0 v1.length])
  (L:G src=some ⟨44,5,[tkC tk],none⟩) (h1:G d=some ⟨49,6,v1.map vlC,none⟩) (hv:v1.length<=3000) (O:aL<N/\idL<N/\src<N/\d<N) (U:aL≠idL/\aL≠src/\idL≠src/\aL≠d/\idL≠d/\src≠d)
  (h: ∀e',(∀t,t<23->look e' t=look e t)->Q .normal e' ⟨N+2,upd (upd (upd (upd G [(N,some ⟨49,6,[z6],none⟩)]) [(d,none),(N+1,some ⟨49,6,v1.map vlC++[z6],none⟩)]) [(idL,some ⟨23,1,RL.set k [.osl (N+1) 0 (v1.length+1)],none⟩)]) [(N+1,some ⟨49,6,v1.map vlC++[(tkC tk++[nilC])],none⟩)]⟩):
  SW P 93 (match Tryz.f16.body with|some (.seq _ (.seq _ (.seq _ (.seq _ (.seq (.seq _ (.block _ (.loop (.seq _ (.seq _ (.seq (.block _ (.seq _ (.seq _ (.block _ (.seq _ (.cond _ _ (.seq _ (.cond _ _ (.seq _ (.cond _ c _)))))))))) _)))))) _)))))=>c|_=> .skip) Q e ⟨N,G⟩:=by
 obtain⟨Z,V,m3,W⟩:=O;obtain⟨p1,p2,p3,p4,p5,p6⟩:=U;have e1:=Nb W;have z:=Nb V;have r:idL≠N+1:=by omega
 have A:N+1≠idL:=by omega
 have y:=p5;have B:N+1≠d:=by omega
 have Y:k<RL.length:=(Fa.1 hr).1;refine SW.seq (SW.regD mixed (fun i=>[aL,idL,src,d,N,N+1].getD i 0) 6 [([0],[]),([],[]),([1],[]),([1],[]),([2],[]),([],[]),([3],[]),([],[4]),([3,4],[3,5]),([1],[]),([1],[1])] (by decide)
  (Mj (l:=[aL,idL,src,d,N,N+1]) (by simp only[Ie,ma,Ed,Ue,Bf,jg,Wd,Ag];omega)) (by kernel_rfl) (by kernel_rfl) ?_)
 refine Walk.n (Op1.load (.inl hl) hL rfl rfl k52) rfl rfl rfl rfl rfl ?_;refine Walk.n (Op1.move _) rfl rfl rfl rfl rfl ?_;refine Walk.n (Op1.idxL (.inl rfl) (.inl hi) f k52 c23 rfl (by decide) (Dc k)) rfl rfl rfl rfl rfl ?_;refine Walk.n (Op1.load (cs:=[.osl d 0 v1.length]) (.inl rfl) f hr rfl k23) rfl rfl rfl rfl rfl ?_;refine Walk.n (Op1.loadA (cs:=tkC tk) (.inl J) L rfl k44 c44 (by rw[xw];omega)) rfl rfl rfl rfl rfl ?_;refine Walk.n (bld1 (xs:=tkC tk) rfl rfl) rfl rfl rfl rfl rfl ?_;refine Walk.n (Op1.lenO rfl rfl rfl (.inl rfl) h1 k23) rfl rfl rfl rfl rfl ?_;refine Walk.n (Op1.bs1 (u:= .agg z6) jF k23 c49 rfl (by rw[uk];rfl) (by decide) (by decide) o49) rfl rfl rfl rfl rfl ?_;refine Walk.n (Op1.appF (n:=6) (row:=z6) (m:=v1.length) rfl rfl rfl rfl rfl (upK h1 e1) upS rfl rfl k23 k23 c49 (by decide) (Ra ..) rfl (by rw[b49];omega) (by omega) o49) rfl rfl rfl rfl rfl ?_;refine Walk.n (Op1.idxL (.inl rfl) (.inl hi) (upK2 (upK f z) y r) k52 c23 rfl (by decide) (Dc k)) rfl rfl rfl rfl rfl ?_;refine Walk.n0 (Op1.storeX (cs:=[.osl d 0 v1.length]) (.inl rfl) (.inl rfl) (upK2 (upK f z) y r) hr k23 c23 rfl rfl rfl) rfl rfl rfl rfl ?_;refine Walk.end ?_;refine SW.reg (fun _=>N+1) [([0],[]),([0],[0])] ?_;refine Walk.n (Op1.idxL (n:=v1.length+1) (j:=v1.length) (.inl rfl) (.inl rfl) (upK (upS2 B) A) k23 c49 rfl (by decide) (Dc _)) rfl rfl rfl rfl rfl ?_;refine Walk.n0 (Op1.storeX (cs:=z6) (.inl rfl) (.inl rfl) (upK (upS2 B) A) (MP _ _) k49 c49 rfl rfl (oM _ _ _)) rfl rfl rfl rfl ?_;refine Walk.end ?_;exact h _ (fun t ht=>by simp only[look];repeat rw[Ha (by omega)])
theorem H9 {aL idL src k N:Nat} {RL:List (List CV)} {G:Get} {Q:Post} {e:Env} {tk:zb}
  (hl:look e 4= .v (.c (.optr aL 0 0))) (hi:look e 9= .v (.c (.p (.at (.int .i64 k))))) (m:look e 8= .v (.c (.optr src 0 0))) (hL:G aL=some ⟨52,1,[[.osl idL 0 (k+1)]],none⟩) (d:G idL=some ⟨23,1,RL,none⟩) (hr:RL[k]? =some [nilC])
  (r:G src=some ⟨44,5,[tkC tk],none⟩) (y:aL<N/\idL<N/\src<N) (z:aL≠idL/\aL≠src/\idL≠src)
  (h: ∀e',(∀t,t<23->look e' t=look e t)->Q .normal e' ⟨N+2,upd (upd (upd G [(N,some ⟨49,6,[(tkC tk++[nilC])],none⟩)]) [(N+1,some ⟨49,6,[(tkC tk++[nilC])],none⟩)]) [(idL,some ⟨23,1,RL.set k [.osl (N+1) 0 (1)],none⟩)]⟩):
  SW P 93 (match Tryz.f16.body with|some (.seq _ (.seq _ (.seq _ (.seq _ (.seq (.seq _ (.block _ (.loop (.seq _ (.seq _ (.seq (.block _ (.seq _ (.seq _ (.block _ (.seq _ (.cond _ _ (.seq _ (.cond _ _ (.seq _ (.cond _ _ c)))))))))) _)))))) _)))))=>c|_=> .skip) Q e ⟨N,G⟩:=by
 obtain⟨J,A,L⟩:=y;obtain⟨p1,p2,O⟩:=z;have j:=Nb A;have f:idL≠N+1:=by omega
 have U:N+1≠idL:=by omega
 have B:k<RL.length:=(Fa.1 hr).1;refine SW.regD mixed (fun i=>[aL,idL,src,N,N+1].getD i 0) 5 [([0],[]),([],[]),([0],[]),([],[]),([1],[]),([1],[]),([2],[]),([],[]),([],[3]),([3],[4]),([1],[]),([1],[1])] (by decide)
  (Mj (l:=[aL,idL,src,N,N+1]) (by simp only[Ie,ma,Ed,Ue,Bf,jg,Wd,Ag];omega)) (by kernel_rfl) (by kernel_rfl) ?_
 refine Walk.n (Op1.load (.inl hl) hL rfl rfl k52) rfl rfl rfl rfl rfl ?_;refine Walk.n (Op1.move _) rfl rfl rfl rfl rfl ?_;refine Walk.n (Op1.load (.inl hl) hL rfl rfl k52) rfl rfl rfl rfl rfl ?_;refine Walk.n (Op1.move _) rfl rfl rfl rfl rfl ?_;refine Walk.n (Op1.idxL (.inl rfl) (.inl hi) d k52 c23 rfl (by decide) (Dc k)) rfl rfl rfl rfl rfl ?_;refine Walk.n (Op1.load (cs:=[nilC]) (.inl rfl) d hr rfl k23) rfl rfl rfl rfl rfl ?_;refine Walk.n (Op1.loadA (cs:=tkC tk) (.inl m) r rfl k44 c44 (by rw[xw];omega)) rfl rfl rfl rfl rfl ?_;refine Walk.n (bld1 (xs:=tkC tk) rfl rfl) rfl rfl rfl rfl rfl ?_;refine Walk.n (Op1.bs1 (u:= .agg (tkC tk++[nilC])) rfl k23 c49 rfl (by rw[uk];rfl) (by decide) (by decide) o49) rfl rfl rfl rfl rfl ?_;refine Walk.n (Op1.appN (n:=6) (row:=(tkC tk++[nilC])) rfl rfl rfl rfl rfl upS rfl rfl k23 k23 c49 (by decide) rfl (by rw[b49];decide) o49) rfl rfl rfl rfl rfl ?_;refine Walk.n (Op1.idxL (.inl rfl) (.inl hi) (upK (upK d j) f) k52 c23 rfl (by decide) (Dc k)) rfl rfl rfl rfl rfl ?_;refine Walk.n0 (Op1.storeX (cs:=[nilC]) (.inl rfl) (.inl rfl) (upK (upK d j) f) hr k23 c23 rfl rfl rfl) rfl rfl rfl rfl ?_;refine Walk.end ?_;exact h _ (fun t ht=>by simp only[look];repeat rw[Ha (by omega)])
theorem G9 {aL idL src k N:Nat} {RL:List (List CV)} {v1:List zg} {G:Get} {Q:Post} {e:Env} {tk:zb} {d:Nat}
  (hl:look e 4= .v (.c (.optr aL 0 0))) (hi:look e 9= .v (.c (.p (.at (.int .i64 k))))) (z:look e 8= .v (.c (.optr src 0 0))) (hL:G aL=some ⟨52,1,[[.osl idL 0 (k+1)]],none⟩) (f:G idL=some ⟨23,1,RL,none⟩) (hr:RL[k]? =some [.osl d 0 v1.length])
  (A:G src=some ⟨44,5,[tkC tk],none⟩) (h1:G d=some ⟨49,6,v1.map vlC,none⟩) (hv:v1.length<=3000) (B:aL<N/\idL<N/\src<N/\d<N) (J:aL≠idL/\aL≠src/\idL≠src/\aL≠d/\idL≠d/\src≠d)
  (h: ∀e',(∀t,t<23->look e' t=look e t)->Q .normal e' ⟨N+2,upd (upd (upd G [(N,some ⟨49,6,[(tkC tk++[nilC])],none⟩)]) [(d,none),(N+1,some ⟨49,6,v1.map vlC++[(tkC tk++[nilC])],none⟩)]) [(idL,some ⟨23,1,RL.set k [.osl (N+1) 0 (v1.length+1)],none⟩)]⟩):
  SW P 93 (match Tryz.f16.body with|some (.seq _ (.seq _ (.seq _ (.seq _ (.seq (.seq _ (.block _ (.loop (.seq _ (.seq _ (.seq (.block _ (.seq _ (.seq _ (.block _ (.seq _ (.cond _ _ (.seq _ (.cond _ _ (.seq _ (.cond _ _ c)))))))))) _)))))) _)))))=>c|_=> .skip) Q e ⟨N,G⟩:=by
 obtain⟨V,L,W,O⟩:=B;obtain⟨p1,p2,Y,p4,p5,Z⟩:=J;have e1:=Nb O;have y:=Nb L;have j:idL≠N+1:=by omega
 have q2:N+1≠idL:=by omega
 have r:=p5;have q1:N+1≠d:=by omega
 have U:k<RL.length:=(Fa.1 hr).1;refine SW.regD mixed (fun i=>[aL,idL,src,d,N,N+1].getD i 0) 6 [([0],[]),([],[]),([0],[]),([],[]),([1],[]),([1],[]),([2],[]),([],[]),([],[4]),([3,4],[3,5]),([1],[]),([1],[1])] (by decide)
  (Mj (l:=[aL,idL,src,d,N,N+1]) (by simp only[Ie,ma,Ed,Ue,Bf,jg,Wd,Ag];omega)) (by kernel_rfl) (by kernel_rfl) ?_
 refine Walk.n (Op1.load (.inl hl) hL rfl rfl k52) rfl rfl rfl rfl rfl ?_;refine Walk.n (Op1.move _) rfl rfl rfl rfl rfl ?_;refine Walk.n (Op1.load (.inl hl) hL rfl rfl k52) rfl rfl rfl rfl rfl ?_;refine Walk.n (Op1.move _) rfl rfl rfl rfl rfl ?_;refine Walk.n (Op1.idxL (.inl rfl) (.inl hi) f k52 c23 rfl (by decide) (Dc k)) rfl rfl rfl rfl rfl ?_;refine Walk.n (Op1.load (cs:=[.osl d 0 v1.length]) (.inl rfl) f hr rfl k23) rfl rfl rfl rfl rfl ?_;refine Walk.n (Op1.loadA (cs:=tkC tk) (.inl z) A rfl k44 c44 (by rw[xw];omega)) rfl rfl rfl rfl rfl ?_;refine Walk.n (bld1 (xs:=tkC tk) rfl rfl) rfl rfl rfl rfl rfl ?_;refine Walk.n (Op1.bs1 (u:= .agg (tkC tk++[nilC])) rfl k23 c49 rfl (by rw[uk];rfl) (by decide) (by decide) o49) rfl rfl rfl rfl rfl ?_;refine Walk.n (Op1.appF (n:=6) (row:=(tkC tk++[nilC])) (m:=v1.length) rfl rfl rfl rfl rfl (upK h1 e1) upS rfl rfl k23 k23 c49 (by decide) (Ra ..) rfl (by rw[b49];omega) (by omega) o49) rfl rfl rfl rfl rfl ?_;refine Walk.n (Op1.idxL (.inl rfl) (.inl hi) (upK2 (upK f y) r j) k52 c23 rfl (by decide) (Dc k)) rfl rfl rfl rfl rfl ?_;refine Walk.n0 (Op1.storeX (cs:=[.osl d 0 v1.length]) (.inl rfl) (.inl rfl) (upK2 (upK f y) r j) hr k23 c23 rfl rfl rfl) rfl rfl rfl rfl ?_;refine Walk.end ?_;exact h _ (fun t ht=>by simp only[look];repeat rw[Ha (by omega)])
def Put(G:Get)(idL k n:Nat)(RL:List (List CV))(c1:CV)(v1:List zg)(xc:List CV)(get':Get):Prop:=
 get' idL=some ⟨23,1,RL.set k [.osl n 0 (v1.length+1)],none⟩/\get' n=some ⟨49,6,v1.map vlC++[xc],none⟩/\(∀id∈zJ c1,get' id=none)/\ ∀id,id+2<n->id≠idL->id ∉ zJ c1->get' id=G id
theorem I9 {aL idL src k N:Nat} {RL:List (List CV)} {c1:CV} {v1:List zg} {G:Get} {Q:Post} {e:Env} {xc:List CV}
  (hl:look e 1= .v (.c (.optr aL 0 0))) (hi:look e 2= .v (.c (.p (.at (.int .i64 k))))) (B:look e 3= .v (.c (.optr src 0 0))) (hL:G aL=some ⟨52,1,[[.osl idL 0 (k+1)]],none⟩) (j:G idL=some ⟨23,1,RL,none⟩) (hr:RL[k]? =some [c1])
  (V:G src=some ⟨49,6,[xc],none⟩) (J:xc.length=6) (W:src ∉ zJ c1) (h1:Lst G c1 v1) (hv:v1.length<=3000) (hN:aL<N/\idL<N/\src<N) (Y: ∀i∈zJ c1,i<N)
  (h: ∀e' get',Put G idL k (N+2) RL c1 v1 xc get'->Q .normal e' ⟨N+3,get'⟩):
  SW P 46 (match Tryz.f60.body with|some (.seq _ (.seq _ (.seq _ c)))=>c|_=> .skip) Q e ⟨N,G⟩:=by
 obtain⟨u,z,A⟩:=hN;have p1:aL≠idL:=at1 hL j rfl;have p2:aL≠src:=at1 hL V rfl;have L:idL≠src:=at1 j V rfl;refine SW.seq (anyR (tb:=24) (tl:=25) rfl rfl rfl rfl ⟨rfl,rfl,rfl⟩ ⟨rfl,rfl,rfl⟩ ⟨rfl,rfl,rfl⟩ ⟨rfl,rfl,rfl⟩ ⟨by decide,by decide⟩ fun b g r=> ?_);have d: ∀t,t<17->look ((25, .v (.c (.p (.at (.bool b)))))::(24, .v (.c (.optr N 0 0)))::e) t=look e t:=fun t ht=>(Uh (by omega)).trans (Uh (by omega));have O:=(r aL u).trans hL;have m:=(r idL z).trans j;have U:=(r src A).trans V;have lt: ∀{x y:Nat},x<y->x<y+1:=fun h=>ib h;rcases h1 with⟨rfl,rfl⟩|⟨f,rfl,h1⟩
 ·skip
  refine SW.condB (b:=b) rfl (fun _=> ?_) (fun _=> ?_)
  ·refine N7 ((d _ (by decide)).trans hl) ((d _ (by decide)).trans hi) ((d _ (by decide)).trans B) O m hr U J ⟨lt u,lt z,lt A⟩ ⟨p1,p2,L⟩ fun e' Z=> ?_;refine h _ _ ⟨?_,?_,?_,fun id hid h1 h2=> ?_⟩
   ·exact upK upS (by omega)
   ·exact upS
   ·intro id hid;cases hid
   ·exact upK (upK (upK (upK (r id (by omega)) (by omega)) (by omega)) h1) (by omega)
  ·refine P7 ((d _ (by decide)).trans hl) ((d _ (by decide)).trans hi) ((d _ (by decide)).trans B) O m hr U J ⟨lt u,lt z,lt A⟩ ⟨p1,p2,L⟩ fun e' Z=> ?_;refine h _ _ ⟨?_,?_,?_,fun id hid h1 h2=> ?_⟩
   ·exact upS
   ·exact upK upS (by omega)
   ·intro id hid;cases hid
   ·exact upK (upK (upK (r id (by omega)) (by omega)) (by omega)) h1
 ·have m4:f<N:=Y f (Sa.2 rfl);have g1:=(r f m4).trans h1;have p4:aL≠f:=at1 hL h1 rfl;have p5:idL≠f:=at1 j h1 rfl;have p6:src≠f:=fun e=>W (Sa.2 e);refine SW.condB (b:=b) rfl (fun _=> ?_) (fun _=> ?_)
  ·refine M7 ((d _ (by decide)).trans hl) ((d _ (by decide)).trans hi) ((d _ (by decide)).trans B) O m hr U J g1 hv ⟨lt u,lt z,lt A,lt m4⟩ ⟨p1,p2,L,p4,p5,p6⟩ fun e' Z=> ?_;refine h _ _ ⟨?_,?_,?_,fun id hid h1 h2=> ?_⟩
   ·exact upK upS (by omega)
   ·exact upS
   ·intro id hid;obtain rfl:=Sa.1 hid;exact upK (upK (La rfl) (Ne.symm p5)) (by omega)
   ·exact upK (upK (upK2 (upK (r id (by omega)) (by omega)) (fun e=>h2 (Sa.2 e)) (by omega)) h1) (by omega)
  ·refine O7 ((d _ (by decide)).trans hl) ((d _ (by decide)).trans hi) ((d _ (by decide)).trans B) O m hr U J g1 hv ⟨lt u,lt z,lt A,lt m4⟩ ⟨p1,p2,L,p4,p5,p6⟩ fun e' Z=> ?_;refine h _ _ ⟨?_,?_,?_,fun id hid h1 h2=> ?_⟩
   ·exact upS
   ·exact upK (upS2 (by omega)) (by omega)
   ·intro id hid;obtain rfl:=Sa.1 hid;exact(upK (La rfl) (Ne.symm p5))
   ·exact upK (upK2 (upK (r id (by omega)) (by omega)) (fun e=>h2 (Sa.2 e)) (by omega)) h1
theorem zrs {aL idL src k N:Nat} {RL:List (List CV)} {c1:CV} {v1:List zg} {G:Get} {Q:Post} {e:Env} {tk:zb}
  (hl:look e 4= .v (.c (.optr aL 0 0))) (hi:look e 9= .v (.c (.p (.at (.int .i64 k))))) (J:look e 8= .v (.c (.optr src 0 0))) (hL:G aL=some ⟨52,1,[[.osl idL 0 (k+1)]],none⟩) (j:G idL=some ⟨23,1,RL,none⟩) (hr:RL[k]? =some [c1])
  (L:G src=some ⟨44,5,[tkC tk],none⟩) (h1:Lst G c1 v1) (hv:v1.length<=3000) (hN:aL<N/\idL<N/\src<N) (W: ∀i∈zJ c1,i<N)
  (h: ∀e' get',(∀t,t<23->look e' t=look e t)->Put G idL k (N+2) RL c1 v1 (tkC tk++[nilC]) get'->Q .normal e' ⟨N+3,get'⟩):
  SW P 93 (match Tryz.f16.body with|some (.seq _ (.seq _ (.seq _ (.seq _ (.seq (.seq _ (.block _ (.loop (.seq _ (.seq _ (.seq (.block _ (.seq _ (.seq _ (.block _ (.seq _ (.cond _ _ (.seq _ (.cond _ _ (c))))))))) _)))))) _)))))=>c|_=> .skip) Q e ⟨N,G⟩:=by
 obtain⟨z,A,B⟩:=hN;have p1:aL≠idL:=at1 hL j rfl;have p2:aL≠src:=at1 hL L rfl;have O:idL≠src:=at1 j L rfl;refine SW.seq (anyR (tb:=23) (tl:=24) rfl rfl rfl rfl ⟨rfl,rfl,rfl⟩ ⟨rfl,rfl,rfl⟩ ⟨rfl,rfl,rfl⟩ ⟨rfl,rfl,rfl⟩ ⟨by decide,by decide⟩ fun b g r=> ?_);have d: ∀t,t<23->look ((24, .v (.c (.p (.at (.bool b)))))::(23, .v (.c (.optr N 0 0)))::e) t=look e t:=fun t ht=>(Uh (by omega)).trans (Uh (by omega));have U:=(r aL z).trans hL;have m:=(r idL A).trans j;have V:=(r src B).trans L;have lt: ∀{x y:Nat},x<y->x<y+1:=fun h=>ib h;rcases h1 with⟨rfl,rfl⟩|⟨f,rfl,h1⟩
 ·skip
  refine SW.condB (b:=b) rfl (fun _=> ?_) (fun _=> ?_)
  ·refine F9 ((d _ (by decide)).trans hl) ((d _ (by decide)).trans hi) ((d _ (by decide)).trans J) U m hr V ⟨lt z,lt A,lt B⟩ ⟨p1,p2,O⟩ fun e' u=> ?_;refine h _ _ (fun t ht=>(u t ht).trans (d t ht)) ⟨?_,?_,?_,fun id hid h1 h2=> ?_⟩
   ·exact upK upS (by omega)
   ·exact upS
   ·intro id hid;cases hid
   ·exact upK (upK (upK (upK (r id (by omega)) (by omega)) (by omega)) h1) (by omega)
  ·refine H9 ((d _ (by decide)).trans hl) ((d _ (by decide)).trans hi) ((d _ (by decide)).trans J) U m hr V ⟨lt z,lt A,lt B⟩ ⟨p1,p2,O⟩ fun e' u=> ?_;refine h _ _ (fun t ht=>(u t ht).trans (d t ht)) ⟨?_,?_,?_,fun id hid h1 h2=> ?_⟩
   ·exact upS
   ·exact upK upS (by omega)
   ·intro id hid;cases hid
   ·exact upK (upK (upK (r id (by omega)) (by omega)) (by omega)) h1
 ·have Y:f<N:=W f (Sa.2 rfl);have g1:=(r f Y).trans h1;have p4:aL≠f:=at1 hL h1 rfl;have p5:idL≠f:=at1 j h1 rfl;have Z:src≠f:=at1 L h1 rfl;refine SW.condB (b:=b) rfl (fun _=> ?_) (fun _=> ?_)
  ·refine E9 ((d _ (by decide)).trans hl) ((d _ (by decide)).trans hi) ((d _ (by decide)).trans J) U m hr V g1 hv ⟨lt z,lt A,lt B,lt Y⟩ ⟨p1,p2,O,p4,p5,Z⟩ fun e' u=> ?_;refine h _ _ (fun t ht=>(u t ht).trans (d t ht)) ⟨?_,?_,?_,fun id hid h1 h2=> ?_⟩
   ·exact upK upS (by omega)
   ·exact upS
   ·intro id hid;obtain rfl:=Sa.1 hid;exact upK (upK (La rfl) (Ne.symm p5)) (by omega)
   ·exact upK (upK (upK2 (upK (r id (by omega)) (by omega)) (fun e=>h2 (Sa.2 e)) (by omega)) h1) (by omega)
  ·refine G9 ((d _ (by decide)).trans hl) ((d _ (by decide)).trans hi) ((d _ (by decide)).trans J) U m hr V g1 hv ⟨lt z,lt A,lt B,lt Y⟩ ⟨p1,p2,O,p4,p5,Z⟩ fun e' u=> ?_;refine h _ _ (fun t ht=>(u t ht).trans (d t ht)) ⟨?_,?_,?_,fun id hid h1 h2=> ?_⟩
   ·exact upS
   ·exact upK (upS2 (by omega)) (by omega)
   ·intro id hid;obtain rfl:=Sa.1 hid;exact(upK (La rfl) (Ne.symm p5))
   ·exact upK (upK2 (upK (r id (by omega)) (by omega)) (fun e=>h2 (Sa.2 e)) (by omega)) h1
theorem RcL.refl{Z:Nat->Prop}{get:Get}{D:Nat->Prop}(x:LV):RcL Z get D x x:=by
 have d: ∀t:TV,RcT Z get D t t:=fun t=>by
  cases t with
  |c x=>exact .c _ _ (RcC.refl x)
  |agg xs=>exact .agg _ _ rfl fun j a b ha hb=>by rw[ha]at hb;cases hb;exact RcC.refl a
 cases x with
 |any=>exact .any _
 |v t=>exact .v _ _ (d t)
 |opt g t=>exact .opt _ _ _ (d t)
 |tup ts=>exact .tup _ _ rfl fun j a b ha hb=>by rw[ha]at hb;cases hb;exact d a
theorem EX{g:Get}{D:Nat->Prop}{c:CV}{v:List zg}(h:Lst g c v)(hD: ∀id∈zJ c,D id):Fz g D c (.sl (v.map zG)):=by
 rcases h with⟨rfl,rfl⟩|⟨id,rfl,h⟩
 ·exact .nil
 ·refine .osl id 0 _ _ _ (hD id (Sa.2 rfl)) h (Ra ..) (by rw[Ra];omega) (fun row hr=> ?_) (fun i row j x r y ha f hr u=> ?_)
  ·obtain⟨z,_,rfl⟩:=Oa.1 hr;have:=YM z;unfold vlC at d
   rwa [Ra]at d
  ·simp only[Ta,Be]at ha hr;cases m:v[i]? with
   |none=>rw[m]at ha;cases ha
   |some z=> rw[m]at ha hr;cases ha;cases hr;unfold vlC at f;rw[Ta,u]at f;cases f;exact .p _
theorem zCd {nt:Nat} {e:Env} {g:Get} {M f ty r:Nat} {RL:List (List CV)} {c:CV} {v:List zg} (h0:g f=some ⟨ty,1,RL,none⟩) (hr:RL[r]? =some [c]) (hc:Lst g c v) (hi:f ∉ zJ c) (d:Get)
  (k1:d f=some ⟨ty,1,RL.set r [.p (.sl (v.map zG))],none⟩) (k2: ∀id∈zJ c,d id=none) (k3: ∀id,id≠f->id ∉ zJ c->d id=g id):Sub nt e ⟨M,g⟩ e ⟨M,d⟩:=by
 refine recast (Z:=fun _=>False) (Va _) (fun z L=>L.elim) (fun id o2 ho _=> ?_) (fun t=>RcL.refl _);by_cases h1:id=f
 ·subst h1;replace ho:d id=some o2:=ho;rw[k1]at ho;cases ho;refine⟨_,h0,rfl,rfl,List.length_set,fun i row row2 a b=> ?_,rfl⟩;replace b:(RL.set r [.p (.sl (v.map zG))])[i]? =some row2:=b;replace a:RL[i]? =some row:=a;by_cases m:i=r
  ·subst m;rw[hr]at a;cases a;rw[Eg (Fa.1 hr).1]at b;cases b;refine⟨rfl,fun j x y A B=> ?_⟩;cases j with
   |zero=>cases A;cases B;exact .inr ⟨_,rfl,EX hc k2⟩
   |J j=>cases A
  ·rw[Df (Ne.symm m),a]at b;cases b;exact⟨rfl,fun j x y A B=>by rw[A]at B;cases B;exact RcC.refl x⟩
 ·by_cases h2:id∈zJ c
  ·have:=k2 id h2;replace ho:d id=some o2:=ho;rw[u]at ho;cases ho
  ·have:=k3 id h1 h2;replace ho:d id=some o2:=ho;rw[u]at ho;exact⟨o2,ho,RcO.refl o2⟩
structure zts (get:Get) (aO aL idO idL k nx:Nat) (RL:List (List CV)) (c1 c2:CV) (v1 v2:List zg) (o:zb) (U:Get):Prop where
 uO:U aO=some ⟨22,1,[[.osl idO 0 k]],none⟩
 uL:U aL=some ⟨52,1,[[.osl idL 0 (k+1)]],none⟩
 uI:U idL=some ⟨23,1,(RL.set (k+1) [.p (.sl (v2.map zG))]).set k [.osl nx 0 (v1.length+1)],none⟩
 uN:U nx=some ⟨49,6,v1.map vlC++[vlC ⟨o,v2⟩],none⟩
 gone: ∀id,id∈zJ c1\/id∈zJ c2->U id=none
 keep: ∀id,id≠aO->id≠aL->id≠idL->id≠nx->id ∉ zJ c1->id ∉ zJ c2->U id=get id
def Ex(aO aL idO idL k nx:Nat)(RL:List (List CV))(c1 c2:CV)(v1 v2:List zg)(o:zb):List (Nat×Option OB):=
 [(aO,some ⟨22,1,[[.osl idO 0 k]],none⟩),(aL,some ⟨52,1,[[.osl idL 0 (k+1)]],none⟩),(idL,some ⟨23,1,(RL.set (k+1) [.p (.sl (v2.map zG))]).set k [.osl nx 0 (v1.length+1)],none⟩),
  (nx,some ⟨49,6,v1.map vlC++[vlC ⟨o,v2⟩],none⟩)]++((zJ c1++zJ c2).map fun i=>(i,none))
theorem fM{get:Get}(b:List (Nat×Option OB)): ∀(a:List (Nat×Option OB)) (i:Nat),upd get (a++b) i=upd (upd get b) a i
 |[],_=>rfl
 |(j,o)::a,i=>by simp only[ja,upd];rw[fM b a i]
theorem MI{get:Get}: ∀(l:List Nat) (i:Nat),upd get (l.map fun i=>(i,none)) i=if i∈l then none else get i
 |[],_=>rfl
 |j::l,i=>by
  simp only[aa,upd];rw[MI l i];by_cases h:i=j
  ·rw[La h,La (by rw[h];exact Jb ..)]
  ·rw[Ha h];by_cases h2:i∈l
   ·rw[La h2,La (Eb _ h2)]
   ·rw[Ha h2,Ha (fun h3=>(ma.1 h3).elim h h2)]
theorem bR{get:Get}{aO aL idO idL k nx:Nat}{RL:List (List CV)}{c1 c2:CV}{v1 v2:List zg}{o:zb}(d:aO≠aL)(f:aO≠idL)(j:aL≠idL)(m:aO≠nx/\aL≠nx/\idL≠nx)(p: ∀id,id∈zJ c1\/id∈zJ c2->id≠aO/\id≠aL/\id≠idL/\id≠nx):
  zts get aO aL idO idL k nx RL c1 c2 v1 v2 o (upd get (Ex aO aL idO idL k nx RL c1 c2 v1 v2 o)):=by
 obtain⟨r,u,v⟩:=m;have c: ∀i,upd get (Ex aO aL idO idL k nx RL c1 c2 v1 v2 o) i=_:=fun i=>fM _ _ i;refine⟨?_,?_,?_,?_,fun id hid=> ?_,fun id h1 h2 h3 h4 y z=> ?_⟩
 all_goals rw[c]
 all_goals simp only[upd]
 ·rw[La trivial]
 ·rw[Ha (Ne.symm d),La trivial]
 ·rw[Ha (Ne.symm f),Ha (Ne.symm j),La trivial]
 ·rw[Ha (Ne.symm r),Ha (Ne.symm u),Ha (Ne.symm v),La trivial]
 ·obtain⟨A,B,J,L⟩:=p id hid;rw[Ha A,Ha B,Ha J,Ha L,MI,La (Bc.2 hid)]
 ·rw[Ha h1,Ha h2,Ha h3,Ha h4,MI,Ha (fun h=>(Bc.1 h).elim y z)]
theorem fA{c:List Nat}{nx id:Nat}(h:id ∉ c):rnI c nx id=id:=by
 unfold rnI;cases hi:c.idxOf? id with
 |none=>rfl
 |some j=>exact absurd (Ua (yC hi)) h
theorem zAu{d:List Nat}{nx:Nat}{c:CV}(h: ∀id∈zJ c,id ∉ d):rnC d nx c=c:=by
 cases c with
 |p x=>rfl
 |osl id off n=>simp only[rnC,fA (h id (Sa.2 rfl))]
 |optr id row cell=>simp only[rnC,fA (h id (Sa.2 rfl))]
 |mref id=>simp only[rnC,fA (h id (Sa.2 rfl))]
 |fsl rows=>rfl
 |clo f caps=> simp only[rnC];congr 1;refine(Ya fun q i=> ?_).trans (List.map_id caps);rw[fA (h q.1 (Oa.2 ⟨q,i,rfl⟩))];rfl
theorem WC{d:List Nat}{nx:Nat}{rows:List (List CV)}(h: ∀row∈rows,∀c∈row,∀id∈zJ c,id ∉ d):rows.map (·.map (rnC d nx))=rows:=by refine(Ya fun row hr=> ?_).trans (List.map_id rows);exact(Ya fun c hc=>zAu (h row hr c hc)).trans (List.map_id row)
theorem OO{v:zg}: ∀c∈vlC v,zJ c=[]:=fun c hc=>by unfold vlC at hc;obtain⟨p,_,rfl⟩:=Oa.1 hc;rfl
theorem CZ{v:List zg}{x:zg}: ∀row∈v.map vlC++[vlC x],∀c∈row,zJ c=[]:=fun row hr=>by
 rcases Bc.1 hr with hr|hr
 ·obtain⟨z,_,rfl⟩:=Oa.1 hr;exact OO
 ·rw[Sa.1 hr];exact OO
theorem zAA {aO aL idO idL k nx:Nat} {RL RO:List (List CV)} {o:zb} {c1 c2:CV} {v1 v2:List zg} {rd:List (Nat×OB)} (hk:k<=16) (a7:v1.length<=3000) (r1:RL[k]? =some [c1]) (r2:RL[k+1]? =some [c2]) (r3:RO[k]? =some (tkC o))
  (d0:(aO,(⟨22,1,[[.osl idO 0 (k+1)]],none⟩:OB))∈rd) (d1:(aL,(⟨52,1,[[.osl idL 0 (k+2)]],none⟩:OB))∈rd) (d2:(idL,(⟨23,1,RL,none⟩:OB))∈rd) (d3:(idO,(⟨44,5,RO,none⟩:OB))∈rd)
  (q1:c1=nilC/\v1=[]\/ ∃id,c1= .osl id 0 v1.length/\(id,(⟨49,6,v1.map vlC,none⟩:OB))∈rd) (q2:c2=nilC/\v2=[]\/ ∃id,c2= .osl id 0 v2.length/\(id,(⟨49,6,v2.map vlC,none⟩:OB))∈rd)
  (a8: ∀id∈zJ c1,id ∉ zJ c2) (J: ∀i row,RL[i]? =some row->i≠k+1-> ∀c∈row,∀id∈zJ c,∃ob,(id,ob)∈rd):
  zdf P 60 [.c (.optr aO 0 0), .c (.optr aL 0 0)] rd nx 1 (.tup []) (Ex aO aL idO idL k nx RL c1 c2 v1 v2 o):=by
 refine NT (fn:=Tryz.f60) (c:=match Tryz.f60.body with|some c=>c|none=> .skip) (rs:=[]) (nt:=46) Tryz.func60 rfl rfl rfl (by kernel_rfl) (Rc rfl) fun get M hM A m=> ?_;have hL:=m _ d1;have hO:=m _ d0;have f:=m _ d2;have L:=m _ d3;have lt: ∀{id:Nat} {ob:OB},get id=some ob->id<M:=fun h=>(A _ _ h).1;have nn: ∀{id:Nat} {ob:OB},get id=some ob->id≠nx:=fun h=>by have:=(A _ _ h).2;omega
 have n1:aO≠aL:=at1 hO hL rfl;have n2:aO≠idL:=at1 hO f rfl;have n3:aL≠idL:=at1 hL f rfl;have n4:idO≠idL:=at1 L f rfl;have L1:Lst get c1 v1:=q1.elim .inl fun⟨id,h1,h2⟩=> .inr ⟨id,h1,m _ h2⟩;have L2:Lst get c2 v2:=q2.elim .inl fun⟨id,h1,h2⟩=> .inr ⟨id,h1,m _ h2⟩;have rf: ∀{c:CV} {v:List zg},Lst get c v-> ∀id∈zJ c,get id=some ⟨49,6,v.map vlC,none⟩:=fun {c v} h id hid=>by
  rcases h with⟨rfl,_⟩|⟨i,rfl,h⟩
  ·cases hid
  ·rw[Sa.1 hid];exact h
 have f1:=rf L1;have f2:=rf L2
 -- the list that is shut is frozen
 let g2:Get:=fun id=>if id=idL then some ⟨23,1,RL.set (k+1) [.p (.sl (v2.map zG))],none⟩else if id∈zJ c2 then none else get id
 have O:g2 idL=some ⟨23,1,RL.set (k+1) [.p (.sl (v2.map zG))],none⟩:=La rfl;have y: ∀id,id≠idL->id ∉ zJ c2->g2 id=get id:=fun id h1 h2=>by show(if _ then _ else if _ then _ else _)=_;rw[Ha h1,Ha h2]
 have a3:idL ∉ zJ c2:=fun h=>at1 f (f2 _ h) rfl rfl;refine SW.sub (zCd f r2 L2 a3 g2 O (fun id hid=>by show(if _ then _ else if _ then _ else _)=_;rw[Ha (fun(e:id=idL)=>a3 (by rw[<-e];exact hid)),La hid]) y) ?_;have e2: ∀{id:Nat} {ob:OB},get id=some ob->id≠idL->Nat.beq ob.ty 49=false->g2 id=some ob:=fun {id ob} h h1 h2=>by rw[y id h1 fun h3=>by have:=f2 id h3;rw[h]at r;cases r;cases h2];exact h
 have gL:=e2 hL n3 rfl;have gO:=e2 hO n2 rfl;have a9:=e2 L n4 rfl;have a5:k+1<RL.length:=(Fa.1 r2).1;have ab:aL<M/\aO<M/\idL<M/\idO<M:=⟨lt hL,lt hO,lt f,lt L⟩;obtain⟨m1,m2,m3,m4⟩:=ab;refine zAz (k:=k) (RL:=RL.set (k+1) [.p (.sl (v2.map zG))]) (RO:=RO) (o:=o) (v2:=v2) (c:=match Tryz.f60.body with|some (.seq _ (.seq _ (.seq _ c)))=>c|_=> .skip) hk gL gO O a9 (Eg a5) r3 ⟨m1,m2,m3,m4⟩ fun e h0 h1 h2 h3=> ?_;have r1':(RL.set (k+1) [.p (.sl (v2.map zG))])[k]? =some [c1]:=by rw[Df (by omega)];exact r1
 generalize hG:upd (upd (upd (upd g2 [(M,some ⟨49,6,[z6],none⟩)]) [(M,some ⟨49,6,[vlC ⟨o,v2⟩],none⟩)]) [(aL,some ⟨52,1,[[.osl idL 0 (k+1)]],none⟩)]) [(aO,some ⟨22,1,[[.osl idO 0 k]],none⟩)]=G;have Gk: ∀id,id≠M->id≠aL->id≠aO->G id=g2 id:=fun id a b c=>by rw[<-hG];exact upK (upK (upK (upK rfl a) a) b) c
 have GL:G aL=some ⟨52,1,[[.osl idL 0 (k+1)]],none⟩:=by rw[<-hG];exact upK upS (Ne.symm n1)
 have GO:G aO=some ⟨22,1,[[.osl idO 0 k]],none⟩:=by rw[<-hG];exact upS
 have GI:G idL=_:=(Gk idL (by omega) (Ne.symm n3) (Ne.symm n2)).trans O;have GM:G M=some ⟨49,6,[vlC ⟨o,v2⟩],none⟩:=by rw[<-hG];exact upK (upK upS (by omega)) (by omega)
 have U: ∀id∈zJ c1,id<M:=fun id hid=>lt (f1 id hid);have z: ∀id∈zJ c1,id≠aL/\id≠aO/\id≠idL:=fun id hid=>⟨at1 (f1 id hid) hL rfl,at1 (f1 id hid) hO rfl,at1 (f1 id hid) f rfl⟩;have ad: ∀id∈zJ c2,id≠aL/\id≠aO/\id≠idL:=fun id hid=>⟨at1 (f2 id hid) hL rfl,at1 (f2 id hid) hO rfl,at1 (f2 id hid) f rfl⟩;have al:Lst G c1 v1:=by
  rcases L1 with h|⟨id,rfl,h⟩
  ·exact .inl h
  ·have hm:id∈zJ (.osl id 0 v1.length):=Sa.2 rfl;obtain⟨a,b,c⟩:=z id hm;exact .inr ⟨id,rfl,by rw[Gk id (by have:=U id hm;omega) a b,y id c (a8 id hm)];exact h⟩
 refine I9 (src:=M) (N:=M+1) (xc:=vlC ⟨o,v2⟩) h1 h2 h3 GL GI r1' GM (YM _) (fun h=>by have:=U _ h;omega) al a7 ⟨by omega,by omega,by omega⟩ (fun i hi=>ib (U i hi)) fun e' get' a6=> ?_;obtain⟨t1,t2,t3,t4⟩:=a6;have V:=bR (get:=get) (idO:=idO) (k:=k) (nx:=nx) (RL:=RL) (c1:=c1) (c2:=c2) (v1:=v1) (v2:=v2) (o:=o) n1 n2 n3 ⟨nn hO,nn hL,nn f⟩ (fun id hid=>by
  rcases hid with hid|hid
  ·obtain⟨a,b,c⟩:=z id hid;exact⟨b,a,c,nn (f1 id hid)⟩
  ·obtain⟨a,b,c⟩:=ad id hid;exact⟨b,a,c,nn (f2 id hid)⟩)
 have keep: ∀id,id<M->id≠idL->id ∉ zJ c1->get' id=G id:=fun id a b c=>t4 id (by omega) b c;refine⟨.inl rfl,[M+3],[],rfl,by simp,fun i hi=> .inl (by rw[Sa.1 hi];omega),trivial,(fun t ht=>by cases ht),rfl,fun j hj=> ?_,fun id o1 d=> ?_⟩
 ·replace hj:j<1:=hj;obtain rfl:j=0:=by omega
  show(upd get _ (nx+0)).isSome=true;rw[jd,V.uN];rfl
 ·have W: ∀{id:Nat},id<M->id ∉ [M+3]:=fun h h'=>by have:=Sa.1 h';omega
  by_cases i1:id=nx
  ·subst i1;rw[V.uN]at d;cases d;have B: ∀row∈v1.map vlC++[vlC ⟨o,v2⟩],∀c∈row,zJ c=[]:=CZ;refine .inl ⟨0,M+3,_,rfl,rfl,t2,?_,fun i hi=> ?_⟩
   ·unfold rnO;rw[WC (fun row hr c hc i hi=>by rw[B row hr c hc]at hi;cases hi)]
   ·simp only[Pi,Ub]at hi;obtain⟨row,hr,c,hc,hi⟩:=hi;rw[B row hr c hc]at hi;cases hi
  refine .inr ?_;by_cases i2:id=aO
  ·subst i2;rw[V.uO]at d;cases d;refine⟨_,_,hO,(keep id m2 n2 (fun h=>(z id h).2.1 rfl)).trans GO, .inr ⟨?_,fun i hi=> .inr ?_⟩⟩
   ·unfold rnO;rw[WC (fun row hr c hc i hi=>by
     rw[Sa.1 hr]at hc;rw[Sa.1 hc]at hi;rw[Sa.1 hi];exact W m4)]
   ·have:i=idO:=by simpa [Pi,zJ] using hi
    rw[r];exact m4
  by_cases i3:id=aL
  ·subst i3;rw[V.uL]at d;cases d;refine⟨_,_,hL,(keep id m1 n3 (fun h=>(z id h).1 rfl)).trans GL, .inr ⟨?_,fun i hi=> .inr ?_⟩⟩
   ·unfold rnO;rw[WC (fun row hr c hc i hi=>by
     rw[Sa.1 hr]at hc;rw[Sa.1 hc]at hi;rw[Sa.1 hi];exact W m3)]
   ·have:i=idL:=by simpa [Pi,zJ] using hi
    rw[r];exact m3
  by_cases i4:id=idL
  ·subst i4;rw[V.uI]at d;cases d;have Y: ∀i row,(RL.set (k+1) [.p (.sl (v2.map zG))])[i]? =some row-> ∀c∈row,∀j∈zJ c,j<M:=fun i row hi c hc j hj=>by
    by_cases Z:i=k+1
    ·subst Z;rw[Eg a5]at hi;cases hi;rw[Sa.1 hc]at hj;cases hj
    ·rw[Df (Ne.symm Z)]at hi;obtain⟨ob,am⟩:=J i row hi Z c hc j hj;exact lt (m _ am)
   have u: ∀row∈RL.set (k+1) [.p (.sl (v2.map zG))],∀c∈row,∀j∈zJ c,j<M:=fun row hr=>by obtain⟨i,hi⟩:=List.mem_iff_getElem?.1 hr;exact Y i row hi
   refine⟨_,_,f,t1, .inr ⟨?_,fun i hi=> ?_⟩⟩
   ·unfold rnO;rw[List.map_set,WC (fun row hr c hc i hi=>W (u row hr c hc i hi))];have:rnI [M+1+2] nx (M+1+2)=nx:=by unfold rnI;rw[show [M+1+2].idxOf? (M+1+2)=some 0 by simp[List.idxOf?,List.findIdx?_cons]];rfl
    simp only[aa,ic,rnC];rw[show rnI [M+3] nx (M+1+2)=nx from r]
   ·simp only[Pi,Ub]at hi;obtain⟨row,hr,c,hc,hi⟩:=hi;rcases List.mem_or_eq_of_mem_set hr with hr|hr
    ·exact .inr (u row hr c hc i hi)
    ·subst hr;rw[Sa.1 hc]at hi;exact .inl hi
  ·by_cases i5:id∈zJ c1\/id∈zJ c2
   ·rw[V.gone id i5]at d;cases d
   ·have i6:id ∉ zJ c1:=fun h=>i5 (.inl h);have i7:id ∉ zJ c2:=fun h=>i5 (.inr h);rw[V.keep id i2 i3 i4 i1 i6 i7]at d;have an:=lt d;exact⟨o1,o1,d,by show get' id=some o1;rw[keep id an i4 i6,Gk id (by omega) i3 i2,y id i4 i7];exact d, .inl ⟨rfl,rfl⟩⟩
theorem Qf{α:Type}{l:List α}{x y:α}{i:Nat}(h:(l++[x])[i]? =some y):(i<l.length/\l[i]? =some y)\/(i=l.length/\y=x):=by
 rcases Nat.lt_trichotomy i l.length with q|q|q
 ·rw[Fb q]at h;exact .inl ⟨q,h⟩
 ·subst q;rw[Xc (Va _),Vh]at h;cases h;exact .inr ⟨rfl,rfl⟩
 ·rw[Xc (by omega)]at h;have:=(Fa.1 h).1;simp at c;omega
theorem qJ{α:Type}(l:List α)(x:α):(l++[x])[l.length]? =some x:=by rw[Xc (Va _),Vh];rfl
structure PI (get:Get) (N M0:Nat) (get0:Get) (aL aO b:Nat) (os:List zb) (vs:List (List zg)) (idL:Nat) (RL:List (List CV)) (cs:List CV) (cO:CV):Prop where
 hL:get aL=some ⟨52,1,[[.osl idL 0 (os.length+1)]],none⟩
 hI:get idL=some ⟨23,1,RL,none⟩
 hcl:cs.length=os.length+1
 hvl:vs.length=os.length+1
 hrow: ∀(i:Nat) c,cs[i]? =some c->RL[i]? =some [c]
 hst: ∀(i:Nat) row,RL[i]? =some row->os.length<i-> ∀c∈row,zJ c=[]
 hlst: ∀(i:Nat) c v,cs[i]? =some c->vs[i]? =some v->Lst get c v
 hdis: ∀(i j:Nat) c d,i≠j->cs[i]? =some c->cs[j]? =some d-> ∀id∈zJ c,id ∉ zJ d
 hO:get aO=some ⟨22,1,[[cO]],none⟩
 hop:(cO=nilC/\os=[])\/ ∃idO RO,cO= .osl idO 0 os.length/\get idO=some ⟨44,5,RO,none⟩/\M0<=idO/\idO<N/\ ∀(i:Nat) o,os[i]? =some o->RO[i]? =some (tkC o)
 hn:os.length<=16
 hb: ∀v∈vs,v.length<=b
 hk: ∀id,id<M0->get id=get0 id
 hM:M0<=aL/\M0<=aO/\M0<=idL/\aL<N/\aO<N/\idL<N
 href: ∀c∈cs,∀id∈zJ c,M0<=id/\id<N
section
variable {get get':Get} {N N' M0 aL aO b b':Nat} {get0:Get} {os:List zb} {vs:List (List zg)} {idL:Nat} {RL:List (List CV)} {cs:List CV} {cO:CV}
theorem Lst.keep{c:CV}{v:List zg}(h:Lst get c v)(hk: ∀id∈zJ c,get' id=get id):Lst get' c v:=by
 rcases h with h|⟨id,rfl,h⟩
 ·exact .inl h
 ·exact .inr ⟨id,rfl,(hk id (Sa.2 rfl)).trans h⟩
theorem Lst.at{c:CV}{v:List zg}(h:Lst get c v): ∀id∈zJ c,get id=some ⟨49,6,v.map vlC,none⟩:=fun id hid=>by
 rcases h with⟨rfl,_⟩|⟨i,rfl,h⟩
 ·cases hid
 ·rw[Sa.1 hid];exact h
theorem PI.grow(h:PI get N M0 get0 aL aO b os vs idL RL cs cO)(d:N<=N')(hb:b<=b')(hM:M0<=N)(hk: ∀id,id<N->get' id=get id):PI get' N' M0 get0 aL aO b' os vs idL RL cs cO:=by
 obtain⟨f,j,m,p,r,u⟩:=h.hM;refine⟨(hk _ p).trans h.hL,(hk _ u).trans h.hI,h.hcl,h.hvl,h.hrow,h.hst,fun i c v h1 h2=>(h.hlst i c v h1 h2).keep fun id hid=>hk id (h.href c (Ua h1) id hid).2,h.hdis,(hk _ r).trans h.hO,?_,h.hn,
  fun v hv=>Sb (h.hb v hv) hb,fun id hid=>(hk id (Mc hid hM)).trans (h.hk id hid),⟨f,j,m,by omega,by omega,by omega⟩,fun c hc id hid=>⟨(h.href c hc id hid).1,Mc (h.href c hc id hid).2 d⟩⟩
 rcases h.hop with q|⟨idO,RO,y,z,A,B,J⟩
 ·exact .inl q
 ·exact .inr ⟨idO,RO,y,(hk _ B).trans z,A,by omega,J⟩
theorem PI.ne(h:PI get N M0 get0 aL aO b os vs idL RL cs cO):aO≠aL/\aO≠idL/\aL≠idL:=⟨at1 h.hO h.hL rfl,at1 h.hO h.hI rfl,at1 h.hL h.hI rfl⟩
theorem PI.lst(h:PI get N M0 get0 aL aO b os vs idL RL cs cO){c:CV}(hc:c∈cs): ∃v,Lst get c v:=by
 obtain⟨i,hi⟩:=List.mem_iff_getElem?.1 hc;have hl:=(Fa.1 hi).1;have d:i<vs.length:=by rw[h.hvl,<-h.hcl];exact hl
 exact⟨_,h.hlst i c _ hi (Ma d)⟩
theorem PI.put {r:List (List zg)} {cur:List zg} {p:List CV} {c:CV} {t:zb} {n:Nat} (h:PI get N M0 get0 aL aO b os (r++[cur]) idL RL (p++[c]) cO) (hp:Put get idL os.length n RL c cur (vlC ⟨t,[]⟩) get') (hn:N<=n) (y:n<N')
  (z: ∀id,id<N->id+2<n) (hM:M0<=N):PI get' N' M0 get0 aL aO (b+1) os (r++[cur++[⟨t,[]⟩]]) idL (RL.set os.length [.osl n 0 (cur.length+1)]) (p++[.osl n 0 (cur.length+1)]) cO:=by
 obtain⟨p1,p2,p3,p4⟩:=hp;obtain⟨n1,n2,n3⟩:=h.ne;obtain⟨m1,m2,m3,m4,m5,m6⟩:=h.hM;have hcl:p.length=os.length:=by have:=h.hcl;rw[Ba]at f;simpa using f
 have hvl:r.length=os.length:=by have:=h.hvl;rw[Ba]at f;simpa using f
 have A:Lst get c cur:=h.hlst os.length c cur (by rw[<-hcl];exact qJ _ _) (by rw[<-hvl];exact qJ _ _);have B: ∀id∈zJ c,M0<=id/\id<N:=h.href c (by simp);have u: ∀id,id<N->id≠idL->id ∉ zJ c->get' id=get id:=fun id a b d=>p4 id (z id a) b d;have J: ∀{id:Nat} {ob:OB},get id=some ob->Nat.beq ob.ty 49=false->id ∉ zJ c:=fun {id ob} ho hb hid=>by have:=A.at id hid;rw[ho]at f;cases f;cases hb
 have L:os.length<RL.length:=(Fa.1 (h.hrow os.length c (by rw[<-hcl];exact qJ _ _))).1;refine⟨(u aL m4 n3 (J h.hL rfl)).trans h.hL,p1,by rw[Ba,hcl];rfl,by rw[Ba,hvl];rfl,fun i d hi=> ?_,fun i row hi O=> ?_,fun i d v hi hv=> ?_,fun i j d U V hi Z id hid=> ?_,(u aO m5 n2 (J h.hO rfl)).trans h.hO,?_,h.hn,
  fun v hv=> ?_,fun id hid=>(u id (by omega) (by omega) (fun q=>by have:=(B id q).1;omega)).trans (h.hk id hid),⟨m1,m2,m3,by omega,by omega,by omega⟩,fun d m id hid=> ?_⟩
 ·rcases Qf hi with⟨h1,h2⟩|⟨h1,rfl⟩
  ·rw[Df (by omega)];exact h.hrow i d (by rw[Fb h1];exact h2)
  ·rw[h1,hcl,Eg L]
 ·rw[Df (by omega)]at hi;exact h.hst i row hi O
 ·rcases Qf hi with⟨h1,h2⟩|⟨h1,rfl⟩
  ·rcases Qf hv with⟨h3,h4⟩|⟨h3,_⟩
   ·have m:(p++[c])[i]? =some d:=by rw[Fb h1];exact h2
    refine(h.hlst i d v m (by rw[Fb h3];exact h4)).keep fun id hid=> ?_;have hr:=h.href d (Ua m) id hid;refine u id hr.2 (fun e=> ?_) (h.hdis i os.length d c (by omega) m (by rw[<-hcl];exact qJ _ _) id hid);obtain⟨v',W⟩:=h.lst (Ua m);exact at1 (W.at id hid) h.hI rfl e
   ·omega
  ·rcases Qf hv with⟨h3,_⟩|⟨_,rfl⟩
   ·omega
   ·refine .inr ⟨n,by rw[Ba];rfl,?_⟩;rw[yc];exact p2
 ·rcases Qf hi with⟨h1,h2⟩|⟨h1,rfl⟩
  ·have m:(p++[c])[i]? =some d:=by rw[Fb h1];exact h2
   rcases Qf Z with⟨h3,h4⟩|⟨h3,rfl⟩
   ·exact h.hdis i j d U V m (by rw[Fb h3];exact h4) id hid
   ·intro q;have:=Sa.1 q;have:=(h.href d (Ua m) id hid).2;omega
  ·rcases Qf Z with⟨h3,h4⟩|⟨h3,rfl⟩
   ·have m:(p++[c])[j]? =some U:=by rw[Fb h3];exact h4
    intro q;have e:=Sa.1 hid;have:=(h.href U (Ua m) id q).2;omega
   ·omega
 ·rcases h.hop with q|⟨idO,RO,q1,Y,q3,q4,q5⟩
  ·exact .inl q
  ·exact .inr ⟨idO,RO,q1,(u idO q4 (at1 Y h.hI rfl) (J Y rfl)).trans Y,q3,by omega,q5⟩
 ·rcases Bc.1 hv with hv|hv
  ·have:=h.hb v (Ae _ hv);omega
  ·rw[Sa.1 hv,Ba];have:=h.hb cur (by simp);show cur.length+1<=b+1;omega
 ·rcases Bc.1 m with m|m
  ·have:=h.href d (Ae _ m) id hid;exact⟨f.1,by omega⟩
  ·rw[Sa.1 m]at hid;rw[Sa.1 hid];exact⟨by omega,y⟩
theorem PI.push {t:zb} {z y:Nat} {r:List (List CV)} (h:PI get N M0 get0 aL aO b os vs idL RL cs cO) (hn:os.length<16) (f1:get' aL=some ⟨52,1,[[.osl z 0 (os.length+2)]],none⟩) (Y:get' z=some ⟨23,1,RL.take (os.length+1)++[[nilC]],none⟩)
  (Z:get' aO=some ⟨22,1,[[.osl y 0 (os.length+1)]],none⟩) (f4:get' y=some ⟨44,5,r,none⟩) (L: ∀(i:Nat) o,(os++[t])[i]? =some o->r[i]? =some (tkC o))
  (V: ∀id,id<N->id≠aL->id≠aO->id≠idL->id ∉ zJ cO->get' id=get id) (hL:N<=z/\z<N') (hO:N<=y/\y<N') (hM:M0<=N):
  PI get' N' M0 get0 aL aO b (os++[t]) (vs++[[]]) z (RL.take (os.length+1)++[[nilC]]) (cs++[nilC]) (.osl y 0 (os.length+1)):=by
 obtain⟨n1,n2,n3⟩:=h.ne;obtain⟨m1,m2,m3,m4,m5,m6⟩:=h.hM;have f:(os++[t]).length=os.length+1:=by rw[Ba];rfl
 have a3:os.length+1<=RL.length:=by
  have m:os.length<cs.length:=by rw[h.hcl];exact Dc _
  have:=(Fa.1 (h.hrow os.length _ (Ma m))).1;omega
 have u:(RL.take (os.length+1)).length=os.length+1:=by rw[Md];omega
 have A: ∀id∈zJ cO,∃RO,get id=some ⟨44,5,RO,none⟩/\M0<=id:=fun id hid=>by
  rcases h.hop with⟨rfl,_⟩|⟨idO,RO,rfl,O,W,_⟩
  ·cases hid
  ·rw[Sa.1 hid];exact⟨RO,O,W⟩
 have kc: ∀c∈cs,∀id∈zJ c,get' id=get id:=fun c hc id hid=>by
  obtain⟨v,hv⟩:=h.lst hc;have J:=hv.at id hid;exact V id (h.href c hc id hid).2 (at1 J h.hL rfl) (at1 J h.hO rfl) (at1 J h.hI rfl) fun q=>by obtain⟨RO,O,_⟩:=A id q;exact at1 J O rfl rfl
 refine⟨by rw[f];exact f1,Y,by rw[Ba,h.hcl,f];rfl,by rw[Ba,h.hvl,f];rfl,fun i d hi=> ?_,fun i row hi m=> ?_,fun i d v hi hv=> ?_,fun i j d d' U hi hj id hid=> ?_,Z, .inr ⟨y,r,by rw[f],f4,by omega,hO.2,L⟩,by rw[f];omega,
  fun v hv=> ?_,fun id hid=>(V id (by omega) (by omega) (by omega) (by omega) (fun q=>by obtain⟨_,_,W⟩:=A id q;omega)).trans (h.hk id hid),⟨m1,m2,by omega,by omega,by omega,hL.2⟩,fun d B id hid=> ?_⟩
 ·rcases Qf hi with⟨h1,h2⟩|⟨h1,rfl⟩
  ·have m:i<os.length+1:=by rw[<-h.hcl];exact h1
   rw[Fb (by rw[u];exact m),List.getElem?_take_of_lt m];exact h.hrow i d h2
  ·rw[h1,h.hcl];have:=qJ (RL.take (os.length+1)) [nilC]
   rwa [u]at p
 ·have:=(Fa.1 hi).1;rw[Ba,u]at p;simp at p;omega
 ·rcases Qf hi with⟨h1,h2⟩|⟨h1,rfl⟩
  ·rcases Qf hv with⟨h3,h4⟩|⟨h3,_⟩
   ·exact(h.hlst i d v h2 h4).keep (kc d (Ua h2))
   ·rw[h.hvl,<-h.hcl]at h3;omega
  ·rcases Qf hv with⟨h3,_⟩|⟨_,rfl⟩
   ·rw[h.hvl,<-h.hcl]at h3;omega
   ·exact .inl ⟨rfl,rfl⟩
 ·rcases Qf hi with⟨h1,h2⟩|⟨h1,rfl⟩
  ·rcases Qf hj with⟨h3,h4⟩|⟨h3,rfl⟩
   ·exact h.hdis i j d d' U h2 h4 id hid
   ·intro q;cases q
  ·cases hid
 ·rcases Bc.1 hv with hv|hv
  ·exact h.hb v hv
  ·rw[Sa.1 hv];exact Pb _
 ·rcases Bc.1 B with B|B
  ·have:=h.href d B id hid;exact⟨p.1,by omega⟩
  ·rw[Sa.1 B]at hid;cases hid
theorem PI.shut {f:List zb} {o:zb} {r:List (List zg)} {v1 v2:List zg} {m:List CV} {c1 c2:CV} {idO:Nat} {RO:List (List CV)} (h:PI get N M0 get0 aL aO b (f++[o]) (r++[v1]++[v2]) idL RL (m++[c1]++[c2]) (.osl idO 0 (f.length+1)))
  (u:get idO=some ⟨44,5,RO,none⟩) (B: ∀(i:Nat) o',(f++[o])[i]? =some o'->RO[i]? =some (tkC o')) (J:M0<=idO/\idO<N) (A:zts get aO aL idO idL f.length N RL c1 c2 v1 v2 o get') (hM:M0<=N):
  PI get' (N+1) M0 get0 aL aO (b+1) f (r++[v1++[⟨o,v2⟩]]) idL ((RL.set (f.length+1) [.p (.sl (v2.map zG))]).set f.length [.osl N 0 (v1.length+1)]) (m++[.osl N 0 (v1.length+1)]) (.osl idO 0 f.length):=by
 obtain⟨n1,n2,n3⟩:=h.ne;obtain⟨m1,m2,m3,m4,m5,m6⟩:=h.hM;have L:(f++[o]).length=f.length+1:=by rw[Ba];rfl
 have hcl:m.length=f.length:=by have:=h.hcl;simp only[Ba,Ea,Lc]at y;omega
 have hvl:r.length=f.length:=by have:=h.hvl;simp only[Ba,Ea,Lc]at y;omega
 have a1:(m++[c1]++[c2])[f.length]? =some c1:=by rw[Fb (by simp;omega),<-hcl];exact qJ _ _
 have a2:(m++[c1]++[c2])[f.length+1]? =some c2:=by rw[show f.length+1=(m++[c1]).length by simp;omega];exact qJ _ _
 have b1:(r++[v1]++[v2])[f.length]? =some v1:=by rw[Fb (by simp;omega),<-hvl];exact qJ _ _
 have b2:(r++[v1]++[v2])[f.length+1]? =some v2:=by rw[show f.length+1=(r++[v1]).length by simp;omega];exact qJ _ _
 have a0: ∀{i:Nat} {d:CV},i<m.length->m[i]? =some d->(m++[c1]++[c2])[i]? =some d:=fun {i d} h1 h2=>by rw[Fb (by simp;omega),Fb h1];exact h2
 have b0: ∀{i:Nat} {d:List zg},i<r.length->r[i]? =some d->(r++[v1]++[v2])[i]? =some d:=fun {i d} h1 h2=>by rw[Fb (by simp;omega),Fb h1];exact h2
 have L1:=h.hlst _ _ _ a1 b1;have L2:=h.hlst _ _ _ a2 b2;have r1:=h.hrow _ _ a1;have r2:=h.hrow _ _ a2;have U:f.length+1<RL.length:=(Fa.1 r2).1;have Y: ∀{id:Nat} {ob:OB},get id=some ob->id<N->id≠aO->id≠aL->id≠idL->id ∉ zJ c1->id ∉ zJ c2->get' id=get id:=fun O V h1 h2 h3 h4 h5=>A.keep _ h1 h2 h3 (by omega) h4 h5;have kc: ∀{i:Nat} {d:CV},i<m.length->m[i]? =some d-> ∀id∈zJ d,get' id=get id:=fun {i d} h1 h2 id hid=>by have z:=a0 h1 h2;obtain⟨v,hv⟩:=h.lst (Ua z);have O:=hv.at id hid;exact Y O (h.href d (Ua z) id hid).2 (at1 O h.hO rfl) (at1 O h.hL rfl) (at1 O h.hI rfl) (h.hdis _ _ d c1 (by omega) z a1 id hid) (h.hdis _ _ d c2 (by omega) z a2 id hid)
 refine⟨A.uL,A.uI,by rw[Ba,hcl];rfl,by rw[Ba,hvl];rfl,fun i d hi=> ?_,fun i row hi V=> ?_,fun i d v hi hv=> ?_,fun i j d Z W hi hj id hid=> ?_,A.uO, .inr ⟨idO,RO,rfl,?_,J.1,by omega,fun i o' hi=>B i o' (by rw[Fb (Fa.1 hi).1];exact hi)⟩,by have:=h.hn;rw[L]at y;omega,
  fun v hv=> ?_,fun id hid=>(A.keep id (by omega) (by omega) (by omega) (by omega) (fun q=> ?_) (fun q=> ?_)).trans (h.hk id hid),⟨m1,m2,m3,by omega,by omega,by omega⟩,fun d z id hid=> ?_⟩
 ·rcases Qf hi with⟨h1,h2⟩|⟨h1,rfl⟩
  ·rw[Df (by omega),Df (by omega)];exact h.hrow i d (a0 h1 h2)
  ·rw[h1,hcl,Eg (by rw[List.length_set];omega)]
 ·rw[Df (by omega)]at hi;by_cases h1:i=f.length+1
  ·subst h1;rw[Eg U]at hi;cases hi;intro c hc;rw[Sa.1 hc];rfl
  ·rw[Df (Ne.symm h1)]at hi;exact h.hst i row hi (by rw[L];omega)
 ·rcases Qf hi with⟨h1,h2⟩|⟨h1,rfl⟩
  ·rcases Qf hv with⟨h3,h4⟩|⟨h3,_⟩
   ·exact(h.hlst i d v (a0 h1 h2) (b0 h3 h4)).keep (kc h1 h2)
   ·omega
  ·rcases Qf hv with⟨h3,_⟩|⟨_,rfl⟩
   ·omega
   ·refine .inr ⟨N,by rw[Ba];rfl,?_⟩;rw[yc];exact A.uN
 ·rcases Qf hi with⟨h1,h2⟩|⟨h1,rfl⟩
  ·rcases Qf hj with⟨h3,h4⟩|⟨h3,rfl⟩
   ·exact h.hdis i j d Z W (a0 h1 h2) (a0 h3 h4) id hid
   ·intro q;have:=Sa.1 q;have:=(h.href d (Ua (a0 h1 h2)) id hid).2;omega
  ·rcases Qf hj with⟨h3,h4⟩|⟨h3,rfl⟩
   ·intro q;have e:=Sa.1 hid;have:=(h.href Z (Ua (a0 h3 h4)) id q).2;omega
   ·omega
 ·rw[Y u J.2 (at1 u h.hO rfl) (at1 u h.hL rfl) (at1 u h.hI rfl) (fun q=>at1 u (L1.at _ q) rfl rfl) (fun q=>at1 u (L2.at _ q) rfl rfl)];exact u
 ·rcases Bc.1 hv with hv|hv
  ·have:=h.hb v (Ae _ (Ae _ hv));omega
  ·rw[Sa.1 hv,Ba];have:=h.hb v1 (by simp);show v1.length+1<=b+1;omega
 ·have:=(h.href c1 (Ua a1) id q).1;omega
 ·have:=(h.href c2 (Ua a2) id q).1;omega
 ·rcases Bc.1 z with z|z
  ·have:=h.href d (Ae _ (Ae _ z)) id hid;exact⟨y.1,by omega⟩
  ·rw[Sa.1 z]at hid;rw[Sa.1 hid];exact⟨hM,Dc _⟩
end
section
variable {nt:Nat} {ops:List Oper} {ρ:Nat->Nat} {K:TS->Prop}
theorem Walk.g {o:Oper} {l:List Oper} {f:Fp} {fs:List Fp} {e:Env} {get:Get} {nx d:Nat} {t:TV} {rd:List Nat} (h:Op1 P (opd e) get nx o.op (.v t) rd [] 0) (c:o.dst=some d) (i:Nat.blt d nt=true) (j:qL ops e o.guard=some (some true))
  (h2:rd=f.1.map ρ) (h3:[]=f.2.map ρ) (h4:Walk P nt ops ρ l fs ⟨(d, .opt true t)::e,get,nx⟩ K):Walk P nt ops ρ (o::l) (f::fs) ⟨e,get,nx⟩ K:=
 ⟨_,opG h j (fun m h'=>by rw[c]at h';cases h';exact Zm.1 i),h2,h3,by unfold Zi;rw[c];exact h4⟩
theorem Walk.f {o:Oper} {l:List Oper} {f:Fp} {fs:List Fp} {e:Env} {get:Get} {nx d:Nat} (t:TV) (c:o.dst=some d) (i:Nat.blt d nt=true) (j:qL ops e o.guard=some (some false))
  (h2:[]=f.1.map ρ) (h3:[]=f.2.map ρ) (h4:Walk P nt ops ρ l fs ⟨(d, .opt false t)::e,get,nx⟩ K):Walk P nt ops ρ (o::l) (f::fs) ⟨e,get,nx⟩ K:=
 ⟨_,opF j (fun m h'=>by rw[c]at h';cases h';exact Zm.1 i) t,h2,h3,by unfold Zi;rw[c];exact h4⟩
theorem Walk.cl {o:Oper} {l:List Oper} {f:Fp} {fs:List Fp} {e:Env} {get:Get} {nx d:Nat} {c:Call} {x:Operand} {k:Int} (ho:o.op= .call c) (hc:c.callee= .value (.func 61)) (ha:c.args.toList=[x]) (j:opd e x= .v (.c (.p (.at (.int .u8 k))))) (i:o.dst=some d) (m:Nat.blt d nt=true) (r:o.guard=none)
  (h2:[]=f.1.map ρ) (h3:[]=f.2.map ρ) (h4:Walk P nt ops ρ l fs ⟨(d, .v (.c (.p (.at (.int .u8 (zo k))))))::e,get,nx⟩ K):Walk P nt ops ρ (o::l) (f::fs) ⟨e,get,nx⟩ K:=
 ⟨_,PK (P:=P) (nt:=nt) (ops:=ops) (o:=o) (s:=⟨e,get,nx⟩) (g:=none) (c:=c) (cf:= .func 61) (f:=61) (caps:=[]) (g0:=true) (g1:=true) («as»:=[.c (.p (.at (.int .u8 k)))]) (rd:=[]) (k:=0) (up:=[]) (by rw[r];rfl) (fun u h'=>by rw[i]at h';cases h';exact Zm.1 m) ho hc (.inl rfl)
  (by rw[ha];simp only[aa,ic,j];rfl) (fun _=>⟨rfl, .inl rfl⟩) (fun _=>MR k nx) (fun p hp=>by cases hp),h2,h3,by unfold Zi;rw[i];exact h4⟩
theorem Walk.clg {o:Oper} {l:List Oper} {f:Fp} {fs:List Fp} {e:Env} {get:Get} {nx d:Nat} {c:Call} {x:Operand} {k:Int} (ho:o.op= .call c) (hc:c.callee= .value (.func 61)) (ha:c.args.toList=[x]) (j:opd e x= .opt true (.c (.p (.at (.int .u8 k))))) (i:o.dst=some d) (m:Nat.blt d nt=true) (r:qL ops e o.guard=some (some true))
  (h2:[]=f.1.map ρ) (h3:[]=f.2.map ρ) (h4:Walk P nt ops ρ l fs ⟨(d, .opt true (.c (.p (.at (.int .u8 (zo k))))))::e,get,nx⟩ K):Walk P nt ops ρ (o::l) (f::fs) ⟨e,get,nx⟩ K:=
 ⟨_,PK (P:=P) (nt:=nt) (ops:=ops) (o:=o) (s:=⟨e,get,nx⟩) (g:=some true) (c:=c) (cf:= .func 61) (f:=61) (caps:=[]) (g0:=true) (g1:=true) («as»:=[.c (.p (.at (.int .u8 k)))]) (rd:=[]) (k:=0) (up:=[]) r (fun u h'=>by rw[i]at h';cases h';exact Zm.1 m) ho hc (.inl rfl)
  (by rw[ha];simp only[aa,ic,j];rfl) (fun _=>⟨rfl, .inl rfl⟩) (fun _=>MR k nx) (fun p hp=>by cases hp),h2,h3,by unfold Zi;rw[i];exact h4⟩
end
abbrev ol:Code:=match Tryz.f16.body with
 |some (.seq _ (.seq _ (.seq _ (.seq _ (.seq (.seq _ (.block _ (.loop (.seq _ (.seq _ (.seq (.block _ (.seq _ (.seq _ (.block _ c)))) _)))))) _)))))=>c
 |_=> .skip
section
variable {aL aO aT n N:Nat} {e:Env} {G:Get} {Q:Post} {t o:zb} {idO:Nat} {RO:List (List CV)}
theorem zAq(r:look e 5= .v (.c (.optr aO 0 0)))(m:look e 9= .v (.c (.p (.at (.int .i64 ((0:Nat):Int))))))(h: ∀e',(∀t,t<23->look e' t=look e t)->look e' 47= .v (.c (.p (.at (.bool false))))->Q .normal e' ⟨N,G⟩):
  SW P 93 (match ol with| .seq c _=>c|_=> .skip) Q e ⟨N,G⟩:=by
 refine SW.regD mixed (fun _=>0) 0 (List.replicate 15 ([],[])) (by decide) (fun i j hi=>absurd hi (Og _)) (by kernel_rfl) (by kernel_rfl) ?_;refine Walk.n (val:= .v (.c (.p (.at (.int .i64 ((0:Nat):Int)))))) (by have:=Op1.move (P:=P) (E:=opd e) (get:=G) (nx:=N) (.tmp 9);rw[show opd e (.tmp 9)=_ from m]at d;exact d) rfl rfl rfl rfl rfl ?_;refine Walk.n (Op1.bin (val:= .v (.c (.p (.at (.bool false))))) (.inl rfl) (.inl rfl) (fun _ _=>rfl)) rfl rfl rfl rfl rfl ?_;refine Walk.n (Op1.move _) rfl rfl rfl rfl rfl ?_
 iterate 10 refine Walk.f (.c (.p (.at (.bool false)))) rfl rfl rfl rfl rfl ?_
 refine Walk.n (Op1.pick (z:=false) (ga:=false) (x:=false) (gb:=true) (y:=false) rfl rfl rfl (fun h=>by cases h) (fun _=>rfl)) rfl rfl rfl rfl rfl ?_;refine Walk.n (Op1.assign _) rfl rfl rfl rfl rfl ?_;refine Walk.end ?_;exact h _ (fun t ht=>by simp only[look];repeat rw[Ha (by omega)]) rfl
theorem mv{x:Operand}{v:LV}{get:Get}{nx:Nat}(h:opd e x=v):Op1 P (opd e) get nx (.move x) v [] [] 0:=by subst h;exact Op1.move _
theorem zAr {m:Nat} (hm:m<=16) (r:look e 5= .v (.c (.optr aO 0 0))) (u:look e 8= .v (.c (.optr aT 0 0))) (j:look e 9= .v (.c (.p (.at (.int .i64 ((m+1:Nat):Int)))))) (hO:G aO=some ⟨22,1,[[.osl idO 0 (m+1)]],none⟩) (d:G idO=some ⟨44,5,RO,none⟩)
  (hr:RO[m]? =some (tkC o)) (f:G aT=some ⟨44,5,[tkC t],none⟩) (A:idO≠aT) (h: ∀e',(∀t,t<23->look e' t=look e t)->look e' 47= .v (.c (.p (.at (.bool (t.kind==zo o.kind)))))->Q .normal e' ⟨N,G⟩):
  SW P 93 (match ol with| .seq c _=>c|_=> .skip) Q e ⟨N,G⟩:=by
 have B:aO≠idO:=at1 hO d rfl;have J:aO≠aT:=at1 hO f rfl;have e1:IntKind.i64.wrap (((m+1:Nat):Int) - 1)=(m:Int):=by rw[w64s (by omega) (by omega)];omega
 have e2:decide (((m+1:Nat):Int)>0)=true:=Ja (by omega);refine SW.regD mixed (fun i=>[aT,aO,idO].getD i 0) 3 [([],[]),([],[]),([],[]),([0],[]),([0],[]),([1],[]),([],[]),([],[]),([2],[]),([2],[]),([2],[]),([],[]),([],[]),([],[]),([],[])] (by decide)
  (Mj (l:=[aT,aO,idO]) (by simp only[Ie,ma,Ed,Ue,Bf,jg,Wd,Ag];omega)) (by kernel_rfl) (by kernel_rfl) ?_
 refine Walk.n (mv j) rfl rfl rfl rfl rfl ?_;refine Walk.n (Op1.bin (val:= .v (.c (.p (.at (.bool true))))) (.inl rfl) (.inl rfl) (fun _ _=>by rw[<-e2];rfl)) rfl rfl rfl rfl rfl ?_;refine Walk.n (Op1.move _) rfl rfl rfl rfl rfl ?_;refine Walk.g (Op1.fldO (.inl u) f k44 rfl (by rw[c5];decide)) rfl rfl rfl rfl rfl ?_;refine Walk.g (Op1.load (cs:=tkC t) (.inr rfl) f rfl rfl k5) rfl rfl rfl rfl rfl ?_;refine Walk.g (Op1.load (.inl r) hO rfl rfl k22) rfl rfl rfl rfl rfl ?_;refine Walk.g (mv j) rfl rfl rfl rfl rfl ?_;refine Walk.g (Op1.bin (val:= .v (.c (.p (.at (.int .i64 (m:Int)))))) (.inr rfl) (.inl rfl) (fun _ _=>by rw[<-e1];rfl)) rfl rfl rfl rfl rfl ?_;refine Walk.g (Op1.idxL (.inr rfl) (.inr rfl) d k22 c44 rfl (by decide) (Dc m)) rfl rfl rfl rfl rfl ?_;refine Walk.g (Op1.fldO (.inr rfl) d k44 rfl (by rw[c5];decide)) rfl rfl rfl rfl rfl ?_;refine Walk.g (Op1.load (cs:=tkC o) (.inr rfl) d hr rfl k5) rfl rfl rfl rfl rfl ?_;refine Walk.clg (k:=o.kind) rfl rfl rfl rfl rfl rfl rfl rfl rfl ?_;refine Walk.g (Op1.bin (val:= .v (.c (.p (.at (.bool (t.kind==zo o.kind)))))) (.inr rfl) (.inr rfl) (fun _ _=>rfl)) rfl rfl rfl rfl rfl ?_;refine Walk.n (Op1.pick (z:=true) (ga:=true) (x:=t.kind==zo o.kind) (gb:=true) (y:=false) rfl rfl rfl (fun _=>rfl) (fun h=>by cases h)) rfl rfl rfl rfl rfl ?_;refine Walk.n (Op1.assign _) rfl rfl rfl rfl rfl ?_;refine Walk.end ?_;exact h _ (fun t ht=>by simp only[look];repeat rw[Ha (by omega)]) rfl
theorem r15(f:look e 8= .v (.c (.optr aT 0 0)))(d:G aT=some ⟨44,5,[tkC t],none⟩)(h: ∀e',(∀t,t<23->look e' t=look e t)->look e' 64= .v (.c (.p (.at (.bool (zo t.kind != 0)))))->Q .normal e' ⟨N,G⟩):
  SW P 93 (match ol with| .seq _ (.cond _ _ (.seq c _))=>c|_=> .skip) Q e ⟨N,G⟩:=by
 refine SW.reg (fun _=>aT) [([0],[]),([0],[]),([],[]),([],[]),([],[])] ?_;refine Walk.n (Op1.fldO (.inl f) d k44 rfl (by rw[c5];decide)) rfl rfl rfl rfl rfl ?_;refine Walk.n (Op1.load (cs:=tkC t) (.inl rfl) d rfl rfl k5) rfl rfl rfl rfl rfl ?_;refine Walk.cl (k:=t.kind) rfl rfl rfl rfl rfl rfl rfl rfl rfl ?_;refine Walk.n (Op1.bin (val:= .v (.c (.p (.at (.bool (zo t.kind != 0)))))) (.inl rfl) (.inl rfl) (fun _ _=>rfl)) rfl rfl rfl rfl rfl ?_;refine Walk.n (Op1.assign _) rfl rfl rfl rfl rfl ?_;refine Walk.end ?_;exact h _ (fun t ht=>by simp only[look];repeat rw[Ha (by omega)]) rfl
theorem r16(d:look e 9= .v (.c (.p (.at (.int .i64 ((n:Nat):Int))))))(h: ∀e',(∀t,t<23->look e' t=look e t)->look e' 70= .v (.c (.p (.at (.bool (((n:Nat):Int)==16)))))->Q .normal e' ⟨N,G⟩):
  SW P 93 (match ol with| .seq _ (.cond _ _ (.seq _ (.cond _ (.seq (.seq c _) _) _)))=>c|_=> .skip) Q e ⟨N,G⟩:=by
 refine SW.reg (fun _=>0) [([],[]),([],[])] ?_;refine Walk.n (mv d) rfl rfl rfl rfl rfl ?_;refine Walk.n (Op1.bin (val:= .v (.c (.p (.at (.bool (((n:Nat):Int)==16)))))) (.inl rfl) (.inl rfl) (fun _ _=>rfl)) rfl rfl rfl rfl rfl ?_;refine Walk.end ?_;exact h _ (fun t ht=>by simp only[look];repeat rw[Ha (by omega)]) rfl
end
section
variable {aL aO aT idL n N:Nat} {e:Env} {G:Get} {Q:Post} {t:zb} {RL:List (List CV)}
theorem zES (h4:look e 4= .v (.c (.optr aL 0 0))) (z:look e 5= .v (.c (.optr aO 0 0))) (B:look e 8= .v (.c (.optr aT 0 0))) (hL:G aL=some ⟨52,1,[[.osl idL 0 (n+1)]],none⟩) (hI:G idL=some ⟨23,1,RL,none⟩) (f:G aT=some ⟨44,5,[tkC t],none⟩)
  (hO:G aO=some ⟨22,1,[[nilC]],none⟩) (p:n=0)
  (hn:n<=16) (r:n+1<=RL.length) (y:aL<N/\aO<N/\aT<N/\idL<N)
  (h: ∀e' get',(∀t,t<23->look e' t=look e t)->get' aL=some ⟨52,1,[[.osl (N+1) 0 (n+2)]],none⟩->get' (N+1)=some ⟨23,1,RL.take (n+1)++[[nilC]],none⟩->get' aO=some ⟨22,1,[[.osl (N+3) 0 (n+1)]],none⟩->
   get' (N+3)=some ⟨44,5,[tkC t],none⟩->(∀id,id<N->id≠aL->id≠aO->id≠idL->get' id=G id)->Q .normal e' ⟨N+4,get'⟩):
  SW P 93 (match ol with| .seq _ (.cond _ _ (.seq _ (.cond _ (.seq _ c) _)))=>c|_=> .skip) Q e ⟨N,G⟩:=by
 obtain⟨j,d,A,J⟩:=y;have p1:aL≠aO:=at1 hL hO rfl;have p2:aL≠idL:=at1 hL hI rfl;have W:aL≠aT:=at1 hL f rfl;have p4:aO≠idL:=at1 hO hI rfl;have p5:aO≠aT:=at1 hO f rfl;have L:idL≠aT:=at1 hI f rfl;subst p;refine SW.regD mixed (fun i=>[aL,aO,aT,idL,N,N+1,N+2,N+3].getD i 0) 8 [([0],[]),([],[4]),([3,4],[3,5]),([1],[]),([2],[]),([],[6]),([6],[7]),([0],[0]),([1],[1])] (by decide)
  (Mj (l:=[aL,aO,aT,idL,N,N+1,N+2,N+3]) (by simp only[Ie,ma,Ed,Ue,Bf,jg,Wd,Ag];omega)) (by kernel_rfl) (by kernel_rfl) ?_
 refine Walk.n (Op1.load (.inl h4) hL rfl rfl k52) rfl rfl rfl rfl rfl ?_;refine Walk.n (Op1.bs1 (u:= .c nilC) rfl k52 c23 rfl (by rw[FM];rfl) (by decide) (by decide) o23) rfl rfl rfl rfl rfl ?_;refine Walk.n (Op1.appO (n:=1) (row:=[nilC]) (m:=0+1) rfl rfl rfl rfl rfl (upK hI (Nb J)) upS rfl rfl k52 k52 c23 (by decide) rfl rfl r rfl (by rw[b23];omega) (by omega) o23) rfl rfl rfl rfl rfl ?_;refine Walk.n (Op1.load (.inl z) (upK2 (upK hO (Nb d)) p4 (Nb (ib d))) rfl rfl k22) rfl rfl rfl rfl rfl ?_;refine Walk.n (Op1.loadA (cs:=tkC t) (.inl B) (upK2 (upK f (Nb A)) (Ne.symm L) (Nb (ib A))) rfl k44 c44 (Va 5)) rfl rfl rfl rfl rfl ?_;refine Walk.n (Op1.bs1 (u:= .agg (tkC t)) rfl k22 c44 rfl (by rw[EM];rfl) (by decide) (by decide) o44) rfl rfl rfl rfl rfl ?_;refine Walk.n (Op1.appN (n:=5) (row:=tkC t) rfl rfl rfl rfl rfl upS rfl rfl k22 k22 c44 (by decide) rfl (by rw[b44];decide) o44) rfl rfl rfl rfl rfl ?_;refine Walk.n0 (Op1.storeX (cs:=[.osl idL 0 (0+1)]) (.inl h4) (.inl rfl) (upK (upK (upK2 (upK hL (Nb j)) p2 (Nb (ib j))) (Nb (ib (ib j)))) (Nb (ib (ib (ib j))))) rfl k52 c52 rfl rfl rfl) rfl rfl rfl rfl ?_;refine Walk.n0 (Op1.storeX (cs:=[nilC]) (.inl z) (.inl rfl) (upK (upK (upK (upK2 (upK hO (Nb d)) p4 (Nb (ib d))) (Nb (ib (ib d)))) (Nb (ib (ib (ib d))))) (Ne.symm p1)) rfl k22 c22 rfl rfl rfl) rfl rfl rfl rfl ?_;refine Walk.end ?_;refine h _ _ (fun t ht=>by simp only[look];repeat rw[Ha (by omega)]) ?_ ?_ ?_ ?_ (fun id hid O U V=> ?_)
 ·exact upK upS p1
 ·exact upK (upK (upK (upK (upS2 (by first|omega|(dsimp only;omega))) (by first|omega|(dsimp only;omega))) (by first|omega|(dsimp only;omega))) (by first|omega|(dsimp only;omega))) (by first|omega|(dsimp only;omega))
 ·exact upS
 ·exact upK (upK upS (by first|omega|(dsimp only;omega))) (by first|omega|(dsimp only;omega))
 ·exact upK (upK (upK (upK (upK2 (upK rfl (by first|omega|(dsimp only;omega))) V (by first|omega|(dsimp only;omega))) (by first|omega|(dsimp only;omega))) (by first|omega|(dsimp only;omega))) O) U
theorem zET {idO:Nat} {RO:List (List CV)} (h4:look e 4= .v (.c (.optr aL 0 0))) (B:look e 5= .v (.c (.optr aO 0 0))) (L:look e 8= .v (.c (.optr aT 0 0))) (hL:G aL=some ⟨52,1,[[.osl idL 0 (n+1)]],none⟩) (hI:G idL=some ⟨23,1,RL,none⟩) (j:G aT=some ⟨44,5,[tkC t],none⟩)
  (hO:G aO=some ⟨22,1,[[.osl idO 0 n]],none⟩) (d:G idO=some ⟨44,5,RO,none⟩) (r:n<=RO.length) (n3:idO≠aT)
  (hn:n<=16) (y:n+1<=RL.length) (z:aL<N/\aO<N/\aT<N/\idL<N/\idO<N)
  (h: ∀e' get',(∀t,t<23->look e' t=look e t)->get' aL=some ⟨52,1,[[.osl (N+1) 0 (n+2)]],none⟩->get' (N+1)=some ⟨23,1,RL.take (n+1)++[[nilC]],none⟩->get' aO=some ⟨22,1,[[.osl (N+3) 0 (n+1)]],none⟩->
   get' (N+3)=some ⟨44,5,RO.take n++[tkC t],none⟩->(∀id,id<N->id≠aL->id≠aO->id≠idL->id≠idO->get' id=G id)->Q .normal e' ⟨N+4,get'⟩):
  SW P 93 (match ol with| .seq _ (.cond _ _ (.seq _ (.cond _ (.seq _ c) _)))=>c|_=> .skip) Q e ⟨N,G⟩:=by
 obtain⟨p,f,J,O,A⟩:=z;have p1:aL≠aO:=at1 hL hO rfl;have p2:aL≠idL:=at1 hL hI rfl;have p3:aL≠aT:=at1 hL j rfl;have p4:aO≠idL:=at1 hO hI rfl;have p5:aO≠aT:=at1 hO j rfl;have U:idL≠aT:=at1 hI j rfl;have V:aL≠idO:=at1 hL d rfl;have W:aO≠idO:=at1 hO d rfl;have Y:idL≠idO:=at1 hI d rfl;refine SW.regD mixed (fun i=>[aL,aO,aT,idL,N,N+1,N+2,N+3,idO].getD i 0) 9 [([0],[]),([],[4]),([3,4],[3,5]),([1],[]),([2],[]),([],[6]),([8,6],[8,7]),([0],[0]),([1],[1])] (by decide)
  (Mj (l:=[aL,aO,aT,idL,N,N+1,N+2,N+3,idO]) (by simp only[Ie,ma,Ed,Ue,Bf,jg,Wd,Ag];omega)) (by kernel_rfl) (by kernel_rfl) ?_
 refine Walk.n (Op1.load (.inl h4) hL rfl rfl k52) rfl rfl rfl rfl rfl ?_;refine Walk.n (Op1.bs1 (u:= .c nilC) rfl k52 c23 rfl (by rw[FM];rfl) (by decide) (by decide) o23) rfl rfl rfl rfl rfl ?_;refine Walk.n (Op1.appO (n:=1) (row:=[nilC]) (m:=n+1) rfl rfl rfl rfl rfl (upK hI (Nb O)) upS rfl rfl k52 k52 c23 (by decide) rfl rfl y rfl (by rw[b23];omega) (by omega) o23) rfl rfl rfl rfl rfl ?_;refine Walk.n (Op1.load (.inl B) (upK2 (upK hO (Nb f)) p4 (Nb (ib f))) rfl rfl k22) rfl rfl rfl rfl rfl ?_;refine Walk.n (Op1.loadA (cs:=tkC t) (.inl L) (upK2 (upK j (Nb J)) (Ne.symm U) (Nb (ib J))) rfl k44 c44 (Va 5)) rfl rfl rfl rfl rfl ?_;refine Walk.n (Op1.bs1 (u:= .agg (tkC t)) rfl k22 c44 rfl (by rw[EM];rfl) (by decide) (by decide) o44) rfl rfl rfl rfl rfl ?_;refine Walk.n (Op1.appO (n:=5) (row:=tkC t) (m:=n) rfl rfl rfl rfl rfl (upK (upK2 (upK d (Nb A)) (Ne.symm Y) (Nb (ib A))) (Nb (ib (ib A)))) upS rfl rfl k22 k22 c44 (by decide) rfl rfl r rfl (by rw[b44];omega) (by omega) o44) rfl rfl rfl rfl rfl ?_;refine Walk.n0 (Op1.storeX (cs:=[.osl idL 0 (n+1)]) (.inl h4) (.inl rfl) (upK2 (upK (upK2 (upK hL (Nb p)) p2 (Nb (ib p))) (Nb (ib (ib p)))) V (Nb (ib (ib (ib p))))) rfl k52 c52 rfl rfl rfl) rfl rfl rfl rfl ?_;refine Walk.n0 (Op1.storeX (cs:=[.osl idO 0 n]) (.inl B) (.inl rfl) (upK (upK2 (upK (upK2 (upK hO (Nb f)) p4 (Nb (ib f))) (Nb (ib (ib f)))) W (Nb (ib (ib (ib f))))) (Ne.symm p1)) rfl k22 c22 rfl rfl rfl) rfl rfl rfl rfl ?_;refine Walk.end ?_;refine h _ _ (fun t ht=>by simp only[look];repeat rw[Ha (by omega)]) ?_ ?_ ?_ ?_ (fun id hid Z q2 q3 q4=> ?_)
 ·exact upK upS p1
 ·exact upK (upK (upK2 (upK (upS2 (by first|omega|(dsimp only;omega))) (by first|omega|(dsimp only;omega))) (by first|omega|(dsimp only;omega)) (by first|omega|(dsimp only;omega))) (by first|omega|(dsimp only;omega))) (by first|omega|(dsimp only;omega))
 ·exact upS
 ·exact upK (upK (upS2 (by first|omega|(dsimp only;omega))) (by first|omega|(dsimp only;omega))) (by first|omega|(dsimp only;omega))
 ·exact upK (upK (upK2 (upK (upK2 (upK rfl (by first|omega|(dsimp only;omega))) q3 (by first|omega|(dsimp only;omega))) (by first|omega|(dsimp only;omega))) q4 (by first|omega|(dsimp only;omega))) Z) q2
end
theorem zCc{nt:Nat}{e:Env}{g:Get}{M n:Nat}{v:List zg}{t:zb}(h:g n=some ⟨49,6,v.map vlC++[tkC t++[nilC]],none⟩):Sub nt e ⟨M,g⟩ e ⟨M,upd g [(n,some ⟨49,6,v.map vlC++[vlC ⟨t,[]⟩],none⟩)]⟩:=by
 refine recast (Z:=fun _=>False) (Va _) (fun z p=>p.elim) (fun id o2 ho _=> ?_) (fun t=>RcL.refl _);replace ho:upd g [(n,some ⟨49,6,v.map vlC++[vlC ⟨t,[]⟩],none⟩)] id=some o2:=ho;by_cases hi:id=n
 ·subst hi;rw[upS]at ho;cases ho;refine⟨_,h,rfl,rfl,by rw[Ba,Ba];rfl,fun i row row2 a b=> ?_,rfl⟩;rcases Qf a with⟨h1,h2⟩|⟨h1,rfl⟩
  ·rcases Qf b with⟨h3,h4⟩|⟨h3,_⟩
   ·rw[h2]at h4;cases h4;exact⟨rfl,fun j x y d c=>by rw[d]at c;cases c;exact RcC.refl x⟩
   ·omega
  ·rcases Qf b with⟨h3,_⟩|⟨_,rfl⟩
   ·omega
   ·refine⟨by rw[AB];rfl,fun j x y d c=> ?_⟩;rw[AB]at c;rcases Qf d with⟨h3,h4⟩|⟨h3,rfl⟩
    ·rcases Qf c with⟨f,m⟩|⟨f,_⟩
     ·rw[h4]at m;cases m;exact RcC.refl x
     ·omega
    ·rcases Qf c with⟨f,_⟩|⟨_,rfl⟩
     ·omega
     ·exact .inr ⟨_,rfl, .nil⟩
 ·rw[upK rfl hi]at ho;exact⟨o2,ho,RcO.refl o2⟩
def jq:List CV->List (List zg)->List (Nat×OB)
 | .osl id _ _::cs,v::vs=>(id,⟨49,6,v.map vlC,none⟩)::jq cs vs
 |_::cs,_::vs=>jq cs vs
 |_,_=>[]
theorem mI: ∀{cs:List CV} {vs:List (List zg)} {i id a b:Nat} {v:List zg},cs[i]? =some (.osl id a b)->vs[i]? =some v->(id,(⟨49,6,v.map vlC,none⟩:OB))∈jq cs vs
 |[],_,i,_,_,_,_,h,_=>by simp at h
 |_::_,[],i,_,_,_,_,_,h=>by simp at h
 |c::cs,w::vs,0,id,a,b,v,h1,h2=>by cases h1;cases h2;exact Jb ..
 |c::cs,w::vs,i+1,id,a,b,v,h1,h2=>by have:=mI (cs:=cs) (vs:=vs) (i:=i) h1 h2;cases c<;>first|exact d|exact Eb _ d
theorem OP: ∀{cs:List CV} {vs:List (List zg)} {p:Nat×OB},p∈jq cs vs-> ∃(i a b:Nat) (v:List zg),cs[i]? =some (.osl p.1 a b)/\vs[i]? =some v/\p.2=⟨49,6,v.map vlC,none⟩
 |[],vs,p,h=>by cases vs<;>cases h
 |c::cs,[],p,h=>by cases c<;>cases h
 |c::cs,w::vs,p,h=>by
  have d:p∈jq cs vs-> ∃(i a b:Nat) (v:List zg),(c::cs)[i]? =some (.osl p.1 a b)/\(w::vs)[i]? =some v/\p.2=⟨49,6,v.map vlC,none⟩:=fun h=>by obtain⟨i,a,b,v,h1,h2,h3⟩:=OP h;exact⟨i+1,a,b,v,h1,h2,h3⟩
  cases c with
  |osl id a b=>
   rcases ma.1 h with rfl|h
   ·exact⟨0,a,b,w,rfl,rfl,rfl⟩
   ·exact d h
  |_=>exact d h
section
variable {M0 aL aO b N idL idO:Nat} {e:Env} {G get0:Get} {Q:Post} {RL RO:List (List CV)}
theorem DW {o0 o1:Oper} {c:Call} {id d0 d1:Nat} {m:List zb} {o:zb} {z:List (List zg)} {v1 v2:List zg} {A:List CV} {c1 c2:CV} (p0:o0.op= .move (.tmp 6)/\o0.dst=some d0/\o0.guard=none) (p1:o1.op= .call c/\o1.dst=some d1/\o1.guard=none)
  (pc:c.callee= .value (.tmp d0)/\c.args.toList=[]) (J:Nat.blt d0 93=true/\Nat.blt d1 93=true/\23<=d0/\23<=d1) (h6:look e 6= .v (.c (.clo 60 [(aO,0,0),(aL,0,0)])))
  (u:PI G N M0 get0 aL aO b (m++[o]) (z++[v1]++[v2]) idL RL (A++[c1]++[c2]) (.osl idO 0 (m.length+1))) (W:G idO=some ⟨44,5,RO,none⟩) (Y: ∀(i:Nat) o',(m++[o])[i]? =some o'->RO[i]? =some (tkC o')) (av:M0<=idO/\idO<N) (hb:b<=2000)
  (h: ∀e' get',(∀t,t<23->look e' t=look e t)->zts G aO aL idO idL m.length N RL c1 c2 v1 v2 o get'->Q .normal e' ⟨N+1,get'⟩):SW P 93 (.region id #[o0,o1] false) Q e ⟨N,G⟩:=by
 obtain⟨Z,L,a3⟩:=p0;obtain⟨a5,O,a6⟩:=p1;obtain⟨a7,a8⟩:=pc;obtain⟨a9,ab,aw,b3⟩:=J;obtain⟨n1,n2,n3⟩:=u.ne;obtain⟨m1,m2,m3,m4,m5,m6⟩:=u.hM;have B:(m++[o]).length=m.length+1:=by rw[Ba];rfl
 have hcl:A.length=m.length:=by have:=u.hcl;simp only[Ba,Ea,Lc]at y;omega
 have hvl:z.length=m.length:=by have:=u.hvl;simp only[Ba,Ea,Lc]at y;omega
 have a1:(A++[c1]++[c2])[m.length]? =some c1:=by rw[Fb (by simp;omega),<-hcl];exact qJ _ _
 have a2:(A++[c1]++[c2])[m.length+1]? =some c2:=by rw[show m.length+1=(A++[c1]).length by simp;omega];exact qJ _ _
 have b1:(z++[v1]++[v2])[m.length]? =some v1:=by rw[Fb (by simp;omega),<-hvl];exact qJ _ _
 have b2:(z++[v1]++[v2])[m.length+1]? =some v2:=by rw[show m.length+1=(z++[v1]).length by simp;omega];exact qJ _ _
 generalize b5:A++[c1]++[c2]=cs at*;generalize b6:z++[v1]++[v2]=vs at*
 let rd:List (Nat×OB):=[(aO,⟨22,1,[[.osl idO 0 (m.length+1)]],none⟩),(aL,⟨52,1,[[.osl idL 0 (m.length+2)]],none⟩),(idL,⟨23,1,RL,none⟩),(idO,⟨44,5,RO,none⟩)]++jq cs vs
 have ad: ∀p∈rd,G p.1=some p.2:=fun p hp=>by
  rcases Bc.1 hp with hp|hp
  ·rcases ma.1 hp with rfl|hp
   ·exact u.hO
   rcases ma.1 hp with rfl|hp
   ·have:=u.hL;rwa [B]at y
   rcases ma.1 hp with rfl|hp
   ·exact u.hI
   ·rw[Sa.1 hp];exact W
  ·obtain⟨i,a,b,v,q1,q2,q3⟩:=OP hp;rw[q3];exact(u.hlst i _ v q1 q2).at p.1 (Sa.2 rfl)
 have al: ∀{i:Nat} {c:CV},cs[i]? =some c-> ∀id∈zJ c,∃ob,(id,ob)∈rd:=fun {i c} hc id hid=>by
  obtain⟨v,hv⟩: ∃v,vs[i]? =some v:=by
   have:=(Fa.1 hc).1;have am:i<vs.length:=by rw[u.hvl,<-u.hcl];exact y
   exact⟨_,Ma am⟩
  rcases u.hlst i c v hc hv with⟨rfl,_⟩|⟨j,rfl,_⟩
  ·cases hid
  ·rw[Sa.1 hid];exact⟨_,Af _ (mI hc hv)⟩
 have U: ∀{i:Nat} {c:CV} {v:List zg},cs[i]? =some c->vs[i]? =some v->c=nilC/\v=[]\/ ∃id,c= .osl id 0 v.length/\(id,(⟨49,6,v.map vlC,none⟩:OB))∈rd:=fun {i c v} hc hv=>by
  rcases u.hlst i c v hc hv with q|⟨j,rfl,_⟩
  ·exact .inl q
  ·exact .inr ⟨j,rfl,Af _ (mI hc hv)⟩
 have r1:=u.hrow _ _ a1;have r2:=u.hrow _ _ a2;have hn:m.length+1<=16:=by have:=u.hn;rwa [B]at y
 have an:v1.length<=3000:=by have:=u.hb v1 (Ua b1);omega
 have call:=zAA (nx:=N) (rd:=rd) (v1:=v1) (v2:=v2) (o:=o) (RO:=RO) (k:=m.length) (aO:=aO) (aL:=aL) (idO:=idO) (idL:=idL) (by omega) an r1 r2 (Y _ _ (qJ _ _)) (by simp[rd]) (by simp[rd]) (by simp[rd]) (by simp[rd]) (U a1 b1) (U a2 b2)
  (fun id hid=>u.hdis _ _ c1 c2 (by omega) a1 a2 id hid) (fun i row hi b7 c hc id hid=> ?_)
 ·have ao: ∀d,o0.dst=some d->d<93:=fun d J=>by rw[L]at J;cases J;exact Zm.1 a9
  have ap: ∀d,o1.dst=some d->d<93:=fun d J=>by rw[O]at J;cases J;exact Zm.1 ab
  have s1:OpOK P 93 [o0,o1] o0 ⟨none, .v (.c (.clo 60 [(aO,0,0),(aL,0,0)])),[],[],N,0⟩ ⟨e,G,N⟩:=opN' (by rw[Z];exact mv h6) a3 ao rfl;have e1:Zi o0 ⟨none, .v (.c (.clo 60 [(aO,0,0),(aL,0,0)])),[],[],N,0⟩ ⟨e,G,N⟩=⟨(d0, .v (.c (.clo 60 [(aO,0,0),(aL,0,0)])))::e,G,N⟩:=by rw[stS L];rfl
  have s2:OpOK P 93 [o0,o1] o1 ⟨none, .tup [],Ex aO aL idO idL m.length N RL c1 c2 v1 v2 o,rd.map (·.1),N,1⟩ ⟨(d0, .v (.c (.clo 60 [(aO,0,0),(aL,0,0)])))::e,G,N⟩:=
   PK (s:=⟨(d0, .v (.c (.clo 60 [(aO,0,0),(aL,0,0)])))::e,G,N⟩) (g:=none) (c:=c) (cf:= .tmp d0) (f:=60) (caps:=[(aO,0,0),(aL,0,0)]) (g0:=true) (g1:=true) («as»:=[]) (rd:=rd) (k:=1) (by rw[a6];rfl) ap a5 a7 (.inl (La rfl)) (by rw[a8];rfl) (fun _=>⟨rfl, .inl (La rfl)⟩) (fun _=>call) ad
  refine VE (s0:=⟨e,G,N⟩) (zs:=[(o0,(⟨none, .v (.c (.clo 60 [(aO,0,0),(aL,0,0)])),[],[],N,0⟩:Lv.RO)),(o1,(⟨none, .tup [],Ex aO aL idO idL m.length N RL c1 c2 v1 v2 o,rd.map (·.1),N,1⟩:Lv.RO))]) rfl ⟨rfl,fun j oo r hj=> ?_⟩ ?_
  ·rcases j with _|_|j
   ·cases hj;exact s1
   ·cases hj;show OpOK P 93 [o0,o1] o1 _ (Zi o0 _ ⟨e,G,N⟩);rw[e1];exact s2
   ·cases hj
  ·show Q .normal (Zi o1 _ (Zi o0 _ ⟨e,G,N⟩)).e ⟨(Zi o1 _ (Zi o0 _ ⟨e,G,N⟩)).next,(Zi o1 _ (Zi o0 _ ⟨e,G,N⟩)).get⟩;rw[e1,stS O];refine h _ _ (fun t ht=>by rw[Uh (by omega),Uh (by omega)]) ?_;have cr: ∀{i:Nat} {c:CV} {v:List zg},cs[i]? =some c->vs[i]? =some v-> ∀id∈zJ c,id≠aO/\id≠aL/\id≠idL/\id≠N:=fun {i c v} hc hv id hid=>by have hg:=(u.hlst i c v hc hv).at id hid;have:=(u.href c (Ua hc) id hid).2;exact⟨at1 hg u.hO rfl,at1 hg u.hL rfl,at1 hg u.hI rfl,by omega⟩
   exact bR n1 n2 n3 ⟨by omega,by omega,by omega⟩ (fun id hid=>hid.elim (cr a1 b1 id) (cr a2 b2 id))
 ·by_cases aq:i<m.length+2
  ·have ar:i<cs.length:=by rw[u.hcl,B];exact aq
   have V:=Ma ar;have:=u.hrow i _ V;rw[hi]at y;cases y;rw[Sa.1 hc]at hid;exact al V id hid
  ·rw[u.hst i row hi (by rw[B];omega) c hc]at hid;cases hid
end
def PS(G:Get)(N M0:Nat)(get0:Get)(aL aO b:Nat)(s:PSt):Prop:= ∃idL RL cs cO,PI G N M0 get0 aL aO b (s.2.reverse.map (·.1)) (s.2.reverse.map (·.2)++[s.1]) idL RL cs cO
section
variable {M0 aL aO aT b:Nat} {e:Env} {G get0:Get} {Q:Post} {s:PSt} {t:zb}
theorem PS.of{N:Nat}{os:List zb}{vs:List (List zg)}{idL:Nat}{RL:List (List CV)}{cs:List CV}{cO:CV}(h:PI G N M0 get0 aL aO b os vs idL RL cs cO)(ho:s.2.reverse.map (·.1)=os)(hv:s.2.reverse.map (·.2)++[s.1]=vs):PS G N M0 get0 aL aO b s:=by subst ho hv;exact⟨_,_,_,_,h⟩
theorem last_of{α:Type}{l:List α}{n:Nat}(h:l.length=n+1): ∃c x,l=c++[x]:=by
 rcases List.eq_nil_or_concat l with rfl|⟨c,x,h2⟩
 ·simp at h
 ·exact⟨c,x,by rw[h2,List.concat_eq_append]⟩
theorem zDz (a5:PS G aT M0 get0 aL aO b s) (O:Dn s.2 t=false) (hb:b<=2000) (hM:M0<=aT) (h4:look e 4= .v (.c (.optr aL 0 0))) (h5:look e 5= .v (.c (.optr aO 0 0))) (h8:look e 8= .v (.c (.optr aT 0 0))) (h9:look e 9= .v (.c (.p (.at (.int .i64 ((s.2.length:Nat):Int)))))) (hT:G aT=some ⟨44,5,[tkC t],none⟩)
  (h1: ∀s',qp s t=some s'-> ∀e' N' get',(∀t,t<23->look e' t=look e t)->aT<N'->(∃u,(∀e2,Sub 93 e2 ⟨N',get'⟩ e2 ⟨N',u⟩)/\PS u N' M0 get0 aL aO (b+1) s')->Q .normal e' ⟨N',get'⟩)
  (h2:qp s t=none-> ∀e',look e' 2= .v (.c nilC)->look e' 3= .v (.c (.p (.at (.int .i64 20))))->Q .ret e' ⟨aT+1,G⟩):
  SW P 93 (match ol with| .seq _ (.cond _ _ c)=>c|_=> .skip) Q e ⟨aT+1,G⟩:=by
 obtain⟨cur,st⟩:=s;obtain⟨idL,RL,cs,cO,f⟩:=a5;simp only at f h9 O;have U:(st.reverse.map (·.1)).length=st.length:=by rw[Ra,List.length_reverse]
 generalize ho:st.reverse.map (·.1)=os at f U;generalize hv:st.reverse.map (·.2)=a6 at f;obtain⟨n1,n2,n3⟩:=f.ne;obtain⟨m1,m2,m3,m4,m5,m6⟩:=f.hM;have m:qp (cur,st) t=if zo t.kind≠0 then(if st.length=16 then none else some ([],(t,cur)::st))else some (cur++[⟨t,[]⟩],st):=by unfold qp;rw[Ha (by rw[O];decide)]
 refine SW.seq (r15 h8 hT fun e1 k1 l1=> ?_);refine SW.condB (b:=zo t.kind != 0) l1 (fun A=> ?_) (fun A=> ?_)
 ·have hc:zo t.kind≠0:=by simpa using A
  rw[La hc]at m;refine SW.seq (SW.seq (r16 (n:=st.length) ((k1 9 (by decide)).trans h9) fun e2 k2 l2=> ?_));refine SW.condB (b:=((st.length:Nat):Int)==16) l2 (fun r=> ?_) (fun r=> ?_)
  ·have B:st.length=16:=by have:=Ib.1 r;omega
   rw[La B]at m;refine SW.seq (SW.reg (fun _=>0) [([],[]),([],[])] ?_);refine Walk.n (Op1.assign _) rfl rfl rfl rfl rfl ?_;refine Walk.n (Op1.assign _) rfl rfl rfl rfl rfl ?_;refine Walk.end ?_;refine SW.end_ ?_ (fun _ _ _=>wp_ret);exact h2 m _ rfl rfl
  ·have B:st.length≠16:=fun h=>by rw[h]at r;revert r;decide
   rw[Ha B]at m;refine SW.end_ ?_ (fun _ _ _=>wp_skip);show SW P 93 _ Q e2 ⟨aT+1,G⟩;have kk: ∀t,t<23->look e2 t=look e t:=fun t ht=>(k2 t ht).trans (k1 t ht);have V:os.length<16:=by have:=f.hn;omega
   have W:os.length+1<=RL.length:=by
    have J:os.length<cs.length:=by rw[f.hcl];exact Dc _
    have:=(Fa.1 (f.hrow os.length _ (Ma J))).1;omega
   have fin: ∀(get':Get) (L:List (List CV)),get' aL=some ⟨52,1,[[.osl (aT+1+1) 0 (os.length+2)]],none⟩->get' (aT+1+1)=some ⟨23,1,RL.take (os.length+1)++[[nilC]],none⟩->get' aO=some ⟨22,1,[[.osl (aT+1+3) 0 (os.length+1)]],none⟩->
     get' (aT+1+3)=some ⟨44,5,L,none⟩->(∀(i:Nat) o,(os++[t])[i]? =some o->L[i]? =some (tkC o))->(∀id,id<aT->id≠aL->id≠aO->id≠idL->id ∉ zJ cO->get' id=G id)->PS get' (aT+1+4) M0 get0 aL aO (b+1) ([],(t,cur)::st):=fun get' L f1 Y Z f4 f5 f6=>by
    have:=(f.grow (get':=G) (Va _) (Nat.le_succ b) hM (fun _ _=>rfl)).push V f1 Y Z f4 f5 f6 ⟨by omega,by omega⟩ ⟨by omega,by omega⟩ hM (N':=aT+1+4);exact PS.of j (by simp only[List.reverse_cons,yc,aa,ic,ho]) (by simp only[List.reverse_cons,yc,aa,ic,hv])
   rcases f.hop with⟨rfl,y⟩|⟨idO,RO,rfl,q2,q3,q4,q5⟩
   ·refine zES (n:=os.length) (idL:=idL) (RL:=RL) (t:=t) ((kk 4 (by decide)).trans h4) ((kk 5 (by decide)).trans h5) ((kk 8 (by decide)).trans h8) f.hL f.hI hT f.hO (by rw[y];rfl) (by omega) W ⟨by omega,by omega,by omega,by omega⟩ fun e' get' k3 f1 Y Z f4 f5=> ?_;refine h1 _ m e' _ get' (fun t ht=>(k3 t ht).trans (kk t ht)) (by omega) ⟨get',fun e2=>Sub.refl _ _ _,fin get' [tkC t] f1 Y Z f4 (fun i o hi=> ?_) (fun id a b c d _=>f5 id (by omega) b c d)⟩;rw[y]at hi;rcases i with _|i
    ·cases hi;rfl
    ·cases hi
   ·have a7:os.length<=RO.length:=by
     rcases Sg os.length with h0|h0
     ·omega
     ·have J:os.length - 1<os.length:=by omega
      have:=(Fa.1 (q5 _ _ (Ma J))).1;omega
    refine zET (n:=os.length) (idL:=idL) (RL:=RL) (t:=t) (idO:=idO) (RO:=RO) ((kk 4 (by decide)).trans h4) ((kk 5 (by decide)).trans h5) ((kk 8 (by decide)).trans h8) f.hL f.hI hT f.hO q2 a7 (by omega) (by omega) W ⟨by omega,by omega,by omega,by omega,by omega⟩ fun e' get' k3 f1 Y Z f4 f5=> ?_;refine h1 _ m e' _ get' (fun t ht=>(k3 t ht).trans (kk t ht)) (by omega) ⟨get',fun e2=>Sub.refl _ _ _,fin get' _ f1 Y Z f4 (fun i o hi=> ?_) (fun id a b c d g=>f5 id (by omega) b c d (fun q=>g (Sa.2 q)))⟩;have a8:(RO.take os.length).length=os.length:=by rw[Md];omega
    rcases Qf hi with⟨h3,h4⟩|⟨h3,rfl⟩
    ·rw[Fb (by omega),List.getElem?_take_of_lt h3];exact q5 i o h4
    ·have:=qJ (RO.take os.length) (tkC o);rw[a8]at j;rw[h3];exact j
 ·have hc:zo t.kind=0:=by simpa using A
  rw[Ha (by rw[hc];decide)]at m;obtain⟨a3,c,rfl⟩:=last_of f.hcl;have hcl:a3.length=os.length:=by have:=f.hcl;rw[Ba]at j;simpa using j
  have hvl:a6.length=os.length:=by have:=f.hvl;rw[Ba]at j;simpa using j
  have a1:(a3++[c])[os.length]? =some c:=by rw[<-hcl];exact qJ _ _
  have a9:cur.length<=b:=f.hb cur (by simp);refine zrs (aL:=aL) (idL:=idL) (src:=aT) (k:=os.length) (N:=aT+1) (RL:=RL) (c1:=c) (v1:=cur) (tk:=t) ((k1 4 (by decide)).trans h4) (by rw[U];exact(k1 9 (by decide)).trans h9) ((k1 8 (by decide)).trans h8) f.hL f.hI (f.hrow _ _ a1) hT (f.hlst _ _ _ a1 (by rw[<-hvl];exact qJ _ _)) (by omega) ⟨by omega,by omega,by omega⟩
   (fun i hi=>by have:=(f.href c (by simp) i hi).2;omega) fun e' get' k3 z=> ?_
  refine h1 _ m e' _ get' (fun t ht=>(k3 t ht).trans (k1 t ht)) (by omega) ⟨_,fun e2=>zCc z.2.1,?_⟩;obtain⟨t1,t2,t3,t4⟩:=z;refine PS.of (f.put (N':=aT+1+3) (n:=aT+1+2) ⟨upK t1 (by omega),upS,fun id hid=>upK (t3 id hid) (by have:=(f.href c (by simp) id hid).2;omega),fun id a b d=>upK (t4 id a b d) (by omega)⟩ (by omega) (by omega) (fun id hid=>by omega) hM) ho (by simp only[hv])
end
section
variable {M0 aL aO aT b:Nat} {e:Env} {G get0:Get} {Q:Post} {s:PSt} {t:zb}
theorem PS.grow{N N' b':Nat}{get':Get}(h:PS G N M0 get0 aL aO b s)(c:N<=N')(hb:b<=b')(hM:M0<=N)(hk: ∀id,id<N->get' id=G id):PS get' N' M0 get0 aL aO b' s:=by obtain⟨_,_,_,_,d⟩:=h;exact⟨_,_,_,_,d.grow c hb hM hk⟩
theorem PS.some_open{N:Nat}{cur out:List zg}{o:zb}{st:List (zb×List zg)}(h:PS G N M0 get0 aL aO b (cur,(o,out)::st)):
  ∃idL RL c c1 c2 idO RO,PI G N M0 get0 aL aO b (st.reverse.map (·.1)++[o]) (st.reverse.map (·.2)++[out]++[cur]) idL RL (c++[c1]++[c2]) (.osl idO 0 (st.length+1))/\G idO=some ⟨44,5,RO,none⟩/\M0<=idO/\idO<N/\(∀(i:Nat) o',(st.reverse.map (·.1)++[o])[i]? =some o'->RO[i]? =some (tkC o'))/\(st.reverse.map (·.1)).length=st.length:=by
 obtain⟨idL,RL,cs,cO,d⟩:=h;simp only[List.reverse_cons,yc,aa,ic]at d;have f:(st.reverse.map (·.1)).length=st.length:=by rw[Ra,List.length_reverse]
 have hcl:=d.hcl;rw[Ba]at hcl;obtain⟨j,c2,rfl⟩:=last_of hcl;rw[Ba]at hcl;obtain⟨c,c1,rfl⟩:=last_of (l:=j) (n:=(st.reverse.map (·.1)).length) (by simpa using hcl);rcases d.hop with⟨_,h0⟩|⟨idO,RO,rfl,m,p,r,u⟩
 ·simp at h0
 ·have hl:(st.reverse.map (·.1)++[o]).length=st.length+1:=by rw[Ba,f];rfl
  rw[hl]at d;exact⟨idL,RL,c,c1,c2,idO,RO,d,m,p,r,u,f⟩
theorem PS.shut {N:Nat} {cur out:List zg} {o:zb} {st:List (zb×List zg)} {get':Get} {idL idO:Nat} {RL RO:List (List CV)} {c:List CV} {c1 c2:CV} (d:PI G N M0 get0 aL aO b (st.reverse.map (·.1)++[o]) (st.reverse.map (·.2)++[out]++[cur]) idL RL (c++[c1]++[c2]) (.osl idO 0 ((st.reverse.map (·.1)).length+1)))
  (f:G idO=some ⟨44,5,RO,none⟩) (j:M0<=idO/\idO<N) (m: ∀(i:Nat) o',(st.reverse.map (·.1)++[o])[i]? =some o'->RO[i]? =some (tkC o')) (p:zts G aO aL idO idL (st.reverse.map (·.1)).length N RL c1 c2 out cur o get') (hM:M0<=N):
  PS get' (N+1) M0 get0 aL aO (b+1) (out++[⟨o,cur⟩],st):=PS.of (d.shut f m j p hM) rfl rfl
theorem zEp (j:PS G aT M0 get0 aL aO b s) (hb:b<=2000) (hM:M0<=aT) (h4:look e 4= .v (.c (.optr aL 0 0))) (z:look e 5= .v (.c (.optr aO 0 0))) (Z:look e 6= .v (.c (.clo 60 [(aO,0,0),(aL,0,0)]))) (U:look e 8= .v (.c (.optr aT 0 0)))
  (A:look e 9= .v (.c (.p (.at (.int .i64 ((s.2.length:Nat):Int)))))) (V:G aT=some ⟨44,5,[tkC t],none⟩)
  (h1: ∀u,qp s t=some u-> ∀e' N' get',(∀t,t<23->look e' t=look e t)->aT<N'->(∃d,(∀e2,Sub 93 e2 ⟨N',get'⟩ e2 ⟨N',d⟩)/\PS d N' M0 get0 aL aO (b+1) u)->Q .normal e' ⟨N',get'⟩)
  (h2:qp s t=none-> ∀e',look e' 2= .v (.c nilC)->look e' 3= .v (.c (.p (.at (.int .i64 20))))->Q .ret e' ⟨aT+1,G⟩):
  SW P 93 ol Q e ⟨aT+1,G⟩:=by
 obtain⟨cur,st⟩:=s;have W: ∀e1:Env,(∀t,t<23->look e1 t=look e t)->Dn st t=false->SW P 93 (match ol with| .seq _ (.cond _ _ c)=>c|_=> .skip) Q e1 ⟨aT+1,G⟩:=fun e1 k1 B=>
  zDz j B hb hM ((k1 4 (by decide)).trans h4) ((k1 5 (by decide)).trans z) ((k1 8 (by decide)).trans U) ((k1 9 (by decide)).trans A) V (fun u hs e' N' get' k2=>h1 u hs e' N' get' fun t ht=>(k2 t ht).trans (k1 t ht)) h2
 cases st with
 |nil=>
  refine SW.seq (zAq z A fun e1 k1 l1=> ?_);exact SW.condB (b:=false) l1 (fun h=>by cases h) (fun _=>W e1 k1 rfl)
 |cons x st=>
  obtain⟨o,out⟩:=x;obtain⟨idL,RL,a3,c1,c2,idO,RO,y,J,Y,q4,L,f⟩:=j.some_open;have hn:=y.hn;rw[Ba,f]at hn;refine SW.seq (zAr (m:=st.length) (o:=o) (t:=t) (idO:=idO) (RO:=RO) (by simp at hn;omega) z U A y.hO J (L _ _ (by rw[<-f];exact qJ _ _)) V (by omega) fun e1 k1 l1=> ?_);refine SW.condB (b:=t.kind==zo o.kind) l1 (fun i=> ?_) (fun i=> ?_)
  ·have O:qp (cur,(o,out)::st) t=some (out++[⟨o,cur⟩],st):=by unfold qp;rw[La (show Dn ((o,out)::st) t=true from i)];rfl
   rw[<-f]at y;have r:=y.grow (get':=G) (Nat.le_succ aT) (Va b) hM (fun _ _=>rfl);refine DW (d0:=62) (d1:=63) ⟨rfl,rfl,rfl⟩ ⟨rfl,rfl,rfl⟩ ⟨rfl,rfl⟩ ⟨rfl,rfl,by decide,by decide⟩ ((k1 6 (by decide)).trans Z) r J L ⟨Y,by omega⟩ hb fun e' get' k2 hU=> ?_;exact h1 _ O e' _ get' (fun t ht=>(k2 t ht).trans (k1 t ht)) (by omega) ⟨get',fun e2=>Sub.refl _ _ _,PS.shut r J ⟨Y,by omega⟩ L hU (by omega)⟩
  ·exact W e1 k1 i
end
theorem mJ: ∀(a b:List zb) (s:PSt),Z6 (a++b) s=(Z6 a s).bind (Z6 b)
 |[],b,s=>rfl
 |t::a,b,s=>by
  rw[ja,Z6,Z6];cases qp s t with
  |none=>rfl
  |some c=>exact mJ a b c
theorem U5(t:zb)(s:PSt):Z6 [t] s=qp s t:=by rw[Z6];cases qp s t<;>rfl
structure PE (e:Env) (l:List zb) (aL aO i:Nat):Prop where
 t0:look e 0= .v (.c (.p (.sl (l.map Io))))
 t4:look e 4= .v (.c (.optr aL 0 0))
 t5:look e 5= .v (.c (.optr aO 0 0))
 t6:look e 6= .v (.c (.clo 60 [(aO,0,0),(aL,0,0)]))
 t15:look e 15= .v (.c (.p (.sl (l.map Io))))
 t16:look e 16= .v (.c (.p (.at (.int .i64 ((l.length:Nat):Int)))))
 t17:look e 17= .v (.c (.p (.at (.int .i64 ((i:Nat):Int)))))
def Kp(e' e:Env):Prop:=look e' 0=look e 0/\look e' 4=look e 4/\look e' 5=look e 5/\look e' 6=look e 6/\look e' 15=look e 15/\look e' 16=look e 16/\look e' 17=look e 17
theorem Kp.of{e' e:Env}(hk: ∀t,t<23->look e' t=look e t):Kp e' e:=⟨hk 0 (by decide),hk 4 (by decide),hk 5 (by decide),hk 6 (by decide),hk 15 (by decide),hk 16 (by decide),hk 17 (by decide)⟩
theorem Kp.trans{a b c:Env}(h:Kp a b)(g:Kp b c):Kp a c:=by obtain⟨h1,h2,h3,h4,d,f,i⟩:=h;obtain⟨g1,j,m,p,r,u,v⟩:=g;exact⟨h1.trans g1,h2.trans j,h3.trans m,h4.trans p,d.trans r,f.trans u,i.trans v⟩
theorem PE.of{e e':Env}{l:List zb}{aL aO i:Nat}(h:PE e l aL aO i)(hk:Kp e' e):PE e' l aL aO i:=by obtain⟨h1,h2,h3,h4,c,d,f⟩:=hk;exact⟨h1.trans h.t0,h2.trans h.t4,h3.trans h.t5,h4.trans h.t6,c.trans h.t15,d.trans h.t16,f.trans h.t17⟩
abbrev JG:Code:=match Tryz.f16.body with
 |some (.seq _ (.seq _ (.seq _ (.seq _ (.seq (.seq _ (.block _ (.loop c))) _)))))=>c
 |_=> .skip
theorem PS.cell{G get0:Get}{N M0 aL aO b:Nat}{s:PSt}(h:PS G N M0 get0 aL aO b s): ∃cO,G aO=some ⟨22,1,[[cO]],none⟩/\((cO=nilC/\s.2.length=0)\/ ∃id ob,cO= .osl id 0 s.2.length/\G id=some ob):=by
 obtain⟨_,_,_,cO,d⟩:=h;have c:(s.2.reverse.map (·.1)).length=s.2.length:=by rw[Ra,List.length_reverse]
 refine⟨cO,d.hO,?_⟩;rcases d.hop with⟨h1,h2⟩|⟨idO,RO,f,i,_⟩
 ·exact .inl ⟨h1,by rw[<-c,h2];rfl⟩
 ·exact .inr ⟨idO,_,by rw[f,c],i⟩
def Zo(nt:Nat)(ops:List Oper):List Oper->TS->(TS->Prop)->Prop
 |[],s,K=>K s
 |o::l,s,K=> ∃r:RO,OpOK P nt ops o r s/\Zo nt ops l (Zi o r s) K
theorem Zo.zs{nt:Nat}{ops:List Oper}{K:TS->Prop}: ∀{l:List Oper} {s:TS},Zo nt ops l s K-> ∃zs:List (Oper×RO),zs.map (·.1)=l/\(∀(j:Nat) (o:Oper) (r:RO),zs[j]? =some (o,r)->OpOK P nt ops o r (runA (zs.take j) s))/\K (runA zs s)
 |[],s,h=>⟨[],rfl,fun j o r c=>by simp at c,h⟩
 |o::l,s,h=>by
  obtain⟨r,h1,h2⟩:=h;obtain⟨zs,h3,h4,i⟩:=h2.zs;refine⟨(o,r)::zs,by simp[h3],fun j o' m c=> ?_,i⟩;cases j with
  |zero=>simp at c;obtain⟨rfl,rfl⟩:=c;exact h1
  |d j=> have:=h4 j o' m (by simpa using c);simpa [runA] using f
theorem SW.regL{nt id:Nat}{c:Array Oper}{Q:Post}{e:Env}{g:Get}{n:Nat}(h:Zo nt c.toList c.toList ⟨e,g,n⟩ (fun s=>Q .normal s.e ⟨s.next,s.get⟩)):SW P nt (.region id c false) Q e ⟨n,g⟩:=by obtain⟨zs,h1,h2,h3⟩:=h.zs;exact VE (s0:=⟨e,g,n⟩) h1 ⟨h1,h2⟩ h3
section
variable {nt:Nat} {ops:List Oper} {K:TS->Prop}
theorem Zo.n{o:Oper}{l:List Oper}{e:Env}{get:Get}{nx k d:Nat}{val:LV}{up:List (Nat×Option OB)}(h: ∃rd,Op1 P (opd e) get nx o.op val rd up k)(c:o.dst=some d)(f:Nat.blt d nt=true)(i:o.guard=none)(h4:Zo nt ops l ⟨(d,val)::e,upd get up,nx+k⟩ K):Zo nt ops (o::l) ⟨e,get,nx⟩ K:=by obtain⟨rd,h⟩:=h;exact⟨_,opN h i (fun j h'=>by rw[c]at h';cases h';exact Zm.1 f),by unfold Zi;rw[c];exact h4⟩
theorem Zo.n0{o:Oper}{l:List Oper}{e:Env}{get:Get}{nx k:Nat}{val:LV}{up:List (Nat×Option OB)}(h: ∃rd,Op1 P (opd e) get nx o.op val rd up k)(c:o.dst=none)(d:o.guard=none)(h4:Zo nt ops l ⟨e,upd get up,nx+k⟩ K):Zo nt ops (o::l) ⟨e,get,nx⟩ K:=by obtain⟨rd,h⟩:=h;exact⟨_,opN h d (fun f h'=>by rw[c]at h';cases h'),by unfold Zi;rw[c];exact h4⟩
theorem Zo.end{s:TS}(h:K s):Zo nt ops [] s K:=h
theorem lenC{E:Operand->LV}{G:Get}{nx n:Nat}{c:Call}{x:Operand}{cO:CV}(h:(cO=nilC/\n=0)\/ ∃id ob,cO= .osl id 0 n/\G id=some ob)(hc:c.callee= .builtin .len)(ha:c.args.toList=[x])(ht:c.argTypes.toList=[22])(d:E x= .v (.c cO)):
  ∃rd,Op1 P E G nx (.call c) (.v (.c (.p (.at (.int .i64 ((n:Nat):Int)))))) rd [] 0:=by
 rcases h with⟨rfl,rfl⟩|⟨id,ob,rfl,f⟩
 ·exact⟨_,Op1.lenN hc ha ht (.inl d) k22⟩
 ·exact⟨_,Op1.lenO hc ha ht (.inl d) f k22⟩
theorem lenl{E:Operand->LV}{G:Get}{nx:Nat}{c:Call}{x:Operand}{l:List zb}(hc:c.callee= .builtin .len)(ha:c.args.toList=[x])(ht:c.argTypes.toList=[22])(f:E x= .v (.c (.p (.sl (l.map Io))))):
  ∃rd,Op1 P E G nx (.call c) (.v (.c (.p (.at (.int .i64 ((l.length:Nat):Int)))))) rd [] 0:=by
 have:=Op1.lenS (P:=P) (get:=G) (nx:=nx) hc ha ht (.inl f) k22;rw[Ra]at d;exact⟨_,d⟩
end
section
variable {M0 aL aO:Nat} {e:Env} {get0:Get} {Q:Post} {l:List zb}
theorem zEV {i N:Nat} {G:Get} {s:PSt} {t:zb} (hb:i<=2000) (j:PE e l aL aO i) (f:PS G N M0 get0 aL aO i s) (hM:M0<=N) (A:look e 8= .v (.c (.optr N 0 0))) (B:G N=some ⟨44,5,[tkC t],none⟩)
  (h1: ∀m,qp s t=some m-> ∀e' N' get',Kp e' e->N<N'->(∃d,(∀e2,Sub 93 e2 ⟨N',get'⟩ e2 ⟨N',d⟩)/\PS d N' M0 get0 aL aO (i+1) m)->Q .normal e' ⟨N',get'⟩)
  (h2:qp s t=none-> ∀e',look e' 2= .v (.c nilC)->look e' 3= .v (.c (.p (.at (.int .i64 20))))->Q .ret e' ⟨N+1,G⟩) (z: ∀x e lh,(x= .normal\/x= .ret)->Q x e lh->BB 2 Q x e lh):
  SW P 93 (match JG with| .seq _ (.seq _ (.seq (.block _ (.seq _ c)) _))=>c|_=> .skip) Q e ⟨N+1,G⟩:=by
 obtain⟨cO,r,u⟩:=f.cell;refine SW.seq (SW.regL ?_);refine Zo.n ⟨_,Op1.load (.inl j.t5) r rfl rfl k22⟩ rfl rfl rfl ?_;refine Zo.n (lenC (n:=s.2.length) (cO:=cO) u rfl rfl rfl rfl) rfl rfl rfl ?_;refine Zo.n ⟨_,Op1.assign _⟩ rfl rfl rfl ?_;refine Zo.end ?_;refine SW.block (zEp (s:=s) (t:=t) f hb hM ((Uh (by decide)).trans ((Uh (by decide)).trans ((Uh (by decide)).trans j.t4))) ((Uh (by decide)).trans ((Uh (by decide)).trans ((Uh (by decide)).trans j.t5))) ((Uh (by decide)).trans ((Uh (by decide)).trans ((Uh (by decide)).trans j.t6)))
  ((Uh (by decide)).trans ((Uh (by decide)).trans ((Uh (by decide)).trans A))) rfl B (fun m y e' N' get' hk J L=> ?_) (fun y e' O U=>z _ _ _ (.inr rfl) (h2 y e' O U)))
 exact z _ _ _ (.inl rfl) (h1 m y e' N' get' ((Kp.of hk).trans ⟨rfl,rfl,rfl,rfl,rfl,rfl,rfl⟩) J L)
theorem zEg {i N:Nat} {G:Get} {s:PSt} (hl:l.length<=1500) (A:PE e l aL aO i) (hi:i<=l.length) (m:Z6 (l.take i) ([],[])=some s) (B:PS G N M0 get0 aL aO i s) (hM:M0<=N)
  (W:i=l.length-> ∀e':Env,Kp e' e->Q (.exit 0) e' ⟨N,G⟩)
  (Y: ∀e' N' get' J,PE e' l aL aO (i+1)->i<l.length->Z6 (l.take (i+1)) ([],[])=some J->M0<=N'->(∃r,(∀e2,Sub 93 e2 ⟨N',get'⟩ e2 ⟨N',r⟩)/\PS r N' M0 get0 aL aO (i+1) J)->Q .normal e' ⟨N',get'⟩)
  (Z:Z6 l ([],[])=none-> ∀e' y,look e' 2= .v (.c nilC)->look e' 3= .v (.c (.p (.at (.int .i64 20))))->(∀id,id<M0->y.get id=get0 id)->M0<=y.next->Q .ret e' y):
  SW P 93 JG Q e ⟨N,G⟩:=by
 refine SW.seq (SW.regL ?_);refine Zo.n ⟨_,Op1.bin (val:= .v (.c (.p (.at (.bool (decide (i<l.length))))))) (.inl A.t17) (.inl A.t16) (fun _ _=>by
  rw[show decide (i<l.length)=decide (((i:Nat):Int)<((l.length:Nat):Int))from uf.2 (by omega)];rfl)⟩ rfl rfl rfl ?_
 refine Zo.end ?_;refine SW.seq (SW.condB (b:=decide (i<l.length)) rfl (fun h1=> ?_) (fun h1=> ?_))
 rotate_left
 ·have f:i=l.length:=by have:=of_decide_eq_false h1;omega
  refine SW.end_ ?_ (fun _ _ _=>wp_exit);exact W f _ ⟨rfl,rfl,rfl,rfl,rfl,rfl,rfl⟩
 have f:i<l.length:=Jc h1;refine SW.end_ ?_ (fun _ _ _=>wp_skip);have j:l[i]? =some l[i]:=Ma f;generalize l[i]=t at j;refine SW.seq (SW.block (SW.seq (SW.regL ?_)));refine Zo.n ⟨_,Op1.idxS (row:=Io t) (.inl A.t15) (.inl A.t17) k22 c44 (by decide) (by omega) (by rw[jb,Ta,j,Kb]) rfl⟩ rfl rfl rfl ?_;refine Zo.n ⟨_,Op1.loadP (.inl rfl) k44 c44 (Va 5)⟩ rfl rfl rfl ?_;refine Zo.n ⟨_,Op1.alloc (z:=[.p (.at (.int .u8 0)), .p (.str []), .p (.at (.int .i64 0)), .p (.str []), .p (.at (.bool false))]) (by rw[EM];rfl) c44 o44⟩ rfl rfl rfl ?_;refine Zo.n0 ⟨_,Op1.storeX (u:= .agg (tkC t)) (.inl rfl) (.inl rfl) upS rfl k44 c44 rfl rfl rfl⟩ rfl rfl ?_;refine Zo.end ?_;refine zEV (i:=i) (s:=s) (t:=t) (by omega) (A.of ⟨rfl,rfl,rfl,rfl,rfl,rfl,rfl⟩) (B.grow (Va _) (Va _) hM fun id hid=>upK (upK rfl (Nb hid)) (Nb hid)) hM rfl upS (fun J L e' N' get' hk O hg=> ?_) (fun L e' q2 q3=> ?_) (fun x e lh hx U=> ?_)
 ·show SW P 93 _ Q e' ⟨N',get'⟩;have d:=A.of hk;refine SW.regL ?_;have e1:IntKind.i64.wrap (((i:Nat):Int)+1)=((i+1:Nat):Int):=by rw[w64s (by omega) (by omega)];omega
  refine Zo.n ⟨_,Op1.bin (val:= .v (.c (.p (.at (.int .i64 ((i+1:Nat):Int)))))) (.inl d.t17) (.inl rfl) (fun _ _=>by rw[<-e1];rfl)⟩ rfl rfl rfl ?_;refine Zo.n ⟨_,Op1.move _⟩ rfl rfl rfl ?_;refine Zo.end ?_;refine Y _ N' get' J ⟨d.t0,d.t4,d.t5,d.t6,d.t15,d.t16,rfl⟩ f ?_ (Sb hM (Nat.le_of_lt O)) hg;rw[List.take_add_one,j,mJ,m];show Z6 [t] s=some J;rw[U5,L]
 ·refine Z ?_ e' _ q2 q3 (fun id hid=> ?_) (Sb hM (Nat.le_succ N))
  ·rw[<-Lf i l,mJ,m];have:l.drop i=t::l.drop (i+1):=by rw[Yb f];rw[Ma f]at j;rw[Option.some.inj j]
   rw[V];show Z6 (t::l.drop (i+1)) s=none;rw[Z6,L];rfl
  ·obtain⟨_,_,_,_,hP⟩:=B;exact(upK (upK rfl (Nb (Mc hid hM))) (Nb (Mc hid hM))).trans (hP.hk id hid)
 ·rcases hx with rfl|rfl
  ·exact U
  ·exact U
end
section
variable {M0 aL aO:Nat} {e:Env} {get0:Get} {Q:Post} {l:List zb}
theorem zED {N:Nat} {G:Get} (hl:l.length<=1500) (A:PE e l aL aO 0) (j:PS G N M0 get0 aL aO 0 ([],[])) (hM:M0<=N)
  (B: ∀e' N' get' s,PE e' l aL aO l.length->Z6 l ([],[])=some s->M0<=N'->PS get' N' M0 get0 aL aO l.length s->Q .normal e' ⟨N',get'⟩)
  (J:Z6 l ([],[])=none-> ∀e' d,look e' 2= .v (.c nilC)->look e' 3= .v (.c (.p (.at (.int .i64 20))))->(∀id,id<M0->d.get id=get0 id)->M0<=d.next->Q .ret e' d):SW P 93 (.block 0 (.loop JG)) Q e ⟨N,G⟩:=by
 refine SW.block (nI (α:=Env×LH×Nat×PSt) (·.1) (·.2.1) (fun x=>PE x.1 l aL aO x.2.2.1/\x.2.2.1<=l.length/\Z6 (l.take x.2.2.1) ([],[])=some x.2.2.2/\PS x.2.1.get x.2.1.next M0 get0 aL aO x.2.2.1 x.2.2.2/\M0<=x.2.1.next) (fun x=>l.length - x.2.2.1)
  (e,⟨N,G⟩,0,([],[])) ⟨A,Pb _,rfl,j,hM⟩ (Sub.refl _ _ _) fun⟨e,⟨N,G⟩,i,s⟩ ⟨h1,h2,h3,h4,z⟩=> ?_)
 refine zEg (i:=i) (s:=s) hl h1 h2 h3 h4 z (fun hi e' hk=> ?_) (fun e' N' get' L O m r u y=> ?_) (fun hn e' d m r u y=>J hn e' d m r u y)
 ·subst hi;rw[Mf]at h3;exact B e' N G s (h1.of hk) h3 z h4
 ·obtain⟨f,U,V⟩:=y;exact⟨(e',⟨N',f⟩,i+1,L),⟨O,m,r,V,u⟩,by show l.length - (i+1)<l.length - i;omega,U e'⟩
abbrev MW:Code:=match Tryz.f16.body with
 |some (.seq _ (.seq _ (.seq _ (.seq _ (.seq _ c)))))=>c
 |_=> .skip
theorem zEE {b N:Nat} {G:Get} {s:PSt} (h4:look e 4= .v (.c (.optr aL 0 0))) (O:look e 5= .v (.c (.optr aO 0 0))) (U:look e 6= .v (.c (.clo 60 [(aO,0,0),(aL,0,0)]))) (i:PS G N M0 get0 aL aO b s) (hb:b+s.2.length<=2000) (hM:M0<=N)
  (V: ∀e' N' get' b',look e' 4= .v (.c (.optr aL 0 0))->M0<=N'->PS get' N' M0 get0 aL aO b' (shutAll s.1 s.2,[])->Q .normal e' ⟨N',get'⟩):
  SW P 93 (match MW with| .seq _ (.seq c _)=>c|_=> .skip) Q e ⟨N,G⟩:=by
 refine SW.block (nI (α:=Env×LH×Nat×PSt) (·.1) (·.2.1) (fun x=>look x.1 4= .v (.c (.optr aL 0 0))/\look x.1 5= .v (.c (.optr aO 0 0))/\look x.1 6= .v (.c (.clo 60 [(aO,0,0),(aL,0,0)]))/\x.2.2.1+x.2.2.2.2.length<=2000/\shutAll x.2.2.2.1 x.2.2.2.2=shutAll s.1 s.2/\PS x.2.1.get x.2.1.next M0 get0 aL aO x.2.2.1 x.2.2.2/\M0<=x.2.1.next) (fun x=>x.2.2.2.2.length)
  (e,⟨N,G⟩,b,s) ⟨h4,O,U,hb,rfl,i,hM⟩ (Sub.refl _ _ _) fun⟨e,⟨N,G⟩,b,⟨cur,st⟩⟩ ⟨k4,k5,j,m,ks,d,f⟩=> ?_)
 simp only at k4 k5 j m ks d f;obtain⟨cO,r,u⟩:=d.cell;refine SW.seq (SW.seq (SW.regL ?_));refine Zo.n ⟨_,Op1.load (.inl k5) r rfl rfl k22⟩ rfl rfl rfl ?_;refine Zo.n (lenC (n:=st.length) (cO:=cO) u rfl rfl rfl rfl) rfl rfl rfl ?_;refine Zo.n ⟨_,Op1.bin (val:= .v (.c (.p (.at (.bool (decide (0<st.length))))))) (.inl rfl) (.inl rfl) (fun _ _=>by
  rw[show decide (0<st.length)=decide (((st.length:Nat):Int)>0)from uf.2 (by omega)];rfl)⟩ rfl rfl rfl ?_
 refine Zo.end ?_;refine SW.condB (b:=decide (0<st.length)) rfl (fun h1=> ?_) (fun h1=> ?_)
 ·refine SW.end_ ?_ (fun _ _ _=>wp_skip);cases st with
  |nil=>cases h1
  |cons x st=>
   obtain⟨o,out⟩:=x;obtain⟨idL,RL,W,c1,c2,idO,RO,y,A,B,J,L,z⟩:=d.some_open;rw[<-z]at y;refine SW.block (DW (d0:=88) (d1:=89) ⟨rfl,rfl,rfl⟩ ⟨rfl,rfl,rfl⟩ ⟨rfl,rfl⟩ ⟨rfl,rfl,by decide,by decide⟩ j y A L ⟨B,J⟩ (by rw[Ea]at m;omega) fun e' get' k2 Y=> ?_);have Z:=PS.shut y A ⟨B,J⟩ L Y f;refine⟨(e',⟨N+1,get'⟩,b+1,(out++[⟨o,cur⟩],st)),⟨(k2 4 (by decide)).trans k4,(k2 5 (by decide)).trans k5,(k2 6 (by decide)).trans j,?_,ks,Z,Nat.le_succ_of_le f⟩,?_,Sub.refl _ _ _⟩
   ·show b+1+st.length<=2000;rw[Ea]at m;omega
   ·show st.length<(_::st).length;rw[Ea];exact Dc _
 ·have h0:st=[]:=by
   cases st with
   |nil=>rfl
   |cons x st=>simp at h1
  subst h0;refine SW.end_ ?_ (fun _ _ _=>wp_exit);exact V _ N G b k4 f (by rw[<-ks];exact d)
theorem mk1{x y:Operand}{get:Get}{nx:Nat}(d:opd e x= .v (.c (.p (.at (.int .i64 1)))))(f:opd e y= .v (.c (.p (.at (.int .i64 1))))): ∃rd,Op1 P (opd e) get nx (.makeSlice 52 x y) (.v (.c (.osl nx 0 1))) rd [(nx,some ⟨23,1,[[nilC]],none⟩)] 1:=by
 have hr:rep (1:Int).toNat (Pg (ti P 23).zero)=[[nilC]]:=by rw[FM];rfl
 refine⟨[],(0:Int)<=1/\(1:Int)<=1/\(1:Int)*(ti P 23).by_<=140737488355328/\(1:Int)<=9223372036854775807/\0<P.cellsOf 23/\(ti P 23).zok=true,?_,⟨by decide,by decide,by rw[b23];decide,by decide,by rw[c23];decide,o23⟩,rfl⟩;simp only[opR,d,f,Zj,Mk,k52,hr,c23];rfl
theorem mkf{get:Get}{nx:Nat}(d:opd e (.tmp 5)= .v (.c (.optr aO 0 0)))(h4:opd e (.tmp 4)= .v (.c (.optr aL 0 0))): ∃rd,Op1 P (opd e) get nx (.makeFunc (.func 60) #[] #[.tmp 5, .tmp 4]) (.v (.c (.clo 60 [(aO,0,0),(aL,0,0)]))) rd [] 0:=by refine⟨[],True,?_,trivial,rfl⟩;simp only[opR,Pk,d,h4];rfl
def PQ(M0:Nat)(get0:Get)(l:List zb):Post:=fun x e lh=>
 x= .ret/\ ∃(c:CV) (v:List zg) (d:Int),look e 2= .v (.c c)/\look e 3= .v (.c (.p (.at (.int .i64 d))))/\Lst lh.get c v/\(∀id,id<M0->lh.get id=get0 id)/\(∀id∈zJ c,M0<=id)/\M0<=lh.next/\parS l=(v,d)
theorem PQ.nil{lh:LH}{d:Int}(h2:look e 2= .v (.c nilC))(h3:look e 3= .v (.c (.p (.at (.int .i64 d)))))(hk: ∀id,id<M0->lh.get id=get0 id)(hM:M0<=lh.next)(hp:parS l=([],d)):PQ M0 get0 l .ret e lh:=
 ⟨rfl,nilC,[],d,h2,h3, .inl ⟨rfl,rfl⟩,hk,(fun id hid=>by cases hid),hM,hp⟩
theorem U1{N:Nat}{G:Get}{s:PSt}(hl:l.length<=1500)(r:PE e l aL aO l.length)(f:Z6 l ([],[])=some s)(hM:M0<=N)(m:PS G N M0 get0 aL aO l.length s):SW P 93 MW (PQ M0 get0 l) e ⟨N,G⟩:=by
 obtain⟨cO,u,y⟩:=m.cell;obtain⟨_,_,_,_,A⟩:=id m;have hn:s.2.length<=16:=by have:=A.hn;rwa [Ra,List.length_reverse]at i
 refine SW.seq (SW.seq (SW.regL ?_));have e1:IntKind.i64.wrap (((l.length:Nat):Int)+((s.2.length:Nat):Int))=((l.length+s.2.length:Nat):Int):=by rw[w64s (by omega) (by omega)];omega
 refine Zo.n ⟨_,mv r.t0⟩ rfl rfl rfl ?_;refine Zo.n (lenl rfl rfl rfl rfl) rfl rfl rfl ?_;refine Zo.n ⟨_,Op1.load (.inl r.t5) u rfl rfl k22⟩ rfl rfl rfl ?_;refine Zo.n (lenC (n:=s.2.length) (cO:=cO) y rfl rfl rfl rfl) rfl rfl rfl ?_;refine Zo.n ⟨_,Op1.bin (val:= .v (.c (.p (.at (.int .i64 ((l.length+s.2.length:Nat):Int)))))) (.inl rfl) (.inl rfl) (fun _ _=>by rw[<-e1];rfl)⟩ rfl rfl rfl ?_;refine Zo.n ⟨_,Op1.bin (val:= .v (.c (.p (.at (.bool (decide (1500<l.length+s.2.length))))))) (.inl rfl) (.inl rfl) (fun _ _=>by
  rw[show decide (1500<l.length+s.2.length)=decide (((l.length+s.2.length:Nat):Int)>1500)from uf.2 (by omega)];rfl)⟩ rfl rfl rfl ?_
 refine Zo.end ?_;have hk:=A.hk;refine SW.condB (b:=decide (1500<l.length+s.2.length)) rfl (fun h1=> ?_) (fun h1=> ?_)
 ·refine SW.seq (SW.regL ?_);refine Zo.n ⟨_,Op1.assign _⟩ rfl rfl rfl ?_;refine Zo.n ⟨_,Op1.assign _⟩ rfl rfl rfl ?_;refine Zo.end ?_;refine SW.end_ ?_ (fun _ _ _=>wp_ret);refine PQ.nil rfl rfl hk hM ?_;unfold parS;rw[Ha (by omega),f];simp only;rw[La (Jc h1)]
 ·refine SW.end_ ?_ (fun _ _ _=>wp_skip);have h1: ¬1500<l.length+s.2.length:=of_decide_eq_false h1;refine SW.seq (zEE (s:=s) (b:=l.length) r.t4 r.t5 r.t6 m (by omega) hM fun e' N' get' b' k4 B J=> ?_);obtain⟨idL,RL,cs,L,d⟩:=J;simp only[List.reverse_nil,ic,Kc]at d;obtain⟨z,c,rfl⟩:=last_of d.hcl;have hcl:z=[]:=by have:=d.hcl;rw[Ba]at i;exact Ye.1 (by simpa using i)
  subst hcl;have hr:=d.hrow 0 c rfl;have hl:=d.hlst 0 c _ rfl rfl;refine SW.seq (SW.regL ?_);refine Zo.n ⟨_,Op1.load (.inl k4) d.hL rfl rfl k52⟩ rfl rfl rfl ?_;refine Zo.n ⟨_,Op1.idxL (j:=0) (.inl rfl) (.inl rfl) d.hI k52 c23 rfl (by decide) (Dc 0)⟩ rfl rfl rfl ?_;refine Zo.n ⟨_,Op1.load (cs:=[c]) (.inl rfl) d.hI hr rfl k23⟩ rfl rfl rfl ?_;refine Zo.n ⟨_,Op1.assign _⟩ rfl rfl rfl ?_;refine Zo.n ⟨_,Op1.assign _⟩ rfl rfl rfl ?_;refine Zo.end ?_;refine SW.end_ ?_ (fun _ _ _=>wp_ret);refine⟨rfl,c,shutAll s.1 s.2,0,rfl,rfl,hl,d.hk,fun id hid=>(d.href c (by simp) id hid).1,B,?_⟩;unfold parS;rw[Ha (by omega),f];simp only;rw[Ha h1]
theorem tZ{get:Get}:SW P 93 (match Tryz.f16.body with|some c=>c|none=> .skip) (PQ M0 get l) [(0, .v (.c (.p (.sl (l.map Io)))))] ⟨M0,get⟩:=by
 refine SW.seq (SW.regL ?_);refine Zo.n ⟨_,Op1.assign _⟩ rfl rfl rfl ?_;refine Zo.n ⟨_,Op1.assign _⟩ rfl rfl rfl ?_;refine Zo.end ?_;refine SW.seq (SW.seq (SW.regL ?_));refine Zo.n ⟨_,Op1.move _⟩ rfl rfl rfl ?_;refine Zo.n (lenl rfl rfl rfl rfl) rfl rfl rfl ?_;refine Zo.n ⟨_,Op1.bin (val:= .v (.c (.p (.at (.bool (decide (1500<l.length))))))) (.inl rfl) (.inl rfl) (fun _ _=>by
  rw[show decide (1500<l.length)=decide (((l.length:Nat):Int)>1500)from uf.2 (by omega)];rfl)⟩ rfl rfl rfl ?_
 refine Zo.end ?_;refine SW.condB (b:=decide (1500<l.length)) rfl (fun h1=> ?_) (fun h1=> ?_)
 ·refine SW.seq (SW.regL ?_);refine Zo.n ⟨_,Op1.assign _⟩ rfl rfl rfl ?_;refine Zo.n ⟨_,Op1.assign _⟩ rfl rfl rfl ?_;refine Zo.end ?_;refine SW.end_ ?_ (fun _ _ _=>wp_ret);refine PQ.nil rfl rfl (fun _ _=>rfl) (Va _) ?_;unfold parS;rw[La (Jc h1)]
 ·refine SW.end_ ?_ (fun _ _ _=>wp_skip);have h1: ¬1500<l.length:=of_decide_eq_false h1;refine SW.seq (SW.regL ?_);refine Zo.n (mk1 rfl rfl) rfl rfl rfl ?_;refine Zo.n ⟨_,Op1.alloc (z:=[nilC]) (by rw[z52];rfl) c52 o52⟩ rfl rfl rfl ?_;refine Zo.n ⟨_,Op1.alloc (z:=[nilC]) (by rw[z22];rfl) c22 o22⟩ rfl rfl rfl ?_;refine Zo.n0 ⟨_,Op1.storeX (cs:=[nilC]) (.inl rfl) (.inl rfl) (upK upS (Nb (Dc _))) rfl k52 c52 rfl rfl rfl⟩ rfl rfl ?_;refine Zo.n0 ⟨_,Op1.storeX (cs:=[nilC]) (.inl rfl) (.inl rfl) (upK upS (Nat.ne_of_gt (Dc _))) rfl k22 c22 rfl rfl rfl⟩ rfl rfl ?_;refine Zo.end ?_;refine SW.seq (SW.regL ?_);refine Zo.n (mkf (aL:=M0+1) (aO:=M0+2) rfl rfl) rfl rfl rfl ?_;refine Zo.n ⟨_,Op1.assign _⟩ rfl rfl rfl ?_;refine Zo.end ?_;refine SW.seq (SW.seq (SW.regL ?_));refine Zo.n ⟨_,Op1.move _⟩ rfl rfl rfl ?_;refine Zo.n (lenl rfl rfl rfl rfl) rfl rfl rfl ?_;refine Zo.n ⟨_,Op1.move _⟩ rfl rfl rfl ?_;refine Zo.end ?_;refine zED (aL:=M0+1) (aO:=M0+2) (N:=M0+3) (by omega) ⟨rfl,rfl,rfl,rfl,rfl,rfl,rfl⟩ ?_ (Sd _ _) (fun e' N' get' s y hr hM A=>U1 (by omega) y hr hM A) (fun hn e' B J L O U=>PQ.nil J L O U (by unfold parS;rw[Ha h1,hn]));refine⟨M0,[[nilC]],[nilC],nilC,⟨?_,?_,rfl,rfl,fun i c hi=> ?_,fun i row hi f=> ?_,fun i c v hi hv=> ?_,fun i j c d m hi V=> ?_,?_, .inl ⟨rfl,rfl⟩,Pb _,fun v hv=> ?_,fun id hid=> ?_,⟨by omega,by omega,by omega,by omega,by omega,by omega⟩,fun c hc id hid=> ?_⟩⟩
  ·exact upK upS (show M0+1≠M0+2 by omega)
  ·exact upK (upK (upK (upK upS (show M0≠M0+1 by omega)) (show M0≠M0+2 by omega)) (show M0≠M0+1 by omega)) (show M0≠M0+2 by omega)
  ·rcases i with _|i
   ·cases hi;rfl
   ·cases hi
  ·rcases i with _|i
   ·exact absurd f (Nat.lt_irrefl 0)
   ·cases hi
  ·rcases i with _|i
   ·cases hi;cases hv;exact .inl ⟨rfl,rfl⟩
   ·cases hi
  ·rcases i with _|i
   ·rcases j with _|j
    ·exact absurd rfl m
    ·cases V
   ·cases hi
  ·exact upS
  ·rw[Sa.1 hv];exact Va _
  ·have n0:id≠M0:=by omega
   have r:id≠M0+1:=by omega
   have u:id≠M0+2:=by omega
   exact upK (upK (upK (upK (upK rfl n0) r) u) r) u
  ·rw[Sa.1 hc]at hid;cases hid
end
end Go.Lv.Par

namespace Go.Lv
open Go.Proofs Go.Lv.VT
set_option maxRecDepth 100000
theorem Par.endSub{e:Env}{g:Get}{N:Nat}{c:CV}{v:List zg}{d:Int}(h2:look e 2= .v (.c c))(h3:look e 3= .v (.c (.p (.at (.int .i64 d)))))(hl:Par.Lst g c v):
  Sub 93 e ⟨N,g⟩ [(2, .v (.c (.p (.sl (v.map zG))))),(3, .v (.c (.p (.at (.int .i64 d)))))] ⟨N,fun id=>if id∈zJ c then none else g id⟩:=by
 refine recast (Z:=fun _=>False) (Va _) (fun z f=>f.elim) (fun id o2 ho _=> ?_) (fun t=> ?_)
 ·replace ho:(if id∈zJ c then none else g id)=some o2:=ho;by_cases h:id∈zJ c
  ·rw[La h]at ho;cases ho
  ·rw[Ha h]at ho;exact⟨o2,ho,RcO.refl o2⟩
 ·by_cases e2:t=2
  ·subst e2;rw[h2];exact .v _ _ (.c _ _ (.inr ⟨_,rfl,Par.EX hl fun id hid=>La hid⟩))
  ·by_cases e3:t=3
   ·subst e3;rw[h3];exact .v _ _ (.c _ _ (RcC.refl _))
   ·rw[Par.Uh e2,Par.Uh e3];exact .any _
theorem K5:zn Tryz.prog (⟨16,⟨[.sl 44],[]⟩,[],⟨[.sl 49, .int .i64],[]⟩,0,VT.parseF⟩:Con VT.I)where
 wf:=rfl
 ok:=fun x y r ρ nx _ _ u=>by
  cases r;refine NT (P:=Tryz.prog) (fn:=Tryz.f16) (c:=match Tryz.f16.body with|some c=>c|none=> .skip) (rs:=[.tmp 2, .tmp 3]) (nt:=93) Tryz.func16 rfl rfl rfl (by kernel_rfl) (Rc rfl) fun get M hM f _=> ?_;refine SW.post (Par.tZ (M0:=M) (l:=x)) fun B e lh z=> ?_;obtain⟨rfl,c,v,d,h2,h3,hl,hk,hr,hn,hp⟩:=z;refine⟨_,_,Par.endSub h2 h3 hl, .inr rfl,[],[.c (.p (.sl (v.map zG))), .c (.p (.at (.int .i64 d)))],rfl,Ue,(fun i hi=>by cases hi),⟨⟨True,rfl,trivial⟩,⟨True,rfl,trivial⟩,trivial⟩,fun t ht id hid=> ?_,?_,fun j A=>absurd A (Og j),fun id o1 ho=> ?_⟩
  ·rcases ma.1 ht with rfl|ht
   ·cases hid
   ·rw[Sa.1 ht]at hid;cases hid
  ·show valOf _=valOf _;rw[show parS x=(v,d)from hp];rfl
  ·replace ho:get id=some o1:=ho;have m:=(f id o1 ho).1;refine .inr ⟨o1,o1,ho,?_, .inl ⟨rfl,rfl⟩⟩;show(if id∈zJ c then none else lh.get id)=some o1;rw[Ha (fun h=>Nat.lt_irrefl _ (Mc m (hr id h))),hk id m];exact ho
theorem O5{I:Ip}:zn Proofs.Tryz.prog (⟨99,⟨[.str],[]⟩,[],⟨[.str, .int .i64],[]⟩,0,ul⟩:Con I):=O9
end Go.Lv
end
