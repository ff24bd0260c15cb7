/- nest.Parse, walked on logical values: types, small facts. -/
import Derived.Test.YtcdeccnjlkkejaaGreatDoorLf
import Derived.Test.YtcdeccnjlkkejaaGreatDoorIp
import Derived.Test.YtcdeccnjlkkejaaGreatDoorTy
import Derived.Test.YtcdeccnjlkkejaaGreatDoorTx
import Derived.Test.YtcdeccnjlkkejaaGreatDoorGa
import Derived.Test.YtcdeccnjlkkejaaGreatDoorCd
noncomputable section
set_option linter.unusedSimpArgs false
set_option linter.unusedVariables false
namespace Go.Lv.Par
open Go.Proofs Go.Lv.VT
set_option maxRecDepth 100000
abbrev P:=Tryz.prog
theorem k22:kdOf P 22= .sl 44:=by kernel_rfl
theorem k23:kdOf P 23= .sl 49:=by kernel_rfl
theorem k52:kdOf P 52= .sl 23:=by kernel_rfl
theorem k44:kdOf P 44= .st [(0,5),(1,9),(2,2),(3,9),(4,4)]:=by kernel_rfl
theorem k49:kdOf P 49= .st [(0,44),(5,23)]:=by kernel_rfl
theorem k5:kdOf P 5= .int .u8:=by kernel_rfl
theorem k4:kdOf P 4= .bool:=by kernel_rfl
theorem c22:P.cellsOf 22=1:=by kernel_rfl
theorem c23:P.cellsOf 23=1:=by kernel_rfl
theorem c52:P.cellsOf 52=1:=by kernel_rfl
theorem c44:P.cellsOf 44=5:=by kernel_rfl
theorem c49:P.cellsOf 49=6:=by kernel_rfl
theorem c5:P.cellsOf 5=1:=by kernel_rfl
theorem c4:P.cellsOf 4=1:=by kernel_rfl
theorem z22:(ti P 22).zero=[.slice none 0 0]:=by kernel_rfl
theorem aK:(ti P 23).zero=[.slice none 0 0]:=by kernel_rfl
theorem z52:(ti P 52).zero=[.slice none 0 0]:=by kernel_rfl
theorem YK:(ti P 44).zero=[.int .u8 0, .string ⟨#[]⟩, .int .i64 0, .string ⟨#[]⟩, .bool false]:=by kernel_rfl
theorem Nj:(ti P 49).zero=[.int .u8 0, .string ⟨#[]⟩, .int .i64 0, .string ⟨#[]⟩, .bool false, .slice none 0 0]:=by kernel_rfl
theorem z4:(ti P 4).zero=[.bool false]:=by kernel_rfl
theorem o22:(ti P 22).zok=true:=by kernel_rfl
theorem o23:(ti P 23).zok=true:=by kernel_rfl
theorem o52:(ti P 52).zok=true:=by kernel_rfl
theorem o44:(ti P 44).zok=true:=by kernel_rfl
theorem o49:(ti P 49).zok=true:=by kernel_rfl
theorem o4:(ti P 4).zok=true:=by kernel_rfl
theorem b49:(ti P 49).by_=80:=by kernel_rfl
theorem b44:(ti P 44).by_=56:=by kernel_rfl
theorem b23:(ti P 23).by_=24:=by kernel_rfl
def tkC(t:zb):List CV:=(Xm t).map .p
def vlC(v:zg):List CV:=(zD v).map .p
theorem oz(t:zb)(l:List zg):vlC ⟨t,l⟩=tkC t++[.p (.sl (l.map zD))]:=by unfold vlC;rw[BS];rfl
theorem Yv(t:zb):(tkC t).length=5:=rfl
theorem dK(v:zg):(vlC v).length=6:=by obtain⟨t,l⟩:=v;rw[oz];rfl
abbrev nilC:CV:= .p (.at (.slice none 0 0))
section
variable {E:Operand->LV} {get:Get} {nx:Nat}
theorem bld2{x y:Operand}{xs:List CV}{c:CV}(hx:E x= .v (.agg xs))(hl:xs.length=5)(hy:E y= .v (.c c)):Op1 P E get nx (.build 49 #[(0,x),(1,y)]) (.v (.agg (xs++[c]))) [] [] 0:=by
 refine⟨True/\(ti P 49).zok=true/\ ∀f∈([(0,44),(5,23)]:List (Nat×TypeId)),kdOf P f.2≠ .bad,?_,⟨trivial,o49,fun f hf=> ?_⟩,rfl⟩
 ·match xs,hl with
  |[a1,a2,a3,a4,a5],_=> simp only[opR,Sj,Gh,hx,hy,k49,TV.cells,Nj];simp only[Fh,Hd,List.getElem?_cons_succ,Pb,c44,c23];rfl
 ·rcases Ab.1 hf with rfl|hf
  ·rw[k44];simp
  ·rcases Ab.1 hf with rfl|hf
   ·rw[k23];simp
   ·cases hf
theorem bld1{x:Operand}{xs:List CV}(hx:E x= .v (.agg xs))(hl:xs.length=5):Op1 P E get nx (.build 49 #[(0,x)]) (.v (.agg (xs++[nilC]))) [] [] 0:=by
 refine⟨True/\(ti P 49).zok=true/\ ∀f∈([(0,44),(5,23)]:List (Nat×TypeId)),kdOf P f.2≠ .bad,?_,⟨trivial,o49,fun f hf=> ?_⟩,rfl⟩
 ·match xs,hl with
  |[a1,a2,a3,a4,a5],_=> simp only[opR,Sj,Gh,hx,k49,TV.cells,Nj];simp only[Fh,Hd,Pb,c44];rfl
 ·rcases Ab.1 hf with rfl|hf
  ·rw[k44];simp
  ·rcases Ab.1 hf with rfl|hf
   ·rw[k23];simp
   ·cases hf
end
theorem Vy(k:Int):Z8 k=some (zo k):=by
 unfold Z8 zo;by_cases h1:k=19
 ·subst h1;rfl
 by_cases h2:k=21
 ·subst h2;rfl
 by_cases h3:k=2
 ·subst h3;rfl
 by_cases h4:k=23
 ·subst h4;rfl
 have e1:(k==19)=false:=Fa.2 h1;have e2:(k==21)=false:=Fa.2 h2;have e3:(k==2)=false:=Fa.2 h3;have e4:(k==23)=false:=Fa.2 h4;simp only[e1,e2,e3,e4,Ha,zh,h1,h2,h3,h4,Ce,or_self]
theorem okC{con:Con I}{A:Env0 I}{exS:StSh}(f:Go.Func)(hS: ∀c∈A.S,zn Tryz.prog c)(hf:Tryz.prog.funcs[con.f]? =some f)(h:chk con A f=true)(he: ∀x,evF2 A T FK f.ntmps (rsl f) (body f) con exS x=con.F x):zn Tryz.prog con:=
 okC0 mixed ipOK tok rfl rfl hS hf h he
def Q9(F:Int->Option Int):Con I:=⟨61,⟨[.int .u8],[]⟩,[],⟨[.int .u8],[]⟩,0,F⟩
theorem Uy:zn Tryz.prog (Q9 Z8):=
 okC (A:=⟨[],[],[],0,[],[(7,⟨[6],⟨[.bool],[]⟩,[0],[],[],0,[],⟨[],[]⟩,[]⟩)],[]⟩) (exS:=⟨[.int .u8],[]⟩) Tryz.f61 zJ (by kernel_rfl) (by kernel_rfl) fun x=>by kernel_rfl
theorem dQ(k:Int)(nx:Nat):zc8 P 61 [.c (.p (.at (.int .u8 k)))] [] nx 0 (.v (.c (.p (.at (.int .u8 (zo k)))))) []:=
 Uy.ok (k:Int) (zo k:Int) (Vy k) (fun i=>nx+i) nx (fun i j h=>absurd h (Rf _)) (fun i h=>absurd h (Rf _)) (fun j=>congrArg (nx+ ·) (Te j))
theorem w64s{n:Int}(a: -9223372036854775808<=n)(h2:n<=9223372036854775807):IntKind.i64.wrap n=n:=xk a h2
def z6:List CV:=[.p (.at (.int .u8 0)), .p (.str []), .p (.at (.int .i64 0)), .p (.str []), .p (.at (.bool false)),nilC]
theorem zEn:Tf (ti P 49).zero=z6:=by rw[Nj];rfl
section
variable {aO aL idO idL k M:Nat} {RL RO:List (List CV)} {o:zb} {c1:CV} {v1 v2:List zg} {g:Get} {Q:Post}
theorem XX (J:k<=16) (f:g aL=some ⟨52,1,[[.osl idL 0 (k+2)]],none⟩) (d:g aO=some ⟨22,1,[[.osl idO 0 (k+1)]],none⟩) (b:g idL=some ⟨23,1,RL,none⟩) (a:g idO=some ⟨44,5,RO,none⟩)
  (r:RL[k+1]? =some [.p (.sl (v2.map zD))]) (q:RO[k]? =some (tkC o)) (A:aL<M/\aO<M/\idL<M/\idO<M) {c:Code}
  (h: ∀e,look e 0= .v (.c (.optr aO 0 0))->look e 1= .v (.c (.optr aL 0 0))->look e 2= .v (.c (.p (.at (.int .i64 k))))->look e 3= .v (.c (.optr M 0 0))->
   SW P 46 c Q e ⟨M+1,upd (upd (upd (upd g [(M,some ⟨49,6,[z6],none⟩)]) [(M,some ⟨49,6,[vlC ⟨o,v2⟩],none⟩)]) [(aL,some ⟨52,1,[[.osl idL 0 (k+1)]],none⟩)]) [(aO,some ⟨22,1,[[.osl idO 0 k]],none⟩)]⟩):
  SW P 46 (match Tryz.f60.body with|some (.seq r0 (.seq r1 (.seq r2 _)))=> .seq r0 (.seq r1 (.seq r2 c))|_=> .skip) Q [(0, .v (.c (.optr aO 0 0))),(1, .v (.c (.optr aL 0 0)))] ⟨M,g⟩:=by
 have z:aO≠aL:=at1 d f rfl;have L:aO≠idO:=at1 d a rfl;have H:aO≠idL:=at1 d b rfl;have E:aL≠idO:=at1 f a rfl;have N:aL≠idL:=at1 f b rfl;have G:idO≠idL:=at1 a b rfl;obtain⟨C,D,y,B⟩:=A;have j:=Db C;have m:=Db D;have u:=Db y;have t:=Db B;have w:IntKind.i64.wrap (((k+1:Nat):Int) - 1)=(k:Int):=by rw[w64s (by omega) (by omega)];omega
 have s:IntKind.i64.wrap ((k:Int)+1)=((k+1:Nat):Int):=by rw[w64s (by omega) (by omega)];omega
 have K:k+1<RL.length:=(Da.1 r).1;have F:k<RO.length:=(Da.1 q).1;refine SW.seq (SW.reg (fun|0=>aO|1=>idO|n=>M+n) [([0],[]),([1],[]),([],[]),([],[])] ?_);refine Walk.n (Op1.load (.inl rfl) d rfl rfl k22) rfl rfl rfl rfl rfl ?_;refine Walk.n (Op1.lenO rfl rfl rfl (.inl rfl) a k22) rfl rfl rfl rfl rfl ?_;refine Walk.n (Op1.bin (val:= .v (.c (.p (.at (.int .i64 k))))) (.inl rfl) (.inl rfl) (fun _ _=>by rw[<-w];rfl)) rfl rfl rfl rfl rfl ?_;refine Walk.n (Op1.assign _) rfl rfl rfl rfl rfl ?_;refine Walk.end ?_;refine SW.seq (SW.regD mixed (fun i=>[aO,aL,idO,idL,M].getD i 0) 5 [([0],[]),([],[]),([2],[]),([2],[]),([1],[]),([],[]),([],[]),([3],[]),([3],[]),([],[]),([],[4]),([4],[4])] (by decide)
  (Mi (l:=[aO,aL,idO,idL,M]) (by grind)) (by kernel_rfl) (by kernel_rfl) ?_)
 refine Walk.n (Op1.load (.inl rfl) d rfl rfl k22) rfl rfl rfl rfl rfl ?_;refine Walk.n (Op1.move _) rfl rfl rfl rfl rfl ?_;refine Walk.n (Op1.idxO (.inl rfl) (.inl rfl) a k22 c44 rfl (by decide) ⟨by omega,by omega⟩) rfl rfl rfl rfl rfl ?_;refine Walk.n (Op1.loadA (cs:=tkC o) (.inl rfl) a (by grind) k44 c44 (by rw[Yv];omega)) rfl rfl rfl rfl rfl ?_;refine Walk.n (Op1.load (.inl rfl) f rfl rfl k52) rfl rfl rfl rfl rfl ?_;refine Walk.n (Op1.move _) rfl rfl rfl rfl rfl ?_;refine Walk.n (Op1.bin (val:= .v (.c (.p (.at (.int .i64 ((k+1:Nat):Int)))))) (.inl rfl) (.inl rfl) (fun _ _=>by rw[<-s];rfl)) rfl rfl rfl rfl rfl ?_;refine Walk.n (Op1.idxO (.inl rfl) (.inl rfl) b k52 c23 rfl (by decide) ⟨by omega,by omega⟩) rfl rfl rfl rfl rfl ?_;refine Walk.n (Op1.load (cs:=[.p (.sl (v2.map zD))]) (.inl rfl) b (by grind) rfl k23) rfl rfl rfl rfl rfl ?_;refine Walk.n (bld2 (xs:=tkC o) rfl rfl rfl) rfl rfl rfl rfl rfl ?_;refine Walk.n (Op1.alloc zEn c49 o49) rfl rfl rfl rfl rfl ?_;refine Walk.n0 (Op1.store (cs:=z6) (.inl rfl) (.inl rfl) upS rfl k49 c49 rfl (Ya 6)) rfl rfl rfl rfl ?_;refine Walk.end ?_;refine SW.seq (SW.regD mixed (fun i=>[aO,aL,idO,idL].getD i 0) 4 [([1],[]),([],[]),([],[]),([3],[]),([0],[]),([],[]),([2],[]),([1],[1]),([0],[0])] (by decide)
  (Mi (l:=[aO,aL,idO,idL]) (by grind)) (by kernel_rfl) (by kernel_rfl) ?_)
 refine Walk.n (Op1.load (.inl rfl) (upK (upK f j) j) rfl rfl k52) rfl rfl rfl rfl rfl ?_;refine Walk.n (Op1.move _) rfl rfl rfl rfl rfl ?_;refine Walk.n (Op1.bin (val:= .v (.c (.p (.at (.int .i64 ((k+1:Nat):Int)))))) (.inl rfl) (.inl rfl) (fun _ _=>by rw[<-s];rfl)) rfl rfl rfl rfl rfl ?_;refine Walk.n (Op1.cutO rfl rfl (upK (upK b u) u) k52 c23 (by decide) rfl ⟨by omega,by omega⟩) rfl rfl rfl rfl rfl ?_;refine Walk.n (Op1.load (.inl rfl) (upK (upK d m) m) rfl rfl k22) rfl rfl rfl rfl rfl ?_;refine Walk.n (Op1.move _) rfl rfl rfl rfl rfl ?_;refine Walk.n (Op1.cutO rfl rfl (upK (upK a t) t) k22 c44 (by decide) rfl ⟨by omega,by omega⟩) rfl rfl rfl rfl rfl ?_;refine Walk.n0 (Op1.store (.inl rfl) (.inl rfl) (upK (upK f j) j) rfl k52 c52 rfl (Ya 1)) rfl rfl rfl rfl ?_;refine Walk.n0 (Op1.store (.inl rfl) (.inl rfl) (upK (upK (upK d m) m) z) rfl k22 c22 rfl (Ya 1)) rfl rfl rfl rfl ?_;refine Walk.end ?_;have x:vlC ⟨o,v2⟩=z6.take 0++(tkC o++[.p (.sl (v2.map zD))])++z6.drop (0+6):=by rw[oz];rfl
 revert h;rw[x];intro h;exact h _ rfl rfl rfl rfl
end
theorem SW.condB{nt:Nat}{c:Operand}{x y:Code}{Q:Post}{e:Env}{lh:LH}{b:Bool}(hc:opd e c= .v (.c (.p (.at (.bool b)))))(h1:b=true->SW P nt x Q e lh)(h2:b=false->SW P nt y Q e lh):SW P nt (.cond c x y) Q e lh:=
 SW.cond (b:=b) (fun ι a w hE=>by have:=zZ hE c;rw[hc]at this;exact Ox (t:= .c (.p (.at (.bool b)))) rfl this) h1 h2
def Lst(g:Get)(c:CV)(v:List zg):Prop:=(c=nilC/\v=[])\/ ∃id,c= .osl id 0 v.length/\g id=some ⟨49,6,v.map vlC,none⟩
section
variable {aL idL k M N:Nat} {RL:List (List CV)} {x:zg} {c1:CV} {v1:List zg} {G:Get} {Q:Post} {e:Env}
theorem opN'{nt:Nat}{ops:List Oper}{o:Oper}{s:TS}{val:LV}{rd:List Nat}{up:List (Nat×Option OB)}{k n:Nat}(h:Op1 P (opd s.e) s.get s.next o.op val rd up k)(b:o.guard=none)(c: ∀d,o.dst=some d->d<nt)(a:n=s.next):
  OpOK P nt ops o ⟨none,val,up,rd,n,k⟩ s:=by subst a;exact opN h b c
theorem stN{o:Oper}{val:LV}{up:List (Nat×Option OB)}{rd:List Nat}{nx k:Nat}{e:Env}{g:Get}{n:Nat}(h:o.dst=none):Ze o ⟨none,val,up,rd,nx,k⟩ ⟨e,g,n⟩=⟨e,upd g up,n+k⟩:=by unfold Ze;rw[h];rfl
theorem stS{o:Oper}{d:Nat}{val:LV}{up:List (Nat×Option OB)}{rd:List Nat}{nx k:Nat}{e:Env}{g:Get}{n:Nat}(h:o.dst=some d):Ze o ⟨none,val,up,rd,nx,k⟩ ⟨e,g,n⟩=⟨(d,val)::e,upd g up,n+k⟩:=by unfold Ze;rw[h];rfl
theorem anyR {tb tl:Nat} {o0 o1 o2 o3:Oper} {id nt:Nat} {Q:Post} {e:Env} {G:Get} {N:Nat} (d0:direct o0=[]) (d1:direct o1=[0]) (d2:direct o2=[0]) (d3:direct o3=[0,0,1,2])
  (p0:o0.op= .alloc 4/\o0.dst=some tb/\o0.guard=none) (p1:o1.op= .store 4 (.tmp tb) (.const (.bool true))/\o1.dst=none/\o1.guard=none) (p2:o2.op= .store 4 (.tmp tb) (.const (.bool false))/\o2.dst=none/\o2.guard=none)
  (p3:o3.op= .load 4 (.tmp tb)/\o3.dst=some tl/\o3.guard=none) (hb:tb<nt/\tl<nt)
  (h: ∀(b:Bool) (get':Get),(∀i,i<N->get' i=G i)->Q .normal ((tl, .v (.c (.p (.at (.bool b)))))::(tb, .v (.c (.optr N 0 0)))::e) ⟨N+1,get'⟩):SW P nt (.region id #[o0,o1,o2,o3] true) Q e ⟨N,G⟩:=by
 obtain⟨p00,p01,p02⟩:=p0;obtain⟨p10,p11,p12⟩:=p1;obtain⟨p20,p21,p22⟩:=p2;obtain⟨p30,p31,p32⟩:=p3;have ha: ∀(E:Operand->LV) (g:Get) (n:Nat),Op1 P E g n o0.op (.v (.c (.optr n 0 0))) [] [(n,some ⟨4,1,[[.p (.at (.bool false))]],none⟩)] 1:=fun E g n=>by rw[p00];exact Op1.alloc (by rw[z4];rfl) c4 o4
 have hst: ∀(b:Bool) (E:Operand->LV) (g:Get) (n:Nat) (r:List CV),E (.tmp tb)= .v (.c (.optr N 0 0))->E (.const (.bool b))= .v (.c (.p (.at (.bool b))))->r.length=1->g N=some ⟨4,1,[r],none⟩->Op1 P E g n (.store 4 (.tmp tb) (.const (.bool b))) .any [N] [(N,some ⟨4,1,[[.p (.at (.bool b))]],none⟩)] 0:=fun b E g n r h1 h2 hr h3=>by
  have:=Op1.store (P:=P) (nx:=n) (t:=4) (cs:=r) (n:=1) (.inl h1) (.inl h2) h3 rfl k4 c4 rfl (by omega)
  match r,hr with
  |[r0],_=>exact this
 have hld: ∀(b:Bool) (E:Operand->LV) (g:Get) (n:Nat),E (.tmp tb)= .v (.c (.optr N 0 0))->g N=some ⟨4,1,[[.p (.at (.bool b))]],none⟩->Op1 P E g n o3.op (.v (.c (.p (.at (.bool b))))) [N] [] 0:=fun b E g n h1 h3=>by rw[p30];exact Op1.load (.inl h1) h3 rfl rfl k4
 have dN: ∀{o:Oper},o.dst=none-> ∀d,o.dst=some d->d<nt:=fun h d hd=>by grind
 have dS: ∀{o:Oper} {t:Nat},o.dst=some t->t<nt-> ∀d,o.dst=some d->d<nt:=fun h ht d hd=>by grind
 have lk0:look ((tb, .v (.c (.optr N 0 0)))::e) tb= .v (.c (.optr N 0 0)):=La rfl;refine SW.anyBool mixed d0 d1 d2 d3 (lh:=⟨N,G⟩) (opN (ha _ _ _) p02 (dS p01 hb.1))
  (r1:=⟨none, .any,[(N,some ⟨4,1,[[.p (.at (.bool true))]],none⟩)],[N],N+1,0⟩) (r2:=⟨none, .any,[(N,some ⟨4,1,[[.p (.at (.bool false))]],none⟩)],[N],N+1,0⟩) (r3:=⟨none, .v (.c (.p (.at (.bool false)))),[],[N],N+1,0⟩)
  (r2':=⟨none, .any,[(N,some ⟨4,1,[[.p (.at (.bool false))]],none⟩)],[N],N+1,0⟩) (r1':=⟨none, .any,[(N,some ⟨4,1,[[.p (.at (.bool true))]],none⟩)],[N],N+1,0⟩) (r3':=⟨none, .v (.c (.p (.at (.bool true)))),[],[N],N+1,0⟩) ?_ ?_ ?_ ?_ ?_ ?_ ?_ ?_
 all_goals rw[stS p01]
 ·(refine opN' ?_ p12 (dN p11) rfl;rw[p10];exact hst true _ _ _ _ lk0 rfl rfl upS)
 ·rw[stN p11]
  (refine opN' ?_ p22 (dN p21) rfl;rw[p20];exact hst false _ _ _ _ lk0 rfl rfl upS)
 ·rw[stN p11,stN p21]
  (refine opN' ?_ p32 (dS p31 hb.2) rfl;exact hld false _ _ _ lk0 upS)
 ·(refine opN' ?_ p22 (dN p21) rfl;rw[p20];exact hst false _ _ _ _ lk0 rfl rfl upS)
 ·rw[stN p21]
  (refine opN' ?_ p12 (dN p11) rfl;rw[p10];exact hst true _ _ _ _ lk0 rfl rfl upS)
 ·rw[stN p21,stN p11]
  (refine opN' ?_ p32 (dS p31 hb.2) rfl;exact hld true _ _ _ lk0 upS)
 ·rw[stN p11,stN p21,stS p31];exact h false _ fun i hi=>upK (upK (upK rfl (Db hi)) (Db hi)) (Db hi)
 ·rw[stN p21,stN p11,stS p31];exact h true _ fun i hi=>upK (upK (upK rfl (Db hi)) (Db hi)) (Db hi)
end
theorem Ug{t j:Nat}{x:LV}{e:Env}(h:t≠j):look ((j,x)::e) t=look e t:=Ga h
theorem KE{e:Env}:opd e (.const (.agg #[.int .u8 0, .string ⟨#[]⟩, .int .i64 0, .string ⟨#[]⟩, .bool false, .slice none 0 0]))= .v (.agg z6):=by simp only[opd,ll];rw[La (by decide+kernel)];rfl
theorem YL(v:List zg)(x y:List CV):(v.map vlC++[x]).set v.length y=v.map vlC++[y]:=by simp_all
theorem KM(v:List zg)(x:List CV):(v.map vlC++[x])[v.length]? =some x:=by
 grind
theorem V6 {aL idL src k N:Nat} {RL:List (List CV)} {G:Get} {Q:Post} {e:Env} {xc:List CV}
  (r:look e 1= .v (.c (.optr aL 0 0))) (hi:look e 2= .v (.c (.p (.at (.int .i64 k))))) (s:look e 3= .v (.c (.optr src 0 0))) (q:G aL=some ⟨52,1,[[.osl idL 0 (k+1)]],none⟩) (a:G idL=some ⟨23,1,RL,none⟩) (d:RL[k]? =some [nilC])
  (x:G src=some ⟨49,6,[xc],none⟩) (g:xc.length=6) (z:aL<N/\idL<N/\src<N) (y:aL≠idL/\aL≠src/\idL≠src)
  (h: ∀m,(∀t,t<17->look m t=look e t)->Q .normal m ⟨N+2,upd (upd (upd (upd G [(N,some ⟨49,6,[z6],none⟩)]) [(N+1,some ⟨49,6,[z6],none⟩)]) [(idL,some ⟨23,1,RL.set k [.osl (N+1) 0 (1)],none⟩)]) [(N+1,some ⟨49,6,[xc],none⟩)]⟩):
  SW P 46 (match Tryz.f60.body with|some (.seq _ (.seq _ (.seq _ (.seq _ (.cond _ c _)))))=>c|_=> .skip) Q e ⟨N,G⟩:=by
 obtain⟨F,A,E⟩:=z;obtain⟨B,D,C⟩:=y;have f:=Db A;have b:idL≠N+1:=by omega
 have o:N+1≠idL:=by omega
 have w:k<RL.length:=(Da.1 d).1;refine SW.seq (SW.regD mixed (fun i=>[aL,idL,src,N,N+1].getD i 0) 5 [([0],[]),([],[]),([1],[]),([1],[]),([2],[]),([],[]),([],[3]),([3],[4]),([1],[]),([1],[1])] (by decide)
  (Mi (l:=[aL,idL,src,N,N+1]) (by grind)) (by kernel_rfl) (by kernel_rfl) ?_)
 refine Walk.n (Op1.load (.inl r) q rfl rfl k52) rfl rfl rfl rfl rfl ?_;refine Walk.n (Op1.move _) rfl rfl rfl rfl rfl ?_;refine Walk.n (Op1.idxL (.inl rfl) (.inl hi) a k52 c23 rfl (by decide) (Ub k)) rfl rfl rfl rfl rfl ?_;refine Walk.n (Op1.load (cs:=[nilC]) (.inl rfl) a d rfl k23) rfl rfl rfl rfl rfl ?_;refine Walk.n (Op1.loadW (cs:=xc) (.inl s) x rfl k49 c49 g) rfl rfl rfl rfl rfl ?_;refine Walk.n (Op1.lenN rfl rfl rfl (.inl rfl) k23) rfl rfl rfl rfl rfl ?_;refine Walk.n (Op1.bs1 (u:= .agg z6) KE k23 c49 rfl (by rw[Nj];rfl) (by decide) (by decide) o49) rfl rfl rfl rfl rfl ?_;refine Walk.n (Op1.appN (n:=6) (row:=z6) rfl rfl rfl rfl rfl upS rfl rfl k23 k23 c49 (by decide) rfl (by rw[b49];decide) o49) rfl rfl rfl rfl rfl ?_;refine Walk.n (Op1.idxL (.inl rfl) (.inl hi) (upK (upK a f) b) k52 c23 rfl (by decide) (Ub k)) rfl rfl rfl rfl rfl ?_;refine Walk.n0 (Op1.storeX (cs:=[nilC]) (.inl rfl) (.inl rfl) (upK (upK a f) b) d k23 c23 rfl rfl rfl) rfl rfl rfl rfl ?_;refine Walk.end ?_;refine SW.reg (fun _=>N+1) [([0],[]),([0],[0])] ?_;refine Walk.n (Op1.idxL (n:=0+1) (j:=0) (.inl rfl) (.inl rfl) (upK upS o) k23 c49 rfl (by decide) (Ub _)) rfl rfl rfl rfl rfl ?_;refine Walk.n0 (Op1.storeX (cs:=z6) (.inl rfl) (.inl rfl) (upK upS o) rfl k49 c49 rfl g rfl) rfl rfl rfl rfl ?_;refine Walk.end ?_;exact h _ (fun t H=>by simp only[look];repeat rw[Ga (by omega)])
theorem U6 {aL idL src k N:Nat} {RL:List (List CV)} {v1:List zg} {G:Get} {Q:Post} {e:Env} {xc:List CV} {a:Nat}
  (A:look e 1= .v (.c (.optr aL 0 0))) (hi:look e 2= .v (.c (.p (.at (.int .i64 k))))) (D:look e 3= .v (.c (.optr src 0 0))) (y:G aL=some ⟨52,1,[[.osl idL 0 (k+1)]],none⟩) (b:G idL=some ⟨23,1,RL,none⟩) (g:RL[k]? =some [.osl a 0 v1.length])
  (F:G src=some ⟨49,6,[xc],none⟩) (s:xc.length=6) (o:G a=some ⟨49,6,v1.map vlC,none⟩) (T:v1.length<=3000) (J:aL<N/\idL<N/\src<N/\a<N) (H:aL≠idL/\aL≠src/\idL≠src/\aL≠a/\idL≠a/\src≠a)
  (h: ∀w,(∀t,t<17->look w t=look e t)->Q .normal w ⟨N+2,upd (upd (upd (upd G [(N,some ⟨49,6,[z6],none⟩)]) [(a,none),(N+1,some ⟨49,6,v1.map vlC++[z6],none⟩)]) [(idL,some ⟨23,1,RL.set k [.osl (N+1) 0 (v1.length+1)],none⟩)]) [(N+1,some ⟨49,6,v1.map vlC++[xc],none⟩)]⟩):
  SW P 46 (match Tryz.f60.body with|some (.seq _ (.seq _ (.seq _ (.seq _ (.cond _ c _)))))=>c|_=> .skip) Q e ⟨N,G⟩:=by
 obtain⟨V,K,U,C⟩:=J;obtain⟨M,R,O,S,B,L⟩:=H;have z:=Db C;have q:=Db K;have d:idL≠N+1:=by omega
 have x:N+1≠idL:=by omega
 have f:=B;have r:N+1≠a:=by omega
 have E:k<RL.length:=(Da.1 g).1;refine SW.seq (SW.regD mixed (fun i=>[aL,idL,src,a,N,N+1].getD i 0) 6 [([0],[]),([],[]),([1],[]),([1],[]),([2],[]),([3],[]),([],[4]),([3,4],[3,5]),([1],[]),([1],[1])] (by decide)
  (Mi (l:=[aL,idL,src,a,N,N+1]) (by grind)) (by kernel_rfl) (by kernel_rfl) ?_)
 refine Walk.n (Op1.load (.inl A) y rfl rfl k52) rfl rfl rfl rfl rfl ?_;refine Walk.n (Op1.move _) rfl rfl rfl rfl rfl ?_;refine Walk.n (Op1.idxL (.inl rfl) (.inl hi) b k52 c23 rfl (by decide) (Ub k)) rfl rfl rfl rfl rfl ?_;refine Walk.n (Op1.load (cs:=[.osl a 0 v1.length]) (.inl rfl) b g rfl k23) rfl rfl rfl rfl rfl ?_;refine Walk.n (Op1.loadW (cs:=xc) (.inl D) F rfl k49 c49 s) rfl rfl rfl rfl rfl ?_;refine Walk.n (Op1.lenO rfl rfl rfl (.inl rfl) o k23) rfl rfl rfl rfl rfl ?_;refine Walk.n (Op1.bs1 (u:= .agg z6) KE k23 c49 rfl (by rw[Nj];rfl) (by decide) (by decide) o49) rfl rfl rfl rfl rfl ?_;refine Walk.n (Op1.appF (n:=6) (row:=z6) (m:=v1.length) rfl rfl rfl rfl rfl (upK o z) upS rfl rfl k23 k23 c49 (by decide) (Xa ..) rfl (by rw[b49];omega) (by omega) o49) rfl rfl rfl rfl rfl ?_;refine Walk.n (Op1.idxL (.inl rfl) (.inl hi) (upK2 (upK b q) f d) k52 c23 rfl (by decide) (Ub k)) rfl rfl rfl rfl rfl ?_;refine Walk.n0 (Op1.storeX (cs:=[.osl a 0 v1.length]) (.inl rfl) (.inl rfl) (upK2 (upK b q) f d) g k23 c23 rfl rfl rfl) rfl rfl rfl rfl ?_;refine Walk.end ?_;refine SW.reg (fun _=>N+1) [([0],[]),([0],[0])] ?_;refine Walk.n (Op1.idxL (n:=v1.length+1) (j:=v1.length) (.inl rfl) (.inl rfl) (upK (upS2 r) x) k23 c49 rfl (by decide) (Ub _)) rfl rfl rfl rfl rfl ?_;refine Walk.n0 (Op1.storeX (cs:=z6) (.inl rfl) (.inl rfl) (upK (upS2 r) x) (KM _ _) k49 c49 rfl s (YL _ _ _)) rfl rfl rfl rfl ?_;refine Walk.end ?_;exact h _ (fun t W=>by simp only[look];repeat rw[Ga (by omega)])
theorem Y6 {aL idL src k N:Nat} {RL:List (List CV)} {G:Get} {Q:Post} {e:Env} {xc:List CV}
  (m:look e 1= .v (.c (.optr aL 0 0))) (hi:look e 2= .v (.c (.p (.at (.int .i64 k))))) (q:look e 3= .v (.c (.optr src 0 0))) (g:G aL=some ⟨52,1,[[.osl idL 0 (k+1)]],none⟩) (a:G idL=some ⟨23,1,RL,none⟩) (f:RL[k]? =some [nilC])
  (s:G src=some ⟨49,6,[xc],none⟩) (d:xc.length=6) (x:aL<N/\idL<N/\src<N) (w:aL≠idL/\aL≠src/\idL≠src)
  (h: ∀o,(∀t,t<17->look o t=look e t)->Q .normal o ⟨N+2,upd (upd (upd G [(N,some ⟨49,6,[xc],none⟩)]) [(N+1,some ⟨49,6,[xc],none⟩)]) [(idL,some ⟨23,1,RL.set k [.osl (N+1) 0 (1)],none⟩)]⟩):
  SW P 46 (match Tryz.f60.body with|some (.seq _ (.seq _ (.seq _ (.seq _ (.cond _ _ c)))))=>c|_=> .skip) Q e ⟨N,G⟩:=by
 obtain⟨D,y,C⟩:=x;obtain⟨z,B,A⟩:=w;have j:=Db y;have b:idL≠N+1:=by omega
 have E:N+1≠idL:=by omega
 have r:k<RL.length:=(Da.1 f).1;refine SW.regD mixed (fun i=>[aL,idL,src,N,N+1].getD i 0) 5 [([0],[]),([],[]),([0],[]),([],[]),([1],[]),([1],[]),([2],[]),([],[3]),([3],[4]),([1],[]),([1],[1])] (by decide)
  (Mi (l:=[aL,idL,src,N,N+1]) (by grind)) (by kernel_rfl) (by kernel_rfl) ?_
 refine Walk.n (Op1.load (.inl m) g rfl rfl k52) rfl rfl rfl rfl rfl ?_;refine Walk.n (Op1.move _) rfl rfl rfl rfl rfl ?_;refine Walk.n (Op1.load (.inl m) g rfl rfl k52) rfl rfl rfl rfl rfl ?_;refine Walk.n (Op1.move _) rfl rfl rfl rfl rfl ?_;refine Walk.n (Op1.idxL (.inl rfl) (.inl hi) a k52 c23 rfl (by decide) (Ub k)) rfl rfl rfl rfl rfl ?_;refine Walk.n (Op1.load (cs:=[nilC]) (.inl rfl) a f rfl k23) rfl rfl rfl rfl rfl ?_;refine Walk.n (Op1.loadW (cs:=xc) (.inl q) s rfl k49 c49 d) rfl rfl rfl rfl rfl ?_;refine Walk.n (Op1.bs1 (u:= .agg xc) rfl k23 c49 d (by rw[Nj];rfl) (by decide) (by decide) o49) rfl rfl rfl rfl rfl ?_;refine Walk.n (Op1.appN (n:=6) (row:=xc) rfl rfl rfl rfl rfl upS rfl d k23 k23 c49 (by decide) rfl (by rw[b49];decide) o49) rfl rfl rfl rfl rfl ?_;refine Walk.n (Op1.idxL (.inl rfl) (.inl hi) (upK (upK a j) b) k52 c23 rfl (by decide) (Ub k)) rfl rfl rfl rfl rfl ?_;refine Walk.n0 (Op1.storeX (cs:=[nilC]) (.inl rfl) (.inl rfl) (upK (upK a j) b) f k23 c23 rfl rfl rfl) rfl rfl rfl rfl ?_;refine Walk.end ?_;exact h _ (fun t F=>by simp only[look];repeat rw[Ga (by omega)])
theorem X6 {aL idL src k N:Nat} {RL:List (List CV)} {v1:List zg} {G:Get} {Q:Post} {e:Env} {xc:List CV} {a:Nat}
  (r:look e 1= .v (.c (.optr aL 0 0))) (hi:look e 2= .v (.c (.p (.at (.int .i64 k))))) (A:look e 3= .v (.c (.optr src 0 0))) (o:G aL=some ⟨52,1,[[.osl idL 0 (k+1)]],none⟩) (b:G idL=some ⟨23,1,RL,none⟩) (j:RL[k]? =some [.osl a 0 v1.length])
  (C:G src=some ⟨49,6,[xc],none⟩) (g:xc.length=6) (w:G a=some ⟨49,6,v1.map vlC,none⟩) (R:v1.length<=3000) (E:aL<N/\idL<N/\src<N/\a<N) (D:aL≠idL/\aL≠src/\idL≠src/\aL≠a/\idL≠a/\src≠a)
  (h: ∀s,(∀t,t<17->look s t=look e t)->Q .normal s ⟨N+2,upd (upd (upd G [(N,some ⟨49,6,[xc],none⟩)]) [(a,none),(N+1,some ⟨49,6,v1.map vlC++[xc],none⟩)]) [(idL,some ⟨23,1,RL.set k [.osl (N+1) 0 (v1.length+1)],none⟩)]⟩):
  SW P 46 (match Tryz.f60.body with|some (.seq _ (.seq _ (.seq _ (.seq _ (.cond _ _ c)))))=>c|_=> .skip) Q e ⟨N,G⟩:=by
 obtain⟨T,F,S,z⟩:=E;obtain⟨K,M,L,O,y,H⟩:=D;have x:=Db z;have q:=Db F;have d:idL≠N+1:=by omega
 have U:N+1≠idL:=by omega
 have f:=y;have J:N+1≠a:=by omega
 have B:k<RL.length:=(Da.1 j).1;refine SW.regD mixed (fun i=>[aL,idL,src,a,N,N+1].getD i 0) 6 [([0],[]),([],[]),([0],[]),([],[]),([1],[]),([1],[]),([2],[]),([],[4]),([3,4],[3,5]),([1],[]),([1],[1])] (by decide)
  (Mi (l:=[aL,idL,src,a,N,N+1]) (by grind)) (by kernel_rfl) (by kernel_rfl) ?_
 refine Walk.n (Op1.load (.inl r) o rfl rfl k52) rfl rfl rfl rfl rfl ?_;refine Walk.n (Op1.move _) rfl rfl rfl rfl rfl ?_;refine Walk.n (Op1.load (.inl r) o rfl rfl k52) rfl rfl rfl rfl rfl ?_;refine Walk.n (Op1.move _) rfl rfl rfl rfl rfl ?_;refine Walk.n (Op1.idxL (.inl rfl) (.inl hi) b k52 c23 rfl (by decide) (Ub k)) rfl rfl rfl rfl rfl ?_;refine Walk.n (Op1.load (cs:=[.osl a 0 v1.length]) (.inl rfl) b j rfl k23) rfl rfl rfl rfl rfl ?_;refine Walk.n (Op1.loadW (cs:=xc) (.inl A) C rfl k49 c49 g) rfl rfl rfl rfl rfl ?_;refine Walk.n (Op1.bs1 (u:= .agg xc) rfl k23 c49 g (by rw[Nj];rfl) (by decide) (by decide) o49) rfl rfl rfl rfl rfl ?_;refine Walk.n (Op1.appF (n:=6) (row:=xc) (m:=v1.length) rfl rfl rfl rfl rfl (upK w x) upS rfl g k23 k23 c49 (by decide) (Xa ..) rfl (by rw[b49];omega) (by omega) o49) rfl rfl rfl rfl rfl ?_;refine Walk.n (Op1.idxL (.inl rfl) (.inl hi) (upK2 (upK b q) f d) k52 c23 rfl (by decide) (Ub k)) rfl rfl rfl rfl rfl ?_;refine Walk.n0 (Op1.storeX (cs:=[.osl a 0 v1.length]) (.inl rfl) (.inl rfl) (upK2 (upK b q) f d) j k23 c23 rfl rfl rfl) rfl rfl rfl rfl ?_;refine Walk.end ?_;exact h _ (fun t V=>by simp only[look];repeat rw[Ga (by omega)])
theorem Y7 {aL idL src k N:Nat} {RL:List (List CV)} {G:Get} {Q:Post} {e:Env} {tk:zb}
  (q:look e 4= .v (.c (.optr aL 0 0))) (hi:look e 9= .v (.c (.p (.at (.int .i64 k))))) (r:look e 8= .v (.c (.optr src 0 0))) (o:G aL=some ⟨52,1,[[.osl idL 0 (k+1)]],none⟩) (a:G idL=some ⟨23,1,RL,none⟩) (d:RL[k]? =some [nilC])
  (w:G src=some ⟨44,5,[tkC tk],none⟩) (y:aL<N/\idL<N/\src<N) (x:aL≠idL/\aL≠src/\idL≠src)
  (h: ∀g,(∀t,t<23->look g t=look e t)->Q .normal g ⟨N+2,upd (upd (upd (upd G [(N,some ⟨49,6,[z6],none⟩)]) [(N+1,some ⟨49,6,[z6],none⟩)]) [(idL,some ⟨23,1,RL.set k [.osl (N+1) 0 (1)],none⟩)]) [(N+1,some ⟨49,6,[(tkC tk++[nilC])],none⟩)]⟩):
  SW P 93 (match Tryz.f16.body with|some (.seq _ (.seq _ (.seq _ (.seq _ (.seq (.seq _ (.block _ (.loop (.seq _ (.seq _ (.seq (.block _ (.seq _ (.seq _ (.block _ (.seq _ (.cond _ _ (.seq _ (.cond _ _ (.seq _ (.cond _ c _)))))))))) _)))))) _)))))=>c|_=> .skip) Q e ⟨N,G⟩:=by
 obtain⟨E,z,D⟩:=y;obtain⟨A,C,B⟩:=x;have f:=Db z;have b:idL≠N+1:=by omega
 have m:N+1≠idL:=by omega
 have s:k<RL.length:=(Da.1 d).1;refine SW.seq (SW.regD mixed (fun i=>[aL,idL,src,N,N+1].getD i 0) 5 [([0],[]),([],[]),([1],[]),([1],[]),([2],[]),([],[]),([],[]),([],[3]),([3],[4]),([1],[]),([1],[1])] (by decide)
  (Mi (l:=[aL,idL,src,N,N+1]) (by grind)) (by kernel_rfl) (by kernel_rfl) ?_)
 refine Walk.n (Op1.load (.inl q) o rfl rfl k52) rfl rfl rfl rfl rfl ?_;refine Walk.n (Op1.move _) rfl rfl rfl rfl rfl ?_;refine Walk.n (Op1.idxL (.inl rfl) (.inl hi) a k52 c23 rfl (by decide) (Ub k)) rfl rfl rfl rfl rfl ?_;refine Walk.n (Op1.load (cs:=[nilC]) (.inl rfl) a d rfl k23) rfl rfl rfl rfl rfl ?_;refine Walk.n (Op1.loadA (cs:=tkC tk) (.inl r) w rfl k44 c44 (by rw[Yv];omega)) rfl rfl rfl rfl rfl ?_;refine Walk.n (bld1 (xs:=tkC tk) rfl rfl) rfl rfl rfl rfl rfl ?_;refine Walk.n (Op1.lenN rfl rfl rfl (.inl rfl) k23) rfl rfl rfl rfl rfl ?_;refine Walk.n (Op1.bs1 (u:= .agg z6) KE k23 c49 rfl (by rw[Nj];rfl) (by decide) (by decide) o49) rfl rfl rfl rfl rfl ?_;refine Walk.n (Op1.appN (n:=6) (row:=z6) rfl rfl rfl rfl rfl upS rfl rfl k23 k23 c49 (by decide) rfl (by rw[b49];decide) o49) rfl rfl rfl rfl rfl ?_;refine Walk.n (Op1.idxL (.inl rfl) (.inl hi) (upK (upK a f) b) k52 c23 rfl (by decide) (Ub k)) rfl rfl rfl rfl rfl ?_;refine Walk.n0 (Op1.storeX (cs:=[nilC]) (.inl rfl) (.inl rfl) (upK (upK a f) b) d k23 c23 rfl rfl rfl) rfl rfl rfl rfl ?_;refine Walk.end ?_;refine SW.reg (fun _=>N+1) [([0],[]),([0],[0])] ?_;refine Walk.n (Op1.idxL (n:=0+1) (j:=0) (.inl rfl) (.inl rfl) (upK upS m) k23 c49 rfl (by decide) (Ub _)) rfl rfl rfl rfl rfl ?_;refine Walk.n0 (Op1.storeX (cs:=z6) (.inl rfl) (.inl rfl) (upK upS m) rfl k49 c49 rfl rfl rfl) rfl rfl rfl rfl ?_;refine Walk.end ?_;exact h _ (fun t F=>by simp only[look];repeat rw[Ga (by omega)])
theorem X7 {aL idL src k N:Nat} {RL:List (List CV)} {v1:List zg} {G:Get} {Q:Post} {e:Env} {tk:zb} {a:Nat}
  (z:look e 4= .v (.c (.optr aL 0 0))) (hi:look e 9= .v (.c (.p (.at (.int .i64 k))))) (C:look e 8= .v (.c (.optr src 0 0))) (x:G aL=some ⟨52,1,[[.osl idL 0 (k+1)]],none⟩) (b:G idL=some ⟨23,1,RL,none⟩) (g:RL[k]? =some [.osl a 0 v1.length])
  (E:G src=some ⟨44,5,[tkC tk],none⟩) (o:G a=some ⟨49,6,v1.map vlC,none⟩) (S:v1.length<=3000) (H:aL<N/\idL<N/\src<N/\a<N) (F:aL≠idL/\aL≠src/\idL≠src/\aL≠a/\idL≠a/\src≠a)
  (h: ∀s,(∀t,t<23->look s t=look e t)->Q .normal s ⟨N+2,upd (upd (upd (upd G [(N,some ⟨49,6,[z6],none⟩)]) [(a,none),(N+1,some ⟨49,6,v1.map vlC++[z6],none⟩)]) [(idL,some ⟨23,1,RL.set k [.osl (N+1) 0 (v1.length+1)],none⟩)]) [(N+1,some ⟨49,6,v1.map vlC++[(tkC tk++[nilC])],none⟩)]⟩):
  SW P 93 (match Tryz.f16.body with|some (.seq _ (.seq _ (.seq _ (.seq _ (.seq (.seq _ (.block _ (.loop (.seq _ (.seq _ (.seq (.block _ (.seq _ (.seq _ (.block _ (.seq _ (.cond _ _ (.seq _ (.cond _ _ (.seq _ (.cond _ c _)))))))))) _)))))) _)))))=>c|_=> .skip) Q e ⟨N,G⟩:=by
 obtain⟨U,J,T,B⟩:=H;obtain⟨L,O,M,R,A,K⟩:=F;have y:=Db B;have q:=Db J;have d:idL≠N+1:=by omega
 have w:N+1≠idL:=by omega
 have f:=A;have r:N+1≠a:=by omega
 have D:k<RL.length:=(Da.1 g).1;refine SW.seq (SW.regD mixed (fun i=>[aL,idL,src,a,N,N+1].getD i 0) 6 [([0],[]),([],[]),([1],[]),([1],[]),([2],[]),([],[]),([3],[]),([],[4]),([3,4],[3,5]),([1],[]),([1],[1])] (by decide)
  (Mi (l:=[aL,idL,src,a,N,N+1]) (by grind)) (by kernel_rfl) (by kernel_rfl) ?_)
 refine Walk.n (Op1.load (.inl z) x rfl rfl k52) rfl rfl rfl rfl rfl ?_;refine Walk.n (Op1.move _) rfl rfl rfl rfl rfl ?_;refine Walk.n (Op1.idxL (.inl rfl) (.inl hi) b k52 c23 rfl (by decide) (Ub k)) rfl rfl rfl rfl rfl ?_;refine Walk.n (Op1.load (cs:=[.osl a 0 v1.length]) (.inl rfl) b g rfl k23) rfl rfl rfl rfl rfl ?_;refine Walk.n (Op1.loadA (cs:=tkC tk) (.inl C) E rfl k44 c44 (by rw[Yv];omega)) rfl rfl rfl rfl rfl ?_;refine Walk.n (bld1 (xs:=tkC tk) rfl rfl) rfl rfl rfl rfl rfl ?_;refine Walk.n (Op1.lenO rfl rfl rfl (.inl rfl) o k23) rfl rfl rfl rfl rfl ?_;refine Walk.n (Op1.bs1 (u:= .agg z6) KE k23 c49 rfl (by rw[Nj];rfl) (by decide) (by decide) o49) rfl rfl rfl rfl rfl ?_;refine Walk.n (Op1.appF (n:=6) (row:=z6) (m:=v1.length) rfl rfl rfl rfl rfl (upK o y) upS rfl rfl k23 k23 c49 (by decide) (Xa ..) rfl (by rw[b49];omega) (by omega) o49) rfl rfl rfl rfl rfl ?_;refine Walk.n (Op1.idxL (.inl rfl) (.inl hi) (upK2 (upK b q) f d) k52 c23 rfl (by decide) (Ub k)) rfl rfl rfl rfl rfl ?_;refine Walk.n0 (Op1.storeX (cs:=[.osl a 0 v1.length]) (.inl rfl) (.inl rfl) (upK2 (upK b q) f d) g k23 c23 rfl rfl rfl) rfl rfl rfl rfl ?_;refine Walk.end ?_;refine SW.reg (fun _=>N+1) [([0],[]),([0],[0])] ?_;refine Walk.n (Op1.idxL (n:=v1.length+1) (j:=v1.length) (.inl rfl) (.inl rfl) (upK (upS2 r) w) k23 c49 rfl (by decide) (Ub _)) rfl rfl rfl rfl rfl ?_;refine Walk.n0 (Op1.storeX (cs:=z6) (.inl rfl) (.inl rfl) (upK (upS2 r) w) (KM _ _) k49 c49 rfl rfl (YL _ _ _)) rfl rfl rfl rfl ?_;refine Walk.end ?_;exact h _ (fun t V=>by simp only[look];repeat rw[Ga (by omega)])
theorem u7 {aL idL src k N:Nat} {RL:List (List CV)} {G:Get} {Q:Post} {e:Env} {tk:zb}
  (j:look e 4= .v (.c (.optr aL 0 0))) (hi:look e 9= .v (.c (.p (.at (.int .i64 k))))) (o:look e 8= .v (.c (.optr src 0 0))) (f:G aL=some ⟨52,1,[[.osl idL 0 (k+1)]],none⟩) (a:G idL=some ⟨23,1,RL,none⟩) (d:RL[k]? =some [nilC])
  (r:G src=some ⟨44,5,[tkC tk],none⟩) (w:aL<N/\idL<N/\src<N) (s:aL≠idL/\aL≠src/\idL≠src)
  (h: ∀m,(∀t,t<23->look m t=look e t)->Q .normal m ⟨N+2,upd (upd (upd G [(N,some ⟨49,6,[(tkC tk++[nilC])],none⟩)]) [(N+1,some ⟨49,6,[(tkC tk++[nilC])],none⟩)]) [(idL,some ⟨23,1,RL.set k [.osl (N+1) 0 (1)],none⟩)]⟩):
  SW P 93 (match Tryz.f16.body with|some (.seq _ (.seq _ (.seq _ (.seq _ (.seq (.seq _ (.block _ (.loop (.seq _ (.seq _ (.seq (.block _ (.seq _ (.seq _ (.block _ (.seq _ (.cond _ _ (.seq _ (.cond _ _ (.seq _ (.cond _ _ c)))))))))) _)))))) _)))))=>c|_=> .skip) Q e ⟨N,G⟩:=by
 obtain⟨C,x,B⟩:=w;obtain⟨y,A,z⟩:=s;have g:=Db x;have b:idL≠N+1:=by omega
 have D:N+1≠idL:=by omega
 have q:k<RL.length:=(Da.1 d).1;refine SW.regD mixed (fun i=>[aL,idL,src,N,N+1].getD i 0) 5 [([0],[]),([],[]),([0],[]),([],[]),([1],[]),([1],[]),([2],[]),([],[]),([],[3]),([3],[4]),([1],[]),([1],[1])] (by decide)
  (Mi (l:=[aL,idL,src,N,N+1]) (by grind)) (by kernel_rfl) (by kernel_rfl) ?_
 refine Walk.n (Op1.load (.inl j) f rfl rfl k52) rfl rfl rfl rfl rfl ?_;refine Walk.n (Op1.move _) rfl rfl rfl rfl rfl ?_;refine Walk.n (Op1.load (.inl j) f rfl rfl k52) rfl rfl rfl rfl rfl ?_;refine Walk.n (Op1.move _) rfl rfl rfl rfl rfl ?_;refine Walk.n (Op1.idxL (.inl rfl) (.inl hi) a k52 c23 rfl (by decide) (Ub k)) rfl rfl rfl rfl rfl ?_;refine Walk.n (Op1.load (cs:=[nilC]) (.inl rfl) a d rfl k23) rfl rfl rfl rfl rfl ?_;refine Walk.n (Op1.loadA (cs:=tkC tk) (.inl o) r rfl k44 c44 (by rw[Yv];omega)) rfl rfl rfl rfl rfl ?_;refine Walk.n (bld1 (xs:=tkC tk) rfl rfl) rfl rfl rfl rfl rfl ?_;refine Walk.n (Op1.bs1 (u:= .agg (tkC tk++[nilC])) rfl k23 c49 rfl (by rw[Nj];rfl) (by decide) (by decide) o49) rfl rfl rfl rfl rfl ?_;refine Walk.n (Op1.appN (n:=6) (row:=(tkC tk++[nilC])) rfl rfl rfl rfl rfl upS rfl rfl k23 k23 c49 (by decide) rfl (by rw[b49];decide) o49) rfl rfl rfl rfl rfl ?_;refine Walk.n (Op1.idxL (.inl rfl) (.inl hi) (upK (upK a g) b) k52 c23 rfl (by decide) (Ub k)) rfl rfl rfl rfl rfl ?_;refine Walk.n0 (Op1.storeX (cs:=[nilC]) (.inl rfl) (.inl rfl) (upK (upK a g) b) d k23 c23 rfl rfl rfl) rfl rfl rfl rfl ?_;refine Walk.end ?_;exact h _ (fun t E=>by simp only[look];repeat rw[Ga (by omega)])
theorem l7 {aL idL src k N:Nat} {RL:List (List CV)} {v1:List zg} {G:Get} {Q:Post} {e:Env} {tk:zb} {a:Nat}
  (q:look e 4= .v (.c (.optr aL 0 0))) (hi:look e 9= .v (.c (.p (.at (.int .i64 k))))) (z:look e 8= .v (.c (.optr src 0 0))) (j:G aL=some ⟨52,1,[[.osl idL 0 (k+1)]],none⟩) (b:G idL=some ⟨23,1,RL,none⟩) (g:RL[k]? =some [.osl a 0 v1.length])
  (B:G src=some ⟨44,5,[tkC tk],none⟩) (s:G a=some ⟨49,6,v1.map vlC,none⟩) (O:v1.length<=3000) (D:aL<N/\idL<N/\src<N/\a<N) (C:aL≠idL/\aL≠src/\idL≠src/\aL≠a/\idL≠a/\src≠a)
  (h: ∀r,(∀t,t<23->look r t=look e t)->Q .normal r ⟨N+2,upd (upd (upd G [(N,some ⟨49,6,[(tkC tk++[nilC])],none⟩)]) [(a,none),(N+1,some ⟨49,6,v1.map vlC++[(tkC tk++[nilC])],none⟩)]) [(idL,some ⟨23,1,RL.set k [.osl (N+1) 0 (v1.length+1)],none⟩)]⟩):
  SW P 93 (match Tryz.f16.body with|some (.seq _ (.seq _ (.seq _ (.seq _ (.seq (.seq _ (.block _ (.loop (.seq _ (.seq _ (.seq (.block _ (.seq _ (.seq _ (.block _ (.seq _ (.cond _ _ (.seq _ (.cond _ _ (.seq _ (.cond _ _ c)))))))))) _)))))) _)))))=>c|_=> .skip) Q e ⟨N,G⟩:=by
 obtain⟨S,E,R,y⟩:=D;obtain⟨J,L,K,M,x,F⟩:=C;have w:=Db y;have o:=Db E;have d:idL≠N+1:=by omega
 have T:N+1≠idL:=by omega
 have f:=x;have H:N+1≠a:=by omega
 have A:k<RL.length:=(Da.1 g).1;refine SW.regD mixed (fun i=>[aL,idL,src,a,N,N+1].getD i 0) 6 [([0],[]),([],[]),([0],[]),([],[]),([1],[]),([1],[]),([2],[]),([],[]),([],[4]),([3,4],[3,5]),([1],[]),([1],[1])] (by decide)
  (Mi (l:=[aL,idL,src,a,N,N+1]) (by grind)) (by kernel_rfl) (by kernel_rfl) ?_
 refine Walk.n (Op1.load (.inl q) j rfl rfl k52) rfl rfl rfl rfl rfl ?_;refine Walk.n (Op1.move _) rfl rfl rfl rfl rfl ?_;refine Walk.n (Op1.load (.inl q) j rfl rfl k52) rfl rfl rfl rfl rfl ?_;refine Walk.n (Op1.move _) rfl rfl rfl rfl rfl ?_;refine Walk.n (Op1.idxL (.inl rfl) (.inl hi) b k52 c23 rfl (by decide) (Ub k)) rfl rfl rfl rfl rfl ?_;refine Walk.n (Op1.load (cs:=[.osl a 0 v1.length]) (.inl rfl) b g rfl k23) rfl rfl rfl rfl rfl ?_;refine Walk.n (Op1.loadA (cs:=tkC tk) (.inl z) B rfl k44 c44 (by rw[Yv];omega)) rfl rfl rfl rfl rfl ?_;refine Walk.n (bld1 (xs:=tkC tk) rfl rfl) rfl rfl rfl rfl rfl ?_;refine Walk.n (Op1.bs1 (u:= .agg (tkC tk++[nilC])) rfl k23 c49 rfl (by rw[Nj];rfl) (by decide) (by decide) o49) rfl rfl rfl rfl rfl ?_;refine Walk.n (Op1.appF (n:=6) (row:=(tkC tk++[nilC])) (m:=v1.length) rfl rfl rfl rfl rfl (upK s w) upS rfl rfl k23 k23 c49 (by decide) (Xa ..) rfl (by rw[b49];omega) (by omega) o49) rfl rfl rfl rfl rfl ?_;refine Walk.n (Op1.idxL (.inl rfl) (.inl hi) (upK2 (upK b o) f d) k52 c23 rfl (by decide) (Ub k)) rfl rfl rfl rfl rfl ?_;refine Walk.n0 (Op1.storeX (cs:=[.osl a 0 v1.length]) (.inl rfl) (.inl rfl) (upK2 (upK b o) f d) g k23 c23 rfl rfl rfl) rfl rfl rfl rfl ?_;refine Walk.end ?_;exact h _ (fun t U=>by simp only[look];repeat rw[Ga (by omega)])
def Put(G:Get)(idL k n:Nat)(RL:List (List CV))(c1:CV)(v1:List zg)(xc:List CV)(get':Get):Prop:=
 get' idL=some ⟨23,1,RL.set k [.osl n 0 (v1.length+1)],none⟩/\get' n=some ⟨49,6,v1.map vlC++[xc],none⟩/\(∀id∈zI c1,get' id=none)/\ ∀id,id+2<n->id≠idL->id ∉ zI c1->get' id=G id
theorem A8 {aL idL src k N:Nat} {RL:List (List CV)} {c1:CV} {v1:List zg} {G:Get} {Q:Post} {e:Env} {xc:List CV}
  (z:look e 1= .v (.c (.optr aL 0 0))) (hi:look e 2= .v (.c (.p (.at (.int .i64 k))))) (F:look e 3= .v (.c (.optr src 0 0))) (w:G aL=some ⟨52,1,[[.osl idL 0 (k+1)]],none⟩) (m:G idL=some ⟨23,1,RL,none⟩) (J:RL[k]? =some [c1])
  (R:G src=some ⟨49,6,[xc],none⟩) (H:xc.length=6) (L:src ∉ zI c1) (f:Lst G c1 v1) (W:v1.length<=3000) (X:aL<N/\idL<N/\src<N) (M: ∀i∈zI c1,i<N)
  (h: ∀r get',Put G idL k (N+2) RL c1 v1 xc get'->Q .normal r ⟨N+3,get'⟩):
  SW P 46 (match Tryz.f60.body with|some (.seq _ (.seq _ (.seq _ c)))=>c|_=> .skip) Q e ⟨N,G⟩:=by
 obtain⟨q,u,o⟩:=X;have A:aL≠idL:=at1 w m rfl;have C:aL≠src:=at1 w R rfl;have B:idL≠src:=at1 m R rfl;refine SW.seq (anyR (tb:=24) (tl:=25) rfl rfl rfl rfl ⟨rfl,rfl,rfl⟩ ⟨rfl,rfl,rfl⟩ ⟨rfl,rfl,rfl⟩ ⟨rfl,rfl,rfl⟩ ⟨by decide,by decide⟩ fun b g n=> ?_);have a: ∀t,t<17->look ((25, .v (.c (.p (.at (.bool b)))))::(24, .v (.c (.optr N 0 0)))::e) t=look e t:=fun t Y=>(Ug (by omega)).trans (Ug (by omega));have E:=(n aL q).trans w;have l:=(n idL u).trans m;have K:=(n src o).trans R;have d: ∀{x y:Nat},x<y->x<y+1:=fun h=>Kb h;rcases f with⟨rfl,rfl⟩|⟨j,rfl,f⟩
 ·skip
  refine SW.condB (b:=b) rfl (fun _=> ?_) (fun _=> ?_)
  ·refine V6 ((a _ (by decide)).trans z) ((a _ (by decide)).trans hi) ((a _ (by decide)).trans F) E l J K H ⟨d q,d u,d o⟩ ⟨A,C,B⟩ fun r S=> ?_;refine h _ _ ⟨?_,?_,?_,fun id hid f s=> ?_⟩
   ·exact upK upS (by omega)
   ·exact upS
   ·intro id hid;cases hid
   ·exact upK (upK (upK (upK (n id (by omega)) (by omega)) (by omega)) f) (by omega)
  ·refine Y6 ((a _ (by decide)).trans z) ((a _ (by decide)).trans hi) ((a _ (by decide)).trans F) E l J K H ⟨d q,d u,d o⟩ ⟨A,C,B⟩ fun r S=> ?_;refine h _ _ ⟨?_,?_,?_,fun id hid f s=> ?_⟩
   ·exact upS
   ·exact upK upS (by omega)
   ·intro id hid;cases hid
   ·exact upK (upK (upK (n id (by omega)) (by omega)) (by omega)) f
 ·have O:j<N:=M j (Oa.2 rfl);have U:=(n j O).trans f;have V:aL≠j:=at1 w f rfl;have D:idL≠j:=at1 m f rfl;have T:src≠j:=fun e=>L (Oa.2 e);refine SW.condB (b:=b) rfl (fun _=> ?_) (fun _=> ?_)
  ·refine U6 ((a _ (by decide)).trans z) ((a _ (by decide)).trans hi) ((a _ (by decide)).trans F) E l J K H U W ⟨d q,d u,d o,d O⟩ ⟨A,C,B,V,D,T⟩ fun r S=> ?_;refine h _ _ ⟨?_,?_,?_,fun id hid f s=> ?_⟩
   ·exact upK upS (by omega)
   ·exact upS
   ·intro id hid;obtain rfl:=Oa.1 hid;exact upK (upK (La rfl) (Ne.symm D)) (by omega)
   ·exact upK (upK (upK2 (upK (n id (by omega)) (by omega)) (fun e=>s (Oa.2 e)) (by omega)) f) (by omega)
  ·refine X6 ((a _ (by decide)).trans z) ((a _ (by decide)).trans hi) ((a _ (by decide)).trans F) E l J K H U W ⟨d q,d u,d o,d O⟩ ⟨A,C,B,V,D,T⟩ fun r S=> ?_;refine h _ _ ⟨?_,?_,?_,fun id hid f s=> ?_⟩
   ·exact upS
   ·exact upK (upS2 (by omega)) (by omega)
   ·intro id hid;obtain rfl:=Oa.1 hid;exact(upK (La rfl) (Ne.symm D))
   ·exact upK (upK2 (upK (n id (by omega)) (by omega)) (fun e=>s (Oa.2 e)) (by omega)) f
theorem S9 {aL idL src k N:Nat} {RL:List (List CV)} {c1:CV} {v1:List zg} {G:Get} {Q:Post} {e:Env} {tk:zb}
  (B:look e 4= .v (.c (.optr aL 0 0))) (hi:look e 9= .v (.c (.p (.at (.int .i64 k))))) (J:look e 8= .v (.c (.optr src 0 0))) (A:G aL=some ⟨52,1,[[.osl idL 0 (k+1)]],none⟩) (n:G idL=some ⟨23,1,RL,none⟩) (L:RL[k]? =some [c1])
  (K:G src=some ⟨44,5,[tkC tk],none⟩) (f:Lst G c1 v1) (V:v1.length<=3000) (W:aL<N/\idL<N/\src<N) (O: ∀i∈zI c1,i<N)
  (h: ∀r get',(∀t,t<23->look r t=look e t)->Put G idL k (N+2) RL c1 v1 (tkC tk++[nilC]) get'->Q .normal r ⟨N+3,get'⟩):
  SW P 93 (match Tryz.f16.body with|some (.seq _ (.seq _ (.seq _ (.seq _ (.seq (.seq _ (.block _ (.loop (.seq _ (.seq _ (.seq (.block _ (.seq _ (.seq _ (.block _ (.seq _ (.cond _ _ (.seq _ (.cond _ _ (c))))))))) _)))))) _)))))=>c|_=> .skip) Q e ⟨N,G⟩:=by
 obtain⟨u,z,s⟩:=W;have C:aL≠idL:=at1 A n rfl;have E:aL≠src:=at1 A K rfl;have D:idL≠src:=at1 n K rfl;refine SW.seq (anyR (tb:=23) (tl:=24) rfl rfl rfl rfl ⟨rfl,rfl,rfl⟩ ⟨rfl,rfl,rfl⟩ ⟨rfl,rfl,rfl⟩ ⟨rfl,rfl,rfl⟩ ⟨by decide,by decide⟩ fun b g o=> ?_);have a: ∀t,t<23->look ((24, .v (.c (.p (.at (.bool b)))))::(23, .v (.c (.optr N 0 0)))::e) t=look e t:=fun t l=>(Ug (by omega)).trans (Ug (by omega));have H:=(o aL u).trans A;have m:=(o idL z).trans n;have M:=(o src s).trans K;have d: ∀{x y:Nat},x<y->x<y+1:=fun h=>Kb h;rcases f with⟨rfl,rfl⟩|⟨j,rfl,f⟩
 ·skip
  refine SW.condB (b:=b) rfl (fun _=> ?_) (fun _=> ?_)
  ·refine Y7 ((a _ (by decide)).trans B) ((a _ (by decide)).trans hi) ((a _ (by decide)).trans J) H m L M ⟨d u,d z,d s⟩ ⟨C,E,D⟩ fun r q=> ?_;refine h _ _ (fun t l=>(q t l).trans (a t l)) ⟨?_,?_,?_,fun id hid f w=> ?_⟩
   ·exact upK upS (by omega)
   ·exact upS
   ·intro id hid;cases hid
   ·exact upK (upK (upK (upK (o id (by omega)) (by omega)) (by omega)) f) (by omega)
  ·refine u7 ((a _ (by decide)).trans B) ((a _ (by decide)).trans hi) ((a _ (by decide)).trans J) H m L M ⟨d u,d z,d s⟩ ⟨C,E,D⟩ fun r q=> ?_;refine h _ _ (fun t l=>(q t l).trans (a t l)) ⟨?_,?_,?_,fun id hid f w=> ?_⟩
   ·exact upS
   ·exact upK upS (by omega)
   ·intro id hid;cases hid
   ·exact upK (upK (upK (o id (by omega)) (by omega)) (by omega)) f
 ·have R:j<N:=O j (Oa.2 rfl);have T:=(o j R).trans f;have U:aL≠j:=at1 A f rfl;have F:idL≠j:=at1 n f rfl;have S:src≠j:=at1 K f rfl;refine SW.condB (b:=b) rfl (fun _=> ?_) (fun _=> ?_)
  ·refine X7 ((a _ (by decide)).trans B) ((a _ (by decide)).trans hi) ((a _ (by decide)).trans J) H m L M T V ⟨d u,d z,d s,d R⟩ ⟨C,E,D,U,F,S⟩ fun r q=> ?_;refine h _ _ (fun t l=>(q t l).trans (a t l)) ⟨?_,?_,?_,fun id hid f w=> ?_⟩
   ·exact upK upS (by omega)
   ·exact upS
   ·intro id hid;obtain rfl:=Oa.1 hid;exact upK (upK (La rfl) (Ne.symm F)) (by omega)
   ·exact upK (upK (upK2 (upK (o id (by omega)) (by omega)) (fun e=>w (Oa.2 e)) (by omega)) f) (by omega)
  ·refine l7 ((a _ (by decide)).trans B) ((a _ (by decide)).trans hi) ((a _ (by decide)).trans J) H m L M T V ⟨d u,d z,d s,d R⟩ ⟨C,E,D,U,F,S⟩ fun r q=> ?_;refine h _ _ (fun t l=>(q t l).trans (a t l)) ⟨?_,?_,?_,fun id hid f w=> ?_⟩
   ·exact upS
   ·exact upK (upS2 (by omega)) (by omega)
   ·intro id hid;obtain rfl:=Oa.1 hid;exact(upK (La rfl) (Ne.symm F))
   ·exact upK (upK2 (upK (o id (by omega)) (by omega)) (fun e=>w (Oa.2 e)) (by omega)) f
theorem RcL.refl{Z:Nat->Prop}{get:Get}{D:Nat->Prop}(x:LV):RcL Z get D x x:=by
 have e: ∀t:TV,RcT Z get D t t:=fun t=>by
  cases t with
  |c x=>exact .c _ _ (RcC.refl x)
  |agg i=>exact .agg _ _ rfl fun j a b f d=>by rw[f]at d;cases d;exact RcC.refl a
 cases x with
 |any=>exact .any _
 |v t=>exact .v _ _ (e t)
 |opt g t=>exact .opt _ _ _ (e t)
 |tup h=>exact .tup _ _ rfl fun j a b f d=>by grind
theorem rV{g:Get}{D:Nat->Prop}{c:CV}{v:List zg}(h:Lst g c v)(hD: ∀id∈zI c,D id):Fz g D c (.sl (v.map zD)):=by
 rcases h with⟨rfl,rfl⟩|⟨id,rfl,h⟩
 ·exact .nil
 ·refine .osl id 0 _ _ _ (hD id (Oa.2 rfl)) h (Xa ..) (by grind) (fun row hr=> ?_) (fun i row j x r y ha hj hr hy=> ?_)
  ·obtain⟨z,_,rfl⟩:=Ka.1 hr;have:=dK z;unfold vlC at this
   grind
  ·simp only[Ua,Te]at ha hr;cases hz:v[i]? with
   |none=>grind
   |some z=> rw[hz]at ha hr;cases ha;cases hr;unfold vlC at hj;rw[Ua,hy]at hj;cases hj;exact .p _
theorem zBF {nt:Nat} {e:Env} {g:Get} {M id0 ty r:Nat} {RL:List (List CV)} {c:CV} {v:List zg} (h0:g id0=some ⟨ty,1,RL,none⟩) (hr:RL[r]? =some [c]) (hc:Lst g c v) (hi:id0 ∉ zI c) (get2:Get)
  (k1:get2 id0=some ⟨ty,1,RL.set r [.p (.sl (v.map zD))],none⟩) (k2: ∀id∈zI c,get2 id=none) (k3: ∀id,id≠id0->id ∉ zI c->get2 id=g id):Sub nt e ⟨M,g⟩ e ⟨M,get2⟩:=by
 refine recast (Z:=fun _=>False) (Ya _) (fun z hz=>hz.elim) (fun id o2 ho _=> ?_) (fun t=>RcL.refl _);by_cases h1:id=id0
 ·subst h1;replace ho:get2 id=some o2:=ho;rw[k1]at ho;cases ho;refine⟨_,h0,rfl,rfl,List.length_set,fun i row row2 a b=> ?_,rfl⟩;replace b:(RL.set r [.p (.sl (v.map zD))])[i]? =some row2:=b;replace a:RL[i]? =some row:=a;by_cases hir:i=r
  ·subst hir;rw[hr]at a;cases a;rw[List.getElem?_set_self (Da.1 hr).1]at b;cases b;refine⟨rfl,fun j x y hx hy=> ?_⟩;cases j with
   |zero=>cases hx;cases hy;exact .inr ⟨_,rfl,rV hc k2⟩
   |succ j=>cases hx
  ·rw[Ee (Ne.symm hir),a]at b;cases b;exact⟨rfl,fun j x y hx hy=>by rw[hx]at hy;cases hy;exact RcC.refl x⟩
 ·by_cases h2:id∈zI c
  ·grind
  ·have:=k3 id h1 h2;replace ho:get2 id=some o2:=ho;rw[this]at ho;exact⟨o2,ho,RcO.refl o2⟩
structure zsW (get:Get) (aO aL idO idL k nx:Nat) (RL:List (List CV)) (c1 c2:CV) (v1 v2:List zg) (o:zb) (U:Get):Prop where
 uO:U aO=some ⟨22,1,[[.osl idO 0 k]],none⟩
 uL:U aL=some ⟨52,1,[[.osl idL 0 (k+1)]],none⟩
 uI:U idL=some ⟨23,1,(RL.set (k+1) [.p (.sl (v2.map zD))]).set k [.osl nx 0 (v1.length+1)],none⟩
 uN:U nx=some ⟨49,6,v1.map vlC++[vlC ⟨o,v2⟩],none⟩
 gone: ∀id,id∈zI c1\/id∈zI c2->U id=none
 keep: ∀id,id≠aO->id≠aL->id≠idL->id≠nx->id ∉ zI c1->id ∉ zI c2->U id=get id
def Tv(aO aL idO idL k nx:Nat)(RL:List (List CV))(c1 c2:CV)(v1 v2:List zg)(o:zb):List (Nat×Option OB):=
 [(aO,some ⟨22,1,[[.osl idO 0 k]],none⟩),(aL,some ⟨52,1,[[.osl idL 0 (k+1)]],none⟩),(idL,some ⟨23,1,(RL.set (k+1) [.p (.sl (v2.map zD))]).set k [.osl nx 0 (v1.length+1)],none⟩),
  (nx,some ⟨49,6,v1.map vlC++[vlC ⟨o,v2⟩],none⟩)]++((zI c1++zI c2).map fun i=>(i,none))
theorem jK{get:Get}(b:List (Nat×Option OB)): ∀(a:List (Nat×Option OB)) (i:Nat),upd get (a++b) i=upd (upd get b) a i
 |[],_=>rfl
 |(j,o)::a,i=>by simp only[ma,upd];rw[jK b a i]
theorem EH{get:Get}: ∀(l:List Nat) (i:Nat),upd get (l.map fun i=>(i,none)) i=if i∈l then none else get i
 |[],_=>rfl
 |j::l,i=>by
  simp only[ja,upd];rw[EH l i]
  grind
theorem vP{get:Get}{aO aL idO idL k nx:Nat}{RL:List (List CV)}{c1 c2:CV}{v1 v2:List zg}{o:zb}(w:aO≠aL)(s:aO≠idL)(u:aL≠idL)(c:aO≠nx/\aL≠nx/\idL≠nx)(q: ∀id,id∈zI c1\/id∈zI c2->id≠aO/\id≠aL/\id≠idL/\id≠nx):
  zsW get aO aL idO idL k nx RL c1 c2 v1 v2 o (upd get (Tv aO aL idO idL k nx RL c1 c2 v1 v2 o)):=by
 obtain⟨r,v,t⟩:=c;have a: ∀i,upd get (Tv aO aL idO idL k nx RL c1 c2 v1 v2 o) i=_:=fun i=>jK _ _ i;refine⟨?_,?_,?_,?_,fun id hid=> ?_,fun id b m g f l n=> ?_⟩
 all_goals rw[a]
 all_goals simp only[upd]
 ·grind
 ·grind
 ·grind
 ·grind
 ·obtain⟨d,j,p,e⟩:=q id hid;rw[Ga d,Ga j,Ga p,Ga e,EH,La (Vb.2 hid)]
 ·rw[Ga b,Ga m,Ga g,Ga f,EH,Ga (fun h=>(Vb.1 h).elim l n)]
theorem bz{a:List Nat}{nx id:Nat}(h:id ∉ a):rnI a nx id=id:=by
 unfold rnI
 grind
theorem aX{d:List Nat}{nx:Nat}{c:CV}(h: ∀id∈zI c,id ∉ d):rnC d nx c=c:=by
 cases c with
 |p x=>rfl
 |osl id g n=>simp only[rnC,bz (h id (Oa.2 rfl))]
 |optr id j e=>simp only[rnC,bz (h id (Oa.2 rfl))]
 |mref id=>simp only[rnC,bz (h id (Oa.2 rfl))]
 |fsl b=>rfl
 |clo f a=> simp only[rnC];congr 1;refine(Na fun q i=> ?_).trans (List.map_id a);rw[bz (h q.1 (Ka.2 ⟨q,i,rfl⟩))];rfl
theorem MB{a:List Nat}{nx:Nat}{rows:List (List CV)}(h: ∀row∈rows,∀c∈row,∀id∈zI c,id ∉ a):rows.map (·.map (rnC a nx))=rows:=by refine(Na fun row b=> ?_).trans (List.map_id rows);exact(Na fun c d=>aX (h row b c d)).trans (List.map_id row)
theorem NN{v:zg}: ∀c∈vlC v,zI c=[]:=fun c a=>by unfold vlC at a;obtain⟨p,_,rfl⟩:=Ka.1 a;rfl
theorem rY{v:List zg}{x:zg}: ∀row∈v.map vlC++[vlC x],∀c∈row,zI c=[]:=fun row a=>by
 rcases Vb.1 a with a|a
 ·obtain⟨z,_,rfl⟩:=Ka.1 a;exact NN
 ·rw[Oa.1 a];exact NN
theorem WX {aO aL idO idL k nx:Nat} {RL RO:List (List CV)} {o:zb} {c1 c2:CV} {v1 v2:List zg} {rd:List (Nat×OB)} (hk:k<=16) (hv1:v1.length<=3000) (r1:RL[k]? =some [c1]) (r2:RL[k+1]? =some [c2]) (r3:RO[k]? =some (tkC o))
  (d0:(aO,(⟨22,1,[[.osl idO 0 (k+1)]],none⟩:OB))∈rd) (d1:(aL,(⟨52,1,[[.osl idL 0 (k+2)]],none⟩:OB))∈rd) (d2:(idL,(⟨23,1,RL,none⟩:OB))∈rd) (d3:(idO,(⟨44,5,RO,none⟩:OB))∈rd)
  (q1:c1=nilC/\v1=[]\/ ∃id,c1= .osl id 0 v1.length/\(id,(⟨49,6,v1.map vlC,none⟩:OB))∈rd) (q2:c2=nilC/\v2=[]\/ ∃id,c2= .osl id 0 v2.length/\(id,(⟨49,6,v2.map vlC,none⟩:OB))∈rd)
  (hne: ∀id∈zI c1,id ∉ zI c2) (hrefs: ∀i row,RL[i]? =some row->i≠k+1-> ∀c∈row,∀id∈zI c,∃ob,(id,ob)∈rd):
  zc8 P 60 [.c (.optr aO 0 0), .c (.optr aL 0 0)] rd nx 1 (.tup []) (Tv aO aL idO idL k nx RL c1 c2 v1 v2 o):=by
 refine aR (fn:=Tryz.f60) (c:=match Tryz.f60.body with|some c=>c|none=> .skip) (rs:=[]) (nt:=46) Tryz.func60 rfl rfl rfl (by kernel_rfl) (Ac rfl) fun get M hM hget hrd=> ?_;have hL:=hrd _ d1;have hO:=hrd _ d0;have hIL:=hrd _ d2;have hIO:=hrd _ d3;have lt: ∀{id:Nat} {ob:OB},get id=some ob->id<M:=fun h=>(hget _ _ h).1;have nn: ∀{id:Nat} {ob:OB},get id=some ob->id≠nx:=fun h=>by grind
 have n1:aO≠aL:=at1 hO hL rfl;have n2:aO≠idL:=at1 hO hIL rfl;have n3:aL≠idL:=at1 hL hIL rfl;have n4:idO≠idL:=at1 hIO hIL rfl;have L1:Lst get c1 v1:=q1.elim .inl fun⟨id,h1,h2⟩=> .inr ⟨id,h1,hrd _ h2⟩;have L2:Lst get c2 v2:=q2.elim .inl fun⟨id,h1,h2⟩=> .inr ⟨id,h1,hrd _ h2⟩;have rf: ∀{c:CV} {v:List zg},Lst get c v-> ∀id∈zI c,get id=some ⟨49,6,v.map vlC,none⟩:=fun {c v} h id hid=>by
  rcases h with⟨rfl,_⟩|⟨i,rfl,h⟩
  ·cases hid
  ·rw[Oa.1 hid];exact h
 have f1:=rf L1;have f2:=rf L2
 -- the list that is shut is frozen
 let g2:Get:=fun id=>if id=idL then some ⟨23,1,RL.set (k+1) [.p (.sl (v2.map zD))],none⟩else if id∈zI c2 then none else get id
 have g2I:g2 idL=some ⟨23,1,RL.set (k+1) [.p (.sl (v2.map zD))],none⟩:=La rfl;have g2k: ∀id,id≠idL->id ∉ zI c2->g2 id=get id:=fun id h1 h2=>by grind
 have hi2:idL ∉ zI c2:=fun h=>at1 hIL (f2 _ h) rfl rfl;refine SW.sub (zBF hIL r2 L2 hi2 g2 g2I (fun id hid=>by grind) g2k) ?_;have e2: ∀{id:Nat} {ob:OB},get id=some ob->id≠idL->Nat.beq ob.ty 49=false->g2 id=some ob:=fun {id ob} h h1 h2=>by rw[g2k id h1 fun h3=>by have:=f2 id h3;rw[h]at this;simp_all];exact h
 have gL:=e2 hL n3 rfl;have gO:=e2 hO n2 rfl;have gIO:=e2 hIO n4 rfl;have hl1:k+1<RL.length:=(Da.1 r2).1;have hM1:aL<M/\aO<M/\idL<M/\idO<M:=⟨lt hL,lt hO,lt hIL,lt hIO⟩;obtain⟨m1,m2,m3,m4⟩:=hM1;refine XX (k:=k) (RL:=RL.set (k+1) [.p (.sl (v2.map zD))]) (RO:=RO) (o:=o) (v2:=v2) (c:=match Tryz.f60.body with|some (.seq _ (.seq _ (.seq _ c)))=>c|_=> .skip) hk gL gO g2I gIO (List.getElem?_set_self hl1) r3 ⟨m1,m2,m3,m4⟩ fun e h0 h1 h2 h3=> ?_;have r1':(RL.set (k+1) [.p (.sl (v2.map zD))])[k]? =some [c1]:=by rw[Ee (by omega)];exact r1
 generalize hG:upd (upd (upd (upd g2 [(M,some ⟨49,6,[z6],none⟩)]) [(M,some ⟨49,6,[vlC ⟨o,v2⟩],none⟩)]) [(aL,some ⟨52,1,[[.osl idL 0 (k+1)]],none⟩)]) [(aO,some ⟨22,1,[[.osl idO 0 k]],none⟩)]=G;have Gk: ∀id,id≠M->id≠aL->id≠aO->G id=g2 id:=fun id a b c=>by rw[<-hG];exact upK (upK (upK (upK rfl a) a) b) c
 have GL:G aL=some ⟨52,1,[[.osl idL 0 (k+1)]],none⟩:=by rw[<-hG];exact upK upS (Ne.symm n1)
 have GO:G aO=some ⟨22,1,[[.osl idO 0 k]],none⟩:=by rw[<-hG];exact upS
 have GI:G idL=_:=(Gk idL (by omega) (Ne.symm n3) (Ne.symm n2)).trans g2I;have GM:G M=some ⟨49,6,[vlC ⟨o,v2⟩],none⟩:=by rw[<-hG];exact upK (upK upS (by omega)) (by omega)
 have c1M: ∀id∈zI c1,id<M:=fun id hid=>lt (f1 id hid);have c1k: ∀id∈zI c1,id≠aL/\id≠aO/\id≠idL:=fun id hid=>⟨at1 (f1 id hid) hL rfl,at1 (f1 id hid) hO rfl,at1 (f1 id hid) hIL rfl⟩;have c2k: ∀id∈zI c2,id≠aL/\id≠aO/\id≠idL:=fun id hid=>⟨at1 (f2 id hid) hL rfl,at1 (f2 id hid) hO rfl,at1 (f2 id hid) hIL rfl⟩;have L1G:Lst G c1 v1:=by
  rcases L1 with h|⟨id,rfl,h⟩
  ·exact .inl h
  ·have hm:id∈zI (.osl id 0 v1.length):=Oa.2 rfl;obtain⟨a,b,c⟩:=c1k id hm;exact .inr ⟨id,rfl,by grind⟩
 refine A8 (src:=M) (N:=M+1) (xc:=vlC ⟨o,v2⟩) h1 h2 h3 GL GI r1' GM (dK _) (fun h=>by grind) L1G hv1 ⟨by omega,by omega,by omega⟩ (fun i hi=>Kb (c1M i hi)) fun e' get' hput=> ?_;obtain⟨t1,t2,t3,t4⟩:=hput;have hU:=vP (get:=get) (idO:=idO) (k:=k) (nx:=nx) (RL:=RL) (c1:=c1) (c2:=c2) (v1:=v1) (v2:=v2) (o:=o) n1 n2 n3 ⟨nn hO,nn hL,nn hIL⟩ (fun id hid=>by
  grind)
 have keep: ∀id,id<M->id≠idL->id ∉ zI c1->get' id=G id:=fun id a b c=>t4 id (by omega) b c;refine⟨.inl rfl,[M+3],[],rfl,by simp,fun i hi=> .inl (by grind),trivial,(fun t ht=>by cases ht),rfl,fun j hj=> ?_,fun id o1 ho1=> ?_⟩
 ·replace hj:j<1:=hj;obtain rfl:j=0:=by omega
  show(upd get _ (nx+0)).isSome=true;rw[Ae,hU.uN];rfl
 ·have ne3: ∀{id:Nat},id<M->id ∉ [M+3]:=fun h h'=>by grind
  by_cases i1:id=nx
  ·subst i1;rw[hU.uN]at ho1;cases ho1;have pure: ∀row∈v1.map vlC++[vlC ⟨o,v2⟩],∀c∈row,zI c=[]:=rY;refine .inl ⟨0,M+3,_,rfl,rfl,t2,?_,fun i hi=> ?_⟩
   ·unfold rnO;rw[MB (fun row hr c hc i hi=>by grind)]
   ·simp only[Rh,Ib]at hi;obtain⟨row,hr,c,hc,hi⟩:=hi
    grind
  refine .inr ?_;by_cases i2:id=aO
  ·subst i2;rw[hU.uO]at ho1;cases ho1;refine⟨_,_,hO,(keep id m2 n2 (fun h=>(c1k id h).2.1 rfl)).trans GO, .inr ⟨?_,fun i hi=> .inr ?_⟩⟩
   ·unfold rnO;rw[MB (fun row hr c hc i hi=>by
     rw[Oa.1 hr]at hc;rw[Oa.1 hc]at hi;rw[Oa.1 hi];exact ne3 m4)]
   ·have:i=idO:=by simpa [Rh,zI] using hi
    grind
  by_cases i3:id=aL
  ·subst i3;rw[hU.uL]at ho1;cases ho1;refine⟨_,_,hL,(keep id m1 n3 (fun h=>(c1k id h).1 rfl)).trans GL, .inr ⟨?_,fun i hi=> .inr ?_⟩⟩
   ·unfold rnO;rw[MB (fun row hr c hc i hi=>by
     rw[Oa.1 hr]at hc;rw[Oa.1 hc]at hi;rw[Oa.1 hi];exact ne3 m3)]
   ·have:i=idL:=by simpa [Rh,zI] using hi
    grind
  by_cases i4:id=idL
  ·subst i4;rw[hU.uI]at ho1;cases ho1;have rowsM: ∀i row,(RL.set (k+1) [.p (.sl (v2.map zD))])[i]? =some row-> ∀c∈row,∀j∈zI c,j<M:=fun i row hi c hc j hj=>by
    by_cases hik:i=k+1
    ·subst hik;rw[List.getElem?_set_self hl1]at hi;cases hi;rw[Oa.1 hc]at hj;cases hj
    ·rw[Ee (Ne.symm hik)]at hi;obtain⟨ob,hob⟩:=hrefs i row hi hik c hc j hj
     grind
   have rowsM': ∀row∈RL.set (k+1) [.p (.sl (v2.map zD))],∀c∈row,∀j∈zI c,j<M:=fun row hr=>by
    obtain⟨i,hi⟩:=List.mem_iff_getElem?.1 hr
    grind
   refine⟨_,_,hIL,t1, .inr ⟨?_,fun i hi=> ?_⟩⟩
   ·unfold rnO;rw[List.map_set,MB (fun row hr c hc i hi=>ne3 (rowsM' row hr c hc i hi))];have:rnI [M+1+2] nx (M+1+2)=nx:=by unfold rnI;rw[show [M+1+2].idxOf? (M+1+2)=some 0 by grind];rfl
    simp only[ja,Oc,rnC]
    grind
   ·simp only[Rh,Ib]at hi;obtain⟨row,hr,c,hc,hi⟩:=hi;rcases List.mem_or_eq_of_mem_set hr with hr|hr
    ·grind
    ·subst hr;rw[Oa.1 hc]at hi;exact .inl hi
  ·by_cases i5:id∈zI c1\/id∈zI c2
   ·rw[hU.gone id i5]at ho1;cases ho1
   ·have i6:id ∉ zI c1:=fun h=>i5 (.inl h);have i7:id ∉ zI c2:=fun h=>i5 (.inr h);rw[hU.keep id i2 i3 i4 i1 i6 i7]at ho1;have hlt:=lt ho1;exact⟨o1,o1,ho1,by show get' id=some o1;rw[keep id hlt i4 i6,Gk id (by omega) i3 i2,g2k id i4 i7];exact ho1, .inl ⟨rfl,rfl⟩⟩
theorem Qp{α:Type}{l:List α}{x y:α}{i:Nat}(h:(l++[x])[i]? =some y):(i<l.length/\l[i]? =some y)\/(i=l.length/\y=x):=by
 grind
theorem uj{α:Type}(l:List α)(x:α):(l++[x])[l.length]? =some x:=by
 grind
structure PI (get:Get) (N M0:Nat) (get0:Get) (aL aO b:Nat) (os:List zb) (vs:List (List zg)) (idL:Nat) (RL:List (List CV)) (cs:List CV) (cO:CV):Prop where
 hL:get aL=some ⟨52,1,[[.osl idL 0 (os.length+1)]],none⟩
 hI:get idL=some ⟨23,1,RL,none⟩
 hcl:cs.length=os.length+1
 hvl:vs.length=os.length+1
 hrow: ∀(i:Nat) c,cs[i]? =some c->RL[i]? =some [c]
 hst: ∀(i:Nat) row,RL[i]? =some row->os.length<i-> ∀c∈row,zI c=[]
 hlst: ∀(i:Nat) c v,cs[i]? =some c->vs[i]? =some v->Lst get c v
 hdis: ∀(i j:Nat) c d,i≠j->cs[i]? =some c->cs[j]? =some d-> ∀id∈zI c,id ∉ zI d
 hO:get aO=some ⟨22,1,[[cO]],none⟩
 hop:(cO=nilC/\os=[])\/ ∃idO RO,cO= .osl idO 0 os.length/\get idO=some ⟨44,5,RO,none⟩/\M0<=idO/\idO<N/\ ∀(i:Nat) o,os[i]? =some o->RO[i]? =some (tkC o)
 hn:os.length<=16
 hb: ∀v∈vs,v.length<=b
 hk: ∀id,id<M0->get id=get0 id
 hM:M0<=aL/\M0<=aO/\M0<=idL/\aL<N/\aO<N/\idL<N
 href: ∀c∈cs,∀id∈zI c,M0<=id/\id<N
section
variable {get get':Get} {N N' M0 aL aO b b':Nat} {get0:Get} {os:List zb} {vs:List (List zg)} {idL:Nat} {RL:List (List CV)} {cs:List CV} {cO:CV}
theorem Lst.keep{c:CV}{v:List zg}(h:Lst get c v)(a: ∀id∈zI c,get' id=get id):Lst get' c v:=by
 rcases h with h|⟨id,rfl,h⟩
 ·exact .inl h
 ·exact .inr ⟨id,rfl,(a id (Oa.2 rfl)).trans h⟩
theorem Lst.at{c:CV}{v:List zg}(h:Lst get c v): ∀id∈zI c,get id=some ⟨49,6,v.map vlC,none⟩:=fun id hid=>by
 rcases h with⟨rfl,_⟩|⟨i,rfl,h⟩
 ·cases hid
 ·rw[Oa.1 hid];exact h
theorem PI.grow(h:PI get N M0 get0 aL aO b os vs idL RL cs cO)(j:N<=N')(m:b<=b')(k:M0<=N)(a: ∀id,id<N->get' id=get id):PI get' N' M0 get0 aL aO b' os vs idL RL cs cO:=by
 obtain⟨o,p,f,l,r,n⟩:=h.hM;refine⟨(a _ l).trans h.hL,(a _ n).trans h.hI,h.hcl,h.hvl,h.hrow,h.hst,fun i c v e t=>(h.hlst i c v e t).keep fun id hid=>a id (h.href c (Va e) id hid).2,h.hdis,(a _ r).trans h.hO,?_,h.hn,
  fun v g=>Lb (h.hb v g) m,fun id hid=>(a id (Xb hid k)).trans (h.hk id hid),⟨o,p,f,by omega,by omega,by omega⟩,fun c d id hid=>⟨(h.href c d id hid).1,Xb (h.href c d id hid).2 j⟩⟩
 rcases h.hop with q|⟨s,RO,y,w,u,z,x⟩
 ·exact .inl q
 grind
theorem PI.ne(h:PI get N M0 get0 aL aO b os vs idL RL cs cO):aO≠aL/\aO≠idL/\aL≠idL:=⟨at1 h.hO h.hL rfl,at1 h.hO h.hI rfl,at1 h.hL h.hI rfl⟩
theorem PI.lst(h:PI get N M0 get0 aL aO b os vs idL RL cs cO){c:CV}(f:c∈cs): ∃v,Lst get c v:=by
 obtain⟨i,d⟩:=List.mem_iff_getElem?.1 f;have e:=(Da.1 d).1;have a:i<vs.length:=by rw[h.hvl,<-h.hcl];exact e
 exact⟨_,h.hlst i c _ d (Ja a)⟩
theorem PI.put {vs0:List (List zg)} {cur:List zg} {cs0:List CV} {c:CV} {t:zb} {n:Nat} (h:PI get N M0 get0 aL aO b os (vs0++[cur]) idL RL (cs0++[c]) cO) (hp:Put get idL os.length n RL c cur (vlC ⟨t,[]⟩) get') (hn:N<=n) (hnN:n<N')
  (hfr: ∀id,id<N->id+2<n) (hM:M0<=N):PI get' N' M0 get0 aL aO (b+1) os (vs0++[cur++[⟨t,[]⟩]]) idL (RL.set os.length [.osl n 0 (cur.length+1)]) (cs0++[.osl n 0 (cur.length+1)]) cO:=by
 obtain⟨p1,p2,p3,p4⟩:=hp;obtain⟨n1,n2,n3⟩:=h.ne;obtain⟨m1,m2,m3,m4,m5,m6⟩:=h.hM;have hcl:cs0.length=os.length:=by have:=h.hcl;rw[Ia]at this;simpa using this
 have hvl:vs0.length=os.length:=by have:=h.hvl;rw[Ia]at this;simpa using this
 have hLc:Lst get c cur:=h.hlst os.length c cur (by grind) (by grind);have hcR: ∀id∈zI c,M0<=id/\id<N:=h.href c (by simp);have kp: ∀id,id<N->id≠idL->id ∉ zI c->get' id=get id:=fun id a b d=>p4 id (hfr id a) b d;have nc: ∀{id:Nat} {ob:OB},get id=some ob->Nat.beq ob.ty 49=false->id ∉ zI c:=fun {id ob} ho hb hid=>by have:=hLc.at id hid;rw[ho]at this;simp_all
 have hl1:os.length<RL.length:=(Da.1 (h.hrow os.length c (by grind))).1;refine⟨(kp aL m4 n3 (nc h.hL rfl)).trans h.hL,p1,by grind,by grind,fun i d hi=> ?_,fun i row hi hlt=> ?_,fun i d v hi hv=> ?_,fun i j d d' hij hi hj id hid=> ?_,(kp aO m5 n2 (nc h.hO rfl)).trans h.hO,?_,h.hn,
  fun v hv=> ?_,fun id hid=>(kp id (by omega) (by omega) (fun q=>by grind)).trans (h.hk id hid),⟨m1,m2,m3,by omega,by omega,by omega⟩,fun d hd id hid=> ?_⟩
 ·rcases Qp hi with⟨h1,h2⟩|⟨h1,rfl⟩
  ·rw[Ee (by omega)];exact h.hrow i d (by grind)
  grind
 ·rw[Ee (by omega)]at hi;exact h.hst i row hi hlt
 ·rcases Qp hi with⟨h1,h2⟩|⟨h1,rfl⟩
  ·rcases Qp hv with⟨h3,h4⟩|⟨h3,_⟩
   ·have hd:(cs0++[c])[i]? =some d:=by rw[Sc h1];exact h2
    refine(h.hlst i d v hd (by grind)).keep fun id hid=> ?_;have hr:=h.href d (Va hd) id hid;refine kp id hr.2 (fun e=> ?_) (h.hdis i os.length d c (by omega) hd (by grind) id hid);obtain⟨v',hv'⟩:=h.lst (Va hd);exact at1 (hv'.at id hid) h.hI rfl e
   ·omega
  ·rcases Qp hv with⟨h3,_⟩|⟨_,rfl⟩
   ·omega
   ·refine .inr ⟨n,by grind,?_⟩
    grind
 ·rcases Qp hi with⟨h1,h2⟩|⟨h1,rfl⟩
  ·have hd:(cs0++[c])[i]? =some d:=by rw[Sc h1];exact h2
   rcases Qp hj with⟨h3,h4⟩|⟨h3,rfl⟩
   ·exact h.hdis i j d d' hij hd (by grind) id hid
   ·intro q;have:=Oa.1 q;have:=(h.href d (Va hd) id hid).2;omega
  ·rcases Qp hj with⟨h3,h4⟩|⟨h3,rfl⟩
   ·have hd:(cs0++[c])[j]? =some d':=by rw[Sc h3];exact h4
    intro q;have e:=Oa.1 hid;have:=(h.href d' (Va hd) id q).2;omega
   ·omega
 ·rcases h.hop with q|⟨idO,RO,q1,q2,q3,q4,q5⟩
  ·exact .inl q
  ·exact .inr ⟨idO,RO,q1,(kp idO q4 (at1 q2 h.hI rfl) (nc q2 rfl)).trans q2,q3,by omega,q5⟩
 ·rcases Vb.1 hv with hv|hv
  ·have:=h.hb v (Md _ hv);omega
  ·rw[Oa.1 hv,Ia];have:=h.hb cur (by simp)
   grind
 ·rcases Vb.1 hd with hd|hd
  ·have:=h.href d (Md _ hd) id hid;grind
  ·rw[Oa.1 hd]at hid;rw[Oa.1 hid];grind
theorem PI.push {t:zb} {s m:Nat} {g:List (List CV)} (h:PI get N M0 get0 aL aO b os vs idL RL cs cO) (hn:os.length<16) (f1:get' aL=some ⟨52,1,[[.osl s 0 (os.length+2)]],none⟩) (R:get' s=some ⟨23,1,RL.take (os.length+1)++[[nilC]],none⟩)
  (D:get' aO=some ⟨22,1,[[.osl m 0 (os.length+1)]],none⟩) (Q:get' m=some ⟨44,5,g,none⟩) (y: ∀(i:Nat) o,(os++[t])[i]? =some o->g[i]? =some (tkC o))
  (A: ∀id,id<N->id≠aL->id≠aO->id≠idL->id ∉ zI cO->get' id=get id) (B:N<=s/\s<N') (C:N<=m/\m<N') (X:M0<=N):
  PI get' N' M0 get0 aL aO b (os++[t]) (vs++[[]]) s (RL.take (os.length+1)++[[nilC]]) (cs++[nilC]) (.osl m 0 (os.length+1)):=by
 obtain⟨W,Y,U⟩:=h.ne;obtain⟨J,L,V,Z,m5,m6⟩:=h.hM;have f:(os++[t]).length=os.length+1:=by rw[Ia];rfl
 have G:os.length+1<=RL.length:=by
  have a:os.length<cs.length:=by rw[h.hcl];exact Ub _
  have:=(Da.1 (h.hrow os.length _ (Ja a))).1;omega
 have E:(RL.take (os.length+1)).length=os.length+1:=by rw[Pd];omega
 have O: ∀id∈zI cO,∃RO,get id=some ⟨44,5,RO,none⟩/\M0<=id:=fun id hid=>by
  rcases h.hop with⟨rfl,_⟩|⟨P,RO,rfl,T,S,_⟩
  ·cases hid
  ·rw[Oa.1 hid];grind
 have M: ∀c∈cs,∀id∈zI c,get' id=get id:=fun c z id hid=>by
  obtain⟨v,e⟩:=h.lst z;have w:=e.at id hid;exact A id (h.href c z id hid).2 (at1 w h.hL rfl) (at1 w h.hO rfl) (at1 w h.hI rfl) fun q=>by
   grind
 refine⟨by grind,R,by rw[Ia,h.hcl,f];rfl,by rw[Ia,h.hvl,f];rfl,fun i d n=> ?_,fun i F n a=> ?_,fun i d v n e=> ?_,fun i j d K x n H id hid=> ?_,D, .inr ⟨m,g,by rw[f],Q,by omega,C.2,y⟩,by rw[f];omega,
  fun v e=> ?_,fun id hid=>(A id (by omega) (by omega) (by omega) (by omega) (fun q=>by grind)).trans (h.hk id hid),⟨J,L,by omega,by omega,by omega,B.2⟩,fun d r id hid=> ?_⟩
 ·rcases Qp n with⟨k,p⟩|⟨k,rfl⟩
  ·have a:i<os.length+1:=by rw[<-h.hcl];exact k
   rw[Sc (by grind),List.getElem?_take_of_lt a];exact h.hrow i d p
  ·rw[k,h.hcl]
   grind
 ·grind
 ·rcases Qp n with⟨k,p⟩|⟨k,rfl⟩
  ·rcases Qp e with⟨l,u⟩|⟨l,_⟩
   ·exact(h.hlst i d v p u).keep (M d (Va p))
   ·rw[h.hvl,<-h.hcl]at l;omega
  ·rcases Qp e with⟨l,_⟩|⟨_,rfl⟩
   ·rw[h.hvl,<-h.hcl]at l;omega
   ·exact .inl ⟨rfl,rfl⟩
 ·rcases Qp n with⟨k,p⟩|⟨k,rfl⟩
  ·rcases Qp H with⟨l,u⟩|⟨l,rfl⟩
   ·exact h.hdis i j d K x p u id hid
   ·intro q;cases q
  ·cases hid
 ·rcases Vb.1 e with e|e
  ·exact h.hb v e
  grind
 ·rcases Vb.1 r with r|r
  ·have:=h.href d r id hid;grind
  ·rw[Oa.1 r]at hid;cases hid
theorem PI.shut {os0:List zb} {o:zb} {vs0:List (List zg)} {v1 v2:List zg} {cs0:List CV} {c1 c2:CV} {idO:Nat} {RO:List (List CV)} (h:PI get N M0 get0 aL aO b (os0++[o]) (vs0++[v1]++[v2]) idL RL (cs0++[c1]++[c2]) (.osl idO 0 (os0.length+1)))
  (hRO:get idO=some ⟨44,5,RO,none⟩) (hRO': ∀(i:Nat) o',(os0++[o])[i]? =some o'->RO[i]? =some (tkC o')) (hOM:M0<=idO/\idO<N) (hU:zsW get aO aL idO idL os0.length N RL c1 c2 v1 v2 o get') (hM:M0<=N):
  PI get' (N+1) M0 get0 aL aO (b+1) os0 (vs0++[v1++[⟨o,v2⟩]]) idL ((RL.set (os0.length+1) [.p (.sl (v2.map zD))]).set os0.length [.osl N 0 (v1.length+1)]) (cs0++[.osl N 0 (v1.length+1)]) (.osl idO 0 os0.length):=by
 obtain⟨n1,n2,n3⟩:=h.ne;obtain⟨m1,m2,m3,m4,m5,m6⟩:=h.hM;have hol:(os0++[o]).length=os0.length+1:=by rw[Ia];rfl
 have hcl:cs0.length=os0.length:=by have:=h.hcl;simp only[Ia,Sa,lc]at this;omega
 have hvl:vs0.length=os0.length:=by have:=h.hvl;simp only[Ia,Sa,lc]at this;omega
 have a1:(cs0++[c1]++[c2])[os0.length]? =some c1:=by rw[Sc (by simp;omega),<-hcl];exact uj _ _
 have a2:(cs0++[c1]++[c2])[os0.length+1]? =some c2:=by rw[show os0.length+1=(cs0++[c1]).length by simp;omega];exact uj _ _
 have b1:(vs0++[v1]++[v2])[os0.length]? =some v1:=by rw[Sc (by simp;omega),<-hvl];exact uj _ _
 have b2:(vs0++[v1]++[v2])[os0.length+1]? =some v2:=by rw[show os0.length+1=(vs0++[v1]).length by simp;omega];exact uj _ _
 have a0: ∀{i:Nat} {d:CV},i<cs0.length->cs0[i]? =some d->(cs0++[c1]++[c2])[i]? =some d:=fun {i d} h1 h2=>by
  grind
 have b0: ∀{i:Nat} {d:List zg},i<vs0.length->vs0[i]? =some d->(vs0++[v1]++[v2])[i]? =some d:=fun {i d} h1 h2=>by
  grind
 have L1:=h.hlst _ _ _ a1 b1;have L2:=h.hlst _ _ _ a2 b2;have r1:=h.hrow _ _ a1;have r2:=h.hrow _ _ a2;have hl1:os0.length+1<RL.length:=(Da.1 r2).1;have kp: ∀{id:Nat} {ob:OB},get id=some ob->id<N->id≠aO->id≠aL->id≠idL->id ∉ zI c1->id ∉ zI c2->get' id=get id:=fun hg hlt h1 h2 h3 h4 h5=>hU.keep _ h1 h2 h3 (by omega) h4 h5;have kc: ∀{i:Nat} {d:CV},i<cs0.length->cs0[i]? =some d-> ∀id∈zI d,get' id=get id:=fun {i d} h1 h2 id hid=>by have hd:=a0 h1 h2;obtain⟨v,hv⟩:=h.lst (Va hd);have hg:=hv.at id hid;exact kp hg (h.href d (Va hd) id hid).2 (at1 hg h.hO rfl) (at1 hg h.hL rfl) (at1 hg h.hI rfl) (h.hdis _ _ d c1 (by omega) hd a1 id hid) (h.hdis _ _ d c2 (by omega) hd a2 id hid)
 refine⟨hU.uL,hU.uI,by grind,by grind,fun i d hi=> ?_,fun i row hi hlt=> ?_,fun i d v hi hv=> ?_,fun i j d d' hij hi hj id hid=> ?_,hU.uO, .inr ⟨idO,RO,rfl,?_,hOM.1,by omega,fun i o' hi=>hRO' i o' (by grind)⟩,by have:=h.hn;grind,
  fun v hv=> ?_,fun id hid=>(hU.keep id (by omega) (by omega) (by omega) (by omega) (fun q=> ?_) (fun q=> ?_)).trans (h.hk id hid),⟨m1,m2,m3,by omega,by omega,by omega⟩,fun d hd id hid=> ?_⟩
 ·rcases Qp hi with⟨h1,h2⟩|⟨h1,rfl⟩
  ·rw[Ee (by omega),Ee (by omega)];exact h.hrow i d (a0 h1 h2)
  grind
 ·rw[Ee (by omega)]at hi;by_cases h1:i=os0.length+1
  ·subst h1;rw[List.getElem?_set_self hl1]at hi;cases hi;intro c hc;rw[Oa.1 hc];rfl
  ·rw[Ee (Ne.symm h1)]at hi;exact h.hst i row hi (by rw[hol];omega)
 ·rcases Qp hi with⟨h1,h2⟩|⟨h1,rfl⟩
  ·rcases Qp hv with⟨h3,h4⟩|⟨h3,_⟩
   ·exact(h.hlst i d v (a0 h1 h2) (b0 h3 h4)).keep (kc h1 h2)
   ·omega
  ·rcases Qp hv with⟨h3,_⟩|⟨_,rfl⟩
   ·omega
   ·refine .inr ⟨N,by rw[Ia];rfl,?_⟩;rw[ic];exact hU.uN
 ·rcases Qp hi with⟨h1,h2⟩|⟨h1,rfl⟩
  ·rcases Qp hj with⟨h3,h4⟩|⟨h3,rfl⟩
   ·exact h.hdis i j d d' hij (a0 h1 h2) (a0 h3 h4) id hid
   ·intro q;have:=Oa.1 q;have:=(h.href d (Va (a0 h1 h2)) id hid).2;omega
  ·rcases Qp hj with⟨h3,h4⟩|⟨h3,rfl⟩
   ·intro q;have e:=Oa.1 hid;have:=(h.href d' (Va (a0 h3 h4)) id q).2;omega
   ·omega
 ·rw[kp hRO hOM.2 (at1 hRO h.hO rfl) (at1 hRO h.hL rfl) (at1 hRO h.hI rfl) (fun q=>at1 hRO (L1.at _ q) rfl rfl) (fun q=>at1 hRO (L2.at _ q) rfl rfl)];exact hRO
 ·rcases Vb.1 hv with hv|hv
  ·have:=h.hb v (Md _ (Md _ hv));omega
  ·rw[Oa.1 hv,Ia];have:=h.hb v1 (by simp);show v1.length+1<=b+1;omega
 ·have:=(h.href c1 (Va a1) id q).1;omega
 ·have:=(h.href c2 (Va a2) id q).1;omega
 ·rcases Vb.1 hd with hd|hd
  ·have:=h.href d (Md _ (Md _ hd)) id hid;exact⟨this.1,by omega⟩
  ·rw[Oa.1 hd]at hid;rw[Oa.1 hid];exact⟨hM,Ub _⟩
end
section
variable {nt:Nat} {ops:List Oper} {ρ:Nat->Nat} {K:TS->Prop}
theorem Walk.g {o:Oper} {l:List Oper} {f:Fp} {b:List Fp} {e:Env} {get:Get} {nx d:Nat} {t:TV} {rd:List Nat} (h:Op1 P (opd e) get nx o.op (.v t) rd [] 0) (a:o.dst=some d) (k:Nat.blt d nt=true) (j:qH ops e o.guard=some (some true))
  (h2:rd=f.1.map ρ) (i:[]=f.2.map ρ) (c:Walk P nt ops ρ l b ⟨(d, .opt true t)::e,get,nx⟩ K):Walk P nt ops ρ (o::l) (f::b) ⟨e,get,nx⟩ K:=
 ⟨_,opG h j (fun p m=>by simp_all),h2,i,by unfold Ze;rw[a];exact c⟩
theorem Walk.f {o:Oper} {l:List Oper} {f:Fp} {b:List Fp} {e:Env} {get:Get} {nx d:Nat} (t:TV) (a:o.dst=some d) (i:Nat.blt d nt=true) (h:qH ops e o.guard=some (some false))
  (h2:[]=f.1.map ρ) (g:[]=f.2.map ρ) (c:Walk P nt ops ρ l b ⟨(d, .opt false t)::e,get,nx⟩ K):Walk P nt ops ρ (o::l) (f::b) ⟨e,get,nx⟩ K:=
 ⟨_,opF h (fun k j=>by simp_all) t,h2,g,by unfold Ze;rw[a];exact c⟩
theorem Walk.cl {o:Oper} {l:List Oper} {f:Fp} {b:List Fp} {e:Env} {get:Get} {nx d:Nat} {c:Call} {x:Operand} {k:Int} (q:o.op= .call c) (r:c.callee= .value (.func 61)) (u:c.args.toList=[x]) (i:opd e x= .v (.c (.p (.at (.int .u8 k))))) (a:o.dst=some d) (y:Nat.blt d nt=true) (m:o.guard=none)
  (h2:[]=f.1.map ρ) (j:[]=f.2.map ρ) (h:Walk P nt ops ρ l b ⟨(d, .v (.c (.p (.at (.int .u8 (zo k))))))::e,get,nx⟩ K):Walk P nt ops ρ (o::l) (f::b) ⟨e,get,nx⟩ K:=
 ⟨_,wI (P:=P) (nt:=nt) (ops:=ops) (o:=o) (s:=⟨e,get,nx⟩) (g:=none) (c:=c) (cf:= .func 61) (f:=61) (caps:=[]) (g0:=true) (g1:=true) («as»:=[.c (.p (.at (.int .u8 k)))]) (rd:=[]) (k:=0) (up:=[]) (by rw[m];rfl) (fun A z=>by simp_all) q r (.inl rfl)
  (by rw[u];simp only[ja,Oc,i];rfl) (fun _=>⟨rfl, .inl rfl⟩) (fun _=>dQ k nx) (fun p w=>by cases w),h2,j,by unfold Ze;rw[a];exact h⟩
theorem Walk.clg {o:Oper} {l:List Oper} {f:Fp} {b:List Fp} {e:Env} {get:Get} {nx d:Nat} {c:Call} {x:Operand} {k:Int} (q:o.op= .call c) (r:c.callee= .value (.func 61)) (u:c.args.toList=[x]) (i:opd e x= .opt true (.c (.p (.at (.int .u8 k))))) (a:o.dst=some d) (w:Nat.blt d nt=true) (m:qH ops e o.guard=some (some true))
  (h2:[]=f.1.map ρ) (j:[]=f.2.map ρ) (h:Walk P nt ops ρ l b ⟨(d, .opt true (.c (.p (.at (.int .u8 (zo k))))))::e,get,nx⟩ K):Walk P nt ops ρ (o::l) (f::b) ⟨e,get,nx⟩ K:=
 ⟨_,wI (P:=P) (nt:=nt) (ops:=ops) (o:=o) (s:=⟨e,get,nx⟩) (g:=some true) (c:=c) (cf:= .func 61) (f:=61) (caps:=[]) (g0:=true) (g1:=true) («as»:=[.c (.p (.at (.int .u8 k)))]) (rd:=[]) (k:=0) (up:=[]) m (fun z y=>by simp_all) q r (.inl rfl)
  (by rw[u];simp only[ja,Oc,i];rfl) (fun _=>⟨rfl, .inl rfl⟩) (fun _=>dQ k nx) (fun p v=>by cases v),h2,j,by unfold Ze;rw[a];exact h⟩
end
abbrev Sk:Code:=match Tryz.f16.body with
 |some (.seq _ (.seq _ (.seq _ (.seq _ (.seq (.seq _ (.block _ (.loop (.seq _ (.seq _ (.seq (.block _ (.seq _ (.seq _ (.block _ c)))) _)))))) _)))))=>c
 |_=> .skip
section
variable {aL aO aT n N:Nat} {e:Env} {G:Get} {Q:Post} {t o:zb} {idO:Nat} {RO:List (List CV)}
theorem xW(h5:look e 5= .v (.c (.optr aO 0 0)))(h9:look e 9= .v (.c (.p (.at (.int .i64 ((0:Nat):Int))))))(h: ∀e',(∀t,t<23->look e' t=look e t)->look e' 47= .v (.c (.p (.at (.bool false))))->Q .normal e' ⟨N,G⟩):
  SW P 93 (match Sk with| .seq c _=>c|_=> .skip) Q e ⟨N,G⟩:=by
 refine SW.regD mixed (fun _=>0) 0 (List.replicate 15 ([],[])) (by decide) (fun i j hi=>absurd hi (Rf _)) (by kernel_rfl) (by kernel_rfl) ?_;refine Walk.n (val:= .v (.c (.p (.at (.int .i64 ((0:Nat):Int)))))) (by have:=Op1.move (P:=P) (E:=opd e) (get:=G) (nx:=N) (.tmp 9);rw[show opd e (.tmp 9)=_ from h9]at this;exact this) rfl rfl rfl rfl rfl ?_;refine Walk.n (Op1.bin (val:= .v (.c (.p (.at (.bool false))))) (.inl rfl) (.inl rfl) (fun _ _=>rfl)) rfl rfl rfl rfl rfl ?_;refine Walk.n (Op1.move _) rfl rfl rfl rfl rfl ?_
 iterate 10 refine Walk.f (.c (.p (.at (.bool false)))) rfl rfl rfl rfl rfl ?_
 refine Walk.n (Op1.pick (z:=false) (ga:=false) (x:=false) (gb:=true) (y:=false) rfl rfl rfl (fun h=>by cases h) (fun _=>rfl)) rfl rfl rfl rfl rfl ?_;refine Walk.n (Op1.assign _) rfl rfl rfl rfl rfl ?_;refine Walk.end ?_;exact h _ (fun t ht=>by simp only[look];repeat rw[Ga (by omega)]) rfl
theorem mv{x:Operand}{v:LV}{get:Get}{nx:Nat}(h:opd e x=v):Op1 P (opd e) get nx (.move x) v [] [] 0:=by subst h;exact Op1.move _
theorem wW {m:Nat} (B:m<=16) (r:look e 5= .v (.c (.optr aO 0 0))) (w:look e 8= .v (.c (.optr aT 0 0))) (j:look e 9= .v (.c (.p (.at (.int .i64 ((m+1:Nat):Int)))))) (b:G aO=some ⟨22,1,[[.osl idO 0 (m+1)]],none⟩) (a:G idO=some ⟨44,5,RO,none⟩)
  (s:RO[m]? =some (tkC o)) (d:G aT=some ⟨44,5,[tkC t],none⟩) (E:idO≠aT) (h: ∀f,(∀t,t<23->look f t=look e t)->look f 47= .v (.c (.p (.at (.bool (t.kind==zo o.kind)))))->Q .normal f ⟨N,G⟩):
  SW P 93 (match Sk with| .seq c _=>c|_=> .skip) Q e ⟨N,G⟩:=by
 have A:aO≠idO:=at1 b a rfl;have C:aO≠aT:=at1 b d rfl;have u:IntKind.i64.wrap (((m+1:Nat):Int) - 1)=(m:Int):=by rw[w64s (by omega) (by omega)];omega
 have q:decide (((m+1:Nat):Int)>0)=true:=Ma (by omega);refine SW.regD mixed (fun i=>[aT,aO,idO].getD i 0) 3 [([],[]),([],[]),([],[]),([0],[]),([0],[]),([1],[]),([],[]),([],[]),([2],[]),([2],[]),([2],[]),([],[]),([],[]),([],[]),([],[])] (by decide)
  (Mi (l:=[aT,aO,idO]) (by grind)) (by kernel_rfl) (by kernel_rfl) ?_
 refine Walk.n (mv j) rfl rfl rfl rfl rfl ?_;refine Walk.n (Op1.bin (val:= .v (.c (.p (.at (.bool true))))) (.inl rfl) (.inl rfl) (fun _ _=>by rw[<-q];rfl)) rfl rfl rfl rfl rfl ?_;refine Walk.n (Op1.move _) rfl rfl rfl rfl rfl ?_;refine Walk.g (Op1.fldO (.inl w) d k44 rfl (by rw[c5];decide)) rfl rfl rfl rfl rfl ?_;refine Walk.g (Op1.load (cs:=tkC t) (.inr rfl) d rfl rfl k5) rfl rfl rfl rfl rfl ?_;refine Walk.g (Op1.load (.inl r) b rfl rfl k22) rfl rfl rfl rfl rfl ?_;refine Walk.g (mv j) rfl rfl rfl rfl rfl ?_;refine Walk.g (Op1.bin (val:= .v (.c (.p (.at (.int .i64 (m:Int)))))) (.inr rfl) (.inl rfl) (fun _ _=>by rw[<-u];rfl)) rfl rfl rfl rfl rfl ?_;refine Walk.g (Op1.idxL (.inr rfl) (.inr rfl) a k22 c44 rfl (by decide) (Ub m)) rfl rfl rfl rfl rfl ?_;refine Walk.g (Op1.fldO (.inr rfl) a k44 rfl (by rw[c5];decide)) rfl rfl rfl rfl rfl ?_;refine Walk.g (Op1.load (cs:=tkC o) (.inr rfl) a s rfl k5) rfl rfl rfl rfl rfl ?_;refine Walk.clg (k:=o.kind) rfl rfl rfl rfl rfl rfl rfl rfl rfl ?_;refine Walk.g (Op1.bin (val:= .v (.c (.p (.at (.bool (t.kind==zo o.kind)))))) (.inr rfl) (.inr rfl) (fun _ _=>rfl)) rfl rfl rfl rfl rfl ?_;refine Walk.n (Op1.pick (z:=true) (ga:=true) (x:=t.kind==zo o.kind) (gb:=true) (y:=false) rfl rfl rfl (fun _=>rfl) (fun h=>by cases h)) rfl rfl rfl rfl rfl ?_;refine Walk.n (Op1.assign _) rfl rfl rfl rfl rfl ?_;refine Walk.end ?_;exact h _ (fun t D=>by simp only[look];repeat rw[Ga (by omega)]) rfl
theorem r15(d:look e 8= .v (.c (.optr aT 0 0)))(b:G aT=some ⟨44,5,[tkC t],none⟩)(h: ∀a,(∀t,t<23->look a t=look e t)->look a 64= .v (.c (.p (.at (.bool (zo t.kind != 0)))))->Q .normal a ⟨N,G⟩):
  SW P 93 (match Sk with| .seq _ (.cond _ _ (.seq c _))=>c|_=> .skip) Q e ⟨N,G⟩:=by
 refine SW.reg (fun _=>aT) [([0],[]),([0],[]),([],[]),([],[]),([],[])] ?_;refine Walk.n (Op1.fldO (.inl d) b k44 rfl (by rw[c5];decide)) rfl rfl rfl rfl rfl ?_;refine Walk.n (Op1.load (cs:=tkC t) (.inl rfl) b rfl rfl k5) rfl rfl rfl rfl rfl ?_;refine Walk.cl (k:=t.kind) rfl rfl rfl rfl rfl rfl rfl rfl rfl ?_;refine Walk.n (Op1.bin (val:= .v (.c (.p (.at (.bool (zo t.kind != 0)))))) (.inl rfl) (.inl rfl) (fun _ _=>rfl)) rfl rfl rfl rfl rfl ?_;refine Walk.n (Op1.assign _) rfl rfl rfl rfl rfl ?_;refine Walk.end ?_;exact h _ (fun t f=>by simp only[look];grind) rfl
theorem r16(b:look e 9= .v (.c (.p (.at (.int .i64 ((n:Nat):Int))))))(h: ∀a,(∀t,t<23->look a t=look e t)->look a 70= .v (.c (.p (.at (.bool (((n:Nat):Int)==16)))))->Q .normal a ⟨N,G⟩):
  SW P 93 (match Sk with| .seq _ (.cond _ _ (.seq _ (.cond _ (.seq (.seq c _) _) _)))=>c|_=> .skip) Q e ⟨N,G⟩:=by
 refine SW.reg (fun _=>0) [([],[]),([],[])] ?_;refine Walk.n (mv b) rfl rfl rfl rfl rfl ?_;refine Walk.n (Op1.bin (val:= .v (.c (.p (.at (.bool (((n:Nat):Int)==16)))))) (.inl rfl) (.inl rfl) (fun _ _=>rfl)) rfl rfl rfl rfl rfl ?_;refine Walk.end ?_;exact h _ (fun t d=>by simp only[look];grind) rfl
end
section
variable {aL aO aT idL n N:Nat} {e:Env} {G:Get} {Q:Post} {t:zb} {RL:List (List CV)}
theorem zEj (w:look e 4= .v (.c (.optr aL 0 0))) (y:look e 5= .v (.c (.optr aO 0 0))) (A:look e 8= .v (.c (.optr aT 0 0))) (b:G aL=some ⟨52,1,[[.osl idL 0 (n+1)]],none⟩) (g:G idL=some ⟨23,1,RL,none⟩) (f:G aT=some ⟨44,5,[tkC t],none⟩)
  (d:G aO=some ⟨22,1,[[nilC]],none⟩) (o:n=0)
  (H:n<=16) (p:n+1<=RL.length) (k:aL<N/\aO<N/\aT<N/\idL<N)
  (h: ∀x get',(∀t,t<23->look x t=look e t)->get' aL=some ⟨52,1,[[.osl (N+1) 0 (n+2)]],none⟩->get' (N+1)=some ⟨23,1,RL.take (n+1)++[[nilC]],none⟩->get' aO=some ⟨22,1,[[.osl (N+3) 0 (n+1)]],none⟩->
   get' (N+3)=some ⟨44,5,[tkC t],none⟩->(∀id,id<N->id≠aL->id≠aO->id≠idL->get' id=G id)->Q .normal x ⟨N+4,get'⟩):
  SW P 93 (match Sk with| .seq _ (.cond _ _ (.seq _ (.cond _ (.seq _ c) _)))=>c|_=> .skip) Q e ⟨N,G⟩:=by
 obtain⟨j,a,s,D⟩:=k;have q:aL≠aO:=at1 b d rfl;have C:aL≠idL:=at1 b g rfl;have J:aL≠aT:=at1 b f rfl;have r:aO≠idL:=at1 d g rfl;have K:aO≠aT:=at1 d f rfl;have z:idL≠aT:=at1 g f rfl;subst o;refine SW.regD mixed (fun i=>[aL,aO,aT,idL,N,N+1,N+2,N+3].getD i 0) 8 [([0],[]),([],[4]),([3,4],[3,5]),([1],[]),([2],[]),([],[6]),([6],[7]),([0],[0]),([1],[1])] (by decide)
  (Mi (l:=[aL,aO,aT,idL,N,N+1,N+2,N+3]) (by simp only[List.nodup_cons,Ab,Ke,List.nodup_nil,ng,not_or,Wh,and_true];omega)) (by kernel_rfl) (by kernel_rfl) ?_
 refine Walk.n (Op1.load (.inl w) b rfl rfl k52) rfl rfl rfl rfl rfl ?_;refine Walk.n (Op1.bs1 (u:= .c nilC) rfl k52 c23 rfl (by rw[aK];rfl) (by decide) (by decide) o23) rfl rfl rfl rfl rfl ?_;refine Walk.n (Op1.appO (n:=1) (row:=[nilC]) (m:=0+1) rfl rfl rfl rfl rfl (upK g (Db D)) upS rfl rfl k52 k52 c23 (by decide) rfl rfl p rfl (by rw[b23];omega) (by omega) o23) rfl rfl rfl rfl rfl ?_;refine Walk.n (Op1.load (.inl y) (upK2 (upK d (Db a)) r (Db (Kb a))) rfl rfl k22) rfl rfl rfl rfl rfl ?_;refine Walk.n (Op1.loadA (cs:=tkC t) (.inl A) (upK2 (upK f (Db s)) (Ne.symm z) (Db (Kb s))) rfl k44 c44 (Ya 5)) rfl rfl rfl rfl rfl ?_;refine Walk.n (Op1.bs1 (u:= .agg (tkC t)) rfl k22 c44 rfl (by rw[YK];rfl) (by decide) (by decide) o44) rfl rfl rfl rfl rfl ?_;refine Walk.n (Op1.appN (n:=5) (row:=tkC t) rfl rfl rfl rfl rfl upS rfl rfl k22 k22 c44 (by decide) rfl (by rw[b44];decide) o44) rfl rfl rfl rfl rfl ?_;refine Walk.n0 (Op1.storeX (cs:=[.osl idL 0 (0+1)]) (.inl w) (.inl rfl) (upK (upK (upK2 (upK b (Db j)) C (Db (Kb j))) (Db (Kb (Kb j)))) (Db (Kb (Kb (Kb j))))) rfl k52 c52 rfl rfl rfl) rfl rfl rfl rfl ?_;refine Walk.n0 (Op1.storeX (cs:=[nilC]) (.inl y) (.inl rfl) (upK (upK (upK (upK2 (upK d (Db a)) r (Db (Kb a))) (Db (Kb (Kb a)))) (Db (Kb (Kb (Kb a))))) (Ne.symm q)) rfl k22 c22 rfl rfl rfl) rfl rfl rfl rfl ?_;refine Walk.end ?_;refine h _ _ (fun t L=>by simp only[look];grind) ?_ ?_ ?_ ?_ (fun id hid B E F=> ?_)
 ·exact upK upS q
 ·exact upK (upK (upK (upK (upS2 (by grind)) (by grind)) (by grind)) (by grind)) (by grind)
 ·exact upS
 ·exact upK (upK upS (by grind)) (by grind)
 ·exact upK (upK (upK (upK (upK2 (upK rfl (by grind)) F (by grind)) (by grind)) (by grind)) B) E
theorem zEk {idO:Nat} {RO:List (List CV)} (y:look e 4= .v (.c (.optr aL 0 0))) (A:look e 5= .v (.c (.optr aO 0 0))) (C:look e 8= .v (.c (.optr aT 0 0))) (b:G aL=some ⟨52,1,[[.osl idL 0 (n+1)]],none⟩) (g:G idL=some ⟨23,1,RL,none⟩) (j:G aT=some ⟨44,5,[tkC t],none⟩)
  (f:G aO=some ⟨22,1,[[.osl idO 0 n]],none⟩) (a:G idO=some ⟨44,5,RO,none⟩) (o:n<=RO.length) (U:idO≠aT)
  (R:n<=16) (r:n+1<=RL.length) (p:aL<N/\aO<N/\aT<N/\idL<N/\idO<N)
  (h: ∀z get',(∀t,t<23->look z t=look e t)->get' aL=some ⟨52,1,[[.osl (N+1) 0 (n+2)]],none⟩->get' (N+1)=some ⟨23,1,RL.take (n+1)++[[nilC]],none⟩->get' aO=some ⟨22,1,[[.osl (N+3) 0 (n+1)]],none⟩->
   get' (N+3)=some ⟨44,5,RO.take n++[tkC t],none⟩->(∀id,id<N->id≠aL->id≠aO->id≠idL->id≠idO->get' id=G id)->Q .normal z ⟨N+4,get'⟩):
  SW P 93 (match Sk with| .seq _ (.cond _ _ (.seq _ (.cond _ (.seq _ c) _)))=>c|_=> .skip) Q e ⟨N,G⟩:=by
 obtain⟨k,d,x,J,q⟩:=p;have s:aL≠aO:=at1 b f rfl;have E:aL≠idL:=at1 b g rfl;have S:aL≠aT:=at1 b j rfl;have w:aO≠idL:=at1 f g rfl;have T:aO≠aT:=at1 f j rfl;have B:idL≠aT:=at1 g j rfl;have H:aL≠idO:=at1 b a rfl;have L:aO≠idO:=at1 f a rfl;have M:idL≠idO:=at1 g a rfl;refine SW.regD mixed (fun i=>[aL,aO,aT,idL,N,N+1,N+2,N+3,idO].getD i 0) 9 [([0],[]),([],[4]),([3,4],[3,5]),([1],[]),([2],[]),([],[6]),([8,6],[8,7]),([0],[0]),([1],[1])] (by decide)
  (Mi (l:=[aL,aO,aT,idL,N,N+1,N+2,N+3,idO]) (by simp only[List.nodup_cons,Ab,Ke,List.nodup_nil,ng,not_or,Wh,and_true];omega)) (by kernel_rfl) (by kernel_rfl) ?_
 refine Walk.n (Op1.load (.inl y) b rfl rfl k52) rfl rfl rfl rfl rfl ?_;refine Walk.n (Op1.bs1 (u:= .c nilC) rfl k52 c23 rfl (by rw[aK];rfl) (by decide) (by decide) o23) rfl rfl rfl rfl rfl ?_;refine Walk.n (Op1.appO (n:=1) (row:=[nilC]) (m:=n+1) rfl rfl rfl rfl rfl (upK g (Db J)) upS rfl rfl k52 k52 c23 (by decide) rfl rfl r rfl (by rw[b23];omega) (by omega) o23) rfl rfl rfl rfl rfl ?_;refine Walk.n (Op1.load (.inl A) (upK2 (upK f (Db d)) w (Db (Kb d))) rfl rfl k22) rfl rfl rfl rfl rfl ?_;refine Walk.n (Op1.loadA (cs:=tkC t) (.inl C) (upK2 (upK j (Db x)) (Ne.symm B) (Db (Kb x))) rfl k44 c44 (Ya 5)) rfl rfl rfl rfl rfl ?_;refine Walk.n (Op1.bs1 (u:= .agg (tkC t)) rfl k22 c44 rfl (by rw[YK];rfl) (by decide) (by decide) o44) rfl rfl rfl rfl rfl ?_;refine Walk.n (Op1.appO (n:=5) (row:=tkC t) (m:=n) rfl rfl rfl rfl rfl (upK (upK2 (upK a (Db q)) (Ne.symm M) (Db (Kb q))) (Db (Kb (Kb q)))) upS rfl rfl k22 k22 c44 (by decide) rfl rfl o rfl (by rw[b44];omega) (by omega) o44) rfl rfl rfl rfl rfl ?_;refine Walk.n0 (Op1.storeX (cs:=[.osl idL 0 (n+1)]) (.inl y) (.inl rfl) (upK2 (upK (upK2 (upK b (Db k)) E (Db (Kb k))) (Db (Kb (Kb k)))) H (Db (Kb (Kb (Kb k))))) rfl k52 c52 rfl rfl rfl) rfl rfl rfl rfl ?_;refine Walk.n0 (Op1.storeX (cs:=[.osl idO 0 n]) (.inl A) (.inl rfl) (upK (upK2 (upK (upK2 (upK f (Db d)) w (Db (Kb d))) (Db (Kb (Kb d)))) L (Db (Kb (Kb (Kb d))))) (Ne.symm s)) rfl k22 c22 rfl rfl rfl) rfl rfl rfl rfl ?_;refine Walk.end ?_;refine h _ _ (fun t V=>by simp only[look];grind) ?_ ?_ ?_ ?_ (fun id hid D K O F=> ?_)
 ·exact upK upS s
 ·exact upK (upK (upK2 (upK (upS2 (by grind)) (by grind)) (by grind) (by grind)) (by grind)) (by grind)
 ·exact upS
 ·exact upK (upK (upS2 (by grind)) (by grind)) (by grind)
 ·exact upK (upK (upK2 (upK (upK2 (upK rfl (by grind)) O (by grind)) (by grind)) F (by grind)) D) K
end
theorem zBE{nt:Nat}{e:Env}{g:Get}{M n:Nat}{v:List zg}{t:zb}(h:g n=some ⟨49,6,v.map vlC++[tkC t++[nilC]],none⟩):Sub nt e ⟨M,g⟩ e ⟨M,upd g [(n,some ⟨49,6,v.map vlC++[vlC ⟨t,[]⟩],none⟩)]⟩:=by
 refine recast (Z:=fun _=>False) (Ya _) (fun z u=>u.elim) (fun id l d _=> ?_) (fun t=>RcL.refl _);replace d:upd g [(n,some ⟨49,6,v.map vlC++[vlC ⟨t,[]⟩],none⟩)] id=some l:=d;by_cases o:id=n
 ·subst o;rw[upS]at d;cases d;refine⟨_,h,rfl,rfl,by grind,fun i A q a b=> ?_,rfl⟩;rcases Qp a with⟨w,s⟩|⟨w,rfl⟩
  ·rcases Qp b with⟨f,k⟩|⟨f,_⟩
   ·rw[s]at k;cases k;exact⟨rfl,fun j x y m c=>by rw[m]at c;cases c;exact RcC.refl x⟩
   ·omega
  ·rcases Qp b with⟨f,_⟩|⟨_,rfl⟩
   ·omega
   ·refine⟨by rw[oz];rfl,fun j x y m c=> ?_⟩;rw[oz]at c;rcases Qp m with⟨f,k⟩|⟨f,rfl⟩
    ·rcases Qp c with⟨p,r⟩|⟨p,_⟩
     ·rw[k]at r;cases r;exact RcC.refl x
     ·omega
    ·rcases Qp c with⟨p,_⟩|⟨_,rfl⟩
     ·omega
     ·exact .inr ⟨_,rfl, .nil⟩
 ·rw[upK rfl o]at d;exact⟨l,d,RcO.refl l⟩
def Vp:List CV->List (List zg)->List (Nat×OB)
 | .osl id _ _::c,v::a=>(id,⟨49,6,v.map vlC,none⟩)::Vp c a
 |_::c,_::a=>Vp c a
 |_,_=>[]
theorem KH: ∀{cs:List CV} {vs:List (List zg)} {i id a b:Nat} {v:List zg},cs[i]? =some (.osl id a b)->vs[i]? =some v->(id,(⟨49,6,v.map vlC,none⟩:OB))∈Vp cs vs
 |[],_,i,_,_,_,_,h,_=>by simp at h
 |_::_,[],i,_,_,_,_,_,h=>by simp at h
 |c::cs,w::vs,0,id,a,b,v,h1,h2=>by cases h1;cases h2;exact Nb ..
 |c::cs,w::vs,i+1,id,a,b,v,h1,h2=>by have:=KH (cs:=cs) (vs:=vs) (i:=i) h1 h2;cases c<;>first|exact this|exact Eb _ this
theorem MM: ∀{cs:List CV} {vs:List (List zg)} {p:Nat×OB},p∈Vp cs vs-> ∃(i a b:Nat) (v:List zg),cs[i]? =some (.osl p.1 a b)/\vs[i]? =some v/\p.2=⟨49,6,v.map vlC,none⟩
 |[],vs,p,h=>by cases vs<;>cases h
 |c::cs,[],p,h=>by cases c<;>cases h
 |c::cs,w::vs,p,h=>by
  have d:p∈Vp cs vs-> ∃(i a b:Nat) (v:List zg),(c::cs)[i]? =some (.osl p.1 a b)/\(w::vs)[i]? =some v/\p.2=⟨49,6,v.map vlC,none⟩:=fun h=>by obtain⟨i,a,b,v,g,f,j⟩:=MM h;exact⟨i+1,a,b,v,g,f,j⟩
  cases c with
  |osl id a b=>
   rcases Ab.1 h with rfl|h
   ·exact⟨0,a,b,w,rfl,rfl,rfl⟩
   ·exact d h
  |_=>exact d h
section
variable {M0 aL aO b N idL idO:Nat} {e:Env} {G get0:Get} {Q:Post} {RL RO:List (List CV)}
theorem yU {o0 o1:Oper} {c:Call} {id d0 d1:Nat} {os0:List zb} {o:zb} {vs0:List (List zg)} {v1 v2:List zg} {cs0:List CV} {c1 c2:CV} (p0:o0.op= .move (.tmp 6)/\o0.dst=some d0/\o0.guard=none) (p1:o1.op= .call c/\o1.dst=some d1/\o1.guard=none)
  (pc:c.callee= .value (.tmp d0)/\c.args.toList=[]) (hd:Nat.blt d0 93=true/\Nat.blt d1 93=true/\23<=d0/\23<=d1) (h6:look e 6= .v (.c (.clo 60 [(aO,0,0),(aL,0,0)])))
  (hP:PI G N M0 get0 aL aO b (os0++[o]) (vs0++[v1]++[v2]) idL RL (cs0++[c1]++[c2]) (.osl idO 0 (os0.length+1))) (hIO:G idO=some ⟨44,5,RO,none⟩) (hRO: ∀(i:Nat) o',(os0++[o])[i]? =some o'->RO[i]? =some (tkC o')) (hOM:M0<=idO/\idO<N) (hb:b<=2000)
  (h: ∀e' get',(∀t,t<23->look e' t=look e t)->zsW G aO aL idO idL os0.length N RL c1 c2 v1 v2 o get'->Q .normal e' ⟨N+1,get'⟩):SW P 93 (.region id #[o0,o1] false) Q e ⟨N,G⟩:=by
 obtain⟨p00,p01,p02⟩:=p0;obtain⟨p10,p11,p12⟩:=p1;obtain⟨pc1,pc2⟩:=pc;obtain⟨hd0,hd1,hd2,hd3⟩:=hd;obtain⟨n1,n2,n3⟩:=hP.ne;obtain⟨m1,m2,m3,m4,m5,m6⟩:=hP.hM;have hol:(os0++[o]).length=os0.length+1:=by rw[Ia];rfl
 have hcl:cs0.length=os0.length:=by have:=hP.hcl;simp only[Ia,Sa,lc]at this;omega
 have hvl:vs0.length=os0.length:=by have:=hP.hvl;simp only[Ia,Sa,lc]at this;omega
 have a1:(cs0++[c1]++[c2])[os0.length]? =some c1:=by rw[Sc (by simp;omega),<-hcl];exact uj _ _
 have a2:(cs0++[c1]++[c2])[os0.length+1]? =some c2:=by rw[show os0.length+1=(cs0++[c1]).length by simp;omega];exact uj _ _
 have b1:(vs0++[v1]++[v2])[os0.length]? =some v1:=by rw[Sc (by simp;omega),<-hvl];exact uj _ _
 have b2:(vs0++[v1]++[v2])[os0.length+1]? =some v2:=by rw[show os0.length+1=(vs0++[v1]).length by simp;omega];exact uj _ _
 generalize hcs:cs0++[c1]++[c2]=cs at*;generalize hvs:vs0++[v1]++[v2]=vs at*
 let rd:List (Nat×OB):=[(aO,⟨22,1,[[.osl idO 0 (os0.length+1)]],none⟩),(aL,⟨52,1,[[.osl idL 0 (os0.length+2)]],none⟩),(idL,⟨23,1,RL,none⟩),(idO,⟨44,5,RO,none⟩)]++Vp cs vs
 have hrd: ∀p∈rd,G p.1=some p.2:=fun p hp=>by
  rcases Vb.1 hp with hp|hp
  ·rcases Ab.1 hp with rfl|hp
   ·exact hP.hO
   rcases Ab.1 hp with rfl|hp
   ·have:=hP.hL;rwa [hol]at this
   rcases Ab.1 hp with rfl|hp
   ·exact hP.hI
   grind
  ·obtain⟨i,a,b,v,q1,q2,q3⟩:=MM hp;rw[q3];exact(hP.hlst i _ v q1 q2).at p.1 (Oa.2 rfl)
 have inL: ∀{i:Nat} {c:CV},cs[i]? =some c-> ∀id∈zI c,∃ob,(id,ob)∈rd:=fun {i c} hc id hid=>by
  obtain⟨v,hv⟩: ∃v,vs[i]? =some v:=by
   grind
  rcases hP.hlst i c v hc hv with⟨rfl,_⟩|⟨j,rfl,_⟩
  ·cases hid
  ·rw[Oa.1 hid];exact⟨_,Ye _ (KH hc hv)⟩
 have isL: ∀{i:Nat} {c:CV} {v:List zg},cs[i]? =some c->vs[i]? =some v->c=nilC/\v=[]\/ ∃id,c= .osl id 0 v.length/\(id,(⟨49,6,v.map vlC,none⟩:OB))∈rd:=fun {i c v} hc hv=>by
  rcases hP.hlst i c v hc hv with q|⟨j,rfl,_⟩
  ·exact .inl q
  ·exact .inr ⟨j,rfl,Ye _ (KH hc hv)⟩
 have r1:=hP.hrow _ _ a1;have r2:=hP.hrow _ _ a2;have hn:os0.length+1<=16:=by have:=hP.hn;rwa [hol]at this
 have hv1:v1.length<=3000:=by have:=hP.hb v1 (Va b1);omega
 have call:=WX (nx:=N) (rd:=rd) (v1:=v1) (v2:=v2) (o:=o) (RO:=RO) (k:=os0.length) (aO:=aO) (aL:=aL) (idO:=idO) (idL:=idL) (by omega) hv1 r1 r2 (hRO _ _ (uj _ _)) (by simp[rd]) (by simp[rd]) (by simp[rd]) (by simp[rd]) (isL a1 b1) (isL a2 b2)
  (fun id hid=>hP.hdis _ _ c1 c2 (by omega) a1 a2 id hid) (fun i row hi hne c hc id hid=> ?_)
 ·have hp0: ∀d,o0.dst=some d->d<93:=fun d hd=>by simp_all
  have hp1: ∀d,o1.dst=some d->d<93:=fun d hd=>by rw[p11]at hd;cases hd;exact ZJ.1 hd1
  have s1:OpOK P 93 [o0,o1] o0 ⟨none, .v (.c (.clo 60 [(aO,0,0),(aL,0,0)])),[],[],N,0⟩ ⟨e,G,N⟩:=opN' (by rw[p00];exact mv h6) p02 hp0 rfl;have e1:Ze o0 ⟨none, .v (.c (.clo 60 [(aO,0,0),(aL,0,0)])),[],[],N,0⟩ ⟨e,G,N⟩=⟨(d0, .v (.c (.clo 60 [(aO,0,0),(aL,0,0)])))::e,G,N⟩:=by rw[stS p01];rfl
  have s2:OpOK P 93 [o0,o1] o1 ⟨none, .tup [],Tv aO aL idO idL os0.length N RL c1 c2 v1 v2 o,rd.map (·.1),N,1⟩ ⟨(d0, .v (.c (.clo 60 [(aO,0,0),(aL,0,0)])))::e,G,N⟩:=
   wI (s:=⟨(d0, .v (.c (.clo 60 [(aO,0,0),(aL,0,0)])))::e,G,N⟩) (g:=none) (c:=c) (cf:= .tmp d0) (f:=60) (caps:=[(aO,0,0),(aL,0,0)]) (g0:=true) (g1:=true) («as»:=[]) (rd:=rd) (k:=1) (by rw[p12];rfl) hp1 p10 pc1 (.inl (La rfl)) (by rw[pc2];rfl) (fun _=>⟨rfl, .inl (La rfl)⟩) (fun _=>call) hrd
  refine UD (s0:=⟨e,G,N⟩) (zs:=[(o0,(⟨none, .v (.c (.clo 60 [(aO,0,0),(aL,0,0)])),[],[],N,0⟩:Lv.RO)),(o1,(⟨none, .tup [],Tv aO aL idO idL os0.length N RL c1 c2 v1 v2 o,rd.map (·.1),N,1⟩:Lv.RO))]) rfl ⟨rfl,fun j oo r hj=> ?_⟩ ?_
  ·rcases j with _|_|j
   ·cases hj;exact s1
   ·cases hj;show OpOK P 93 [o0,o1] o1 _ (Ze o0 _ ⟨e,G,N⟩);rw[e1];exact s2
   ·cases hj
  ·show Q .normal (Ze o1 _ (Ze o0 _ ⟨e,G,N⟩)).e ⟨(Ze o1 _ (Ze o0 _ ⟨e,G,N⟩)).next,(Ze o1 _ (Ze o0 _ ⟨e,G,N⟩)).get⟩;rw[e1,stS p11];refine h _ _ (fun t ht=>by rw[Ug (by omega),Ug (by omega)]) ?_;have cr: ∀{i:Nat} {c:CV} {v:List zg},cs[i]? =some c->vs[i]? =some v-> ∀id∈zI c,id≠aO/\id≠aL/\id≠idL/\id≠N:=fun {i c v} hc hv id hid=>by have hg:=(hP.hlst i c v hc hv).at id hid;have:=(hP.href c (Va hc) id hid).2;exact⟨at1 hg hP.hO rfl,at1 hg hP.hL rfl,at1 hg hP.hI rfl,by omega⟩
   exact vP n1 n2 n3 ⟨by omega,by omega,by omega⟩ (fun id hid=>hid.elim (cr a1 b1 id) (cr a2 b2 id))
 ·by_cases hlt:i<os0.length+2
  ·have hc2:i<cs.length:=by rw[hP.hcl,hol];exact hlt
   have hci:=Ja hc2;have:=hP.hrow i _ hci;rw[hi]at this;cases this;rw[Oa.1 hc]at hid;exact inL hci id hid
  ·rw[hP.hst i row hi (by rw[hol];omega) c hc]at hid;cases hid
end
def PS(G:Get)(N M0:Nat)(get0:Get)(aL aO b:Nat)(s:PSt):Prop:= ∃a c f d,PI G N M0 get0 aL aO b (s.2.reverse.map (·.1)) (s.2.reverse.map (·.2)++[s.1]) a c f d
section
variable {M0 aL aO aT b:Nat} {e:Env} {G get0:Get} {Q:Post} {s:PSt} {t:zb}
theorem PS.of{N:Nat}{a:List zb}{vs:List (List zg)}{idL:Nat}{RL:List (List CV)}{cs:List CV}{cO:CV}(h:PI G N M0 get0 aL aO b a vs idL RL cs cO)(c:s.2.reverse.map (·.1)=a)(d:s.2.reverse.map (·.2)++[s.1]=vs):PS G N M0 get0 aL aO b s:=by subst c d;exact⟨_,_,_,_,h⟩
theorem last_of{α:Type}{l:List α}{n:Nat}(h:l.length=n+1): ∃a x,l=a++[x]:=by
 rcases List.eq_nil_or_concat l with rfl|⟨a,x,c⟩
 ·simp at h
 grind
theorem zCZ (hPS:PS G aT M0 get0 aL aO b s) (hns:Yl s.2 t=false) (hb:b<=2000) (hM:M0<=aT) (h4:look e 4= .v (.c (.optr aL 0 0))) (h5:look e 5= .v (.c (.optr aO 0 0))) (h8:look e 8= .v (.c (.optr aT 0 0))) (h9:look e 9= .v (.c (.p (.at (.int .i64 ((s.2.length:Nat):Int)))))) (hT:G aT=some ⟨44,5,[tkC t],none⟩)
  (h1: ∀s',qi s t=some s'-> ∀e' N' get',(∀t,t<23->look e' t=look e t)->aT<N'->(∃get2,(∀e2,Sub 93 e2 ⟨N',get'⟩ e2 ⟨N',get2⟩)/\PS get2 N' M0 get0 aL aO (b+1) s')->Q .normal e' ⟨N',get'⟩)
  (h2:qi s t=none-> ∀e',look e' 2= .v (.c nilC)->look e' 3= .v (.c (.p (.at (.int .i64 20))))->Q .ret e' ⟨aT+1,G⟩):
  SW P 93 (match Sk with| .seq _ (.cond _ _ c)=>c|_=> .skip) Q e ⟨aT+1,G⟩:=by
 obtain⟨cur,st⟩:=s;obtain⟨idL,RL,cs,cO,hP⟩:=hPS;simp only at hP h9 hns;have hos:(st.reverse.map (·.1)).length=st.length:=by rw[Xa,List.length_reverse]
 generalize ho:st.reverse.map (·.1)=os at hP hos;generalize hv:st.reverse.map (·.2)=vs0 at hP;obtain⟨n1,n2,n3⟩:=hP.ne;obtain⟨m1,m2,m3,m4,m5,m6⟩:=hP.hM;have hps:qi (cur,st) t=if zo t.kind≠0 then(if st.length=16 then none else some ([],(t,cur)::st))else some (cur++[⟨t,[]⟩],st):=by unfold qi;rw[Ga (by rw[hns];decide)]
 refine SW.seq (r15 h8 hT fun e1 k1 l1=> ?_);refine SW.condB (b:=zo t.kind != 0) l1 (fun hb1=> ?_) (fun hb1=> ?_)
 ·have hc:zo t.kind≠0:=by simpa using hb1
  rw[La hc]at hps;refine SW.seq (SW.seq (r16 (n:=st.length) ((k1 9 (by decide)).trans h9) fun e2 k2 l2=> ?_));refine SW.condB (b:=((st.length:Nat):Int)==16) l2 (fun hb2=> ?_) (fun hb2=> ?_)
  ·have h16:st.length=16:=by have:=Rb.1 hb2;omega
   rw[La h16]at hps;refine SW.seq (SW.reg (fun _=>0) [([],[]),([],[])] ?_);refine Walk.n (Op1.assign _) rfl rfl rfl rfl rfl ?_;refine Walk.n (Op1.assign _) rfl rfl rfl rfl rfl ?_;refine Walk.end ?_;refine SW.end_ ?_ (fun _ _ _=>wp_ret);exact h2 hps _ rfl rfl
  ·have h16:st.length≠16:=fun h=>by grind
   rw[Ga h16]at hps;refine SW.end_ ?_ (fun _ _ _=>wp_skip);show SW P 93 _ Q e2 ⟨aT+1,G⟩;have kk: ∀t,t<23->look e2 t=look e t:=fun t ht=>(k2 t ht).trans (k1 t ht);have hn16:os.length<16:=by have:=hP.hn;omega
   have hRl:os.length+1<=RL.length:=by
    have hlt:os.length<cs.length:=by rw[hP.hcl];exact Ub _
    have:=(Da.1 (hP.hrow os.length _ (Ja hlt))).1;omega
   have fin: ∀(get':Get) (ROs:List (List CV)),get' aL=some ⟨52,1,[[.osl (aT+1+1) 0 (os.length+2)]],none⟩->get' (aT+1+1)=some ⟨23,1,RL.take (os.length+1)++[[nilC]],none⟩->get' aO=some ⟨22,1,[[.osl (aT+1+3) 0 (os.length+1)]],none⟩->
     get' (aT+1+3)=some ⟨44,5,ROs,none⟩->(∀(i:Nat) o,(os++[t])[i]? =some o->ROs[i]? =some (tkC o))->(∀id,id<aT->id≠aL->id≠aO->id≠idL->id ∉ zI cO->get' id=G id)->PS get' (aT+1+4) M0 get0 aL aO (b+1) ([],(t,cur)::st):=fun get' ROs f1 f2 f3 f4 f5 f6=>by
    have:=(hP.grow (get':=G) (Ya _) (Nat.le_succ b) hM (fun _ _=>rfl)).push hn16 f1 f2 f3 f4 f5 f6 ⟨by omega,by omega⟩ ⟨by omega,by omega⟩ hM (N':=aT+1+4);exact PS.of this (by grind) (by grind)
   rcases hP.hop with⟨rfl,hos0⟩|⟨idO,RO,rfl,q2,q3,q4,q5⟩
   ·refine zEj (n:=os.length) (idL:=idL) (RL:=RL) (t:=t) ((kk 4 (by decide)).trans h4) ((kk 5 (by decide)).trans h5) ((kk 8 (by decide)).trans h8) hP.hL hP.hI hT hP.hO (by rw[hos0];rfl) (by omega) hRl ⟨by omega,by omega,by omega,by omega⟩ fun e' get' k3 f1 f2 f3 f4 f5=> ?_;refine h1 _ hps e' _ get' (fun t ht=>(k3 t ht).trans (kk t ht)) (by omega) ⟨get',fun e2=>Sub.refl _ _ _,fin get' [tkC t] f1 f2 f3 f4 (fun i o hi=> ?_) (fun id a b c d _=>f5 id (by omega) b c d)⟩
    grind
   ·have hRO:os.length<=RO.length:=by
     rcases Nat.eq_zero_or_pos os.length with h0|h0
     ·omega
     ·have hlt:os.length - 1<os.length:=by omega
      have:=(Da.1 (q5 _ _ (Ja hlt))).1;omega
    refine zEk (n:=os.length) (idL:=idL) (RL:=RL) (t:=t) (idO:=idO) (RO:=RO) ((kk 4 (by decide)).trans h4) ((kk 5 (by decide)).trans h5) ((kk 8 (by decide)).trans h8) hP.hL hP.hI hT hP.hO q2 hRO (by omega) (by omega) hRl ⟨by omega,by omega,by omega,by omega,by omega⟩ fun e' get' k3 f1 f2 f3 f4 f5=> ?_;refine h1 _ hps e' _ get' (fun t ht=>(k3 t ht).trans (kk t ht)) (by omega) ⟨get',fun e2=>Sub.refl _ _ _,fin get' _ f1 f2 f3 f4 (fun i o hi=> ?_) (fun id a b c d g=>f5 id (by omega) b c d (fun q=>g (Oa.2 q)))⟩;have htl:(RO.take os.length).length=os.length:=by rw[Pd];omega
    grind
 ·have hc:zo t.kind=0:=by simpa using hb1
  rw[Ga (by rw[hc];decide)]at hps;obtain⟨cs0,c,rfl⟩:=last_of hP.hcl;have hcl:cs0.length=os.length:=by have:=hP.hcl;rw[Ia]at this;simpa using this
  have hvl:vs0.length=os.length:=by have:=hP.hvl;rw[Ia]at this;simpa using this
  have a1:(cs0++[c])[os.length]? =some c:=by rw[<-hcl];exact uj _ _
  have hcu:cur.length<=b:=hP.hb cur (by simp);refine S9 (aL:=aL) (idL:=idL) (src:=aT) (k:=os.length) (N:=aT+1) (RL:=RL) (c1:=c) (v1:=cur) (tk:=t) ((k1 4 (by decide)).trans h4) (by grind) ((k1 8 (by decide)).trans h8) hP.hL hP.hI (hP.hrow _ _ a1) hT (hP.hlst _ _ _ a1 (by grind)) (by omega) ⟨by omega,by omega,by omega⟩
   (fun i hi=>by have:=(hP.href c (by simp) i hi).2;omega) fun e' get' k3 hput=> ?_
  refine h1 _ hps e' _ get' (fun t ht=>(k3 t ht).trans (k1 t ht)) (by omega) ⟨_,fun e2=>zBE hput.2.1,?_⟩;obtain⟨t1,t2,t3,t4⟩:=hput;refine PS.of (hP.put (N':=aT+1+3) (n:=aT+1+2) ⟨upK t1 (by omega),upS,fun id hid=>upK (t3 id hid) (by grind),fun id a b d=>upK (t4 id a b d) (by omega)⟩ (by omega) (by omega) (fun id hid=>by omega) hM) ho (by simp only[hv])
end
section
variable {M0 aL aO aT b:Nat} {e:Env} {G get0:Get} {Q:Post} {s:PSt} {t:zb}
theorem PS.grow{N N' a:Nat}{get':Get}(h:PS G N M0 get0 aL aO b s)(c:N<=N')(i:b<=a)(f:M0<=N)(d: ∀id,id<N->get' id=G id):PS get' N' M0 get0 aL aO a s:=by obtain⟨_,_,_,_,g⟩:=h;exact⟨_,_,_,_,g.grow c i f d⟩
theorem PS.some_open{N:Nat}{cur d:List zg}{o:zb}{st:List (zb×List zg)}(h:PS G N M0 get0 aL aO b (cur,(o,d)::st)):
  ∃idL RL c c1 c2 idO RO,PI G N M0 get0 aL aO b (st.reverse.map (·.1)++[o]) (st.reverse.map (·.2)++[d]++[cur]) idL RL (c++[c1]++[c2]) (.osl idO 0 (st.length+1))/\G idO=some ⟨44,5,RO,none⟩/\M0<=idO/\idO<N/\(∀(i:Nat) o',(st.reverse.map (·.1)++[o])[i]? =some o'->RO[i]? =some (tkC o'))/\(st.reverse.map (·.1)).length=st.length:=by
 obtain⟨idL,RL,w,v,j⟩:=h;simp only[List.reverse_cons,ic,ja,Oc]at j;have g:(st.reverse.map (·.1)).length=st.length:=by rw[Xa,List.length_reverse]
 have a:=j.hcl;rw[Ia]at a;obtain⟨f,c2,rfl⟩:=last_of a;rw[Ia]at a;obtain⟨c,c1,rfl⟩:=last_of (l:=f) (n:=(st.reverse.map (·.1)).length) (by simpa using a);rcases j.hop with⟨_,k⟩|⟨idO,RO,rfl,u,r,p,q⟩
 ·simp at k
 ·have m:(st.reverse.map (·.1)++[o]).length=st.length+1:=by rw[Ia,g];rfl
  grind
theorem PS.shut {N:Nat} {cur a:List zg} {o:zb} {st:List (zb×List zg)} {get':Get} {idL idO:Nat} {RL RO:List (List CV)} {c:List CV} {c1 c2:CV} (j:PI G N M0 get0 aL aO b (st.reverse.map (·.1)++[o]) (st.reverse.map (·.2)++[a]++[cur]) idL RL (c++[c1]++[c2]) (.osl idO 0 ((st.reverse.map (·.1)).length+1)))
  (k:G idO=some ⟨44,5,RO,none⟩) (h:M0<=idO/\idO<N) (g: ∀(i:Nat) o',(st.reverse.map (·.1)++[o])[i]? =some o'->RO[i]? =some (tkC o')) (d:zsW G aO aL idO idL (st.reverse.map (·.1)).length N RL c1 c2 a cur o get') (f:M0<=N):
  PS get' (N+1) M0 get0 aL aO (b+1) (a++[⟨o,cur⟩],st):=PS.of (j.shut k g h d f) rfl rfl
theorem zDP (u:PS G aT M0 get0 aL aO b s) (L:b<=2000) (K:M0<=aT) (Y:look e 4= .v (.c (.optr aL 0 0))) (y:look e 5= .v (.c (.optr aO 0 0))) (X:look e 6= .v (.c (.clo 60 [(aO,0,0),(aL,0,0)]))) (N:look e 8= .v (.c (.optr aT 0 0)))
  (B:look e 9= .v (.c (.p (.at (.int .i64 ((s.2.length:Nat):Int)))))) (M:G aT=some ⟨44,5,[tkC t],none⟩)
  (S: ∀s',qi s t=some s'-> ∀d N' get',(∀t,t<23->look d t=look e t)->aT<N'->(∃f,(∀C,Sub 93 C ⟨N',get'⟩ C ⟨N',f⟩)/\PS f N' M0 get0 aL aO (b+1) s')->Q .normal d ⟨N',get'⟩)
  (h2:qi s t=none-> ∀d,look d 2= .v (.c nilC)->look d 3= .v (.c (.p (.at (.int .i64 20))))->Q .ret d ⟨aT+1,G⟩):
  SW P 93 Sk Q e ⟨aT+1,G⟩:=by
 obtain⟨q,k⟩:=s;have O: ∀i:Env,(∀t,t<23->look i t=look e t)->Yl k t=false->SW P 93 (match Sk with| .seq _ (.cond _ _ c)=>c|_=> .skip) Q i ⟨aT+1,G⟩:=fun i a D=>
  zCZ u D L K ((a 4 (by decide)).trans Y) ((a 5 (by decide)).trans y) ((a 8 (by decide)).trans N) ((a 9 (by decide)).trans B) M (fun s' W d N' get' F=>S s' W d N' get' fun t l=>(F t l).trans (a t l)) h2
 cases k with
 |nil=>
  refine SW.seq (xW y B fun i a A=> ?_);exact SW.condB (b:=false) A (fun h=>by cases h) (fun _=>O i a rfl)
 |cons x k=>
  obtain⟨o,j⟩:=x;obtain⟨U,RL,V,c1,Z,idO,RO,w,z,J,q4,E,r⟩:=u.some_open;have R:=w.hn;rw[Ia,r]at R;refine SW.seq (wW (m:=k.length) (o:=o) (t:=t) (idO:=idO) (RO:=RO) (by simp at R;omega) y N B w.hO z (E _ _ (by grind)) M (by omega) fun i a A=> ?_);refine SW.condB (b:=t.kind==zo o.kind) A (fun g=> ?_) (fun g=> ?_)
  ·have H:qi (q,(o,j)::k) t=some (j++[⟨o,q⟩],k):=by unfold qi;rw[La (show Yl ((o,j)::k) t=true from g)];rfl
   rw[<-r]at w;have n:=w.grow (get':=G) (Nat.le_succ aT) (Ya b) K (fun _ _=>rfl);refine yU (d0:=62) (d1:=63) ⟨rfl,rfl,rfl⟩ ⟨rfl,rfl,rfl⟩ ⟨rfl,rfl⟩ ⟨rfl,rfl,by decide,by decide⟩ ((a 6 (by decide)).trans X) n z E ⟨J,by omega⟩ L fun d get' F T=> ?_;exact S _ H d _ get' (fun t l=>(F t l).trans (a t l)) (by omega) ⟨get',fun C=>Sub.refl _ _ _,PS.shut n z ⟨J,by omega⟩ E T (by omega)⟩
  ·exact O i a g
end
theorem JI: ∀(a b:List zb) (s:PSt),Z0 (a++b) s=(Z0 a s).bind (Z0 b)
 |[],b,s=>rfl
 |t::a,b,s=>by
  rw[ma,Z0,Z0];cases qi s t with
  |none=>rfl
  |some c=>exact JI a b c
theorem A7(t:zb)(s:PSt):Z0 [t] s=qi s t:=by rw[Z0];cases qi s t<;>rfl
structure PE (e:Env) (l:List zb) (aL aO i:Nat):Prop where
 t0:look e 0= .v (.c (.p (.sl (l.map Xm))))
 t4:look e 4= .v (.c (.optr aL 0 0))
 t5:look e 5= .v (.c (.optr aO 0 0))
 t6:look e 6= .v (.c (.clo 60 [(aO,0,0),(aL,0,0)]))
 t15:look e 15= .v (.c (.p (.sl (l.map Xm))))
 t16:look e 16= .v (.c (.p (.at (.int .i64 ((l.length:Nat):Int)))))
 t17:look e 17= .v (.c (.p (.at (.int .i64 ((i:Nat):Int)))))
def Kp(a e:Env):Prop:=look a 0=look e 0/\look a 4=look e 4/\look a 5=look e 5/\look a 6=look e 6/\look a 15=look e 15/\look a 16=look e 16/\look a 17=look e 17
theorem Kp.of{b e:Env}(a: ∀t,t<23->look b t=look e t):Kp b e:=⟨a 0 (by decide),a 4 (by decide),a 5 (by decide),a 6 (by decide),a 15 (by decide),a 16 (by decide),a 17 (by decide)⟩
theorem Kp.trans{a b c:Env}(h:Kp a b)(g:Kp b c):Kp a c:=by obtain⟨j,r,n,d,q,t,u⟩:=h;obtain⟨k,m,i,f,s,o,p⟩:=g;exact⟨j.trans k,r.trans m,n.trans i,d.trans f,q.trans s,t.trans o,u.trans p⟩
theorem PE.of{e a:Env}{l:List zb}{aL aO i:Nat}(h:PE e l aL aO i)(g:Kp a e):PE a l aL aO i:=by obtain⟨c,j,d,b,f,k,m⟩:=g;exact⟨c.trans h.t0,j.trans h.t4,d.trans h.t5,b.trans h.t6,f.trans h.t15,k.trans h.t16,m.trans h.t17⟩
abbrev JF:Code:=match Tryz.f16.body with
 |some (.seq _ (.seq _ (.seq _ (.seq _ (.seq (.seq _ (.block _ (.loop c))) _)))))=>c
 |_=> .skip
theorem PS.cell{G get0:Get}{N M0 aL aO b:Nat}{s:PSt}(h:PS G N M0 get0 aL aO b s): ∃cO,G aO=some ⟨22,1,[[cO]],none⟩/\((cO=nilC/\s.2.length=0)\/ ∃id f,cO= .osl id 0 s.2.length/\G id=some f):=by
 obtain⟨_,_,_,cO,a⟩:=h;have c:(s.2.reverse.map (·.1)).length=s.2.length:=by rw[Xa,List.length_reverse]
 refine⟨cO,a.hO,?_⟩;rcases a.hop with⟨g,k⟩|⟨d,RO,i,j,_⟩
 ·grind
 grind
def Zj(nt:Nat)(ops:List Oper):List Oper->TS->(TS->Prop)->Prop
 |[],s,K=>K s
 |o::l,s,K=> ∃r:RO,OpOK P nt ops o r s/\Zj nt ops l (Ze o r s) K
theorem Zj.zs{nt:Nat}{ops:List Oper}{K:TS->Prop}: ∀{l:List Oper} {s:TS},Zj nt ops l s K-> ∃zs:List (Oper×RO),zs.map (·.1)=l/\(∀(j:Nat) (o:Oper) (r:RO),zs[j]? =some (o,r)->OpOK P nt ops o r (runA (zs.take j) s))/\K (runA zs s)
 |[],s,h=>⟨[],rfl,fun j o r hj=>by simp at hj,h⟩
 |o::l,s,h=>by
  obtain⟨r,h1,h2⟩:=h;obtain⟨zs,h3,h4,h5⟩:=h2.zs;refine⟨(o,r)::zs,by simp[h3],fun j o' r' hj=> ?_,h5⟩;cases j with
  |zero=>simp at hj;obtain⟨rfl,rfl⟩:=hj;exact h1
  |succ j=> have:=h4 j o' r' (by simpa using hj);simpa [runA] using this
theorem SW.regL{nt id:Nat}{a:Array Oper}{Q:Post}{e:Env}{g:Get}{n:Nat}(h:Zj nt a.toList a.toList ⟨e,g,n⟩ (fun s=>Q .normal s.e ⟨s.next,s.get⟩)):SW P nt (.region id a false) Q e ⟨n,g⟩:=by obtain⟨f,b,d,c⟩:=h.zs;exact UD (s0:=⟨e,g,n⟩) b ⟨b,d⟩ c
section
variable {nt:Nat} {ops:List Oper} {K:TS->Prop}
theorem Zj.n{o:Oper}{l:List Oper}{e:Env}{get:Get}{nx k d:Nat}{val:LV}{up:List (Nat×Option OB)}(h: ∃rd,Op1 P (opd e) get nx o.op val rd up k)(a:o.dst=some d)(f:Nat.blt d nt=true)(c:o.guard=none)(b:Zj nt ops l ⟨(d,val)::e,upd get up,nx+k⟩ K):Zj nt ops (o::l) ⟨e,get,nx⟩ K:=by obtain⟨rd,h⟩:=h;exact⟨_,opN h c (fun i g=>by simp_all),by unfold Ze;rw[a];exact b⟩
theorem Zj.n0{o:Oper}{l:List Oper}{e:Env}{get:Get}{nx k:Nat}{val:LV}{up:List (Nat×Option OB)}(h: ∃rd,Op1 P (opd e) get nx o.op val rd up k)(a:o.dst=none)(c:o.guard=none)(b:Zj nt ops l ⟨e,upd get up,nx+k⟩ K):Zj nt ops (o::l) ⟨e,get,nx⟩ K:=by obtain⟨rd,h⟩:=h;exact⟨_,opN h c (fun f d=>by grind),by unfold Ze;rw[a];exact b⟩
theorem Zj.end{s:TS}(h:K s):Zj nt ops [] s K:=h
theorem lenC{E:Operand->LV}{G:Get}{nx n:Nat}{c:Call}{x:Operand}{cO:CV}(h:(cO=nilC/\n=0)\/ ∃id b,cO= .osl id 0 n/\G id=some b)(f:c.callee= .builtin .len)(g:c.args.toList=[x])(d:c.argTypes.toList=[22])(a:E x= .v (.c cO)):
  ∃rd,Op1 P E G nx (.call c) (.v (.c (.p (.at (.int .i64 ((n:Nat):Int)))))) rd [] 0:=by
 rcases h with⟨rfl,rfl⟩|⟨id,b,rfl,i⟩
 ·exact⟨_,Op1.lenN f g d (.inl a) k22⟩
 ·exact⟨_,Op1.lenO f g d (.inl a) i k22⟩
theorem lenl{E:Operand->LV}{G:Get}{nx:Nat}{c:Call}{x:Operand}{l:List zb}(d:c.callee= .builtin .len)(b:c.args.toList=[x])(f:c.argTypes.toList=[22])(a:E x= .v (.c (.p (.sl (l.map Xm))))):
  ∃rd,Op1 P E G nx (.call c) (.v (.c (.p (.at (.int .i64 ((l.length:Nat):Int)))))) rd [] 0:=by
 have:=Op1.lenS (P:=P) (get:=G) (nx:=nx) d b f (.inl a) k22
 grind
end
section
variable {M0 aL aO:Nat} {e:Env} {get0:Get} {Q:Post} {l:List zb}
theorem zEm {i N:Nat} {G:Get} {s:PSt} {t:zb} (A:i<=2000) (f:PE e l aL aO i) (d:PS G N M0 get0 aL aO i s) (u:M0<=N) (q:look e 8= .v (.c (.optr N 0 0))) (r:G N=some ⟨44,5,[tkC t],none⟩)
  (o: ∀s',qi s t=some s'-> ∀a N' get',Kp a e->N<N'->(∃b,(∀m,Sub 93 m ⟨N',get'⟩ m ⟨N',b⟩)/\PS b N' M0 get0 aL aO (i+1) s')->Q .normal a ⟨N',get'⟩)
  (h2:qi s t=none-> ∀a,look a 2= .v (.c nilC)->look a 3= .v (.c (.p (.at (.int .i64 20))))->Q .ret a ⟨N+1,G⟩) (k: ∀x e lh,(x= .normal\/x= .ret)->Q x e lh->uz 2 Q x e lh):
  SW P 93 (match JF with| .seq _ (.seq _ (.seq (.block _ (.seq _ c)) _))=>c|_=> .skip) Q e ⟨N+1,G⟩:=by
 obtain⟨cO,g,j⟩:=d.cell;refine SW.seq (SW.regL ?_);refine Zj.n ⟨_,Op1.load (.inl f.t5) g rfl rfl k22⟩ rfl rfl rfl ?_;refine Zj.n (lenC (n:=s.2.length) (cO:=cO) j rfl rfl rfl rfl) rfl rfl rfl ?_;refine Zj.n ⟨_,Op1.assign _⟩ rfl rfl rfl ?_;refine Zj.end ?_;refine SW.block (zDP (s:=s) (t:=t) d A u ((Ug (by decide)).trans ((Ug (by decide)).trans ((Ug (by decide)).trans f.t4))) ((Ug (by decide)).trans ((Ug (by decide)).trans ((Ug (by decide)).trans f.t5))) ((Ug (by decide)).trans ((Ug (by decide)).trans ((Ug (by decide)).trans f.t6)))
  ((Ug (by decide)).trans ((Ug (by decide)).trans ((Ug (by decide)).trans q))) rfl r (fun s' h a N' get' C z y=> ?_) (fun h a w B=>k _ _ _ (.inr rfl) (h2 h a w B)))
 exact k _ _ _ (.inl rfl) (o s' h a N' get' ((Kp.of C).trans ⟨rfl,rfl,rfl,rfl,rfl,rfl,rfl⟩) z y)
theorem zDG {i N:Nat} {G:Get} {s:PSt} (hl:l.length<=1500) (hE:PE e l aL aO i) (hi:i<=l.length) (hrun:Z0 (l.take i) ([],[])=some s) (hPS:PS G N M0 get0 aL aO i s) (hM:M0<=N)
  (hX:i=l.length-> ∀e':Env,Kp e' e->Q (.exit 0) e' ⟨N,G⟩)
  (hN: ∀e' N' get' s',PE e' l aL aO (i+1)->i<l.length->Z0 (l.take (i+1)) ([],[])=some s'->M0<=N'->(∃get2,(∀e2,Sub 93 e2 ⟨N',get'⟩ e2 ⟨N',get2⟩)/\PS get2 N' M0 get0 aL aO (i+1) s')->Q .normal e' ⟨N',get'⟩)
  (hR:Z0 l ([],[])=none-> ∀e' lh',look e' 2= .v (.c nilC)->look e' 3= .v (.c (.p (.at (.int .i64 20))))->(∀id,id<M0->lh'.get id=get0 id)->M0<=lh'.next->Q .ret e' lh'):
  SW P 93 JF Q e ⟨N,G⟩:=by
 refine SW.seq (SW.regL ?_);refine Zj.n ⟨_,Op1.bin (val:= .v (.c (.p (.at (.bool (decide (i<l.length))))))) (.inl hE.t17) (.inl hE.t16) (fun _ _=>by
  rw[show decide (i<l.length)=decide (((i:Nat):Int)<((l.length:Nat):Int))from Af.2 (by omega)];rfl)⟩ rfl rfl rfl ?_
 refine Zj.end ?_;refine SW.seq (SW.condB (b:=decide (i<l.length)) rfl (fun h1=> ?_) (fun h1=> ?_))
 rotate_left
 ·have hil:i=l.length:=by have:=of_decide_eq_false h1;omega
  refine SW.end_ ?_ (fun _ _ _=>wp_exit);exact hX hil _ ⟨rfl,rfl,rfl,rfl,rfl,rfl,rfl⟩
 have hil:i<l.length:=Gc h1;refine SW.end_ ?_ (fun _ _ _=>wp_skip);have hti:l[i]? =some l[i]:=Ja hil;generalize l[i]=t at hti;refine SW.seq (SW.block (SW.seq (SW.regL ?_)));refine Zj.n ⟨_,Op1.idxS (row:=Xm t) (.inl hE.t15) (.inl hE.t17) k22 c44 (by decide) (by omega) (by grind) rfl⟩ rfl rfl rfl ?_;refine Zj.n ⟨_,Op1.loadP (.inl rfl) k44 c44 (Ya 5)⟩ rfl rfl rfl ?_;refine Zj.n ⟨_,Op1.alloc (z:=[.p (.at (.int .u8 0)), .p (.str []), .p (.at (.int .i64 0)), .p (.str []), .p (.at (.bool false))]) (by rw[YK];rfl) c44 o44⟩ rfl rfl rfl ?_;refine Zj.n0 ⟨_,Op1.storeX (u:= .agg (tkC t)) (.inl rfl) (.inl rfl) upS rfl k44 c44 rfl rfl rfl⟩ rfl rfl ?_;refine Zj.end ?_;refine zEm (i:=i) (s:=s) (t:=t) (by omega) (hE.of ⟨rfl,rfl,rfl,rfl,rfl,rfl,rfl⟩) (hPS.grow (Ya _) (Ya _) hM fun id hid=>upK (upK rfl (Db hid)) (Db hid)) hM rfl upS (fun s' hs e' N' get' hk hN' hg=> ?_) (fun hs e' q2 q3=> ?_) (fun x e lh hx hq=> ?_)
 ·show SW P 93 _ Q e' ⟨N',get'⟩;have hE':=hE.of hk;refine SW.regL ?_;have e1:IntKind.i64.wrap (((i:Nat):Int)+1)=((i+1:Nat):Int):=by rw[w64s (by omega) (by omega)];omega
  refine Zj.n ⟨_,Op1.bin (val:= .v (.c (.p (.at (.int .i64 ((i+1:Nat):Int)))))) (.inl hE'.t17) (.inl rfl) (fun _ _=>by rw[<-e1];rfl)⟩ rfl rfl rfl ?_;refine Zj.n ⟨_,Op1.move _⟩ rfl rfl rfl ?_;refine Zj.end ?_;refine hN _ N' get' s' ⟨hE'.t0,hE'.t4,hE'.t5,hE'.t6,hE'.t15,hE'.t16,rfl⟩ hil ?_ (Lb hM (Nat.le_of_lt hN')) hg;rw[List.take_add_one,hti,JI,hrun];show Z0 [t] s=some s';rw[A7,hs]
 ·refine hR ?_ e' _ q2 q3 (fun id hid=> ?_) (Lb hM (Nat.le_succ N))
  ·rw[<-df i l,JI,hrun];have:l.drop i=t::l.drop (i+1):=by rw[Jb hil];rw[Ja hil]at hti;rw[Option.some.inj hti]
   rw[this];show Z0 (t::l.drop (i+1)) s=none;rw[Z0,hs];rfl
  ·obtain⟨_,_,_,_,hP⟩:=hPS;exact(upK (upK rfl (Db (Xb hid hM))) (Db (Xb hid hM))).trans (hP.hk id hid)
 ·rcases hx with rfl|rfl
  ·exact hq
  ·exact hq
end
section
variable {M0 aL aO:Nat} {e:Env} {get0:Get} {Q:Post} {l:List zb}
theorem zD4 {N:Nat} {G:Get} (y:l.length<=1500) (t:PE e l aL aO 0) (j:PS G N M0 get0 aL aO 0 ([],[])) (A:M0<=N)
  (F: ∀a N' get' s,PE a l aL aO l.length->Z0 l ([],[])=some s->M0<=N'->PS get' N' M0 get0 aL aO l.length s->Q .normal a ⟨N',get'⟩)
  (r:Z0 l ([],[])=none-> ∀a b,look a 2= .v (.c nilC)->look a 3= .v (.c (.p (.at (.int .i64 20))))->(∀id,id<M0->b.get id=get0 id)->M0<=b.next->Q .ret a b):SW P 93 (.block 0 (.loop JF)) Q e ⟨N,G⟩:=by
 refine SW.block (MH (α:=Env×LH×Nat×PSt) (·.1) (·.2.1) (fun x=>PE x.1 l aL aO x.2.2.1/\x.2.2.1<=l.length/\Z0 (l.take x.2.2.1) ([],[])=some x.2.2.2/\PS x.2.1.get x.2.1.next M0 get0 aL aO x.2.2.1 x.2.2.2/\M0<=x.2.1.next) (fun x=>l.length - x.2.2.1)
  (e,⟨N,G⟩,0,([],[])) ⟨t,Bc _,rfl,j,A⟩ (Sub.refl _ _ _) fun⟨e,⟨N,G⟩,i,s⟩ ⟨n,D,g,o,q⟩=> ?_)
 refine zDG (i:=i) (s:=s) y n D g o q (fun E a H=> ?_) (fun a N' get' B w h m f k=> ?_) (fun u a b h m f k=>r u a b h m f k)
 ·subst E;rw[uf]at g;exact F a N G s (n.of H) g q o
 ·obtain⟨d,C,z⟩:=k;exact⟨(a,⟨N',d⟩,i+1,B),⟨w,h,m,z,f⟩,by grind,C a⟩
abbrev JV:Code:=match Tryz.f16.body with
 |some (.seq _ (.seq _ (.seq _ (.seq _ (.seq _ c)))))=>c
 |_=> .skip
theorem zD5 {b N:Nat} {G:Get} {s:PSt} (J:look e 4= .v (.c (.optr aL 0 0))) (L:look e 5= .v (.c (.optr aO 0 0))) (O:look e 6= .v (.c (.clo 60 [(aO,0,0),(aL,0,0)]))) (u:PS G N M0 get0 aL aO b s) (S:b+s.2.length<=2000) (H:M0<=N)
  (W: ∀f N' get' U,look f 4= .v (.c (.optr aL 0 0))->M0<=N'->PS get' N' M0 get0 aL aO U (shutAll s.1 s.2,[])->Q .normal f ⟨N',get'⟩):
  SW P 93 (match JV with| .seq _ (.seq c _)=>c|_=> .skip) Q e ⟨N,G⟩:=by
 refine SW.block (MH (α:=Env×LH×Nat×PSt) (·.1) (·.2.1) (fun x=>look x.1 4= .v (.c (.optr aL 0 0))/\look x.1 5= .v (.c (.optr aO 0 0))/\look x.1 6= .v (.c (.clo 60 [(aO,0,0),(aL,0,0)]))/\x.2.2.1+x.2.2.2.2.length<=2000/\shutAll x.2.2.2.1 x.2.2.2.2=shutAll s.1 s.2/\PS x.2.1.get x.2.1.next M0 get0 aL aO x.2.2.1 x.2.2.2/\M0<=x.2.1.next) (fun x=>x.2.2.2.2.length)
  (e,⟨N,G⟩,b,s) ⟨J,L,O,S,rfl,u,H⟩ (Sub.refl _ _ _) fun⟨e,⟨N,G⟩,b,⟨q,a⟩⟩ ⟨A,y,k,M,h,d,g⟩=> ?_)
 simp only at A y k M h d g;obtain⟨cO,r,z⟩:=d.cell;refine SW.seq (SW.seq (SW.regL ?_));refine Zj.n ⟨_,Op1.load (.inl y) r rfl rfl k22⟩ rfl rfl rfl ?_;refine Zj.n (lenC (n:=a.length) (cO:=cO) z rfl rfl rfl rfl) rfl rfl rfl ?_;refine Zj.n ⟨_,Op1.bin (val:= .v (.c (.p (.at (.bool (decide (0<a.length))))))) (.inl rfl) (.inl rfl) (fun _ _=>by
  rw[show decide (0<a.length)=decide (((a.length:Nat):Int)>0)from Af.2 (by omega)];rfl)⟩ rfl rfl rfl ?_
 refine Zj.end ?_;refine SW.condB (b:=decide (0<a.length)) rfl (fun i=> ?_) (fun i=> ?_)
 ·refine SW.end_ ?_ (fun _ _ _=>wp_skip);cases a with
  |nil=>cases i
  |cons x a=>
   obtain⟨o,t⟩:=x;obtain⟨R,RL,X,Y,Z,T,RO,w,C,E,B,D,j⟩:=d.some_open;rw[<-j]at w;refine SW.block (yU (d0:=88) (d1:=89) ⟨rfl,rfl,rfl⟩ ⟨rfl,rfl,rfl⟩ ⟨rfl,rfl⟩ ⟨rfl,rfl,by decide,by decide⟩ k w C D ⟨E,B⟩ (by grind) fun f get' m F=> ?_);have K:=PS.shut w C ⟨E,B⟩ D F g;refine⟨(f,⟨N+1,get'⟩,b+1,(t++[⟨o,q⟩],a)),⟨(m 4 (by decide)).trans A,(m 5 (by decide)).trans y,(m 6 (by decide)).trans k,?_,h,K,Nat.le_succ_of_le g⟩,?_,Sub.refl _ _ _⟩
   ·grind
   ·grind
 ·have V:a=[]:=by
   cases a with
   |nil=>rfl
   |cons x a=>simp at i
  subst V;refine SW.end_ ?_ (fun _ _ _=>wp_exit);exact W _ N G b A g (by rw[<-h];exact d)
theorem mk1{x y:Operand}{get:Get}{nx:Nat}(a:opd e x= .v (.c (.p (.at (.int .i64 1)))))(b:opd e y= .v (.c (.p (.at (.int .i64 1))))): ∃rd,Op1 P (opd e) get nx (.makeSlice 52 x y) (.v (.c (.osl nx 0 1))) rd [(nx,some ⟨23,1,[[nilC]],none⟩)] 1:=by
 have d:rep (1:Int).toNat (Tf (ti P 23).zero)=[[nilC]]:=by rw[aK];rfl
 refine⟨[],(0:Int)<=1/\(1:Int)<=1/\(1:Int)*(ti P 23).by_<=140737488355328/\(1:Int)<=9223372036854775807/\0<P.cellsOf 23/\(ti P 23).zok=true,?_,⟨by decide,by decide,by rw[b23];decide,by decide,by rw[c23];decide,o23⟩,rfl⟩;simp only[opR,a,b,Zu,ui,k52,d,c23];rfl
theorem mkf{get:Get}{nx:Nat}(a:opd e (.tmp 5)= .v (.c (.optr aO 0 0)))(b:opd e (.tmp 4)= .v (.c (.optr aL 0 0))): ∃rd,Op1 P (opd e) get nx (.makeFunc (.func 60) #[] #[.tmp 5, .tmp 4]) (.v (.c (.clo 60 [(aO,0,0),(aL,0,0)]))) rd [] 0:=by refine⟨[],True,?_,trivial,rfl⟩;simp only[opR,Ej,a,b];rfl
def PQ(M0:Nat)(get0:Get)(l:List zb):Post:=fun x e b=>
 x= .ret/\ ∃(c:CV) (v:List zg) (a:Int),look e 2= .v (.c c)/\look e 3= .v (.c (.p (.at (.int .i64 a))))/\Lst b.get c v/\(∀id,id<M0->b.get id=get0 id)/\(∀id∈zI c,M0<=id)/\M0<=b.next/\parS l=(v,a)
theorem PQ.nil{lh:LH}{a:Int}(h2:look e 2= .v (.c nilC))(b:look e 3= .v (.c (.p (.at (.int .i64 a)))))(f: ∀id,id<M0->lh.get id=get0 id)(d:M0<=lh.next)(g:parS l=([],a)):PQ M0 get0 l .ret e lh:=
 ⟨rfl,nilC,[],a,h2,b, .inl ⟨rfl,rfl⟩,f,(fun id hid=>by cases hid),d,g⟩
theorem gY{N:Nat}{G:Get}{s:PSt}(hl:l.length<=1500)(hE:PE e l aL aO l.length)(hrun:Z0 l ([],[])=some s)(hM:M0<=N)(hPS:PS G N M0 get0 aL aO l.length s):SW P 93 JV (PQ M0 get0 l) e ⟨N,G⟩:=by
 obtain⟨cO,hcO,hc2⟩:=hPS.cell;obtain⟨_,_,_,_,hP⟩:=id hPS;have hn:s.2.length<=16:=by have:=hP.hn;rwa [Xa,List.length_reverse]at this
 refine SW.seq (SW.seq (SW.regL ?_));have e1:IntKind.i64.wrap (((l.length:Nat):Int)+((s.2.length:Nat):Int))=((l.length+s.2.length:Nat):Int):=by rw[w64s (by omega) (by omega)];omega
 refine Zj.n ⟨_,mv hE.t0⟩ rfl rfl rfl ?_;refine Zj.n (lenl rfl rfl rfl rfl) rfl rfl rfl ?_;refine Zj.n ⟨_,Op1.load (.inl hE.t5) hcO rfl rfl k22⟩ rfl rfl rfl ?_;refine Zj.n (lenC (n:=s.2.length) (cO:=cO) hc2 rfl rfl rfl rfl) rfl rfl rfl ?_;refine Zj.n ⟨_,Op1.bin (val:= .v (.c (.p (.at (.int .i64 ((l.length+s.2.length:Nat):Int)))))) (.inl rfl) (.inl rfl) (fun _ _=>by rw[<-e1];rfl)⟩ rfl rfl rfl ?_;refine Zj.n ⟨_,Op1.bin (val:= .v (.c (.p (.at (.bool (decide (1500<l.length+s.2.length))))))) (.inl rfl) (.inl rfl) (fun _ _=>by
  rw[show decide (1500<l.length+s.2.length)=decide (((l.length+s.2.length:Nat):Int)>1500)from Af.2 (by omega)];rfl)⟩ rfl rfl rfl ?_
 refine Zj.end ?_;have hk:=hP.hk;refine SW.condB (b:=decide (1500<l.length+s.2.length)) rfl (fun h1=> ?_) (fun h1=> ?_)
 ·refine SW.seq (SW.regL ?_);refine Zj.n ⟨_,Op1.assign _⟩ rfl rfl rfl ?_;refine Zj.n ⟨_,Op1.assign _⟩ rfl rfl rfl ?_;refine Zj.end ?_;refine SW.end_ ?_ (fun _ _ _=>wp_ret);refine PQ.nil rfl rfl hk hM ?_;unfold parS;rw[Ga (by omega),hrun]
  grind
 ·refine SW.end_ ?_ (fun _ _ _=>wp_skip);have h1: ¬1500<l.length+s.2.length:=of_decide_eq_false h1;refine SW.seq (zD5 (s:=s) (b:=l.length) hE.t4 hE.t5 hE.t6 hPS (by omega) hM fun e' N' get' b' k4 kM kP=> ?_);obtain⟨idL,RL,cs,cO',hP'⟩:=kP;simp only[List.reverse_nil,Oc,Mc]at hP';obtain⟨cs0,c,rfl⟩:=last_of hP'.hcl;have hcl:cs0=[]:=by have:=hP'.hcl;rw[Ia]at this;exact Vf.1 (by simpa using this)
  subst hcl;have hr:=hP'.hrow 0 c rfl;have hl:=hP'.hlst 0 c _ rfl rfl;refine SW.seq (SW.regL ?_);refine Zj.n ⟨_,Op1.load (.inl k4) hP'.hL rfl rfl k52⟩ rfl rfl rfl ?_;refine Zj.n ⟨_,Op1.idxL (j:=0) (.inl rfl) (.inl rfl) hP'.hI k52 c23 rfl (by decide) (Ub 0)⟩ rfl rfl rfl ?_;refine Zj.n ⟨_,Op1.load (cs:=[c]) (.inl rfl) hP'.hI hr rfl k23⟩ rfl rfl rfl ?_;refine Zj.n ⟨_,Op1.assign _⟩ rfl rfl rfl ?_;refine Zj.n ⟨_,Op1.assign _⟩ rfl rfl rfl ?_;refine Zj.end ?_;refine SW.end_ ?_ (fun _ _ _=>wp_ret);refine⟨rfl,c,shutAll s.1 s.2,0,rfl,rfl,hl,hP'.hk,fun id hid=>(hP'.href c (by simp) id hid).1,kM,?_⟩;unfold parS
  grind
theorem iY{get:Get}:SW P 93 (match Tryz.f16.body with|some c=>c|none=> .skip) (PQ M0 get l) [(0, .v (.c (.p (.sl (l.map Xm)))))] ⟨M0,get⟩:=by
 refine SW.seq (SW.regL ?_);refine Zj.n ⟨_,Op1.assign _⟩ rfl rfl rfl ?_;refine Zj.n ⟨_,Op1.assign _⟩ rfl rfl rfl ?_;refine Zj.end ?_;refine SW.seq (SW.seq (SW.regL ?_));refine Zj.n ⟨_,Op1.move _⟩ rfl rfl rfl ?_;refine Zj.n (lenl rfl rfl rfl rfl) rfl rfl rfl ?_;refine Zj.n ⟨_,Op1.bin (val:= .v (.c (.p (.at (.bool (decide (1500<l.length))))))) (.inl rfl) (.inl rfl) (fun _ _=>by
  rw[show decide (1500<l.length)=decide (((l.length:Nat):Int)>1500)from Af.2 (by omega)];rfl)⟩ rfl rfl rfl ?_
 refine Zj.end ?_;refine SW.condB (b:=decide (1500<l.length)) rfl (fun f=> ?_) (fun f=> ?_)
 ·refine SW.seq (SW.regL ?_);refine Zj.n ⟨_,Op1.assign _⟩ rfl rfl rfl ?_;refine Zj.n ⟨_,Op1.assign _⟩ rfl rfl rfl ?_;refine Zj.end ?_;refine SW.end_ ?_ (fun _ _ _=>wp_ret);refine PQ.nil rfl rfl (fun _ _=>rfl) (Ya _) ?_;unfold parS;rw[La (Gc f)]
 ·refine SW.end_ ?_ (fun _ _ _=>wp_skip);have f: ¬1500<l.length:=of_decide_eq_false f;refine SW.seq (SW.regL ?_);refine Zj.n (mk1 rfl rfl) rfl rfl rfl ?_;refine Zj.n ⟨_,Op1.alloc (z:=[nilC]) (by rw[z52];rfl) c52 o52⟩ rfl rfl rfl ?_;refine Zj.n ⟨_,Op1.alloc (z:=[nilC]) (by rw[z22];rfl) c22 o22⟩ rfl rfl rfl ?_;refine Zj.n0 ⟨_,Op1.storeX (cs:=[nilC]) (.inl rfl) (.inl rfl) (upK upS (Db (Ub _))) rfl k52 c52 rfl rfl rfl⟩ rfl rfl ?_;refine Zj.n0 ⟨_,Op1.storeX (cs:=[nilC]) (.inl rfl) (.inl rfl) (upK upS (Nat.ne_of_gt (Ub _))) rfl k22 c22 rfl rfl rfl⟩ rfl rfl ?_;refine Zj.end ?_;refine SW.seq (SW.regL ?_);refine Zj.n (mkf (aL:=M0+1) (aO:=M0+2) rfl rfl) rfl rfl rfl ?_;refine Zj.n ⟨_,Op1.assign _⟩ rfl rfl rfl ?_;refine Zj.end ?_;refine SW.seq (SW.seq (SW.regL ?_));refine Zj.n ⟨_,Op1.move _⟩ rfl rfl rfl ?_;refine Zj.n (lenl rfl rfl rfl rfl) rfl rfl rfl ?_;refine Zj.n ⟨_,Op1.move _⟩ rfl rfl rfl ?_;refine Zj.end ?_;refine zD4 (aL:=M0+1) (aO:=M0+2) (N:=M0+3) (by omega) ⟨rfl,rfl,rfl,rfl,rfl,rfl,rfl⟩ ?_ (Uc _ _) (fun y K k s q B u D=>gY (by omega) q B u D) (fun H y o A G w F=>PQ.nil A G w F (by unfold parS;grind));refine⟨M0,[[nilC]],[nilC],nilC,⟨?_,?_,rfl,rfl,fun i c a=> ?_,fun i x a r=> ?_,fun i c v a h=> ?_,fun i j c d E a J=> ?_,?_, .inl ⟨rfl,rfl⟩,Bc _,fun v h=> ?_,fun id hid=> ?_,⟨by omega,by omega,by omega,by omega,by omega,by omega⟩,fun c t id hid=> ?_⟩⟩
  ·exact upK upS (show M0+1≠M0+2 by omega)
  ·exact upK (upK (upK (upK upS (show M0≠M0+1 by omega)) (show M0≠M0+2 by omega)) (show M0≠M0+1 by omega)) (show M0≠M0+2 by omega)
  ·grind
  ·grind
  ·rcases i with _|i
   ·cases a;cases h;exact .inl ⟨rfl,rfl⟩
   ·cases a
  ·grind
  ·exact upS
  ·grind
  ·have C:id≠M0:=by omega
   have m:id≠M0+1:=by omega
   have g:id≠M0+2:=by omega
   exact upK (upK (upK (upK (upK rfl C) m) g) m) g
  ·rw[Oa.1 t]at hid;cases hid
end
end Go.Lv.Par

namespace Go.Lv
open Go.Proofs Go.Lv.VT
set_option maxRecDepth 100000
theorem Par.endSub{e:Env}{g:Get}{N:Nat}{c:CV}{v:List zg}{code:Int}(h2:look e 2= .v (.c c))(h3:look e 3= .v (.c (.p (.at (.int .i64 code)))))(hl:Par.Lst g c v):
  Sub 93 e ⟨N,g⟩ [(2, .v (.c (.p (.sl (v.map zD))))),(3, .v (.c (.p (.at (.int .i64 code)))))] ⟨N,fun id=>if id∈zI c then none else g id⟩:=by
 refine recast (Z:=fun _=>False) (Ya _) (fun z hz=>hz.elim) (fun id o2 ho _=> ?_) (fun t=> ?_)
 ·replace ho:(if id∈zI c then none else g id)=some o2:=ho;by_cases h:id∈zI c
  ·rw[La h]at ho;cases ho
  ·rw[Ga h]at ho;exact⟨o2,ho,RcO.refl o2⟩
 ·by_cases e2:t=2
  ·subst e2;rw[h2];exact .v _ _ (.c _ _ (.inr ⟨_,rfl,Par.rV hl fun id hid=>La hid⟩))
  ·by_cases e3:t=3
   ·subst e3;rw[h3];exact .v _ _ (.c _ _ (RcC.refl _))
   ·rw[Par.Ug e2,Par.Ug e3];exact .any _
theorem DZ:zn Tryz.prog (⟨16,⟨[.sl 44],[]⟩,[],⟨[.sl 49, .int .i64],[]⟩,0,VT.parseF⟩:Con VT.I)where
 wf:=rfl
 ok:=fun x y hxy ρ nx _ _ hnew=>by
  cases hxy;refine aR (P:=Tryz.prog) (fn:=Tryz.f16) (c:=match Tryz.f16.body with|some c=>c|none=> .skip) (rs:=[.tmp 2, .tmp 3]) (nt:=93) Tryz.func16 rfl rfl rfl (by kernel_rfl) (Ac rfl) fun get M hM hget _=> ?_;refine SW.post (Par.iY (M0:=M) (l:=x)) fun xx e lh hq=> ?_;obtain⟨rfl,c,v,code,h2,h3,hl,hk,hr,hn,hp⟩:=hq;refine⟨_,_,Par.endSub h2 h3 hl, .inr rfl,[],[.c (.p (.sl (v.map zD))), .c (.p (.at (.int .i64 code)))],rfl,List.nodup_nil,(fun i hi=>by cases hi),⟨⟨True,rfl,trivial⟩,⟨True,rfl,trivial⟩,trivial⟩,fun t ht id hid=> ?_,?_,fun j hj=>absurd hj (Rf j),fun id o1 ho=> ?_⟩
  ·rcases Ab.1 ht with rfl|ht
   ·cases hid
   ·rw[Oa.1 ht]at hid;cases hid
  ·show valOf _=valOf _;rw[show parS x=(v,code)from hp];rfl
  ·replace ho:get id=some o1:=ho;have hlt:=(hget id o1 ho).1;refine .inr ⟨o1,o1,ho,?_, .inl ⟨rfl,rfl⟩⟩;show(if id∈zI c then none else lh.get id)=some o1;rw[Ga (fun h=>Nat.lt_irrefl _ (Xb hlt (hr id h))),hk id hlt];exact ho
theorem FZ{I:Ip}:zn Proofs.Tryz.prog (⟨99,⟨[.str],[]⟩,[],⟨[.str, .int .i64],[]⟩,0,Tk⟩:Con I):=I8
end Go.Lv
end
