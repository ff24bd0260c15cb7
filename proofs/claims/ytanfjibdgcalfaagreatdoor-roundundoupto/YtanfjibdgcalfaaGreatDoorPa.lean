/- nest.Parse: its text, and its contract. -/
import Derived.Test.YtanfjibdgcalfaaGreatDoorIp
import Derived.Test.YtanfjibdgcalfaaGreatDoorLf
import Derived.Test.YtanfjibdgcalfaaGreatDoorTy
import Derived.Test.YtanfjibdgcalfaaGreatDoorGa
import Derived.Test.YtanfjibdgcalfaaGreatDoorSj
import Derived.Test.YtanfjibdgcalfaaGreatDoorCd
noncomputable section
set_option linter.unusedSimpArgs false
set_option linter.unusedVariables false
namespace Go.Lv.VT
set_option maxRecDepth 100000
open Go.Proofs
def TP:TT:=[(2,ti Tryz.prog 2),(3,ti Tryz.prog 3),(4,ti Tryz.prog 4),(5,ti Tryz.prog 5),(9,ti Tryz.prog 9),(31,ti Tryz.prog 31),(90,ti Tryz.prog 90),(131,ti Tryz.prog 131),(133,ti Tryz.prog 133),(135,ti Tryz.prog 135)]
theorem tokP:TOK Tryz.prog TP []:=tJ (l:=[2,3,4,5,9,31,90,131,133,135]) fun _ h=>by cases h
theorem okP{con:Con I}{S:List (Con I)}(f:Go.Func)(hS: ∀c∈S,zf Tryz.prog c)(fz:List (Nat×List Nat):=[])(pre:List (Nat×List (Nat×Option Nat)):=[])(p:Nat:=0)(cuts:List (Nat×Cut):=[])(joins:List (Nat×Cut):=[])(cls:List (Nat×List Nat):=[])(fl:Option Nat:=none)(exS:StSh:=con.outS)(hf:Tryz.prog.funcs[con.f]? =some f:=by kernel_rfl)(h:chk con (⟨S,fz,pre,p,cuts,joins,cls,fl⟩:Env0 I) f=true:=by kernel_rfl)(he: ∀x,evF2 (⟨S,fz,pre,p,cuts,joins,cls,fl⟩:Env0 I) TP [] f.ntmps (rsl f) (body f) con exS x=con.F x:=by intro x;kernel_rfl):zf Tryz.prog con:=
 okC0 mixed ipOK tokP rfl rfl hS hf h he
def Rp(x:Int):Option Int:=
 bif x==2 then
  some 22
 else
  zO (X:=Bool) (
    bif x==19 then
     some (LX.out (x==19))
    else
     bif x==21 then
      some (LX.out (x==21))
     else
      some (LX.out (x==23))) fun j1=>
  bif j1 then
   some (wu8 (x+1))
  else
   some 0
def Vo(x:List zk×List (List ze)×List ze):Option (List zk×List (List ze)×List ze):=
 need (decide (0<=w64 ((x.1.length:Int) - 1))&&decide (w64 ((x.1.length:Int) - 1)<(x.1.length:Int)))<|
 za (x.1[(w64 ((x.1.length:Int) - 1)).toNat]?) fun y1=>
 need (decide (0<=w64 (w64 ((x.1.length:Int) - 1)+1))&&decide (w64 (w64 ((x.1.length:Int) - 1)+1)<((x.2.1.length+1:Nat):Int)))<|
 need (Nat.beq (w64 (w64 ((x.1.length:Int) - 1)+1)).toNat x.2.1.length)<|
 za (List.getLast? x.2.1) fun y2=>
 need (decide (w64 (w64 ((x.1.length:Int) - 1)+1)=(x.2.1.length:Int)))<|
 need (decide (0<=w64 ((x.1.length:Int) - 1))&&decide (w64 ((x.1.length:Int) - 1)<=(x.1.length:Int)))<|
 both (
   need (decide (0<=w64 ((x.1.length:Int) - 1))&&decide (w64 ((x.1.length:Int) - 1)<(((List.dropLast x.2.1).length+1:Nat):Int)))<|
   need (Nat.beq (w64 ((x.1.length:Int) - 1)).toNat (List.dropLast x.2.1).length)<|
   need (Zb y2.length 1 80)<|
   need (decide (0<=w64 ((x.1.length:Int) - 1))&&decide (w64 ((x.1.length:Int) - 1)<(((List.dropLast x.2.1).length+1:Nat):Int)))<|
   need (Nat.beq (w64 ((x.1.length:Int) - 1)).toNat (List.dropLast x.2.1).length)<|
   some (List.take (w64 ((x.1.length:Int) - 1)).toNat x.1,List.dropLast x.2.1,y2++[(⟨y1,x.2.2⟩:ze)])) (
   need (decide (0<=w64 ((x.1.length:Int) - 1))&&decide (w64 ((x.1.length:Int) - 1)<(((List.dropLast x.2.1).length+1:Nat):Int)))<|
   need (Nat.beq (w64 ((x.1.length:Int) - 1)).toNat (List.dropLast x.2.1).length)<|
   need (Zb y2.length 1 80)<|
   need (decide (0<=w64 ((x.1.length:Int) - 1))&&decide (w64 ((x.1.length:Int) - 1)<(((List.dropLast x.2.1).length+1:Nat):Int)))<|
   need (Nat.beq (w64 ((x.1.length:Int) - 1)).toNat (List.dropLast x.2.1).length)<|
   need (decide (0<=(y2.length:Int))&&decide ((y2.length:Int)<((y2++[(⟨(⟨0,[],0,[],false⟩:zk),[]⟩:ze)]).length:Int)))<|
   za (y2++[(⟨(⟨0,[],0,[],false⟩:zk),[]⟩:ze)])[y2.length]? fun y3=>
   some (List.take (w64 ((x.1.length:Int) - 1)).toNat x.1,List.dropLast x.2.1,List.take y2.length (y2++[(⟨(⟨0,[],0,[],false⟩:zk),[]⟩:ze)])++List.cons (⟨y1,x.2.2⟩:ze) (List.drop (y2.length+1) (y2++[(⟨(⟨0,[],0,[],false⟩:zk),[]⟩:ze)]))))
def eD(x:List zk):Option (List ze×Int):=
 bif decide ((x.length:Int)>1500)then
  some ([],4)
 else
  Zc (fun(s1:Int×List (List ze)×List ze×List zk)=>
    bif decide (s1.1<(x.length:Int))then
     zO (X:=Int×List (List ze)×List ze×List zk) (
       za (geti x s1.1) fun y2=>
       need (decide (0<=w64 ((s1.2.2.2.length:Int) - 1))&&decide (w64 ((s1.2.2.2.length:Int) - 1)<(s1.2.2.2.length:Int))|| !(decide ((s1.2.2.2.length:Int)>0)))<|
       za (zA (decide ((s1.2.2.2.length:Int)>0)) s1.2.2.2[(w64 ((s1.2.2.2.length:Int) - 1)).toNat]? (default:zk)) fun y3=>
       za (zA (decide ((s1.2.2.2.length:Int)>0)) (Rp y3.kind) (default:Int)) fun y4=>
       bif bif decide ((s1.2.2.2.length:Int)>0)then y2.kind==y4 else false then
        za (Vo (s1.2.2.2,s1.2.1,s1.2.2.1)) fun y5=>
        some (LX.out (s1.1,y5.2.1,y5.2.2,y5.1))
       else
        za (Rp y2.kind) fun y6=>
        bif y6 != 0 then
         bif (s1.2.2.2.length:Int)==16 then
          some (LX.ret (LO.ret ([],20)))
         else
          need (Zb (s1.2.1.length+1) 1 24)<|
          need (Zb s1.2.2.2.length 1 56)<|
          some (LX.out (s1.1,s1.2.1++[s1.2.2.1],[],s1.2.2.2++[y2]))
        else
         both (
           need (decide (0<=(s1.2.2.2.length:Int))&&decide ((s1.2.2.2.length:Int)<((s1.2.1.length+1:Nat):Int)))<|
           need (Nat.beq s1.2.2.2.length s1.2.1.length)<|
           need (Zb s1.2.2.1.length 1 80)<|
           need (decide (0<=(s1.2.2.2.length:Int))&&decide ((s1.2.2.2.length:Int)<((s1.2.1.length+1:Nat):Int)))<|
           need (Nat.beq s1.2.2.2.length s1.2.1.length)<|
           some (LX.out (s1.1,s1.2.1,s1.2.2.1++[(⟨y2,[]⟩:ze)],s1.2.2.2))) (
           need (decide (0<=(s1.2.2.2.length:Int))&&decide ((s1.2.2.2.length:Int)<((s1.2.1.length+1:Nat):Int)))<|
           need (Nat.beq s1.2.2.2.length s1.2.1.length)<|
           need (Zb s1.2.2.1.length 1 80)<|
           need (decide (0<=(s1.2.2.2.length:Int))&&decide ((s1.2.2.2.length:Int)<((s1.2.1.length+1:Nat):Int)))<|
           need (Nat.beq s1.2.2.2.length s1.2.1.length)<|
           need (decide (0<=(s1.2.2.1.length:Int))&&decide ((s1.2.2.1.length:Int)<((s1.2.2.1++[(⟨(⟨0,[],0,[],false⟩:zk),[]⟩:ze)]).length:Int)))<|
           za (s1.2.2.1++[(⟨(⟨0,[],0,[],false⟩:zk),[]⟩:ze)])[s1.2.2.1.length]? fun y7=>
           some (LX.out (s1.1,s1.2.1,List.set (s1.2.2.1++[(⟨(⟨0,[],0,[],false⟩:zk),[]⟩:ze)]) s1.2.2.1.length (⟨y2,[]⟩:ze),s1.2.2.2)))) fun j8=>
     some (LO.again (w64 (j8.1+1),j8.2.1,j8.2.2.1,j8.2.2.2))
    else
     some (LO.out (s1.2.1,s1.2.2.1,s1.2.2.2)):Int×List (List ze)×List ze×List zk->Option (LO (Int×List (List ze)×List ze×List zk) (List (List ze)×List ze×List zk) _)) (0,[],[],[]) fun o9=>
  bif decide (w64 ((x.length:Int)+(o9.2.2.length:Int))>1500)then
   some ([],4)
  else
   Zc (fun(s10:List (List ze)×List ze×List zk)=>
     bif decide ((s10.2.2.length:Int)>0)then
      za (Vo (s10.2.2,s10.1,s10.2.1)) fun y11=>
      some (LO.again (y11.2.1,y11.2.2,y11.1))
     else
      some (LO.out (s10.1,s10.2.1,s10.2.2)):List (List ze)×List ze×List zk->Option (LO (List (List ze)×List ze×List zk) (List (List ze)×List ze×List zk) _)) (o9.1,o9.2.1,o9.2.2) fun o12=>
   need (decide (0<((o12.1.length+1:Nat):Int)))<|
   need (Nat.beq 0 o12.1.length)<|
   some (o12.2.1,0)
def zEB(F:Int->Option Int):Con I:=⟨74,⟨[.int .u8],[]⟩,[],⟨[.int .u8],[]⟩,0,F⟩
def zHS(F:List zk×List (List ze)×List ze->Option (List zk×List (List ze)×List ze)):Con I:=⟨73,⟨[.optr 0, .optr 2],[(0, .cells 90 [.own 1]),(1, .sl 131),(2, .cells 133 [.own 3]),(3, .slq 31 135 4),(4, .sl 135)]⟩,[],⟨[],[(0, .cells 90 [.own 5]),(2, .cells 133 [.own 6]),(5, .sl 131),(6, .slq 31 135 7),(7, .sl 135)]⟩,3,F⟩
def IV(F:List zk->Option (List ze×Int)):Con I:=⟨39,⟨[.sl 131],[]⟩,[],⟨[.sl 135, .int .i64],[]⟩,0,F⟩
theorem zDK:zf Tryz.prog (zEB Rp):=
 okP Tryz.f74 zu (joins:=[(7,⟨[6],⟨[.bool],[]⟩,[0],[],[],0,[],⟨[],[]⟩,[]⟩)])
theorem zHj:zf Tryz.prog (zHS Vo):=
 okP Tryz.f73 zu (fz:=[(2,[200003,200006]),(4,[6]),(6,[7])]) (pre:=[(6,[(15,none)])]) (p:=5)
theorem zJg:zf Tryz.prog (IV eD):=
 okP Tryz.f39 (memC zDK (memC zHj zu)) (fz:=[(3,[200000]),(10,[7]),(12,[8]),(18,[5,100001])]) (cuts:=[(6,⟨[17],⟨[.int .i64],[(1, .cells 133 [.own 1106]),(1106, .slq 31 135 1107),(1107, .sl 135),(2, .cells 90 [.own 1108]),(1108, .sl 131)]⟩,[0,4,5,6,15,16],[],[1,2],0,[],⟨[],[(1, .cells 133 [.own 1106]),(1106, .slq 31 135 1107),(1107, .sl 135),(2, .cells 90 [.own 1108]),(1108, .sl 131)]⟩,[1,2,1106,1107,1108]⟩),(22,⟨[],⟨[],[(1, .cells 133 [.own 1213]),(1213, .slq 31 135 1215),(1215, .sl 135),(2, .cells 90 [.own 1214]),(1214, .sl 131)]⟩,[4,5,6],[],[1,2],3,[],⟨[],[(1, .cells 133 [.own 1213]),(1213, .slq 31 135 1215),(1215, .sl 135),(2, .cells 90 [.own 1214]),(1214, .sl 131)]⟩,[1,2,1213,1214,1215]⟩)]) (joins:=[(19,⟨[17],⟨[.int .i64],[(1, .cells 133 [.own 1210]),(1210, .slq 31 135 1212),(1212, .sl 135),(2, .cells 90 [.own 1211]),(1211, .sl 131)]⟩,[],[],[1,2],0,[],⟨[],[]⟩,[]⟩)])
theorem NW{R:Type}(x:Option R):both x x=x:=aa rfl
theorem mG(k:Int):Rp k=some (ZP k):=by
 unfold Rp ZP;by_cases h2:k=2
 ·subst h2;rfl
 by_cases h19:k=19
 ·subst h19;rfl
 by_cases h21:k=21
 ·subst h21;rfl
 by_cases h23:k=23
 ·subst h23;rfl
 have e: ∀n:Int,k≠n->(k==n)=false:=fun n h=>Ea.2 h;simp[e _ h2,e _ h19,e _ h21,e _ h23,h2,h19,h21,h23]
def parL(a:PSt):List (List ze):=(a.2.map (·.2)).reverse
def parO(a:PSt):List zk:=(a.2.map (·.1)).reverse
theorem Wo{n:Nat}(h:n<=100000):w64 (n:Int)=n:=Z6 (by omega) (by omega)
theorem gT{cur out:List ze}{o:zk}{st:List (zk×List ze)}(h1:st.length<=100)(h2:out.length<=100000):Vo (parO (cur,(o,out)::st),parL (cur,(o,out)::st),cur)=some (parO (uq (cur,(o,out)::st)),parL (uq (cur,(o,out)::st)),(uq (cur,(o,out)::st)).1):=by
 have e1:parO (cur,(o,out)::st)=(st.map (·.1)).reverse++[o]:=by simp[parO]
 have e2:parL (cur,(o,out)::st)=(st.map (·.2)).reverse++[out]:=by simp[parL]
 rw[e1,e2];show Vo ((st.map (·.1)).reverse++[o],(st.map (·.2)).reverse++[out],cur)=some ((st.map (·.1)).reverse,(st.map (·.2)).reverse,out++[⟨o,cur⟩]);have l1:((st.map (·.1)).reverse).length=st.length:=by simp
 have l2:((st.map (·.2)).reverse).length=st.length:=by simp
 generalize (st.map (·.1)).reverse=A at*;generalize (st.map (·.2)).reverse=B at*;have w1:w64 (((A++[o]).length:Int) - 1)=(st.length:Int):=by rw[show((A++[o]).length:Int) - 1=(st.length:Int) by simp[l1]];exact Wo (by omega)
 have w2:w64 ((st.length:Int)+1)=((st.length+1:Nat):Int):=Wo (n:=st.length+1) (by omega);have ap:Zb out.length 1 80=true:=Nj (by omega);unfold Vo;simp only[w1,w2,Lb];have c1:(decide ((0:Int)<=(st.length:Int))&&decide ((st.length:Int)<((A++[o]).length:Int)))=true:=by simp[l1];omega
 have c2:(decide ((0:Int)<=((st.length+1:Nat):Int))&&decide (((st.length+1:Nat):Int)<(((B++[out]).length+1:Nat):Int)))=true:=by simp[l2];omega
 have c3:Nat.beq (st.length+1) (B++[out]).length=true:=by simp[l2]
 have c4:decide (((st.length+1:Nat):Int)=((B++[out]).length:Int))=true:=by simp[l2]
 have c5:(decide ((0:Int)<=(st.length:Int))&&decide ((st.length:Int)<=((A++[o]).length:Int)))=true:=by simp[l1];omega
 have c6:(decide ((0:Int)<=(st.length:Int))&&decide ((st.length:Int)<((B.length+1:Nat):Int)))=true:=by simp[l2];omega
 have c7:Nat.beq st.length B.length=true:=by simp[l2]
 have g1:(A++[o])[st.length]? =some o:=by rw[<-l1];simp
 have t1:(A++[o]).take st.length=A:=by rw[<-l1];simp
 have z1: ∀z:ze,(out++[z])[out.length]? =some z:=fun z=>by simp
 have z2: ∀z:ze,(out++[z]).take out.length=out:=fun z=>by simp
 have z3: ∀z:ze,(out++[z]).drop (out.length+1)=[]:=fun z=>by simp
 have c8: ∀z:ze,(decide ((0:Int)<=(out.length:Int))&&decide ((out.length:Int)<((out++[z]).length:Int)))=true:=fun z=>by simp;omega
 simp only[c1,c2,c3,c4,c5,ZU,g1,za,Ba,List.getLast?_append,List.getLast?_singleton,Option.some_or,List.dropLast_concat,c6,c7,ap,c8,z1,z2,z3,t1,NW]
def ParB(b:Nat)(a:PSt):Prop:=a.2.length<=16/\a.1.length<=b/\ ∀p∈a.2,p.2.length<=b
theorem vV{b:Nat}{a a':PSt}{t:zk}(h:ParB b a)(e:Ej a t=some a'):ParB (b+1) a':=by
 obtain⟨h1,h2,h3⟩:=h;unfold Ej at e;split at e
 ·cases e;obtain⟨cur,st⟩:=a;cases st with
  |nil=>exact⟨h1,kg h2,fun p hp=>by cases hp⟩
  |cons q st=> obtain⟨o,out⟩:=q;refine⟨by have:((o,out)::st).length<=16:=h1;simp at this;show st.length<=16;omega,?_,fun p hp=>kg (h3 p (Eb _ hp))⟩;have:=h3 (o,out) (ja ..);show(out++[(⟨o,cur⟩:ze)]).length<=b+1;simp;omega
 ·split at e
  ·split at e
   ·cases e
   ·rename_i h16;cases e;refine⟨by show a.2.length+1<=16;omega,Rb _,fun p hp=> ?_⟩;rcases Db.1 hp with rfl|hp
    ·exact kg h2
    ·exact kg (h3 p hp)
  ·cases e;exact⟨h1,by show(a.1++[(⟨t,[]⟩:ze)]).length<=b+1;simp;exact h2,fun p hp=>kg (h3 p hp)⟩
theorem Rs(a:PSt):(parO a).length=a.2.length:=by simp[parO]
theorem zLg(a:PSt):(parL a).length=a.2.length:=by simp[parL]
def parG(t:zk)(a:PSt):Option (LO PSt (List (List ze)×List ze×List zk) (List ze×Int)):=match Ej a t with
 |none=>some (.ret ([],20))
 |some a'=>some (.again a')
def jJ(a:PSt):Option (LX (List (List ze)×List ze×List zk) (List ze×Int)):=some (.out (parL a,a.1,parO a))
theorem oU: ∀(l:List zk) (a:PSt),Ng parG jJ l a=(match di l a with
 |none=>some (.ret ([],20))
 |some a'=>some (.out (parL a',a'.1,parO a')))
 |[],a=>rfl
 |t::r,a=>by
  simp only[Ng,parG,di];cases h:Ej a t with
  |none=>rfl
  |some a'=>exact oU r a'
theorem nU: ∀(l:List zk) {b:Nat} {a a':PSt},ParB b a->di l a=some a'->ParB (b+l.length) a'
 |[],b,a,a',h,e=>by cases e;exact h
 |t::r,b,a,a',h,e=>by
  obtain⟨a1,h1,h2⟩:=Aa.1 (show(Ej a t).bind (di r)=some a' from e);have:=nU r (vV h h1) h2
  rwa [show b+(t::r).length=b+1+r.length by simp;omega]
theorem zLh{i n:Nat}{t:zk}{a:PSt}(hi:i<1500)(hn:yD a.2 t=false)(hB:ParB i a):zO (X:=Int×List (List ze)×List ze×List zk) (R:=LO (Int×List (List ze)×List ze×List zk) (List (List ze)×List ze×List zk) (List ze×Int))
  (za (Rp t.kind) fun y6=>
   bif y6 != 0 then
    bif ((parO a).length:Int)==16 then
     some (LX.ret (LO.ret ([],20)))
    else
     need (Zb ((parL a).length+1) 1 24)<|
     need (Zb (parO a).length 1 56)<|
     some (LX.out ((i:Int),parL a++[a.1],[],parO a++[t]))
   else
    both (
      need (decide (0<=((parO a).length:Int))&&decide (((parO a).length:Int)<(((parL a).length+1:Nat):Int)))<|
      need (Nat.beq (parO a).length (parL a).length)<|
      need (Zb a.1.length 1 80)<|
      need (decide (0<=((parO a).length:Int))&&decide (((parO a).length:Int)<(((parL a).length+1:Nat):Int)))<|
      need (Nat.beq (parO a).length (parL a).length)<|
      some (LX.out ((i:Int),parL a,a.1++[(⟨t,[]⟩:ze)],parO a))) (
      need (decide (0<=((parO a).length:Int))&&decide (((parO a).length:Int)<(((parL a).length+1:Nat):Int)))<|
      need (Nat.beq (parO a).length (parL a).length)<|
      need (Zb a.1.length 1 80)<|
      need (decide (0<=((parO a).length:Int))&&decide (((parO a).length:Int)<(((parL a).length+1:Nat):Int)))<|
      need (Nat.beq (parO a).length (parL a).length)<|
      need (decide (0<=(a.1.length:Int))&&decide ((a.1.length:Int)<((a.1++[(⟨(⟨0,[],0,[],false⟩:zk),[]⟩:ze)]).length:Int)))<|
      za (a.1++[(⟨(⟨0,[],0,[],false⟩:zk),[]⟩:ze)])[a.1.length]? fun y7=>
      some (LX.out ((i:Int),parL a,List.set (a.1++[(⟨(⟨0,[],0,[],false⟩:zk),[]⟩:ze)]) a.1.length (⟨t,[]⟩:ze),parO a))))
  (fun j8=>some (LO.again (w64 (j8.1+1),j8.2.1,j8.2.2.1,j8.2.2.2)))=(parG t a).map fun
   | .again a'=> .again (((i+1:Nat):Int),parL a',a'.1,parO a')
   | .out x=> .out x
   | .ret r=> .ret r:=by
 obtain⟨b1,b2,b3⟩:=hB;have hO:=Rs a;have hL:=zLg a;have wi:w64 ((i:Int)+1)=((i+1:Nat):Int):=Wo (n:=i+1) (by omega);rw[mG];simp only[za,Ba];unfold parG Ej;rw[hn];by_cases h0:ZP t.kind=0
 ·have c6:(decide ((0:Int)<=((parO a).length:Int))&&decide (((parO a).length:Int)<(((parL a).length+1:Nat):Int)))=true:=by rw[hO,hL];simp;omega
  have c7:Nat.beq (parO a).length (parL a).length=true:=by rw[hO,hL];simp
  have ap:Zb a.1.length 1 80=true:=Nj (by omega);have c8: ∀z:ze,(decide ((0:Int)<=(a.1.length:Int))&&decide ((a.1.length:Int)<((a.1++[z]).length:Int)))=true:=fun z=>by simp;omega
  have z1: ∀z:ze,(a.1++[z])[a.1.length]? =some z:=fun z=>by simp
  have z2: ∀z y:ze,List.set (a.1++[z]) a.1.length y=a.1++[y]:=fun z y=>by simp
  simp only[h0,bne_self_eq_false,Ca,c6,c7,c8,ap,ZU,z1,z2,Ba,NW,zZ,wi,ne_eq,not_true_eq_false,if_false,Gg];rfl
 ·have hb:(ZP t.kind != 0)=true:=by simpa using h0
  simp only[hb,Da,Gg,if_false,ne_eq,h0,Bf,jg];by_cases h16:a.2.length=16
  ·have:(((parO a).length:Int)==16)=true:=by rw[hO,h16];rfl
   rw[this,aa h16];rfl
  ·have:(((parO a).length:Int)==16)=false:=by rw[hO];exact Ea.2 (by omega)
   rw[this,Ab h16];have a1:Zb ((parL a).length+1) 1 24=true:=Nj (by rw[hL];omega);have a2:Zb (parO a).length 1 56=true:=Nj (by rw[hO];omega);simp only[Ca,a1,a2,ZU,zZ,wi];have e1:parL ([],(t,a.1)::a.2)=parL a++[a.1]:=by simp[parL]
   have e2:parO ([],(t,a.1)::a.2)=parO a++[t]:=by simp[parO]
   show _=some (LO.again (((i+1:Nat):Int),parL ([],(t,a.1)::a.2),([]:List ze),parO ([],(t,a.1)::a.2)));rw[e1,e2]
theorem zJr(x:List zk):eD x=parseF x:=by
 unfold eD parseF parS;by_cases hx:1500<x.length
 ·rw[aa hx,show decide ((x.length:Int)>1500)=true from Ha (by omega)];rfl
 rw[Ab hx,show decide ((x.length:Int)>1500)=false from Oa (by omega),Ca];have hov:Ng parG jJ x ([],[])=some (match di x ([],[])with
  |none=> .ret ([],20)
  |some a'=> .out (parL a',a'.1,parO a')):=by rw[oU];cases di x ([],[])<;>rfl
 refine(Dp (A:=PSt) x (fun i a=>((i:Int),parL a,a.1,parO a)) parG jJ (fun i a=>i<=x.length/\ParB i a) (a:=([],[])) rfl ⟨Rb _,Rb _,Rb _,fun p hp=>by cases hp⟩ ?_ ?_ hov).trans ?_
 ·intro i a hi ⟨_,hB⟩;refine⟨?_,fun a' ha=>⟨hi,vV (t:=x[i]) hB (by
   unfold parG at ha;cases h:Ej a x[i]with
   |none=>rw[h]at ha;cases ha
   |some a2=>rw[h]at ha;cases ha;rfl)⟩⟩
  have c0:decide ((i:Int)<(x.length:Int))=true:=Ha (by omega);have hb:=hB;obtain⟨b1,b2,b3⟩:=hb;have els:=fun(hn:yD a.2 x[i]=false)=>zLh (i:=i) (n:=0) (t:=x[i]) (a:=a) (by omega) hn hB;simp only[c0,Da,zS hi,za,Ba]at els ⊢;obtain⟨cur,_|⟨⟨o,out⟩,st⟩⟩:=a
  ·have e0:decide (((parO (cur,([]:List (zk×List ze)))).length:Int)>0)=false:=rfl;simp only[e0,Ra,Bool.or_true,ZU,qF,Ba,Ca];simp only[mG,Ba]at els ⊢;refine Eq.trans ?_ ((els rfl).trans ?_)
   ·rfl
   ·rcases parG x[i] (cur,[])with _|(_|_|_)<;>rfl
  ·have hlen:(parO (cur,(o,out)::st)).length=st.length+1:=by rw[Rs];rfl
   have hst:st.length+1<=16:=b1;have e0:decide (((parO (cur,(o,out)::st)).length:Int)>0)=true:=Ha (by rw[hlen];omega);have w1:w64 (((parO (cur,(o,out)::st)).length:Int) - 1)=(st.length:Int):=by rw[show((parO (cur,(o,out)::st)).length:Int) - 1=(st.length:Int) by rw[hlen];omega];exact Wo (by omega)
   have c1:(decide ((0:Int)<=(st.length:Int))&&decide ((st.length:Int)<((parO (cur,(o,out)::st)).length:Int)))=true:=by rw[hlen];simp;omega
   have g1:(parO (cur,(o,out)::st))[st.length]? =some o:=by
    have:parO (cur,(o,out)::st)=(st.map (·.1)).reverse++[o]:=by simp[parO]
    rw[this];simp
   simp only[e0,w1,c1,He,ZU,Zt,Lb,g1,mG,Ba,Da]at els ⊢;by_cases hs:(x[i].kind==ZP o.kind)=true
   ·rw[hs,gT (by omega) (Kb (b3 (o,out) (ja ..)) (by omega))];have wi:w64 ((i:Int)+1)=((i+1:Nat):Int):=Wo (n:=i+1) (by omega);simp only[Da,Ba,zZ,wi];unfold parG Ej;rw[aa (show yD ((o,out)::st) x[i]=true from hs)];rfl
   ·have hs:(x[i].kind==ZP o.kind)=false:=by simpa using hs
    rw[hs];simp only[Ca];refine Eq.trans ?_ ((els hs).trans ?_)
    ·rfl
    ·rcases parG x[i] (cur,(o,out)::st)with _|(_|_|_)<;>rfl
 ·intro a _;have c0:decide ((x.length:Int)<(x.length:Int))=false:=Oa (by omega);simp only[c0,Ca];rfl
 cases hrun:di x ([],[])with
 |none=>rfl
 |some a=>
  have hB:=nU x (b:=0) ⟨Rb _,Rb _,fun p hp=>by cases hp⟩ hrun;rw[Xb]at hB;obtain⟨b1,b2,b3⟩:=hB;simp only[zIp];have hw:w64 ((x.length:Int)+((parO a).length:Int))=((x.length+a.2.length:Nat):Int):=by rw[Rs];exact Wo (n:=x.length+a.2.length) (by omega)
  rw[hw];by_cases h2:1500<x.length+a.2.length
  ·rw[aa h2,show decide (((x.length+a.2.length:Nat):Int)>1500)=true from Ha (by omega)];rfl
  rw[Ab h2,show decide (((x.length+a.2.length:Nat):Int)>1500)=false from Oa (by omega),Ca];rw[fV (x:=(([]:List (List ze)),shutAll a.1 a.2,([]:List zk))) (RF (fun s=> ∃b:PSt,s=(parL b,b.1,parO b)/\shutAll b.1 b.2=shutAll a.1 a.2/\b.2.length<=16/\ ∀p∈b.2,p.2.length<=1500) (fun s=>s.2.2.length) _ ?_ ⟨a,rfl,rfl,b1,fun p hp=>Kb (b3 p hp) (by omega)⟩)]
  ·rfl
  ·rintro _ ⟨⟨cur,_|⟨⟨o,out⟩,st⟩⟩,rfl,q1,q2,q3⟩
   ·exact .inr (.inl ⟨_,rfl,by rw[<-q1];rfl⟩)
   ·have hlen:(parO (cur,(o,out)::st)).length=st.length+1:=by rw[Rs];rfl
    have hst:st.length+1<=16:=q2;have e0:decide (((parO (cur,(o,out)::st)).length:Int)>0)=true:=Ha (by rw[hlen];omega);refine .inl ⟨_,?_,⟨uq (cur,(o,out)::st),rfl,q1,by show st.length<=16;omega,fun p hp=>q3 p (Eb _ hp)⟩,?_⟩
    ·simp only[e0,Da,za];rw[gT (by omega) (Kb (q3 (o,out) (ja ..)) (by omega))];rfl
    ·rw[hlen];show(parO (uq (cur,(o,out)::st))).length<st.length+1;rw[Rs];show st.length<st.length+1;omega
theorem gv_parse:zf Tryz.prog (IV parseF):=by
 have:=zJg
 rwa [show eD=parseF from funext zJr]at this
end Go.Lv.VT
namespace Go.Lv
theorem zIx:zf Proofs.Tryz.prog (⟨39,⟨[.sl 131],[]⟩,[],⟨[.sl 135, .int .i64],[]⟩,0,VT.parseF⟩:Con VT.I):=VT.gv_parse
open Go.Proofs Go.RowKit
set_option maxRecDepth 100000
theorem kL(l:List Str):(l.map fun s=>(⟨s.toArray⟩:ByteArray)).map (fun x=>x.data.toList)=l:=by rw[List.map_map];exact(df fun s _=>by simp).trans (List.map_id l)
theorem zKS:zf Tryz.prog (⟨36,⟨[.sl 9, .str],[]⟩,[],⟨[.str],[]⟩,0,Rl⟩:Con VT.I):=
 Am VT.ipOK rfl Tryz.func36 rfl rfl fun x y hxy ι w vs W ha=>by
  obtain⟨(l:List Str),(c:Str)⟩:=x;replace hxy:Rl (l,c)=some y:=hxy;unfold Rl at hxy;obtain⟨hq,hy⟩:=Bj hxy;cases hy;rw[Fa]at hq;have q1:List.length l<=1000000:=Ob hq.1;have q2:(Lib.join l c).length<=1000000000:=Ob hq.2;have h1:=Gj (l:=c) (j:=1) ha rfl;obtain⟨u,hu,_,hr⟩:=ha.2 0 _ rfl;replace hr:RepP (Dom ι w) w (.sl (List.map (fun s:Str=>[PV.str s]) l)) u:=hr;cases hr with
  |sl _ a n cp k b o val hn hc ha' hD hk hv hr'=>
   obtain rfl:=wo ha.1 hu h1;rw[Ta]at hn;rcases Nat.eq_zero_or_pos n with h0|h0
   ·have:l=[]:=Ib (hn.symm.trans h0);subst this;subst h0;refine(Tryz.strings_Join_none a cp _ w).mono ?_;rintro e w' ⟨rfl,rfl⟩;exact⟨_,rfl,Below.refl _ _,Rk _⟩
   ·obtain rfl:=ha' h0;have hk1:k=1:=by
     cases l with
     |nil=>subst hn;cases h0
     |cons s t=>exact(hk [.str s] (ma.2 ⟨s,ja ..,rfl⟩)).symm
    subst hk1;have hcells: ∀(j:Nat) x,(List.map (fun s:Str=>(⟨s.toArray⟩:ByteArray)) l)[j]? =some x->w.cell? ⟨b,o+j,none⟩=some (.string x):=fun j x hj=>by
     rw[Ka]at hj;obtain⟨s,hs,rfl⟩:=Ia.1 hj;have hrow:(List.map (fun s:Str=>[PV.str s]) l)[j]? =some [PV.str s]:=by rw[Ka,hs];rfl
     have e1:=hv j _ 0 _ hrow rfl;rw[jL (hr' j _ 0 _ hrow rfl),Ee]at e1;exact e1
    have hl:(List.map (fun s:Str=>(⟨s.toArray⟩:ByteArray)) l).length=n:=by rw[Ta,hn]
    have hj:=Tryz.strings_Join b o cp _ ⟨c.toArray⟩ w hcells (hD h0).1 (by rw[hl,hn];omega) (by rw[hl];exact hc) (by rw[kL];show(Lib.join l c).length<=_;omega);rw[hl,kL]at hj;refine hj.mono ?_;rintro e w' ⟨rfl,hB⟩;exact⟨_,rfl,hB,Rk _⟩
theorem zIu:zf Proofs.Tryz.prog (⟨134,⟨[.str],[]⟩,[],⟨[.str, .int .i64],[]⟩,0,vD⟩:Con VT.I):=zEL
end Go.Lv
end
