/- nest.Parse: its text, and its contract. -/
import Derived.Test.YtjjdimihokbknaaGreatDoorIp
import Derived.Test.YtjjdimihokbknaaGreatDoorLf
import Derived.Test.YtjjdimihokbknaaGreatDoorTy
import Derived.Test.YtjjdimihokbknaaGreatDoorGa
import Derived.Test.YtjjdimihokbknaaGreatDoorCd
noncomputable section
set_option linter.unusedSimpArgs false
set_option linter.unusedVariables false
namespace Go.Lv.VT
set_option maxRecDepth 100000
open Go.Proofs
def TP:TT:=[(2,ti Tryz.prog 2),(3,ti Tryz.prog 3),(4,ti Tryz.prog 4),(5,ti Tryz.prog 5),(9,ti Tryz.prog 9),(66,ti Tryz.prog 66),(120,ti Tryz.prog 120),(129,ti Tryz.prog 129),(131,ti Tryz.prog 131),(145,ti Tryz.prog 145)]
theorem tokP:TOK Tryz.prog TP []:=lI (l:=[2,3,4,5,9,66,120,129,131,145]) fun _ h=>by cases h
theorem okP{con:Con I}{S:List (Con I)}(f:Go.Func)(hS: ∀c∈S,zh Tryz.prog c)(fz:List (Nat×List Nat):=[])(pre:List (Nat×List (Nat×Option Nat)):=[])(p:Nat:=0)(cuts:List (Nat×Cut):=[])(joins:List (Nat×Cut):=[])(cls:List (Nat×List Nat):=[])(fl:Option Nat:=none)(exS:StSh:=con.outS)(hf:Tryz.prog.funcs[con.f]? =some f:=by kernel_rfl)(h:chk con (⟨S,fz,pre,p,cuts,joins,cls,fl⟩:Env0 I) f=true:=by kernel_rfl)(he: ∀x,evF2 (⟨S,fz,pre,p,cuts,joins,cls,fl⟩:Env0 I) TP [] f.ntmps (rsl f) (body f) con exS x=con.F x:=by intro x;kernel_rfl):zh Tryz.prog con:=
 okC0 mixed ipOK tokP rfl rfl hS hf h he
def Wo(x:Int):Option Int:=
 bif x==2 then
  some 22
 else
  zW (X:=Bool) (
    bif x==19 then
     some (LX.out (x==19))
    else
     bif x==21 then
      some (LX.out (x==21))
     else
      some (LX.out (x==23))) fun j1=>
  bif j1 then
   some (wu8 (x+1))
  else
   some 0
def Un(x:List zk×List (List ze)×List ze):Option (List zk×List (List ze)×List ze):=
 need (decide (0<=w64 ((x.1.length:Int) - 1))&&decide (w64 ((x.1.length:Int) - 1)<(x.1.length:Int)))<|
 za (x.1[(w64 ((x.1.length:Int) - 1)).toNat]?) fun y1=>
 need (decide (0<=w64 (w64 ((x.1.length:Int) - 1)+1))&&decide (w64 (w64 ((x.1.length:Int) - 1)+1)<((x.2.1.length+1:Nat):Int)))<|
 need (Nat.beq (w64 (w64 ((x.1.length:Int) - 1)+1)).toNat x.2.1.length)<|
 za (List.getLast? x.2.1) fun y2=>
 need (decide (w64 (w64 ((x.1.length:Int) - 1)+1)=(x.2.1.length:Int)))<|
 need (decide (0<=w64 ((x.1.length:Int) - 1))&&decide (w64 ((x.1.length:Int) - 1)<=(x.1.length:Int)))<|
 both (
   need (decide (0<=w64 ((x.1.length:Int) - 1))&&decide (w64 ((x.1.length:Int) - 1)<(((List.dropLast x.2.1).length+1:Nat):Int)))<|
   need (Nat.beq (w64 ((x.1.length:Int) - 1)).toNat (List.dropLast x.2.1).length)<|
   need (Zo y2.length 1 80)<|
   need (decide (0<=w64 ((x.1.length:Int) - 1))&&decide (w64 ((x.1.length:Int) - 1)<(((List.dropLast x.2.1).length+1:Nat):Int)))<|
   need (Nat.beq (w64 ((x.1.length:Int) - 1)).toNat (List.dropLast x.2.1).length)<|
   some (List.take (w64 ((x.1.length:Int) - 1)).toNat x.1,List.dropLast x.2.1,y2++[(⟨y1,x.2.2⟩:ze)])) (
   need (decide (0<=w64 ((x.1.length:Int) - 1))&&decide (w64 ((x.1.length:Int) - 1)<(((List.dropLast x.2.1).length+1:Nat):Int)))<|
   need (Nat.beq (w64 ((x.1.length:Int) - 1)).toNat (List.dropLast x.2.1).length)<|
   need (Zo y2.length 1 80)<|
   need (decide (0<=w64 ((x.1.length:Int) - 1))&&decide (w64 ((x.1.length:Int) - 1)<(((List.dropLast x.2.1).length+1:Nat):Int)))<|
   need (Nat.beq (w64 ((x.1.length:Int) - 1)).toNat (List.dropLast x.2.1).length)<|
   need (decide (0<=(y2.length:Int))&&decide ((y2.length:Int)<((y2++[(⟨(⟨0,[],0,[],false⟩:zk),[]⟩:ze)]).length:Int)))<|
   za (y2++[(⟨(⟨0,[],0,[],false⟩:zk),[]⟩:ze)])[y2.length]? fun y3=>
   some (List.take (w64 ((x.1.length:Int) - 1)).toNat x.1,List.dropLast x.2.1,List.take y2.length (y2++[(⟨(⟨0,[],0,[],false⟩:zk),[]⟩:ze)])++List.cons (⟨y1,x.2.2⟩:ze) (List.drop (y2.length+1) (y2++[(⟨(⟨0,[],0,[],false⟩:zk),[]⟩:ze)]))))
def VD(x:List zk):Option (List ze×Int):=
 bif decide ((x.length:Int)>1500)then
  some ([],4)
 else
  zZ (fun(s1:Int×List (List ze)×List ze×List zk)=>
    bif decide (s1.1<(x.length:Int))then
     zW (X:=Int×List (List ze)×List ze×List zk) (
       za (geti x s1.1) fun y2=>
       need (decide (0<=w64 ((s1.2.2.2.length:Int) - 1))&&decide (w64 ((s1.2.2.2.length:Int) - 1)<(s1.2.2.2.length:Int))|| !(decide ((s1.2.2.2.length:Int)>0)))<|
       za (zA (decide ((s1.2.2.2.length:Int)>0)) s1.2.2.2[(w64 ((s1.2.2.2.length:Int) - 1)).toNat]? (default:zk)) fun y3=>
       za (zA (decide ((s1.2.2.2.length:Int)>0)) (Wo y3.kind) (default:Int)) fun y4=>
       bif bif decide ((s1.2.2.2.length:Int)>0)then y2.kind==y4 else false then
        za (Un (s1.2.2.2,s1.2.1,s1.2.2.1)) fun y5=>
        some (LX.out (s1.1,y5.2.1,y5.2.2,y5.1))
       else
        za (Wo y2.kind) fun y6=>
        bif y6 != 0 then
         bif (s1.2.2.2.length:Int)==16 then
          some (LX.ret (LO.ret ([],20)))
         else
          need (Zo (s1.2.1.length+1) 1 24)<|
          need (Zo s1.2.2.2.length 1 56)<|
          some (LX.out (s1.1,s1.2.1++[s1.2.2.1],[],s1.2.2.2++[y2]))
        else
         both (
           need (decide (0<=(s1.2.2.2.length:Int))&&decide ((s1.2.2.2.length:Int)<((s1.2.1.length+1:Nat):Int)))<|
           need (Nat.beq s1.2.2.2.length s1.2.1.length)<|
           need (Zo s1.2.2.1.length 1 80)<|
           need (decide (0<=(s1.2.2.2.length:Int))&&decide ((s1.2.2.2.length:Int)<((s1.2.1.length+1:Nat):Int)))<|
           need (Nat.beq s1.2.2.2.length s1.2.1.length)<|
           some (LX.out (s1.1,s1.2.1,s1.2.2.1++[(⟨y2,[]⟩:ze)],s1.2.2.2))) (
           need (decide (0<=(s1.2.2.2.length:Int))&&decide ((s1.2.2.2.length:Int)<((s1.2.1.length+1:Nat):Int)))<|
           need (Nat.beq s1.2.2.2.length s1.2.1.length)<|
           need (Zo s1.2.2.1.length 1 80)<|
           need (decide (0<=(s1.2.2.2.length:Int))&&decide ((s1.2.2.2.length:Int)<((s1.2.1.length+1:Nat):Int)))<|
           need (Nat.beq s1.2.2.2.length s1.2.1.length)<|
           need (decide (0<=(s1.2.2.1.length:Int))&&decide ((s1.2.2.1.length:Int)<((s1.2.2.1++[(⟨(⟨0,[],0,[],false⟩:zk),[]⟩:ze)]).length:Int)))<|
           za (s1.2.2.1++[(⟨(⟨0,[],0,[],false⟩:zk),[]⟩:ze)])[s1.2.2.1.length]? fun y7=>
           some (LX.out (s1.1,s1.2.1,List.set (s1.2.2.1++[(⟨(⟨0,[],0,[],false⟩:zk),[]⟩:ze)]) s1.2.2.1.length (⟨y2,[]⟩:ze),s1.2.2.2)))) fun j8=>
     some (LO.again (w64 (j8.1+1),j8.2.1,j8.2.2.1,j8.2.2.2))
    else
     some (LO.out (s1.2.1,s1.2.2.1,s1.2.2.2)):Int×List (List ze)×List ze×List zk->Option (LO (Int×List (List ze)×List ze×List zk) (List (List ze)×List ze×List zk) _)) (0,[],[],[]) fun o9=>
  bif decide (w64 ((x.length:Int)+(o9.2.2.length:Int))>1500)then
   some ([],4)
  else
   zZ (fun(s10:List (List ze)×List ze×List zk)=>
     bif decide ((s10.2.2.length:Int)>0)then
      za (Un (s10.2.2,s10.1,s10.2.1)) fun y11=>
      some (LO.again (y11.2.1,y11.2.2,y11.1))
     else
      some (LO.out (s10.1,s10.2.1,s10.2.2)):List (List ze)×List ze×List zk->Option (LO (List (List ze)×List ze×List zk) (List (List ze)×List ze×List zk) _)) (o9.1,o9.2.1,o9.2.2) fun o12=>
   need (decide (0<((o12.1.length+1:Nat):Int)))<|
   need (Nat.beq 0 o12.1.length)<|
   some (o12.2.1,0)
def zDj(F:Int->Option Int):Con I:=⟨97,⟨[.int .u8],[]⟩,[],⟨[.int .u8],[]⟩,0,F⟩
def zGh(F:List zk×List (List ze)×List ze->Option (List zk×List (List ze)×List ze)):Con I:=⟨96,⟨[.optr 0, .optr 2],[(0, .cells 120 [.own 1]),(1, .sl 129),(2, .cells 145 [.own 3]),(3, .slq 66 131 4),(4, .sl 131)]⟩,[],⟨[],[(0, .cells 120 [.own 5]),(2, .cells 145 [.own 6]),(5, .sl 129),(6, .slq 66 131 7),(7, .sl 131)]⟩,3,F⟩
def nS(F:List zk->Option (List ze×Int)):Con I:=⟨67,⟨[.sl 129],[]⟩,[],⟨[.sl 131, .int .i64],[]⟩,0,F⟩
theorem zCt:zh Tryz.prog (zDj Wo):=
 okP Tryz.f97 zu (joins:=[(7,⟨[6],⟨[.bool],[]⟩,[0],[],[],0,[],⟨[],[]⟩,[]⟩)])
theorem zFI:zh Tryz.prog (zGh Un):=
 okP Tryz.f96 zu (fz:=[(2,[200003,200006]),(4,[6]),(6,[7])]) (pre:=[(6,[(15,none)])]) (p:=5)
theorem zHx:zh Tryz.prog (nS VD):=
 okP Tryz.f67 (memC zCt (memC zFI zu)) (fz:=[(3,[200000]),(10,[7]),(12,[8]),(18,[5,100001])]) (cuts:=[(6,⟨[17],⟨[.int .i64],[(1, .cells 145 [.own 1106]),(1106, .slq 66 131 1107),(1107, .sl 131),(2, .cells 120 [.own 1108]),(1108, .sl 129)]⟩,[0,4,5,6,15,16],[],[1,2],0,[],⟨[],[(1, .cells 145 [.own 1106]),(1106, .slq 66 131 1107),(1107, .sl 131),(2, .cells 120 [.own 1108]),(1108, .sl 129)]⟩,[1,2,1106,1107,1108]⟩),(22,⟨[],⟨[],[(1, .cells 145 [.own 1213]),(1213, .slq 66 131 1215),(1215, .sl 131),(2, .cells 120 [.own 1214]),(1214, .sl 129)]⟩,[4,5,6],[],[1,2],3,[],⟨[],[(1, .cells 145 [.own 1213]),(1213, .slq 66 131 1215),(1215, .sl 131),(2, .cells 120 [.own 1214]),(1214, .sl 129)]⟩,[1,2,1213,1214,1215]⟩)]) (joins:=[(19,⟨[17],⟨[.int .i64],[(1, .cells 145 [.own 1210]),(1210, .slq 66 131 1212),(1212, .sl 131),(2, .cells 120 [.own 1211]),(1211, .sl 129)]⟩,[],[],[1,2],0,[],⟨[],[]⟩,[]⟩)])
theorem wU{R:Type}(x:Option R):both x x=x:=Ya rfl
theorem VG(k:Int):Wo k=some (ZK k):=by
 unfold Wo ZK;by_cases h2:k=2
 ·subst h2;rfl
 by_cases h19:k=19
 ·subst h19;rfl
 by_cases h21:k=21
 ·subst h21;rfl
 by_cases h23:k=23
 ·subst h23;rfl
 have e: ∀n:Int,k≠n->(k==n)=false:=fun n h=>Ea.2 h;simp[e _ h2,e _ h19,e _ h21,e _ h23,h2,h19,h21,h23]
def parL(a:PSt):List (List ze):=(a.2.map (·.2)).reverse
def parO(a:PSt):List zk:=(a.2.map (·.1)).reverse
theorem Vn{n:Nat}(h:n<=100000):w64 (n:Int)=n:=qz (by omega) (by omega)
theorem rR{cur out:List ze}{o:zk}{st:List (zk×List ze)}(h1:st.length<=100)(h2:out.length<=100000):Un (parO (cur,(o,out)::st),parL (cur,(o,out)::st),cur)=some (parO (Xq (cur,(o,out)::st)),parL (Xq (cur,(o,out)::st)),(Xq (cur,(o,out)::st)).1):=by
 have e1:parO (cur,(o,out)::st)=(st.map (·.1)).reverse++[o]:=by simp[parO]
 have e2:parL (cur,(o,out)::st)=(st.map (·.2)).reverse++[out]:=by simp[parL]
 rw[e1,e2];show Un ((st.map (·.1)).reverse++[o],(st.map (·.2)).reverse++[out],cur)=some ((st.map (·.1)).reverse,(st.map (·.2)).reverse,out++[⟨o,cur⟩]);have l1:((st.map (·.1)).reverse).length=st.length:=by simp
 have l2:((st.map (·.2)).reverse).length=st.length:=by simp
 generalize (st.map (·.1)).reverse=A at*;generalize (st.map (·.2)).reverse=B at*;have w1:w64 (((A++[o]).length:Int) - 1)=(st.length:Int):=by rw[show((A++[o]).length:Int) - 1=(st.length:Int) by simp[l1]];exact Vn (by omega)
 have w2:w64 ((st.length:Int)+1)=((st.length+1:Nat):Int):=Vn (n:=st.length+1) (by omega);have ap:Zo out.length 1 80=true:=Dj (by omega);unfold Un;simp only[w1,w2,ic];have c1:(decide ((0:Int)<=(st.length:Int))&&decide ((st.length:Int)<((A++[o]).length:Int)))=true:=by simp[l1];omega
 have c2:(decide ((0:Int)<=((st.length+1:Nat):Int))&&decide (((st.length+1:Nat):Int)<(((B++[out]).length+1:Nat):Int)))=true:=by simp[l2];omega
 have c3:Nat.beq (st.length+1) (B++[out]).length=true:=by simp[l2]
 have c4:decide (((st.length+1:Nat):Int)=((B++[out]).length:Int))=true:=by simp[l2]
 have c5:(decide ((0:Int)<=(st.length:Int))&&decide ((st.length:Int)<=((A++[o]).length:Int)))=true:=by simp[l1];omega
 have c6:(decide ((0:Int)<=(st.length:Int))&&decide ((st.length:Int)<((B.length+1:Nat):Int)))=true:=by simp[l2];omega
 have c7:Nat.beq st.length B.length=true:=by simp[l2]
 have g1:(A++[o])[st.length]? =some o:=by rw[<-l1];simp
 have t1:(A++[o]).take st.length=A:=by rw[<-l1];simp
 have z1: ∀z:ze,(out++[z])[out.length]? =some z:=fun z=>by simp
 have z2: ∀z:ze,(out++[z]).take out.length=out:=fun z=>by simp
 have z3: ∀z:ze,(out++[z]).drop (out.length+1)=[]:=fun z=>by simp
 have c8: ∀z:ze,(decide ((0:Int)<=(out.length:Int))&&decide ((out.length:Int)<((out++[z]).length:Int)))=true:=fun z=>by simp;omega
 simp only[c1,c2,c3,c4,c5,Z8,g1,za,Aa,List.getLast?_append,List.getLast?_singleton,Option.some_or,List.dropLast_concat,c6,c7,ap,c8,z1,z2,z3,t1,wU]
def ParB(b:Nat)(a:PSt):Prop:=a.2.length<=16/\a.1.length<=b/\ ∀p∈a.2,p.2.length<=b
theorem OU{b:Nat}{a a':PSt}{t:zk}(h:ParB b a)(e:Aj a t=some a'):ParB (b+1) a':=by
 obtain⟨h1,h2,h3⟩:=h;unfold Aj at e;split at e
 ·cases e;obtain⟨cur,st⟩:=a;cases st with
  |nil=>exact⟨h1,bg h2,fun p hp=>by cases hp⟩
  |cons q st=> obtain⟨o,out⟩:=q;refine⟨by have:((o,out)::st).length<=16:=h1;simp at this;show st.length<=16;omega,?_,fun p hp=>bg (h3 p (Nb _ hp))⟩;have:=h3 (o,out) (Lb ..);show(out++[(⟨o,cur⟩:ze)]).length<=b+1;simp;omega
 ·split at e
  ·split at e
   ·cases e
   ·rename_i h16;cases e;refine⟨by show a.2.length+1<=16;omega,Sb _,fun p hp=> ?_⟩;rcases ma.1 hp with rfl|hp
    ·exact bg h2
    ·exact bg (h3 p hp)
  ·cases e;exact⟨h1,by show(a.1++[(⟨t,[]⟩:ze)]).length<=b+1;simp;exact h2,fun p hp=>bg (h3 p hp)⟩
theorem Gs(a:PSt):(parO a).length=a.2.length:=by simp[parO]
theorem zJm(a:PSt):(parL a).length=a.2.length:=by simp[parL]
def parG(t:zk)(a:PSt):Option (LO PSt (List (List ze)×List ze×List zk) (List ze×Int)):=match Aj a t with
 |none=>some (.ret ([],20))
 |some a'=>some (.again a')
def yI(a:PSt):Option (LX (List (List ze)×List ze×List zk) (List ze×Int)):=some (.out (parL a,a.1,parO a))
theorem DT: ∀(l:List zk) (a:PSt),Mf parG yI l a=(match ai l a with
 |none=>some (.ret ([],20))
 |some a'=>some (.out (parL a',a'.1,parO a')))
 |[],a=>rfl
 |t::r,a=>by
  simp only[Mf,parG,ai];cases h:Aj a t with
  |none=>rfl
  |some a'=>exact DT r a'
theorem yS: ∀(l:List zk) {b:Nat} {a a':PSt},ParB b a->ai l a=some a'->ParB (b+l.length) a'
 |[],b,a,a',h,e=>by cases e;exact h
 |t::r,b,a,a',h,e=>by
  obtain⟨a1,h1,h2⟩:=Ba.1 (show(Aj a t).bind (ai r)=some a' from e);have:=yS r (OU h h1) h2
  rwa [show b+(t::r).length=b+1+r.length by simp;omega]
theorem zJn{i n:Nat}{t:zk}{a:PSt}(hi:i<1500)(hn:dD a.2 t=false)(hB:ParB i a):zW (X:=Int×List (List ze)×List ze×List zk) (R:=LO (Int×List (List ze)×List ze×List zk) (List (List ze)×List ze×List zk) (List ze×Int))
  (za (Wo t.kind) fun y6=>
   bif y6 != 0 then
    bif ((parO a).length:Int)==16 then
     some (LX.ret (LO.ret ([],20)))
    else
     need (Zo ((parL a).length+1) 1 24)<|
     need (Zo (parO a).length 1 56)<|
     some (LX.out ((i:Int),parL a++[a.1],[],parO a++[t]))
   else
    both (
      need (decide (0<=((parO a).length:Int))&&decide (((parO a).length:Int)<(((parL a).length+1:Nat):Int)))<|
      need (Nat.beq (parO a).length (parL a).length)<|
      need (Zo a.1.length 1 80)<|
      need (decide (0<=((parO a).length:Int))&&decide (((parO a).length:Int)<(((parL a).length+1:Nat):Int)))<|
      need (Nat.beq (parO a).length (parL a).length)<|
      some (LX.out ((i:Int),parL a,a.1++[(⟨t,[]⟩:ze)],parO a))) (
      need (decide (0<=((parO a).length:Int))&&decide (((parO a).length:Int)<(((parL a).length+1:Nat):Int)))<|
      need (Nat.beq (parO a).length (parL a).length)<|
      need (Zo a.1.length 1 80)<|
      need (decide (0<=((parO a).length:Int))&&decide (((parO a).length:Int)<(((parL a).length+1:Nat):Int)))<|
      need (Nat.beq (parO a).length (parL a).length)<|
      need (decide (0<=(a.1.length:Int))&&decide ((a.1.length:Int)<((a.1++[(⟨(⟨0,[],0,[],false⟩:zk),[]⟩:ze)]).length:Int)))<|
      za (a.1++[(⟨(⟨0,[],0,[],false⟩:zk),[]⟩:ze)])[a.1.length]? fun y7=>
      some (LX.out ((i:Int),parL a,List.set (a.1++[(⟨(⟨0,[],0,[],false⟩:zk),[]⟩:ze)]) a.1.length (⟨t,[]⟩:ze),parO a))))
  (fun j8=>some (LO.again (w64 (j8.1+1),j8.2.1,j8.2.2.1,j8.2.2.2)))=(parG t a).map fun
   | .again a'=> .again (((i+1:Nat):Int),parL a',a'.1,parO a')
   | .out x=> .out x
   | .ret r=> .ret r:=by
 obtain⟨b1,b2,b3⟩:=hB;have hO:=Gs a;have hL:=zJm a;have wi:w64 ((i:Int)+1)=((i+1:Nat):Int):=Vn (n:=i+1) (by omega);rw[VG];simp only[za,Aa];unfold parG Aj;rw[hn];by_cases h0:ZK t.kind=0
 ·have c6:(decide ((0:Int)<=((parO a).length:Int))&&decide (((parO a).length:Int)<(((parL a).length+1:Nat):Int)))=true:=by rw[hO,hL];simp;omega
  have c7:Nat.beq (parO a).length (parL a).length=true:=by rw[hO,hL];simp
  have ap:Zo a.1.length 1 80=true:=Dj (by omega);have c8: ∀z:ze,(decide ((0:Int)<=(a.1.length:Int))&&decide ((a.1.length:Int)<((a.1++[z]).length:Int)))=true:=fun z=>by simp;omega
  have z1: ∀z:ze,(a.1++[z])[a.1.length]? =some z:=fun z=>by simp
  have z2: ∀z y:ze,List.set (a.1++[z]) a.1.length y=a.1++[y]:=fun z y=>by simp
  simp only[h0,Ie,Ca,c6,c7,c8,ap,Z8,z1,z2,Aa,wU,zX,wi,ne_eq,not_true_eq_false,if_false,Dg];rfl
 ·have hb:(ZK t.kind != 0)=true:=by simpa using h0
  simp only[hb,Da,Dg,if_false,ne_eq,h0,ve,if_true];by_cases h16:a.2.length=16
  ·have:(((parO a).length:Int)==16)=true:=by rw[hO,h16];rfl
   rw[this,Ya h16];rfl
  ·have:(((parO a).length:Int)==16)=false:=by rw[hO];exact Ea.2 (by omega)
   rw[this,ja h16];have a1:Zo ((parL a).length+1) 1 24=true:=Dj (by rw[hL];omega);have a2:Zo (parO a).length 1 56=true:=Dj (by rw[hO];omega);simp only[Ca,a1,a2,Z8,zX,wi];have e1:parL ([],(t,a.1)::a.2)=parL a++[a.1]:=by simp[parL]
   have e2:parO ([],(t,a.1)::a.2)=parO a++[t]:=by simp[parO]
   show _=some (LO.again (((i+1:Nat):Int),parL ([],(t,a.1)::a.2),([]:List ze),parO ([],(t,a.1)::a.2)));rw[e1,e2]
theorem zHI(x:List zk):VD x=parseF x:=by
 unfold VD parseF parS;by_cases hx:1500<x.length
 ·rw[Ya hx,show decide ((x.length:Int)>1500)=true from Ma (by omega)];rfl
 rw[ja hx,show decide ((x.length:Int)>1500)=false from Na (by omega),Ca];have hov:Mf parG yI x ([],[])=some (match ai x ([],[])with
  |none=> .ret ([],20)
  |some a'=> .out (parL a',a'.1,parO a')):=by rw[DT];cases ai x ([],[])<;>rfl
 refine(Po (A:=PSt) x (fun i a=>((i:Int),parL a,a.1,parO a)) parG yI (fun i a=>i<=x.length/\ParB i a) (a:=([],[])) rfl ⟨Sb _,Sb _,Sb _,fun p hp=>by cases hp⟩ ?_ ?_ hov).trans ?_
 ·intro i a hi ⟨_,hB⟩;refine⟨?_,fun a' ha=>⟨hi,OU (t:=x[i]) hB (by
   unfold parG at ha;cases h:Aj a x[i]with
   |none=>rw[h]at ha;cases ha
   |some a2=>rw[h]at ha;cases ha;rfl)⟩⟩
  have c0:decide ((i:Int)<(x.length:Int))=true:=Ma (by omega);have hb:=hB;obtain⟨b1,b2,b3⟩:=hb;have els:=fun(hn:dD a.2 x[i]=false)=>zJn (i:=i) (n:=0) (t:=x[i]) (a:=a) (by omega) hn hB;simp only[c0,Da,zN hi,za,Aa]at els ⊢;obtain⟨cur,_|⟨⟨o,out⟩,st⟩⟩:=a
  ·have e0:decide (((parO (cur,([]:List (zk×List ze)))).length:Int)>0)=false:=rfl;simp only[e0,Ra,Bool.or_true,Z8,qi,Aa,Ca];simp only[VG,Aa]at els ⊢;refine Eq.trans ?_ ((els rfl).trans ?_)
   ·rfl
   ·rcases parG x[i] (cur,[])with _|(_|_|_)<;>rfl
  ·have hlen:(parO (cur,(o,out)::st)).length=st.length+1:=by rw[Gs];rfl
   have hst:st.length+1<=16:=b1;have e0:decide (((parO (cur,(o,out)::st)).length:Int)>0)=true:=Ma (by rw[hlen];omega);have w1:w64 (((parO (cur,(o,out)::st)).length:Int) - 1)=(st.length:Int):=by rw[show((parO (cur,(o,out)::st)).length:Int) - 1=(st.length:Int) by rw[hlen];omega];exact Vn (by omega)
   have c1:(decide ((0:Int)<=(st.length:Int))&&decide ((st.length:Int)<((parO (cur,(o,out)::st)).length:Int)))=true:=by rw[hlen];simp;omega
   have g1:(parO (cur,(o,out)::st))[st.length]? =some o:=by
    have:parO (cur,(o,out)::st)=(st.map (·.1)).reverse++[o]:=by simp[parO]
    rw[this];simp
   simp only[e0,w1,c1,Me,Z8,Zm,ic,g1,VG,Aa,Da]at els ⊢;by_cases hs:(x[i].kind==ZK o.kind)=true
   ·rw[hs,rR (by omega) (Kb (b3 (o,out) (Lb ..)) (by omega))];have wi:w64 ((i:Int)+1)=((i+1:Nat):Int):=Vn (n:=i+1) (by omega);simp only[Da,Aa,zX,wi];unfold parG Aj;rw[Ya (show dD ((o,out)::st) x[i]=true from hs)];rfl
   ·have hs:(x[i].kind==ZK o.kind)=false:=by simpa using hs
    rw[hs];simp only[Ca];refine Eq.trans ?_ ((els hs).trans ?_)
    ·rfl
    ·rcases parG x[i] (cur,(o,out)::st)with _|(_|_|_)<;>rfl
 ·intro a _;have c0:decide ((x.length:Int)<(x.length:Int))=false:=Na (by omega);simp only[c0,Ca];rfl
 cases hrun:ai x ([],[])with
 |none=>rfl
 |some a=>
  have hB:=yS x (b:=0) ⟨Sb _,Sb _,fun p hp=>by cases hp⟩ hrun;rw[Dc]at hB;obtain⟨b1,b2,b3⟩:=hB;simp only[zGK];have hw:w64 ((x.length:Int)+((parO a).length:Int))=((x.length+a.2.length:Nat):Int):=by rw[Gs];exact Vn (n:=x.length+a.2.length) (by omega)
  rw[hw];by_cases h2:1500<x.length+a.2.length
  ·rw[Ya h2,show decide (((x.length+a.2.length:Nat):Int)>1500)=true from Ma (by omega)];rfl
  rw[ja h2,show decide (((x.length+a.2.length:Nat):Int)>1500)=false from Na (by omega),Ca];rw[CU (x:=(([]:List (List ze)),shutAll a.1 a.2,([]:List zk))) (jE (fun s=> ∃b:PSt,s=(parL b,b.1,parO b)/\shutAll b.1 b.2=shutAll a.1 a.2/\b.2.length<=16/\ ∀p∈b.2,p.2.length<=1500) (fun s=>s.2.2.length) _ ?_ ⟨a,rfl,rfl,b1,fun p hp=>Kb (b3 p hp) (by omega)⟩)]
  ·rfl
  ·rintro _ ⟨⟨cur,_|⟨⟨o,out⟩,st⟩⟩,rfl,q1,q2,q3⟩
   ·exact .inr (.inl ⟨_,rfl,by rw[<-q1];rfl⟩)
   ·have hlen:(parO (cur,(o,out)::st)).length=st.length+1:=by rw[Gs];rfl
    have hst:st.length+1<=16:=q2;have e0:decide (((parO (cur,(o,out)::st)).length:Int)>0)=true:=Ma (by rw[hlen];omega);refine .inl ⟨_,?_,⟨Xq (cur,(o,out)::st),rfl,q1,by show st.length<=16;omega,fun p hp=>q3 p (Nb _ hp)⟩,?_⟩
    ·simp only[e0,Da,za];rw[rR (by omega) (Kb (q3 (o,out) (Lb ..)) (by omega))];rfl
    ·rw[hlen];show(parO (Xq (cur,(o,out)::st))).length<st.length+1;rw[Gs];show st.length<st.length+1;omega
theorem gv_parse:zh Tryz.prog (nS parseF):=by
 have:=zHx
 rwa [show VD=parseF from funext zHI]at this
end Go.Lv.VT
namespace Go.Lv
theorem zGR:zh Proofs.Tryz.prog (⟨67,⟨[.sl 129],[]⟩,[],⟨[.sl 131, .int .i64],[]⟩,0,VT.parseF⟩:Con VT.I):=VT.gv_parse
theorem zGP:zh Proofs.Tryz.prog (⟨139,⟨[.str],[]⟩,[],⟨[.str, .int .i64],[]⟩,0,RD⟩:Con VT.I):=zDw
end Go.Lv
end
