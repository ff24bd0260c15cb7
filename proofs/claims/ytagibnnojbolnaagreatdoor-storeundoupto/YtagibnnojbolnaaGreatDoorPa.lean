/- nest.Parse: its text, and its contract. -/
import Derived.Test.YtagibnnojbolnaaGreatDoorIp
import Derived.Test.YtagibnnojbolnaaGreatDoorLf
import Derived.Test.YtagibnnojbolnaaGreatDoorTy
import Derived.Test.YtagibnnojbolnaaGreatDoorGa
import Derived.Test.YtagibnnojbolnaaGreatDoorCd
noncomputable section
set_option linter.unusedSimpArgs false
set_option linter.unusedVariables false
namespace Go.Lv.VT
set_option maxRecDepth 100000
open Go.Proofs
def TP:TT:=[(2,ti Tryz.prog 2),(3,ti Tryz.prog 3),(4,ti Tryz.prog 4),(5,ti Tryz.prog 5),(9,ti Tryz.prog 9),(68,ti Tryz.prog 68),(71,ti Tryz.prog 71),(102,ti Tryz.prog 102),(104,ti Tryz.prog 104),(106,ti Tryz.prog 106)]
theorem tokP:TOK Tryz.prog TP []:=EN (l:=[2,3,4,5,9,68,71,102,104,106]) fun _ h=>by cases h
theorem okP{con:Con I}{S:List (Con I)}(f:Go.Func)(hS: ∀c∈S,ZL Tryz.prog c)(fz:List (Nat×List Nat):=[])(pre:List (Nat×List (Nat×Option Nat)):=[])(p:Nat:=0)(cuts:List (Nat×Cut):=[])(joins:List (Nat×Cut):=[])(cls:List (Nat×List Nat):=[])(fl:Option Nat:=none)(exS:StSh:=con.outS)(hf:Tryz.prog.funcs[con.f]? =some f:=by kernel_rfl)(h:chk con (⟨S,fz,pre,p,cuts,joins,cls,fl⟩:Env0 I) f=true:=by kernel_rfl)(he: ∀x,evF2 (⟨S,fz,pre,p,cuts,joins,cls,fl⟩:Env0 I) TP [] f.ntmps (rsl f) (body f) con exS x=con.F x:=by intro x;kernel_rfl):ZL Tryz.prog con:=
 okC0 mixed ipOK tokP rfl rfl hS hf h he
def Ou(x:Int):Option Int:=
 bif x==2 then
  some 22
 else
  Zi (X:=Bool) (
    bif x==19 then
     some (LX.out (x==19))
    else
     bif x==21 then
      some (LX.out (x==21))
     else
      some (LX.out (x==23))) fun j1=>
  bif j1 then
   some (wu8 (x+1))
  else
   some 0
def Gt(x:List zg×List (List zb)×List zb):Option (List zg×List (List zb)×List zb):=
 need (decide (0<=w64 ((x.1.length:Int) - 1))&&decide (w64 ((x.1.length:Int) - 1)<(x.1.length:Int)))<|
 za (x.1[(w64 ((x.1.length:Int) - 1)).toNat]?) fun y1=>
 need (decide (0<=w64 (w64 ((x.1.length:Int) - 1)+1))&&decide (w64 (w64 ((x.1.length:Int) - 1)+1)<((x.2.1.length+1:Nat):Int)))<|
 need (Nat.beq (w64 (w64 ((x.1.length:Int) - 1)+1)).toNat x.2.1.length)<|
 za (List.getLast? x.2.1) fun y2=>
 need (decide (w64 (w64 ((x.1.length:Int) - 1)+1)=(x.2.1.length:Int)))<|
 need (decide (0<=w64 ((x.1.length:Int) - 1))&&decide (w64 ((x.1.length:Int) - 1)<=(x.1.length:Int)))<|
 both (
   need (decide (0<=w64 ((x.1.length:Int) - 1))&&decide (w64 ((x.1.length:Int) - 1)<(((List.dropLast x.2.1).length+1:Nat):Int)))<|
   need (Nat.beq (w64 ((x.1.length:Int) - 1)).toNat (List.dropLast x.2.1).length)<|
   need (ZB y2.length 1 80)<|
   need (decide (0<=w64 ((x.1.length:Int) - 1))&&decide (w64 ((x.1.length:Int) - 1)<(((List.dropLast x.2.1).length+1:Nat):Int)))<|
   need (Nat.beq (w64 ((x.1.length:Int) - 1)).toNat (List.dropLast x.2.1).length)<|
   some (List.take (w64 ((x.1.length:Int) - 1)).toNat x.1,List.dropLast x.2.1,y2++[(⟨y1,x.2.2⟩:zb)])) (
   need (decide (0<=w64 ((x.1.length:Int) - 1))&&decide (w64 ((x.1.length:Int) - 1)<(((List.dropLast x.2.1).length+1:Nat):Int)))<|
   need (Nat.beq (w64 ((x.1.length:Int) - 1)).toNat (List.dropLast x.2.1).length)<|
   need (ZB y2.length 1 80)<|
   need (decide (0<=w64 ((x.1.length:Int) - 1))&&decide (w64 ((x.1.length:Int) - 1)<(((List.dropLast x.2.1).length+1:Nat):Int)))<|
   need (Nat.beq (w64 ((x.1.length:Int) - 1)).toNat (List.dropLast x.2.1).length)<|
   need (decide (0<=(y2.length:Int))&&decide ((y2.length:Int)<((y2++[(⟨(⟨0,[],0,[],false⟩:zg),[]⟩:zb)]).length:Int)))<|
   za (y2++[(⟨(⟨0,[],0,[],false⟩:zg),[]⟩:zb)])[y2.length]? fun y3=>
   some (List.take (w64 ((x.1.length:Int) - 1)).toNat x.1,List.dropLast x.2.1,List.take y2.length (y2++[(⟨(⟨0,[],0,[],false⟩:zg),[]⟩:zb)])++List.cons (⟨y1,x.2.2⟩:zb) (List.drop (y2.length+1) (y2++[(⟨(⟨0,[],0,[],false⟩:zg),[]⟩:zb)]))))
def XI(x:List zg):Option (List zb×Int):=
 bif decide ((x.length:Int)>1500)then
  some ([],4)
 else
  zU (fun(s1:Int×List (List zb)×List zb×List zg)=>
    bif decide (s1.1<(x.length:Int))then
     Zi (X:=Int×List (List zb)×List zb×List zg) (
       za (geti x s1.1) fun y2=>
       need (decide (0<=w64 ((s1.2.2.2.length:Int) - 1))&&decide (w64 ((s1.2.2.2.length:Int) - 1)<(s1.2.2.2.length:Int))|| !(decide ((s1.2.2.2.length:Int)>0)))<|
       za (zF (decide ((s1.2.2.2.length:Int)>0)) s1.2.2.2[(w64 ((s1.2.2.2.length:Int) - 1)).toNat]? (default:zg)) fun y3=>
       za (zF (decide ((s1.2.2.2.length:Int)>0)) (Ou y3.kind) (default:Int)) fun y4=>
       bif bif decide ((s1.2.2.2.length:Int)>0)then y2.kind==y4 else false then
        za (Gt (s1.2.2.2,s1.2.1,s1.2.2.1)) fun y5=>
        some (LX.out (s1.1,y5.2.1,y5.2.2,y5.1))
       else
        za (Ou y2.kind) fun y6=>
        bif y6 != 0 then
         bif (s1.2.2.2.length:Int)==16 then
          some (LX.ret (LO.ret ([],20)))
         else
          need (ZB (s1.2.1.length+1) 1 24)<|
          need (ZB s1.2.2.2.length 1 56)<|
          some (LX.out (s1.1,s1.2.1++[s1.2.2.1],[],s1.2.2.2++[y2]))
        else
         both (
           need (decide (0<=(s1.2.2.2.length:Int))&&decide ((s1.2.2.2.length:Int)<((s1.2.1.length+1:Nat):Int)))<|
           need (Nat.beq s1.2.2.2.length s1.2.1.length)<|
           need (ZB s1.2.2.1.length 1 80)<|
           need (decide (0<=(s1.2.2.2.length:Int))&&decide ((s1.2.2.2.length:Int)<((s1.2.1.length+1:Nat):Int)))<|
           need (Nat.beq s1.2.2.2.length s1.2.1.length)<|
           some (LX.out (s1.1,s1.2.1,s1.2.2.1++[(⟨y2,[]⟩:zb)],s1.2.2.2))) (
           need (decide (0<=(s1.2.2.2.length:Int))&&decide ((s1.2.2.2.length:Int)<((s1.2.1.length+1:Nat):Int)))<|
           need (Nat.beq s1.2.2.2.length s1.2.1.length)<|
           need (ZB s1.2.2.1.length 1 80)<|
           need (decide (0<=(s1.2.2.2.length:Int))&&decide ((s1.2.2.2.length:Int)<((s1.2.1.length+1:Nat):Int)))<|
           need (Nat.beq s1.2.2.2.length s1.2.1.length)<|
           need (decide (0<=(s1.2.2.1.length:Int))&&decide ((s1.2.2.1.length:Int)<((s1.2.2.1++[(⟨(⟨0,[],0,[],false⟩:zg),[]⟩:zb)]).length:Int)))<|
           za (s1.2.2.1++[(⟨(⟨0,[],0,[],false⟩:zg),[]⟩:zb)])[s1.2.2.1.length]? fun y7=>
           some (LX.out (s1.1,s1.2.1,List.set (s1.2.2.1++[(⟨(⟨0,[],0,[],false⟩:zg),[]⟩:zb)]) s1.2.2.1.length (⟨y2,[]⟩:zb),s1.2.2.2)))) fun j8=>
     some (LO.again (w64 (j8.1+1),j8.2.1,j8.2.2.1,j8.2.2.2))
    else
     some (LO.out (s1.2.1,s1.2.2.1,s1.2.2.2)):Int×List (List zb)×List zb×List zg->Option (LO (Int×List (List zb)×List zb×List zg) (List (List zb)×List zb×List zg) _)) (0,[],[],[]) fun o9=>
  bif decide (w64 ((x.length:Int)+(o9.2.2.length:Int))>1500)then
   some ([],4)
  else
   zU (fun(s10:List (List zb)×List zb×List zg)=>
     bif decide ((s10.2.2.length:Int)>0)then
      za (Gt (s10.2.2,s10.1,s10.2.1)) fun y11=>
      some (LO.again (y11.2.1,y11.2.2,y11.1))
     else
      some (LO.out (s10.1,s10.2.1,s10.2.2)):List (List zb)×List zb×List zg->Option (LO (List (List zb)×List zb×List zg) (List (List zb)×List zb×List zg) _)) (o9.1,o9.2.1,o9.2.2) fun o12=>
   need (decide (0<((o12.1.length+1:Nat):Int)))<|
   need (Nat.beq 0 o12.1.length)<|
   some (o12.2.1,0)
def zBW(F:Int->Option Int):Con I:=⟨51,⟨[.int .u8],[]⟩,[],⟨[.int .u8],[]⟩,0,F⟩
def zFL(F:List zg×List (List zb)×List zb->Option (List zg×List (List zb)×List zb)):Con I:=⟨50,⟨[.optr 0, .optr 2],[(0, .cells 68 [.own 1]),(1, .sl 102),(2, .cells 104 [.own 3]),(3, .slq 71 106 4),(4, .sl 106)]⟩,[],⟨[],[(0, .cells 68 [.own 5]),(2, .cells 104 [.own 6]),(5, .sl 102),(6, .slq 71 106 7),(7, .sl 106)]⟩,3,F⟩
def wX(F:List zg->Option (List zb×Int)):Con I:=⟨35,⟨[.sl 102],[]⟩,[],⟨[.sl 106, .int .i64],[]⟩,0,F⟩
theorem zA5:ZL Tryz.prog (zBW Ou):=
 okP Tryz.f51 zA (joins:=[(7,⟨[6],⟨[.bool],[]⟩,[0],[],[],0,[],⟨[],[]⟩,[]⟩)])
theorem zE9:ZL Tryz.prog (zFL Gt):=
 okP Tryz.f50 zA (fz:=[(2,[200003,200006]),(4,[6]),(6,[7])]) (pre:=[(6,[(15,none)])]) (p:=5)
theorem zHx:ZL Tryz.prog (wX XI):=
 okP Tryz.f35 (memC zA5 (memC zE9 zA)) (fz:=[(3,[200000]),(10,[7]),(12,[8]),(18,[5,100001])]) (cuts:=[(6,⟨[17],⟨[.int .i64],[(1, .cells 104 [.own 1106]),(1106, .slq 71 106 1107),(1107, .sl 106),(2, .cells 68 [.own 1108]),(1108, .sl 102)]⟩,[0,4,5,6,15,16],[],[1,2],0,[],⟨[],[(1, .cells 104 [.own 1106]),(1106, .slq 71 106 1107),(1107, .sl 106),(2, .cells 68 [.own 1108]),(1108, .sl 102)]⟩,[1,2,1106,1107,1108]⟩),(22,⟨[],⟨[],[(1, .cells 104 [.own 1213]),(1213, .slq 71 106 1215),(1215, .sl 106),(2, .cells 68 [.own 1214]),(1214, .sl 102)]⟩,[4,5,6],[],[1,2],3,[],⟨[],[(1, .cells 104 [.own 1213]),(1213, .slq 71 106 1215),(1215, .sl 106),(2, .cells 68 [.own 1214]),(1214, .sl 102)]⟩,[1,2,1213,1214,1215]⟩)]) (joins:=[(19,⟨[17],⟨[.int .i64],[(1, .cells 104 [.own 1210]),(1210, .slq 71 106 1212),(1212, .sl 106),(2, .cells 68 [.own 1211]),(1211, .sl 102)]⟩,[],[],[1,2],0,[],⟨[],[]⟩,[]⟩)])
theorem CP{R:Type}(x:Option R):both x x=x:=Sa rfl
theorem uK(k:Int):Ou k=some (Zn k):=by
 unfold Ou Zn;by_cases h2:k=2
 ·subst h2;rfl
 by_cases h19:k=19
 ·subst h19;rfl
 by_cases h21:k=21
 ·subst h21;rfl
 by_cases h23:k=23
 ·subst h23;rfl
 have e: ∀n:Int,k≠n->(k==n)=false:=fun n h=>Ea.2 h;simp[e _ h2,e _ h19,e _ h21,e _ h23,h2,h19,h21,h23]
def parL(a:PSt):List (List zb):=(a.2.map (·.2)).reverse
def parO(a:PSt):List zg:=(a.2.map (·.1)).reverse
theorem Ot{n:Nat}(h:n<=100000):w64 (n:Int)=n:=ZT (by omega) (by omega)
theorem iV{cur out:List zb}{o:zg}{st:List (zg×List zb)}(h1:st.length<=100)(h2:out.length<=100000):Gt (parO (cur,(o,out)::st),parL (cur,(o,out)::st),cur)=some (parO (Gp (cur,(o,out)::st)),parL (Gp (cur,(o,out)::st)),(Gp (cur,(o,out)::st)).1):=by
 have e1:parO (cur,(o,out)::st)=(st.map (·.1)).reverse++[o]:=by simp[parO]
 have e2:parL (cur,(o,out)::st)=(st.map (·.2)).reverse++[out]:=by simp[parL]
 rw[e1,e2];show Gt ((st.map (·.1)).reverse++[o],(st.map (·.2)).reverse++[out],cur)=some ((st.map (·.1)).reverse,(st.map (·.2)).reverse,out++[⟨o,cur⟩]);have l1:((st.map (·.1)).reverse).length=st.length:=by simp
 have l2:((st.map (·.2)).reverse).length=st.length:=by simp
 generalize (st.map (·.1)).reverse=A at*;generalize (st.map (·.2)).reverse=B at*;have w1:w64 (((A++[o]).length:Int) - 1)=(st.length:Int):=by rw[show((A++[o]).length:Int) - 1=(st.length:Int) by simp[l1]];exact Ot (by omega)
 have w2:w64 ((st.length:Int)+1)=((st.length+1:Nat):Int):=Ot (n:=st.length+1) (by omega);have ap:ZB out.length 1 80=true:=qy (by omega);unfold Gt;simp only[w1,w2,Cb];have c1:(decide ((0:Int)<=(st.length:Int))&&decide ((st.length:Int)<((A++[o]).length:Int)))=true:=by simp[l1];omega
 have c2:(decide ((0:Int)<=((st.length+1:Nat):Int))&&decide (((st.length+1:Nat):Int)<(((B++[out]).length+1:Nat):Int)))=true:=by simp[l2];omega
 have c3:Nat.beq (st.length+1) (B++[out]).length=true:=by simp[l2]
 have c4:decide (((st.length+1:Nat):Int)=((B++[out]).length:Int))=true:=by simp[l2]
 have c5:(decide ((0:Int)<=(st.length:Int))&&decide ((st.length:Int)<=((A++[o]).length:Int)))=true:=by simp[l1];omega
 have c6:(decide ((0:Int)<=(st.length:Int))&&decide ((st.length:Int)<((B.length+1:Nat):Int)))=true:=by simp[l2];omega
 have c7:Nat.beq st.length B.length=true:=by simp[l2]
 have g1:(A++[o])[st.length]? =some o:=by rw[<-l1];simp
 have t1:(A++[o]).take st.length=A:=by rw[<-l1];simp
 have z1: ∀z:zb,(out++[z])[out.length]? =some z:=fun z=>by simp
 have z2: ∀z:zb,(out++[z]).take out.length=out:=fun z=>by simp
 have z3: ∀z:zb,(out++[z]).drop (out.length+1)=[]:=fun z=>by simp
 have c8: ∀z:zb,(decide ((0:Int)<=(out.length:Int))&&decide ((out.length:Int)<((out++[z]).length:Int)))=true:=fun z=>by simp;omega
 simp only[c1,c2,c3,c4,c5,Zz,g1,za,Aa,List.getLast?_append,List.getLast?_singleton,Option.some_or,List.dropLast_concat,c6,c7,ap,c8,z1,z2,z3,t1,CP]
def ParB(b:Nat)(a:PSt):Prop:=a.2.length<=16/\a.1.length<=b/\ ∀p∈a.2,p.2.length<=b
theorem EZ{b:Nat}{a a':PSt}{t:zg}(h:ParB b a)(e:xh a t=some a'):ParB (b+1) a':=by
 obtain⟨h1,h2,h3⟩:=h;unfold xh at e;split at e
 ·cases e;obtain⟨cur,st⟩:=a;cases st with
  |nil=>exact⟨h1,Oi h2,fun p hp=>by cases hp⟩
  |cons q st=> obtain⟨o,out⟩:=q;refine⟨by have:((o,out)::st).length<=16:=h1;simp at this;show st.length<=16;omega,?_,fun p hp=>Oi (h3 p (Kb _ hp))⟩;have:=h3 (o,out) (Ob ..);show(out++[(⟨o,cur⟩:zb)]).length<=b+1;simp;omega
 ·split at e
  ·split at e
   ·cases e
   ·rename_i h16;cases e;refine⟨by show a.2.length+1<=16;omega,Va _,fun p hp=> ?_⟩;rcases Jb.1 hp with rfl|hp
    ·exact Oi h2
    ·exact Oi (h3 p hp)
  ·cases e;exact⟨h1,by show(a.1++[(⟨t,[]⟩:zb)]).length<=b+1;simp;exact h2,fun p hp=>Oi (h3 p hp)⟩
theorem xw(a:PSt):(parO a).length=a.2.length:=by simp[parO]
theorem zJ7(a:PSt):(parL a).length=a.2.length:=by simp[parL]
def parG(t:zg)(a:PSt):Option (LO PSt (List (List zb)×List zb×List zg) (List zb×Int)):=match xh a t with
 |none=>some (.ret ([],20))
 |some a'=>some (.again a')
def MN(a:PSt):Option (LX (List (List zb)×List zb×List zg) (List zb×Int)):=some (.out (parL a,a.1,parO a))
theorem GY: ∀(l:List zg) (a:PSt),kg parG MN l a=(match ah l a with
 |none=>some (.ret ([],20))
 |some a'=>some (.out (parL a',a'.1,parO a')))
 |[],a=>rfl
 |t::r,a=>by
  simp only[kg,parG,ah];cases h:xh a t with
  |none=>rfl
  |some a'=>exact GY r a'
theorem FY: ∀(l:List zg) {b:Nat} {a a':PSt},ParB b a->ah l a=some a'->ParB (b+l.length) a'
 |[],b,a,a',h,e=>by cases e;exact h
 |t::r,b,a,a',h,e=>by
  obtain⟨a1,h1,h2⟩:=Ka.1 (show(xh a t).bind (ah r)=some a' from e);have:=FY r (EZ h h1) h2
  rwa [show b+(t::r).length=b+1+r.length by simp;omega]
theorem zJ9{i n:Nat}{t:zg}{a:PSt}(hi:i<1500)(hn:Rs a.2 t=false)(hB:ParB i a):Zi (X:=Int×List (List zb)×List zb×List zg) (R:=LO (Int×List (List zb)×List zb×List zg) (List (List zb)×List zb×List zg) (List zb×Int))
  (za (Ou t.kind) fun y6=>
   bif y6 != 0 then
    bif ((parO a).length:Int)==16 then
     some (LX.ret (LO.ret ([],20)))
    else
     need (ZB ((parL a).length+1) 1 24)<|
     need (ZB (parO a).length 1 56)<|
     some (LX.out ((i:Int),parL a++[a.1],[],parO a++[t]))
   else
    both (
      need (decide (0<=((parO a).length:Int))&&decide (((parO a).length:Int)<(((parL a).length+1:Nat):Int)))<|
      need (Nat.beq (parO a).length (parL a).length)<|
      need (ZB a.1.length 1 80)<|
      need (decide (0<=((parO a).length:Int))&&decide (((parO a).length:Int)<(((parL a).length+1:Nat):Int)))<|
      need (Nat.beq (parO a).length (parL a).length)<|
      some (LX.out ((i:Int),parL a,a.1++[(⟨t,[]⟩:zb)],parO a))) (
      need (decide (0<=((parO a).length:Int))&&decide (((parO a).length:Int)<(((parL a).length+1:Nat):Int)))<|
      need (Nat.beq (parO a).length (parL a).length)<|
      need (ZB a.1.length 1 80)<|
      need (decide (0<=((parO a).length:Int))&&decide (((parO a).length:Int)<(((parL a).length+1:Nat):Int)))<|
      need (Nat.beq (parO a).length (parL a).length)<|
      need (decide (0<=(a.1.length:Int))&&decide ((a.1.length:Int)<((a.1++[(⟨(⟨0,[],0,[],false⟩:zg),[]⟩:zb)]).length:Int)))<|
      za (a.1++[(⟨(⟨0,[],0,[],false⟩:zg),[]⟩:zb)])[a.1.length]? fun y7=>
      some (LX.out ((i:Int),parL a,List.set (a.1++[(⟨(⟨0,[],0,[],false⟩:zg),[]⟩:zb)]) a.1.length (⟨t,[]⟩:zb),parO a))))
  (fun j8=>some (LO.again (w64 (j8.1+1),j8.2.1,j8.2.2.1,j8.2.2.2)))=(parG t a).map fun
   | .again a'=> .again (((i+1:Nat):Int),parL a',a'.1,parO a')
   | .out x=> .out x
   | .ret r=> .ret r:=by
 obtain⟨b1,b2,b3⟩:=hB;have hO:=xw a;have hL:=zJ7 a;have wi:w64 ((i:Int)+1)=((i+1:Nat):Int):=Ot (n:=i+1) (by omega);rw[uK];simp only[za,Aa];unfold parG xh;rw[hn];by_cases h0:Zn t.kind=0
 ·have c6:(decide ((0:Int)<=((parO a).length:Int))&&decide (((parO a).length:Int)<(((parL a).length+1:Nat):Int)))=true:=by rw[hO,hL];simp;omega
  have c7:Nat.beq (parO a).length (parL a).length=true:=by rw[hO,hL];simp
  have ap:ZB a.1.length 1 80=true:=qy (by omega);have c8: ∀z:zb,(decide ((0:Int)<=(a.1.length:Int))&&decide ((a.1.length:Int)<((a.1++[z]).length:Int)))=true:=fun z=>by simp;omega
  have z1: ∀z:zb,(a.1++[z])[a.1.length]? =some z:=fun z=>by simp
  have z2: ∀z y:zb,List.set (a.1++[z]) a.1.length y=a.1++[y]:=fun z y=>by simp
  simp only[h0,Ni,Ba,c6,c7,c8,ap,Zz,z1,z2,Aa,CP,zI,wi,ne_eq,not_true_eq_false,Rf,Ee];rfl
 ·have hb:(Zn t.kind != 0)=true:=by simpa using h0
  simp only[hb,Ca,Ee,Rf,ne_eq,h0,Dg,Df];by_cases h16:a.2.length=16
  ·have:(((parO a).length:Int)==16)=true:=by rw[hO,h16];rfl
   rw[this,Sa h16];rfl
  ·have:(((parO a).length:Int)==16)=false:=by rw[hO];exact Ea.2 (by omega)
   rw[this,Oa h16];have a1:ZB ((parL a).length+1) 1 24=true:=qy (by rw[hL];omega);have a2:ZB (parO a).length 1 56=true:=qy (by rw[hO];omega);simp only[Ba,a1,a2,Zz,zI,wi];have e1:parL ([],(t,a.1)::a.2)=parL a++[a.1]:=by simp[parL]
   have e2:parO ([],(t,a.1)::a.2)=parO a++[t]:=by simp[parO]
   show _=some (LO.again (((i+1:Nat):Int),parL ([],(t,a.1)::a.2),([]:List zb),parO ([],(t,a.1)::a.2)));rw[e1,e2]
theorem zHR(x:List zg):XI x=parseF x:=by
 unfold XI parseF parS;by_cases hx:1500<x.length
 ·rw[Sa hx,show decide ((x.length:Int)>1500)=true from Fa (by omega)];rfl
 rw[Oa hx,show decide ((x.length:Int)>1500)=false from Ia (by omega),Ba];have hov:kg parG MN x ([],[])=some (match ah x ([],[])with
  |none=> .ret ([],20)
  |some a'=> .out (parL a',a'.1,parO a')):=by rw[GY];cases ah x ([],[])<;>rfl
 refine(Xq (A:=PSt) x (fun i a=>((i:Int),parL a,a.1,parO a)) parG MN (fun i a=>i<=x.length/\ParB i a) (a:=([],[])) rfl ⟨Va _,Va _,Va _,fun p hp=>by cases hp⟩ ?_ ?_ hov).trans ?_
 ·intro i a hi ⟨_,hB⟩;refine⟨?_,fun a' ha=>⟨hi,EZ (t:=x[i]) hB (by
   unfold parG at ha;cases h:xh a x[i]with
   |none=>rw[h]at ha;cases ha
   |some a2=>rw[h]at ha;cases ha;rfl)⟩⟩
  have c0:decide ((i:Int)<(x.length:Int))=true:=Fa (by omega);have hb:=hB;obtain⟨b1,b2,b3⟩:=hb;have els:=fun(hn:Rs a.2 x[i]=false)=>zJ9 (i:=i) (n:=0) (t:=x[i]) (a:=a) (by omega) hn hB;simp only[c0,Ca,zM hi,za,Aa]at els ⊢;obtain⟨cur,_|⟨⟨o,out⟩,st⟩⟩:=a
  ·have e0:decide (((parO (cur,([]:List (zg×List zb)))).length:Int)>0)=false:=rfl;simp only[e0,Ua,Bool.or_true,Zz,ZO,Aa,Ba];simp only[uK,Aa]at els ⊢;refine Eq.trans ?_ ((els rfl).trans ?_)
   ·rfl
   ·rcases parG x[i] (cur,[])with _|(_|_|_)<;>rfl
  ·have hlen:(parO (cur,(o,out)::st)).length=st.length+1:=by rw[xw];rfl
   have hst:st.length+1<=16:=b1;have e0:decide (((parO (cur,(o,out)::st)).length:Int)>0)=true:=Fa (by rw[hlen];omega);have w1:w64 (((parO (cur,(o,out)::st)).length:Int) - 1)=(st.length:Int):=by rw[show((parO (cur,(o,out)::st)).length:Int) - 1=(st.length:Int) by rw[hlen];omega];exact Ot (by omega)
   have c1:(decide ((0:Int)<=(st.length:Int))&&decide ((st.length:Int)<((parO (cur,(o,out)::st)).length:Int)))=true:=by rw[hlen];simp;omega
   have g1:(parO (cur,(o,out)::st))[st.length]? =some o:=by
    have:parO (cur,(o,out)::st)=(st.map (·.1)).reverse++[o]:=by simp[parO]
    rw[this];simp
   simp only[e0,w1,c1,Ff,Zz,z8,Cb,g1,uK,Aa,Ca]at els ⊢;by_cases hs:(x[i].kind==Zn o.kind)=true
   ·rw[hs,iV (by omega) (Bb (b3 (o,out) (Ob ..)) (by omega))];have wi:w64 ((i:Int)+1)=((i+1:Nat):Int):=Ot (n:=i+1) (by omega);simp only[Ca,Aa,zI,wi];unfold parG xh;rw[Sa (show Rs ((o,out)::st) x[i]=true from hs)];rfl
   ·have hs:(x[i].kind==Zn o.kind)=false:=by simpa using hs
    rw[hs];simp only[Ba];refine Eq.trans ?_ ((els hs).trans ?_)
    ·rfl
    ·rcases parG x[i] (cur,(o,out)::st)with _|(_|_|_)<;>rfl
 ·intro a _;have c0:decide ((x.length:Int)<(x.length:Int))=false:=Ia (by omega);simp only[c0,Ba];rfl
 cases hrun:ah x ([],[])with
 |none=>rfl
 |some a=>
  have hB:=FY x (b:=0) ⟨Va _,Va _,fun p hp=>by cases hp⟩ hrun;rw[jc]at hB;obtain⟨b1,b2,b3⟩:=hB;simp only[znI];have hw:w64 ((x.length:Int)+((parO a).length:Int))=((x.length+a.2.length:Nat):Int):=by rw[xw];exact Ot (n:=x.length+a.2.length) (by omega)
  rw[hw];by_cases h2:1500<x.length+a.2.length
  ·rw[Sa h2,show decide (((x.length+a.2.length:Nat):Int)>1500)=true from Fa (by omega)];rfl
  rw[Oa h2,show decide (((x.length+a.2.length:Nat):Int)>1500)=false from Ia (by omega),Ba];rw[Bn (x:=(([]:List (List zb)),shutAll a.1 a.2,([]:List zg))) (QA (fun s=> ∃b:PSt,s=(parL b,b.1,parO b)/\shutAll b.1 b.2=shutAll a.1 a.2/\b.2.length<=16/\ ∀p∈b.2,p.2.length<=1500) (fun s=>s.2.2.length) _ ?_ ⟨a,rfl,rfl,b1,fun p hp=>Bb (b3 p hp) (by omega)⟩)]
  ·rfl
  ·rintro _ ⟨⟨cur,_|⟨⟨o,out⟩,st⟩⟩,rfl,q1,q2,q3⟩
   ·exact .inr (.inl ⟨_,rfl,by rw[<-q1];rfl⟩)
   ·have hlen:(parO (cur,(o,out)::st)).length=st.length+1:=by rw[xw];rfl
    have hst:st.length+1<=16:=q2;have e0:decide (((parO (cur,(o,out)::st)).length:Int)>0)=true:=Fa (by rw[hlen];omega);refine .inl ⟨_,?_,⟨Gp (cur,(o,out)::st),rfl,q1,by show st.length<=16;omega,fun p hp=>q3 p (Kb _ hp)⟩,?_⟩
    ·simp only[e0,Ca,za];rw[iV (by omega) (Bb (q3 (o,out) (Ob ..)) (by omega))];rfl
    ·rw[hlen];show(parO (Gp (cur,(o,out)::st))).length<st.length+1;rw[xw];show st.length<st.length+1;omega
theorem gv_parse:ZL Tryz.prog (wX parseF):=by
 have:=zHx
 rwa [show XI=parseF from funext zHR]at this
end Go.Lv.VT
namespace Go.Lv
theorem zGz:ZL Proofs.Tryz.prog (⟨35,⟨[.sl 102],[]⟩,[],⟨[.sl 106, .int .i64],[]⟩,0,VT.parseF⟩:Con VT.I):=VT.gv_parse
theorem zGx:ZL Proofs.Tryz.prog (⟨88,⟨[.str],[]⟩,[],⟨[.str, .int .i64],[]⟩,0,yn⟩:Con VT.I):=zB9
end Go.Lv
end
