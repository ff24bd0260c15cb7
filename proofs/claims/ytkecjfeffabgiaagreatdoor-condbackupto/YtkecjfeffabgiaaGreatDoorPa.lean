/- nest.Parse: its text, and its contract. -/
import Derived.Test.YtkecjfeffabgiaaGreatDoorIp
import Derived.Test.YtkecjfeffabgiaaGreatDoorLf
import Derived.Test.YtkecjfeffabgiaaGreatDoorTy
import Derived.Test.YtkecjfeffabgiaaGreatDoorGa
import Derived.Test.YtkecjfeffabgiaaGreatDoorSj
import Derived.Test.YtkecjfeffabgiaaGreatDoorCd
noncomputable section
set_option linter.unusedSimpArgs false
set_option linter.unusedVariables false
namespace Go.Lv.VT
set_option maxRecDepth 100000
open Go.Proofs
def TP:TT:=[(2,ti Tryz.prog 2),(3,ti Tryz.prog 3),(4,ti Tryz.prog 4),(5,ti Tryz.prog 5),(9,ti Tryz.prog 9),(22,ti Tryz.prog 22),(57,ti Tryz.prog 57),(59,ti Tryz.prog 59),(62,ti Tryz.prog 62),(87,ti Tryz.prog 87)]
theorem tokP:TOK Tryz.prog TP []:=cO (l:=[2,3,4,5,9,22,57,59,62,87]) fun _ h=>by cases h
theorem okP{con:Con I}{A:Env0 I}{exS:StSh}(f:Go.Func)(hS: ∀c∈A.S,zt Tryz.prog c)(hf:Tryz.prog.funcs[con.f]? =some f)(h:chk con A f=true)(he: ∀x,evF2 A TP [] f.ntmps (rsl f) (body f) con exS x=con.F x):zt Tryz.prog con:=
 okC0 mixed ipOK tokP rfl rfl hS hf h he
def Nt(x:Int):Option Int:=
 bif x==2 then
  some 22
 else
  Zk (X:=Bool) (
    bif x==19 then
     some (LX.out (x==19))
    else
     bif x==21 then
      some (LX.out (x==21))
     else
      some (LX.out (x==23))) fun j1=>
  bif j1 then
   some (wu8 (x+1))
  else
   some 0
def Ms(x:List zg×List (List zb)×List zb):Option (List zg×List (List zb)×List zb):=
 need (decide (0<=w64 ((x.1.length:Int) - 1))&&decide (w64 ((x.1.length:Int) - 1)<(x.1.length:Int)))<|
 ze (x.1[(w64 ((x.1.length:Int) - 1)).toNat]?) fun y1=>
 need (decide (0<=w64 (w64 ((x.1.length:Int) - 1)+1))&&decide (w64 (w64 ((x.1.length:Int) - 1)+1)<((x.2.1.length+1:Nat):Int)))<|
 need (Nat.beq (w64 (w64 ((x.1.length:Int) - 1)+1)).toNat x.2.1.length)<|
 ze (List.getLast? x.2.1) fun y2=>
 need (decide (w64 (w64 ((x.1.length:Int) - 1)+1)=(x.2.1.length:Int)))<|
 need (decide (0<=w64 ((x.1.length:Int) - 1))&&decide (w64 ((x.1.length:Int) - 1)<=(x.1.length:Int)))<|
 both (
   need (decide (0<=w64 ((x.1.length:Int) - 1))&&decide (w64 ((x.1.length:Int) - 1)<(((List.dropLast x.2.1).length+1:Nat):Int)))<|
   need (Nat.beq (w64 ((x.1.length:Int) - 1)).toNat (List.dropLast x.2.1).length)<|
   need (zW y2.length 1 80)<|
   need (decide (0<=w64 ((x.1.length:Int) - 1))&&decide (w64 ((x.1.length:Int) - 1)<(((List.dropLast x.2.1).length+1:Nat):Int)))<|
   need (Nat.beq (w64 ((x.1.length:Int) - 1)).toNat (List.dropLast x.2.1).length)<|
   some (List.take (w64 ((x.1.length:Int) - 1)).toNat x.1,List.dropLast x.2.1,y2++[(⟨y1,x.2.2⟩:zb)])) (
   need (decide (0<=w64 ((x.1.length:Int) - 1))&&decide (w64 ((x.1.length:Int) - 1)<(((List.dropLast x.2.1).length+1:Nat):Int)))<|
   need (Nat.beq (w64 ((x.1.length:Int) - 1)).toNat (List.dropLast x.2.1).length)<|
   need (zW y2.length 1 80)<|
   need (decide (0<=w64 ((x.1.length:Int) - 1))&&decide (w64 ((x.1.length:Int) - 1)<(((List.dropLast x.2.1).length+1:Nat):Int)))<|
   need (Nat.beq (w64 ((x.1.length:Int) - 1)).toNat (List.dropLast x.2.1).length)<|
   need (decide (0<=(y2.length:Int))&&decide ((y2.length:Int)<((y2++[(⟨(⟨0,[],0,[],false⟩:zg),[]⟩:zb)]).length:Int)))<|
   ze (y2++[(⟨(⟨0,[],0,[],false⟩:zg),[]⟩:zb)])[y2.length]? fun y3=>
   some (List.take (w64 ((x.1.length:Int) - 1)).toNat x.1,List.dropLast x.2.1,List.take y2.length (y2++[(⟨(⟨0,[],0,[],false⟩:zg),[]⟩:zb)])++List.cons (⟨y1,x.2.2⟩:zb) (List.drop (y2.length+1) (y2++[(⟨(⟨0,[],0,[],false⟩:zg),[]⟩:zb)]))))
def XD(x:List zg):Option (List zb×Int):=
 bif decide ((x.length:Int)>1500)then
  some ([],4)
 else
  Zj (fun(s1:Int×List (List zb)×List zb×List zg)=>
    bif decide (s1.1<(x.length:Int))then
     Zk (X:=Int×List (List zb)×List zb×List zg) (
       ze (geti x s1.1) fun y2=>
       need (decide (0<=w64 ((s1.2.2.2.length:Int) - 1))&&decide (w64 ((s1.2.2.2.length:Int) - 1)<(s1.2.2.2.length:Int))|| !(decide ((s1.2.2.2.length:Int)>0)))<|
       ze (zA (decide ((s1.2.2.2.length:Int)>0)) s1.2.2.2[(w64 ((s1.2.2.2.length:Int) - 1)).toNat]? (default:zg)) fun y3=>
       ze (zA (decide ((s1.2.2.2.length:Int)>0)) (Nt y3.kind) (default:Int)) fun y4=>
       bif bif decide ((s1.2.2.2.length:Int)>0)then y2.kind==y4 else false then
        ze (Ms (s1.2.2.2,s1.2.1,s1.2.2.1)) fun y5=>
        some (LX.out (s1.1,y5.2.1,y5.2.2,y5.1))
       else
        ze (Nt y2.kind) fun y6=>
        bif y6 != 0 then
         bif (s1.2.2.2.length:Int)==16 then
          some (LX.ret (LO.ret ([],20)))
         else
          need (zW (s1.2.1.length+1) 1 24)<|
          need (zW s1.2.2.2.length 1 56)<|
          some (LX.out (s1.1,s1.2.1++[s1.2.2.1],[],s1.2.2.2++[y2]))
        else
         both (
           need (decide (0<=(s1.2.2.2.length:Int))&&decide ((s1.2.2.2.length:Int)<((s1.2.1.length+1:Nat):Int)))<|
           need (Nat.beq s1.2.2.2.length s1.2.1.length)<|
           need (zW s1.2.2.1.length 1 80)<|
           need (decide (0<=(s1.2.2.2.length:Int))&&decide ((s1.2.2.2.length:Int)<((s1.2.1.length+1:Nat):Int)))<|
           need (Nat.beq s1.2.2.2.length s1.2.1.length)<|
           some (LX.out (s1.1,s1.2.1,s1.2.2.1++[(⟨y2,[]⟩:zb)],s1.2.2.2))) (
           need (decide (0<=(s1.2.2.2.length:Int))&&decide ((s1.2.2.2.length:Int)<((s1.2.1.length+1:Nat):Int)))<|
           need (Nat.beq s1.2.2.2.length s1.2.1.length)<|
           need (zW s1.2.2.1.length 1 80)<|
           need (decide (0<=(s1.2.2.2.length:Int))&&decide ((s1.2.2.2.length:Int)<((s1.2.1.length+1:Nat):Int)))<|
           need (Nat.beq s1.2.2.2.length s1.2.1.length)<|
           need (decide (0<=(s1.2.2.1.length:Int))&&decide ((s1.2.2.1.length:Int)<((s1.2.2.1++[(⟨(⟨0,[],0,[],false⟩:zg),[]⟩:zb)]).length:Int)))<|
           ze (s1.2.2.1++[(⟨(⟨0,[],0,[],false⟩:zg),[]⟩:zb)])[s1.2.2.1.length]? fun y7=>
           some (LX.out (s1.1,s1.2.1,List.set (s1.2.2.1++[(⟨(⟨0,[],0,[],false⟩:zg),[]⟩:zb)]) s1.2.2.1.length (⟨y2,[]⟩:zb),s1.2.2.2)))) fun j8=>
     some (LO.again (w64 (j8.1+1),j8.2.1,j8.2.2.1,j8.2.2.2))
    else
     some (LO.out (s1.2.1,s1.2.2.1,s1.2.2.2)):Int×List (List zb)×List zb×List zg->Option (LO (Int×List (List zb)×List zb×List zg) (List (List zb)×List zb×List zg) _)) (0,[],[],[]) fun o9=>
  bif decide (w64 ((x.length:Int)+(o9.2.2.length:Int))>1500)then
   some ([],4)
  else
   Zj (fun(s10:List (List zb)×List zb×List zg)=>
     bif decide ((s10.2.2.length:Int)>0)then
      ze (Ms (s10.2.2,s10.1,s10.2.1)) fun y11=>
      some (LO.again (y11.2.1,y11.2.2,y11.1))
     else
      some (LO.out (s10.1,s10.2.1,s10.2.2)):List (List zb)×List zb×List zg->Option (LO (List (List zb)×List zb×List zg) (List (List zb)×List zb×List zg) _)) (o9.1,o9.2.1,o9.2.2) fun o12=>
   need (decide (0<((o12.1.length+1:Nat):Int)))<|
   need (Nat.beq 0 o12.1.length)<|
   some (o12.2.1,0)
def fV(F:Int->Option Int):Con I:=⟨58,⟨[.int .u8],[]⟩,[],⟨[.int .u8],[]⟩,0,F⟩
def bU(F:List zg×List (List zb)×List zb->Option (List zg×List (List zb)×List zb)):Con I:=⟨57,⟨[.optr 0, .optr 2],[(0, .cells 62 [.own 1]),(1, .sl 57),(2, .cells 87 [.own 3]),(3, .slq 22 59 4),(4, .sl 59)]⟩,[],⟨[],[(0, .cells 62 [.own 5]),(2, .cells 87 [.own 6]),(5, .sl 57),(6, .slq 22 59 7),(7, .sl 59)]⟩,3,F⟩
def FR(F:List zg->Option (List zb×Int)):Con I:=⟨28,⟨[.sl 57],[]⟩,[],⟨[.sl 59, .int .i64],[]⟩,0,F⟩
theorem zt1:zt Tryz.prog (fV Nt):=
 okP (A:=⟨[],[],[],0,[],[(7,⟨[6],⟨[.bool],[]⟩,[0],[],[],0,[],⟨[],[]⟩,[]⟩)],[]⟩) (exS:=⟨[.int .u8],[]⟩) Tryz.f58 zG (by kernel_rfl) (by kernel_rfl) fun x=>by kernel_rfl
theorem zyX:zt Tryz.prog (bU Ms):=
 okP (A:=⟨[],[(2,[200003,200006]),(4,[6]),(6,[7])],[(6,[(15,none)])],5,[],[],[]⟩) (exS:=⟨[],[(0, .cells 62 [.own 5]),(2, .cells 87 [.own 6]),(5, .sl 57),(6, .slq 22 59 7),(7, .sl 59)]⟩) Tryz.f57 zG (by kernel_rfl) (by kernel_rfl) fun x=>by kernel_rfl
theorem zBN:zt Tryz.prog (FR XD):=
 okP (A:=⟨[fV Nt,bU Ms],[(3,[200000]),(10,[7]),(12,[8]),(18,[5,100001])],[],0,[(6,⟨[17],⟨[.int .i64],[(1, .cells 87 [.own 1106]),(1106, .slq 22 59 1107),(1107, .sl 59),(2, .cells 62 [.own 1108]),(1108, .sl 57)]⟩,[0,4,5,6,15,16],[],[1,2],0,[],⟨[],[(1, .cells 87 [.own 1106]),(1106, .slq 22 59 1107),(1107, .sl 59),(2, .cells 62 [.own 1108]),(1108, .sl 57)]⟩,[1,2,1106,1107,1108]⟩),(22,⟨[],⟨[],[(1, .cells 87 [.own 1213]),(1213, .slq 22 59 1215),(1215, .sl 59),(2, .cells 62 [.own 1214]),(1214, .sl 57)]⟩,[4,5,6],[],[1,2],3,[],⟨[],[(1, .cells 87 [.own 1213]),(1213, .slq 22 59 1215),(1215, .sl 59),(2, .cells 62 [.own 1214]),(1214, .sl 57)]⟩,[1,2,1213,1214,1215]⟩)],[(19,⟨[17],⟨[.int .i64],[(1, .cells 87 [.own 1210]),(1210, .slq 22 59 1212),(1212, .sl 59),(2, .cells 62 [.own 1211]),(1211, .sl 57)]⟩,[],[],[1,2],0,[],⟨[],[]⟩,[]⟩)],[]⟩) (exS:=⟨[.sl 59, .int .i64],[]⟩) Tryz.f28 (memC zt1 (memC zyX zG)) (by kernel_rfl) (by kernel_rfl) fun x=>by kernel_rfl
theorem fU{R:Type}(x:Option R):both x x=x:=Ka rfl
theorem MM(k:Int):Nt k=some (zC k):=by
 unfold Nt zC;by_cases h2:k=2
 ·subst h2;rfl
 by_cases h19:k=19
 ·subst h19;rfl
 by_cases h21:k=21
 ·subst h21;rfl
 by_cases h23:k=23
 ·subst h23;rfl
 have e: ∀n:Int,k≠n->(k==n)=false:=fun n h=>Ha.2 h;simp[e _ h2,e _ h19,e _ h21,e _ h23,h2,h19,h21,h23]
def parL(a:PSt):List (List zb):=(a.2.map (·.2)).reverse
def parO(a:PSt):List zg:=(a.2.map (·.1)).reverse
theorem Tv{n:Nat}(h:n<=100000):w64 (n:Int)=n:=Zz (by omega) (by omega)
theorem R8{cur out:List zb}{o:zg}{st:List (zg×List zb)}(h1:st.length<=100)(h2:out.length<=100000):Ms (parO (cur,(o,out)::st),parL (cur,(o,out)::st),cur)=some (parO (Hr (cur,(o,out)::st)),parL (Hr (cur,(o,out)::st)),(Hr (cur,(o,out)::st)).1):=by
 have e1:parO (cur,(o,out)::st)=(st.map (·.1)).reverse++[o]:=by simp[parO]
 have e2:parL (cur,(o,out)::st)=(st.map (·.2)).reverse++[out]:=by simp[parL]
 rw[e1,e2];show Ms ((st.map (·.1)).reverse++[o],(st.map (·.2)).reverse++[out],cur)=some ((st.map (·.1)).reverse,(st.map (·.2)).reverse,out++[⟨o,cur⟩]);have l1:((st.map (·.1)).reverse).length=st.length:=by simp
 have l2:((st.map (·.2)).reverse).length=st.length:=by simp
 generalize (st.map (·.1)).reverse=A at*;generalize (st.map (·.2)).reverse=B at*;have w1:w64 (((A++[o]).length:Int) - 1)=(st.length:Int):=by rw[show((A++[o]).length:Int) - 1=(st.length:Int) by simp[l1]];exact Tv (by omega)
 have w2:w64 ((st.length:Int)+1)=((st.length+1:Nat):Int):=Tv (n:=st.length+1) (by omega);have ap:zW out.length 1 80=true:=QH (by omega);unfold Ms;simp only[w1,w2,Nb];have c1:(decide ((0:Int)<=(st.length:Int))&&decide ((st.length:Int)<((A++[o]).length:Int)))=true:=by simp[l1];omega
 have c2:(decide ((0:Int)<=((st.length+1:Nat):Int))&&decide (((st.length+1:Nat):Int)<(((B++[out]).length+1:Nat):Int)))=true:=by simp[l2];omega
 have c3:Nat.beq (st.length+1) (B++[out]).length=true:=by simp[l2]
 have c4:decide (((st.length+1:Nat):Int)=((B++[out]).length:Int))=true:=by simp[l2]
 have c5:(decide ((0:Int)<=(st.length:Int))&&decide ((st.length:Int)<=((A++[o]).length:Int)))=true:=by simp[l1];omega
 have c6:(decide ((0:Int)<=(st.length:Int))&&decide ((st.length:Int)<((B.length+1:Nat):Int)))=true:=by simp[l2];omega
 have c7:Nat.beq st.length B.length=true:=by simp[l2]
 have g1:(A++[o])[st.length]? =some o:=by rw[<-l1];simp
 have t1:(A++[o]).take st.length=A:=by rw[<-l1];simp
 have z1: ∀z:zb,(out++[z])[out.length]? =some z:=fun z=>by simp
 have z2: ∀z:zb,(out++[z]).take out.length=out:=fun z=>by simp
 have z3: ∀z:zb,(out++[z]).drop (out.length+1)=[]:=fun z=>by simp
 have c8: ∀z:zb,(decide ((0:Int)<=(out.length:Int))&&decide ((out.length:Int)<((out++[z]).length:Int)))=true:=fun z=>by simp;omega
 simp only[c1,c2,c3,c4,c5,zK,g1,ze,Aa,List.getLast?_append,List.getLast?_singleton,Option.some_or,List.dropLast_concat,c6,c7,ap,c8,z1,z2,z3,t1,fU]
def ParB(b:Nat)(a:PSt):Prop:=a.2.length<=16/\a.1.length<=b/\ ∀p∈a.2,p.2.length<=b
theorem FU{b:Nat}{a a':PSt}{t:zg}(h:ParB b a)(e:Xi a t=some a'):ParB (b+1) a':=by
 obtain⟨h1,h2,h3⟩:=h;unfold Xi at e;split at e
 ·cases e;obtain⟨cur,st⟩:=a;cases st with
  |nil=>exact⟨h1,Cj h2,fun p hp=>by cases hp⟩
  |cons q st=> obtain⟨o,out⟩:=q;refine⟨by have:((o,out)::st).length<=16:=h1;simp at this;show st.length<=16;omega,?_,fun p hp=>Cj (h3 p (ja _ hp))⟩;have:=h3 (o,out) (Fb ..);show(out++[(⟨o,cur⟩:zb)]).length<=b+1;simp;omega
 ·split at e
  ·split at e
   ·cases e
   ·rename_i h16;cases e;refine⟨by show a.2.length+1<=16;omega,Kc _,fun p hp=> ?_⟩;rcases Jb.1 hp with rfl|hp
    ·exact Cj h2
    ·exact Cj (h3 p hp)
  ·cases e;exact⟨h1,by show(a.1++[(⟨t,[]⟩:zb)]).length<=b+1;simp;exact h2,fun p hp=>Cj (h3 p hp)⟩
theorem uz(a:PSt):(parO a).length=a.2.length:=by simp[parO]
theorem zE1(a:PSt):(parL a).length=a.2.length:=by simp[parL]
def parG(t:zg)(a:PSt):Option (LO PSt (List (List zb)×List zb×List zg) (List zb×Int)):=match Xi a t with
 |none=>some (.ret ([],20))
 |some a'=>some (.again a')
def uO(a:PSt):Option (LX (List (List zb)×List zb×List zg) (List zb×Int)):=some (.out (parL a,a.1,parO a))
theorem vP: ∀(l:List zg) (a:PSt),Ik parG uO l a=(match Fh l a with
 |none=>some (.ret ([],20))
 |some a'=>some (.out (parL a',a'.1,parO a')))
 |[],a=>rfl
 |t::r,a=>by
  simp only[Ik,parG,Fh];cases h:Xi a t with
  |none=>rfl
  |some a'=>exact vP r a'
theorem sQ: ∀(l:List zg) {b:Nat} {a a':PSt},ParB b a->Fh l a=some a'->ParB (b+l.length) a'
 |[],b,a,a',h,e=>by cases e;exact h
 |t::r,b,a,a',h,e=>by
  obtain⟨a1,h1,h2⟩:=Ea.1 (show(Xi a t).bind (Fh r)=some a' from e);have:=sQ r (FU h h1) h2
  rwa [show b+(t::r).length=b+1+r.length by simp;omega]
theorem zE2{i n:Nat}{t:zg}{a:PSt}(hi:i<1500)(hn:Pp a.2 t=false)(hB:ParB i a):Zk (X:=Int×List (List zb)×List zb×List zg) (R:=LO (Int×List (List zb)×List zb×List zg) (List (List zb)×List zb×List zg) (List zb×Int))
  (ze (Nt t.kind) fun y6=>
   bif y6 != 0 then
    bif ((parO a).length:Int)==16 then
     some (LX.ret (LO.ret ([],20)))
    else
     need (zW ((parL a).length+1) 1 24)<|
     need (zW (parO a).length 1 56)<|
     some (LX.out ((i:Int),parL a++[a.1],[],parO a++[t]))
   else
    both (
      need (decide (0<=((parO a).length:Int))&&decide (((parO a).length:Int)<(((parL a).length+1:Nat):Int)))<|
      need (Nat.beq (parO a).length (parL a).length)<|
      need (zW a.1.length 1 80)<|
      need (decide (0<=((parO a).length:Int))&&decide (((parO a).length:Int)<(((parL a).length+1:Nat):Int)))<|
      need (Nat.beq (parO a).length (parL a).length)<|
      some (LX.out ((i:Int),parL a,a.1++[(⟨t,[]⟩:zb)],parO a))) (
      need (decide (0<=((parO a).length:Int))&&decide (((parO a).length:Int)<(((parL a).length+1:Nat):Int)))<|
      need (Nat.beq (parO a).length (parL a).length)<|
      need (zW a.1.length 1 80)<|
      need (decide (0<=((parO a).length:Int))&&decide (((parO a).length:Int)<(((parL a).length+1:Nat):Int)))<|
      need (Nat.beq (parO a).length (parL a).length)<|
      need (decide (0<=(a.1.length:Int))&&decide ((a.1.length:Int)<((a.1++[(⟨(⟨0,[],0,[],false⟩:zg),[]⟩:zb)]).length:Int)))<|
      ze (a.1++[(⟨(⟨0,[],0,[],false⟩:zg),[]⟩:zb)])[a.1.length]? fun y7=>
      some (LX.out ((i:Int),parL a,List.set (a.1++[(⟨(⟨0,[],0,[],false⟩:zg),[]⟩:zb)]) a.1.length (⟨t,[]⟩:zb),parO a))))
  (fun j8=>some (LO.again (w64 (j8.1+1),j8.2.1,j8.2.2.1,j8.2.2.2)))=(parG t a).map fun
   | .again a'=> .again (((i+1:Nat):Int),parL a',a'.1,parO a')
   | .out x=> .out x
   | .ret r=> .ret r:=by
 obtain⟨b1,b2,b3⟩:=hB;have hO:=uz a;have hL:=zE1 a;have wi:w64 ((i:Int)+1)=((i+1:Nat):Int):=Tv (n:=i+1) (by omega);rw[MM];simp only[ze,Aa];unfold parG Xi;rw[hn];by_cases h0:zC t.kind=0
 ·have c6:(decide ((0:Int)<=((parO a).length:Int))&&decide (((parO a).length:Int)<(((parL a).length+1:Nat):Int)))=true:=by rw[hO,hL];simp;omega
  have c7:Nat.beq (parO a).length (parL a).length=true:=by rw[hO,hL];simp
  have ap:zW a.1.length 1 80=true:=QH (by omega);have c8: ∀z:zb,(decide ((0:Int)<=(a.1.length:Int))&&decide ((a.1.length:Int)<((a.1++[z]).length:Int)))=true:=fun z=>by simp;omega
  have z1: ∀z:zb,(a.1++[z])[a.1.length]? =some z:=fun z=>by simp
  have z2: ∀z y:zb,List.set (a.1++[z]) a.1.length y=a.1++[y]:=fun z y=>by simp
  simp only[h0,jf,Ba,c6,c7,c8,ap,zK,z1,z2,Aa,fU,zq,wi,ne_eq,not_true_eq_false,De,Cc];rfl
 ·have hb:(zC t.kind != 0)=true:=by simpa using h0
  simp only[hb,Da,Cc,De,ne_eq,h0,Sg,Te];by_cases h16:a.2.length=16
  ·have:(((parO a).length:Int)==16)=true:=by rw[hO,h16];rfl
   rw[this,Ka h16];rfl
  ·have:(((parO a).length:Int)==16)=false:=by rw[hO];exact Ha.2 (by omega)
   rw[this,Ia h16];have a1:zW ((parL a).length+1) 1 24=true:=QH (by rw[hL];omega);have a2:zW (parO a).length 1 56=true:=QH (by rw[hO];omega);simp only[Ba,a1,a2,zK,zq,wi];have e1:parL ([],(t,a.1)::a.2)=parL a++[a.1]:=by simp[parL]
   have e2:parO ([],(t,a.1)::a.2)=parO a++[t]:=by simp[parO]
   show _=some (LO.again (((i+1:Nat):Int),parL ([],(t,a.1)::a.2),([]:List zb),parO ([],(t,a.1)::a.2)));rw[e1,e2]
theorem zB9(x:List zg):XD x=parseF x:=by
 unfold XD parseF parS;by_cases hx:1500<x.length
 ·rw[Ka hx,show decide ((x.length:Int)>1500)=true from Ga (by omega)];rfl
 rw[Ia hx,show decide ((x.length:Int)>1500)=false from Db (by omega),Ba];have hov:Ik parG uO x ([],[])=some (match Fh x ([],[])with
  |none=> .ret ([],20)
  |some a'=> .out (parL a',a'.1,parO a')):=by rw[vP];cases Fh x ([],[])<;>rfl
 refine(Kw (A:=PSt) x (fun i a=>((i:Int),parL a,a.1,parO a)) parG uO (fun i a=>i<=x.length/\ParB i a) (a:=([],[])) rfl ⟨Kc _,Kc _,Kc _,fun p hp=>by cases hp⟩ ?_ ?_ hov).trans ?_
 ·intro i a hi ⟨_,hB⟩;refine⟨?_,fun a' ha=>⟨hi,FU (t:=x[i]) hB (by
   unfold parG at ha;cases h:Xi a x[i]with
   |none=>rw[h]at ha;cases ha
   |some a2=>rw[h]at ha;cases ha;rfl)⟩⟩
  have c0:decide ((i:Int)<(x.length:Int))=true:=Ga (by omega);have hb:=hB;obtain⟨b1,b2,b3⟩:=hb;have els:=fun(hn:Pp a.2 x[i]=false)=>zE2 (i:=i) (n:=0) (t:=x[i]) (a:=a) (by omega) hn hB;simp only[c0,Da,Zo hi,ze,Aa]at els ⊢;obtain⟨cur,_|⟨⟨o,out⟩,st⟩⟩:=a
  ·have e0:decide (((parO (cur,([]:List (zg×List zb)))).length:Int)>0)=false:=rfl;simp only[e0,Ta,Df,zK,Zw,Aa,Ba];simp only[MM,Aa]at els ⊢;refine Eq.trans ?_ ((els rfl).trans ?_)
   ·rfl
   ·rcases parG x[i] (cur,[])with _|(_|_|_)<;>rfl
  ·have hlen:(parO (cur,(o,out)::st)).length=st.length+1:=by rw[uz];rfl
   have hst:st.length+1<=16:=b1;have e0:decide (((parO (cur,(o,out)::st)).length:Int)>0)=true:=Ga (by rw[hlen];omega);have w1:w64 (((parO (cur,(o,out)::st)).length:Int) - 1)=(st.length:Int):=by rw[show((parO (cur,(o,out)::st)).length:Int) - 1=(st.length:Int) by rw[hlen];omega];exact Tv (by omega)
   have c1:(decide ((0:Int)<=(st.length:Int))&&decide ((st.length:Int)<((parO (cur,(o,out)::st)).length:Int)))=true:=by rw[hlen];simp;omega
   have g1:(parO (cur,(o,out)::st))[st.length]? =some o:=by
    have:parO (cur,(o,out)::st)=(st.map (·.1)).reverse++[o]:=by simp[parO]
    rw[this];simp
   simp only[e0,w1,c1,Td,zK,zB,Nb,g1,MM,Aa,Da]at els ⊢;by_cases hs:(x[i].kind==zC o.kind)=true
   ·rw[hs,R8 (by omega) (Ob (b3 (o,out) (Fb ..)) (by omega))];have wi:w64 ((i:Int)+1)=((i+1:Nat):Int):=Tv (n:=i+1) (by omega);simp only[Da,Aa,zq,wi];unfold parG Xi;rw[Ka (show Pp ((o,out)::st) x[i]=true from hs)];rfl
   ·have hs:(x[i].kind==zC o.kind)=false:=by simpa using hs
    rw[hs];simp only[Ba];refine Eq.trans ?_ ((els hs).trans ?_)
    ·rfl
    ·rcases parG x[i] (cur,(o,out)::st)with _|(_|_|_)<;>rfl
 ·intro a _;have c0:decide ((x.length:Int)<(x.length:Int))=false:=Db (by omega);simp only[c0,Ba];rfl
 cases hrun:Fh x ([],[])with
 |none=>rfl
 |some a=>
  have hB:=sQ x (b:=0) ⟨Kc _,Kc _,fun p hp=>by cases hp⟩ hrun;rw[Ce]at hB;obtain⟨b1,b2,b3⟩:=hB;simp only[znv];have hw:w64 ((x.length:Int)+((parO a).length:Int))=((x.length+a.2.length:Nat):Int):=by rw[uz];exact Tv (n:=x.length+a.2.length) (by omega)
  rw[hw];by_cases h2:1500<x.length+a.2.length
  ·rw[Ka h2,show decide (((x.length+a.2.length:Nat):Int)>1500)=true from Ga (by omega)];rfl
  rw[Ia h2,show decide (((x.length+a.2.length:Nat):Int)>1500)=false from Db (by omega),Ba];rw[qK (x:=(([]:List (List zb)),shutAll a.1 a.2,([]:List zg))) (qa (fun s=> ∃b:PSt,s=(parL b,b.1,parO b)/\shutAll b.1 b.2=shutAll a.1 a.2/\b.2.length<=16/\ ∀p∈b.2,p.2.length<=1500) (fun s=>s.2.2.length) _ ?_ ⟨a,rfl,rfl,b1,fun p hp=>Ob (b3 p hp) (by omega)⟩)]
  ·rfl
  ·rintro _ ⟨⟨cur,_|⟨⟨o,out⟩,st⟩⟩,rfl,q1,q2,q3⟩
   ·exact .inr (.inl ⟨_,rfl,by rw[<-q1];rfl⟩)
   ·have hlen:(parO (cur,(o,out)::st)).length=st.length+1:=by rw[uz];rfl
    have hst:st.length+1<=16:=q2;have e0:decide (((parO (cur,(o,out)::st)).length:Int)>0)=true:=Ga (by rw[hlen];omega);refine .inl ⟨_,?_,⟨Hr (cur,(o,out)::st),rfl,q1,by show st.length<=16;omega,fun p hp=>q3 p (ja _ hp)⟩,?_⟩
    ·simp only[e0,Da,ze];rw[R8 (by omega) (Ob (q3 (o,out) (Fb ..)) (by omega))];rfl
    ·rw[hlen];show(parO (Hr (cur,(o,out)::st))).length<st.length+1;rw[uz];show st.length<st.length+1;omega
theorem gv_parse:zt Tryz.prog (FR parseF):=by
 have:=zBN
 rwa [show XD=parseF from funext zB9]at this
end Go.Lv.VT
namespace Go.Lv
theorem zAI:zt Proofs.Tryz.prog (⟨28,⟨[.sl 57],[]⟩,[],⟨[.sl 59, .int .i64],[]⟩,0,VT.parseF⟩:Con VT.I):=VT.gv_parse
open Go.Proofs Go.RowKit
set_option maxRecDepth 100000
theorem LV(l:List Str):(l.map fun s=>(⟨s.toArray⟩:ByteArray)).map (fun x=>x.data.toList)=l:=by rw[mh];exact(He fun s _=>by simp).trans (List.map_id l)
theorem zEa:zt Tryz.prog (⟨112,⟨[.sl 9, .str],[]⟩,[],⟨[.str],[]⟩,0,jl⟩:Con VT.I):=
 Ps VT.ipOK rfl Tryz.func112 rfl rfl fun x y hxy ι w vs W ha=>by
  obtain⟨(l:List Str),(c:Str)⟩:=x;replace hxy:jl (l,c)=some y:=hxy;unfold jl at hxy;obtain⟨hq,hy⟩:=Nn hxy;cases hy;rw[Ca]at hq;have q1:List.length l<=1000000:=Nc hq.1;have q2:(Lib.join l c).length<=1000000000:=Nc hq.2;have h1:=Sn (l:=c) (j:=1) ha rfl;obtain⟨u,hu,_,hr⟩:=ha.2 0 _ rfl;replace hr:RepP (Dom ι w) w (.sl (List.map (fun s:Str=>[PV.str s]) l)) u:=hr;cases hr with
  |sl _ a n cp k b o val hn hc ha' hD hk hv hr'=>
   obtain rfl:=Sw ha.1 hu h1;rw[Ib]at hn;rcases bf n with h0|h0
   ·have:l=[]:=Mc (hn.symm.trans h0);subst this;subst h0;refine(Tryz.strings_Join_none a cp _ w).mono ?_;rintro e w' ⟨rfl,rfl⟩;exact⟨_,rfl,Below.refl _ _,Iq _⟩
   ·obtain rfl:=ha' h0;have hk1:k=1:=by
     cases l with
     |nil=>subst hn;cases h0
     |cons s t=>exact(hk [.str s] (Rb.2 ⟨s,Fb ..,rfl⟩)).symm
    subst hk1;have hcells: ∀(j:Nat) x,(List.map (fun s:Str=>(⟨s.toArray⟩:ByteArray)) l)[j]? =some x->w.cell? ⟨b,o+j,none⟩=some (.string x):=fun j x hj=>by
     rw[Oa]at hj;obtain⟨s,hs,rfl⟩:=Ma.1 hj;have hrow:(List.map (fun s:Str=>[PV.str s]) l)[j]? =some [PV.str s]:=by rw[Oa,hs];rfl
     have e1:=hv j _ 0 _ hrow rfl;rw[KV (hr' j _ 0 _ hrow rfl),yf]at e1;exact e1
    have hl:(List.map (fun s:Str=>(⟨s.toArray⟩:ByteArray)) l).length=n:=by rw[Ib,hn]
    have hj:=Tryz.strings_Join b o cp _ ⟨c.toArray⟩ w hcells (hD h0).1 (by rw[hl,hn];omega) (by rw[hl];exact hc) (by rw[LV];show(Lib.join l c).length<=_;omega);rw[hl,LV]at hj;refine hj.mono ?_;rintro e w' ⟨rfl,hB⟩;exact⟨_,rfl,hB,Iq _⟩
theorem zAG:zt Proofs.Tryz.prog (⟨94,⟨[.str],[]⟩,[],⟨[.str, .int .i64],[]⟩,0,wm⟩:Con VT.I):=zu0
end Go.Lv
end
