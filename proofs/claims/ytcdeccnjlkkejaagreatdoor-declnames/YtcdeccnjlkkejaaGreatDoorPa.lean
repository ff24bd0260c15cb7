/- nest.Parse: its text, and its contract. -/
import Derived.Test.YtcdeccnjlkkejaaGreatDoorIp
import Derived.Test.YtcdeccnjlkkejaaGreatDoorLf
import Derived.Test.YtcdeccnjlkkejaaGreatDoorTy
import Derived.Test.YtcdeccnjlkkejaaGreatDoorGa
import Derived.Test.YtcdeccnjlkkejaaGreatDoorSj
import Derived.Test.YtcdeccnjlkkejaaGreatDoorCd
noncomputable section
set_option linter.unusedSimpArgs false
set_option linter.unusedVariables false
namespace Go.Lv.VT
set_option maxRecDepth 100000
open Go.Proofs
def TP:TT:=[(2,ti Tryz.prog 2),(3,ti Tryz.prog 3),(4,ti Tryz.prog 4),(5,ti Tryz.prog 5),(9,ti Tryz.prog 9),(22,ti Tryz.prog 22),(23,ti Tryz.prog 23),(44,ti Tryz.prog 44),(49,ti Tryz.prog 49),(52,ti Tryz.prog 52)]
theorem tokP:TOK Tryz.prog TP []:=BA (l:=[2,3,4,5,9,22,23,44,49,52]) fun _ h=>by cases h
theorem okP{con:Con I}{A:Env0 I}{exS:StSh}(f:Go.Func)(hS: ∀c∈A.S,zt Tryz.prog c)(hf:Tryz.prog.funcs[con.f]? =some f)(h:chk con A f=true)(he: ∀x,evF2 A TP [] f.ntmps (rsl f) (body f) con exS x=con.F x):zt Tryz.prog con:=
 okC0 mixed ipOK tokP rfl rfl hS hf h he
def Em(x:Int):Option Int:=
 bif x==2 then
  some 22
 else
  zY (X:=Bool) (
    bif x==19 then
     some (LX.out (x==19))
    else
     bif x==21 then
      some (LX.out (x==21))
     else
      some (LX.out (x==23))) fun j1=>
  bif j1 then
   some (wu8 (x+1))
  else
   some 0
def Sl(x:List ze×List (List zb)×List zb):Option (List ze×List (List zb)×List zb):=
 need (decide (0<=w64 ((x.1.length:Int) - 1))&&decide (w64 ((x.1.length:Int) - 1)<(x.1.length:Int)))<|
 zg (x.1[(w64 ((x.1.length:Int) - 1)).toNat]?) fun y1=>
 need (decide (0<=w64 (w64 ((x.1.length:Int) - 1)+1))&&decide (w64 (w64 ((x.1.length:Int) - 1)+1)<((x.2.1.length+1:Nat):Int)))<|
 need (Nat.beq (w64 (w64 ((x.1.length:Int) - 1)+1)).toNat x.2.1.length)<|
 zg (List.getLast? x.2.1) fun y2=>
 need (decide (w64 (w64 ((x.1.length:Int) - 1)+1)=(x.2.1.length:Int)))<|
 need (decide (0<=w64 ((x.1.length:Int) - 1))&&decide (w64 ((x.1.length:Int) - 1)<=(x.1.length:Int)))<|
 both (
   need (decide (0<=w64 ((x.1.length:Int) - 1))&&decide (w64 ((x.1.length:Int) - 1)<(((List.dropLast x.2.1).length+1:Nat):Int)))<|
   need (Nat.beq (w64 ((x.1.length:Int) - 1)).toNat (List.dropLast x.2.1).length)<|
   need (zD y2.length 1 80)<|
   need (decide (0<=w64 ((x.1.length:Int) - 1))&&decide (w64 ((x.1.length:Int) - 1)<(((List.dropLast x.2.1).length+1:Nat):Int)))<|
   need (Nat.beq (w64 ((x.1.length:Int) - 1)).toNat (List.dropLast x.2.1).length)<|
   some (List.take (w64 ((x.1.length:Int) - 1)).toNat x.1,List.dropLast x.2.1,y2++[(⟨y1,x.2.2⟩:zb)])) (
   need (decide (0<=w64 ((x.1.length:Int) - 1))&&decide (w64 ((x.1.length:Int) - 1)<(((List.dropLast x.2.1).length+1:Nat):Int)))<|
   need (Nat.beq (w64 ((x.1.length:Int) - 1)).toNat (List.dropLast x.2.1).length)<|
   need (zD y2.length 1 80)<|
   need (decide (0<=w64 ((x.1.length:Int) - 1))&&decide (w64 ((x.1.length:Int) - 1)<(((List.dropLast x.2.1).length+1:Nat):Int)))<|
   need (Nat.beq (w64 ((x.1.length:Int) - 1)).toNat (List.dropLast x.2.1).length)<|
   need (decide (0<=(y2.length:Int))&&decide ((y2.length:Int)<((y2++[(⟨(⟨0,[],0,[],false⟩:ze),[]⟩:zb)]).length:Int)))<|
   zg (y2++[(⟨(⟨0,[],0,[],false⟩:ze),[]⟩:zb)])[y2.length]? fun y3=>
   some (List.take (w64 ((x.1.length:Int) - 1)).toNat x.1,List.dropLast x.2.1,List.take y2.length (y2++[(⟨(⟨0,[],0,[],false⟩:ze),[]⟩:zb)])++List.cons (⟨y1,x.2.2⟩:zb) (List.drop (y2.length+1) (y2++[(⟨(⟨0,[],0,[],false⟩:ze),[]⟩:zb)]))))
def wu(x:List ze):Option (List zb×Int):=
 bif decide ((x.length:Int)>1500)then
  some ([],4)
 else
  ZR (fun(s1:Int×List (List zb)×List zb×List ze)=>
    bif decide (s1.1<(x.length:Int))then
     zY (X:=Int×List (List zb)×List zb×List ze) (
       zg (geti x s1.1) fun y2=>
       need (decide (0<=w64 ((s1.2.2.2.length:Int) - 1))&&decide (w64 ((s1.2.2.2.length:Int) - 1)<(s1.2.2.2.length:Int))|| !(decide ((s1.2.2.2.length:Int)>0)))<|
       zg (zx (decide ((s1.2.2.2.length:Int)>0)) s1.2.2.2[(w64 ((s1.2.2.2.length:Int) - 1)).toNat]? (default:ze)) fun y3=>
       zg (zx (decide ((s1.2.2.2.length:Int)>0)) (Em y3.kind) (default:Int)) fun y4=>
       bif bif decide ((s1.2.2.2.length:Int)>0)then y2.kind==y4 else false then
        zg (Sl (s1.2.2.2,s1.2.1,s1.2.2.1)) fun y5=>
        some (LX.out (s1.1,y5.2.1,y5.2.2,y5.1))
       else
        zg (Em y2.kind) fun y6=>
        bif y6 != 0 then
         bif (s1.2.2.2.length:Int)==16 then
          some (LX.ret (LO.ret ([],20)))
         else
          need (zD (s1.2.1.length+1) 1 24)<|
          need (zD s1.2.2.2.length 1 56)<|
          some (LX.out (s1.1,s1.2.1++[s1.2.2.1],[],s1.2.2.2++[y2]))
        else
         both (
           need (decide (0<=(s1.2.2.2.length:Int))&&decide ((s1.2.2.2.length:Int)<((s1.2.1.length+1:Nat):Int)))<|
           need (Nat.beq s1.2.2.2.length s1.2.1.length)<|
           need (zD s1.2.2.1.length 1 80)<|
           need (decide (0<=(s1.2.2.2.length:Int))&&decide ((s1.2.2.2.length:Int)<((s1.2.1.length+1:Nat):Int)))<|
           need (Nat.beq s1.2.2.2.length s1.2.1.length)<|
           some (LX.out (s1.1,s1.2.1,s1.2.2.1++[(⟨y2,[]⟩:zb)],s1.2.2.2))) (
           need (decide (0<=(s1.2.2.2.length:Int))&&decide ((s1.2.2.2.length:Int)<((s1.2.1.length+1:Nat):Int)))<|
           need (Nat.beq s1.2.2.2.length s1.2.1.length)<|
           need (zD s1.2.2.1.length 1 80)<|
           need (decide (0<=(s1.2.2.2.length:Int))&&decide ((s1.2.2.2.length:Int)<((s1.2.1.length+1:Nat):Int)))<|
           need (Nat.beq s1.2.2.2.length s1.2.1.length)<|
           need (decide (0<=(s1.2.2.1.length:Int))&&decide ((s1.2.2.1.length:Int)<((s1.2.2.1++[(⟨(⟨0,[],0,[],false⟩:ze),[]⟩:zb)]).length:Int)))<|
           zg (s1.2.2.1++[(⟨(⟨0,[],0,[],false⟩:ze),[]⟩:zb)])[s1.2.2.1.length]? fun y7=>
           some (LX.out (s1.1,s1.2.1,List.set (s1.2.2.1++[(⟨(⟨0,[],0,[],false⟩:ze),[]⟩:zb)]) s1.2.2.1.length (⟨y2,[]⟩:zb),s1.2.2.2)))) fun j8=>
     some (LO.again (w64 (j8.1+1),j8.2.1,j8.2.2.1,j8.2.2.2))
    else
     some (LO.out (s1.2.1,s1.2.2.1,s1.2.2.2)):Int×List (List zb)×List zb×List ze->Option (LO (Int×List (List zb)×List zb×List ze) (List (List zb)×List zb×List ze) _)) (0,[],[],[]) fun o9=>
  bif decide (w64 ((x.length:Int)+(o9.2.2.length:Int))>1500)then
   some ([],4)
  else
   ZR (fun(s10:List (List zb)×List zb×List ze)=>
     bif decide ((s10.2.2.length:Int)>0)then
      zg (Sl (s10.2.2,s10.1,s10.2.1)) fun y11=>
      some (LO.again (y11.2.1,y11.2.2,y11.1))
     else
      some (LO.out (s10.1,s10.2.1,s10.2.2)):List (List zb)×List zb×List ze->Option (LO (List (List zb)×List zb×List ze) (List (List zb)×List zb×List ze) _)) (o9.1,o9.2.1,o9.2.2) fun o12=>
   need (decide (0<((o12.1.length+1:Nat):Int)))<|
   need (Nat.beq 0 o12.1.length)<|
   some (o12.2.1,0)
def RN(F:Int->Option Int):Con I:=⟨61,⟨[.int .u8],[]⟩,[],⟨[.int .u8],[]⟩,0,F⟩
def lL(F:List ze×List (List zb)×List zb->Option (List ze×List (List zb)×List zb)):Con I:=⟨60,⟨[.optr 0, .optr 2],[(0, .cells 22 [.own 1]),(1, .sl 44),(2, .cells 52 [.own 3]),(3, .slq 23 49 4),(4, .sl 49)]⟩,[],⟨[],[(0, .cells 22 [.own 5]),(2, .cells 52 [.own 6]),(5, .sl 44),(6, .slq 23 49 7),(7, .sl 49)]⟩,3,F⟩
def kK(F:List ze->Option (List zb×Int)):Con I:=⟨16,⟨[.sl 44],[]⟩,[],⟨[.sl 49, .int .i64],[]⟩,0,F⟩
theorem bZ:zt Tryz.prog (RN Em):=
 okP (A:=⟨[],[],[],0,[],[(7,⟨[6],⟨[.bool],[]⟩,[0],[],[],0,[],⟨[],[]⟩,[]⟩)],[]⟩) (exS:=⟨[.int .u8],[]⟩) Tryz.f61 zZ (by kernel_rfl) (by kernel_rfl) fun x=>by kernel_rfl
theorem VY:zt Tryz.prog (lL Sl):=
 okP (A:=⟨[],[(2,[200003,200006]),(4,[6]),(6,[7])],[(6,[(15,none)])],5,[],[],[]⟩) (exS:=⟨[],[(0, .cells 22 [.own 5]),(2, .cells 52 [.own 6]),(5, .sl 44),(6, .slq 23 49 7),(7, .sl 49)]⟩) Tryz.f60 zZ (by kernel_rfl) (by kernel_rfl) fun x=>by kernel_rfl
theorem XX:zt Tryz.prog (kK wu):=
 okP (A:=⟨[RN Em,lL Sl],[(3,[200000]),(10,[7]),(12,[8]),(18,[5,100001])],[],0,[(6,⟨[17],⟨[.int .i64],[(1, .cells 52 [.own 1106]),(1106, .slq 23 49 1107),(1107, .sl 49),(2, .cells 22 [.own 1108]),(1108, .sl 44)]⟩,[0,4,5,6,15,16],[],[1,2],0,[],⟨[],[(1, .cells 52 [.own 1106]),(1106, .slq 23 49 1107),(1107, .sl 49),(2, .cells 22 [.own 1108]),(1108, .sl 44)]⟩,[1,2,1106,1107,1108]⟩),(22,⟨[],⟨[],[(1, .cells 52 [.own 1213]),(1213, .slq 23 49 1215),(1215, .sl 49),(2, .cells 22 [.own 1214]),(1214, .sl 44)]⟩,[4,5,6],[],[1,2],3,[],⟨[],[(1, .cells 52 [.own 1213]),(1213, .slq 23 49 1215),(1215, .sl 49),(2, .cells 22 [.own 1214]),(1214, .sl 44)]⟩,[1,2,1213,1214,1215]⟩)],[(19,⟨[17],⟨[.int .i64],[(1, .cells 52 [.own 1210]),(1210, .slq 23 49 1212),(1212, .sl 49),(2, .cells 22 [.own 1211]),(1211, .sl 44)]⟩,[],[],[1,2],0,[],⟨[],[]⟩,[]⟩)],[]⟩) (exS:=⟨[.sl 49, .int .i64],[]⟩) Tryz.f16 (memC bZ (memC VY zZ)) (by kernel_rfl) (by kernel_rfl) fun x=>by kernel_rfl
theorem uL{R:Type}(x:Option R):both x x=x:=Ia rfl
theorem rE(k:Int):Em k=some (zJ k):=by
 unfold Em zJ;by_cases h2:k=2
 ·subst h2;rfl
 by_cases h19:k=19
 ·subst h19;rfl
 by_cases h21:k=21
 ·subst h21;rfl
 by_cases h23:k=23
 ·subst h23;rfl
 have e: ∀n:Int,k≠n->(k==n)=false:=fun n h=>Ja.2 h;simp[e _ h2,e _ h19,e _ h21,e _ h23,h2,h19,h21,h23]
def parL(a:PSt):List (List zb):=(a.2.map (·.2)).reverse
def parO(a:PSt):List ze:=(a.2.map (·.1)).reverse
theorem Xn{n:Nat}(h:n<=100000):w64 (n:Int)=n:=Qg (by omega) (by omega)
theorem xH{cur out:List zb}{o:ze}{st:List (ze×List zb)}(h1:st.length<=100)(h2:out.length<=100000):Sl (parO (cur,(o,out)::st),parL (cur,(o,out)::st),cur)=some (parO (Oj (cur,(o,out)::st)),parL (Oj (cur,(o,out)::st)),(Oj (cur,(o,out)::st)).1):=by
 have e1:parO (cur,(o,out)::st)=(st.map (·.1)).reverse++[o]:=by simp[parO]
 have e2:parL (cur,(o,out)::st)=(st.map (·.2)).reverse++[out]:=by simp[parL]
 rw[e1,e2];show Sl ((st.map (·.1)).reverse++[o],(st.map (·.2)).reverse++[out],cur)=some ((st.map (·.1)).reverse,(st.map (·.2)).reverse,out++[⟨o,cur⟩]);have l1:((st.map (·.1)).reverse).length=st.length:=by simp
 have l2:((st.map (·.2)).reverse).length=st.length:=by simp
 generalize (st.map (·.1)).reverse=A at*;generalize (st.map (·.2)).reverse=B at*;have w1:w64 (((A++[o]).length:Int) - 1)=(st.length:Int):=by rw[show((A++[o]).length:Int) - 1=(st.length:Int) by simp[l1]];exact Xn (by omega)
 have w2:w64 ((st.length:Int)+1)=((st.length+1:Nat):Int):=Xn (n:=st.length+1) (by omega);have ap:zD out.length 1 80=true:=dh (by omega);unfold Sl;simp only[w1,w2,Va];have c1:(decide ((0:Int)<=(st.length:Int))&&decide ((st.length:Int)<((A++[o]).length:Int)))=true:=by simp[l1];omega
 have c2:(decide ((0:Int)<=((st.length+1:Nat):Int))&&decide (((st.length+1:Nat):Int)<(((B++[out]).length+1:Nat):Int)))=true:=by simp[l2];omega
 have c3:Nat.beq (st.length+1) (B++[out]).length=true:=by simp[l2]
 have c4:decide (((st.length+1:Nat):Int)=((B++[out]).length:Int))=true:=by simp[l2]
 have c5:(decide ((0:Int)<=(st.length:Int))&&decide ((st.length:Int)<=((A++[o]).length:Int)))=true:=by simp[l1];omega
 have c6:(decide ((0:Int)<=(st.length:Int))&&decide ((st.length:Int)<((B.length+1:Nat):Int)))=true:=by simp[l2];omega
 have c7:Nat.beq st.length B.length=true:=by simp[l2]
 have g1:(A++[o])[st.length]? =some o:=by rw[<-l1];simp
 have t1:(A++[o]).take st.length=A:=by rw[<-l1];simp
 have z1: ∀z:zb,(out++[z])[out.length]? =some z:=fun z=>by simp
 have z2: ∀z:zb,(out++[z]).take out.length=out:=fun z=>by simp
 have z3: ∀z:zb,(out++[z]).drop (out.length+1)=[]:=fun z=>by simp
 have c8: ∀z:zb,(decide ((0:Int)<=(out.length:Int))&&decide ((out.length:Int)<((out++[z]).length:Int)))=true:=fun z=>by simp;omega
 simp only[c1,c2,c3,c4,c5,zR,g1,zg,Aa,List.getLast?_append,List.getLast?_singleton,Option.some_or,List.dropLast_concat,c6,c7,ap,c8,z1,z2,z3,t1,uL]
def ParB(b:Nat)(a:PSt):Prop:=a.2.length<=16/\a.1.length<=b/\ ∀p∈a.2,p.2.length<=b
theorem AL{b:Nat}{a a':PSt}{t:ze}(h:ParB b a)(e:bg a t=some a'):ParB (b+1) a':=by
 obtain⟨h1,h2,h3⟩:=h;unfold bg at e;split at e
 ·cases e;obtain⟨cur,st⟩:=a;cases st with
  |nil=>exact⟨h1,pg h2,fun p hp=>by cases hp⟩
  |cons q st=> obtain⟨o,out⟩:=q;refine⟨by have:((o,out)::st).length<=16:=h1;simp at this;show st.length<=16;omega,?_,fun p hp=>pg (h3 p (Lb _ hp))⟩;have:=h3 (o,out) (ib ..);show(out++[(⟨o,cur⟩:zb)]).length<=b+1;simp;omega
 ·split at e
  ·split at e
   ·cases e
   ·rename_i h16;cases e;refine⟨by show a.2.length+1<=16;omega,Vb _,fun p hp=> ?_⟩;rcases Kb.1 hp with rfl|hp
    ·exact pg h2
    ·exact pg (h3 p hp)
  ·cases e;exact⟨h1,by show(a.1++[(⟨t,[]⟩:zb)]).length<=b+1;simp;exact h2,fun p hp=>pg (h3 p hp)⟩
theorem Rs(a:PSt):(parO a).length=a.2.length:=by simp[parO]
theorem sU(a:PSt):(parL a).length=a.2.length:=by simp[parL]
def parG(t:ze)(a:PSt):Option (LO PSt (List (List zb)×List zb×List ze) (List zb×Int)):=match bg a t with
 |none=>some (.ret ([],20))
 |some a'=>some (.again a')
def RA(a:PSt):Option (LX (List (List zb)×List zb×List ze) (List zb×Int)):=some (.out (parL a,a.1,parO a))
theorem EK: ∀(l:List ze) (a:PSt),lh parG RA l a=(match Sg l a with
 |none=>some (.ret ([],20))
 |some a'=>some (.out (parL a',a'.1,parO a')))
 |[],a=>rfl
 |t::r,a=>by
  simp only[lh,parG,Sg];cases h:bg a t with
  |none=>rfl
  |some a'=>exact EK r a'
theorem DK: ∀(l:List ze) {b:Nat} {a a':PSt},ParB b a->Sg l a=some a'->ParB (b+l.length) a'
 |[],b,a,a',h,e=>by cases e;exact h
 |t::r,b,a,a',h,e=>by
  obtain⟨a1,h1,h2⟩:=Ba.1 (show(bg a t).bind (Sg r)=some a' from e);have:=DK r (AL h h1) h2
  rwa [show b+(t::r).length=b+1+r.length by simp;omega]
theorem rU{i n:Nat}{t:ze}{a:PSt}(hi:i<1500)(hn:Nn a.2 t=false)(hB:ParB i a):zY (X:=Int×List (List zb)×List zb×List ze) (R:=LO (Int×List (List zb)×List zb×List ze) (List (List zb)×List zb×List ze) (List zb×Int))
  (zg (Em t.kind) fun y6=>
   bif y6 != 0 then
    bif ((parO a).length:Int)==16 then
     some (LX.ret (LO.ret ([],20)))
    else
     need (zD ((parL a).length+1) 1 24)<|
     need (zD (parO a).length 1 56)<|
     some (LX.out ((i:Int),parL a++[a.1],[],parO a++[t]))
   else
    both (
      need (decide (0<=((parO a).length:Int))&&decide (((parO a).length:Int)<(((parL a).length+1:Nat):Int)))<|
      need (Nat.beq (parO a).length (parL a).length)<|
      need (zD a.1.length 1 80)<|
      need (decide (0<=((parO a).length:Int))&&decide (((parO a).length:Int)<(((parL a).length+1:Nat):Int)))<|
      need (Nat.beq (parO a).length (parL a).length)<|
      some (LX.out ((i:Int),parL a,a.1++[(⟨t,[]⟩:zb)],parO a))) (
      need (decide (0<=((parO a).length:Int))&&decide (((parO a).length:Int)<(((parL a).length+1:Nat):Int)))<|
      need (Nat.beq (parO a).length (parL a).length)<|
      need (zD a.1.length 1 80)<|
      need (decide (0<=((parO a).length:Int))&&decide (((parO a).length:Int)<(((parL a).length+1:Nat):Int)))<|
      need (Nat.beq (parO a).length (parL a).length)<|
      need (decide (0<=(a.1.length:Int))&&decide ((a.1.length:Int)<((a.1++[(⟨(⟨0,[],0,[],false⟩:ze),[]⟩:zb)]).length:Int)))<|
      zg (a.1++[(⟨(⟨0,[],0,[],false⟩:ze),[]⟩:zb)])[a.1.length]? fun y7=>
      some (LX.out ((i:Int),parL a,List.set (a.1++[(⟨(⟨0,[],0,[],false⟩:ze),[]⟩:zb)]) a.1.length (⟨t,[]⟩:zb),parO a))))
  (fun j8=>some (LO.again (w64 (j8.1+1),j8.2.1,j8.2.2.1,j8.2.2.2)))=(parG t a).map fun
   | .again a'=> .again (((i+1:Nat):Int),parL a',a'.1,parO a')
   | .out x=> .out x
   | .ret r=> .ret r:=by
 obtain⟨b1,b2,b3⟩:=hB;have hO:=Rs a;have hL:=sU a;have wi:w64 ((i:Int)+1)=((i+1:Nat):Int):=Xn (n:=i+1) (by omega);rw[rE];simp only[zg,Aa];unfold parG bg;rw[hn];by_cases h0:zJ t.kind=0
 ·have c6:(decide ((0:Int)<=((parO a).length:Int))&&decide (((parO a).length:Int)<(((parL a).length+1:Nat):Int)))=true:=by rw[hO,hL];simp;omega
  have c7:Nat.beq (parO a).length (parL a).length=true:=by rw[hO,hL];simp
  have ap:zD a.1.length 1 80=true:=dh (by omega);have c8: ∀z:zb,(decide ((0:Int)<=(a.1.length:Int))&&decide ((a.1.length:Int)<((a.1++[z]).length:Int)))=true:=fun z=>by simp;omega
  have z1: ∀z:zb,(a.1++[z])[a.1.length]? =some z:=fun z=>by simp
  have z2: ∀z y:zb,List.set (a.1++[z]) a.1.length y=a.1++[y]:=fun z y=>by simp
  simp only[h0,bne_self_eq_false,Da,c6,c7,c8,ap,zR,z1,z2,Aa,uL,zh,wi,ne_eq,not_true_eq_false,Ld,Ob];rfl
 ·have hb:(zJ t.kind != 0)=true:=by simpa using h0
  simp only[hb,Ea,Ob,Ld,ne_eq,h0,Mf,jd];by_cases h16:a.2.length=16
  ·have:(((parO a).length:Int)==16)=true:=by rw[hO,h16];rfl
   rw[this,Ia h16];rfl
  ·have:(((parO a).length:Int)==16)=false:=by rw[hO];exact Ja.2 (by omega)
   rw[this,Fa h16];have a1:zD ((parL a).length+1) 1 24=true:=dh (by rw[hL];omega);have a2:zD (parO a).length 1 56=true:=dh (by rw[hO];omega);simp only[Da,a1,a2,zR,zh,wi];have e1:parL ([],(t,a.1)::a.2)=parL a++[a.1]:=by simp[parL]
   have e2:parO ([],(t,a.1)::a.2)=parO a++[t]:=by simp[parO]
   show _=some (LO.again (((i+1:Nat):Int),parL ([],(t,a.1)::a.2),([]:List zb),parO ([],(t,a.1)::a.2)));rw[e1,e2]
theorem WW(x:List ze):wu x=parseF x:=by
 unfold wu parseF parS;by_cases hx:1500<x.length
 ·rw[Ia hx,show decide ((x.length:Int)>1500)=true from Ga (by omega)];rfl
 rw[Fa hx,show decide ((x.length:Int)>1500)=false from aa (by omega),Da];have hov:lh parG RA x ([],[])=some (match Sg x ([],[])with
  |none=> .ret ([],20)
  |some a'=> .out (parL a',a'.1,parO a')):=by rw[EK];cases Sg x ([],[])<;>rfl
 refine(kr (A:=PSt) x (fun i a=>((i:Int),parL a,a.1,parO a)) parG RA (fun i a=>i<=x.length/\ParB i a) (a:=([],[])) rfl ⟨Vb _,Vb _,Vb _,fun p hp=>by cases hp⟩ ?_ ?_ hov).trans ?_
 ·intro i a hi ⟨_,hB⟩;refine⟨?_,fun a' ha=>⟨hi,AL (t:=x[i]) hB (by
   unfold parG at ha;cases h:bg a x[i]with
   |none=>rw[h]at ha;cases ha
   |some a2=>rw[h]at ha;cases ha;rfl)⟩⟩
  have c0:decide ((i:Int)<(x.length:Int))=true:=Ga (by omega);have hb:=hB;obtain⟨b1,b2,b3⟩:=hb;have els:=fun(hn:Nn a.2 x[i]=false)=>rU (i:=i) (n:=0) (t:=x[i]) (a:=a) (by omega) hn hB;simp only[c0,Ea,qI hi,zg,Aa]at els ⊢;obtain⟨cur,_|⟨⟨o,out⟩,st⟩⟩:=a
  ·have e0:decide (((parO (cur,([]:List (ze×List zb)))).length:Int)>0)=false:=rfl;simp only[e0,Xa,Gg,zR,ZH,Aa,Da];simp only[rE,Aa]at els ⊢;refine Eq.trans ?_ ((els rfl).trans ?_)
   ·rfl
   ·rcases parG x[i] (cur,[])with _|(_|_|_)<;>rfl
  ·have hlen:(parO (cur,(o,out)::st)).length=st.length+1:=by rw[Rs];rfl
   have hst:st.length+1<=16:=b1;have e0:decide (((parO (cur,(o,out)::st)).length:Int)>0)=true:=Ga (by rw[hlen];omega);have w1:w64 (((parO (cur,(o,out)::st)).length:Int) - 1)=(st.length:Int):=by rw[show((parO (cur,(o,out)::st)).length:Int) - 1=(st.length:Int) by rw[hlen];omega];exact Xn (by omega)
   have c1:(decide ((0:Int)<=(st.length:Int))&&decide ((st.length:Int)<((parO (cur,(o,out)::st)).length:Int)))=true:=by rw[hlen];simp;omega
   have g1:(parO (cur,(o,out)::st))[st.length]? =some o:=by
    have:parO (cur,(o,out)::st)=(st.map (·.1)).reverse++[o]:=by simp[parO]
    rw[this];simp
   simp only[e0,w1,c1,Ae,zR,zS,Va,g1,rE,Aa,Ea]at els ⊢;by_cases hs:(x[i].kind==zJ o.kind)=true
   ·rw[hs,xH (by omega) (Ub (b3 (o,out) (ib ..)) (by omega))];have wi:w64 ((i:Int)+1)=((i+1:Nat):Int):=Xn (n:=i+1) (by omega);simp only[Ea,Aa,zh,wi];unfold parG bg;rw[Ia (show Nn ((o,out)::st) x[i]=true from hs)];rfl
   ·have hs:(x[i].kind==zJ o.kind)=false:=by simpa using hs
    rw[hs];simp only[Da];refine Eq.trans ?_ ((els hs).trans ?_)
    ·rfl
    ·rcases parG x[i] (cur,(o,out)::st)with _|(_|_|_)<;>rfl
 ·intro a _;have c0:decide ((x.length:Int)<(x.length:Int))=false:=aa (by omega);simp only[c0,Da];rfl
 cases hrun:Sg x ([],[])with
 |none=>rfl
 |some a=>
  have hB:=DK x (b:=0) ⟨Vb _,Vb _,fun p hp=>by cases hp⟩ hrun;rw[Sd]at hB;obtain⟨b1,b2,b3⟩:=hB;simp only[zke];have hw:w64 ((x.length:Int)+((parO a).length:Int))=((x.length+a.2.length:Nat):Int):=by rw[Rs];exact Xn (n:=x.length+a.2.length) (by omega)
  rw[hw];by_cases h2:1500<x.length+a.2.length
  ·rw[Ia h2,show decide (((x.length+a.2.length:Nat):Int)>1500)=true from Ga (by omega)];rfl
  rw[Fa h2,show decide (((x.length+a.2.length:Nat):Int)>1500)=false from aa (by omega),Da];rw[qD (x:=(([]:List (List zb)),shutAll a.1 a.2,([]:List ze))) (ZT (fun s=> ∃b:PSt,s=(parL b,b.1,parO b)/\shutAll b.1 b.2=shutAll a.1 a.2/\b.2.length<=16/\ ∀p∈b.2,p.2.length<=1500) (fun s=>s.2.2.length) _ ?_ ⟨a,rfl,rfl,b1,fun p hp=>Ub (b3 p hp) (by omega)⟩)]
  ·rfl
  ·rintro _ ⟨⟨cur,_|⟨⟨o,out⟩,st⟩⟩,rfl,q1,q2,q3⟩
   ·exact .inr (.inl ⟨_,rfl,by rw[<-q1];rfl⟩)
   ·have hlen:(parO (cur,(o,out)::st)).length=st.length+1:=by rw[Rs];rfl
    have hst:st.length+1<=16:=q2;have e0:decide (((parO (cur,(o,out)::st)).length:Int)>0)=true:=Ga (by rw[hlen];omega);refine .inl ⟨_,?_,⟨Oj (cur,(o,out)::st),rfl,q1,by show st.length<=16;omega,fun p hp=>q3 p (Lb _ hp)⟩,?_⟩
    ·simp only[e0,Ea,zg];rw[xH (by omega) (Ub (q3 (o,out) (ib ..)) (by omega))];rfl
    ·rw[hlen];show(parO (Oj (cur,(o,out)::st))).length<st.length+1;rw[Rs];show st.length<st.length+1;omega
theorem gv_parse:zt Tryz.prog (kK parseF):=by
 have:=XX
 rwa [show wu=parseF from funext WW]at this
end Go.Lv.VT
namespace Go.Lv
theorem CX:zt Proofs.Tryz.prog (⟨16,⟨[.sl 44],[]⟩,[],⟨[.sl 49, .int .i64],[]⟩,0,VT.parseF⟩:Con VT.I):=VT.gv_parse
open Go.Proofs Go.RowKit
set_option maxRecDepth 100000
theorem iM(l:List Str):(l.map fun s=>(⟨s.toArray⟩:ByteArray)).map (fun x=>x.data.toList)=l:=by rw[List.map_map];exact(Bf fun s _=>by simp).trans (List.map_id l)
theorem JW:zt Tryz.prog (⟨85,⟨[.sl 9, .str],[]⟩,[],⟨[.str],[]⟩,0,Vj⟩:Con VT.I):=
 Wl VT.ipOK rfl Tryz.func85 rfl rfl fun x y hxy ι w vs W ha=>by
  obtain⟨(l:List Str),(c:Str)⟩:=x;replace hxy:Vj (l,c)=some y:=hxy;unfold Vj at hxy;obtain⟨hq,hy⟩:=Cj hxy;cases hy;rw[Ca]at hq;have q1:List.length l<=1000000:=Ac hq.1;have q2:(Lib.join l c).length<=1000000000:=Ac hq.2;have h1:=si (l:=c) (j:=1) ha rfl;obtain⟨u,hu,_,hr⟩:=ha.2 0 _ rfl;replace hr:RepP (Dom ι w) w (.sl (List.map (fun s:Str=>[PV.str s]) l)) u:=hr;cases hr with
  |sl _ a n cp k b o val hn hc ha' hD hk hv hr'=>
   obtain rfl:=Xo ha.1 hu h1;rw[ja]at hn;rcases Lg n with h0|h0
   ·have:l=[]:=jb (hn.symm.trans h0);subst this;subst h0;refine(Tryz.strings_Join_none a cp _ w).mono ?_;rintro e w' ⟨rfl,rfl⟩;exact⟨_,rfl,Below.refl _ _,Jk _⟩
   ·obtain rfl:=ha' h0;have hk1:k=1:=by
     cases l with
     |nil=>subst hn;cases h0
     |cons s t=>exact(hk [.str s] (Fb.2 ⟨s,ib ..,rfl⟩)).symm
    subst hk1;have hcells: ∀(j:Nat) x,(List.map (fun s:Str=>(⟨s.toArray⟩:ByteArray)) l)[j]? =some x->w.cell? ⟨b,o+j,none⟩=some (.string x):=fun j x hj=>by
     rw[Na]at hj;obtain⟨s,hs,rfl⟩:=La.1 hj;have hrow:(List.map (fun s:Str=>[PV.str s]) l)[j]? =some [PV.str s]:=by rw[Na,hs];rfl
     have e1:=hv j _ 0 _ hrow rfl;rw[gM (hr' j _ 0 _ hrow rfl),ve]at e1;exact e1
    have hl:(List.map (fun s:Str=>(⟨s.toArray⟩:ByteArray)) l).length=n:=by rw[ja,hn]
    have hj:=Tryz.strings_Join b o cp _ ⟨c.toArray⟩ w hcells (hD h0).1 (by rw[hl,hn];omega) (by rw[hl];exact hc) (by rw[iM];show(Lib.join l c).length<=_;omega);rw[hl,iM]at hj;refine hj.mono ?_;rintro e w' ⟨rfl,hB⟩;exact⟨_,rfl,hB,Jk _⟩
theorem EX:zt Proofs.Tryz.prog (⟨99,⟨[.str],[]⟩,[],⟨[.str, .int .i64],[]⟩,0,Ki⟩:Con VT.I):=nZ
end Go.Lv
end
