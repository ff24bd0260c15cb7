/- nest.Parse: its text, and its contract. -/
import Derived.Test.YtcdeccnjlkkejaaGreatDoorIp
import Derived.Test.YtcdeccnjlkkejaaGreatDoorLf
import Derived.Test.YtcdeccnjlkkejaaGreatDoorTy
import Derived.Test.YtcdeccnjlkkejaaGreatDoorGa
import Derived.Test.YtcdeccnjlkkejaaGreatDoorCd
noncomputable section
set_option linter.unusedSimpArgs false
set_option linter.unusedVariables false
namespace Go.Lv.VT
set_option maxRecDepth 100000
open Go.Proofs
def TP:TT:=[(2,ti Tryz.prog 2),(3,ti Tryz.prog 3),(4,ti Tryz.prog 4),(5,ti Tryz.prog 5),(9,ti Tryz.prog 9),(22,ti Tryz.prog 22),(23,ti Tryz.prog 23),(44,ti Tryz.prog 44),(49,ti Tryz.prog 49),(52,ti Tryz.prog 52)]
theorem tokP:TOK Tryz.prog TP []:=aB (l:=[2,3,4,5,9,22,23,44,49,52]) fun _ h=>by cases h
theorem okP{con:Con I}{A:Env0 I}{exS:StSh}(f:Go.Func)(hS: ∀c∈A.S,zk Tryz.prog c)(hf:Tryz.prog.funcs[con.f]? =some f)(h:chk con A f=true)(he: ∀x,evF2 A TP [] f.ntmps (rsl f) (body f) con exS x=con.F x):zk Tryz.prog con:=
 okC0 mixed ipOK tokP rfl rfl hS hf h he
def Wm(x:Int):Option Int:=
 bif x==2 then
  some 22
 else
  zX (X:=Bool) (
    bif x==19 then
     some (LX.out (x==19))
    else
     bif x==21 then
      some (LX.out (x==21))
     else
      some (LX.out (x==23))) fun j1=>
  bif j1 then
   some (wu8 (x+1))
  else
   some 0
def Hm(x:List zb×List (List zg)×List zg):Option (List zb×List (List zg)×List zg):=
 need (decide (0<=w64 ((x.1.length:Int) - 1))&&decide (w64 ((x.1.length:Int) - 1)<(x.1.length:Int)))<|
 ze (x.1[(w64 ((x.1.length:Int) - 1)).toNat]?) fun y1=>
 need (decide (0<=w64 (w64 ((x.1.length:Int) - 1)+1))&&decide (w64 (w64 ((x.1.length:Int) - 1)+1)<((x.2.1.length+1:Nat):Int)))<|
 need (Nat.beq (w64 (w64 ((x.1.length:Int) - 1)+1)).toNat x.2.1.length)<|
 ze (List.getLast? x.2.1) fun y2=>
 need (decide (w64 (w64 ((x.1.length:Int) - 1)+1)=(x.2.1.length:Int)))<|
 need (decide (0<=w64 ((x.1.length:Int) - 1))&&decide (w64 ((x.1.length:Int) - 1)<=(x.1.length:Int)))<|
 both (
   need (decide (0<=w64 ((x.1.length:Int) - 1))&&decide (w64 ((x.1.length:Int) - 1)<(((List.dropLast x.2.1).length+1:Nat):Int)))<|
   need (Nat.beq (w64 ((x.1.length:Int) - 1)).toNat (List.dropLast x.2.1).length)<|
   need (zQ y2.length 1 80)<|
   need (decide (0<=w64 ((x.1.length:Int) - 1))&&decide (w64 ((x.1.length:Int) - 1)<(((List.dropLast x.2.1).length+1:Nat):Int)))<|
   need (Nat.beq (w64 ((x.1.length:Int) - 1)).toNat (List.dropLast x.2.1).length)<|
   some (List.take (w64 ((x.1.length:Int) - 1)).toNat x.1,List.dropLast x.2.1,y2++[(⟨y1,x.2.2⟩:zg)])) (
   need (decide (0<=w64 ((x.1.length:Int) - 1))&&decide (w64 ((x.1.length:Int) - 1)<(((List.dropLast x.2.1).length+1:Nat):Int)))<|
   need (Nat.beq (w64 ((x.1.length:Int) - 1)).toNat (List.dropLast x.2.1).length)<|
   need (zQ y2.length 1 80)<|
   need (decide (0<=w64 ((x.1.length:Int) - 1))&&decide (w64 ((x.1.length:Int) - 1)<(((List.dropLast x.2.1).length+1:Nat):Int)))<|
   need (Nat.beq (w64 ((x.1.length:Int) - 1)).toNat (List.dropLast x.2.1).length)<|
   need (decide (0<=(y2.length:Int))&&decide ((y2.length:Int)<((y2++[(⟨(⟨0,[],0,[],false⟩:zb),[]⟩:zg)]).length:Int)))<|
   ze (y2++[(⟨(⟨0,[],0,[],false⟩:zb),[]⟩:zg)])[y2.length]? fun y3=>
   some (List.take (w64 ((x.1.length:Int) - 1)).toNat x.1,List.dropLast x.2.1,List.take y2.length (y2++[(⟨(⟨0,[],0,[],false⟩:zb),[]⟩:zg)])++List.cons (⟨y1,x.2.2⟩:zg) (List.drop (y2.length+1) (y2++[(⟨(⟨0,[],0,[],false⟩:zb),[]⟩:zg)]))))
def dw(x:List zb):Option (List zg×Int):=
 bif decide ((x.length:Int)>1500)then
  some ([],4)
 else
  Zg (fun(s1:Int×List (List zg)×List zg×List zb)=>
    bif decide (s1.1<(x.length:Int))then
     zX (X:=Int×List (List zg)×List zg×List zb) (
       ze (geti x s1.1) fun y2=>
       need (decide (0<=w64 ((s1.2.2.2.length:Int) - 1))&&decide (w64 ((s1.2.2.2.length:Int) - 1)<(s1.2.2.2.length:Int))|| !(decide ((s1.2.2.2.length:Int)>0)))<|
       ze (zt (decide ((s1.2.2.2.length:Int)>0)) s1.2.2.2[(w64 ((s1.2.2.2.length:Int) - 1)).toNat]? (default:zb)) fun y3=>
       ze (zt (decide ((s1.2.2.2.length:Int)>0)) (Wm y3.kind) (default:Int)) fun y4=>
       bif bif decide ((s1.2.2.2.length:Int)>0)then y2.kind==y4 else false then
        ze (Hm (s1.2.2.2,s1.2.1,s1.2.2.1)) fun y5=>
        some (LX.out (s1.1,y5.2.1,y5.2.2,y5.1))
       else
        ze (Wm y2.kind) fun y6=>
        bif y6 != 0 then
         bif (s1.2.2.2.length:Int)==16 then
          some (LX.ret (LO.ret ([],20)))
         else
          need (zQ (s1.2.1.length+1) 1 24)<|
          need (zQ s1.2.2.2.length 1 56)<|
          some (LX.out (s1.1,s1.2.1++[s1.2.2.1],[],s1.2.2.2++[y2]))
        else
         both (
           need (decide (0<=(s1.2.2.2.length:Int))&&decide ((s1.2.2.2.length:Int)<((s1.2.1.length+1:Nat):Int)))<|
           need (Nat.beq s1.2.2.2.length s1.2.1.length)<|
           need (zQ s1.2.2.1.length 1 80)<|
           need (decide (0<=(s1.2.2.2.length:Int))&&decide ((s1.2.2.2.length:Int)<((s1.2.1.length+1:Nat):Int)))<|
           need (Nat.beq s1.2.2.2.length s1.2.1.length)<|
           some (LX.out (s1.1,s1.2.1,s1.2.2.1++[(⟨y2,[]⟩:zg)],s1.2.2.2))) (
           need (decide (0<=(s1.2.2.2.length:Int))&&decide ((s1.2.2.2.length:Int)<((s1.2.1.length+1:Nat):Int)))<|
           need (Nat.beq s1.2.2.2.length s1.2.1.length)<|
           need (zQ s1.2.2.1.length 1 80)<|
           need (decide (0<=(s1.2.2.2.length:Int))&&decide ((s1.2.2.2.length:Int)<((s1.2.1.length+1:Nat):Int)))<|
           need (Nat.beq s1.2.2.2.length s1.2.1.length)<|
           need (decide (0<=(s1.2.2.1.length:Int))&&decide ((s1.2.2.1.length:Int)<((s1.2.2.1++[(⟨(⟨0,[],0,[],false⟩:zb),[]⟩:zg)]).length:Int)))<|
           ze (s1.2.2.1++[(⟨(⟨0,[],0,[],false⟩:zb),[]⟩:zg)])[s1.2.2.1.length]? fun y7=>
           some (LX.out (s1.1,s1.2.1,List.set (s1.2.2.1++[(⟨(⟨0,[],0,[],false⟩:zb),[]⟩:zg)]) s1.2.2.1.length (⟨y2,[]⟩:zg),s1.2.2.2)))) fun j8=>
     some (LO.again (w64 (j8.1+1),j8.2.1,j8.2.2.1,j8.2.2.2))
    else
     some (LO.out (s1.2.1,s1.2.2.1,s1.2.2.2)):Int×List (List zg)×List zg×List zb->Option (LO (Int×List (List zg)×List zg×List zb) (List (List zg)×List zg×List zb) _)) (0,[],[],[]) fun o9=>
  bif decide (w64 ((x.length:Int)+(o9.2.2.length:Int))>1500)then
   some ([],4)
  else
   Zg (fun(s10:List (List zg)×List zg×List zb)=>
     bif decide ((s10.2.2.length:Int)>0)then
      ze (Hm (s10.2.2,s10.1,s10.2.1)) fun y11=>
      some (LO.again (y11.2.1,y11.2.2,y11.1))
     else
      some (LO.out (s10.1,s10.2.1,s10.2.2)):List (List zg)×List zg×List zb->Option (LO (List (List zg)×List zg×List zb) (List (List zg)×List zg×List zb) _)) (o9.1,o9.2.1,o9.2.2) fun o12=>
   need (decide (0<((o12.1.length+1:Nat):Int)))<|
   need (Nat.beq 0 o12.1.length)<|
   some (o12.2.1,0)
def MO(F:Int->Option Int):Con I:=⟨61,⟨[.int .u8],[]⟩,[],⟨[.int .u8],[]⟩,0,F⟩
def gM(F:List zb×List (List zg)×List zg->Option (List zb×List (List zg)×List zg)):Con I:=⟨60,⟨[.optr 0, .optr 2],[(0, .cells 22 [.own 1]),(1, .sl 44),(2, .cells 52 [.own 3]),(3, .slq 23 49 4),(4, .sl 49)]⟩,[],⟨[],[(0, .cells 22 [.own 5]),(2, .cells 52 [.own 6]),(5, .sl 44),(6, .slq 23 49 7),(7, .sl 49)]⟩,3,F⟩
def TK(F:List zb->Option (List zg×Int)):Con I:=⟨16,⟨[.sl 44],[]⟩,[],⟨[.sl 49, .int .i64],[]⟩,0,F⟩
theorem K4:zk Tryz.prog (MO Wm):=
 okP (A:=⟨[],[],[],0,[],[(7,⟨[6],⟨[.bool],[]⟩,[0],[],[],0,[],⟨[],[]⟩,[]⟩)],[]⟩) (exS:=⟨[.int .u8],[]⟩) Tryz.f61 zJ (by kernel_rfl) (by kernel_rfl) fun x=>by kernel_rfl
theorem fZ:zk Tryz.prog (gM Hm):=
 okP (A:=⟨[],[(2,[200003,200006]),(4,[6]),(6,[7])],[(6,[(15,none)])],5,[],[],[]⟩) (exS:=⟨[],[(0, .cells 22 [.own 5]),(2, .cells 52 [.own 6]),(5, .sl 44),(6, .slq 23 49 7),(7, .sl 49)]⟩) Tryz.f60 zJ (by kernel_rfl) (by kernel_rfl) fun x=>by kernel_rfl
theorem WX:zk Tryz.prog (TK dw):=
 okP (A:=⟨[MO Wm,gM Hm],[(3,[200000]),(10,[7]),(12,[8]),(18,[5,100001])],[],0,[(6,⟨[17],⟨[.int .i64],[(1, .cells 52 [.own 1106]),(1106, .slq 23 49 1107),(1107, .sl 49),(2, .cells 22 [.own 1108]),(1108, .sl 44)]⟩,[0,4,5,6,15,16],[],[1,2],0,[],⟨[],[(1, .cells 52 [.own 1106]),(1106, .slq 23 49 1107),(1107, .sl 49),(2, .cells 22 [.own 1108]),(1108, .sl 44)]⟩,[1,2,1106,1107,1108]⟩),(22,⟨[],⟨[],[(1, .cells 52 [.own 1213]),(1213, .slq 23 49 1215),(1215, .sl 49),(2, .cells 22 [.own 1214]),(1214, .sl 44)]⟩,[4,5,6],[],[1,2],3,[],⟨[],[(1, .cells 52 [.own 1213]),(1213, .slq 23 49 1215),(1215, .sl 49),(2, .cells 22 [.own 1214]),(1214, .sl 44)]⟩,[1,2,1213,1214,1215]⟩)],[(19,⟨[17],⟨[.int .i64],[(1, .cells 52 [.own 1210]),(1210, .slq 23 49 1212),(1212, .sl 49),(2, .cells 22 [.own 1211]),(1211, .sl 44)]⟩,[],[],[1,2],0,[],⟨[],[]⟩,[]⟩)],[]⟩) (exS:=⟨[.sl 49, .int .i64],[]⟩) Tryz.f16 (memC K4 (memC fZ zJ)) (by kernel_rfl) (by kernel_rfl) fun x=>by kernel_rfl
theorem GM{R:Type}(x:Option R):both x x=x:=Ka rfl
theorem fG(k:Int):Wm k=some (zw k):=by
 unfold Wm zw;by_cases h2:k=2
 ·subst h2;rfl
 by_cases h19:k=19
 ·subst h19;rfl
 by_cases h21:k=21
 ·subst h21;rfl
 by_cases h23:k=23
 ·subst h23;rfl
 have e: ∀n:Int,k≠n->(k==n)=false:=fun n h=>Ga.2 h;simp[e _ h2,e _ h19,e _ h21,e _ h23,h2,h19,h21,h23]
def parL(a:PSt):List (List zg):=(a.2.map (·.2)).reverse
def parO(a:PSt):List zb:=(a.2.map (·.1)).reverse
theorem oo{n:Nat}(h:n<=100000):w64 (n:Int)=n:=qc (by omega) (by omega)
theorem nI{cur out:List zg}{o:zb}{st:List (zb×List zg)}(h1:st.length<=100)(h2:out.length<=100000):Hm (parO (cur,(o,out)::st),parL (cur,(o,out)::st),cur)=some (parO (Vj (cur,(o,out)::st)),parL (Vj (cur,(o,out)::st)),(Vj (cur,(o,out)::st)).1):=by
 have e1:parO (cur,(o,out)::st)=(st.map (·.1)).reverse++[o]:=by simp[parO]
 have e2:parL (cur,(o,out)::st)=(st.map (·.2)).reverse++[out]:=by simp[parL]
 rw[e1,e2];show Hm ((st.map (·.1)).reverse++[o],(st.map (·.2)).reverse++[out],cur)=some ((st.map (·.1)).reverse,(st.map (·.2)).reverse,out++[⟨o,cur⟩]);have l1:((st.map (·.1)).reverse).length=st.length:=by simp
 have l2:((st.map (·.2)).reverse).length=st.length:=by simp
 generalize (st.map (·.1)).reverse=A at*;generalize (st.map (·.2)).reverse=B at*;have w1:w64 (((A++[o]).length:Int) - 1)=(st.length:Int):=by rw[show((A++[o]).length:Int) - 1=(st.length:Int) by simp[l1]];exact oo (by omega)
 have w2:w64 ((st.length:Int)+1)=((st.length+1:Nat):Int):=oo (n:=st.length+1) (by omega);have ap:zQ out.length 1 80=true:=Oj (by omega);unfold Hm;simp only[w1,w2,Ra];have c1:(decide ((0:Int)<=(st.length:Int))&&decide ((st.length:Int)<((A++[o]).length:Int)))=true:=by simp[l1];omega
 have c2:(decide ((0:Int)<=((st.length+1:Nat):Int))&&decide (((st.length+1:Nat):Int)<(((B++[out]).length+1:Nat):Int)))=true:=by simp[l2];omega
 have c3:Nat.beq (st.length+1) (B++[out]).length=true:=by simp[l2]
 have c4:decide (((st.length+1:Nat):Int)=((B++[out]).length:Int))=true:=by simp[l2]
 have c5:(decide ((0:Int)<=(st.length:Int))&&decide ((st.length:Int)<=((A++[o]).length:Int)))=true:=by simp[l1];omega
 have c6:(decide ((0:Int)<=(st.length:Int))&&decide ((st.length:Int)<((B.length+1:Nat):Int)))=true:=by simp[l2];omega
 have c7:Nat.beq st.length B.length=true:=by simp[l2]
 have g1:(A++[o])[st.length]? =some o:=by rw[<-l1];simp
 have t1:(A++[o]).take st.length=A:=by rw[<-l1];simp
 have z1: ∀z:zg,(out++[z])[out.length]? =some z:=fun z=>by simp
 have z2: ∀z:zg,(out++[z]).take out.length=out:=fun z=>by simp
 have z3: ∀z:zg,(out++[z]).drop (out.length+1)=[]:=fun z=>by simp
 have c8: ∀z:zg,(decide ((0:Int)<=(out.length:Int))&&decide ((out.length:Int)<((out++[z]).length:Int)))=true:=fun z=>by simp;omega
 simp only[c1,c2,c3,c4,c5,Zd,g1,ze,Aa,List.getLast?_append,List.getLast?_singleton,Option.some_or,List.dropLast_concat,c6,c7,ap,c8,z1,z2,z3,t1,GM]
def ParB(b:Nat)(a:PSt):Prop:=a.2.length<=16/\a.1.length<=b/\ ∀p∈a.2,p.2.length<=b
theorem vL{b:Nat}{a a':PSt}{t:zb}(h:ParB b a)(e:Q9 a t=some a'):ParB (b+1) a':=by
 obtain⟨h1,h2,h3⟩:=h;unfold Q9 at e;split at e
 ·cases e;obtain⟨cur,st⟩:=a;cases st with
  |nil=>exact⟨h1,xg h2,fun p hp=>by cases hp⟩
  |cons q st=> obtain⟨o,out⟩:=q;refine⟨by have:((o,out)::st).length<=16:=h1;simp at this;show st.length<=16;omega,?_,fun p hp=>xg (h3 p (Rb _ hp))⟩;have:=h3 (o,out) (Vb ..);show(out++[(⟨o,cur⟩:zg)]).length<=b+1;simp;omega
 ·split at e
  ·split at e
   ·cases e
   ·rename_i h16;cases e;refine⟨by show a.2.length+1<=16;omega,Ub _,fun p hp=> ?_⟩;rcases Lb.1 hp with rfl|hp
    ·exact xg h2
    ·exact xg (h3 p hp)
  ·cases e;exact⟨h1,by show(a.1++[(⟨t,[]⟩:zg)]).length<=b+1;simp;exact h2,fun p hp=>xg (h3 p hp)⟩
theorem Fu(a:PSt):(parO a).length=a.2.length:=by simp[parO]
theorem rV(a:PSt):(parL a).length=a.2.length:=by simp[parL]
def parG(t:zb)(a:PSt):Option (LO PSt (List (List zg)×List zg×List zb) (List zg×Int)):=match Q9 a t with
 |none=>some (.ret ([],20))
 |some a'=>some (.again a')
def gB(a:PSt):Option (LX (List (List zg)×List zg×List zb) (List zg×Int)):=some (.out (parL a,a.1,parO a))
theorem BL: ∀(l:List zb) (a:PSt),Yg parG gB l a=(match Bg l a with
 |none=>some (.ret ([],20))
 |some a'=>some (.out (parL a',a'.1,parO a')))
 |[],a=>rfl
 |t::r,a=>by
  simp only[Yg,parG,Bg];cases h:Q9 a t with
  |none=>rfl
  |some a'=>exact BL r a'
theorem BK: ∀(l:List zb) {b:Nat} {a a':PSt},ParB b a->Bg l a=some a'->ParB (b+l.length) a'
 |[],b,a,a',h,e=>by cases e;exact h
 |t::r,b,a,a',h,e=>by
  obtain⟨a1,h1,h2⟩:=Da.1 (show(Q9 a t).bind (Bg r)=some a' from e);have:=BK r (vL h h1) h2
  rwa [show b+(t::r).length=b+1+r.length by simp;omega]
theorem pV{i n:Nat}{t:zb}{a:PSt}(hi:i<1500)(hn:Eo a.2 t=false)(hB:ParB i a):zX (X:=Int×List (List zg)×List zg×List zb) (R:=LO (Int×List (List zg)×List zg×List zb) (List (List zg)×List zg×List zb) (List zg×Int))
  (ze (Wm t.kind) fun y6=>
   bif y6 != 0 then
    bif ((parO a).length:Int)==16 then
     some (LX.ret (LO.ret ([],20)))
    else
     need (zQ ((parL a).length+1) 1 24)<|
     need (zQ (parO a).length 1 56)<|
     some (LX.out ((i:Int),parL a++[a.1],[],parO a++[t]))
   else
    both (
      need (decide (0<=((parO a).length:Int))&&decide (((parO a).length:Int)<(((parL a).length+1:Nat):Int)))<|
      need (Nat.beq (parO a).length (parL a).length)<|
      need (zQ a.1.length 1 80)<|
      need (decide (0<=((parO a).length:Int))&&decide (((parO a).length:Int)<(((parL a).length+1:Nat):Int)))<|
      need (Nat.beq (parO a).length (parL a).length)<|
      some (LX.out ((i:Int),parL a,a.1++[(⟨t,[]⟩:zg)],parO a))) (
      need (decide (0<=((parO a).length:Int))&&decide (((parO a).length:Int)<(((parL a).length+1:Nat):Int)))<|
      need (Nat.beq (parO a).length (parL a).length)<|
      need (zQ a.1.length 1 80)<|
      need (decide (0<=((parO a).length:Int))&&decide (((parO a).length:Int)<(((parL a).length+1:Nat):Int)))<|
      need (Nat.beq (parO a).length (parL a).length)<|
      need (decide (0<=(a.1.length:Int))&&decide ((a.1.length:Int)<((a.1++[(⟨(⟨0,[],0,[],false⟩:zb),[]⟩:zg)]).length:Int)))<|
      ze (a.1++[(⟨(⟨0,[],0,[],false⟩:zb),[]⟩:zg)])[a.1.length]? fun y7=>
      some (LX.out ((i:Int),parL a,List.set (a.1++[(⟨(⟨0,[],0,[],false⟩:zb),[]⟩:zg)]) a.1.length (⟨t,[]⟩:zg),parO a))))
  (fun j8=>some (LO.again (w64 (j8.1+1),j8.2.1,j8.2.2.1,j8.2.2.2)))=(parG t a).map fun
   | .again a'=> .again (((i+1:Nat):Int),parL a',a'.1,parO a')
   | .out x=> .out x
   | .ret r=> .ret r:=by
 obtain⟨b1,b2,b3⟩:=hB;have hO:=Fu a;have hL:=rV a;have wi:w64 ((i:Int)+1)=((i+1:Nat):Int):=oo (n:=i+1) (by omega);rw[fG];simp only[ze,Aa];unfold parG Q9;rw[hn];by_cases h0:zw t.kind=0
 ·have c6:(decide ((0:Int)<=((parO a).length:Int))&&decide (((parO a).length:Int)<(((parL a).length+1:Nat):Int)))=true:=by rw[hO,hL];simp;omega
  have c7:Nat.beq (parO a).length (parL a).length=true:=by rw[hO,hL];simp
  have ap:zQ a.1.length 1 80=true:=Oj (by omega);have c8: ∀z:zg,(decide ((0:Int)<=(a.1.length:Int))&&decide ((a.1.length:Int)<((a.1++[z]).length:Int)))=true:=fun z=>by simp;omega
  have z1: ∀z:zg,(a.1++[z])[a.1.length]? =some z:=fun z=>by simp
  have z2: ∀z y:zg,List.set (a.1++[z]) a.1.length y=a.1++[y]:=fun z y=>by simp
  simp only[h0,bne_self_eq_false,Ba,c6,c7,c8,ap,Zd,z1,z2,Aa,GM,zh,wi,ne_eq,not_true_eq_false,Ed,Ob];rfl
 ·have hb:(zw t.kind != 0)=true:=by simpa using h0
  simp only[hb,Ca,Ob,Ed,ne_eq,h0,not_false_eq_true,Jd];by_cases h16:a.2.length=16
  ·have:(((parO a).length:Int)==16)=true:=by rw[hO,h16];rfl
   rw[this,Ka h16];rfl
  ·have:(((parO a).length:Int)==16)=false:=by rw[hO];exact Ga.2 (by omega)
   rw[this,Ja h16];have a1:zQ ((parL a).length+1) 1 24=true:=Oj (by rw[hL];omega);have a2:zQ (parO a).length 1 56=true:=Oj (by rw[hO];omega);simp only[Ba,a1,a2,Zd,zh,wi];have e1:parL ([],(t,a.1)::a.2)=parL a++[a.1]:=by simp[parL]
   have e2:parO ([],(t,a.1)::a.2)=parO a++[t]:=by simp[parO]
   show _=some (LO.again (((i+1:Nat):Int),parL ([],(t,a.1)::a.2),([]:List zg),parO ([],(t,a.1)::a.2)));rw[e1,e2]
theorem mX(x:List zb):dw x=parseF x:=by
 unfold dw parseF parS;by_cases hx:1500<x.length
 ·rw[Ka hx,show decide ((x.length:Int)>1500)=true from Fa (by omega)];rfl
 rw[Ja hx,show decide ((x.length:Int)>1500)=false from Ua (by omega),Ba];have hov:Yg parG gB x ([],[])=some (match Bg x ([],[])with
  |none=> .ret ([],20)
  |some a'=> .out (parL a',a'.1,parO a')):=by rw[BL];cases Bg x ([],[])<;>rfl
 refine(Wp (A:=PSt) x (fun i a=>((i:Int),parL a,a.1,parO a)) parG gB (fun i a=>i<=x.length/\ParB i a) (a:=([],[])) rfl ⟨Ub _,Ub _,Ub _,fun p hp=>by cases hp⟩ ?_ ?_ hov).trans ?_
 ·intro i a hi ⟨_,hB⟩;refine⟨?_,fun a' ha=>⟨hi,vL (t:=x[i]) hB (by
   unfold parG at ha;cases h:Q9 a x[i]with
   |none=>rw[h]at ha;cases ha
   |some a2=>rw[h]at ha;cases ha;rfl)⟩⟩
  have c0:decide ((i:Int)<(x.length:Int))=true:=Fa (by omega);have hb:=hB;obtain⟨b1,b2,b3⟩:=hb;have els:=fun(hn:Eo a.2 x[i]=false)=>pV (i:=i) (n:=0) (t:=x[i]) (a:=a) (by omega) hn hB;simp only[c0,Ca,Z8 hi,ze,Aa]at els ⊢;obtain⟨cur,_|⟨⟨o,out⟩,st⟩⟩:=a
  ·have e0:decide (((parO (cur,([]:List (zb×List zg)))).length:Int)>0)=false:=rfl;simp only[e0,ma,ae,Zd,Zb,Aa,Ba];simp only[fG,Aa]at els ⊢;refine Eq.trans ?_ ((els rfl).trans ?_)
   ·rfl
   ·rcases parG x[i] (cur,[])with _|(_|_|_)<;>rfl
  ·have hlen:(parO (cur,(o,out)::st)).length=st.length+1:=by rw[Fu];rfl
   have hst:st.length+1<=16:=b1;have e0:decide (((parO (cur,(o,out)::st)).length:Int)>0)=true:=Fa (by rw[hlen];omega);have w1:w64 (((parO (cur,(o,out)::st)).length:Int) - 1)=(st.length:Int):=by rw[show((parO (cur,(o,out)::st)).length:Int) - 1=(st.length:Int) by rw[hlen];omega];exact oo (by omega)
   have c1:(decide ((0:Int)<=(st.length:Int))&&decide ((st.length:Int)<((parO (cur,(o,out)::st)).length:Int)))=true:=by rw[hlen];simp;omega
   have g1:(parO (cur,(o,out)::st))[st.length]? =some o:=by
    have:parO (cur,(o,out)::st)=(st.map (·.1)).reverse++[o]:=by simp[parO]
    rw[this];simp
   simp only[e0,w1,c1,Wd,Zd,zH,Ra,g1,fG,Aa,Ca]at els ⊢;by_cases hs:(x[i].kind==zw o.kind)=true
   ·rw[hs,nI (by omega) (Ic (b3 (o,out) (Vb ..)) (by omega))];have wi:w64 ((i:Int)+1)=((i+1:Nat):Int):=oo (n:=i+1) (by omega);simp only[Ca,Aa,zh,wi];unfold parG Q9;rw[Ka (show Eo ((o,out)::st) x[i]=true from hs)];rfl
   ·have hs:(x[i].kind==zw o.kind)=false:=by simpa using hs
    rw[hs];simp only[Ba];refine Eq.trans ?_ ((els hs).trans ?_)
    ·rfl
    ·rcases parG x[i] (cur,(o,out)::st)with _|(_|_|_)<;>rfl
 ·intro a _;have c0:decide ((x.length:Int)<(x.length:Int))=false:=Ua (by omega);simp only[c0,Ba];rfl
 cases hrun:Bg x ([],[])with
 |none=>rfl
 |some a=>
  have hB:=BK x (b:=0) ⟨Ub _,Ub _,fun p hp=>by cases hp⟩ hrun;rw[Pd]at hB;obtain⟨b1,b2,b3⟩:=hB;simp only[zAh];have hw:w64 ((x.length:Int)+((parO a).length:Int))=((x.length+a.2.length:Nat):Int):=by rw[Fu];exact oo (n:=x.length+a.2.length) (by omega)
  rw[hw];by_cases h2:1500<x.length+a.2.length
  ·rw[Ka h2,show decide (((x.length+a.2.length:Nat):Int)>1500)=true from Fa (by omega)];rfl
  rw[Ja h2,show decide (((x.length+a.2.length:Nat):Int)>1500)=false from Ua (by omega),Ba];rw[Za (x:=(([]:List (List zg)),shutAll a.1 a.2,([]:List zb))) (Zw (fun s=> ∃b:PSt,s=(parL b,b.1,parO b)/\shutAll b.1 b.2=shutAll a.1 a.2/\b.2.length<=16/\ ∀p∈b.2,p.2.length<=1500) (fun s=>s.2.2.length) _ ?_ ⟨a,rfl,rfl,b1,fun p hp=>Ic (b3 p hp) (by omega)⟩)]
  ·rfl
  ·rintro _ ⟨⟨cur,_|⟨⟨o,out⟩,st⟩⟩,rfl,q1,q2,q3⟩
   ·exact .inr (.inl ⟨_,rfl,by rw[<-q1];rfl⟩)
   ·have hlen:(parO (cur,(o,out)::st)).length=st.length+1:=by rw[Fu];rfl
    have hst:st.length+1<=16:=q2;have e0:decide (((parO (cur,(o,out)::st)).length:Int)>0)=true:=Fa (by rw[hlen];omega);refine .inl ⟨_,?_,⟨Vj (cur,(o,out)::st),rfl,q1,by show st.length<=16;omega,fun p hp=>q3 p (Rb _ hp)⟩,?_⟩
    ·simp only[e0,Ca,ze];rw[nI (by omega) (Ic (q3 (o,out) (Vb ..)) (by omega))];rfl
    ·rw[hlen];show(parO (Vj (cur,(o,out)::st))).length<st.length+1;rw[Fu];show st.length<st.length+1;omega
theorem gv_parse:zk Tryz.prog (TK parseF):=by
 have:=WX
 rwa [show dw=parseF from funext mX]at this
end Go.Lv.VT
namespace Go.Lv
theorem xX:zk Proofs.Tryz.prog (⟨16,⟨[.sl 44],[]⟩,[],⟨[.sl 49, .int .i64],[]⟩,0,VT.parseF⟩:Con VT.I):=VT.gv_parse
theorem AY:zk Proofs.Tryz.prog (⟨99,⟨[.str],[]⟩,[],⟨[.str, .int .i64],[]⟩,0,Aj⟩:Con VT.I):=vZ
end Go.Lv
end
