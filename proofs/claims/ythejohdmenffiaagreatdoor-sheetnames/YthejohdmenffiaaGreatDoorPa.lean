/- nest.Parse: its text, and its contract. -/
import Derived.Test.YthejohdmenffiaaGreatDoorIp
import Derived.Test.YthejohdmenffiaaGreatDoorLf
import Derived.Test.YthejohdmenffiaaGreatDoorTy
import Derived.Test.YthejohdmenffiaaGreatDoorGa
import Derived.Test.YthejohdmenffiaaGreatDoorCd
noncomputable section
set_option linter.unusedSimpArgs false
set_option linter.unusedVariables false
namespace Go.Lv.VT
set_option maxRecDepth 100000
open Go.Proofs
def TP:TT:=[(2,ti Tryz.prog 2),(3,ti Tryz.prog 3),(4,ti Tryz.prog 4),(5,ti Tryz.prog 5),(9,ti Tryz.prog 9),(31,ti Tryz.prog 31),(91,ti Tryz.prog 91),(128,ti Tryz.prog 128),(130,ti Tryz.prog 130),(132,ti Tryz.prog 132)]
theorem tokP:TOK Tryz.prog TP []:=Ms (l:=[2,3,4,5,9,31,91,128,130,132]) fun _ h=>by cases h
theorem okP{con:Con I}{A:Env0 I}{exS:StSh}(f:Go.Func)(hS: ∀c∈A.S,zx Tryz.prog c)(hf:Tryz.prog.funcs[con.f]? =some f)(h:chk con A f=true)(he: ∀x,evF2 A TP [] f.ntmps (rsl f) (body f) con exS x=con.F x):zx Tryz.prog con:=
 okC0 mixed ipOK tokP rfl rfl hS hf h he
def ng(x:Int):Option Int:=
 bif x==2 then
  some 22
 else
  zW (X:=Bool) (
    bif x==19 then
     some (LX.out (x==19))
    else
     bif x==21 then
      some (LX.out (x==21))
     else
      some (LX.out (x==23))) fun j1=>
  bif j1 then
   some (wu8 (x+1))
  else
   some 0
def ag(x:List zq×List (List ze)×List ze):Option (List zq×List (List ze)×List ze):=
 need (decide (0<=w64 ((x.1.length:Int) - 1))&&decide (w64 ((x.1.length:Int) - 1)<(x.1.length:Int)))<|
 zb (x.1[(w64 ((x.1.length:Int) - 1)).toNat]?) fun y1=>
 need (decide (0<=w64 (w64 ((x.1.length:Int) - 1)+1))&&decide (w64 (w64 ((x.1.length:Int) - 1)+1)<((x.2.1.length+1:Nat):Int)))<|
 need (Nat.beq (w64 (w64 ((x.1.length:Int) - 1)+1)).toNat x.2.1.length)<|
 zb (List.getLast? x.2.1) fun y2=>
 need (decide (w64 (w64 ((x.1.length:Int) - 1)+1)=(x.2.1.length:Int)))<|
 need (decide (0<=w64 ((x.1.length:Int) - 1))&&decide (w64 ((x.1.length:Int) - 1)<=(x.1.length:Int)))<|
 both (
   need (decide (0<=w64 ((x.1.length:Int) - 1))&&decide (w64 ((x.1.length:Int) - 1)<(((List.dropLast x.2.1).length+1:Nat):Int)))<|
   need (Nat.beq (w64 ((x.1.length:Int) - 1)).toNat (List.dropLast x.2.1).length)<|
   need (Zi y2.length 1 80)<|
   need (decide (0<=w64 ((x.1.length:Int) - 1))&&decide (w64 ((x.1.length:Int) - 1)<(((List.dropLast x.2.1).length+1:Nat):Int)))<|
   need (Nat.beq (w64 ((x.1.length:Int) - 1)).toNat (List.dropLast x.2.1).length)<|
   some (List.take (w64 ((x.1.length:Int) - 1)).toNat x.1,List.dropLast x.2.1,y2++[(⟨y1,x.2.2⟩:ze)])) (
   need (decide (0<=w64 ((x.1.length:Int) - 1))&&decide (w64 ((x.1.length:Int) - 1)<(((List.dropLast x.2.1).length+1:Nat):Int)))<|
   need (Nat.beq (w64 ((x.1.length:Int) - 1)).toNat (List.dropLast x.2.1).length)<|
   need (Zi y2.length 1 80)<|
   need (decide (0<=w64 ((x.1.length:Int) - 1))&&decide (w64 ((x.1.length:Int) - 1)<(((List.dropLast x.2.1).length+1:Nat):Int)))<|
   need (Nat.beq (w64 ((x.1.length:Int) - 1)).toNat (List.dropLast x.2.1).length)<|
   need (decide (0<=(y2.length:Int))&&decide ((y2.length:Int)<((y2++[(⟨(⟨0,[],0,[],false⟩:zq),[]⟩:ze)]).length:Int)))<|
   zb (y2++[(⟨(⟨0,[],0,[],false⟩:zq),[]⟩:ze)])[y2.length]? fun y3=>
   some (List.take (w64 ((x.1.length:Int) - 1)).toNat x.1,List.dropLast x.2.1,List.take y2.length (y2++[(⟨(⟨0,[],0,[],false⟩:zq),[]⟩:ze)])++List.cons (⟨y1,x.2.2⟩:ze) (List.drop (y2.length+1) (y2++[(⟨(⟨0,[],0,[],false⟩:zq),[]⟩:ze)]))))
def Xn(x:List zq):Option (List ze×Int):=
 bif decide ((x.length:Int)>1500)then
  some ([],4)
 else
  Zu (fun(s1:Int×List (List ze)×List ze×List zq)=>
    bif decide (s1.1<(x.length:Int))then
     zW (X:=Int×List (List ze)×List ze×List zq) (
       zb (geti x s1.1) fun y2=>
       need (decide (0<=w64 ((s1.2.2.2.length:Int) - 1))&&decide (w64 ((s1.2.2.2.length:Int) - 1)<(s1.2.2.2.length:Int))|| !(decide ((s1.2.2.2.length:Int)>0)))<|
       zb (zC (decide ((s1.2.2.2.length:Int)>0)) s1.2.2.2[(w64 ((s1.2.2.2.length:Int) - 1)).toNat]? (default:zq)) fun y3=>
       zb (zC (decide ((s1.2.2.2.length:Int)>0)) (ng y3.kind) (default:Int)) fun y4=>
       bif bif decide ((s1.2.2.2.length:Int)>0)then y2.kind==y4 else false then
        zb (ag (s1.2.2.2,s1.2.1,s1.2.2.1)) fun y5=>
        some (LX.out (s1.1,y5.2.1,y5.2.2,y5.1))
       else
        zb (ng y2.kind) fun y6=>
        bif y6 != 0 then
         bif (s1.2.2.2.length:Int)==16 then
          some (LX.ret (LO.ret ([],20)))
         else
          need (Zi (s1.2.1.length+1) 1 24)<|
          need (Zi s1.2.2.2.length 1 56)<|
          some (LX.out (s1.1,s1.2.1++[s1.2.2.1],[],s1.2.2.2++[y2]))
        else
         both (
           need (decide (0<=(s1.2.2.2.length:Int))&&decide ((s1.2.2.2.length:Int)<((s1.2.1.length+1:Nat):Int)))<|
           need (Nat.beq s1.2.2.2.length s1.2.1.length)<|
           need (Zi s1.2.2.1.length 1 80)<|
           need (decide (0<=(s1.2.2.2.length:Int))&&decide ((s1.2.2.2.length:Int)<((s1.2.1.length+1:Nat):Int)))<|
           need (Nat.beq s1.2.2.2.length s1.2.1.length)<|
           some (LX.out (s1.1,s1.2.1,s1.2.2.1++[(⟨y2,[]⟩:ze)],s1.2.2.2))) (
           need (decide (0<=(s1.2.2.2.length:Int))&&decide ((s1.2.2.2.length:Int)<((s1.2.1.length+1:Nat):Int)))<|
           need (Nat.beq s1.2.2.2.length s1.2.1.length)<|
           need (Zi s1.2.2.1.length 1 80)<|
           need (decide (0<=(s1.2.2.2.length:Int))&&decide ((s1.2.2.2.length:Int)<((s1.2.1.length+1:Nat):Int)))<|
           need (Nat.beq s1.2.2.2.length s1.2.1.length)<|
           need (decide (0<=(s1.2.2.1.length:Int))&&decide ((s1.2.2.1.length:Int)<((s1.2.2.1++[(⟨(⟨0,[],0,[],false⟩:zq),[]⟩:ze)]).length:Int)))<|
           zb (s1.2.2.1++[(⟨(⟨0,[],0,[],false⟩:zq),[]⟩:ze)])[s1.2.2.1.length]? fun y7=>
           some (LX.out (s1.1,s1.2.1,List.set (s1.2.2.1++[(⟨(⟨0,[],0,[],false⟩:zq),[]⟩:ze)]) s1.2.2.1.length (⟨y2,[]⟩:ze),s1.2.2.2)))) fun j8=>
     some (LO.again (w64 (j8.1+1),j8.2.1,j8.2.2.1,j8.2.2.2))
    else
     some (LO.out (s1.2.1,s1.2.2.1,s1.2.2.2)):Int×List (List ze)×List ze×List zq->Option (LO (Int×List (List ze)×List ze×List zq) (List (List ze)×List ze×List zq) _)) (0,[],[],[]) fun o9=>
  bif decide (w64 ((x.length:Int)+(o9.2.2.length:Int))>1500)then
   some ([],4)
  else
   Zu (fun(s10:List (List ze)×List ze×List zq)=>
     bif decide ((s10.2.2.length:Int)>0)then
      zb (ag (s10.2.2,s10.1,s10.2.1)) fun y11=>
      some (LO.again (y11.2.1,y11.2.2,y11.1))
     else
      some (LO.out (s10.1,s10.2.1,s10.2.2)):List (List ze)×List ze×List zq->Option (LO (List (List ze)×List ze×List zq) (List (List ze)×List ze×List zq) _)) (o9.1,o9.2.1,o9.2.2) fun o12=>
   need (decide (0<((o12.1.length+1:Nat):Int)))<|
   need (Nat.beq 0 o12.1.length)<|
   some (o12.2.1,0)
def nD(F:Int->Option Int):Con I:=⟨76,⟨[.int .u8],[]⟩,[],⟨[.int .u8],[]⟩,0,F⟩
def ED(F:List zq×List (List ze)×List ze->Option (List zq×List (List ze)×List ze)):Con I:=⟨75,⟨[.optr 0, .optr 2],[(0, .cells 91 [.own 1]),(1, .sl 128),(2, .cells 130 [.own 3]),(3, .slq 31 132 4),(4, .sl 132)]⟩,[],⟨[],[(0, .cells 91 [.own 5]),(2, .cells 130 [.own 6]),(5, .sl 128),(6, .slq 31 132 7),(7, .sl 132)]⟩,3,F⟩
def kC(F:List zq->Option (List ze×Int)):Con I:=⟨41,⟨[.sl 128],[]⟩,[],⟨[.sl 132, .int .i64],[]⟩,0,F⟩
theorem vM:zx Tryz.prog (nD ng):=
 okP (A:=⟨[],[],[],0,[],[(7,⟨[6],⟨[.bool],[]⟩,[0],[],[],0,[],⟨[],[]⟩,[]⟩)],[]⟩) (exS:=⟨[.int .u8],[]⟩) Tryz.f76 zI (by kernel_rfl) (by kernel_rfl) fun x=>by kernel_rfl
theorem FM:zx Tryz.prog (ED ag):=
 okP (A:=⟨[],[(2,[200003,200006]),(4,[6]),(6,[7])],[(6,[(15,none)])],5,[],[],[]⟩) (exS:=⟨[],[(0, .cells 91 [.own 5]),(2, .cells 130 [.own 6]),(5, .sl 128),(6, .slq 31 132 7),(7, .sl 132)]⟩) Tryz.f75 zI (by kernel_rfl) (by kernel_rfl) fun x=>by kernel_rfl
theorem bL:zx Tryz.prog (kC Xn):=
 okP (A:=⟨[nD ng,ED ag],[(3,[200000]),(10,[7]),(12,[8]),(18,[5,100001])],[],0,[(6,⟨[17],⟨[.int .i64],[(1, .cells 130 [.own 1106]),(1106, .slq 31 132 1107),(1107, .sl 132),(2, .cells 91 [.own 1108]),(1108, .sl 128)]⟩,[0,4,5,6,15,16],[],[1,2],0,[],⟨[],[(1, .cells 130 [.own 1106]),(1106, .slq 31 132 1107),(1107, .sl 132),(2, .cells 91 [.own 1108]),(1108, .sl 128)]⟩,[1,2,1106,1107,1108]⟩),(22,⟨[],⟨[],[(1, .cells 130 [.own 1213]),(1213, .slq 31 132 1215),(1215, .sl 132),(2, .cells 91 [.own 1214]),(1214, .sl 128)]⟩,[4,5,6],[],[1,2],3,[],⟨[],[(1, .cells 130 [.own 1213]),(1213, .slq 31 132 1215),(1215, .sl 132),(2, .cells 91 [.own 1214]),(1214, .sl 128)]⟩,[1,2,1213,1214,1215]⟩)],[(19,⟨[17],⟨[.int .i64],[(1, .cells 130 [.own 1210]),(1210, .slq 31 132 1212),(1212, .sl 132),(2, .cells 91 [.own 1211]),(1211, .sl 128)]⟩,[],[],[1,2],0,[],⟨[],[]⟩,[]⟩)],[]⟩) (exS:=⟨[.sl 132, .int .i64],[]⟩) Tryz.f41 (memC vM (memC FM zI)) (by kernel_rfl) (by kernel_rfl) fun x=>by kernel_rfl
theorem KD{R:Type}(x:Option R):both x x=x:=Ma rfl
theorem dw(k:Int):ng k=some (Bg k):=by
 unfold ng Bg;by_cases h2:k=2
 ·subst h2;rfl
 by_cases h19:k=19
 ·subst h19;rfl
 by_cases h21:k=21
 ·subst h21;rfl
 by_cases h23:k=23
 ·subst h23;rfl
 have e: ∀n:Int,k≠n->(k==n)=false:=fun n h=>Rb.2 h;simp[e _ h2,e _ h19,e _ h21,e _ h23,h2,h19,h21,h23]
def parL(a:PSt):List (List ze):=(a.2.map (·.2)).reverse
def parO(a:PSt):List zq:=(a.2.map (·.1)).reverse
theorem Ci{n:Nat}(h:n<=100000):w64 (n:Int)=n:=JK (by omega) (by omega)
theorem NB{cur out:List ze}{o:zq}{st:List (zq×List ze)}(h1:st.length<=100)(h2:out.length<=100000):ag (parO (cur,(o,out)::st),parL (cur,(o,out)::st),cur)=some (parO (dh (cur,(o,out)::st)),parL (dh (cur,(o,out)::st)),(dh (cur,(o,out)::st)).1):=by
 have e1:parO (cur,(o,out)::st)=(st.map (·.1)).reverse++[o]:=by simp[parO]
 have e2:parL (cur,(o,out)::st)=(st.map (·.2)).reverse++[out]:=by simp[parL]
 rw[e1,e2];show ag ((st.map (·.1)).reverse++[o],(st.map (·.2)).reverse++[out],cur)=some ((st.map (·.1)).reverse,(st.map (·.2)).reverse,out++[⟨o,cur⟩]);have l1:((st.map (·.1)).reverse).length=st.length:=by simp
 have l2:((st.map (·.2)).reverse).length=st.length:=by simp
 generalize (st.map (·.1)).reverse=A at*;generalize (st.map (·.2)).reverse=B at*;have w1:w64 (((A++[o]).length:Int) - 1)=(st.length:Int):=by rw[show((A++[o]).length:Int) - 1=(st.length:Int) by simp[l1]];exact Ci (by omega)
 have w2:w64 ((st.length:Int)+1)=((st.length+1:Nat):Int):=Ci (n:=st.length+1) (by omega);have ap:Zi out.length 1 80=true:=Lp (by omega);unfold ag;simp only[w1,w2,Int.toNat_natCast];have c1:(decide ((0:Int)<=(st.length:Int))&&decide ((st.length:Int)<((A++[o]).length:Int)))=true:=by simp[l1];omega
 have c2:(decide ((0:Int)<=((st.length+1:Nat):Int))&&decide (((st.length+1:Nat):Int)<(((B++[out]).length+1:Nat):Int)))=true:=by simp[l2];omega
 have c3:Nat.beq (st.length+1) (B++[out]).length=true:=by simp[l2]
 have c4:decide (((st.length+1:Nat):Int)=((B++[out]).length:Int))=true:=by simp[l2]
 have c5:(decide ((0:Int)<=(st.length:Int))&&decide ((st.length:Int)<=((A++[o]).length:Int)))=true:=by simp[l1];omega
 have c6:(decide ((0:Int)<=(st.length:Int))&&decide ((st.length:Int)<((B.length+1:Nat):Int)))=true:=by simp[l2];omega
 have c7:Nat.beq st.length B.length=true:=by simp[l2]
 have g1:(A++[o])[st.length]? =some o:=by rw[<-l1];simp
 have t1:(A++[o]).take st.length=A:=by rw[<-l1];simp
 have z1: ∀z:ze,(out++[z])[out.length]? =some z:=fun z=>by simp
 have z2: ∀z:ze,(out++[z]).take out.length=out:=fun z=>by simp
 have z3: ∀z:ze,(out++[z]).drop (out.length+1)=[]:=fun z=>by simp
 have c8: ∀z:ze,(decide ((0:Int)<=(out.length:Int))&&decide ((out.length:Int)<((out++[z]).length:Int)))=true:=fun z=>by simp;omega
 simp only[c1,c2,c3,c4,c5,ziw,g1,zb,Kb,List.getLast?_append,List.getLast?_singleton,Option.some_or,List.dropLast_concat,c6,c7,ap,c8,z1,z2,z3,t1,KD]
def ParB(b:Nat)(a:PSt):Prop:=a.2.length<=16/\a.1.length<=b/\ ∀p∈a.2,p.2.length<=b
theorem UC{b:Nat}{a a':PSt}{t:zq}(h:ParB b a)(e:Lf a t=some a'):ParB (b+1) a':=by
 obtain⟨h1,h2,h3⟩:=h;unfold Lf at e;split at e
 ·cases e;obtain⟨cur,st⟩:=a;cases st with
  |nil=>exact⟨h1,Vd h2,fun p hp=>by cases hp⟩
  |cons q st=> obtain⟨o,out⟩:=q;refine⟨by have:((o,out)::st).length<=16:=h1;simp at this;show st.length<=16;omega,?_,fun p hp=>Vd (h3 p (Ab _ hp))⟩;have:=h3 (o,out) (jb ..);show(out++[(⟨o,cur⟩:ze)]).length<=b+1;simp;omega
 ·split at e
  ·split at e
   ·cases e
   ·rename_i h16;cases e;refine⟨by show a.2.length+1<=16;omega,ib _,fun p hp=> ?_⟩;rcases Oa.1 hp with rfl|hp
    ·exact Vd h2
    ·exact Vd (h3 p hp)
  ·cases e;exact⟨h1,by show(a.1++[(⟨t,[]⟩:ze)]).length<=b+1;simp;exact h2,fun p hp=>Vd (h3 p hp)⟩
theorem Ck(a:PSt):(parO a).length=a.2.length:=by simp[parO]
theorem AL(a:PSt):(parL a).length=a.2.length:=by simp[parL]
def parG(t:zq)(a:PSt):Option (LO PSt (List (List ze)×List ze×List zq) (List ze×Int)):=match Lf a t with
 |none=>some (.ret ([],20))
 |some a'=>some (.again a')
def Ut(a:PSt):Option (LX (List (List ze)×List ze×List zq) (List ze×Int)):=some (.out (parL a,a.1,parO a))
theorem wB: ∀(l:List zq) (a:PSt),Df parG Ut l a=(match Hf l a with
 |none=>some (.ret ([],20))
 |some a'=>some (.out (parL a',a'.1,parO a')))
 |[],a=>rfl
 |t::r,a=>by
  simp only[Df,parG,Hf];cases h:Lf a t with
  |none=>rfl
  |some a'=>exact wB r a'
theorem vB: ∀(l:List zq) {b:Nat} {a a':PSt},ParB b a->Hf l a=some a'->ParB (b+l.length) a'
 |[],b,a,a',h,e=>by cases e;exact h
 |t::r,b,a,a',h,e=>by
  obtain⟨a1,h1,h2⟩:=Aa.1 (show(Lf a t).bind (Hf r)=some a' from e);have:=vB r (UC h h1) h2
  rwa [show b+(t::r).length=b+1+r.length by simp;omega]
theorem yK{i n:Nat}{t:zq}{a:PSt}(hi:i<1500)(hn:dn a.2 t=false)(hB:ParB i a):zW (X:=Int×List (List ze)×List ze×List zq) (R:=LO (Int×List (List ze)×List ze×List zq) (List (List ze)×List ze×List zq) (List ze×Int))
  (zb (ng t.kind) fun y6=>
   bif y6 != 0 then
    bif ((parO a).length:Int)==16 then
     some (LX.ret (LO.ret ([],20)))
    else
     need (Zi ((parL a).length+1) 1 24)<|
     need (Zi (parO a).length 1 56)<|
     some (LX.out ((i:Int),parL a++[a.1],[],parO a++[t]))
   else
    both (
      need (decide (0<=((parO a).length:Int))&&decide (((parO a).length:Int)<(((parL a).length+1:Nat):Int)))<|
      need (Nat.beq (parO a).length (parL a).length)<|
      need (Zi a.1.length 1 80)<|
      need (decide (0<=((parO a).length:Int))&&decide (((parO a).length:Int)<(((parL a).length+1:Nat):Int)))<|
      need (Nat.beq (parO a).length (parL a).length)<|
      some (LX.out ((i:Int),parL a,a.1++[(⟨t,[]⟩:ze)],parO a))) (
      need (decide (0<=((parO a).length:Int))&&decide (((parO a).length:Int)<(((parL a).length+1:Nat):Int)))<|
      need (Nat.beq (parO a).length (parL a).length)<|
      need (Zi a.1.length 1 80)<|
      need (decide (0<=((parO a).length:Int))&&decide (((parO a).length:Int)<(((parL a).length+1:Nat):Int)))<|
      need (Nat.beq (parO a).length (parL a).length)<|
      need (decide (0<=(a.1.length:Int))&&decide ((a.1.length:Int)<((a.1++[(⟨(⟨0,[],0,[],false⟩:zq),[]⟩:ze)]).length:Int)))<|
      zb (a.1++[(⟨(⟨0,[],0,[],false⟩:zq),[]⟩:ze)])[a.1.length]? fun y7=>
      some (LX.out ((i:Int),parL a,List.set (a.1++[(⟨(⟨0,[],0,[],false⟩:zq),[]⟩:ze)]) a.1.length (⟨t,[]⟩:ze),parO a))))
  (fun j8=>some (LO.again (w64 (j8.1+1),j8.2.1,j8.2.2.1,j8.2.2.2)))=(parG t a).map fun
   | .again a'=> .again (((i+1:Nat):Int),parL a',a'.1,parO a')
   | .out x=> .out x
   | .ret r=> .ret r:=by
 obtain⟨b1,b2,b3⟩:=hB;have hO:=Ck a;have hL:=AL a;have wi:w64 ((i:Int)+1)=((i+1:Nat):Int):=Ci (n:=i+1) (by omega);rw[dw];simp only[zb,Kb];unfold parG Lf;rw[hn];by_cases h0:Bg t.kind=0
 ·have c6:(decide ((0:Int)<=((parO a).length:Int))&&decide (((parO a).length:Int)<(((parL a).length+1:Nat):Int)))=true:=by rw[hO,hL];simp;omega
  have c7:Nat.beq (parO a).length (parL a).length=true:=by rw[hO,hL];simp
  have ap:Zi a.1.length 1 80=true:=Lp (by omega);have c8: ∀z:ze,(decide ((0:Int)<=(a.1.length:Int))&&decide ((a.1.length:Int)<((a.1++[z]).length:Int)))=true:=fun z=>by simp;omega
  have z1: ∀z:ze,(a.1++[z])[a.1.length]? =some z:=fun z=>by simp
  have z2: ∀z y:ze,List.set (a.1++[z]) a.1.length y=a.1++[y]:=fun z y=>by simp
  simp only[h0,bne_self_eq_false,Ob,c6,c7,c8,ap,ziw,z1,z2,Kb,KD,zmL,wi,ne_eq,not_true_eq_false,if_false,Bool.false_eq_true];rfl
 ·have hb:(Bg t.kind != 0)=true:=by simpa using h0
  simp only[hb,Yb,Bool.false_eq_true,if_false,ne_eq,h0,not_false_eq_true,if_true];by_cases h16:a.2.length=16
  ·have:(((parO a).length:Int)==16)=true:=by rw[hO,h16];rfl
   rw[this,Ma h16];rfl
  ·have:(((parO a).length:Int)==16)=false:=by rw[hO];exact Rb.2 (by omega)
   rw[this,La h16];have a1:Zi ((parL a).length+1) 1 24=true:=Lp (by rw[hL];omega);have a2:Zi (parO a).length 1 56=true:=Lp (by rw[hO];omega);simp only[Ob,a1,a2,ziw,zmL,wi];have e1:parL ([],(t,a.1)::a.2)=parL a++[a.1]:=by simp[parL]
   have e2:parO ([],(t,a.1)::a.2)=parO a++[t]:=by simp[parO]
   show _=some (LO.again (((i+1:Nat):Int),parL ([],(t,a.1)::a.2),([]:List ze),parO ([],(t,a.1)::a.2)));rw[e1,e2]
theorem xL(x:List zq):Xn x=parseF x:=by
 unfold Xn parseF parS;by_cases hx:1500<x.length
 ·rw[Ma hx,show decide ((x.length:Int)>1500)=true from Gd (by omega)];rfl
 rw[La hx,show decide ((x.length:Int)>1500)=false from decide_eq_false (by omega),Ob];have hov:Df parG Ut x ([],[])=some (match Hf x ([],[])with
  |none=> .ret ([],20)
  |some a'=> .out (parL a',a'.1,parO a')):=by rw[wB];cases Hf x ([],[])<;>rfl
 refine(YK (A:=PSt) x (fun i a=>((i:Int),parL a,a.1,parO a)) parG Ut (fun i a=>i<=x.length/\ParB i a) (a:=([],[])) rfl ⟨ib _,ib _,ib _,fun p hp=>by cases hp⟩ ?_ ?_ hov).trans ?_
 ·intro i a hi ⟨_,hB⟩;refine⟨?_,fun a' ha=>⟨hi,UC (t:=x[i]) hB (by
   unfold parG at ha;cases h:Lf a x[i]with
   |none=>rw[h]at ha;cases ha
   |some a2=>rw[h]at ha;cases ha;rfl)⟩⟩
  have c0:decide ((i:Int)<(x.length:Int))=true:=Gd (by omega);have hb:=hB;obtain⟨b1,b2,b3⟩:=hb;have els:=fun(hn:dn a.2 x[i]=false)=>yK (i:=i) (n:=0) (t:=x[i]) (a:=a) (by omega) hn hB;simp only[c0,Yb,lJ hi,zb,Kb]at els ⊢;obtain⟨cur,_|⟨⟨o,out⟩,st⟩⟩:=a
  ·have e0:decide (((parO (cur,([]:List (zq×List ze)))).length:Int)>0)=false:=rfl;simp only[e0,Bool.not_false,Bool.or_true,ziw,zqt,Kb,Ob];simp only[dw,Kb]at els ⊢;refine Eq.trans ?_ ((els rfl).trans ?_)
   ·rfl
   ·rcases parG x[i] (cur,[])with _|(_|_|_)<;>rfl
  ·have hlen:(parO (cur,(o,out)::st)).length=st.length+1:=by rw[Ck];rfl
   have hst:st.length+1<=16:=b1;have e0:decide (((parO (cur,(o,out)::st)).length:Int)>0)=true:=Gd (by rw[hlen];omega);have w1:w64 (((parO (cur,(o,out)::st)).length:Int) - 1)=(st.length:Int):=by rw[show((parO (cur,(o,out)::st)).length:Int) - 1=(st.length:Int) by rw[hlen];omega];exact Ci (by omega)
   have c1:(decide ((0:Int)<=(st.length:Int))&&decide ((st.length:Int)<((parO (cur,(o,out)::st)).length:Int)))=true:=by rw[hlen];simp;omega
   have g1:(parO (cur,(o,out)::st))[st.length]? =some o:=by
    have:parO (cur,(o,out)::st)=(st.map (·.1)).reverse++[o]:=by simp[parO]
    rw[this];simp
   simp only[e0,w1,c1,Bool.true_or,ziw,zrE,Int.toNat_natCast,g1,dw,Kb,Yb]at els ⊢;by_cases hs:(x[i].kind==Bg o.kind)=true
   ·rw[hs,NB (by omega) (Ta (b3 (o,out) (jb ..)) (by omega))];have wi:w64 ((i:Int)+1)=((i+1:Nat):Int):=Ci (n:=i+1) (by omega);simp only[Yb,Kb,zmL,wi];unfold parG Lf;rw[Ma (show dn ((o,out)::st) x[i]=true from hs)];rfl
   ·have hs:(x[i].kind==Bg o.kind)=false:=by simpa using hs
    rw[hs];simp only[Ob];refine Eq.trans ?_ ((els hs).trans ?_)
    ·rfl
    ·rcases parG x[i] (cur,(o,out)::st)with _|(_|_|_)<;>rfl
 ·intro a _;have c0:decide ((x.length:Int)<(x.length:Int))=false:=decide_eq_false (by omega);simp only[c0,Ob];rfl
 cases hrun:Hf x ([],[])with
 |none=>rfl
 |some a=>
  have hB:=vB x (b:=0) ⟨ib _,ib _,fun p hp=>by cases hp⟩ hrun;rw[Sb]at hB;obtain⟨b1,b2,b3⟩:=hB;simp only[zvm];have hw:w64 ((x.length:Int)+((parO a).length:Int))=((x.length+a.2.length:Nat):Int):=by rw[Ck];exact Ci (n:=x.length+a.2.length) (by omega)
  rw[hw];by_cases h2:1500<x.length+a.2.length
  ·rw[Ma h2,show decide (((x.length+a.2.length:Nat):Int)>1500)=true from Gd (by omega)];rfl
  rw[La h2,show decide (((x.length+a.2.length:Nat):Int)>1500)=false from decide_eq_false (by omega),Ob];rw[iL (x:=(([]:List (List ze)),shutAll a.1 a.2,([]:List zq))) (jL (fun s=> ∃b:PSt,s=(parL b,b.1,parO b)/\shutAll b.1 b.2=shutAll a.1 a.2/\b.2.length<=16/\ ∀p∈b.2,p.2.length<=1500) (fun s=>s.2.2.length) _ ?_ ⟨a,rfl,rfl,b1,fun p hp=>Ta (b3 p hp) (by omega)⟩)]
  ·rfl
  ·rintro _ ⟨⟨cur,_|⟨⟨o,out⟩,st⟩⟩,rfl,q1,q2,q3⟩
   ·exact .inr (.inl ⟨_,rfl,by rw[<-q1];rfl⟩)
   ·have hlen:(parO (cur,(o,out)::st)).length=st.length+1:=by rw[Ck];rfl
    have hst:st.length+1<=16:=q2;have e0:decide (((parO (cur,(o,out)::st)).length:Int)>0)=true:=Gd (by rw[hlen];omega);refine .inl ⟨_,?_,⟨dh (cur,(o,out)::st),rfl,q1,by show st.length<=16;omega,fun p hp=>q3 p (Ab _ hp)⟩,?_⟩
    ·simp only[e0,Yb,zb];rw[NB (by omega) (Ta (q3 (o,out) (jb ..)) (by omega))];rfl
    ·rw[hlen];show(parO (dh (cur,(o,out)::st))).length<st.length+1;rw[Ck];show st.length<st.length+1;omega
theorem gv_parse:zx Tryz.prog (kC parseF):=by
 have:=bL
 rwa [show Xn=parseF from funext xL]at this
end Go.Lv.VT
namespace Go.Lv
theorem BL:zx Proofs.Tryz.prog (⟨41,⟨[.sl 128],[]⟩,[],⟨[.sl 132, .int .i64],[]⟩,0,VT.parseF⟩:Con VT.I):=VT.gv_parse
theorem DL:zx Proofs.Tryz.prog (⟨130,⟨[.str],[]⟩,[],⟨[.str, .int .i64],[]⟩,0,xh⟩:Con VT.I):=nM
end Go.Lv
end
