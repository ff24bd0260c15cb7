/- nest.Parse: its text, and its contract. -/
import Derived.Test.YtamhhfdcmkbofaaGreatDoorIp
import Derived.Test.YtamhhfdcmkbofaaGreatDoorLf
import Derived.Test.YtamhhfdcmkbofaaGreatDoorTy
import Derived.Test.YtamhhfdcmkbofaaGreatDoorGa
import Derived.Test.YtamhhfdcmkbofaaGreatDoorSj
import Derived.Test.YtamhhfdcmkbofaaGreatDoorCd
noncomputable section
set_option linter.unusedSimpArgs false
set_option linter.unusedVariables false
namespace Go.Lv.VT
set_option maxRecDepth 100000
open Go.Proofs
def TP:TT:=[(2,ti Tryz.prog 2),(3,ti Tryz.prog 3),(4,ti Tryz.prog 4),(5,ti Tryz.prog 5),(9,ti Tryz.prog 9),(37,ti Tryz.prog 37),(104,ti Tryz.prog 104),(129,ti Tryz.prog 129),(131,ti Tryz.prog 131),(133,ti Tryz.prog 133)]
theorem tokP:TOK Tryz.prog TP []:=Bp (l:=[2,3,4,5,9,37,104,129,131,133]) fun _ h=>by cases h
theorem okP{con:Con I}{S:List (Con I)}(f:Go.Func)(hS: ∀c∈S,zf Tryz.prog c)(fz:List (Nat×List Nat):=[])(pre:List (Nat×List (Nat×Option Nat)):=[])(p:Nat:=0)(cuts:List (Nat×Cut):=[])(joins:List (Nat×Cut):=[])(cls:List (Nat×List Nat):=[])(fl:Option Nat:=none)(exS:StSh:=con.outS)(hf:Tryz.prog.funcs[con.f]? =some f:=by kernel_rfl)(h:chk con (⟨S,fz,pre,p,cuts,joins,cls,fl⟩:Env0 I) f=true:=by kernel_rfl)(he: ∀x,evF2 (⟨S,fz,pre,p,cuts,joins,cls,fl⟩:Env0 I) TP [] f.ntmps (rsl f) (body f) con exS x=con.F x:=by intro x;kernel_rfl):zf Tryz.prog con:=
 okC0 mixed ipOK tokP rfl rfl hS hf h he
def lh(x:Int):Option Int:=
 bif x==2 then
  some 22
 else
  zU (X:=Bool) (
    bif x==19 then
     some (LX.out (x==19))
    else
     bif x==21 then
      some (LX.out (x==21))
     else
      some (LX.out (x==23))) fun j1=>
  bif j1 then
   some (wu8 (x+1))
  else
   some 0
def Nh(x:List zt×List (List ze)×List ze):Option (List zt×List (List ze)×List ze):=
 need (decide (0<=w64 ((x.1.length:Int) - 1))&&decide (w64 ((x.1.length:Int) - 1)<(x.1.length:Int)))<|
 za (x.1[(w64 ((x.1.length:Int) - 1)).toNat]?) fun y1=>
 need (decide (0<=w64 (w64 ((x.1.length:Int) - 1)+1))&&decide (w64 (w64 ((x.1.length:Int) - 1)+1)<((x.2.1.length+1:Nat):Int)))<|
 need (Nat.beq (w64 (w64 ((x.1.length:Int) - 1)+1)).toNat x.2.1.length)<|
 za (List.getLast? x.2.1) fun y2=>
 need (decide (w64 (w64 ((x.1.length:Int) - 1)+1)=(x.2.1.length:Int)))<|
 need (decide (0<=w64 ((x.1.length:Int) - 1))&&decide (w64 ((x.1.length:Int) - 1)<=(x.1.length:Int)))<|
 both (
   need (decide (0<=w64 ((x.1.length:Int) - 1))&&decide (w64 ((x.1.length:Int) - 1)<(((List.dropLast x.2.1).length+1:Nat):Int)))<|
   need (Nat.beq (w64 ((x.1.length:Int) - 1)).toNat (List.dropLast x.2.1).length)<|
   need (zI y2.length 1 80)<|
   need (decide (0<=w64 ((x.1.length:Int) - 1))&&decide (w64 ((x.1.length:Int) - 1)<(((List.dropLast x.2.1).length+1:Nat):Int)))<|
   need (Nat.beq (w64 ((x.1.length:Int) - 1)).toNat (List.dropLast x.2.1).length)<|
   some (List.take (w64 ((x.1.length:Int) - 1)).toNat x.1,List.dropLast x.2.1,y2++[(⟨y1,x.2.2⟩:ze)])) (
   need (decide (0<=w64 ((x.1.length:Int) - 1))&&decide (w64 ((x.1.length:Int) - 1)<(((List.dropLast x.2.1).length+1:Nat):Int)))<|
   need (Nat.beq (w64 ((x.1.length:Int) - 1)).toNat (List.dropLast x.2.1).length)<|
   need (zI y2.length 1 80)<|
   need (decide (0<=w64 ((x.1.length:Int) - 1))&&decide (w64 ((x.1.length:Int) - 1)<(((List.dropLast x.2.1).length+1:Nat):Int)))<|
   need (Nat.beq (w64 ((x.1.length:Int) - 1)).toNat (List.dropLast x.2.1).length)<|
   need (decide (0<=(y2.length:Int))&&decide ((y2.length:Int)<((y2++[(⟨(⟨0,[],0,[],false⟩:zt),[]⟩:ze)]).length:Int)))<|
   za (y2++[(⟨(⟨0,[],0,[],false⟩:zt),[]⟩:ze)])[y2.length]? fun y3=>
   some (List.take (w64 ((x.1.length:Int) - 1)).toNat x.1,List.dropLast x.2.1,List.take y2.length (y2++[(⟨(⟨0,[],0,[],false⟩:zt),[]⟩:ze)])++List.cons (⟨y1,x.2.2⟩:ze) (List.drop (y2.length+1) (y2++[(⟨(⟨0,[],0,[],false⟩:zt),[]⟩:ze)]))))
def Nk(x:List zt):Option (List ze×Int):=
 bif decide ((x.length:Int)>1500)then
  some ([],4)
 else
  Df (fun(s1:Int×List (List ze)×List ze×List zt)=>
    bif decide (s1.1<(x.length:Int))then
     zU (X:=Int×List (List ze)×List ze×List zt) (
       za (geti x s1.1) fun y2=>
       need (decide (0<=w64 ((s1.2.2.2.length:Int) - 1))&&decide (w64 ((s1.2.2.2.length:Int) - 1)<(s1.2.2.2.length:Int))|| !(decide ((s1.2.2.2.length:Int)>0)))<|
       za (zH (decide ((s1.2.2.2.length:Int)>0)) s1.2.2.2[(w64 ((s1.2.2.2.length:Int) - 1)).toNat]? (default:zt)) fun y3=>
       za (zH (decide ((s1.2.2.2.length:Int)>0)) (lh y3.kind) (default:Int)) fun y4=>
       bif bif decide ((s1.2.2.2.length:Int)>0)then y2.kind==y4 else false then
        za (Nh (s1.2.2.2,s1.2.1,s1.2.2.1)) fun y5=>
        some (LX.out (s1.1,y5.2.1,y5.2.2,y5.1))
       else
        za (lh y2.kind) fun y6=>
        bif y6 != 0 then
         bif (s1.2.2.2.length:Int)==16 then
          some (LX.ret (LO.ret ([],20)))
         else
          need (zI (s1.2.1.length+1) 1 24)<|
          need (zI s1.2.2.2.length 1 56)<|
          some (LX.out (s1.1,s1.2.1++[s1.2.2.1],[],s1.2.2.2++[y2]))
        else
         both (
           need (decide (0<=(s1.2.2.2.length:Int))&&decide ((s1.2.2.2.length:Int)<((s1.2.1.length+1:Nat):Int)))<|
           need (Nat.beq s1.2.2.2.length s1.2.1.length)<|
           need (zI s1.2.2.1.length 1 80)<|
           need (decide (0<=(s1.2.2.2.length:Int))&&decide ((s1.2.2.2.length:Int)<((s1.2.1.length+1:Nat):Int)))<|
           need (Nat.beq s1.2.2.2.length s1.2.1.length)<|
           some (LX.out (s1.1,s1.2.1,s1.2.2.1++[(⟨y2,[]⟩:ze)],s1.2.2.2))) (
           need (decide (0<=(s1.2.2.2.length:Int))&&decide ((s1.2.2.2.length:Int)<((s1.2.1.length+1:Nat):Int)))<|
           need (Nat.beq s1.2.2.2.length s1.2.1.length)<|
           need (zI s1.2.2.1.length 1 80)<|
           need (decide (0<=(s1.2.2.2.length:Int))&&decide ((s1.2.2.2.length:Int)<((s1.2.1.length+1:Nat):Int)))<|
           need (Nat.beq s1.2.2.2.length s1.2.1.length)<|
           need (decide (0<=(s1.2.2.1.length:Int))&&decide ((s1.2.2.1.length:Int)<((s1.2.2.1++[(⟨(⟨0,[],0,[],false⟩:zt),[]⟩:ze)]).length:Int)))<|
           za (s1.2.2.1++[(⟨(⟨0,[],0,[],false⟩:zt),[]⟩:ze)])[s1.2.2.1.length]? fun y7=>
           some (LX.out (s1.1,s1.2.1,List.set (s1.2.2.1++[(⟨(⟨0,[],0,[],false⟩:zt),[]⟩:ze)]) s1.2.2.1.length (⟨y2,[]⟩:ze),s1.2.2.2)))) fun j8=>
     some (LO.again (w64 (j8.1+1),j8.2.1,j8.2.2.1,j8.2.2.2))
    else
     some (LO.out (s1.2.1,s1.2.2.1,s1.2.2.2)):Int×List (List ze)×List ze×List zt->Option (LO (Int×List (List ze)×List ze×List zt) (List (List ze)×List ze×List zt) _)) (0,[],[],[]) fun o9=>
  bif decide (w64 ((x.length:Int)+(o9.2.2.length:Int))>1500)then
   some ([],4)
  else
   Df (fun(s10:List (List ze)×List ze×List zt)=>
     bif decide ((s10.2.2.length:Int)>0)then
      za (Nh (s10.2.2,s10.1,s10.2.1)) fun y11=>
      some (LO.again (y11.2.1,y11.2.2,y11.1))
     else
      some (LO.out (s10.1,s10.2.1,s10.2.2)):List (List ze)×List ze×List zt->Option (LO (List (List ze)×List ze×List zt) (List (List ze)×List ze×List zt) _)) (o9.1,o9.2.1,o9.2.2) fun o12=>
   need (decide (0<((o12.1.length+1:Nat):Int)))<|
   need (Nat.beq 0 o12.1.length)<|
   some (o12.2.1,0)
def dM(F:Int->Option Int):Con I:=⟨61,⟨[.int .u8],[]⟩,[],⟨[.int .u8],[]⟩,0,F⟩
def XK(F:List zt×List (List ze)×List ze->Option (List zt×List (List ze)×List ze)):Con I:=⟨60,⟨[.optr 0, .optr 2],[(0, .cells 104 [.own 1]),(1, .sl 129),(2, .cells 131 [.own 3]),(3, .slq 37 133 4),(4, .sl 133)]⟩,[],⟨[],[(0, .cells 104 [.own 5]),(2, .cells 131 [.own 6]),(5, .sl 129),(6, .slq 37 133 7),(7, .sl 133)]⟩,3,F⟩
def Nz(F:List zt->Option (List ze×Int)):Con I:=⟨43,⟨[.sl 129],[]⟩,[],⟨[.sl 133, .int .i64],[]⟩,0,F⟩
theorem WM:zf Tryz.prog (dM lh):=
 okP Tryz.f61 zw (joins:=[(7,⟨[6],⟨[.bool],[]⟩,[0],[],[],0,[],⟨[],[]⟩,[]⟩)])
theorem yJ:zf Tryz.prog (XK Nh):=
 okP Tryz.f60 zw (fz:=[(2,[200003,200006]),(4,[6]),(6,[7])]) (pre:=[(6,[(15,none)])]) (p:=5)
theorem iJ:zf Tryz.prog (Nz Nk):=
 okP Tryz.f43 (memC WM (memC yJ zw)) (fz:=[(3,[200000]),(10,[7]),(12,[8]),(18,[5,100001])]) (cuts:=[(6,⟨[17],⟨[.int .i64],[(1, .cells 131 [.own 1106]),(1106, .slq 37 133 1107),(1107, .sl 133),(2, .cells 104 [.own 1108]),(1108, .sl 129)]⟩,[0,4,5,6,15,16],[],[1,2],0,[],⟨[],[(1, .cells 131 [.own 1106]),(1106, .slq 37 133 1107),(1107, .sl 133),(2, .cells 104 [.own 1108]),(1108, .sl 129)]⟩,[1,2,1106,1107,1108]⟩),(22,⟨[],⟨[],[(1, .cells 131 [.own 1213]),(1213, .slq 37 133 1215),(1215, .sl 133),(2, .cells 104 [.own 1214]),(1214, .sl 129)]⟩,[4,5,6],[],[1,2],3,[],⟨[],[(1, .cells 131 [.own 1213]),(1213, .slq 37 133 1215),(1215, .sl 133),(2, .cells 104 [.own 1214]),(1214, .sl 129)]⟩,[1,2,1213,1214,1215]⟩)]) (joins:=[(19,⟨[17],⟨[.int .i64],[(1, .cells 131 [.own 1210]),(1210, .slq 37 133 1212),(1212, .sl 133),(2, .cells 104 [.own 1211]),(1211, .sl 129)]⟩,[],[],[1,2],0,[],⟨[],[]⟩,[]⟩)])
theorem IA{R:Type}(x:Option R):both x x=x:=Ma rfl
theorem pu(k:Int):lh k=some (Ag k):=by
 unfold lh Ag;by_cases h2:k=2
 ·subst h2;rfl
 by_cases h19:k=19
 ·subst h19;rfl
 by_cases h21:k=21
 ·subst h21;rfl
 by_cases h23:k=23
 ·subst h23;rfl
 have e: ∀n:Int,k≠n->(k==n)=false:=fun n h=>Cc.2 h;simp[e _ h2,e _ h19,e _ h21,e _ h23,h2,h19,h21,h23]
def parL(a:PSt):List (List ze):=(a.2.map (·.2)).reverse
def parO(a:PSt):List zt:=(a.2.map (·.1)).reverse
theorem Uh{n:Nat}(h:n<=100000):w64 (n:Int)=n:=lJ (by omega) (by omega)
theorem Dy{cur out:List ze}{o:zt}{st:List (zt×List ze)}(h1:st.length<=100)(h2:out.length<=100000):Nh (parO (cur,(o,out)::st),parL (cur,(o,out)::st),cur)=some (parO (pg (cur,(o,out)::st)),parL (pg (cur,(o,out)::st)),(pg (cur,(o,out)::st)).1):=by
 have e1:parO (cur,(o,out)::st)=(st.map (·.1)).reverse++[o]:=by simp[parO]
 have e2:parL (cur,(o,out)::st)=(st.map (·.2)).reverse++[out]:=by simp[parL]
 rw[e1,e2];show Nh ((st.map (·.1)).reverse++[o],(st.map (·.2)).reverse++[out],cur)=some ((st.map (·.1)).reverse,(st.map (·.2)).reverse,out++[⟨o,cur⟩]);have l1:((st.map (·.1)).reverse).length=st.length:=by simp
 have l2:((st.map (·.2)).reverse).length=st.length:=by simp
 generalize (st.map (·.1)).reverse=A at*;generalize (st.map (·.2)).reverse=B at*;have w1:w64 (((A++[o]).length:Int) - 1)=(st.length:Int):=by rw[show((A++[o]).length:Int) - 1=(st.length:Int) by simp[l1]];exact Uh (by omega)
 have w2:w64 ((st.length:Int)+1)=((st.length+1:Nat):Int):=Uh (n:=st.length+1) (by omega);have ap:zI out.length 1 80=true:=jl (by omega);unfold Nh;simp only[w1,w2,Fe];have c1:(decide ((0:Int)<=(st.length:Int))&&decide ((st.length:Int)<((A++[o]).length:Int)))=true:=by simp[l1];omega
 have c2:(decide ((0:Int)<=((st.length+1:Nat):Int))&&decide (((st.length+1:Nat):Int)<(((B++[out]).length+1:Nat):Int)))=true:=by simp[l2];omega
 have c3:Nat.beq (st.length+1) (B++[out]).length=true:=by simp[l2]
 have c4:decide (((st.length+1:Nat):Int)=((B++[out]).length:Int))=true:=by simp[l2]
 have c5:(decide ((0:Int)<=(st.length:Int))&&decide ((st.length:Int)<=((A++[o]).length:Int)))=true:=by simp[l1];omega
 have c6:(decide ((0:Int)<=(st.length:Int))&&decide ((st.length:Int)<((B.length+1:Nat):Int)))=true:=by simp[l2];omega
 have c7:Nat.beq st.length B.length=true:=by simp[l2]
 have g1:(A++[o])[st.length]? =some o:=by rw[<-l1];simp
 have t1:(A++[o]).take st.length=A:=by rw[<-l1];simp
 have z1: ∀z:ze,(out++[z])[out.length]? =some z:=fun z=>by simp
 have z2: ∀z:ze,(out++[z]).take out.length=out:=fun z=>by simp
 have z3: ∀z:ze,(out++[z]).drop (out.length+1)=[]:=fun z=>by simp
 have c8: ∀z:ze,(decide ((0:Int)<=(out.length:Int))&&decide ((out.length:Int)<((out++[z]).length:Int)))=true:=fun z=>by simp;omega
 simp only[c1,c2,c3,c4,c5,zgp,g1,za,Sb,List.getLast?_append,List.getLast?_singleton,Option.some_or,List.dropLast_concat,c6,c7,ap,c8,z1,z2,z3,t1,IA]
def ParB(b:Nat)(a:PSt):Prop:=a.2.length<=16/\a.1.length<=b/\ ∀p∈a.2,p.2.length<=b
theorem BA{b:Nat}{a a':PSt}{t:zt}(h:ParB b a)(e:Mf a t=some a'):ParB (b+1) a':=by
 obtain⟨h1,h2,h3⟩:=h;unfold Mf at e;split at e
 ·cases e;obtain⟨cur,st⟩:=a;cases st with
  |nil=>exact⟨h1,Ee h2,fun p hp=>by cases hp⟩
  |cons q st=> obtain⟨o,out⟩:=q;refine⟨by have:((o,out)::st).length<=16:=h1;simp at this;show st.length<=16;omega,?_,fun p hp=>Ee (h3 p (Xa _ hp))⟩;have:=h3 (o,out) (Ta ..);show(out++[(⟨o,cur⟩:ze)]).length<=b+1;simp;omega
 ·split at e
  ·split at e
   ·cases e
   ·rename_i h16;cases e;refine⟨by show a.2.length+1<=16;omega,Yb _,fun p hp=> ?_⟩;rcases Ua.1 hp with rfl|hp
    ·exact Ee h2
    ·exact Ee (h3 p hp)
  ·cases e;exact⟨h1,by show(a.1++[(⟨t,[]⟩:ze)]).length<=b+1;simp;exact h2,fun p hp=>Ee (h3 p hp)⟩
theorem Bj(a:PSt):(parO a).length=a.2.length:=by simp[parO]
theorem lI(a:PSt):(parL a).length=a.2.length:=by simp[parL]
def parG(t:zt)(a:PSt):Option (LO PSt (List (List ze)×List ze×List zt) (List ze×Int)):=match Mf a t with
 |none=>some (.ret ([],20))
 |some a'=>some (.again a')
def yo(a:PSt):Option (LX (List (List ze)×List ze×List zt) (List ze×Int)):=some (.out (parL a,a.1,parO a))
theorem Xy: ∀(l:List zt) (a:PSt),Cf parG yo l a=(match Jf l a with
 |none=>some (.ret ([],20))
 |some a'=>some (.out (parL a',a'.1,parO a')))
 |[],a=>rfl
 |t::r,a=>by
  simp only[Cf,parG,Jf];cases h:Mf a t with
  |none=>rfl
  |some a'=>exact Xy r a'
theorem Wy: ∀(l:List zt) {b:Nat} {a a':PSt},ParB b a->Jf l a=some a'->ParB (b+l.length) a'
 |[],b,a,a',h,e=>by cases e;exact h
 |t::r,b,a,a',h,e=>by
  obtain⟨a1,h1,h2⟩:=Aa.1 (show(Mf a t).bind (Jf r)=some a' from e);have:=Wy r (BA h h1) h2
  rwa [show b+(t::r).length=b+1+r.length by simp;omega]
theorem kI{i n:Nat}{t:zt}{a:PSt}(hi:i<1500)(hn:Sk a.2 t=false)(hB:ParB i a):zU (X:=Int×List (List ze)×List ze×List zt) (R:=LO (Int×List (List ze)×List ze×List zt) (List (List ze)×List ze×List zt) (List ze×Int))
  (za (lh t.kind) fun y6=>
   bif y6 != 0 then
    bif ((parO a).length:Int)==16 then
     some (LX.ret (LO.ret ([],20)))
    else
     need (zI ((parL a).length+1) 1 24)<|
     need (zI (parO a).length 1 56)<|
     some (LX.out ((i:Int),parL a++[a.1],[],parO a++[t]))
   else
    both (
      need (decide (0<=((parO a).length:Int))&&decide (((parO a).length:Int)<(((parL a).length+1:Nat):Int)))<|
      need (Nat.beq (parO a).length (parL a).length)<|
      need (zI a.1.length 1 80)<|
      need (decide (0<=((parO a).length:Int))&&decide (((parO a).length:Int)<(((parL a).length+1:Nat):Int)))<|
      need (Nat.beq (parO a).length (parL a).length)<|
      some (LX.out ((i:Int),parL a,a.1++[(⟨t,[]⟩:ze)],parO a))) (
      need (decide (0<=((parO a).length:Int))&&decide (((parO a).length:Int)<(((parL a).length+1:Nat):Int)))<|
      need (Nat.beq (parO a).length (parL a).length)<|
      need (zI a.1.length 1 80)<|
      need (decide (0<=((parO a).length:Int))&&decide (((parO a).length:Int)<(((parL a).length+1:Nat):Int)))<|
      need (Nat.beq (parO a).length (parL a).length)<|
      need (decide (0<=(a.1.length:Int))&&decide ((a.1.length:Int)<((a.1++[(⟨(⟨0,[],0,[],false⟩:zt),[]⟩:ze)]).length:Int)))<|
      za (a.1++[(⟨(⟨0,[],0,[],false⟩:zt),[]⟩:ze)])[a.1.length]? fun y7=>
      some (LX.out ((i:Int),parL a,List.set (a.1++[(⟨(⟨0,[],0,[],false⟩:zt),[]⟩:ze)]) a.1.length (⟨t,[]⟩:ze),parO a))))
  (fun j8=>some (LO.again (w64 (j8.1+1),j8.2.1,j8.2.2.1,j8.2.2.2)))=(parG t a).map fun
   | .again a'=> .again (((i+1:Nat):Int),parL a',a'.1,parO a')
   | .out x=> .out x
   | .ret r=> .ret r:=by
 obtain⟨b1,b2,b3⟩:=hB;have hO:=Bj a;have hL:=lI a;have wi:w64 ((i:Int)+1)=((i+1:Nat):Int):=Uh (n:=i+1) (by omega);rw[pu];simp only[za,Sb];unfold parG Mf;rw[hn];by_cases h0:Ag t.kind=0
 ·have c6:(decide ((0:Int)<=((parO a).length:Int))&&decide (((parO a).length:Int)<(((parL a).length+1:Nat):Int)))=true:=by rw[hO,hL];simp;omega
  have c7:Nat.beq (parO a).length (parL a).length=true:=by rw[hO,hL];simp
  have ap:zI a.1.length 1 80=true:=jl (by omega);have c8: ∀z:ze,(decide ((0:Int)<=(a.1.length:Int))&&decide ((a.1.length:Int)<((a.1++[z]).length:Int)))=true:=fun z=>by simp;omega
  have z1: ∀z:ze,(a.1++[z])[a.1.length]? =some z:=fun z=>by simp
  have z2: ∀z y:ze,List.set (a.1++[z]) a.1.length y=a.1++[y]:=fun z y=>by simp
  simp only[h0,bne_self_eq_false,jb,c6,c7,c8,ap,zgp,z1,z2,Sb,IA,zmv,wi,ne_eq,not_true_eq_false,if_false,Bool.false_eq_true];rfl
 ·have hb:(Ag t.kind != 0)=true:=by simpa using h0
  simp only[hb,Ic,Bool.false_eq_true,if_false,ne_eq,h0,not_false_eq_true,if_true];by_cases h16:a.2.length=16
  ·have:(((parO a).length:Int)==16)=true:=by rw[hO,h16];rfl
   rw[this,Ma h16];rfl
  ·have:(((parO a).length:Int)==16)=false:=by rw[hO];exact Cc.2 (by omega)
   rw[this,Na h16];have a1:zI ((parL a).length+1) 1 24=true:=jl (by rw[hL];omega);have a2:zI (parO a).length 1 56=true:=jl (by rw[hO];omega);simp only[jb,a1,a2,zgp,zmv,wi];have e1:parL ([],(t,a.1)::a.2)=parL a++[a.1]:=by simp[parL]
   have e2:parO ([],(t,a.1)::a.2)=parO a++[t]:=by simp[parO]
   show _=some (LO.again (((i+1:Nat):Int),parL ([],(t,a.1)::a.2),([]:List ze),parO ([],(t,a.1)::a.2)));rw[e1,e2]
theorem bJ(x:List zt):Nk x=parseF x:=by
 unfold Nk parseF parS;by_cases hx:1500<x.length
 ·rw[Ma hx,show decide ((x.length:Int)>1500)=true from Td (by omega)];rfl
 rw[Na hx,show decide ((x.length:Int)>1500)=false from decide_eq_false (by omega),jb];have hov:Cf parG yo x ([],[])=some (match Jf x ([],[])with
  |none=> .ret ([],20)
  |some a'=> .out (parL a',a'.1,parO a')):=by rw[Xy];cases Jf x ([],[])<;>rfl
 refine(sI (A:=PSt) x (fun i a=>((i:Int),parL a,a.1,parO a)) parG yo (fun i a=>i<=x.length/\ParB i a) (a:=([],[])) rfl ⟨Yb _,Yb _,Yb _,fun p hp=>by cases hp⟩ ?_ ?_ hov).trans ?_
 ·intro i a hi ⟨_,hB⟩;refine⟨?_,fun a' ha=>⟨hi,BA (t:=x[i]) hB (by
   unfold parG at ha;cases h:Mf a x[i]with
   |none=>rw[h]at ha;cases ha
   |some a2=>rw[h]at ha;cases ha;rfl)⟩⟩
  have c0:decide ((i:Int)<(x.length:Int))=true:=Td (by omega);have hb:=hB;obtain⟨b1,b2,b3⟩:=hb;have els:=fun(hn:Sk a.2 x[i]=false)=>kI (i:=i) (n:=0) (t:=x[i]) (a:=a) (by omega) hn hB;simp only[c0,Ic,uG hi,za,Sb]at els ⊢;obtain⟨cur,_|⟨⟨o,out⟩,st⟩⟩:=a
  ·have e0:decide (((parO (cur,([]:List (zt×List ze)))).length:Int)>0)=false:=rfl;simp only[e0,Bool.not_false,Bool.or_true,zgp,zsj,Sb,jb];simp only[pu,Sb]at els ⊢;refine Eq.trans ?_ ((els rfl).trans ?_)
   ·rfl
   ·rcases parG x[i] (cur,[])with _|(_|_|_)<;>rfl
  ·have hlen:(parO (cur,(o,out)::st)).length=st.length+1:=by rw[Bj];rfl
   have hst:st.length+1<=16:=b1;have e0:decide (((parO (cur,(o,out)::st)).length:Int)>0)=true:=Td (by rw[hlen];omega);have w1:w64 (((parO (cur,(o,out)::st)).length:Int) - 1)=(st.length:Int):=by rw[show((parO (cur,(o,out)::st)).length:Int) - 1=(st.length:Int) by rw[hlen];omega];exact Uh (by omega)
   have c1:(decide ((0:Int)<=(st.length:Int))&&decide ((st.length:Int)<((parO (cur,(o,out)::st)).length:Int)))=true:=by rw[hlen];simp;omega
   have g1:(parO (cur,(o,out)::st))[st.length]? =some o:=by
    have:parO (cur,(o,out)::st)=(st.map (·.1)).reverse++[o]:=by simp[parO]
    rw[this];simp
   simp only[e0,w1,c1,Bool.true_or,zgp,ztW,Fe,g1,pu,Sb,Ic]at els ⊢;by_cases hs:(x[i].kind==Ag o.kind)=true
   ·rw[hs,Dy (by omega) (aa (b3 (o,out) (Ta ..)) (by omega))];have wi:w64 ((i:Int)+1)=((i+1:Nat):Int):=Uh (n:=i+1) (by omega);simp only[Ic,Sb,zmv,wi];unfold parG Mf;rw[Ma (show Sk ((o,out)::st) x[i]=true from hs)];rfl
   ·have hs:(x[i].kind==Ag o.kind)=false:=by simpa using hs
    rw[hs];simp only[jb];refine Eq.trans ?_ ((els hs).trans ?_)
    ·rfl
    ·rcases parG x[i] (cur,(o,out)::st)with _|(_|_|_)<;>rfl
 ·intro a _;have c0:decide ((x.length:Int)<(x.length:Int))=false:=decide_eq_false (by omega);simp only[c0,jb];rfl
 cases hrun:Jf x ([],[])with
 |none=>rfl
 |some a=>
  have hB:=Wy x (b:=0) ⟨Yb _,Yb _,fun p hp=>by cases hp⟩ hrun;rw[Ub]at hB;obtain⟨b1,b2,b3⟩:=hB;simp only[zyh];have hw:w64 ((x.length:Int)+((parO a).length:Int))=((x.length+a.2.length:Nat):Int):=by rw[Bj];exact Uh (n:=x.length+a.2.length) (by omega)
  rw[hw];by_cases h2:1500<x.length+a.2.length
  ·rw[Ma h2,show decide (((x.length+a.2.length:Nat):Int)>1500)=true from Td (by omega)];rfl
  rw[Na h2,show decide (((x.length+a.2.length:Nat):Int)>1500)=false from decide_eq_false (by omega),jb];rw[FJ (x:=(([]:List (List ze)),shutAll a.1 a.2,([]:List zt))) (GJ (fun s=> ∃b:PSt,s=(parL b,b.1,parO b)/\shutAll b.1 b.2=shutAll a.1 a.2/\b.2.length<=16/\ ∀p∈b.2,p.2.length<=1500) (fun s=>s.2.2.length) _ ?_ ⟨a,rfl,rfl,b1,fun p hp=>aa (b3 p hp) (by omega)⟩)]
  ·rfl
  ·rintro _ ⟨⟨cur,_|⟨⟨o,out⟩,st⟩⟩,rfl,q1,q2,q3⟩
   ·exact .inr (.inl ⟨_,rfl,by rw[<-q1];rfl⟩)
   ·have hlen:(parO (cur,(o,out)::st)).length=st.length+1:=by rw[Bj];rfl
    have hst:st.length+1<=16:=q2;have e0:decide (((parO (cur,(o,out)::st)).length:Int)>0)=true:=Td (by rw[hlen];omega);refine .inl ⟨_,?_,⟨pg (cur,(o,out)::st),rfl,q1,by show st.length<=16;omega,fun p hp=>q3 p (Xa _ hp)⟩,?_⟩
    ·simp only[e0,Ic,za];rw[Dy (by omega) (aa (q3 (o,out) (Ta ..)) (by omega))];rfl
    ·rw[hlen];show(parO (pg (cur,(o,out)::st))).length<st.length+1;rw[Bj];show st.length<st.length+1;omega
theorem gv_parse:zf Tryz.prog (Nz parseF):=by
 have:=iJ
 rwa [show Nk=parseF from funext bJ]at this
end Go.Lv.VT
namespace Go.Lv
theorem RJ:zf Proofs.Tryz.prog (⟨43,⟨[.sl 129],[]⟩,[],⟨[.sl 133, .int .i64],[]⟩,0,VT.parseF⟩:Con VT.I):=VT.gv_parse
open Go.Proofs Go.RowKit
set_option maxRecDepth 100000
theorem nA(l:List Str):(l.map fun s=>(⟨s.toArray⟩:ByteArray)).map (fun x=>x.data.toList)=l:=by rw[List.map_map];exact(Md fun s _=>by simp).trans (List.map_id l)
theorem DJ:zf Tryz.prog (⟨129,⟨[.sl 9, .str],[]⟩,[],⟨[.str],[]⟩,0,Jg⟩:Con VT.I):=
 Tg VT.ipOK rfl Tryz.func129 rfl rfl fun x y hxy ι w vs W ha=>by
  obtain⟨(l:List Str),(c:Str)⟩:=x;replace hxy:Jg (l,c)=some y:=hxy;unfold Jg at hxy;obtain⟨hq,hy⟩:=Tf hxy;cases hy;rw[Ca]at hq;have q1:List.length l<=1000000:=Va hq.1;have q2:(Lib.join l c).length<=1000000000:=Va hq.2;have h1:=Rf (l:=c) (j:=1) ha rfl;obtain⟨u,hu,_,hr⟩:=ha.2 0 _ rfl;replace hr:RepP (Dom ι w) w (.sl (List.map (fun s:Str=>[PV.str s]) l)) u:=hr;cases hr with
  |sl _ a n cp k b o val hn hc ha' hD hk hv hr'=>
   obtain rfl:=ah ha.1 hu h1;rw[Ia]at hn;rcases Nat.eq_zero_or_pos n with h0|h0
   ·have:l=[]:=Oa (hn.symm.trans h0);subst this;subst h0;refine(Tryz.strings_Join_none a cp _ w).mono ?_;rintro e w' ⟨rfl,rfl⟩;exact⟨_,rfl,Below.refl _ _,Bg _⟩
   ·obtain rfl:=ha' h0;have hk1:k=1:=by
     cases l with
     |nil=>subst hn;cases h0
     |cons s t=>exact(hk [.str s] (La.2 ⟨s,Ta ..,rfl⟩)).symm
    subst hk1;have hcells: ∀(j:Nat) x,(List.map (fun s:Str=>(⟨s.toArray⟩:ByteArray)) l)[j]? =some x->w.cell? ⟨b,o+j,none⟩=some (.string x):=fun j x hj=>by
     rw[Ea]at hj;obtain⟨s,hs,rfl⟩:=Ba.1 hj;have hrow:(List.map (fun s:Str=>[PV.str s]) l)[j]? =some [PV.str s]:=by rw[Ea,hs];rfl
     have e1:=hv j _ 0 _ hrow rfl;rw[iA (hr' j _ 0 _ hrow rfl),Kc]at e1;exact e1
    have hl:(List.map (fun s:Str=>(⟨s.toArray⟩:ByteArray)) l).length=n:=by rw[Ia,hn]
    have hj:=Tryz.strings_Join b o cp _ ⟨c.toArray⟩ w hcells (hD h0).1 (by rw[hl,hn];omega) (by rw[hl];exact hc) (by rw[nA];show(Lib.join l c).length<=_;omega);rw[hl,nA]at hj;refine hj.mono ?_;rintro e w' ⟨rfl,hB⟩;exact⟨_,rfl,hB,Bg _⟩
theorem VJ:zf Proofs.Tryz.prog (⟨91,⟨[.str],[]⟩,[],⟨[.str, .int .i64],[]⟩,0,jk⟩:Con VT.I):=bL
end Go.Lv
end
