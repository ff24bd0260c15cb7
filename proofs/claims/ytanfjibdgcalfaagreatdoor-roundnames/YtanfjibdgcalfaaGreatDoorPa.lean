/- nest.Parse: its text, and its contract. -/
import Derived.Test.YtanfjibdgcalfaaGreatDoorIp
import Derived.Test.YtanfjibdgcalfaaGreatDoorLf
import Derived.Test.YtanfjibdgcalfaaGreatDoorTy
import Derived.Test.YtanfjibdgcalfaaGreatDoorGa
import Derived.Test.YtanfjibdgcalfaaGreatDoorSj
import Derived.Test.YtanfjibdgcalfaaGreatDoorCd
noncomputable section
set_option linter.unusedSimpArgs false
set_option linter.unusedVariables false
namespace Go.Lv.VT
set_option maxRecDepth 100000
open Go.Proofs
def TP:TT:=[(2,ti Tryz.prog 2),(3,ti Tryz.prog 3),(4,ti Tryz.prog 4),(5,ti Tryz.prog 5),(9,ti Tryz.prog 9),(31,ti Tryz.prog 31),(90,ti Tryz.prog 90),(131,ti Tryz.prog 131),(133,ti Tryz.prog 133),(135,ti Tryz.prog 135)]
theorem tokP:TOK Tryz.prog TP []:=Bt (l:=[2,3,4,5,9,31,90,131,133,135]) fun _ h=>by cases h
theorem okP{con:Con I}{A:Env0 I}{exS:StSh}(f:Go.Func)(hS: ∀c∈A.S,zg Tryz.prog c)(hf:Tryz.prog.funcs[con.f]? =some f)(h:chk con A f=true)(he: ∀x,evF2 A TP [] f.ntmps (rsl f) (body f) con exS x=con.F x):zg Tryz.prog con:=
 okC0 mixed ipOK tokP rfl rfl hS hf h he
def Lh(x:Int):Option Int:=
 bif x==2 then
  some 22
 else
  zZ (X:=Bool) (
    bif x==19 then
     some (LX.out (x==19))
    else
     bif x==21 then
      some (LX.out (x==21))
     else
      some (LX.out (x==23))) fun j1=>
  bif j1 then
   some (wu8 (x+1))
  else
   some 0
def Eh(x:List zt×List (List ze)×List ze):Option (List zt×List (List ze)×List ze):=
 need (decide (0<=w64 ((x.1.length:Int) - 1))&&decide (w64 ((x.1.length:Int) - 1)<(x.1.length:Int)))<|
 za (x.1[(w64 ((x.1.length:Int) - 1)).toNat]?) fun y1=>
 need (decide (0<=w64 (w64 ((x.1.length:Int) - 1)+1))&&decide (w64 (w64 ((x.1.length:Int) - 1)+1)<((x.2.1.length+1:Nat):Int)))<|
 need (Nat.beq (w64 (w64 ((x.1.length:Int) - 1)+1)).toNat x.2.1.length)<|
 za (List.getLast? x.2.1) fun y2=>
 need (decide (w64 (w64 ((x.1.length:Int) - 1)+1)=(x.2.1.length:Int)))<|
 need (decide (0<=w64 ((x.1.length:Int) - 1))&&decide (w64 ((x.1.length:Int) - 1)<=(x.1.length:Int)))<|
 both (
   need (decide (0<=w64 ((x.1.length:Int) - 1))&&decide (w64 ((x.1.length:Int) - 1)<(((List.dropLast x.2.1).length+1:Nat):Int)))<|
   need (Nat.beq (w64 ((x.1.length:Int) - 1)).toNat (List.dropLast x.2.1).length)<|
   need (zL y2.length 1 80)<|
   need (decide (0<=w64 ((x.1.length:Int) - 1))&&decide (w64 ((x.1.length:Int) - 1)<(((List.dropLast x.2.1).length+1:Nat):Int)))<|
   need (Nat.beq (w64 ((x.1.length:Int) - 1)).toNat (List.dropLast x.2.1).length)<|
   some (List.take (w64 ((x.1.length:Int) - 1)).toNat x.1,List.dropLast x.2.1,y2++[(⟨y1,x.2.2⟩:ze)])) (
   need (decide (0<=w64 ((x.1.length:Int) - 1))&&decide (w64 ((x.1.length:Int) - 1)<(((List.dropLast x.2.1).length+1:Nat):Int)))<|
   need (Nat.beq (w64 ((x.1.length:Int) - 1)).toNat (List.dropLast x.2.1).length)<|
   need (zL y2.length 1 80)<|
   need (decide (0<=w64 ((x.1.length:Int) - 1))&&decide (w64 ((x.1.length:Int) - 1)<(((List.dropLast x.2.1).length+1:Nat):Int)))<|
   need (Nat.beq (w64 ((x.1.length:Int) - 1)).toNat (List.dropLast x.2.1).length)<|
   need (decide (0<=(y2.length:Int))&&decide ((y2.length:Int)<((y2++[(⟨(⟨0,[],0,[],false⟩:zt),[]⟩:ze)]).length:Int)))<|
   za (y2++[(⟨(⟨0,[],0,[],false⟩:zt),[]⟩:ze)])[y2.length]? fun y3=>
   some (List.take (w64 ((x.1.length:Int) - 1)).toNat x.1,List.dropLast x.2.1,List.take y2.length (y2++[(⟨(⟨0,[],0,[],false⟩:zt),[]⟩:ze)])++List.cons (⟨y1,x.2.2⟩:ze) (List.drop (y2.length+1) (y2++[(⟨(⟨0,[],0,[],false⟩:zt),[]⟩:ze)]))))
def Ao(x:List zt):Option (List ze×Int):=
 bif decide ((x.length:Int)>1500)then
  some ([],4)
 else
  Vf (fun(s1:Int×List (List ze)×List ze×List zt)=>
    bif decide (s1.1<(x.length:Int))then
     zZ (X:=Int×List (List ze)×List ze×List zt) (
       za (geti x s1.1) fun y2=>
       need (decide (0<=w64 ((s1.2.2.2.length:Int) - 1))&&decide (w64 ((s1.2.2.2.length:Int) - 1)<(s1.2.2.2.length:Int))|| !(decide ((s1.2.2.2.length:Int)>0)))<|
       za (zU (decide ((s1.2.2.2.length:Int)>0)) s1.2.2.2[(w64 ((s1.2.2.2.length:Int) - 1)).toNat]? (default:zt)) fun y3=>
       za (zU (decide ((s1.2.2.2.length:Int)>0)) (Lh y3.kind) (default:Int)) fun y4=>
       bif bif decide ((s1.2.2.2.length:Int)>0)then y2.kind==y4 else false then
        za (Eh (s1.2.2.2,s1.2.1,s1.2.2.1)) fun y5=>
        some (LX.out (s1.1,y5.2.1,y5.2.2,y5.1))
       else
        za (Lh y2.kind) fun y6=>
        bif y6 != 0 then
         bif (s1.2.2.2.length:Int)==16 then
          some (LX.ret (LO.ret ([],20)))
         else
          need (zL (s1.2.1.length+1) 1 24)<|
          need (zL s1.2.2.2.length 1 56)<|
          some (LX.out (s1.1,s1.2.1++[s1.2.2.1],[],s1.2.2.2++[y2]))
        else
         both (
           need (decide (0<=(s1.2.2.2.length:Int))&&decide ((s1.2.2.2.length:Int)<((s1.2.1.length+1:Nat):Int)))<|
           need (Nat.beq s1.2.2.2.length s1.2.1.length)<|
           need (zL s1.2.2.1.length 1 80)<|
           need (decide (0<=(s1.2.2.2.length:Int))&&decide ((s1.2.2.2.length:Int)<((s1.2.1.length+1:Nat):Int)))<|
           need (Nat.beq s1.2.2.2.length s1.2.1.length)<|
           some (LX.out (s1.1,s1.2.1,s1.2.2.1++[(⟨y2,[]⟩:ze)],s1.2.2.2))) (
           need (decide (0<=(s1.2.2.2.length:Int))&&decide ((s1.2.2.2.length:Int)<((s1.2.1.length+1:Nat):Int)))<|
           need (Nat.beq s1.2.2.2.length s1.2.1.length)<|
           need (zL s1.2.2.1.length 1 80)<|
           need (decide (0<=(s1.2.2.2.length:Int))&&decide ((s1.2.2.2.length:Int)<((s1.2.1.length+1:Nat):Int)))<|
           need (Nat.beq s1.2.2.2.length s1.2.1.length)<|
           need (decide (0<=(s1.2.2.1.length:Int))&&decide ((s1.2.2.1.length:Int)<((s1.2.2.1++[(⟨(⟨0,[],0,[],false⟩:zt),[]⟩:ze)]).length:Int)))<|
           za (s1.2.2.1++[(⟨(⟨0,[],0,[],false⟩:zt),[]⟩:ze)])[s1.2.2.1.length]? fun y7=>
           some (LX.out (s1.1,s1.2.1,List.set (s1.2.2.1++[(⟨(⟨0,[],0,[],false⟩:zt),[]⟩:ze)]) s1.2.2.1.length (⟨y2,[]⟩:ze),s1.2.2.2)))) fun j8=>
     some (LO.again (w64 (j8.1+1),j8.2.1,j8.2.2.1,j8.2.2.2))
    else
     some (LO.out (s1.2.1,s1.2.2.1,s1.2.2.2)):Int×List (List ze)×List ze×List zt->Option (LO (Int×List (List ze)×List ze×List zt) (List (List ze)×List ze×List zt) _)) (0,[],[],[]) fun o9=>
  bif decide (w64 ((x.length:Int)+(o9.2.2.length:Int))>1500)then
   some ([],4)
  else
   Vf (fun(s10:List (List ze)×List ze×List zt)=>
     bif decide ((s10.2.2.length:Int)>0)then
      za (Eh (s10.2.2,s10.1,s10.2.1)) fun y11=>
      some (LO.again (y11.2.1,y11.2.2,y11.1))
     else
      some (LO.out (s10.1,s10.2.1,s10.2.2)):List (List ze)×List ze×List zt->Option (LO (List (List ze)×List ze×List zt) (List (List ze)×List ze×List zt) _)) (o9.1,o9.2.1,o9.2.2) fun o12=>
   need (decide (0<((o12.1.length+1:Nat):Int)))<|
   need (Nat.beq 0 o12.1.length)<|
   some (o12.2.1,0)
def VF(F:Int->Option Int):Con I:=⟨74,⟨[.int .u8],[]⟩,[],⟨[.int .u8],[]⟩,0,F⟩
def XE(F:List zt×List (List ze)×List ze->Option (List zt×List (List ze)×List ze)):Con I:=⟨73,⟨[.optr 0, .optr 2],[(0, .cells 90 [.own 1]),(1, .sl 131),(2, .cells 133 [.own 3]),(3, .slq 31 135 4),(4, .sl 135)]⟩,[],⟨[],[(0, .cells 90 [.own 5]),(2, .cells 133 [.own 6]),(5, .sl 131),(6, .slq 31 135 7),(7, .sl 135)]⟩,3,F⟩
def OD(F:List zt->Option (List ze×Int)):Con I:=⟨39,⟨[.sl 131],[]⟩,[],⟨[.sl 135, .int .i64],[]⟩,0,F⟩
theorem JP:zg Tryz.prog (VF Lh):=
 okP (A:=⟨[],[],[],0,[],[(7,⟨[6],⟨[.bool],[]⟩,[0],[],[],0,[],⟨[],[]⟩,[]⟩)],[],none⟩) (exS:=⟨[.int .u8],[]⟩) Tryz.f74 zw (by kernel_rfl) (by kernel_rfl) fun x=>by kernel_rfl
theorem nN:zg Tryz.prog (XE Eh):=
 okP (A:=⟨[],[(2,[200003,200006]),(4,[6]),(6,[7])],[(6,[(15,none)])],5,[],[],[],none⟩) (exS:=⟨[],[(0, .cells 90 [.own 5]),(2, .cells 133 [.own 6]),(5, .sl 131),(6, .slq 31 135 7),(7, .sl 135)]⟩) Tryz.f73 zw (by kernel_rfl) (by kernel_rfl) fun x=>by kernel_rfl
theorem nM:zg Tryz.prog (OD Ao):=
 okP (A:=⟨[VF Lh,XE Eh],[(3,[200000]),(10,[7]),(12,[8]),(18,[5,100001])],[],0,[(6,⟨[17],⟨[.int .i64],[(1, .cells 133 [.own 1106]),(1106, .slq 31 135 1107),(1107, .sl 135),(2, .cells 90 [.own 1108]),(1108, .sl 131)]⟩,[0,4,5,6,15,16],[],[1,2],0,[],⟨[],[(1, .cells 133 [.own 1106]),(1106, .slq 31 135 1107),(1107, .sl 135),(2, .cells 90 [.own 1108]),(1108, .sl 131)]⟩,[1,2,1106,1107,1108]⟩),(22,⟨[],⟨[],[(1, .cells 133 [.own 1213]),(1213, .slq 31 135 1215),(1215, .sl 135),(2, .cells 90 [.own 1214]),(1214, .sl 131)]⟩,[4,5,6],[],[1,2],3,[],⟨[],[(1, .cells 133 [.own 1213]),(1213, .slq 31 135 1215),(1215, .sl 135),(2, .cells 90 [.own 1214]),(1214, .sl 131)]⟩,[1,2,1213,1214,1215]⟩)],[(19,⟨[17],⟨[.int .i64],[(1, .cells 133 [.own 1210]),(1210, .slq 31 135 1212),(1212, .sl 135),(2, .cells 90 [.own 1211]),(1211, .sl 131)]⟩,[],[],[1,2],0,[],⟨[],[]⟩,[]⟩)],[],none⟩) (exS:=⟨[.sl 135, .int .i64],[]⟩) Tryz.f39 (memC JP (memC nN zw)) (by kernel_rfl) (by kernel_rfl) fun x=>by kernel_rfl
theorem CE{R:Type}(x:Option R):both x x=x:=Ma rfl
theorem Fx(k:Int):Lh k=some (bg k):=by
 unfold Lh bg;by_cases h2:k=2
 ·subst h2;rfl
 by_cases h19:k=19
 ·subst h19;rfl
 by_cases h21:k=21
 ·subst h21;rfl
 by_cases h23:k=23
 ·subst h23;rfl
 have e: ∀n:Int,k≠n->(k==n)=false:=fun n h=>Dc.2 h;simp[e _ h2,e _ h19,e _ h21,e _ h23,h2,h19,h21,h23]
def parL(a:PSt):List (List ze):=(a.2.map (·.2)).reverse
def parO(a:PSt):List zt:=(a.2.map (·.1)).reverse
theorem Ni{n:Nat}(h:n<=100000):w64 (n:Int)=n:=XN (by omega) (by omega)
theorem aC{cur out:List ze}{o:zt}{st:List (zt×List ze)}(h1:st.length<=100)(h2:out.length<=100000):Eh (parO (cur,(o,out)::st),parL (cur,(o,out)::st),cur)=some (parO (lh (cur,(o,out)::st)),parL (lh (cur,(o,out)::st)),(lh (cur,(o,out)::st)).1):=by
 have e1:parO (cur,(o,out)::st)=(st.map (·.1)).reverse++[o]:=by simp[parO]
 have e2:parL (cur,(o,out)::st)=(st.map (·.2)).reverse++[out]:=by simp[parL]
 rw[e1,e2];show Eh ((st.map (·.1)).reverse++[o],(st.map (·.2)).reverse++[out],cur)=some ((st.map (·.1)).reverse,(st.map (·.2)).reverse,out++[⟨o,cur⟩]);have l1:((st.map (·.1)).reverse).length=st.length:=by simp
 have l2:((st.map (·.2)).reverse).length=st.length:=by simp
 generalize (st.map (·.1)).reverse=A at*;generalize (st.map (·.2)).reverse=B at*;have w1:w64 (((A++[o]).length:Int) - 1)=(st.length:Int):=by rw[show((A++[o]).length:Int) - 1=(st.length:Int) by simp[l1]];exact Ni (by omega)
 have w2:w64 ((st.length:Int)+1)=((st.length+1:Nat):Int):=Ni (n:=st.length+1) (by omega);have ap:zL out.length 1 80=true:=wo (by omega);unfold Eh;simp only[w1,w2,Ee];have c1:(decide ((0:Int)<=(st.length:Int))&&decide ((st.length:Int)<((A++[o]).length:Int)))=true:=by simp[l1];omega
 have c2:(decide ((0:Int)<=((st.length+1:Nat):Int))&&decide (((st.length+1:Nat):Int)<(((B++[out]).length+1:Nat):Int)))=true:=by simp[l2];omega
 have c3:Nat.beq (st.length+1) (B++[out]).length=true:=by simp[l2]
 have c4:decide (((st.length+1:Nat):Int)=((B++[out]).length:Int))=true:=by simp[l2]
 have c5:(decide ((0:Int)<=(st.length:Int))&&decide ((st.length:Int)<=((A++[o]).length:Int)))=true:=by simp[l1];omega
 have c6:(decide ((0:Int)<=(st.length:Int))&&decide ((st.length:Int)<((B.length+1:Nat):Int)))=true:=by simp[l2];omega
 have c7:Nat.beq st.length B.length=true:=by simp[l2]
 have g1:(A++[o])[st.length]? =some o:=by rw[<-l1];simp
 have t1:(A++[o]).take st.length=A:=by rw[<-l1];simp
 have z1: ∀z:ze,(out++[z])[out.length]? =some z:=fun z=>by simp
 have z2: ∀z:ze,(out++[z]).take out.length=out:=fun z=>by simp
 have z3: ∀z:ze,(out++[z]).drop (out.length+1)=[]:=fun z=>by simp
 have c8: ∀z:ze,(decide ((0:Int)<=(out.length:Int))&&decide ((out.length:Int)<((out++[z]).length:Int)))=true:=fun z=>by simp;omega
 simp only[c1,c2,c3,c4,c5,zh6,g1,za,Vb,List.getLast?_append,List.getLast?_singleton,Option.some_or,List.dropLast_concat,c6,c7,ap,c8,z1,z2,z3,t1,CE]
def ParB(b:Nat)(a:PSt):Prop:=a.2.length<=16/\a.1.length<=b/\ ∀p∈a.2,p.2.length<=b
theorem sD{b:Nat}{a a':PSt}{t:zt}(h:ParB b a)(e:Bg a t=some a'):ParB (b+1) a':=by
 obtain⟨h1,h2,h3⟩:=h;unfold Bg at e;split at e
 ·cases e;obtain⟨cur,st⟩:=a;cases st with
  |nil=>exact⟨h1,De h2,fun p hp=>by cases hp⟩
  |cons q st=> obtain⟨o,out⟩:=q;refine⟨by have:((o,out)::st).length<=16:=h1;simp at this;show st.length<=16;omega,?_,fun p hp=>De (h3 p (Xa _ hp))⟩;have:=h3 (o,out) (Ta ..);show(out++[(⟨o,cur⟩:ze)]).length<=b+1;simp;omega
 ·split at e
  ·split at e
   ·cases e
   ·rename_i h16;cases e;refine⟨by show a.2.length+1<=16;omega,ib _,fun p hp=> ?_⟩;rcases Ua.1 hp with rfl|hp
    ·exact De h2
    ·exact De (h3 p hp)
  ·cases e;exact⟨h1,by show(a.1++[(⟨t,[]⟩:ze)]).length<=b+1;simp;exact h2,fun p hp=>De (h3 p hp)⟩
theorem Nk(a:PSt):(parO a).length=a.2.length:=by simp[parO]
theorem XM(a:PSt):(parL a).length=a.2.length:=by simp[parL]
def parG(t:zt)(a:PSt):Option (LO PSt (List (List ze)×List ze×List zt) (List ze×Int)):=match Bg a t with
 |none=>some (.ret ([],20))
 |some a'=>some (.again a')
def Ws(a:PSt):Option (LX (List (List ze)×List ze×List zt) (List ze×Int)):=some (.out (parL a,a.1,parO a))
theorem jD: ∀(l:List zt) (a:PSt),Uf parG Ws l a=(match mf l a with
 |none=>some (.ret ([],20))
 |some a'=>some (.out (parL a',a'.1,parO a')))
 |[],a=>rfl
 |t::r,a=>by
  simp only[Uf,parG,mf];cases h:Bg a t with
  |none=>rfl
  |some a'=>exact jD r a'
theorem iD: ∀(l:List zt) {b:Nat} {a a':PSt},ParB b a->mf l a=some a'->ParB (b+l.length) a'
 |[],b,a,a',h,e=>by cases e;exact h
 |t::r,b,a,a',h,e=>by
  obtain⟨a1,h1,h2⟩:=Aa.1 (show(Bg a t).bind (mf r)=some a' from e);have:=iD r (sD h h1) h2
  rwa [show b+(t::r).length=b+1+r.length by simp;omega]
theorem WM{i n:Nat}{t:zt}{a:PSt}(hi:i<1500)(hn:Tn a.2 t=false)(hB:ParB i a):zZ (X:=Int×List (List ze)×List ze×List zt) (R:=LO (Int×List (List ze)×List ze×List zt) (List (List ze)×List ze×List zt) (List ze×Int))
  (za (Lh t.kind) fun y6=>
   bif y6 != 0 then
    bif ((parO a).length:Int)==16 then
     some (LX.ret (LO.ret ([],20)))
    else
     need (zL ((parL a).length+1) 1 24)<|
     need (zL (parO a).length 1 56)<|
     some (LX.out ((i:Int),parL a++[a.1],[],parO a++[t]))
   else
    both (
      need (decide (0<=((parO a).length:Int))&&decide (((parO a).length:Int)<(((parL a).length+1:Nat):Int)))<|
      need (Nat.beq (parO a).length (parL a).length)<|
      need (zL a.1.length 1 80)<|
      need (decide (0<=((parO a).length:Int))&&decide (((parO a).length:Int)<(((parL a).length+1:Nat):Int)))<|
      need (Nat.beq (parO a).length (parL a).length)<|
      some (LX.out ((i:Int),parL a,a.1++[(⟨t,[]⟩:ze)],parO a))) (
      need (decide (0<=((parO a).length:Int))&&decide (((parO a).length:Int)<(((parL a).length+1:Nat):Int)))<|
      need (Nat.beq (parO a).length (parL a).length)<|
      need (zL a.1.length 1 80)<|
      need (decide (0<=((parO a).length:Int))&&decide (((parO a).length:Int)<(((parL a).length+1:Nat):Int)))<|
      need (Nat.beq (parO a).length (parL a).length)<|
      need (decide (0<=(a.1.length:Int))&&decide ((a.1.length:Int)<((a.1++[(⟨(⟨0,[],0,[],false⟩:zt),[]⟩:ze)]).length:Int)))<|
      za (a.1++[(⟨(⟨0,[],0,[],false⟩:zt),[]⟩:ze)])[a.1.length]? fun y7=>
      some (LX.out ((i:Int),parL a,List.set (a.1++[(⟨(⟨0,[],0,[],false⟩:zt),[]⟩:ze)]) a.1.length (⟨t,[]⟩:ze),parO a))))
  (fun j8=>some (LO.again (w64 (j8.1+1),j8.2.1,j8.2.2.1,j8.2.2.2)))=(parG t a).map fun
   | .again a'=> .again (((i+1:Nat):Int),parL a',a'.1,parO a')
   | .out x=> .out x
   | .ret r=> .ret r:=by
 obtain⟨b1,b2,b3⟩:=hB;have hO:=Nk a;have hL:=XM a;have wi:w64 ((i:Int)+1)=((i+1:Nat):Int):=Ni (n:=i+1) (by omega);rw[Fx];simp only[za,Vb];unfold parG Bg;rw[hn];by_cases h0:bg t.kind=0
 ·have c6:(decide ((0:Int)<=((parO a).length:Int))&&decide (((parO a).length:Int)<(((parL a).length+1:Nat):Int)))=true:=by rw[hO,hL];simp;omega
  have c7:Nat.beq (parO a).length (parL a).length=true:=by rw[hO,hL];simp
  have ap:zL a.1.length 1 80=true:=wo (by omega);have c8: ∀z:ze,(decide ((0:Int)<=(a.1.length:Int))&&decide ((a.1.length:Int)<((a.1++[z]).length:Int)))=true:=fun z=>by simp;omega
  have z1: ∀z:ze,(a.1++[z])[a.1.length]? =some z:=fun z=>by simp
  have z2: ∀z y:ze,List.set (a.1++[z]) a.1.length y=a.1++[y]:=fun z y=>by simp
  simp only[h0,bne_self_eq_false,Ac,c6,c7,c8,ap,zh6,z1,z2,Vb,CE,zm3,wi,ne_eq,not_true_eq_false,if_false,Bool.false_eq_true];rfl
 ·have hb:(bg t.kind != 0)=true:=by simpa using h0
  simp only[hb,Kc,Bool.false_eq_true,if_false,ne_eq,h0,not_false_eq_true,if_true];by_cases h16:a.2.length=16
  ·have:(((parO a).length:Int)==16)=true:=by rw[hO,h16];rfl
   rw[this,Ma h16];rfl
  ·have:(((parO a).length:Int)==16)=false:=by rw[hO];exact Dc.2 (by omega)
   rw[this,Na h16];have a1:zL ((parL a).length+1) 1 24=true:=wo (by rw[hL];omega);have a2:zL (parO a).length 1 56=true:=wo (by rw[hO];omega);simp only[Ac,a1,a2,zh6,zm3,wi];have e1:parL ([],(t,a.1)::a.2)=parL a++[a.1]:=by simp[parL]
   have e2:parO ([],(t,a.1)::a.2)=parO a++[t]:=by simp[parO]
   show _=some (LO.again (((i+1:Nat):Int),parL ([],(t,a.1)::a.2),([]:List ze),parO ([],(t,a.1)::a.2)));rw[e1,e2]
theorem NN(x:List zt):Ao x=parseF x:=by
 unfold Ao parseF parS;by_cases hx:1500<x.length
 ·rw[Ma hx,show decide ((x.length:Int)>1500)=true from Ud (by omega)];rfl
 rw[Na hx,show decide ((x.length:Int)>1500)=false from decide_eq_false (by omega),Ac];have hov:Uf parG Ws x ([],[])=some (match mf x ([],[])with
  |none=> .ret ([],20)
  |some a'=> .out (parL a',a'.1,parO a')):=by rw[jD];cases mf x ([],[])<;>rfl
 refine(fM (A:=PSt) x (fun i a=>((i:Int),parL a,a.1,parO a)) parG Ws (fun i a=>i<=x.length/\ParB i a) (a:=([],[])) rfl ⟨ib _,ib _,ib _,fun p hp=>by cases hp⟩ ?_ ?_ hov).trans ?_
 ·intro i a hi ⟨_,hB⟩;refine⟨?_,fun a' ha=>⟨hi,sD (t:=x[i]) hB (by
   unfold parG at ha;cases h:Bg a x[i]with
   |none=>rw[h]at ha;cases ha
   |some a2=>rw[h]at ha;cases ha;rfl)⟩⟩
  have c0:decide ((i:Int)<(x.length:Int))=true:=Ud (by omega);have hb:=hB;obtain⟨b1,b2,b3⟩:=hb;have els:=fun(hn:Tn a.2 x[i]=false)=>WM (i:=i) (n:=0) (t:=x[i]) (a:=a) (by omega) hn hB;simp only[c0,Kc,sK hi,za,Vb]at els ⊢;obtain⟨cur,_|⟨⟨o,out⟩,st⟩⟩:=a
  ·have e0:decide (((parO (cur,([]:List (zt×List ze)))).length:Int)>0)=false:=rfl;simp only[e0,Bool.not_false,Bool.or_true,zh6,zqy,Vb,Ac];simp only[Fx,Vb]at els ⊢;refine Eq.trans ?_ ((els rfl).trans ?_)
   ·rfl
   ·rcases parG x[i] (cur,[])with _|(_|_|_)<;>rfl
  ·have hlen:(parO (cur,(o,out)::st)).length=st.length+1:=by rw[Nk];rfl
   have hst:st.length+1<=16:=b1;have e0:decide (((parO (cur,(o,out)::st)).length:Int)>0)=true:=Ud (by rw[hlen];omega);have w1:w64 (((parO (cur,(o,out)::st)).length:Int) - 1)=(st.length:Int):=by rw[show((parO (cur,(o,out)::st)).length:Int) - 1=(st.length:Int) by rw[hlen];omega];exact Ni (by omega)
   have c1:(decide ((0:Int)<=(st.length:Int))&&decide ((st.length:Int)<((parO (cur,(o,out)::st)).length:Int)))=true:=by rw[hlen];simp;omega
   have g1:(parO (cur,(o,out)::st))[st.length]? =some o:=by
    have:parO (cur,(o,out)::st)=(st.map (·.1)).reverse++[o]:=by simp[parO]
    rw[this];simp
   simp only[e0,w1,c1,Bool.true_or,zh6,zrZ,Ee,g1,Fx,Vb,Kc]at els ⊢;by_cases hs:(x[i].kind==bg o.kind)=true
   ·rw[hs,aC (by omega) (aa (b3 (o,out) (Ta ..)) (by omega))];have wi:w64 ((i:Int)+1)=((i+1:Nat):Int):=Ni (n:=i+1) (by omega);simp only[Kc,Vb,zm3,wi];unfold parG Bg;rw[Ma (show Tn ((o,out)::st) x[i]=true from hs)];rfl
   ·have hs:(x[i].kind==bg o.kind)=false:=by simpa using hs
    rw[hs];simp only[Ac];refine Eq.trans ?_ ((els hs).trans ?_)
    ·rfl
    ·rcases parG x[i] (cur,(o,out)::st)with _|(_|_|_)<;>rfl
 ·intro a _;have c0:decide ((x.length:Int)<(x.length:Int))=false:=decide_eq_false (by omega);simp only[c0,Ac];rfl
 cases hrun:mf x ([],[])with
 |none=>rfl
 |some a=>
  have hB:=iD x (b:=0) ⟨ib _,ib _,fun p hp=>by cases hp⟩ hrun;rw[Jb]at hB;obtain⟨b1,b2,b3⟩:=hB;simp only[zv4];have hw:w64 ((x.length:Int)+((parO a).length:Int))=((x.length+a.2.length:Nat):Int):=by rw[Nk];exact Ni (n:=x.length+a.2.length) (by omega)
  rw[hw];by_cases h2:1500<x.length+a.2.length
  ·rw[Ma h2,show decide (((x.length+a.2.length:Nat):Int)>1500)=true from Ud (by omega)];rfl
  rw[Na h2,show decide (((x.length+a.2.length:Nat):Int)>1500)=false from decide_eq_false (by omega),Ac];rw[sM (x:=(([]:List (List ze)),shutAll a.1 a.2,([]:List zt))) (uM (fun s=> ∃b:PSt,s=(parL b,b.1,parO b)/\shutAll b.1 b.2=shutAll a.1 a.2/\b.2.length<=16/\ ∀p∈b.2,p.2.length<=1500) (fun s=>s.2.2.length) _ ?_ ⟨a,rfl,rfl,b1,fun p hp=>aa (b3 p hp) (by omega)⟩)]
  ·rfl
  ·rintro _ ⟨⟨cur,_|⟨⟨o,out⟩,st⟩⟩,rfl,q1,q2,q3⟩
   ·exact .inr (.inl ⟨_,rfl,by rw[<-q1];rfl⟩)
   ·have hlen:(parO (cur,(o,out)::st)).length=st.length+1:=by rw[Nk];rfl
    have hst:st.length+1<=16:=q2;have e0:decide (((parO (cur,(o,out)::st)).length:Int)>0)=true:=Ud (by rw[hlen];omega);refine .inl ⟨_,?_,⟨lh (cur,(o,out)::st),rfl,q1,by show st.length<=16;omega,fun p hp=>q3 p (Xa _ hp)⟩,?_⟩
    ·simp only[e0,Kc,za];rw[aC (by omega) (aa (q3 (o,out) (Ta ..)) (by omega))];rfl
    ·rw[hlen];show(parO (lh (cur,(o,out)::st))).length<st.length+1;rw[Nk];show st.length<st.length+1;omega
theorem gv_parse:zg Tryz.prog (OD parseF):=by
 have:=nM
 rwa [show Ao=parseF from funext NN]at this
end Go.Lv.VT
namespace Go.Lv
theorem YO:zg Proofs.Tryz.prog (⟨39,⟨[.sl 131],[]⟩,[],⟨[.sl 135, .int .i64],[]⟩,0,VT.parseF⟩:Con VT.I):=VT.gv_parse
open Go.Proofs Go.RowKit
set_option maxRecDepth 100000
theorem KF(l:List Str):(l.map fun s=>(⟨s.toArray⟩:ByteArray)).map (fun x=>x.data.toList)=l:=by rw[List.map_map];exact(Pd fun s _=>by simp).trans (List.map_id l)
theorem xL:zg Tryz.prog (⟨36,⟨[.sl 9, .str],[]⟩,[],⟨[.str],[]⟩,0,Ue⟩:Con VT.I):=
 Bh VT.ipOK rfl Tryz.func36 rfl rfl fun x y hxy ι w vs W ha=>by
  obtain⟨(l:List Str),(c:Str)⟩:=x;replace hxy:Ue (l,c)=some y:=hxy;unfold Ue at hxy;obtain⟨hq,hy⟩:=uf hxy;cases hy;rw[Ca]at hq;have q1:List.length l<=1000000:=Va hq.1;have q2:(Lib.join l c).length<=1000000000:=Va hq.2;have h1:=rf (l:=c) (j:=1) ha rfl;obtain⟨u,hu,_,hr⟩:=ha.2 0 _ rfl;replace hr:RepP (Dom ι w) w (.sl (List.map (fun s:Str=>[PV.str s]) l)) u:=hr;cases hr with
  |sl _ a n cp k b o val hn hc ha' hD hk hv hr'=>
   obtain rfl:=Ri ha.1 hu h1;rw[Ja]at hn;rcases Nat.eq_zero_or_pos n with h0|h0
   ·have:l=[]:=Oa (hn.symm.trans h0);subst this;subst h0;refine(Tryz.strings_Join_none a cp _ w).mono ?_;rintro e w' ⟨rfl,rfl⟩;exact⟨_,rfl,Below.refl _ _,Yg _⟩
   ·obtain rfl:=ha' h0;have hk1:k=1:=by
     cases l with
     |nil=>subst hn;cases h0
     |cons s t=>exact(hk [.str s] (La.2 ⟨s,Ta ..,rfl⟩)).symm
    subst hk1;have hcells: ∀(j:Nat) x,(List.map (fun s:Str=>(⟨s.toArray⟩:ByteArray)) l)[j]? =some x->w.cell? ⟨b,o+j,none⟩=some (.string x):=fun j x hj=>by
     rw[Ea]at hj;obtain⟨s,hs,rfl⟩:=Ba.1 hj;have hrow:(List.map (fun s:Str=>[PV.str s]) l)[j]? =some [PV.str s]:=by rw[Ea,hs];rfl
     have e1:=hv j _ 0 _ hrow rfl;rw[JF (hr' j _ 0 _ hrow rfl),Lc]at e1;exact e1
    have hl:(List.map (fun s:Str=>(⟨s.toArray⟩:ByteArray)) l).length=n:=by rw[Ja,hn]
    have hj:=Tryz.strings_Join b o cp _ ⟨c.toArray⟩ w hcells (hD h0).1 (by rw[hl,hn];omega) (by rw[hl];exact hc) (by rw[KF];show(Lib.join l c).length<=_;omega);rw[hl,KF]at hj;refine hj.mono ?_;rintro e w' ⟨rfl,hB⟩;exact⟨_,rfl,hB,Yg _⟩
theorem cO:zg Proofs.Tryz.prog (⟨134,⟨[.str],[]⟩,[],⟨[.str, .int .i64],[]⟩,0,yj⟩:Con VT.I):=BP
end Go.Lv
end
