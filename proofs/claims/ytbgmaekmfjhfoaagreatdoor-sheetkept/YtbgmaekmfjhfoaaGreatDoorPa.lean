/- nest.Parse: its text, and its contract. -/
import Derived.Test.YtbgmaekmfjhfoaaGreatDoorIp
import Derived.Test.YtbgmaekmfjhfoaaGreatDoorLf
import Derived.Test.YtbgmaekmfjhfoaaGreatDoorTy
import Derived.Test.YtbgmaekmfjhfoaaGreatDoorGa
import Derived.Test.YtbgmaekmfjhfoaaGreatDoorCd
noncomputable section
set_option linter.unusedSimpArgs false
set_option linter.unusedVariables false
namespace Go.Lv.VT
set_option maxRecDepth 100000
open Go.Proofs
def TP:TT:=[(2,ti Tryz.prog 2),(3,ti Tryz.prog 3),(4,ti Tryz.prog 4),(5,ti Tryz.prog 5),(9,ti Tryz.prog 9),(37,ti Tryz.prog 37),(49,ti Tryz.prog 49),(59,ti Tryz.prog 59),(61,ti Tryz.prog 61),(74,ti Tryz.prog 74)]
theorem tokP:TOK Tryz.prog TP []:=NJ (l:=[2,3,4,5,9,37,49,59,61,74]) fun _ h=>by cases h
theorem okP{con:Con I}{S:List (Con I)}(f:Go.Func)(hS: ∀c∈S,ZP Tryz.prog c)(fz:List (Nat×List Nat):=[])(pre:List (Nat×List (Nat×Option Nat)):=[])(p:Nat:=0)(cuts:List (Nat×Cut):=[])(joins:List (Nat×Cut):=[])(cls:List (Nat×List Nat):=[])(fl:Option Nat:=none)(exS:StSh:=con.outS)(hf:Tryz.prog.funcs[con.f]? =some f:=by kernel_rfl)(h:chk con (⟨S,fz,pre,p,cuts,joins,cls,fl⟩:Env0 I) f=true:=by kernel_rfl)(he: ∀x,evF2 (⟨S,fz,pre,p,cuts,joins,cls,fl⟩:Env0 I) TP [] f.ntmps (rsl f) (body f) con exS x=con.F x:=by intro x;kernel_rfl):ZP Tryz.prog con:=
 okC0 mixed ipOK tokP rfl rfl hS hf h he
def Sr(x:Int):Option Int:=
 bif x==2 then
  some 22
 else
  Zt (X:=Bool) (
    bif x==19 then
     some (LX.out (x==19))
    else
     bif x==21 then
      some (LX.out (x==21))
     else
      some (LX.out (x==23))) fun j1=>
  bif j1 then
   some (wu8 (x+1))
  else
   some 0
def iq(x:List zk×List (List za)×List za):Option (List zk×List (List za)×List za):=
 need (decide (0<=w64 ((x.1.length:Int) - 1))&&decide (w64 ((x.1.length:Int) - 1)<(x.1.length:Int)))<|
 ze (x.1[(w64 ((x.1.length:Int) - 1)).toNat]?) fun y1=>
 need (decide (0<=w64 (w64 ((x.1.length:Int) - 1)+1))&&decide (w64 (w64 ((x.1.length:Int) - 1)+1)<((x.2.1.length+1:Nat):Int)))<|
 need (Nat.beq (w64 (w64 ((x.1.length:Int) - 1)+1)).toNat x.2.1.length)<|
 ze (List.getLast? x.2.1) fun y2=>
 need (decide (w64 (w64 ((x.1.length:Int) - 1)+1)=(x.2.1.length:Int)))<|
 need (decide (0<=w64 ((x.1.length:Int) - 1))&&decide (w64 ((x.1.length:Int) - 1)<=(x.1.length:Int)))<|
 both (
   need (decide (0<=w64 ((x.1.length:Int) - 1))&&decide (w64 ((x.1.length:Int) - 1)<(((List.dropLast x.2.1).length+1:Nat):Int)))<|
   need (Nat.beq (w64 ((x.1.length:Int) - 1)).toNat (List.dropLast x.2.1).length)<|
   need (Zp y2.length 1 80)<|
   need (decide (0<=w64 ((x.1.length:Int) - 1))&&decide (w64 ((x.1.length:Int) - 1)<(((List.dropLast x.2.1).length+1:Nat):Int)))<|
   need (Nat.beq (w64 ((x.1.length:Int) - 1)).toNat (List.dropLast x.2.1).length)<|
   some (List.take (w64 ((x.1.length:Int) - 1)).toNat x.1,List.dropLast x.2.1,y2++[(⟨y1,x.2.2⟩:za)])) (
   need (decide (0<=w64 ((x.1.length:Int) - 1))&&decide (w64 ((x.1.length:Int) - 1)<(((List.dropLast x.2.1).length+1:Nat):Int)))<|
   need (Nat.beq (w64 ((x.1.length:Int) - 1)).toNat (List.dropLast x.2.1).length)<|
   need (Zp y2.length 1 80)<|
   need (decide (0<=w64 ((x.1.length:Int) - 1))&&decide (w64 ((x.1.length:Int) - 1)<(((List.dropLast x.2.1).length+1:Nat):Int)))<|
   need (Nat.beq (w64 ((x.1.length:Int) - 1)).toNat (List.dropLast x.2.1).length)<|
   need (decide (0<=(y2.length:Int))&&decide ((y2.length:Int)<((y2++[(⟨(⟨0,[],0,[],false⟩:zk),[]⟩:za)]).length:Int)))<|
   ze (y2++[(⟨(⟨0,[],0,[],false⟩:zk),[]⟩:za)])[y2.length]? fun y3=>
   some (List.take (w64 ((x.1.length:Int) - 1)).toNat x.1,List.dropLast x.2.1,List.take y2.length (y2++[(⟨(⟨0,[],0,[],false⟩:zk),[]⟩:za)])++List.cons (⟨y1,x.2.2⟩:za) (List.drop (y2.length+1) (y2++[(⟨(⟨0,[],0,[],false⟩:zk),[]⟩:za)]))))
def Mx(x:List zk):Option (List za×Int):=
 bif decide ((x.length:Int)>1500)then
  some ([],4)
 else
  Zl (fun(s1:Int×List (List za)×List za×List zk)=>
    bif decide (s1.1<(x.length:Int))then
     Zt (X:=Int×List (List za)×List za×List zk) (
       ze (geti x s1.1) fun y2=>
       need (decide (0<=w64 ((s1.2.2.2.length:Int) - 1))&&decide (w64 ((s1.2.2.2.length:Int) - 1)<(s1.2.2.2.length:Int))|| !(decide ((s1.2.2.2.length:Int)>0)))<|
       ze (zI (decide ((s1.2.2.2.length:Int)>0)) s1.2.2.2[(w64 ((s1.2.2.2.length:Int) - 1)).toNat]? (default:zk)) fun y3=>
       ze (zI (decide ((s1.2.2.2.length:Int)>0)) (Sr y3.kind) (default:Int)) fun y4=>
       bif bif decide ((s1.2.2.2.length:Int)>0)then y2.kind==y4 else false then
        ze (iq (s1.2.2.2,s1.2.1,s1.2.2.1)) fun y5=>
        some (LX.out (s1.1,y5.2.1,y5.2.2,y5.1))
       else
        ze (Sr y2.kind) fun y6=>
        bif y6 != 0 then
         bif (s1.2.2.2.length:Int)==16 then
          some (LX.ret (LO.ret ([],20)))
         else
          need (Zp (s1.2.1.length+1) 1 24)<|
          need (Zp s1.2.2.2.length 1 56)<|
          some (LX.out (s1.1,s1.2.1++[s1.2.2.1],[],s1.2.2.2++[y2]))
        else
         both (
           need (decide (0<=(s1.2.2.2.length:Int))&&decide ((s1.2.2.2.length:Int)<((s1.2.1.length+1:Nat):Int)))<|
           need (Nat.beq s1.2.2.2.length s1.2.1.length)<|
           need (Zp s1.2.2.1.length 1 80)<|
           need (decide (0<=(s1.2.2.2.length:Int))&&decide ((s1.2.2.2.length:Int)<((s1.2.1.length+1:Nat):Int)))<|
           need (Nat.beq s1.2.2.2.length s1.2.1.length)<|
           some (LX.out (s1.1,s1.2.1,s1.2.2.1++[(⟨y2,[]⟩:za)],s1.2.2.2))) (
           need (decide (0<=(s1.2.2.2.length:Int))&&decide ((s1.2.2.2.length:Int)<((s1.2.1.length+1:Nat):Int)))<|
           need (Nat.beq s1.2.2.2.length s1.2.1.length)<|
           need (Zp s1.2.2.1.length 1 80)<|
           need (decide (0<=(s1.2.2.2.length:Int))&&decide ((s1.2.2.2.length:Int)<((s1.2.1.length+1:Nat):Int)))<|
           need (Nat.beq s1.2.2.2.length s1.2.1.length)<|
           need (decide (0<=(s1.2.2.1.length:Int))&&decide ((s1.2.2.1.length:Int)<((s1.2.2.1++[(⟨(⟨0,[],0,[],false⟩:zk),[]⟩:za)]).length:Int)))<|
           ze (s1.2.2.1++[(⟨(⟨0,[],0,[],false⟩:zk),[]⟩:za)])[s1.2.2.1.length]? fun y7=>
           some (LX.out (s1.1,s1.2.1,List.set (s1.2.2.1++[(⟨(⟨0,[],0,[],false⟩:zk),[]⟩:za)]) s1.2.2.1.length (⟨y2,[]⟩:za),s1.2.2.2)))) fun j8=>
     some (LO.again (w64 (j8.1+1),j8.2.1,j8.2.2.1,j8.2.2.2))
    else
     some (LO.out (s1.2.1,s1.2.2.1,s1.2.2.2)):Int×List (List za)×List za×List zk->Option (LO (Int×List (List za)×List za×List zk) (List (List za)×List za×List zk) _)) (0,[],[],[]) fun o9=>
  bif decide (w64 ((x.length:Int)+(o9.2.2.length:Int))>1500)then
   some ([],4)
  else
   Zl (fun(s10:List (List za)×List za×List zk)=>
     bif decide ((s10.2.2.length:Int)>0)then
      ze (iq (s10.2.2,s10.1,s10.2.1)) fun y11=>
      some (LO.again (y11.2.1,y11.2.2,y11.1))
     else
      some (LO.out (s10.1,s10.2.1,s10.2.2)):List (List za)×List za×List zk->Option (LO (List (List za)×List za×List zk) (List (List za)×List za×List zk) _)) (o9.1,o9.2.1,o9.2.2) fun o12=>
   need (decide (0<((o12.1.length+1:Nat):Int)))<|
   need (Nat.beq 0 o12.1.length)<|
   some (o12.2.1,0)
def RX(F:Int->Option Int):Con I:=⟨24,⟨[.int .u8],[]⟩,[],⟨[.int .u8],[]⟩,0,F⟩
def UW(F:List zk×List (List za)×List za->Option (List zk×List (List za)×List za)):Con I:=⟨23,⟨[.optr 0, .optr 2],[(0, .cells 49 [.own 1]),(1, .sl 59),(2, .cells 74 [.own 3]),(3, .slq 37 61 4),(4, .sl 61)]⟩,[],⟨[],[(0, .cells 49 [.own 5]),(2, .cells 74 [.own 6]),(5, .sl 59),(6, .slq 37 61 7),(7, .sl 61)]⟩,3,F⟩
def NL(F:List zk->Option (List za×Int)):Con I:=⟨13,⟨[.sl 59],[]⟩,[],⟨[.sl 61, .int .i64],[]⟩,0,F⟩
theorem tX:ZP Tryz.prog (RX Sr):=
 okP Tryz.f24 zF (joins:=[(7,⟨[6],⟨[.bool],[]⟩,[0],[],[],0,[],⟨[],[]⟩,[]⟩)])
theorem rV:ZP Tryz.prog (UW iq):=
 okP Tryz.f23 zF (fz:=[(2,[200003,200006]),(4,[6]),(6,[7])]) (pre:=[(6,[(15,none)])]) (p:=5)
theorem eU:ZP Tryz.prog (NL Mx):=
 okP Tryz.f13 (memC tX (memC rV zF)) (fz:=[(3,[200000]),(10,[7]),(12,[8]),(18,[5,100001])]) (cuts:=[(6,⟨[17],⟨[.int .i64],[(1, .cells 74 [.own 1106]),(1106, .slq 37 61 1107),(1107, .sl 61),(2, .cells 49 [.own 1108]),(1108, .sl 59)]⟩,[0,4,5,6,15,16],[],[1,2],0,[],⟨[],[(1, .cells 74 [.own 1106]),(1106, .slq 37 61 1107),(1107, .sl 61),(2, .cells 49 [.own 1108]),(1108, .sl 59)]⟩,[1,2,1106,1107,1108]⟩),(22,⟨[],⟨[],[(1, .cells 74 [.own 1213]),(1213, .slq 37 61 1215),(1215, .sl 61),(2, .cells 49 [.own 1214]),(1214, .sl 59)]⟩,[4,5,6],[],[1,2],3,[],⟨[],[(1, .cells 74 [.own 1213]),(1213, .slq 37 61 1215),(1215, .sl 61),(2, .cells 49 [.own 1214]),(1214, .sl 59)]⟩,[1,2,1213,1214,1215]⟩)]) (joins:=[(19,⟨[17],⟨[.int .i64],[(1, .cells 74 [.own 1210]),(1210, .slq 37 61 1212),(1212, .sl 61),(2, .cells 49 [.own 1211]),(1211, .sl 59)]⟩,[],[],[1,2],0,[],⟨[],[]⟩,[]⟩)])
theorem DN{R:Type}(x:Option R):both x x=x:=Ka rfl
theorem NH(k:Int):Sr k=some (Zb k):=by
 unfold Sr Zb;by_cases h2:k=2
 ·subst h2;rfl
 by_cases h19:k=19
 ·subst h19;rfl
 by_cases h21:k=21
 ·subst h21;rfl
 by_cases h23:k=23
 ·subst h23;rfl
 have e: ∀n:Int,k≠n->(k==n)=false:=fun n h=>Ga.2 h;simp[e _ h2,e _ h19,e _ h21,e _ h23,h2,h19,h21,h23]
def parL(a:PSt):List (List za):=(a.2.map (·.2)).reverse
def parO(a:PSt):List zk:=(a.2.map (·.1)).reverse
theorem Wq{n:Nat}(h:n<=100000):w64 (n:Int)=n:=Qb (by omega) (by omega)
theorem vT{cur out:List za}{o:zk}{st:List (zk×List za)}(h1:st.length<=100)(h2:out.length<=100000):iq (parO (cur,(o,out)::st),parL (cur,(o,out)::st),cur)=some (parO (Ik (cur,(o,out)::st)),parL (Ik (cur,(o,out)::st)),(Ik (cur,(o,out)::st)).1):=by
 have e1:parO (cur,(o,out)::st)=(st.map (·.1)).reverse++[o]:=by simp[parO]
 have e2:parL (cur,(o,out)::st)=(st.map (·.2)).reverse++[out]:=by simp[parL]
 rw[e1,e2];show iq ((st.map (·.1)).reverse++[o],(st.map (·.2)).reverse++[out],cur)=some ((st.map (·.1)).reverse,(st.map (·.2)).reverse,out++[⟨o,cur⟩]);have l1:((st.map (·.1)).reverse).length=st.length:=by simp
 have l2:((st.map (·.2)).reverse).length=st.length:=by simp
 generalize (st.map (·.1)).reverse=A at*;generalize (st.map (·.2)).reverse=B at*;have w1:w64 (((A++[o]).length:Int) - 1)=(st.length:Int):=by rw[show((A++[o]).length:Int) - 1=(st.length:Int) by simp[l1]];exact Wq (by omega)
 have w2:w64 ((st.length:Int)+1)=((st.length+1:Nat):Int):=Wq (n:=st.length+1) (by omega);have ap:Zp out.length 1 80=true:=ZU (by omega);unfold iq;simp only[w1,w2,Ib];have c1:(decide ((0:Int)<=(st.length:Int))&&decide ((st.length:Int)<((A++[o]).length:Int)))=true:=by simp[l1];omega
 have c2:(decide ((0:Int)<=((st.length+1:Nat):Int))&&decide (((st.length+1:Nat):Int)<(((B++[out]).length+1:Nat):Int)))=true:=by simp[l2];omega
 have c3:Nat.beq (st.length+1) (B++[out]).length=true:=by simp[l2]
 have c4:decide (((st.length+1:Nat):Int)=((B++[out]).length:Int))=true:=by simp[l2]
 have c5:(decide ((0:Int)<=(st.length:Int))&&decide ((st.length:Int)<=((A++[o]).length:Int)))=true:=by simp[l1];omega
 have c6:(decide ((0:Int)<=(st.length:Int))&&decide ((st.length:Int)<((B.length+1:Nat):Int)))=true:=by simp[l2];omega
 have c7:Nat.beq st.length B.length=true:=by simp[l2]
 have g1:(A++[o])[st.length]? =some o:=by rw[<-l1];simp
 have t1:(A++[o]).take st.length=A:=by rw[<-l1];simp
 have z1: ∀z:za,(out++[z])[out.length]? =some z:=fun z=>by simp
 have z2: ∀z:za,(out++[z]).take out.length=out:=fun z=>by simp
 have z3: ∀z:za,(out++[z]).drop (out.length+1)=[]:=fun z=>by simp
 have c8: ∀z:za,(decide ((0:Int)<=(out.length:Int))&&decide ((out.length:Int)<((out++[z]).length:Int)))=true:=fun z=>by simp;omega
 simp only[c1,c2,c3,c4,c5,Zy,g1,ze,Aa,List.getLast?_append,List.getLast?_singleton,Option.some_or,List.dropLast_concat,c6,c7,ap,c8,z1,z2,z3,t1,DN]
def ParB(b:Nat)(a:PSt):Prop:=a.2.length<=16/\a.1.length<=b/\ ∀p∈a.2,p.2.length<=b
theorem PM{b:Nat}{a a':PSt}{t:zk}(h:ParB b a)(e:Qy a t=some a'):ParB (b+1) a':=by
 obtain⟨h1,h2,h3⟩:=h;unfold Qy at e;split at e
 ·cases e;obtain⟨cur,st⟩:=a;cases st with
  |nil=>exact⟨h1,Rh h2,fun p hp=>by cases hp⟩
  |cons q st=> obtain⟨o,out⟩:=q;refine⟨by have:((o,out)::st).length<=16:=h1;simp at this;show st.length<=16;omega,?_,fun p hp=>Rh (h3 p (Cb _ hp))⟩;have:=h3 (o,out) (Jb ..);show(out++[(⟨o,cur⟩:za)]).length<=b+1;simp;omega
 ·split at e
  ·split at e
   ·cases e
   ·rename_i h16;cases e;refine⟨by show a.2.length+1<=16;omega,Va _,fun p hp=> ?_⟩;rcases Db.1 hp with rfl|hp
    ·exact Rh h2
    ·exact Rh (h3 p hp)
  ·cases e;exact⟨h1,by show(a.1++[(⟨t,[]⟩:za)]).length<=b+1;simp;exact h2,fun p hp=>Rh (h3 p hp)⟩
theorem Fv(a:PSt):(parO a).length=a.2.length:=by simp[parO]
theorem zCr(a:PSt):(parL a).length=a.2.length:=by simp[parL]
def parG(t:zk)(a:PSt):Option (LO PSt (List (List za)×List za×List zk) (List za×Int)):=match Qy a t with
 |none=>some (.ret ([],20))
 |some a'=>some (.again a')
def wC(a:PSt):Option (LX (List (List za)×List za×List zk) (List za×Int)):=some (.out (parL a,a.1,parO a))
theorem LM: ∀(l:List zk) (a:PSt),Ti parG wC l a=(match qz l a with
 |none=>some (.ret ([],20))
 |some a'=>some (.out (parL a',a'.1,parO a')))
 |[],a=>rfl
 |t::r,a=>by
  simp only[Ti,parG,qz];cases h:Qy a t with
  |none=>rfl
  |some a'=>exact LM r a'
theorem KM: ∀(l:List zk) {b:Nat} {a a':PSt},ParB b a->qz l a=some a'->ParB (b+l.length) a'
 |[],b,a,a',h,e=>by cases e;exact h
 |t::r,b,a,a',h,e=>by
  obtain⟨a1,h1,h2⟩:=La.1 (show(Qy a t).bind (qz r)=some a' from e);have:=KM r (PM h h1) h2
  rwa [show b+(t::r).length=b+1+r.length by simp;omega]
theorem zCt{i n:Nat}{t:zk}{a:PSt}(hi:i<1500)(hn:ak a.2 t=false)(hB:ParB i a):Zt (X:=Int×List (List za)×List za×List zk) (R:=LO (Int×List (List za)×List za×List zk) (List (List za)×List za×List zk) (List za×Int))
  (ze (Sr t.kind) fun y6=>
   bif y6 != 0 then
    bif ((parO a).length:Int)==16 then
     some (LX.ret (LO.ret ([],20)))
    else
     need (Zp ((parL a).length+1) 1 24)<|
     need (Zp (parO a).length 1 56)<|
     some (LX.out ((i:Int),parL a++[a.1],[],parO a++[t]))
   else
    both (
      need (decide (0<=((parO a).length:Int))&&decide (((parO a).length:Int)<(((parL a).length+1:Nat):Int)))<|
      need (Nat.beq (parO a).length (parL a).length)<|
      need (Zp a.1.length 1 80)<|
      need (decide (0<=((parO a).length:Int))&&decide (((parO a).length:Int)<(((parL a).length+1:Nat):Int)))<|
      need (Nat.beq (parO a).length (parL a).length)<|
      some (LX.out ((i:Int),parL a,a.1++[(⟨t,[]⟩:za)],parO a))) (
      need (decide (0<=((parO a).length:Int))&&decide (((parO a).length:Int)<(((parL a).length+1:Nat):Int)))<|
      need (Nat.beq (parO a).length (parL a).length)<|
      need (Zp a.1.length 1 80)<|
      need (decide (0<=((parO a).length:Int))&&decide (((parO a).length:Int)<(((parL a).length+1:Nat):Int)))<|
      need (Nat.beq (parO a).length (parL a).length)<|
      need (decide (0<=(a.1.length:Int))&&decide ((a.1.length:Int)<((a.1++[(⟨(⟨0,[],0,[],false⟩:zk),[]⟩:za)]).length:Int)))<|
      ze (a.1++[(⟨(⟨0,[],0,[],false⟩:zk),[]⟩:za)])[a.1.length]? fun y7=>
      some (LX.out ((i:Int),parL a,List.set (a.1++[(⟨(⟨0,[],0,[],false⟩:zk),[]⟩:za)]) a.1.length (⟨t,[]⟩:za),parO a))))
  (fun j8=>some (LO.again (w64 (j8.1+1),j8.2.1,j8.2.2.1,j8.2.2.2)))=(parG t a).map fun
   | .again a'=> .again (((i+1:Nat):Int),parL a',a'.1,parO a')
   | .out x=> .out x
   | .ret r=> .ret r:=by
 obtain⟨b1,b2,b3⟩:=hB;have hO:=Fv a;have hL:=zCr a;have wi:w64 ((i:Int)+1)=((i+1:Nat):Int):=Wq (n:=i+1) (by omega);rw[NH];simp only[ze,Aa];unfold parG Qy;rw[hn];by_cases h0:Zb t.kind=0
 ·have c6:(decide ((0:Int)<=((parO a).length:Int))&&decide (((parO a).length:Int)<(((parL a).length+1:Nat):Int)))=true:=by rw[hO,hL];simp;omega
  have c7:Nat.beq (parO a).length (parL a).length=true:=by rw[hO,hL];simp
  have ap:Zp a.1.length 1 80=true:=ZU (by omega);have c8: ∀z:za,(decide ((0:Int)<=(a.1.length:Int))&&decide ((a.1.length:Int)<((a.1++[z]).length:Int)))=true:=fun z=>by simp;omega
  have z1: ∀z:za,(a.1++[z])[a.1.length]? =some z:=fun z=>by simp
  have z2: ∀z y:za,List.set (a.1++[z]) a.1.length y=a.1++[y]:=fun z y=>by simp
  simp only[h0,bne_self_eq_false,Ba,c6,c7,c8,ap,Zy,z1,z2,Aa,DN,zG,wi,ne_eq,not_true_eq_false,Od,Sb];rfl
 ·have hb:(Zb t.kind != 0)=true:=by simpa using h0
  simp only[hb,Ca,Sb,Od,ne_eq,h0,Ph,Vd];by_cases h16:a.2.length=16
  ·have:(((parO a).length:Int)==16)=true:=by rw[hO,h16];rfl
   rw[this,Ka h16];rfl
  ·have:(((parO a).length:Int)==16)=false:=by rw[hO];exact Ga.2 (by omega)
   rw[this,Ha h16];have a1:Zp ((parL a).length+1) 1 24=true:=ZU (by rw[hL];omega);have a2:Zp (parO a).length 1 56=true:=ZU (by rw[hO];omega);simp only[Ba,a1,a2,Zy,zG,wi];have e1:parL ([],(t,a.1)::a.2)=parL a++[a.1]:=by simp[parL]
   have e2:parO ([],(t,a.1)::a.2)=parO a++[t]:=by simp[parO]
   show _=some (LO.again (((i+1:Nat):Int),parL ([],(t,a.1)::a.2),([]:List za),parO ([],(t,a.1)::a.2)));rw[e1,e2]
theorem iU(x:List zk):Mx x=parseF x:=by
 unfold Mx parseF parS;by_cases hx:1500<x.length
 ·rw[Ka hx,show decide ((x.length:Int)>1500)=true from Fa (by omega)];rfl
 rw[Ha hx,show decide ((x.length:Int)>1500)=false from Ta (by omega),Ba];have hov:Ti parG wC x ([],[])=some (match qz x ([],[])with
  |none=> .ret ([],20)
  |some a'=> .out (parL a',a'.1,parO a')):=by rw[LM];cases qz x ([],[])<;>rfl
 refine(Uo (A:=PSt) x (fun i a=>((i:Int),parL a,a.1,parO a)) parG wC (fun i a=>i<=x.length/\ParB i a) (a:=([],[])) rfl ⟨Va _,Va _,Va _,fun p hp=>by cases hp⟩ ?_ ?_ hov).trans ?_
 ·intro i a hi ⟨_,hB⟩;refine⟨?_,fun a' ha=>⟨hi,PM (t:=x[i]) hB (by
   unfold parG at ha;cases h:Qy a x[i]with
   |none=>rw[h]at ha;cases ha
   |some a2=>rw[h]at ha;cases ha;rfl)⟩⟩
  have c0:decide ((i:Int)<(x.length:Int))=true:=Fa (by omega);have hb:=hB;obtain⟨b1,b2,b3⟩:=hb;have els:=fun(hn:ak a.2 x[i]=false)=>zCt (i:=i) (n:=0) (t:=x[i]) (a:=a) (by omega) hn hB;simp only[c0,Ca,Zu hi,ze,Aa]at els ⊢;obtain⟨cur,_|⟨⟨o,out⟩,st⟩⟩:=a
  ·have e0:decide (((parO (cur,([]:List (zk×List za)))).length:Int)>0)=false:=rfl;simp only[e0,Xa,Bool.or_true,Zy,qI,Aa,Ba];simp only[NH,Aa]at els ⊢;refine Eq.trans ?_ ((els rfl).trans ?_)
   ·rfl
   ·rcases parG x[i] (cur,[])with _|(_|_|_)<;>rfl
  ·have hlen:(parO (cur,(o,out)::st)).length=st.length+1:=by rw[Fv];rfl
   have hst:st.length+1<=16:=b1;have e0:decide (((parO (cur,(o,out)::st)).length:Int)>0)=true:=Fa (by rw[hlen];omega);have w1:w64 (((parO (cur,(o,out)::st)).length:Int) - 1)=(st.length:Int):=by rw[show((parO (cur,(o,out)::st)).length:Int) - 1=(st.length:Int) by rw[hlen];omega];exact Wq (by omega)
   have c1:(decide ((0:Int)<=(st.length:Int))&&decide ((st.length:Int)<((parO (cur,(o,out)::st)).length:Int)))=true:=by rw[hlen];simp;omega
   have g1:(parO (cur,(o,out)::st))[st.length]? =some o:=by
    have:parO (cur,(o,out)::st)=(st.map (·.1)).reverse++[o]:=by simp[parO]
    rw[this];simp
   simp only[e0,w1,c1,Bool.true_or,Zy,Zk,Ib,g1,NH,Aa,Ca]at els ⊢;by_cases hs:(x[i].kind==Zb o.kind)=true
   ·rw[hs,vT (by omega) (ma (b3 (o,out) (Jb ..)) (by omega))];have wi:w64 ((i:Int)+1)=((i+1:Nat):Int):=Wq (n:=i+1) (by omega);simp only[Ca,Aa,zG,wi];unfold parG Qy;rw[Ka (show ak ((o,out)::st) x[i]=true from hs)];rfl
   ·have hs:(x[i].kind==Zb o.kind)=false:=by simpa using hs
    rw[hs];simp only[Ba];refine Eq.trans ?_ ((els hs).trans ?_)
    ·rfl
    ·rcases parG x[i] (cur,(o,out)::st)with _|(_|_|_)<;>rfl
 ·intro a _;have c0:decide ((x.length:Int)<(x.length:Int))=false:=Ta (by omega);simp only[c0,Ba];rfl
 cases hrun:qz x ([],[])with
 |none=>rfl
 |some a=>
  have hB:=KM x (b:=0) ⟨Va _,Va _,fun p hp=>by cases hp⟩ hrun;rw[Ad]at hB;obtain⟨b1,b2,b3⟩:=hB;simp only[znh];have hw:w64 ((x.length:Int)+((parO a).length:Int))=((x.length+a.2.length:Nat):Int):=by rw[Fv];exact Wq (n:=x.length+a.2.length) (by omega)
  rw[hw];by_cases h2:1500<x.length+a.2.length
  ·rw[Ka h2,show decide (((x.length+a.2.length:Nat):Int)>1500)=true from Fa (by omega)];rfl
  rw[Ha h2,show decide (((x.length+a.2.length:Nat):Int)>1500)=false from Ta (by omega),Ba];rw[Tm (x:=(([]:List (List za)),shutAll a.1 a.2,([]:List zk))) (Qm (fun s=> ∃b:PSt,s=(parL b,b.1,parO b)/\shutAll b.1 b.2=shutAll a.1 a.2/\b.2.length<=16/\ ∀p∈b.2,p.2.length<=1500) (fun s=>s.2.2.length) _ ?_ ⟨a,rfl,rfl,b1,fun p hp=>ma (b3 p hp) (by omega)⟩)]
  ·rfl
  ·rintro _ ⟨⟨cur,_|⟨⟨o,out⟩,st⟩⟩,rfl,q1,q2,q3⟩
   ·exact .inr (.inl ⟨_,rfl,by rw[<-q1];rfl⟩)
   ·have hlen:(parO (cur,(o,out)::st)).length=st.length+1:=by rw[Fv];rfl
    have hst:st.length+1<=16:=q2;have e0:decide (((parO (cur,(o,out)::st)).length:Int)>0)=true:=Fa (by rw[hlen];omega);refine .inl ⟨_,?_,⟨Ik (cur,(o,out)::st),rfl,q1,by show st.length<=16;omega,fun p hp=>q3 p (Cb _ hp)⟩,?_⟩
    ·simp only[e0,Ca,ze];rw[vT (by omega) (ma (q3 (o,out) (Jb ..)) (by omega))];rfl
    ·rw[hlen];show(parO (Ik (cur,(o,out)::st))).length<st.length+1;rw[Fv];show st.length<st.length+1;omega
theorem gv_parse:ZP Tryz.prog (NL parseF):=by
 have:=eU
 rwa [show Mx=parseF from funext iU]at this
end Go.Lv.VT
namespace Go.Lv
theorem AV:ZP Proofs.Tryz.prog (⟨13,⟨[.sl 59],[]⟩,[],⟨[.sl 61, .int .i64],[]⟩,0,VT.parseF⟩:Con VT.I):=VT.gv_parse
theorem CV:ZP Proofs.Tryz.prog (⟨10,⟨[.str],[]⟩,[],⟨[.str, .int .i64],[]⟩,0,Yi⟩:Con VT.I):=MX
end Go.Lv
end
