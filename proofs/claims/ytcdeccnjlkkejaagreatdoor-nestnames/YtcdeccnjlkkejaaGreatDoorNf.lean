/- NestNames: the chapter's examples, the greatest depth, stray closers, limits and errors. -/
import Derived.Test.YtcdeccnjlkkejaaGreatDoorNa
import Derived.Test.YtcdeccnjlkkejaaGreatDoorNb
import Derived.Test.YtcdeccnjlkkejaaGreatDoorTy
set_option linter.unusedSimpArgs false
set_option linter.unusedVariables false
namespace Go.Lv.VT
set_option maxRecDepth 100000
abbrev tK(k:Int):zf:=⟨k,[],0,[],false⟩
abbrev vK(k:Int)(l:List zg):zg:=⟨tK k,l⟩
theorem set_mid{α:Type}: ∀(A:List α) (z c:α) (R:List α),(A++z::R).set A.length c=A++c::R/\(A++z::R)[A.length]? =some z
 |[],_,_,_=>⟨rfl,rfl⟩
 |a::A,z,c,R=>by obtain⟨h1,h2⟩:=set_mid A z c R;exact⟨by simp only[Xc,Ob,List.set_cons_succ,h1],by simp only[Xc,Ob,List.getElem?_cons_succ,h2]⟩
theorem fill{k:Int}{n:Nat}(hn:n<=big){R:Type}(K:List zf->Option R)(y:R)(hK:K (List.replicate n (tK k))=some y){N:Int}(hN:N=(n:Int)):
  qX (fun(s1:Int×List zf)=>
   bif decide (s1.1<N)then
    need (decide (0<=s1.1)&&decide (s1.1<(s1.2.length:Int)))<|
    ze s1.2[s1.1.toNat]? fun y2=>
    some (LO.again (w64 (s1.1+1),List.set s1.2 s1.1.toNat (⟨k,y2.text,y2.num,y2.unit,y2.flag⟩:zf)))
   else
    some (LO.out s1.2):Int×List zf->Option (LO (Int×List zf) (List zf) R)) (0,List.replicate n (tK 0)) K=some y:=by
 subst hN;refine mK (fun z=> ∃i m:Nat,i+m=n/\z=((i:Int),List.replicate i (tK k)++List.replicate m (tK 0))) (fun z=>n - z.1.toNat) y ?_ ⟨0,n,by omega,rfl⟩;rintro _ ⟨i,m,hi,rfl⟩;cases m with
 |zero=>
  have:i=n:=by omega
  subst this;refine .inr (.inl ⟨List.replicate i (tK k),?_,hK⟩);simp only[FB,Ed,List.replicate_zero,Ic]
 |succ m=>
  have hlt:i<n:=by omega
  have hl:(List.replicate i (tK k)++List.replicate (m+1) (tK 0)).length=n:=by simp only[Ja,Gc];exact hi
  obtain⟨h1,h2⟩:=set_mid (List.replicate i (tK k)) (tK 0) (tK k) (List.replicate m (tK 0));rw[Gc]at h1 h2;refine .inl ⟨_,?_,⟨i+1,m,by omega,rfl⟩,by simp only[jb];omega⟩;have hd:(decide ((0:Int)<=(i:Int))&&decide ((i:Int)<(n:Int)))=true:=by rw[Od (show(0:Int)<=(i:Int) by omega),Od (show(i:Int)<(n:Int) by omega)];rfl
  simp only[Ui hlt,Bc,hl,hd,zaL,jb,ze];rw[Uf,h2,aa,h1,oh hlt hn];rw[List.replicate_succ',Lc];rfl
theorem Ow{n:Nat}(hn:n<=100):ZN (n:Int)=some (List.replicate n (tK 21)):=by
 unfold ZN;have hd:(decide ((0:Int)<=(n:Int))&&decide ((n:Int)<=(n:Int))&&decide ((n:Int)*56<=140737488355328)&&decide ((n:Int)<=9223372036854775807))=true:=by rw[Od (show(0:Int)<=(n:Int) by omega),Od (show(n:Int)<=(n:Int) by omega),Od (show(n:Int)*56<=140737488355328 by omega),Od (show(n:Int)<=9223372036854775807 by omega)];rfl
 rw[hd,zaL,jb];exact fill (by unfold big;omega) some _ rfl rfl
theorem Vy: ∀(n:Nat) (cur:List zg) (st:List (zf×List zg)),ym st (tK 18)=false->Qa (List.replicate n (tK 18)) (cur,st)=some (cur++List.replicate n (vK 18 []),st)
 |0,cur,st,_=>by rw[List.replicate_zero,List.replicate_zero,Ic,Qa]
 |n+1,cur,st,h=>by rw[Uf,Qa];unfold Qz;rw[Oa (by rw[h];decide),Oa (show¬zI (tK 18).kind≠0 from fun q=>q rfl),aa,Vy n _ st h,Uf,Lc];rfl
theorem kC{l:List zf}(h:1500<l.length):parS l=([],4):=by unfold parS;rw[Va h]
theorem PO:parS (List.replicate 1500 (tK 18))=(List.replicate 1500 (vK 18 []),0):=by have h1:(List.replicate 1500 (tK 18)).length=1500:=Gc ..;unfold parS;rw[Oa (by omega),Vy 1500 [] [] rfl];simp only[h1,Tc,Vd];rw[Oa (by omega),shutAll]
theorem PL:parS (tK 21::List.replicate 1499 (tK 18))=([],4):=by
 have h1:(tK 21::List.replicate 1499 (tK 18)).length=1500:=by rw[Ob,Gc]
 have h2:Qa (tK 21::List.replicate 1499 (tK 18)) ([],[])=some ([]++List.replicate 1499 (vK 18 []),[(tK 21,[])]):=by rw[Qa,show Qz ([],[]) (tK 21)=some ([],[(tK 21,[])])from rfl,aa,Vy 1499 [] _ rfl]
 unfold parS;rw[Oa (by omega),h2];simp only[h1,Ob,Tc];rw[Va (by omega)]
def deepest:List zg:=(parS (List.replicate 16 (tK 21))).1
theorem stray:Qg [97,41,98,93,99,125,40,100,125,101,93]=some ([97,41,98,93,99,125,40,100,125,101,93,41],1,true):=NG 400 _ _ (by decide+kernel)
theorem LJ:Wi [vK 8 []]=some ([],8):=RF 60 _ _ (by decide+kernel)
theorem Ph{l:List zg}(h:szL l<=1000):szL l<=big:=by unfold big;omega
theorem YP:dz ()=some true:=by
 unfold dz;refine fill (n:=1501) (by decide) _ true ?_ rfl;have e1:(List.replicate 1501 (tK 18)).length=1501:=Gc ..;have e2: ∀n:Nat,n<=1501->decide ((n:Int)<=((List.replicate 1501 (tK 18)).length:Int))=true:=fun n h=>by rw[e1];exact Od (by omega)
 have e3: ∀n:Nat,n<=1501->List.take n (List.replicate 1501 (tK 18))=List.replicate n (tK 18):=fun n h=>by rw[List.take_replicate,Nat.min_eq_left h]
 have p1:parS (List.replicate 1501 (tK 18))=([],4):=kC (by rw[e1];omega);have p2:parS (List.replicate 17 (tK 21)++List.replicate 1484 (tK 18))=([],4):=kC (by rw[Ja,Gc,Gc];omega);have p3:parS (List.replicate 1 (tK 21)++List.replicate 1499 (tK 18))=([],4):=PL;have p4:parS (List.replicate 16 (tK 21))=(deepest,0):=by kernel_rfl
 have p5:parS (List.replicate 17 (tK 21))=([],20):=by kernel_rfl
 have p6:parS []=([],0):=rfl;have d1:=e2 1500 (by omega);have d2:=e2 1499 (by omega);have d3:=e2 1484 (by omega);have o1:ZN 1=some (List.replicate 1 (tK 21)):=Ow (n:=1) (by omega);have o2:ZN 17=some (List.replicate 17 (tK 21)):=Ow (n:=17) (by omega);have o3:ZN 16=some (List.replicate 16 (tK 21)):=Ow (n:=16) (by omega);have a1:zC (List.replicate 1 (tK 21)).length (List.replicate 1499 (tK 18)).length 56=true:=Rj (by rw[Gc,Gc];omega);have a2:zC (List.replicate 17 (tK 21)).length (List.replicate 1484 (tK 18)).length 56=true:=Rj (by rw[Gc,Gc];omega);have n1:qV deepest=some (16,0):=by rw[GN (Ph (by decide+kernel))];kernel_rfl
 have c1:zH [vK 18 [vK 18 []]]=some 8:=by rw[QW (Ph (by decide+kernel))];kernel_rfl
 have c2:zH [vK 21 [vK 22 []]]=some 8:=by rw[QW (Ph (by decide+kernel))];kernel_rfl
 have c3:zH [vK 22 []]=some 0:=by rw[QW (Ph (by decide+kernel))];kernel_rfl
 have c4:zH [vK 21 deepest,vK 18 [vK 18 []]]=some 20:=by rw[QW (Ph (by decide+kernel))];kernel_rfl
 have s1:qW ([],18)=some ([[]],0):=by rw[Cy (Ph (by decide+kernel))];kernel_rfl
 have s2:qW ([vK 18 []],0)=some ([],2):=by rw[Cy (Ph (by decide+kernel))];kernel_rfl
 have s3:qW ([vK 18 []],25)=some ([],2):=by rw[Cy (Ph (by decide+kernel))];kernel_rfl
 have t1:Sl [vK 18 [vK 18 []]]=some ([],8):=by rw[gK (Ph (by decide+kernel))];kernel_rfl
 have f1:Ul [vK 21 [vK 22 []]]=some ([],8):=by rw[mP (Ph (by decide+kernel))];kernel_rfl
 simp only[parseF,parseFo,ze,aa,d1,d2,d3,zaL,e3 1500 (by omega),e3 1499 (by omega),e3 1484 (by omega),o1,o2,o3,a1,a2,p1,p2,p3,p4,p5,p6,PO,n1,stray,s1,c1,c2,c3,c4,s2,s3,t1,f1,LJ];simp only[NJ,zbV,aa,show((4:Int)==4)=true from rfl,show((0:Int)==0)=true from rfl,show((20:Int)==20)=true from rfl,show((8:Int)==8)=true from rfl,show((2:Int)==2)=true from rfl,show((16:Int)==16)=true from rfl,Bc];rfl
end Go.Lv.VT
