import Derived.Test.YtiidaccdmolmkaaGreatDoorTx
set_option linter.all false
namespace Go.Lv.VT
abbrev co:Nat:=4194304
def zN{i n:Nat}(h:i<n):decide ((i:Int)<(n:Int))=true:=Ga (by omega)
def Nh(n:Nat):decide ((n:Int)<(n:Int))=false:=Ma (by omega)
def zD{i n:Nat}(h:i<n)(a:n<=co):cj ((i:Int)+1)=((i+1:Nat):Int):=by rw[cj,ZX (by omega) (by grind)];omega
def zO{α:Type}(b:Bool)(v d:α):zA b (some v) d=some (bif b then v else d):=by cases b<;>rfl
def qd {α X R:Type}{step:Int->Option (LO Int X R)}{k:X->Option R}(l:List α)(q:α->Option R)(x:X)
  (e: ∀(i:Nat) (h:i<l.length),step (i:Int)=some (match q l[i]with|some r=> .ret r|none=> .again ((i+1:Nat):Int)))
  (hf:step (l.length:Int)=some (.out x)):zM step 0 k=match l.findSome? q with|some r=>some r|none=>k x:=by
 have d: ∀(m:List α) (i:Nat),l.drop i=m->i<=l.length-> ∃n,ZP step n (i:Int)=some (match m.findSome? q with|some r=> .ret r|none=> .out x):=by
  intro m
  induction m with
  |nil=>
   intro i b hi;have:i=l.length:=by have:=Ad.1 b;omega
   subst this;exact⟨1,by simp only[ZP,hf,List.findSome?_nil]⟩
  |cons v m f=>
   intro i b hi;have a:i<l.length:=by
    rcases Ec i l.length with h|h
    ·exact h
    ·grind
   have hv:l[i]=v:=by have:=Eb a;rw[b]at this;injection this with h1 _;exact h1.symm
   have hs:=e i a;rw[hv]at hs;cases c:q v with
   |some r=> rw[c]at hs;exact⟨1,by simp only[ZP,hs,List.findSome?_cons,c]⟩
   |none=> rw[c]at hs;obtain⟨n,hn⟩:=f (i+1) (by rw[Eb a]at b;injection b) (by omega);refine⟨n+1,?_⟩;simp only[ZP,hs,List.findSome?_cons,c];exact hn
 obtain⟨n,hn⟩:=d l 0 rfl (by omega);replace hn:ZP step n 0=_:=hn;rw[Di (qM hn)];cases l.findSome? q<;>rfl
def Dj{α R:Type}(p:α->Bool)(r:R): ∀(l:List α),l.findSome? (λv=>bif p v then none else some r)=bif l.all p then none else some r
 |[]=>rfl
 |v::l=>by
  rw[List.findSome?_cons,Yc];cases p v with
  |false=>rfl
  |true=>exact Dj p r l
def MM{α R:Type}(p:α->Bool)(r:R): ∀(l:List α),l.findSome? (λv=>bif p v then some r else none)=bif l.any p then some r else none
 |[]=>rfl
 |v::l=>by
  rw[List.findSome?_cons,ug];cases p v with
  |true=>rfl
  |false=>exact MM p r l
def jz{α:Type}(p:α->Bool):List α->Int
 |[]=> -1
 |v::l=>bif p v then 0 else bif decide (jz p l<0)then -1 else jz p l+1
def Ym{α:Type}(p:α->Bool): ∀(l:List α),decide (jz p l>=0)=l.any p
 |[]=>rfl
 |v::l=>by
  have a:=Ym p l;rw[ug,jz]
  grind
def E5{α:Type}(p:α->Bool): ∀(l:List α), -1<=jz p l/\jz p l<l.length
 |[]=>by simp[jz]
 |v::l=>by
  have:=E5 p l;rw[jz,Ha]
  grind
def Po {α:Type}{step:Int->Option (LO Int Unit Int)}(l:List α)(p:α->Bool)(hn:l.length<=co)
  (f: ∀(i:Nat) (h:i<l.length),step (i:Int)=bif p l[i]then some (.ret (i:Int))else some (.again (cj ((i:Int)+1))))
  (hf:step (l.length:Int)=some (.out ())):zM step 0 (λ_=>some (-1))=some (jz p l):=by
 have e: ∀(m:List α) (i:Nat),l.drop i=m->i<=l.length-> ∃n,ZP step n (i:Int)=some (bif decide (jz p m<0)then .out ()else .ret ((i:Int)+jz p m)):=by
  intro m
  induction m with
  |nil=>
   intro i c hi;have:i=l.length:=by have:=Ad.1 c;omega
   subst this;exact⟨1,by simp only[ZP,hf];rfl⟩
  |cons v m j=>
   intro i c hi;have a:i<l.length:=by
    rcases Ec i l.length with h|h
    ·exact h
    ·grind
   have hv:l[i]=v:=by have:=Eb a;rw[c]at this;injection this with h1 _;exact h1.symm
   have hs:=f i a;rw[hv]at hs;cases d:p v with
   |true=> rw[d]at hs;refine⟨1,?_⟩;simp only[ZP,hs,Ca,jz,d];simp
   |false=>
    rw[d,Ba,zD a hn]at hs;obtain⟨n,b⟩:=j (i+1) (by rw[Eb a]at c;injection c) (by omega);refine⟨n+1,?_⟩;simp only[ZP,hs,jz,d,Ba]
    grind
 obtain⟨n,b⟩:=e l 0 rfl (by omega);replace b:ZP step n 0=_:=b;rw[Di (qM b)];have hb:=E5 p l;by_cases h0:jz p l<0
 ·rw[Ga h0];show some (-1)=_;congr 1;omega
 ·rw[Ma h0];simp_all
set_option maxRecDepth 100000
def TJ(x:aE×Int):Le (@QT fuK x) (@QT pl x):=by unfold QT;exact(.loopU (λ_=>(.bind .rfl λ_=>(.bind .rfl λ_=>(.bif .rfl .rfl)))) λ_=> .rfl)
def EK(x:aE×Int):Le (@qw fuK x) (@qw pl x):=by unfold qw;exact(.bif (.bind .rfl λ_=> .rfl) (.bind .rfl λ_=>(.bind .rfl λ_=>(.bif (.need .rfl) (.loopU (λ_=>(.bind .rfl λ_=>(.bind .rfl λ_=>(.bif (.bind .rfl λ_=>(.bind .rfl λ_=> .rfl)) .rfl)))) λ_=>(.join (.bind .rfl λ_=>(.bind .rfl λ_=>(.bif .rfl .rfl))) λ_=>(.bind .rfl λ_=> .rfl)))))))
def zs4(x:aE×Int):Le (@Su fuK x) (@Su pl x):=by unfold Su;exact(.bind .rfl λ_=>(.loopU (λ_=>(.bif (.bind .rfl λ_=>(.bif .rfl (.bind .rfl λ_=>(.bif .rfl (.bind .rfl λ_=>(.bif .rfl (.bind .rfl λ_=>(.bind .rfl λ_=>(.bif .rfl (.bind .rfl λ_=>(.bif (.bind (EK _) λ_=>(.need .rfl)) (.need (.need .rfl))))))))))))) .rfl)) λ_=> .rfl))
def DJ(x:aE×Int):Le (@Kn fuK x) (@Kn pl x):=by unfold Kn;exact(.loopU (λ_=>(.bind .rfl λ_=>(.bind .rfl λ_=>(.bif (.need (.need .rfl)) (.bind .rfl λ_=>(.bif (.bind (EK _) λ_=>(.need .rfl)) .rfl)))))) λ_=> .rfl)
def KP(x:aE×Int):Le (@QS fuK x) (@QS pl x):=by unfold QS;exact(.loopU (λ_=>(.bind .rfl λ_=>(.bind .rfl λ_=>(.bif .rfl .rfl)))) λ_=> .rfl)
def zoj(x:aE×Int):Le (@Q7 fuK x) (@Q7 pl x):=by unfold Q7;exact(.join (.bind .rfl λ_=>(.bif .rfl .rfl)) λ_=>(.bind (KP _) λ_=>(.join (.bind .rfl λ_=>(.bind .rfl λ_=>(.bind .rfl λ_=>(.bif (.bind (KP _) λ_=> .rfl) .rfl)))) λ_=>(.join (.bind .rfl λ_=>(.bif (.join (.bind .rfl λ_=>(.bif .rfl .rfl)) λ_=>(.bind .rfl λ_=>(.bind .rfl λ_=>(.bif (.bind (KP _) λ_=> .rfl) .rfl)))) .rfl)) λ_=> .rfl))))
def zl7(x:aE):Le (@Qb fuK x) (@Qb pl x):=by unfold Qb;exact(.bind .rfl λ_=>(.join (.bind .rfl λ_=>(.bif .rfl .rfl)) λ_=>(.loopU (λ_=>(.bind .rfl λ_=>(.bind .rfl λ_=>(.bif (.need (.need .rfl)) .rfl)))) λ_=>(.join (.bind .rfl λ_=>(.bif (.loopU (λ_=>(.bind .rfl λ_=>(.bind .rfl λ_=>(.bif (.need (.need .rfl)) .rfl)))) λ_=> .rfl) .rfl)) λ_=>(.join (.bif (.bind .rfl λ_=>(.join (.bind .rfl λ_=>(.bif .rfl .rfl)) λ_=>(.loopU (λ_=>(.bif (.bind .rfl λ_=> .rfl) .rfl)) λ_=>(.join (.bif .rfl .rfl) λ_=> .rfl)))) .rfl) λ_=>(.loopU (λ_=>(.bif (.bind .rfl λ_=> .rfl) .rfl)) λ_=>(.loopU (λ_=>(.bif .rfl .rfl)) λ_=>(.bif .rfl .rfl))))))))
def zqX(x:aE×Int):Le (@Nu fuK x) (@Nu pl x):=by unfold Nu;exact(.bind (zoj _) λ_=>(.need (.bind (zl7 _) λ_=>(.join (.bind .rfl λ_=>(.bif (.bind (DJ _) λ_=> .rfl) (.bind .rfl λ_=>(.bif .rfl .rfl)))) λ_=> .rfl))))
def xV(x:aE):Le (@QB fuK x) (@QB pl x):=by unfold QB;exact(.need (.loopU (λ_=>(.bif (.need (.bind .rfl λ_=>(.bind .rfl λ_=>(.need (.bind .rfl λ_=>(.bind .rfl λ_=> .rfl)))))) .rfl)) λ_=> .rfl))
def zvn(x:aE×aE):Le (@Q6 fuK x) (@Q6 pl x):=by unfold Q6;exact(.bind (xV _) λ_=>(.bind (xV _) λ_=> .rfl))
def yU(x:aE×Int):Le (@dm fuK x) (@dm pl x):=by unfold dm;exact(.loopU (λ_=>(.bind .rfl λ_=>(.bif (.bind .rfl λ_=>(.bif (.bind (EK _) λ_=> .rfl) .rfl)) .rfl))) λ_=> .rfl)
def zBP(x:aE×Int):Le (@Yt fuK x) (@Yt pl x):=by unfold Yt;exact(.bind (TJ _) λ_=>(.loopU (λ_=>(.bind .rfl λ_=>(.bif (.bind .rfl λ_=>(.bind .rfl λ_=>(.bif (.bind (TJ _) λ_=>(.bind .rfl λ_=>(.bif (.bind (yU _) λ_=> .rfl) .rfl))) (.bind .rfl λ_=>(.bind .rfl λ_=>(.bif (.bind (yU _) λ_=> .rfl) (.bif (.bind (EK _) λ_=>(.need .rfl)) (.need (.need .rfl))))))))) .rfl))) λ_=> .rfl))
def zyA(x:aE×Int):Le (@Cu fuK x) (@Cu pl x):=by unfold Cu;exact(.bind (DJ _) λ_=>(.bind .rfl λ_=>(.bif .rfl (.join (.bind (zvn _) λ_=>(.bif (.bind (TJ _) λ_=>(.bind .rfl λ_=>(.bif (.bind (zBP _) λ_=> .rfl) .rfl))) .rfl)) λ_=> .rfl))))
def zBO(x:aE×Int):Le (@Yo fuK x) (@Yo pl x):=by unfold Yo;exact(.bind .rfl λ_=>(.bind .rfl λ_=>(.bif (.bind (TJ _) λ_=> .rfl) (.bif (.bind (zs4 _) λ_=> .rfl) (.bind .rfl λ_=>(.bind .rfl λ_=>(.bind .rfl λ_=>(.bif (.bind (DJ _) λ_=>(.bind .rfl λ_=> .rfl)) (.bind .rfl λ_=>(.bif (.bind (zqX _) λ_=> .rfl) (.bind .rfl λ_=>(.bif .rfl (.bind .rfl λ_=>(.bif .rfl (.bind .rfl λ_=>(.bif (.bind (DJ _) λ_=> .rfl) (.bind .rfl λ_=>(.bif (.bind (zyA _) λ_=> .rfl) (.bind .rfl λ_=>(.bif (.bind .rfl λ_=> .rfl) (.need .rfl)))))))))))))))))))))
def zvo(x:Int):Le (@QC fuK x) (@QC pl x):=by unfold QC;exact(.bind .rfl λ_=>(.bind (zBO _) λ_=> .rfl))
end Go.Lv.VT
