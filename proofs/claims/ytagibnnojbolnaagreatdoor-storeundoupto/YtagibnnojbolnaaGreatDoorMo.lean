/- Laws for the plain texts: loops that look for something; bytes. -/
import Derived.Test.YtagibnnojbolnaaGreatDoorLf
import Derived.Test.YtagibnnojbolnaaGreatDoorTx
set_option linter.unusedSimpArgs false
set_option linter.unusedVariables false
namespace Go.Lv.VT
abbrev big:Nat:=4194304
theorem zO{i n:Nat}(h:i<n):decide ((i:Int)<(n:Int))=true:=Fa (by omega)
theorem zW(n:Nat):decide ((n:Int)<(n:Int))=false:=Ia (by omega)
theorem zG{i n:Nat}(h:i<n)(a:n<=big):w64 ((i:Int)+1)=((i+1:Nat):Int):=by rw[w64,ZT (by omega) (by grind)];omega
theorem zX{α:Type}(b:Bool)(v d:α):zF b (some v) d=some (bif b then v else d):=by cases b<;>rfl
theorem eU{i n:Nat}(h:i<n):(decide ((0:Int)<=(i:Int))&&decide ((i:Int)<(n:Int)))=true:=by
 grind
theorem qf {α X R:Type} {step:Int->Option (LO Int X R)} {k:X->Option R} (l:List α) (q:α->Option R) (x:X)
  (hg: ∀(i:Nat) (h:i<l.length),step (i:Int)=some (match q l[i]with|some r=> .ret r|none=> .again ((i+1:Nat):Int)))
  (hf:step (l.length:Int)=some (.out x)):zU step 0 k=match l.findSome? q with|some r=>some r|none=>k x:=by
 have key: ∀(m:List α) (i:Nat),l.drop i=m->i<=l.length-> ∃n,qd step n (i:Int)=some (match m.findSome? q with|some r=> .ret r|none=> .out x):=by
  intro m
  induction m with
  |nil=>
   intro i hd hi;have:i=l.length:=by have:=Jd.1 hd;omega
   subst this;exact⟨1,by simp only[qd,hf,List.findSome?_nil]⟩
  |cons v m ih=>
   intro i hd hi;have hlt:i<l.length:=by
    rcases Yd i l.length with h|h
    ·exact h
    ·grind
   have hv:l[i]=v:=by have:=Ab hlt;rw[hd]at this;injection this with h1 _;exact h1.symm
   have hs:=hg i hlt;rw[hv]at hs;cases hq:q v with
   |some r=> rw[hq]at hs;exact⟨1,by simp only[qd,hs,List.findSome?_cons,hq]⟩
   |none=> rw[hq]at hs;obtain⟨n,hn⟩:=ih (i+1) (by rw[Ab hlt]at hd;injection hd) (by omega);refine⟨n+1,?_⟩;simp only[qd,hs,List.findSome?_cons,hq];exact hn
 obtain⟨n,hn⟩:=key l 0 rfl (by omega);replace hn:qd step n 0=_:=hn;rw[qP (Ai hn)];cases l.findSome? q<;>rfl
theorem Bi{α R:Type}(p:α->Bool)(r:R): ∀(l:List α),l.findSome? (fun v=>bif p v then none else some r)=bif l.all p then none else some r
 |[]=>rfl
 |v::l=>by
  rw[List.findSome?_cons,Ad];cases p v with
  |false=>rfl
  |true=>exact Bi p r l
theorem nI{α R:Type}(p:α->Bool)(r:R): ∀(l:List α),l.findSome? (fun v=>bif p v then some r else none)=bif l.any p then some r else none
 |[]=>rfl
 |v::l=>by
  rw[List.findSome?_cons,Hf];cases p v with
  |true=>rfl
  |false=>exact nI p r l
def idxS{α:Type}(p:α->Bool):List α->Int
 |[]=> -1
 |v::l=>bif p v then 0 else bif decide (idxS p l<0)then -1 else idxS p l+1
theorem Mk{α:Type}(p:α->Bool): ∀(l:List α),decide (idxS p l>=0)=l.any p
 |[]=>rfl
 |v::l=>by
  have a:=Mk p l;rw[Hf,idxS]
  grind
theorem RO{α:Type}(p:α->Bool): ∀(l:List α), -1<=idxS p l/\idxS p l<l.length
 |[]=>by simp[idxS]
 |v::l=>by
  have:=RO p l;rw[idxS,Ga]
  grind
theorem Li {α:Type} {step:Int->Option (LO Int Unit Int)} (l:List α) (p:α->Bool) (hn:l.length<=big)
  (hg: ∀(i:Nat) (h:i<l.length),step (i:Int)=bif p l[i]then some (.ret (i:Int))else some (.again (w64 ((i:Int)+1))))
  (hf:step (l.length:Int)=some (.out ())):zU step 0 (fun _=>some (-1))=some (idxS p l):=by
 have key: ∀(m:List α) (i:Nat),l.drop i=m->i<=l.length-> ∃n,qd step n (i:Int)=some (bif decide (idxS p m<0)then .out ()else .ret ((i:Int)+idxS p m)):=by
  intro m
  induction m with
  |nil=>
   intro i hd hi;have:i=l.length:=by have:=Jd.1 hd;omega
   subst this;exact⟨1,by simp only[qd,hf];rfl⟩
  |cons v m ih=>
   intro i hd hi;have hlt:i<l.length:=by
    rcases Yd i l.length with h|h
    ·exact h
    ·grind
   have hv:l[i]=v:=by have:=Ab hlt;rw[hd]at this;injection this with h1 _;exact h1.symm
   have hs:=hg i hlt;rw[hv]at hs;cases hq:p v with
   |true=> rw[hq]at hs;refine⟨1,?_⟩;simp only[qd,hs,Ca,idxS,hq];simp
   |false=>
    rw[hq,Ba,zG hlt hn]at hs;obtain⟨n,hn'⟩:=ih (i+1) (by rw[Ab hlt]at hd;injection hd) (by omega);refine⟨n+1,?_⟩;simp only[qd,hs,idxS,hq,Ba]
    grind
 obtain⟨n,hn'⟩:=key l 0 rfl (by omega);replace hn':qd step n 0=_:=hn';rw[qP (Ai hn')];have hb:=RO p l;by_cases h0:idxS p l<0
 ·rw[Fa h0];show some (-1)=_;congr 1;omega
 ·rw[Ia h0];simp_all
set_option maxRecDepth 100000
theorem rG(x:Str×Int):Le (@Ap fuK x) (@Ap pl x):=by unfold Ap;exact(.loopU (fun _=>(.bind .rfl fun _=>(.bind .rfl fun _=>(.bif .rfl .rfl)))) fun _=> .rfl)
theorem JH(x:Str×Int):Le (@wo fuK x) (@wo pl x):=by unfold wo;exact(.bif (.bind .rfl fun _=> .rfl) (.bind .rfl fun _=>(.bind .rfl fun _=>(.bif (.need .rfl) (.loopU (fun _=>(.bind .rfl fun _=>(.bind .rfl fun _=>(.bif (.bind .rfl fun _=>(.bind .rfl fun _=> .rfl)) .rfl)))) fun _=>(.join (.bind .rfl fun _=>(.bind .rfl fun _=>(.bif .rfl .rfl))) fun _=>(.bind .rfl fun _=> .rfl)))))))
theorem zsh(x:Str×Int):Le (@Fz fuK x) (@Fz pl x):=by unfold Fz;exact(.bind .rfl fun _=>(.loopU (fun _=>(.bif (.bind .rfl fun _=>(.bif .rfl (.bind .rfl fun _=>(.bif .rfl (.bind .rfl fun _=>(.bif .rfl (.bind .rfl fun _=>(.bind .rfl fun _=>(.bif .rfl (.bind .rfl fun _=>(.bif (.bind (JH _) fun _=>(.need .rfl)) (.need (.need .rfl))))))))))))) .rfl)) fun _=> .rfl))
theorem NG(x:Str×Int):Le (@uo fuK x) (@uo pl x):=by unfold uo;exact(.loopU (fun _=>(.bind .rfl fun _=>(.bind .rfl fun _=>(.bif (.need (.need .rfl)) (.bind .rfl fun _=>(.bif (.bind (JH _) fun _=>(.need .rfl)) .rfl)))))) fun _=> .rfl)
theorem YL(x:Str×Int):Le (@Mr fuK x) (@Mr pl x):=by unfold Mr;exact(.loopU (fun _=>(.bind .rfl fun _=>(.bind .rfl fun _=>(.bif .rfl .rfl)))) fun _=> .rfl)
theorem znR(x:Str×Int):Le (@oz fuK x) (@oz pl x):=by unfold oz;exact(.join (.bind .rfl fun _=>(.bif .rfl .rfl)) fun _=>(.bind (YL _) fun _=>(.join (.bind .rfl fun _=>(.bind .rfl fun _=>(.bind .rfl fun _=>(.bif (.bind (YL _) fun _=> .rfl) .rfl)))) fun _=>(.join (.bind .rfl fun _=>(.bif (.join (.bind .rfl fun _=>(.bif .rfl .rfl)) fun _=>(.bind .rfl fun _=>(.bind .rfl fun _=>(.bif (.bind (YL _) fun _=> .rfl) .rfl)))) .rfl)) fun _=> .rfl))))
theorem zlv(x:Str):Le (@yz fuK x) (@yz pl x):=by unfold yz;exact(.bind .rfl fun _=>(.join (.bind .rfl fun _=>(.bif .rfl .rfl)) fun _=>(.loopU (fun _=>(.bind .rfl fun _=>(.bind .rfl fun _=>(.bif (.need (.need .rfl)) .rfl)))) fun _=>(.join (.bind .rfl fun _=>(.bif (.loopU (fun _=>(.bind .rfl fun _=>(.bind .rfl fun _=>(.bif (.need (.need .rfl)) .rfl)))) fun _=> .rfl) .rfl)) fun _=>(.join (.bif (.bind .rfl fun _=>(.join (.bind .rfl fun _=>(.bif .rfl .rfl)) fun _=>(.loopU (fun _=>(.bif (.bind .rfl fun _=> .rfl) .rfl)) fun _=>(.join (.bif .rfl .rfl) fun _=> .rfl)))) .rfl) fun _=>(.loopU (fun _=>(.bif (.bind .rfl fun _=> .rfl) .rfl)) fun _=>(.loopU (fun _=>(.bif .rfl .rfl)) fun _=>(.bif .rfl .rfl))))))))
theorem zqz(x:Str×Int):Le (@Uz fuK x) (@Uz pl x):=by unfold Uz;exact(.bind (znR _) fun _=>(.need (.bind (zlv _) fun _=>(.join (.bind .rfl fun _=>(.bif (.bind (NG _) fun _=> .rfl) (.bind .rfl fun _=>(.bif .rfl .rfl)))) fun _=> .rfl))))
theorem wR(x:Str):Le (@QJ fuK x) (@QJ pl x):=by unfold QJ;exact(.need (.loopU (fun _=>(.bif (.need (.bind .rfl fun _=>(.bind .rfl fun _=>(.need (.bind .rfl fun _=>(.bind .rfl fun _=> .rfl)))))) .rfl)) fun _=> .rfl))
theorem zuo(x:Str×Str):Le (@Hm fuK x) (@Hm pl x):=by unfold Hm;exact(.bind (wR _) fun _=>(.bind (wR _) fun _=> .rfl))
theorem yQ(x:Str×Int):Le (@Nu fuK x) (@Nu pl x):=by unfold Nu;exact(.loopU (fun _=>(.bind .rfl fun _=>(.bif (.bind .rfl fun _=>(.bif (.bind (JH _) fun _=> .rfl) .rfl)) .rfl))) fun _=> .rfl)
theorem zAM(x:Str×Int):Le (@Dy fuK x) (@Dy pl x):=by unfold Dy;exact(.bind (rG _) fun _=>(.loopU (fun _=>(.bind .rfl fun _=>(.bif (.bind .rfl fun _=>(.bind .rfl fun _=>(.bif (.bind (rG _) fun _=>(.bind .rfl fun _=>(.bif (.bind (yQ _) fun _=> .rfl) .rfl))) (.bind .rfl fun _=>(.bind .rfl fun _=>(.bif (.bind (yQ _) fun _=> .rfl) (.bif (.bind (JH _) fun _=>(.need .rfl)) (.need (.need .rfl))))))))) .rfl))) fun _=> .rfl))
theorem M8(x:Str×Int):Le (@Oy fuK x) (@Oy pl x):=by unfold Oy;exact(.bind (NG _) fun _=>(.bind .rfl fun _=>(.bif .rfl (.join (.bind (zuo _) fun _=>(.bif (.bind (rG _) fun _=>(.bind .rfl fun _=>(.bif (.bind (zAM _) fun _=> .rfl) .rfl))) .rfl)) fun _=> .rfl))))
theorem zAL(x:Str×Int):Le (@Ey fuK x) (@Ey pl x):=by unfold Ey;exact(.bind .rfl fun _=>(.bind .rfl fun _=>(.bif (.bind (rG _) fun _=> .rfl) (.bif (.bind (zsh _) fun _=> .rfl) (.bind .rfl fun _=>(.bind .rfl fun _=>(.bind .rfl fun _=>(.bif (.bind (NG _) fun _=>(.bind .rfl fun _=> .rfl)) (.bind .rfl fun _=>(.bif (.bind (zqz _) fun _=> .rfl) (.bind .rfl fun _=>(.bif .rfl (.bind .rfl fun _=>(.bif .rfl (.bind .rfl fun _=>(.bif (.bind (NG _) fun _=> .rfl) (.bind .rfl fun _=>(.bif (.bind (M8 _) fun _=> .rfl) (.bind .rfl fun _=>(.bif (.bind .rfl fun _=> .rfl) (.need .rfl)))))))))))))))))))))
theorem zup(x:Int):Le (@QK fuK x) (@QK pl x):=by unfold QK;exact(.bind .rfl fun _=>(.bind (zAL _) fun _=> .rfl))
end Go.Lv.VT
