/- Laws for the plain texts: loops that look for something; bytes. -/
import Derived.Test.YtpodafkicdifmaaGreatDoorLf
import Derived.Test.YtpodafkicdifmaaGreatDoorTx
set_option linter.unusedSimpArgs false
set_option linter.unusedVariables false
namespace Go.Lv.VT
abbrev big:Nat:=4194304
theorem Zb{i n:Nat}(h:i<n):decide ((i:Int)<(n:Int))=true:=Ga (by omega)
theorem Ze(n:Nat):decide ((n:Int)<(n:Int))=false:=Ua (by omega)
theorem zK{i n:Nat}(h:i<n)(a:n<=big):w64 ((i:Int)+1)=((i+1:Nat):Int):=by rw[w64,ZY (by omega) (by grind)];omega
theorem zQ{α:Type}(b:Bool)(v d:α):zD b (some v) d=some (bif b then v else d):=by cases b<;>rfl
theorem aU{i n:Nat}(h:i<n):(decide ((0:Int)<=(i:Int))&&decide ((i:Int)<(n:Int)))=true:=by
 grind
theorem qc {α X R:Type} {step:Int->Option (LO Int X R)} {k:X->Option R} (l:List α) (q:α->Option R) (x:X)
  (hg: ∀(i:Nat) (h:i<l.length),step (i:Int)=some (match q l[i]with|some r=> .ret r|none=> .again ((i+1:Nat):Int)))
  (hf:step (l.length:Int)=some (.out x)):zU step 0 k=match l.findSome? q with|some r=>some r|none=>k x:=by
 have key: ∀(m:List α) (i:Nat),l.drop i=m->i<=l.length-> ∃n,Z6 step n (i:Int)=some (match m.findSome? q with|some r=> .ret r|none=> .out x):=by
  intro m
  induction m with
  |nil=>
   intro i hd hi;have:i=l.length:=by have:=Yc.1 hd;omega
   subst this;exact⟨1,by simp only[Z6,hf,List.findSome?_nil]⟩
  |cons v m ih=>
   intro i hd hi;have hlt:i<l.length:=by
    rcases Xd i l.length with h|h
    ·exact h
    ·grind
   have hv:l[i]=v:=by have:=ma hlt;rw[hd]at this;injection this with h1 _;exact h1.symm
   have hs:=hg i hlt;rw[hv]at hs;cases hq:q v with
   |some r=> rw[hq]at hs;exact⟨1,by simp only[Z6,hs,List.findSome?_cons,hq]⟩
   |none=> rw[hq]at hs;obtain⟨n,hn⟩:=ih (i+1) (by rw[ma hlt]at hd;injection hd) (by omega);refine⟨n+1,?_⟩;simp only[Z6,hs,List.findSome?_cons,hq];exact hn
 obtain⟨n,hn⟩:=key l 0 rfl (by omega);replace hn:Z6 step n 0=_:=hn;rw[qD (oh hn)];cases l.findSome? q<;>rfl
theorem Ci{α R:Type}(p:α->Bool)(r:R): ∀(l:List α),l.findSome? (fun v=>bif p v then none else some r)=bif l.all p then none else some r
 |[]=>rfl
 |v::l=>by
  rw[List.findSome?_cons,Lc];cases p v with
  |false=>rfl
  |true=>exact Ci p r l
theorem YI{α R:Type}(p:α->Bool)(r:R): ∀(l:List α),l.findSome? (fun v=>bif p v then some r else none)=bif l.any p then some r else none
 |[]=>rfl
 |v::l=>by
  rw[List.findSome?_cons,Pf];cases p v with
  |true=>rfl
  |false=>exact YI p r l
def idxS{α:Type}(p:α->Bool):List α->Int
 |[]=> -1
 |v::l=>bif p v then 0 else bif decide (idxS p l<0)then -1 else idxS p l+1
theorem Jk{α:Type}(p:α->Bool): ∀(l:List α),decide (idxS p l>=0)=l.any p
 |[]=>rfl
 |v::l=>by
  have a:=Jk p l;rw[Pf,idxS]
  grind
theorem wN{α:Type}(p:α->Bool): ∀(l:List α), -1<=idxS p l/\idxS p l<l.length
 |[]=>by simp[idxS]
 |v::l=>by
  have:=wN p l;rw[idxS,Fa]
  grind
theorem ni {α:Type} {step:Int->Option (LO Int Unit Int)} (l:List α) (p:α->Bool) (hn:l.length<=big)
  (hg: ∀(i:Nat) (h:i<l.length),step (i:Int)=bif p l[i]then some (.ret (i:Int))else some (.again (w64 ((i:Int)+1))))
  (hf:step (l.length:Int)=some (.out ())):zU step 0 (fun _=>some (-1))=some (idxS p l):=by
 have key: ∀(m:List α) (i:Nat),l.drop i=m->i<=l.length-> ∃n,Z6 step n (i:Int)=some (bif decide (idxS p m<0)then .out ()else .ret ((i:Int)+idxS p m)):=by
  intro m
  induction m with
  |nil=>
   intro i hd hi;have:i=l.length:=by have:=Yc.1 hd;omega
   subst this;exact⟨1,by simp only[Z6,hf];rfl⟩
  |cons v m ih=>
   intro i hd hi;have hlt:i<l.length:=by
    rcases Xd i l.length with h|h
    ·exact h
    ·grind
   have hv:l[i]=v:=by have:=ma hlt;rw[hd]at this;injection this with h1 _;exact h1.symm
   have hs:=hg i hlt;rw[hv]at hs;cases hq:p v with
   |true=> rw[hq]at hs;refine⟨1,?_⟩;simp only[Z6,hs,Ca,idxS,hq];simp
   |false=>
    rw[hq,Ba,zK hlt hn]at hs;obtain⟨n,hn'⟩:=ih (i+1) (by rw[ma hlt]at hd;injection hd) (by omega);refine⟨n+1,?_⟩;simp only[Z6,hs,idxS,hq,Ba]
    grind
 obtain⟨n,hn'⟩:=key l 0 rfl (by omega);replace hn':Z6 step n 0=_:=hn';rw[qD (oh hn')];have hb:=wN p l;by_cases h0:idxS p l<0
 ·rw[Ga h0];show some (-1)=_;congr 1;omega
 ·rw[Ua h0];simp_all
set_option maxRecDepth 100000
theorem tF(x:Str×Int):Le (@Rp fuK x) (@Rp pl x):=by unfold Rp;exact(.loopU (fun _=>(.bind .rfl fun _=>(.bind .rfl fun _=>(.bif .rfl .rfl)))) fun _=> .rfl)
theorem SG(x:Str×Int):Le (@Gp fuK x) (@Gp pl x):=by unfold Gp;exact(.bif (.bind .rfl fun _=> .rfl) (.bind .rfl fun _=>(.bind .rfl fun _=>(.bif (.need .rfl) (.loopU (fun _=>(.bind .rfl fun _=>(.bind .rfl fun _=>(.bif (.bind .rfl fun _=>(.bind .rfl fun _=> .rfl)) .rfl)))) fun _=>(.join (.bind .rfl fun _=>(.bind .rfl fun _=>(.bif .rfl .rfl))) fun _=>(.bind .rfl fun _=> .rfl)))))))
theorem zrn(x:Str×Int):Le (@Kz fuK x) (@Kz pl x):=by unfold Kz;exact(.bind .rfl fun _=>(.loopU (fun _=>(.bif (.bind .rfl fun _=>(.bif .rfl (.bind .rfl fun _=>(.bif .rfl (.bind .rfl fun _=>(.bif .rfl (.bind .rfl fun _=>(.bind .rfl fun _=>(.bif .rfl (.bind .rfl fun _=>(.bif (.bind (SG _) fun _=>(.need .rfl)) (.need (.need .rfl))))))))))))) .rfl)) fun _=> .rfl))
theorem JG(x:Str×Int):Le (@Ep fuK x) (@Ep pl x):=by unfold Ep;exact(.loopU (fun _=>(.bind .rfl fun _=>(.bind .rfl fun _=>(.bif (.need (.need .rfl)) (.bind .rfl fun _=>(.bif (.bind (SG _) fun _=>(.need .rfl)) .rfl)))))) fun _=> .rfl)
theorem uK(x:Str×Int):Le (@Mr fuK x) (@Mr pl x):=by unfold Mr;exact(.loopU (fun _=>(.bind .rfl fun _=>(.bind .rfl fun _=>(.bif .rfl .rfl)))) fun _=> .rfl)
theorem znf(x:Str×Int):Le (@oz fuK x) (@oz pl x):=by unfold oz;exact(.join (.bind .rfl fun _=>(.bif .rfl .rfl)) fun _=>(.bind (uK _) fun _=>(.join (.bind .rfl fun _=>(.bind .rfl fun _=>(.bind .rfl fun _=>(.bif (.bind (uK _) fun _=> .rfl) .rfl)))) fun _=>(.join (.bind .rfl fun _=>(.bif (.join (.bind .rfl fun _=>(.bif .rfl .rfl)) fun _=>(.bind .rfl fun _=>(.bind .rfl fun _=>(.bif (.bind (uK _) fun _=> .rfl) .rfl)))) .rfl)) fun _=> .rfl))))
theorem zkO(x:Str):Le (@wz fuK x) (@wz pl x):=by unfold wz;exact(.bind .rfl fun _=>(.join (.bind .rfl fun _=>(.bif .rfl .rfl)) fun _=>(.loopU (fun _=>(.bind .rfl fun _=>(.bind .rfl fun _=>(.bif (.need (.need .rfl)) .rfl)))) fun _=>(.join (.bind .rfl fun _=>(.bif (.loopU (fun _=>(.bind .rfl fun _=>(.bind .rfl fun _=>(.bif (.need (.need .rfl)) .rfl)))) fun _=> .rfl) .rfl)) fun _=>(.join (.bif (.bind .rfl fun _=>(.join (.bind .rfl fun _=>(.bif .rfl .rfl)) fun _=>(.loopU (fun _=>(.bif (.bind .rfl fun _=> .rfl) .rfl)) fun _=>(.join (.bif .rfl .rfl) fun _=> .rfl)))) .rfl) fun _=>(.loopU (fun _=>(.bif (.bind .rfl fun _=> .rfl) .rfl)) fun _=>(.loopU (fun _=>(.bif .rfl .rfl)) fun _=>(.bif .rfl .rfl))))))))
theorem zpL(x:Str×Int):Le (@Uz fuK x) (@Uz pl x):=by unfold Uz;exact(.bind (znf _) fun _=>(.need (.bind (zkO _) fun _=>(.join (.bind .rfl fun _=>(.bif (.bind (JG _) fun _=> .rfl) (.bind .rfl fun _=>(.bif .rfl .rfl)))) fun _=> .rfl))))
theorem wS(x:Str):Le (@QC fuK x) (@QC pl x):=by unfold QC;exact(.need (.loopU (fun _=>(.bif (.need (.bind .rfl fun _=>(.bind .rfl fun _=>(.need (.bind .rfl fun _=>(.bind .rfl fun _=> .rfl)))))) .rfl)) fun _=> .rfl))
theorem ztm(x:Str×Str):Le (@ul fuK x) (@ul pl x):=by unfold ul;exact(.bind (wS _) fun _=>(.bind (wS _) fun _=> .rfl))
theorem aR(x:Str×Int):Le (@Wu fuK x) (@Wu pl x):=by unfold Wu;exact(.loopU (fun _=>(.bind .rfl fun _=>(.bif (.bind .rfl fun _=>(.bif (.bind (SG _) fun _=> .rfl) .rfl)) .rfl))) fun _=> .rfl)
theorem J4(x:Str×Int):Le (@Oy fuK x) (@Oy pl x):=by unfold Oy;exact(.bind (tF _) fun _=>(.loopU (fun _=>(.bind .rfl fun _=>(.bif (.bind .rfl fun _=>(.bind .rfl fun _=>(.bif (.bind (tF _) fun _=>(.bind .rfl fun _=>(.bif (.bind (aR _) fun _=> .rfl) .rfl))) (.bind .rfl fun _=>(.bind .rfl fun _=>(.bif (.bind (aR _) fun _=> .rfl) (.bif (.bind (SG _) fun _=>(.need .rfl)) (.need (.need .rfl))))))))) .rfl))) fun _=> .rfl))
theorem U6(x:Str×Int):Le (@ay fuK x) (@ay pl x):=by unfold ay;exact(.bind (JG _) fun _=>(.bind .rfl fun _=>(.bif .rfl (.join (.bind (ztm _) fun _=>(.bif (.bind (tF _) fun _=>(.bind .rfl fun _=>(.bif (.bind (J4 _) fun _=> .rfl) .rfl))) .rfl)) fun _=> .rfl))))
theorem O3(x:Str×Int):Le (@Py fuK x) (@Py pl x):=by unfold Py;exact(.bind .rfl fun _=>(.bind .rfl fun _=>(.bif (.bind (tF _) fun _=> .rfl) (.bif (.bind (zrn _) fun _=> .rfl) (.bind .rfl fun _=>(.bind .rfl fun _=>(.bind .rfl fun _=>(.bif (.bind (JG _) fun _=>(.bind .rfl fun _=> .rfl)) (.bind .rfl fun _=>(.bif (.bind (zpL _) fun _=> .rfl) (.bind .rfl fun _=>(.bif .rfl (.bind .rfl fun _=>(.bif .rfl (.bind .rfl fun _=>(.bif (.bind (JG _) fun _=> .rfl) (.bind .rfl fun _=>(.bif (.bind (U6 _) fun _=> .rfl) (.bind .rfl fun _=>(.bif (.bind .rfl fun _=> .rfl) (.need .rfl)))))))))))))))))))))
theorem ztn(x:Int):Le (@QD fuK x) (@QD pl x):=by unfold QD;exact(.bind .rfl fun _=>(.bind (O3 _) fun _=> .rfl))
end Go.Lv.VT
