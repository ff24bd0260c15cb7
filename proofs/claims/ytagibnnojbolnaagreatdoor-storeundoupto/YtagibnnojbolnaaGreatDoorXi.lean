/- The reference's reading: numbers. -/
import Derived.Test.YtagibnnojbolnaaGreatDoorXh
import Derived.Test.YtagibnnojbolnaaGreatDoorXf
import Derived.Test.YtagibnnojbolnaaGreatDoorXc
set_option linter.unusedSimpArgs false
set_option linter.unusedVariables false
namespace Go.Lv.VT
set_option maxRecDepth 100000
theorem jD: ∀(n:Nat) (l:List zg) (c:Int) (left:Nat) (v:List zb×List zg),jf n l c left=some v->shL v.1 c=true/\Zc v.1<=left/\(∀t∈v.2,t∈l)/\ ∀t∈tokL v.1,t∈l\/(t.text=[]/\t.unit=[])
 |0,_,_,_,_,h=>by cases h
 |n+1,[],c,left,v,h=>by
  rw[jf]at h;cases h;exact⟨by rw[shL],by rw[Zc];grind,fun t a=>a,fun t a=>by rw[tokL]at a;cases a⟩
 |n+1,t::r,c,left,v,h=>by
  rw[Hy]at h;split at h
  ·cases h;exact⟨by rw[shL],by rw[Zc];grind,fun t a=>Kb _ a,fun t a=>by rw[tokL]at a;cases a⟩
  rename_i A;have j:(c != 0&&t.kind==c)=false:=by
   cases y:(c != 0&&t.kind==c)with
   |false=>rfl
   |true=>grind
  split at h
  ·rename_i b;cases e:jf n r c left with
   |none=>grind
   |some w=>
    rw[e]at h;cases h;obtain⟨g,p,f,q⟩:=jD n r c left w e;refine⟨?_,?_,fun t a=>Kb _ (f t a),fun u d=> ?_⟩
    ·rw[shL,shV,g,j,b];rfl
    ·rw[Zc,Jh,Sa b];omega
    ·rw[tokL,tokV,Sa b]at d
     grind
  ·rename_i b;cases left with
   |zero=>cases h
   |succ m=>
    simp only at h;cases i:jf n r (Zn t.kind) m with
    |none=>grind
    |some w=>
     rw[i,Aa]at h;cases e:jf n w.2 c (m+1)with
     |none=>grind
     |some k=>
      rw[e]at h;cases h;obtain⟨g,p,f,q⟩:=jD n r _ m w i;obtain⟨o,B,x,z⟩:=jD n w.2 c _ k e;have s:(Zn t.kind==0)=false:=Ea.2 b;refine⟨?_,?_,fun u d=>Kb _ (f u (x u d)),fun u d=> ?_⟩
      ·rw[shL,shV,g,o,j,s,Ya,Lc];rfl
      ·rw[Zc,Jh,Oa b];omega
      ·rw[tokL,tokV,Oa b,Sb,Ub]at d
       grind
theorem zHE{l:List zg}(h:(parS l).2=0):errS (parS l).1=0/\ ∀t∈tokL (parS l).1,t∈l\/(t.text=[]/\t.unit=[]):=by
 unfold parS at h ⊢;split at h
 ·cases h
 rename_i k;rw[Oa k];split at h
 ·cases h
 rename_i s b;split at h
 ·cases h
 rename_i m;rw[Oa m];have a:=UW l;rw[b,Cc]at a;cases d:kM l 0 16 with
 |none=>grind
 |some v=>
  rw[d,Cc]at a;injection a with a;obtain⟨p,n,o,i⟩:=jD _ _ _ _ _ d;obtain⟨e,j⟩:=DZ l b (fun x g=>by cases g);have c:=PQ s.2 s.1 e;have f:Ak (s.1,s.2)=l.length:=by rw[show(s.1,s.2)=s from rfl,j];simp[Ak,tokL]
  rw[f]at c;simp only[a]at c ⊢;refine⟨?_,i⟩;unfold errS
  grind
def Si(a:List Zu)(p:List zb):List Zu:=bif (oneS p).2&&decide (a.length<32)then a++[(oneS p).1]else a
def dh(ps:List (List zb)):List Zu:=ps.foldl Si []
theorem zKq{a:List Zu}{p:List zb}(h:a.length<=32):(Si a p).length<=32:=by
 unfold Si;cases hb:(oneS p).2&&decide (a.length<32)with
 |false=>exact h
 |true=> rw[Da,ja]at hb;rw[Ca,Na,Mc];omega
theorem zGn{ps:List (List zb)}{i:Nat}(h:i<ps.length):dh (ps.take (i+1))=Si (dh (ps.take i)) ps[i]:=by unfold dh;rw[Oc h,List.foldl_append];rfl
theorem UZ(ps:List (List zb)):(dh ps).length<=32:=by
 unfold dh;have key: ∀(ps:List (List zb)) (a:List Zu),a.length<=32->(ps.foldl Si a).length<=32:=by
  intro ps
  induction ps with
  |nil=>intro a h;exact h
  |cons p ps ih=>intro a h;exact ih _ (zKq h)
 exact key ps [] (Va _)
theorem zHI{x:List zb}(h:szL x<big):(Kg 17 x).length<=big/\ ∀p∈Kg 17 x,szL p<=big:=by have h1:=zJe 17 x;have h2:=uV (Kg 17 x);exact⟨by omega,fun p hp=>by have:=tV hp;omega⟩
theorem ap48{n:Nat}(h:n<=32):ZB n 1 48=true:=qy (by omega)
theorem zOC{x:List zb}(h:szL x<big):dB x=some (if errS x=0 then(dh (Kg 17 x),0)else([],errS x)):=by
 unfold dB;rw[uJ (k:=17) (by omega)];simp only[za,Aa];by_cases he:errS x=0
 ·rw[Sa he,Oa (by omega),Sa he];obtain⟨hl,hp⟩:=zHI h;simp only[show((0:Int) != 0)=false from rfl,Ba];generalize Kg 17 x=ps at*;refine TJ (fun z=> ∃i:Nat,z=((i:Int),dh (ps.take i))/\i<=ps.length) (fun z=>ps.length - z.1.toNat) _ ?_ ⟨0,rfl,Va _⟩;rintro _ ⟨i,rfl,hi⟩;rcases Yd i ps.length with hh|hh
  ·refine .inl ⟨_,?_,⟨i+1,rfl,hh⟩,by simp only[Cb];omega⟩;have hq:=UZ (ps.take i);rw[zGn hh];simp only[zO hh,Ca,zM hh,Aa,fQ (hp _ (Ha hh))];obtain⟨a,ha⟩: ∃a,dh (ps.take i)=a:=⟨_,rfl⟩;rw[ha]at hq ⊢;unfold Si;have hd:decide ((a.length:Int)<32)=decide (a.length<32):=by
    by_cases q:a.length<32
    ·rw[Fa q,Fa (by omega)]
    ·rw[Ia q,Ia (by omega)]
   rw[hd,ZQ (ap48 hq)];have hw:w64 ((i:Int)+1)=((i+1:Nat):Int):=zG hh hl;cases (oneS ps[i]).2<;>cases decide (a.length<32)<;>simp only[Ca,Ba,zI,hw,aa,Ac]
  ·have:i=ps.length:=by omega
   subst this;refine .inr (.inl ⟨dh ps,?_,rfl⟩);simp only[zW,Ba,Vd]
 ·rw[Oa he,Oa he];simp only[Xe.2 he,Ca]
theorem zNd{x:List zb}(h:szL x<=big):vC x=some (if errS x=0 then((oneS x).1,(oneS x).2,0)else(⟨[],[],false⟩,false,errS x)):=by
 unfold vC;simp only[uq h,fQ h,za,Aa];by_cases he:errS x=0
 ·rw[Sa he,he];rfl
 ·rw[Oa he,Xe.2 he,Ca]
end Go.Lv.VT
