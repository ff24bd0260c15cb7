import Derived.Test.YtiidaccdmolmkaaGreatDoorGl
import Derived.Test.YtiidaccdmolmkaaGreatDoorCo
import Derived.Test.YtiidaccdmolmkaaGreatDoorRd
import Derived.Test.YtiidaccdmolmkaaGreatDoorXm
set_option linter.all false
namespace Go.Proofs.YtiidaccdmolmkaaGreatDoor.roundWrites
open Go.ChangeShapes Go.WideShapes Go.ChangeAt Go.RowKit Go.Lv Go.Lv.VT
set_option maxRecDepth 100000
def RS{H:Type}: ∀(l:List (DataW H)),Rows.uptoBulkAll l=(l.map Rows.uptoBulk).sum
 |[]=>by rw[Rows.uptoBulkAll];rfl
 |d::l=>by rw[Rows.uptoBulkAll,RS l];rfl
def lY:zOm @Rows.uptoBulk where
 one:=λ{H} d=>by
  cases d with
  |lit l=>cases l<;>simp[Rows.uptoBulk]
  |nil=>simp[Rows.uptoBulk]
  |ptr d=>simp[Rows.uptoBulk]
  |slice e f=>simp[Rows.uptoBulk]
  |agg parts=>simp[Rows.uptoBulk]
  |iface t d=>simp[Rows.uptoBulk]
  |map c=>simp[Rows.uptoBulk]
  |held h=>simp[Rows.uptoBulk]
 str:=λl=>by simp[Rows.uptoBulk]
 slice:=λa b=>by rw[Rows.uptoBulk,RS];omega
 agg:=λa=>by rw[Rows.uptoBulk,RS];omega
def contract (H:Type)(enc:TypeId×Value->H)(W:World)(base:Nat)(args:Array Value)(o M:List (DataW H))(d:List MemPlace)
  (c: ∀(j:Nat) t v,Tryz.f3.params[j]? =some t->args[j]? =some v->Value.okWide Tryz.prog W .any base t v)
  (O:DataW.Whole enc Tryz.prog Tryz.f3.params.toList Rows.roundWritesSpec.vars false W args.toList o M d) (V:laidMetH Tryz.prog Ro W) (hS:W.ShapedOpen Tryz.prog) (hk:Rows.uptoSmall H (o++M)=true):
  Calls Tryz.prog 3 args W λe Q=> ∃v,e= .returned v/\Rows.roundWritesSpec.post enc Tryz.prog Tryz.f3 false true false false W args v Q:=by
 have i:=O;obtain⟨p,q,k,Y,rfl,Z,a3⟩:=O;have U:DataW.TrodAll enc Tryz.prog W 0 (λ_=>true) true Tryz.f3.params.toList args.toList o p:=k;rw[Tryz.params3]at U c;obtain⟨m,a6,d0,a7,r,q0,s,rfl,rfl,h0,r0⟩:=trodAll_cons U;obtain⟨n,a8,d1,a9,p1,q1,rfl,rfl,rfl,h1,r1⟩:=trodAll_cons r0;obtain⟨rfl,rfl,rfl⟩:=trodAll_nil r1;obtain rfl:args= #[m,n]:=by cases args;simp_all
 obtain⟨rfl,rfl⟩:=trodVars_none Y;have hb:Rows.uptoBulkAll ([d0,d1]++[])<=1048576:=jb hk;obtain⟨f0,t0⟩:=h0;obtain⟨f1,t1⟩:=h1;obtain⟨f,a0,b0,o0⟩: ∃f:zP,oh W m.cells.toList (zu f)/\zx (zu f)<=Rows.uptoBulk d0/\qH (zu f):=reads ipOK ipRd lY enc W f0 33 _ d0 r (by simp[gd]) t0;obtain⟨a,a1,b1,o1⟩: ∃a:lj,oh W n.cells.toList (Eu a)/\zx (Eu a)<=Rows.uptoBulk d1/\qH (Eu a):=reads ipOK ipRd lY enc W f1 35 _ d1 p1 (by simp[gd]) t1;simp only[Bb,Lb,Ib,Rows.uptoBulkAll]at hb;have u:zL zu [f]<=co:=by rw[wh,GD];unfold co;omega
 have ab:zx (Eu a)=1+zL zu a.j:=by unfold Eu;simp only[zx,bPV,zL];omega
 have A:zL zu a.j<=co:=by unfold co;omega
 have E: ∀q∈a.j,qH (zu q):=by unfold Eu at o1;simp only[qH]at o1;exact λq hq=>Sy o1.1 hq
 have ha:Jh noA W (((RX TK).inS.sl I).enc (f,a)).1 #[m,n]:=by exact zAC (SY (xs:=I.exp 33 f) rfl Tryz.underlying33 (c 0 33 m rfl rfl) (by rw[<-ipOK.exp 33 f];exact a0)) (zAC (SY (xs:=I.exp 35 a) rfl Tryz.underlying35 (c 1 35 n rfl rfl) (by rw[<-ipOK.exp 35 a];exact a1)) zLS)
 refine(zJA (I:=I) zma (x:=(f,a)) (y:=true) (zuF u A o0 E) (b:=true) rfl rfl (zSh hS V) ha).mono λe Q ⟨he,l⟩=> ?_;subst he;refine⟨_,rfl,zM1 (tb:=4) (pa:=r++(p1++[])) i rfl rfl Tryz.underlying4 rfl rfl (λsp F=> ?_) (Ib _) l⟩;have J: ∀x∈r++(p1++[]),x.block<W.heap.size:=λx L=>i.lt x (by simpa using L);exact SV (by kernel_rfl) l sp _ _ _ _ (by rw[Tryz.params3];intro t ht;simp at ht;rcases ht with rfl|rfl<;>exact⟨by kernel_rfl,jb (by kernel_rfl)⟩) k J (λx L=>F x (by simpa using L))
end Go.Proofs.YtiidaccdmolmkaaGreatDoor.roundWrites
