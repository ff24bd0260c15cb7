import Derived.Test.YtiidaccdmolmkaaGreatDoorGa
import Derived.Test.YtiidaccdmolmkaaGreatDoorSj
import Derived.Test.YtiidaccdmolmkaaGreatDoorCd
set_option linter.all false
namespace Go.Lv
open Go.Proofs Go.RowKit
set_option maxRecDepth 100000
def nT(l:List aE):(l.map λs=>(⟨s.toArray⟩:ByteArray)).map (λx=>x.data.toList)=l:=by rw[Ag];exact(Me λs _=>by simp).trans (List.map_id l)
def zMP:ZH Tryz.prog (⟨20,⟨[.sl 9, .str],[]⟩,[],⟨[.str],[]⟩,0,Rk⟩:Con VT.I):=
 Ps VT.ipOK rfl Tryz.func20 rfl rfl λx y hxy ι w vs W ha=>by
  obtain⟨(l:List aE),(c:aE)⟩:=x;replace hxy:Rk (l,c)=some y:=hxy;unfold Rk at hxy;obtain⟨hq,hy⟩:=Eo hxy;cases hy;rw[Da]at hq;have q1:List.length l<=1000000:=Kc hq.1;have q2:(Lib.join l c).length<=1000000000:=Kc hq.2;have h1:=Io (l:=c) (j:=1) ha rfl;obtain⟨u,hu,_,hr⟩:=ha.2 0 _ rfl;replace hr:cX (fm ι w) w (.sl (List.map (λs:aE=>[PV.str s]) l)) u:=hr;cases hr with
  |sl _ a n cp k b o val hn hc ha' hD hk hv hr'=>
   obtain rfl:=Dw ha.1 hu h1;rw[Xa]at hn;rcases De n with h0|h0
   ·have:l=[]:=Gc (hn.symm.trans h0);subst this;subst h0;refine(Tryz.strings_Join_none a cp _ w).mono ?_;rintro e w' ⟨rfl,rfl⟩;exact⟨_,rfl,Below.refl _ _,Rq _⟩
   ·obtain rfl:=ha' h0;have hk1:k=1:=by
     cases l with
     |nil=>subst hn;cases h0
     |cons s t=>exact(hk [.str s] (Rb.2 ⟨s,Ub ..,rfl⟩)).symm
    subst hk1;have hcells: ∀(j:Nat) x,(List.map (λs:aE=>(⟨s.toArray⟩:ByteArray)) l)[j]? =some x->w.cell? ⟨b,o+j,none⟩=some (.string x):=λj x hj=>by
     rw[Ta]at hj;obtain⟨s,hs,rfl⟩:=Sa.1 hj;have hrow:(List.map (λs:aE=>[PV.str s]) l)[j]? =some [PV.str s]:=by rw[Ta,hs];rfl
     have e1:=hv j _ 0 _ hrow rfl;rw[WU (hr' j _ 0 _ hrow rfl),Jf]at e1;exact e1
    have hl:(List.map (λs:aE=>(⟨s.toArray⟩:ByteArray)) l).length=n:=by rw[Xa,hn]
    have hj:=Tryz.strings_Join b o cp _ ⟨c.toArray⟩ w hcells (hD h0).1 (by rw[hl,hn];omega) (by rw[hl];exact hc) (by rw[nT];show(Lib.join l c).length<=_;omega);rw[hl,nT]at hj;refine hj.mono ?_;rintro e w' ⟨rfl,hB⟩;exact⟨_,rfl,hB,Rq _⟩
def zI2:ZH Proofs.Tryz.prog (⟨267,⟨[.str],[]⟩,[],⟨[.str, .int .i64],[]⟩,0,Bq⟩:Con VT.I):=zDE
end Go.Lv
