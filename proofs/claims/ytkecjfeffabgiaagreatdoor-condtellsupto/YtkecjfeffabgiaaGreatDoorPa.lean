/- nest.Parse: its text, and its contract. -/
import Derived.Test.YtkecjfeffabgiaaGreatDoorIp
import Derived.Test.YtkecjfeffabgiaaGreatDoorLf
import Derived.Test.YtkecjfeffabgiaaGreatDoorTy
import Derived.Test.YtkecjfeffabgiaaGreatDoorGa
import Derived.Test.YtkecjfeffabgiaaGreatDoorSj
import Derived.Test.YtkecjfeffabgiaaGreatDoorCd
set_option linter.unusedSimpArgs false
set_option linter.unusedVariables false
namespace Go.Lv.VT
set_option maxRecDepth 100000
open Go.Proofs
end Go.Lv.VT
namespace Go.Lv
open Go.Proofs Go.RowKit
set_option maxRecDepth 100000
theorem iT(l:List Str):(l.map fun s=>(⟨s.toArray⟩:ByteArray)).map (fun x=>x.data.toList)=l:=by rw[List.map_map];exact(Ye fun s _=>by simp).trans (List.map_id l)
theorem zEC:zm Tryz.prog (⟨112,⟨[.sl 9, .str],[]⟩,[],⟨[.str],[]⟩,0,Bl⟩:Con VT.I):=
 Wq VT.ipOK rfl Tryz.func112 rfl rfl fun x y hxy ι w vs W ha=>by
  obtain⟨(l:List Str),(c:Str)⟩:=x;replace hxy:Bl (l,c)=some y:=hxy;unfold Bl at hxy;obtain⟨hq,hy⟩:=Um hxy;cases hy;rw[Da]at hq;have q1:List.length l<=1000000:=Kc hq.1;have q2:(Lib.join l c).length<=1000000000:=Kc hq.2;have h1:=Xm (l:=c) (j:=1) ha rfl;obtain⟨u,hu,_,hr⟩:=ha.2 0 _ rfl;replace hr:RepP (Dom ι w) w (.sl (List.map (fun s:Str=>[PV.str s]) l)) u:=hr;cases hr with
  |sl _ a n cp k b o val hn hc ha' hD hk hv hr'=>
   obtain rfl:=Yu ha.1 hu h1;rw[Fb]at hn;rcases Vf n with h0|h0
   ·have:l=[]:=Jc (hn.symm.trans h0);subst this;subst h0;refine(Tryz.strings_Join_none a cp _ w).mono ?_;rintro e w' ⟨rfl,rfl⟩;exact⟨_,rfl,Below.refl _ _,Ko _⟩
   ·obtain rfl:=ha' h0;have hk1:k=1:=by
     cases l with
     |nil=>subst hn;cases h0
     |cons s t=>exact(hk [.str s] (Pb.2 ⟨s,Ac ..,rfl⟩)).symm
    subst hk1;have hcells: ∀(j:Nat) x,(List.map (fun s:Str=>(⟨s.toArray⟩:ByteArray)) l)[j]? =some x->w.cell? ⟨b,o+j,none⟩=some (.string x):=fun j x hj=>by
     rw[Sa]at hj;obtain⟨s,hs,rfl⟩:=Ua.1 hj;have hrow:(List.map (fun s:Str=>[PV.str s]) l)[j]? =some [PV.str s]:=by rw[Sa,hs];rfl
     have e1:=hv j _ 0 _ hrow rfl;rw[gT (hr' j _ 0 _ hrow rfl),Tf]at e1;exact e1
    have hl:(List.map (fun s:Str=>(⟨s.toArray⟩:ByteArray)) l).length=n:=by rw[Fb,hn]
    have hj:=Tryz.strings_Join b o cp _ ⟨c.toArray⟩ w hcells (hD h0).1 (by rw[hl,hn];omega) (by rw[hl];exact hc) (by rw[iT];show(Lib.join l c).length<=_;omega);rw[hl,iT]at hj;refine hj.mono ?_;rintro e w' ⟨rfl,hB⟩;exact⟨_,rfl,hB,Ko _⟩
theorem zBE:zm Proofs.Tryz.prog (⟨94,⟨[.str],[]⟩,[],⟨[.str, .int .i64],[]⟩,0,Rm⟩:Con VT.I):=zwP
end Go.Lv
