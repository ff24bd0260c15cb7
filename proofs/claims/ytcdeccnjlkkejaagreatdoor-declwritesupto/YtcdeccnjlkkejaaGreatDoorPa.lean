/- The contract of strings.Join, in the evaluator's form. -/
import Derived.Test.YtcdeccnjlkkejaaGreatDoorGa
import Derived.Test.YtcdeccnjlkkejaaGreatDoorTy
import Derived.Test.YtcdeccnjlkkejaaGreatDoorSj
import Derived.Test.YtcdeccnjlkkejaaGreatDoorIp
import Derived.Test.YtcdeccnjlkkejaaGreatDoorCd
set_option linter.unusedSimpArgs false
set_option linter.unusedVariables false
namespace Go.Lv
open Go.Proofs Go.RowKit
set_option maxRecDepth 100000
theorem BP(l:List Str):(l.map fun s=>(⟨s.toArray⟩:ByteArray)).map (fun x=>x.data.toList)=l:=by rw[List.map_map];exact(Ff fun s _=>by simp).trans (List.map_id l)
theorem mW:zk Tryz.prog (⟨85,⟨[.sl 9, .str],[]⟩,[],⟨[.str],[]⟩,0,Gm⟩:Con VT.I):=
 lm VT.ipOK rfl Tryz.func85 rfl rfl fun x y hxy ι w vs W ha=>by
  obtain⟨(l:List Str),(c:Str)⟩:=x;replace hxy:Gm (l,c)=some y:=hxy;unfold Gm at hxy;obtain⟨hq,hy⟩:=uj hxy;cases hy;rw[Fa]at hq;have q1:List.length l<=1000000:=Mc hq.1;have q2:(Lib.join l c).length<=1000000000:=Mc hq.2;have h1:=Yj (l:=c) (j:=1) ha rfl;obtain⟨u,hu,_,hr⟩:=ha.2 0 _ rfl;replace hr:RepP (Dom ι w) w (.sl (List.map (fun s:Str=>[PV.str s]) l)) u:=hr;cases hr with
  |sl _ a n cp k b o val hn hc ha' hD hk hv hr'=>
   obtain rfl:=Kq ha.1 hu h1;rw[Fb]at hn;rcases Vg n with h0|h0
   ·have:l=[]:=Yb (hn.symm.trans h0);subst this;subst h0;refine(Tryz.strings_Join_none a cp _ w).mono ?_;rintro e w' ⟨rfl,rfl⟩;exact⟨_,rfl,Below.refl _ _,El _⟩
   ·obtain rfl:=ha' h0;have hk1:k=1:=by
     cases l with
     |nil=>subst hn;cases h0
     |cons s t=>exact(hk [.str s] (Jb.2 ⟨s,jb ..,rfl⟩)).symm
    subst hk1;have hcells: ∀(j:Nat) x,(List.map (fun s:Str=>(⟨s.toArray⟩:ByteArray)) l)[j]? =some x->w.cell? ⟨b,o+j,none⟩=some (.string x):=fun j x hj=>by
     rw[La]at hj;obtain⟨s,hs,rfl⟩:=Ma.1 hj;have hrow:(List.map (fun s:Str=>[PV.str s]) l)[j]? =some [PV.str s]:=by rw[La,hs];rfl
     have e1:=hv j _ 0 _ hrow rfl;rw[AP (hr' j _ 0 _ hrow rfl),xe]at e1;exact e1
    have hl:(List.map (fun s:Str=>(⟨s.toArray⟩:ByteArray)) l).length=n:=by rw[Fb,hn]
    have hj:=Tryz.strings_Join b o cp _ ⟨c.toArray⟩ w hcells (hD h0).1 (by rw[hl,hn];omega) (by rw[hl];exact hc) (by rw[BP];show(Lib.join l c).length<=_;omega);rw[hl,BP]at hj;refine hj.mono ?_;rintro e w' ⟨rfl,hB⟩;exact⟨_,rfl,hB,El _⟩
theorem vY:zk Proofs.Tryz.prog (⟨99,⟨[.str],[]⟩,[],⟨[.str, .int .i64],[]⟩,0,Rj⟩:Con VT.I):=J2
end Go.Lv
