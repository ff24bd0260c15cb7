/- Which values may come in. -/
import Derived.Test.YtcdeccnjlkkejaaGreatDoorIp
import Derived.Test.YtcdeccnjlkkejaaGreatDoorLf
set_option linter.unusedSimpArgs false
set_option linter.unusedVariables false
namespace Go.Lv.VT
set_option maxRecDepth 100000
open Go.Proofs
def gd:List Nat:=[2,3,4,5,9,21,22,23,25,42,44,49,52,66,71,101,133,185,217]
theorem Gq:Tryz.prog.underlying 2=some (.int .i64):=by kernel_rfl
theorem Fq:Tryz.prog.underlying 3=some (.int .i64):=by kernel_rfl
theorem Ot:Tryz.prog.underlying 4=some (.bool):=by kernel_rfl
theorem Dq:Tryz.prog.underlying 5=some (.int .u8):=by kernel_rfl
theorem Cq:Tryz.prog.underlying 9=some (.string):=by kernel_rfl
theorem lq:Tryz.prog.underlying 21=some (.int .i32):=by kernel_rfl
theorem jq:Tryz.prog.underlying 22=some (.slice 44):=by kernel_rfl
theorem Bn:Tryz.prog.underlying 23=some (.slice 49):=by kernel_rfl
theorem iq:Tryz.prog.underlying 25=some (.int .i64):=by kernel_rfl
theorem gq:Tryz.prog.underlying 42=some (.slice 5):=by kernel_rfl
theorem Su: ∃fs,Tryz.prog.underlying 44=some (.struct fs):=⟨(match Tryz.prog.underlying 44 with|some (.struct fs)=>fs|_=> #[]),by kernel_rfl⟩
theorem zB4:Yn Tryz.prog 44=[(5,0),(9,1),(2,2),(9,3),(4,4)]:=by kernel_rfl
theorem Ru: ∃fs,Tryz.prog.underlying 49=some (.struct fs):=⟨(match Tryz.prog.underlying 49 with|some (.struct fs)=>fs|_=> #[]),by kernel_rfl⟩
theorem zB5:Yn Tryz.prog 49=[(44,0),(23,5)]:=by kernel_rfl
theorem fq:Tryz.prog.underlying 52=some (.slice 23):=by kernel_rfl
theorem Ou: ∃fs,Tryz.prog.underlying 66=some (.struct fs):=⟨(match Tryz.prog.underlying 66 with|some (.struct fs)=>fs|_=> #[]),by kernel_rfl⟩
theorem zB6:Yn Tryz.prog 66=[(9,0),(23,1),(4,2)]:=by kernel_rfl
theorem Yq:Tryz.prog.underlying 71=some (.slice 66):=by kernel_rfl
theorem su: ∃fs,Tryz.prog.underlying 101=some (.struct fs):=⟨(match Tryz.prog.underlying 101 with|some (.struct fs)=>fs|_=> #[]),by kernel_rfl⟩
theorem zAZ:Yn Tryz.prog 101=[(3,0),(3,1),(4,2)]:=by kernel_rfl
theorem ru: ∃fs,Tryz.prog.underlying 133=some (.struct fs):=⟨(match Tryz.prog.underlying 133 with|some (.struct fs)=>fs|_=> #[]),by kernel_rfl⟩
theorem zA0:Yn Tryz.prog 133=[(9,0),(3,1)]:=by kernel_rfl
theorem xq:Tryz.prog.underlying 185=some (.int .u32):=by kernel_rfl
theorem uq:Tryz.prog.underlying 217=some (.int .u64):=by kernel_rfl
theorem ipRd:IpRd Tryz.prog I (fun t=>t∈gd)where
 int:=fun t k hg hu n h1 h2=>by
  simp only[gd,Jb,Te,mg]at hg;rcases hg with rfl|rfl|rfl|rfl|rfl|rfl|rfl|rfl|rfl|rfl|rfl|rfl|rfl|rfl|rfl|rfl|rfl|rfl|rfl
  ·rw[Gq]at hu;cases hu;exact⟨(n:Int),rfl⟩
  ·rw[Fq]at hu;cases hu;exact⟨(n:Int),rfl⟩
  ·rw[Ot]at hu;cases hu
  ·rw[Dq]at hu;cases hu;exact⟨UInt8.ofNat n.toNat,zCS h1 h2⟩
  ·rw[Cq]at hu;cases hu
  ·rw[lq]at hu;cases hu;exact⟨(n:Int),rfl⟩
  ·rw[jq]at hu;cases hu
  ·rw[Bn]at hu;cases hu
  ·rw[iq]at hu;cases hu;exact⟨(n:Int),rfl⟩
  ·rw[gq]at hu;cases hu
  ·obtain⟨fs,e⟩:=Su;rw[e]at hu;cases hu
  ·obtain⟨fs,e⟩:=Ru;rw[e]at hu;cases hu
  ·rw[fq]at hu;cases hu
  ·obtain⟨fs,e⟩:=Ou;rw[e]at hu;cases hu
  ·rw[Yq]at hu;cases hu
  ·obtain⟨fs,e⟩:=su;rw[e]at hu;cases hu
  ·obtain⟨fs,e⟩:=ru;rw[e]at hu;cases hu
  ·rw[xq]at hu;cases hu;exact⟨(n:Int),rfl⟩
  ·rw[uq]at hu;cases hu;exact⟨(n:Int),rfl⟩
 bool:=fun t hg hu b=>by
  simp only[gd,Jb,Te,mg]at hg;rcases hg with rfl|rfl|rfl|rfl|rfl|rfl|rfl|rfl|rfl|rfl|rfl|rfl|rfl|rfl|rfl|rfl|rfl|rfl|rfl
  ·rw[Gq]at hu;cases hu
  ·rw[Fq]at hu;cases hu
  ·exact⟨(b:Bool),rfl⟩
  ·rw[Dq]at hu;cases hu
  ·rw[Cq]at hu;cases hu
  ·rw[lq]at hu;cases hu
  ·rw[jq]at hu;cases hu
  ·rw[Bn]at hu;cases hu
  ·rw[iq]at hu;cases hu
  ·rw[gq]at hu;cases hu
  ·obtain⟨fs,e⟩:=Su;rw[e]at hu;cases hu
  ·obtain⟨fs,e⟩:=Ru;rw[e]at hu;cases hu
  ·rw[fq]at hu;cases hu
  ·obtain⟨fs,e⟩:=Ou;rw[e]at hu;cases hu
  ·rw[Yq]at hu;cases hu
  ·obtain⟨fs,e⟩:=su;rw[e]at hu;cases hu
  ·obtain⟨fs,e⟩:=ru;rw[e]at hu;cases hu
  ·rw[xq]at hu;cases hu
  ·rw[uq]at hu;cases hu
 str:=fun t hg hu l=>by
  simp only[gd,Jb,Te,mg]at hg;rcases hg with rfl|rfl|rfl|rfl|rfl|rfl|rfl|rfl|rfl|rfl|rfl|rfl|rfl|rfl|rfl|rfl|rfl|rfl|rfl
  ·rw[Gq]at hu;cases hu
  ·rw[Fq]at hu;cases hu
  ·rw[Ot]at hu;cases hu
  ·rw[Dq]at hu;cases hu
  ·exact⟨(l:Str),rfl⟩
  ·rw[lq]at hu;cases hu
  ·rw[jq]at hu;cases hu
  ·rw[Bn]at hu;cases hu
  ·rw[iq]at hu;cases hu
  ·rw[gq]at hu;cases hu
  ·obtain⟨fs,e⟩:=Su;rw[e]at hu;cases hu
  ·obtain⟨fs,e⟩:=Ru;rw[e]at hu;cases hu
  ·rw[fq]at hu;cases hu
  ·obtain⟨fs,e⟩:=Ou;rw[e]at hu;cases hu
  ·rw[Yq]at hu;cases hu
  ·obtain⟨fs,e⟩:=su;rw[e]at hu;cases hu
  ·obtain⟨fs,e⟩:=ru;rw[e]at hu;cases hu
  ·rw[xq]at hu;cases hu
  ·rw[uq]at hu;cases hu
 sl:=fun t e hg hu=>by
  simp only[gd,Jb,Te,mg]at hg;rcases hg with rfl|rfl|rfl|rfl|rfl|rfl|rfl|rfl|rfl|rfl|rfl|rfl|rfl|rfl|rfl|rfl|rfl|rfl|rfl
  ·rw[Gq]at hu;cases hu
  ·rw[Fq]at hu;cases hu
  ·rw[Ot]at hu;cases hu
  ·rw[Dq]at hu;cases hu
  ·rw[Cq]at hu;cases hu
  ·rw[lq]at hu;cases hu
  ·rw[jq]at hu;cases hu;exact⟨by simp[gd],ng (by decide:0<5) (by kernel_rfl:5=Tryz.prog.cellsOf 44),fun l=>⟨(l:List zf),rfl⟩⟩
  ·rw[Bn]at hu;cases hu;exact⟨by simp[gd],ng (by decide:0<6) (by kernel_rfl:6=Tryz.prog.cellsOf 49),fun l=>⟨(l:List zb),rfl⟩⟩
  ·rw[iq]at hu;cases hu
  ·rw[gq]at hu;cases hu;exact⟨by simp[gd],ng (by decide:0<1) (by kernel_rfl:1=Tryz.prog.cellsOf 5),fun l=>⟨(l:List UInt8),rfl⟩⟩
  ·obtain⟨fs,e⟩:=Su;rw[e]at hu;cases hu
  ·obtain⟨fs,e⟩:=Ru;rw[e]at hu;cases hu
  ·rw[fq]at hu;cases hu;exact⟨by simp[gd],ng (by decide:0<1) (by kernel_rfl:1=Tryz.prog.cellsOf 23),fun l=>⟨(l:List (List zb)),rfl⟩⟩
  ·obtain⟨fs,e⟩:=Ou;rw[e]at hu;cases hu
  ·rw[Yq]at hu;cases hu;exact⟨by simp[gd],ng (by decide:0<3) (by kernel_rfl:3=Tryz.prog.cellsOf 66),fun l=>⟨(l:List z8),rfl⟩⟩
  ·obtain⟨fs,e⟩:=su;rw[e]at hu;cases hu
  ·obtain⟨fs,e⟩:=ru;rw[e]at hu;cases hu
  ·rw[xq]at hu;cases hu
  ·rw[uq]at hu;cases hu
 st:=fun t fs hg hu=>by
  simp only[gd,Jb,Te,mg]at hg;rcases hg with rfl|rfl|rfl|rfl|rfl|rfl|rfl|rfl|rfl|rfl|rfl|rfl|rfl|rfl|rfl|rfl|rfl|rfl|rfl
  ·rw[Gq]at hu;cases hu
  ·rw[Fq]at hu;cases hu
  ·rw[Ot]at hu;cases hu
  ·rw[Dq]at hu;cases hu
  ·rw[Cq]at hu;cases hu
  ·rw[lq]at hu;cases hu
  ·rw[jq]at hu;cases hu
  ·rw[Bn]at hu;cases hu
  ·rw[iq]at hu;cases hu
  ·rw[gq]at hu;cases hu
  ·refine Rt hu zB4 (by simp[gd]) (by kernel_rfl) (by kernel_rfl) (fun pvs h0=> ?_);obtain⟨_,pvs,rfl,⟨y0,rfl⟩,h1⟩:=qJ h0;obtain⟨_,pvs,rfl,⟨y1,rfl⟩,h2⟩:=qJ h1;obtain⟨_,pvs,rfl,⟨y2,rfl⟩,h3⟩:=qJ h2;obtain⟨_,pvs,rfl,⟨y3,rfl⟩,h4⟩:=qJ h3;obtain⟨_,pvs,rfl,⟨y4,rfl⟩,h5⟩:=qJ h4;rw[Ew h5];exact⟨(⟨((UInt8.toNat y0:Nat):Int),y1,y2,y3,y4⟩:zf),rfl⟩
  ·refine Rt hu zB5 (by simp[gd]) (by kernel_rfl) (by kernel_rfl) (fun pvs h0=> ?_);obtain⟨_,pvs,rfl,⟨y0,rfl⟩,h1⟩:=qJ h0;obtain⟨_,pvs,rfl,⟨y1,rfl⟩,h2⟩:=qJ h1;rw[Ew h2];exact⟨(⟨y0,y1⟩:zb),(AJ y0 y1).trans rfl⟩
  ·rw[fq]at hu;cases hu
  ·refine Rt hu zB6 (by simp[gd]) (by kernel_rfl) (by kernel_rfl) (fun pvs h0=> ?_);obtain⟨_,pvs,rfl,⟨y0,rfl⟩,h1⟩:=qJ h0;obtain⟨_,pvs,rfl,⟨y1,rfl⟩,h2⟩:=qJ h1;obtain⟨_,pvs,rfl,⟨y2,rfl⟩,h3⟩:=qJ h2;rw[Ew h3];exact⟨(⟨y0,y1,y2⟩:z8),rfl⟩
  ·rw[Yq]at hu;cases hu
  ·refine Rt hu zAZ (by simp[gd]) (by kernel_rfl) (by kernel_rfl) (fun pvs h0=> ?_);obtain⟨_,pvs,rfl,⟨y0,rfl⟩,h1⟩:=qJ h0;obtain⟨_,pvs,rfl,⟨y1,rfl⟩,h2⟩:=qJ h1;obtain⟨_,pvs,rfl,⟨y2,rfl⟩,h3⟩:=qJ h2;rw[Ew h3];exact⟨(⟨y0,y1,y2⟩:zJ),rfl⟩
  ·refine Rt hu zA0 (by simp[gd]) (by kernel_rfl) (by kernel_rfl) (fun pvs h0=> ?_);obtain⟨_,pvs,rfl,⟨y0,rfl⟩,h1⟩:=qJ h0;obtain⟨_,pvs,rfl,⟨y1,rfl⟩,h2⟩:=qJ h1;rw[Ew h2];exact⟨(⟨y0,y1⟩:za),rfl⟩
  ·rw[xq]at hu;cases hu
  ·rw[uq]at hu;cases hu
 only:=fun t u hg hu=>by
  simp only[gd,Jb,Te,mg]at hg;rcases hg with rfl|rfl|rfl|rfl|rfl|rfl|rfl|rfl|rfl|rfl|rfl|rfl|rfl|rfl|rfl|rfl|rfl|rfl|rfl
  ·rw[Gq]at hu;cases hu;exact .inl ⟨_,rfl⟩
  ·rw[Fq]at hu;cases hu;exact .inl ⟨_,rfl⟩
  ·rw[Ot]at hu;cases hu;exact .inr (.inl rfl)
  ·rw[Dq]at hu;cases hu;exact .inl ⟨_,rfl⟩
  ·rw[Cq]at hu;cases hu;exact .inr (.inr (.inl rfl))
  ·rw[lq]at hu;cases hu;exact .inl ⟨_,rfl⟩
  ·rw[jq]at hu;cases hu;exact .inr (.inr (.inr (.inl ⟨_,rfl⟩)))
  ·rw[Bn]at hu;cases hu;exact .inr (.inr (.inr (.inl ⟨_,rfl⟩)))
  ·rw[iq]at hu;cases hu;exact .inl ⟨_,rfl⟩
  ·rw[gq]at hu;cases hu;exact .inr (.inr (.inr (.inl ⟨_,rfl⟩)))
  ·obtain⟨fs,e⟩:=Su;rw[e]at hu;cases hu;exact .inr (.inr (.inr (.inr ⟨_,rfl⟩)))
  ·obtain⟨fs,e⟩:=Ru;rw[e]at hu;cases hu;exact .inr (.inr (.inr (.inr ⟨_,rfl⟩)))
  ·rw[fq]at hu;cases hu;exact .inr (.inr (.inr (.inl ⟨_,rfl⟩)))
  ·obtain⟨fs,e⟩:=Ou;rw[e]at hu;cases hu;exact .inr (.inr (.inr (.inr ⟨_,rfl⟩)))
  ·rw[Yq]at hu;cases hu;exact .inr (.inr (.inr (.inl ⟨_,rfl⟩)))
  ·obtain⟨fs,e⟩:=su;rw[e]at hu;cases hu;exact .inr (.inr (.inr (.inr ⟨_,rfl⟩)))
  ·obtain⟨fs,e⟩:=ru;rw[e]at hu;cases hu;exact .inr (.inr (.inr (.inr ⟨_,rfl⟩)))
  ·rw[xq]at hu;cases hu;exact .inl ⟨_,rfl⟩
  ·rw[uq]at hu;cases hu;exact .inl ⟨_,rfl⟩
end Go.Lv.VT
