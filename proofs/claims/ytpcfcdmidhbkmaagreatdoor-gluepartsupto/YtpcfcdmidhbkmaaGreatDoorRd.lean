/- Which values may come in. -/
import Derived.Test.YtpcfcdmidhbkmaaGreatDoorIp
import Derived.Test.YtpcfcdmidhbkmaaGreatDoorLf
set_option linter.unusedSimpArgs false
set_option linter.unusedVariables false
namespace Go.Lv.VT
set_option maxRecDepth 100000
open Go.Proofs
def gd:List Nat:=[2,3,4,5,9,21,22,26,34,40,41,44,61,67,94,125]
theorem Ao:Tryz.prog.underlying 2=some (.int .i64):=by kernel_rfl
theorem Ul:Tryz.prog.underlying 3=some (.int .i64):=by kernel_rfl
theorem lq:Tryz.prog.underlying 4=some (.bool):=by kernel_rfl
theorem yn:Tryz.prog.underlying 5=some (.int .u8):=by kernel_rfl
theorem jq:Tryz.prog.underlying 9=some (.string):=by kernel_rfl
theorem Bo:Tryz.prog.underlying 21=some (.int .i32):=by kernel_rfl
theorem ll:Tryz.prog.underlying 22=some (.slice 34):=by kernel_rfl
theorem ko:Tryz.prog.underlying 26=some (.int .i64):=by kernel_rfl
theorem Xr: ∃fs,Tryz.prog.underlying 34=some (.struct fs):=⟨(match Tryz.prog.underlying 34 with|some (.struct fs)=>fs|_=> #[]),by kernel_rfl⟩
theorem yP:jr Tryz.prog 34=[(5,0),(9,1),(2,2),(9,3),(4,4)]:=by kernel_rfl
theorem jo:Tryz.prog.underlying 40=some (.slice 5):=by kernel_rfl
theorem Yo:Tryz.prog.underlying 41=some (.slice 44):=by kernel_rfl
theorem Vr: ∃fs,Tryz.prog.underlying 44=some (.struct fs):=⟨(match Tryz.prog.underlying 44 with|some (.struct fs)=>fs|_=> #[]),by kernel_rfl⟩
theorem fQ:jr Tryz.prog 44=[(3,0),(3,1)]:=by kernel_rfl
theorem Ur: ∃fs,Tryz.prog.underlying 61=some (.struct fs):=⟨(match Tryz.prog.underlying 61 with|some (.struct fs)=>fs|_=> #[]),by kernel_rfl⟩
theorem eQ:jr Tryz.prog 61=[(9,0),(3,1)]:=by kernel_rfl
theorem Xo:Tryz.prog.underlying 67=some (.int .u64):=by kernel_rfl
theorem Wo:Tryz.prog.underlying 94=some (.int .u32):=by kernel_rfl
theorem oo:Tryz.prog.underlying 125=some (.int .u64):=by kernel_rfl
theorem ipRd:IpRd Tryz.prog I (fun t=>t∈gd)where
 int:=fun t k hg hu n h1 h2=>by
  simp only[gd,Bb,Sd,Rf]at hg;rcases hg with rfl|rfl|rfl|rfl|rfl|rfl|rfl|rfl|rfl|rfl|rfl|rfl|rfl|rfl|rfl|rfl
  ·rw[Ao]at hu;cases hu;exact⟨(n:Int),rfl⟩
  ·rw[Ul]at hu;cases hu;exact⟨(n:Int),rfl⟩
  ·rw[lq]at hu;cases hu
  ·rw[yn]at hu;cases hu;exact⟨UInt8.ofNat n.toNat,zAY h1 h2⟩
  ·rw[jq]at hu;cases hu
  ·rw[Bo]at hu;cases hu;exact⟨(n:Int),rfl⟩
  ·rw[ll]at hu;cases hu
  ·rw[ko]at hu;cases hu;exact⟨(n:Int),rfl⟩
  ·obtain⟨fs,e⟩:=Xr;rw[e]at hu;cases hu
  ·rw[jo]at hu;cases hu
  ·rw[Yo]at hu;cases hu
  ·obtain⟨fs,e⟩:=Vr;rw[e]at hu;cases hu
  ·obtain⟨fs,e⟩:=Ur;rw[e]at hu;cases hu
  ·rw[Xo]at hu;cases hu;exact⟨(n:Int),rfl⟩
  ·rw[Wo]at hu;cases hu;exact⟨(n:Int),rfl⟩
  ·rw[oo]at hu;cases hu;exact⟨(n:Int),rfl⟩
 bool:=fun t hg hu b=>by
  simp only[gd,Bb,Sd,Rf]at hg;rcases hg with rfl|rfl|rfl|rfl|rfl|rfl|rfl|rfl|rfl|rfl|rfl|rfl|rfl|rfl|rfl|rfl
  ·rw[Ao]at hu;cases hu
  ·rw[Ul]at hu;cases hu
  ·exact⟨(b:Bool),rfl⟩
  ·rw[yn]at hu;cases hu
  ·rw[jq]at hu;cases hu
  ·rw[Bo]at hu;cases hu
  ·rw[ll]at hu;cases hu
  ·rw[ko]at hu;cases hu
  ·obtain⟨fs,e⟩:=Xr;rw[e]at hu;cases hu
  ·rw[jo]at hu;cases hu
  ·rw[Yo]at hu;cases hu
  ·obtain⟨fs,e⟩:=Vr;rw[e]at hu;cases hu
  ·obtain⟨fs,e⟩:=Ur;rw[e]at hu;cases hu
  ·rw[Xo]at hu;cases hu
  ·rw[Wo]at hu;cases hu
  ·rw[oo]at hu;cases hu
 str:=fun t hg hu l=>by
  simp only[gd,Bb,Sd,Rf]at hg;rcases hg with rfl|rfl|rfl|rfl|rfl|rfl|rfl|rfl|rfl|rfl|rfl|rfl|rfl|rfl|rfl|rfl
  ·rw[Ao]at hu;cases hu
  ·rw[Ul]at hu;cases hu
  ·rw[lq]at hu;cases hu
  ·rw[yn]at hu;cases hu
  ·exact⟨(l:Str),rfl⟩
  ·rw[Bo]at hu;cases hu
  ·rw[ll]at hu;cases hu
  ·rw[ko]at hu;cases hu
  ·obtain⟨fs,e⟩:=Xr;rw[e]at hu;cases hu
  ·rw[jo]at hu;cases hu
  ·rw[Yo]at hu;cases hu
  ·obtain⟨fs,e⟩:=Vr;rw[e]at hu;cases hu
  ·obtain⟨fs,e⟩:=Ur;rw[e]at hu;cases hu
  ·rw[Xo]at hu;cases hu
  ·rw[Wo]at hu;cases hu
  ·rw[oo]at hu;cases hu
 sl:=fun t e hg hu=>by
  simp only[gd,Bb,Sd,Rf]at hg;rcases hg with rfl|rfl|rfl|rfl|rfl|rfl|rfl|rfl|rfl|rfl|rfl|rfl|rfl|rfl|rfl|rfl
  ·rw[Ao]at hu;cases hu
  ·rw[Ul]at hu;cases hu
  ·rw[lq]at hu;cases hu
  ·rw[yn]at hu;cases hu
  ·rw[jq]at hu;cases hu
  ·rw[Bo]at hu;cases hu
  ·rw[ll]at hu;cases hu;exact⟨by simp[gd],Nat.lt_of_lt_of_eq (by decide:0<5) (by kernel_rfl:5=Tryz.prog.cellsOf 34),fun l=>⟨(l:List zb),rfl⟩⟩
  ·rw[ko]at hu;cases hu
  ·obtain⟨fs,e⟩:=Xr;rw[e]at hu;cases hu
  ·rw[jo]at hu;cases hu;exact⟨by simp[gd],Nat.lt_of_lt_of_eq (by decide:0<1) (by kernel_rfl:1=Tryz.prog.cellsOf 5),fun l=>⟨(l:List UInt8),rfl⟩⟩
  ·rw[Yo]at hu;cases hu;exact⟨by simp[gd],Nat.lt_of_lt_of_eq (by decide:0<2) (by kernel_rfl:2=Tryz.prog.cellsOf 44),fun l=>⟨(l:List zq),rfl⟩⟩
  ·obtain⟨fs,e⟩:=Vr;rw[e]at hu;cases hu
  ·obtain⟨fs,e⟩:=Ur;rw[e]at hu;cases hu
  ·rw[Xo]at hu;cases hu
  ·rw[Wo]at hu;cases hu
  ·rw[oo]at hu;cases hu
 st:=fun t fs hg hu=>by
  simp only[gd,Bb,Sd,Rf]at hg;rcases hg with rfl|rfl|rfl|rfl|rfl|rfl|rfl|rfl|rfl|rfl|rfl|rfl|rfl|rfl|rfl|rfl
  ·rw[Ao]at hu;cases hu
  ·rw[Ul]at hu;cases hu
  ·rw[lq]at hu;cases hu
  ·rw[yn]at hu;cases hu
  ·rw[jq]at hu;cases hu
  ·rw[Bo]at hu;cases hu
  ·rw[ll]at hu;cases hu
  ·rw[ko]at hu;cases hu
  ·refine bA hu yP (by simp[gd]) (by kernel_rfl) (by kernel_rfl) (fun pvs h0=> ?_);obtain⟨_,pvs,rfl,⟨y0,rfl⟩,h1⟩:=aj h0;obtain⟨_,pvs,rfl,⟨y1,rfl⟩,h2⟩:=aj h1;obtain⟨_,pvs,rfl,⟨y2,rfl⟩,h3⟩:=aj h2;obtain⟨_,pvs,rfl,⟨y3,rfl⟩,h4⟩:=aj h3;obtain⟨_,pvs,rfl,⟨y4,rfl⟩,h5⟩:=aj h4;rw[BF h5];exact⟨(⟨((UInt8.toNat y0:Nat):Int),y1,y2,y3,y4⟩:zb),rfl⟩
  ·rw[jo]at hu;cases hu
  ·rw[Yo]at hu;cases hu
  ·refine bA hu fQ (by simp[gd]) (by kernel_rfl) (by kernel_rfl) (fun pvs h0=> ?_);obtain⟨_,pvs,rfl,⟨y0,rfl⟩,h1⟩:=aj h0;obtain⟨_,pvs,rfl,⟨y1,rfl⟩,h2⟩:=aj h1;rw[BF h2];exact⟨(⟨y0,y1⟩:zq),rfl⟩
  ·refine bA hu eQ (by simp[gd]) (by kernel_rfl) (by kernel_rfl) (fun pvs h0=> ?_);obtain⟨_,pvs,rfl,⟨y0,rfl⟩,h1⟩:=aj h0;obtain⟨_,pvs,rfl,⟨y1,rfl⟩,h2⟩:=aj h1;rw[BF h2];exact⟨(⟨y0,y1⟩:za),rfl⟩
  ·rw[Xo]at hu;cases hu
  ·rw[Wo]at hu;cases hu
  ·rw[oo]at hu;cases hu
 only:=fun t u hg hu=>by
  simp only[gd,Bb,Sd,Rf]at hg;rcases hg with rfl|rfl|rfl|rfl|rfl|rfl|rfl|rfl|rfl|rfl|rfl|rfl|rfl|rfl|rfl|rfl
  ·rw[Ao]at hu;cases hu;exact .inl ⟨_,rfl⟩
  ·rw[Ul]at hu;cases hu;exact .inl ⟨_,rfl⟩
  ·rw[lq]at hu;cases hu;exact .inr (.inl rfl)
  ·rw[yn]at hu;cases hu;exact .inl ⟨_,rfl⟩
  ·rw[jq]at hu;cases hu;exact .inr (.inr (.inl rfl))
  ·rw[Bo]at hu;cases hu;exact .inl ⟨_,rfl⟩
  ·rw[ll]at hu;cases hu;exact .inr (.inr (.inr (.inl ⟨_,rfl⟩)))
  ·rw[ko]at hu;cases hu;exact .inl ⟨_,rfl⟩
  ·obtain⟨fs,e⟩:=Xr;rw[e]at hu;cases hu;exact .inr (.inr (.inr (.inr ⟨_,rfl⟩)))
  ·rw[jo]at hu;cases hu;exact .inr (.inr (.inr (.inl ⟨_,rfl⟩)))
  ·rw[Yo]at hu;cases hu;exact .inr (.inr (.inr (.inl ⟨_,rfl⟩)))
  ·obtain⟨fs,e⟩:=Vr;rw[e]at hu;cases hu;exact .inr (.inr (.inr (.inr ⟨_,rfl⟩)))
  ·obtain⟨fs,e⟩:=Ur;rw[e]at hu;cases hu;exact .inr (.inr (.inr (.inr ⟨_,rfl⟩)))
  ·rw[Xo]at hu;cases hu;exact .inl ⟨_,rfl⟩
  ·rw[Wo]at hu;cases hu;exact .inl ⟨_,rfl⟩
  ·rw[oo]at hu;cases hu;exact .inl ⟨_,rfl⟩
end Go.Lv.VT
