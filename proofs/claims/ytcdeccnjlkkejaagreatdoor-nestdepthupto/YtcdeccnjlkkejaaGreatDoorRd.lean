/- Which values may come in. -/
import Derived.Test.YtcdeccnjlkkejaaGreatDoorIp
import Derived.Test.YtcdeccnjlkkejaaGreatDoorLf
set_option linter.unusedSimpArgs false
set_option linter.unusedVariables false
namespace Go.Lv.VT
set_option maxRecDepth 100000
open Go.Proofs
def gd:List Nat:=[2,3,4,5,9,12,21,22,23,25,42,44,49,52,66,71,101,116,119,122,133,174,185,217]
theorem Kk:Tryz.prog.underlying 2=some (.int .i64):=by kernel_rfl
theorem Jk:Tryz.prog.underlying 3=some (.int .i64):=by kernel_rfl
theorem Wm:Tryz.prog.underlying 4=some (.bool):=by kernel_rfl
theorem Ik:Tryz.prog.underlying 5=some (.int .u8):=by kernel_rfl
theorem Vm:Tryz.prog.underlying 9=some (.string):=by kernel_rfl
theorem uk:Tryz.prog.underlying 12=some (.int .u64):=by kernel_rfl
theorem nk:Tryz.prog.underlying 21=some (.int .i32):=by kernel_rfl
theorem Fj:Tryz.prog.underlying 22=some (.slice 44):=by kernel_rfl
theorem jk:Tryz.prog.underlying 23=some (.slice 49):=by kernel_rfl
theorem ek:Tryz.prog.underlying 25=some (.int .i64):=by kernel_rfl
theorem ak:Tryz.prog.underlying 42=some (.slice 5):=by kernel_rfl
theorem Pn: ∃fs,Tryz.prog.underlying 44=some (.struct fs):=⟨(match Tryz.prog.underlying 44 with|some (.struct fs)=>fs|_=> #[]),by kernel_rfl⟩
theorem nI:Ri Tryz.prog 44=[(5,0),(9,1),(2,2),(9,3),(4,4)]:=by kernel_rfl
theorem Nn: ∃fs,Tryz.prog.underlying 49=some (.struct fs):=⟨(match Tryz.prog.underlying 49 with|some (.struct fs)=>fs|_=> #[]),by kernel_rfl⟩
theorem mI:Ri Tryz.prog 49=[(44,0),(23,5)]:=by kernel_rfl
theorem Yk:Tryz.prog.underlying 52=some (.slice 23):=by kernel_rfl
theorem Kn: ∃fs,Tryz.prog.underlying 66=some (.struct fs):=⟨(match Tryz.prog.underlying 66 with|some (.struct fs)=>fs|_=> #[]),by kernel_rfl⟩
theorem lI:Ri Tryz.prog 66=[(9,0),(23,1),(4,2)]:=by kernel_rfl
theorem Xk:Tryz.prog.underlying 71=some (.slice 66):=by kernel_rfl
theorem Xo: ∃fs,Tryz.prog.underlying 101=some (.struct fs):=⟨(match Tryz.prog.underlying 101 with|some (.struct fs)=>fs|_=> #[]),by kernel_rfl⟩
theorem UK:Ri Tryz.prog 101=[(3,0),(3,1),(4,2)]:=by kernel_rfl
theorem ol:Tryz.prog.underlying 116=some (.slice 119):=by kernel_rfl
theorem Wo: ∃fs,Tryz.prog.underlying 119=some (.struct fs):=⟨(match Tryz.prog.underlying 119 with|some (.struct fs)=>fs|_=> #[]),by kernel_rfl⟩
theorem TK:Ri Tryz.prog 119=[(3,0),(3,1)]:=by kernel_rfl
theorem ll:Tryz.prog.underlying 122=some (.slice 9):=by kernel_rfl
theorem Vo: ∃fs,Tryz.prog.underlying 133=some (.struct fs):=⟨(match Tryz.prog.underlying 133 with|some (.struct fs)=>fs|_=> #[]),by kernel_rfl⟩
theorem SK:Ri Tryz.prog 133=[(9,0),(3,1)]:=by kernel_rfl
theorem jl:Tryz.prog.underlying 174=some (.int .u64):=by kernel_rfl
theorem il:Tryz.prog.underlying 185=some (.int .u32):=by kernel_rfl
theorem Yl:Tryz.prog.underlying 217=some (.int .u64):=by kernel_rfl
theorem ipRd:IpRd Tryz.prog I (fun t=>t∈gd)where
 int:=fun t k hg hu n h1 h2=>by
  simp only[gd,Oa,Xb,Md]at hg;rcases hg with rfl|rfl|rfl|rfl|rfl|rfl|rfl|rfl|rfl|rfl|rfl|rfl|rfl|rfl|rfl|rfl|rfl|rfl|rfl|rfl|rfl|rfl|rfl|rfl
  ·rw[Kk]at hu;cases hu;exact⟨(n:Int),rfl⟩
  ·rw[Jk]at hu;cases hu;exact⟨(n:Int),rfl⟩
  ·rw[Wm]at hu;cases hu
  ·rw[Ik]at hu;cases hu;exact⟨UInt8.ofNat n.toNat,LJ h1 h2⟩
  ·rw[Vm]at hu;cases hu
  ·rw[uk]at hu;cases hu;exact⟨(n:Int),rfl⟩
  ·rw[nk]at hu;cases hu;exact⟨(n:Int),rfl⟩
  ·rw[Fj]at hu;cases hu
  ·rw[jk]at hu;cases hu
  ·rw[ek]at hu;cases hu;exact⟨(n:Int),rfl⟩
  ·rw[ak]at hu;cases hu
  ·obtain⟨fs,e⟩:=Pn;rw[e]at hu;cases hu
  ·obtain⟨fs,e⟩:=Nn;rw[e]at hu;cases hu
  ·rw[Yk]at hu;cases hu
  ·obtain⟨fs,e⟩:=Kn;rw[e]at hu;cases hu
  ·rw[Xk]at hu;cases hu
  ·obtain⟨fs,e⟩:=Xo;rw[e]at hu;cases hu
  ·rw[ol]at hu;cases hu
  ·obtain⟨fs,e⟩:=Wo;rw[e]at hu;cases hu
  ·rw[ll]at hu;cases hu
  ·obtain⟨fs,e⟩:=Vo;rw[e]at hu;cases hu
  ·rw[jl]at hu;cases hu;exact⟨(n:Int),rfl⟩
  ·rw[il]at hu;cases hu;exact⟨(n:Int),rfl⟩
  ·rw[Yl]at hu;cases hu;exact⟨(n:Int),rfl⟩
 bool:=fun t hg hu b=>by
  simp only[gd,Oa,Xb,Md]at hg;rcases hg with rfl|rfl|rfl|rfl|rfl|rfl|rfl|rfl|rfl|rfl|rfl|rfl|rfl|rfl|rfl|rfl|rfl|rfl|rfl|rfl|rfl|rfl|rfl|rfl
  ·rw[Kk]at hu;cases hu
  ·rw[Jk]at hu;cases hu
  ·exact⟨(b:Bool),rfl⟩
  ·rw[Ik]at hu;cases hu
  ·rw[Vm]at hu;cases hu
  ·rw[uk]at hu;cases hu
  ·rw[nk]at hu;cases hu
  ·rw[Fj]at hu;cases hu
  ·rw[jk]at hu;cases hu
  ·rw[ek]at hu;cases hu
  ·rw[ak]at hu;cases hu
  ·obtain⟨fs,e⟩:=Pn;rw[e]at hu;cases hu
  ·obtain⟨fs,e⟩:=Nn;rw[e]at hu;cases hu
  ·rw[Yk]at hu;cases hu
  ·obtain⟨fs,e⟩:=Kn;rw[e]at hu;cases hu
  ·rw[Xk]at hu;cases hu
  ·obtain⟨fs,e⟩:=Xo;rw[e]at hu;cases hu
  ·rw[ol]at hu;cases hu
  ·obtain⟨fs,e⟩:=Wo;rw[e]at hu;cases hu
  ·rw[ll]at hu;cases hu
  ·obtain⟨fs,e⟩:=Vo;rw[e]at hu;cases hu
  ·rw[jl]at hu;cases hu
  ·rw[il]at hu;cases hu
  ·rw[Yl]at hu;cases hu
 str:=fun t hg hu l=>by
  simp only[gd,Oa,Xb,Md]at hg;rcases hg with rfl|rfl|rfl|rfl|rfl|rfl|rfl|rfl|rfl|rfl|rfl|rfl|rfl|rfl|rfl|rfl|rfl|rfl|rfl|rfl|rfl|rfl|rfl|rfl
  ·rw[Kk]at hu;cases hu
  ·rw[Jk]at hu;cases hu
  ·rw[Wm]at hu;cases hu
  ·rw[Ik]at hu;cases hu
  ·exact⟨(l:Str),rfl⟩
  ·rw[uk]at hu;cases hu
  ·rw[nk]at hu;cases hu
  ·rw[Fj]at hu;cases hu
  ·rw[jk]at hu;cases hu
  ·rw[ek]at hu;cases hu
  ·rw[ak]at hu;cases hu
  ·obtain⟨fs,e⟩:=Pn;rw[e]at hu;cases hu
  ·obtain⟨fs,e⟩:=Nn;rw[e]at hu;cases hu
  ·rw[Yk]at hu;cases hu
  ·obtain⟨fs,e⟩:=Kn;rw[e]at hu;cases hu
  ·rw[Xk]at hu;cases hu
  ·obtain⟨fs,e⟩:=Xo;rw[e]at hu;cases hu
  ·rw[ol]at hu;cases hu
  ·obtain⟨fs,e⟩:=Wo;rw[e]at hu;cases hu
  ·rw[ll]at hu;cases hu
  ·obtain⟨fs,e⟩:=Vo;rw[e]at hu;cases hu
  ·rw[jl]at hu;cases hu
  ·rw[il]at hu;cases hu
  ·rw[Yl]at hu;cases hu
 sl:=fun t e hg hu=>by
  simp only[gd,Oa,Xb,Md]at hg;rcases hg with rfl|rfl|rfl|rfl|rfl|rfl|rfl|rfl|rfl|rfl|rfl|rfl|rfl|rfl|rfl|rfl|rfl|rfl|rfl|rfl|rfl|rfl|rfl|rfl
  ·rw[Kk]at hu;cases hu
  ·rw[Jk]at hu;cases hu
  ·rw[Wm]at hu;cases hu
  ·rw[Ik]at hu;cases hu
  ·rw[Vm]at hu;cases hu
  ·rw[uk]at hu;cases hu
  ·rw[nk]at hu;cases hu
  ·rw[Fj]at hu;cases hu;exact⟨by simp[gd],Fe (by decide:0<5) (by kernel_rfl:5=Tryz.prog.cellsOf 44),fun l=>⟨(l:List ze),rfl⟩⟩
  ·rw[jk]at hu;cases hu;exact⟨by simp[gd],Fe (by decide:0<6) (by kernel_rfl:6=Tryz.prog.cellsOf 49),fun l=>⟨(l:List zg),rfl⟩⟩
  ·rw[ek]at hu;cases hu
  ·rw[ak]at hu;cases hu;exact⟨by simp[gd],Fe (by decide:0<1) (by kernel_rfl:1=Tryz.prog.cellsOf 5),fun l=>⟨(l:List UInt8),rfl⟩⟩
  ·obtain⟨fs,e⟩:=Pn;rw[e]at hu;cases hu
  ·obtain⟨fs,e⟩:=Nn;rw[e]at hu;cases hu
  ·rw[Yk]at hu;cases hu;exact⟨by simp[gd],Fe (by decide:0<1) (by kernel_rfl:1=Tryz.prog.cellsOf 23),fun l=>⟨(l:List (List zg)),rfl⟩⟩
  ·obtain⟨fs,e⟩:=Kn;rw[e]at hu;cases hu
  ·rw[Xk]at hu;cases hu;exact⟨by simp[gd],Fe (by decide:0<3) (by kernel_rfl:3=Tryz.prog.cellsOf 66),fun l=>⟨(l:List zdV),rfl⟩⟩
  ·obtain⟨fs,e⟩:=Xo;rw[e]at hu;cases hu
  ·rw[ol]at hu;cases hu;exact⟨by simp[gd],Fe (by decide:0<2) (by kernel_rfl:2=Tryz.prog.cellsOf 119),fun l=>⟨(l:List zu),rfl⟩⟩
  ·obtain⟨fs,e⟩:=Wo;rw[e]at hu;cases hu
  ·rw[ll]at hu;cases hu;exact⟨by simp[gd],Fe (by decide:0<1) (by kernel_rfl:1=Tryz.prog.cellsOf 9),fun l=>⟨(l:List Str),rfl⟩⟩
  ·obtain⟨fs,e⟩:=Vo;rw[e]at hu;cases hu
  ·rw[jl]at hu;cases hu
  ·rw[il]at hu;cases hu
  ·rw[Yl]at hu;cases hu
 st:=fun t fs hg hu=>by
  simp only[gd,Oa,Xb,Md]at hg;rcases hg with rfl|rfl|rfl|rfl|rfl|rfl|rfl|rfl|rfl|rfl|rfl|rfl|rfl|rfl|rfl|rfl|rfl|rfl|rfl|rfl|rfl|rfl|rfl|rfl
  ·rw[Kk]at hu;cases hu
  ·rw[Jk]at hu;cases hu
  ·rw[Wm]at hu;cases hu
  ·rw[Ik]at hu;cases hu
  ·rw[Vm]at hu;cases hu
  ·rw[uk]at hu;cases hu
  ·rw[nk]at hu;cases hu
  ·rw[Fj]at hu;cases hu
  ·rw[jk]at hu;cases hu
  ·rw[ek]at hu;cases hu
  ·rw[ak]at hu;cases hu
  ·refine Mk hu nI (by simp[gd]) (by kernel_rfl) (by kernel_rfl) (fun pvs h0=> ?_);obtain⟨_,pvs,rfl,⟨y0,rfl⟩,h1⟩:=Zy h0;obtain⟨_,pvs,rfl,⟨y1,rfl⟩,h2⟩:=Zy h1;obtain⟨_,pvs,rfl,⟨y2,rfl⟩,h3⟩:=Zy h2;obtain⟨_,pvs,rfl,⟨y3,rfl⟩,h4⟩:=Zy h3;obtain⟨_,pvs,rfl,⟨y4,rfl⟩,h5⟩:=Zy h4;rw[Em h5];exact⟨(⟨((UInt8.toNat y0:Nat):Int),y1,y2,y3,y4⟩:ze),rfl⟩
  ·refine Mk hu mI (by simp[gd]) (by kernel_rfl) (by kernel_rfl) (fun pvs h0=> ?_);obtain⟨_,pvs,rfl,⟨y0,rfl⟩,h1⟩:=Zy h0;obtain⟨_,pvs,rfl,⟨y1,rfl⟩,h2⟩:=Zy h1;rw[Em h2];exact⟨(⟨y0,y1⟩:zg),(TH y0 y1).trans rfl⟩
  ·rw[Yk]at hu;cases hu
  ·refine Mk hu lI (by simp[gd]) (by kernel_rfl) (by kernel_rfl) (fun pvs h0=> ?_);obtain⟨_,pvs,rfl,⟨y0,rfl⟩,h1⟩:=Zy h0;obtain⟨_,pvs,rfl,⟨y1,rfl⟩,h2⟩:=Zy h1;obtain⟨_,pvs,rfl,⟨y2,rfl⟩,h3⟩:=Zy h2;rw[Em h3];exact⟨(⟨y0,y1,y2⟩:zdV),rfl⟩
  ·rw[Xk]at hu;cases hu
  ·refine Mk hu UK (by simp[gd]) (by kernel_rfl) (by kernel_rfl) (fun pvs h0=> ?_);obtain⟨_,pvs,rfl,⟨y0,rfl⟩,h1⟩:=Zy h0;obtain⟨_,pvs,rfl,⟨y1,rfl⟩,h2⟩:=Zy h1;obtain⟨_,pvs,rfl,⟨y2,rfl⟩,h3⟩:=Zy h2;rw[Em h3];exact⟨(⟨y0,y1,y2⟩:zm),rfl⟩
  ·rw[ol]at hu;cases hu
  ·refine Mk hu TK (by simp[gd]) (by kernel_rfl) (by kernel_rfl) (fun pvs h0=> ?_);obtain⟨_,pvs,rfl,⟨y0,rfl⟩,h1⟩:=Zy h0;obtain⟨_,pvs,rfl,⟨y1,rfl⟩,h2⟩:=Zy h1;rw[Em h2];exact⟨(⟨y0,y1⟩:zu),rfl⟩
  ·rw[ll]at hu;cases hu
  ·refine Mk hu SK (by simp[gd]) (by kernel_rfl) (by kernel_rfl) (fun pvs h0=> ?_);obtain⟨_,pvs,rfl,⟨y0,rfl⟩,h1⟩:=Zy h0;obtain⟨_,pvs,rfl,⟨y1,rfl⟩,h2⟩:=Zy h1;rw[Em h2];exact⟨(⟨y0,y1⟩:za),rfl⟩
  ·rw[jl]at hu;cases hu
  ·rw[il]at hu;cases hu
  ·rw[Yl]at hu;cases hu
 only:=fun t u hg hu=>by
  simp only[gd,Oa,Xb,Md]at hg;rcases hg with rfl|rfl|rfl|rfl|rfl|rfl|rfl|rfl|rfl|rfl|rfl|rfl|rfl|rfl|rfl|rfl|rfl|rfl|rfl|rfl|rfl|rfl|rfl|rfl
  ·rw[Kk]at hu;cases hu;exact .inl ⟨_,rfl⟩
  ·rw[Jk]at hu;cases hu;exact .inl ⟨_,rfl⟩
  ·rw[Wm]at hu;cases hu;exact .inr (.inl rfl)
  ·rw[Ik]at hu;cases hu;exact .inl ⟨_,rfl⟩
  ·rw[Vm]at hu;cases hu;exact .inr (.inr (.inl rfl))
  ·rw[uk]at hu;cases hu;exact .inl ⟨_,rfl⟩
  ·rw[nk]at hu;cases hu;exact .inl ⟨_,rfl⟩
  ·rw[Fj]at hu;cases hu;exact .inr (.inr (.inr (.inl ⟨_,rfl⟩)))
  ·rw[jk]at hu;cases hu;exact .inr (.inr (.inr (.inl ⟨_,rfl⟩)))
  ·rw[ek]at hu;cases hu;exact .inl ⟨_,rfl⟩
  ·rw[ak]at hu;cases hu;exact .inr (.inr (.inr (.inl ⟨_,rfl⟩)))
  ·obtain⟨fs,e⟩:=Pn;rw[e]at hu;cases hu;exact .inr (.inr (.inr (.inr ⟨_,rfl⟩)))
  ·obtain⟨fs,e⟩:=Nn;rw[e]at hu;cases hu;exact .inr (.inr (.inr (.inr ⟨_,rfl⟩)))
  ·rw[Yk]at hu;cases hu;exact .inr (.inr (.inr (.inl ⟨_,rfl⟩)))
  ·obtain⟨fs,e⟩:=Kn;rw[e]at hu;cases hu;exact .inr (.inr (.inr (.inr ⟨_,rfl⟩)))
  ·rw[Xk]at hu;cases hu;exact .inr (.inr (.inr (.inl ⟨_,rfl⟩)))
  ·obtain⟨fs,e⟩:=Xo;rw[e]at hu;cases hu;exact .inr (.inr (.inr (.inr ⟨_,rfl⟩)))
  ·rw[ol]at hu;cases hu;exact .inr (.inr (.inr (.inl ⟨_,rfl⟩)))
  ·obtain⟨fs,e⟩:=Wo;rw[e]at hu;cases hu;exact .inr (.inr (.inr (.inr ⟨_,rfl⟩)))
  ·rw[ll]at hu;cases hu;exact .inr (.inr (.inr (.inl ⟨_,rfl⟩)))
  ·obtain⟨fs,e⟩:=Vo;rw[e]at hu;cases hu;exact .inr (.inr (.inr (.inr ⟨_,rfl⟩)))
  ·rw[jl]at hu;cases hu;exact .inl ⟨_,rfl⟩
  ·rw[il]at hu;cases hu;exact .inl ⟨_,rfl⟩
  ·rw[Yl]at hu;cases hu;exact .inl ⟨_,rfl⟩
end Go.Lv.VT
