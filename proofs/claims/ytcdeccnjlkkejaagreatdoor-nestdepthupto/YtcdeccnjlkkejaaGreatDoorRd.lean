/- Which values may come in. -/
import Derived.Test.YtcdeccnjlkkejaaGreatDoorIp
import Derived.Test.YtcdeccnjlkkejaaGreatDoorLf
set_option linter.unusedSimpArgs false
set_option linter.unusedVariables false
namespace Go.Lv.VT
set_option maxRecDepth 100000
open Go.Proofs
def gd:List Nat:=[2,3,4,5,9,12,21,22,23,25,42,44,49,52,66,71,101,116,119,122,133,174,185,217]
theorem Pk:Tryz.prog.underlying 2=some (.int .i64):=by kernel_rfl
theorem Nk:Tryz.prog.underlying 3=some (.int .i64):=by kernel_rfl
theorem Ym:Tryz.prog.underlying 4=some (.bool):=by kernel_rfl
theorem Mk:Tryz.prog.underlying 5=some (.int .u8):=by kernel_rfl
theorem Xm:Tryz.prog.underlying 9=some (.string):=by kernel_rfl
theorem Al:Tryz.prog.underlying 12=some (.int .u64):=by kernel_rfl
theorem xk:Tryz.prog.underlying 21=some (.int .i32):=by kernel_rfl
theorem Ij:Tryz.prog.underlying 22=some (.slice 44):=by kernel_rfl
theorem uk:Tryz.prog.underlying 23=some (.slice 49):=by kernel_rfl
theorem nk:Tryz.prog.underlying 25=some (.int .i64):=by kernel_rfl
theorem jk:Tryz.prog.underlying 42=some (.slice 5):=by kernel_rfl
theorem Sn: ∃fs,Tryz.prog.underlying 44=some (.struct fs):=⟨(match Tryz.prog.underlying 44 with|some (.struct fs)=>fs|_=> #[]),by kernel_rfl⟩
theorem pI:Ti Tryz.prog 44=[(5,0),(9,1),(2,2),(9,3),(4,4)]:=by kernel_rfl
theorem Rn: ∃fs,Tryz.prog.underlying 49=some (.struct fs):=⟨(match Tryz.prog.underlying 49 with|some (.struct fs)=>fs|_=> #[]),by kernel_rfl⟩
theorem oI:Ti Tryz.prog 49=[(44,0),(23,5)]:=by kernel_rfl
theorem ek:Tryz.prog.underlying 52=some (.slice 23):=by kernel_rfl
theorem Pn: ∃fs,Tryz.prog.underlying 66=some (.struct fs):=⟨(match Tryz.prog.underlying 66 with|some (.struct fs)=>fs|_=> #[]),by kernel_rfl⟩
theorem nI:Ti Tryz.prog 66=[(9,0),(23,1),(4,2)]:=by kernel_rfl
theorem ak:Tryz.prog.underlying 71=some (.slice 66):=by kernel_rfl
theorem jo: ∃fs,Tryz.prog.underlying 101=some (.struct fs):=⟨(match Tryz.prog.underlying 101 with|some (.struct fs)=>fs|_=> #[]),by kernel_rfl⟩
theorem WK:Ti Tryz.prog 101=[(3,0),(3,1),(4,2)]:=by kernel_rfl
theorem yl:Tryz.prog.underlying 116=some (.slice 119):=by kernel_rfl
theorem Yo: ∃fs,Tryz.prog.underlying 119=some (.struct fs):=⟨(match Tryz.prog.underlying 119 with|some (.struct fs)=>fs|_=> #[]),by kernel_rfl⟩
theorem VK:Ti Tryz.prog 119=[(3,0),(3,1)]:=by kernel_rfl
theorem ul:Tryz.prog.underlying 122=some (.slice 9):=by kernel_rfl
theorem Xo: ∃fs,Tryz.prog.underlying 133=some (.struct fs):=⟨(match Tryz.prog.underlying 133 with|some (.struct fs)=>fs|_=> #[]),by kernel_rfl⟩
theorem UK:Ti Tryz.prog 133=[(9,0),(3,1)]:=by kernel_rfl
theorem ol:Tryz.prog.underlying 174=some (.int .u64):=by kernel_rfl
theorem ll:Tryz.prog.underlying 185=some (.int .u32):=by kernel_rfl
theorem jl:Tryz.prog.underlying 217=some (.int .u64):=by kernel_rfl
theorem ipRd:IpRd Tryz.prog I (fun t=>t∈gd)where
 int:=fun t k hg hu n h1 h2=>by
  simp only[gd,Oa,Xb,Xd]at hg;rcases hg with rfl|rfl|rfl|rfl|rfl|rfl|rfl|rfl|rfl|rfl|rfl|rfl|rfl|rfl|rfl|rfl|rfl|rfl|rfl|rfl|rfl|rfl|rfl|rfl
  ·rw[Pk]at hu;cases hu;exact⟨(n:Int),rfl⟩
  ·rw[Nk]at hu;cases hu;exact⟨(n:Int),rfl⟩
  ·rw[Ym]at hu;cases hu
  ·rw[Mk]at hu;cases hu;exact⟨UInt8.ofNat n.toNat,NJ h1 h2⟩
  ·rw[Xm]at hu;cases hu
  ·rw[Al]at hu;cases hu;exact⟨(n:Int),rfl⟩
  ·rw[xk]at hu;cases hu;exact⟨(n:Int),rfl⟩
  ·rw[Ij]at hu;cases hu
  ·rw[uk]at hu;cases hu
  ·rw[nk]at hu;cases hu;exact⟨(n:Int),rfl⟩
  ·rw[jk]at hu;cases hu
  ·obtain⟨fs,e⟩:=Sn;rw[e]at hu;cases hu
  ·obtain⟨fs,e⟩:=Rn;rw[e]at hu;cases hu
  ·rw[ek]at hu;cases hu
  ·obtain⟨fs,e⟩:=Pn;rw[e]at hu;cases hu
  ·rw[ak]at hu;cases hu
  ·obtain⟨fs,e⟩:=jo;rw[e]at hu;cases hu
  ·rw[yl]at hu;cases hu
  ·obtain⟨fs,e⟩:=Yo;rw[e]at hu;cases hu
  ·rw[ul]at hu;cases hu
  ·obtain⟨fs,e⟩:=Xo;rw[e]at hu;cases hu
  ·rw[ol]at hu;cases hu;exact⟨(n:Int),rfl⟩
  ·rw[ll]at hu;cases hu;exact⟨(n:Int),rfl⟩
  ·rw[jl]at hu;cases hu;exact⟨(n:Int),rfl⟩
 bool:=fun t hg hu b=>by
  simp only[gd,Oa,Xb,Xd]at hg;rcases hg with rfl|rfl|rfl|rfl|rfl|rfl|rfl|rfl|rfl|rfl|rfl|rfl|rfl|rfl|rfl|rfl|rfl|rfl|rfl|rfl|rfl|rfl|rfl|rfl
  ·rw[Pk]at hu;cases hu
  ·rw[Nk]at hu;cases hu
  ·exact⟨(b:Bool),rfl⟩
  ·rw[Mk]at hu;cases hu
  ·rw[Xm]at hu;cases hu
  ·rw[Al]at hu;cases hu
  ·rw[xk]at hu;cases hu
  ·rw[Ij]at hu;cases hu
  ·rw[uk]at hu;cases hu
  ·rw[nk]at hu;cases hu
  ·rw[jk]at hu;cases hu
  ·obtain⟨fs,e⟩:=Sn;rw[e]at hu;cases hu
  ·obtain⟨fs,e⟩:=Rn;rw[e]at hu;cases hu
  ·rw[ek]at hu;cases hu
  ·obtain⟨fs,e⟩:=Pn;rw[e]at hu;cases hu
  ·rw[ak]at hu;cases hu
  ·obtain⟨fs,e⟩:=jo;rw[e]at hu;cases hu
  ·rw[yl]at hu;cases hu
  ·obtain⟨fs,e⟩:=Yo;rw[e]at hu;cases hu
  ·rw[ul]at hu;cases hu
  ·obtain⟨fs,e⟩:=Xo;rw[e]at hu;cases hu
  ·rw[ol]at hu;cases hu
  ·rw[ll]at hu;cases hu
  ·rw[jl]at hu;cases hu
 str:=fun t hg hu l=>by
  simp only[gd,Oa,Xb,Xd]at hg;rcases hg with rfl|rfl|rfl|rfl|rfl|rfl|rfl|rfl|rfl|rfl|rfl|rfl|rfl|rfl|rfl|rfl|rfl|rfl|rfl|rfl|rfl|rfl|rfl|rfl
  ·rw[Pk]at hu;cases hu
  ·rw[Nk]at hu;cases hu
  ·rw[Ym]at hu;cases hu
  ·rw[Mk]at hu;cases hu
  ·exact⟨(l:Str),rfl⟩
  ·rw[Al]at hu;cases hu
  ·rw[xk]at hu;cases hu
  ·rw[Ij]at hu;cases hu
  ·rw[uk]at hu;cases hu
  ·rw[nk]at hu;cases hu
  ·rw[jk]at hu;cases hu
  ·obtain⟨fs,e⟩:=Sn;rw[e]at hu;cases hu
  ·obtain⟨fs,e⟩:=Rn;rw[e]at hu;cases hu
  ·rw[ek]at hu;cases hu
  ·obtain⟨fs,e⟩:=Pn;rw[e]at hu;cases hu
  ·rw[ak]at hu;cases hu
  ·obtain⟨fs,e⟩:=jo;rw[e]at hu;cases hu
  ·rw[yl]at hu;cases hu
  ·obtain⟨fs,e⟩:=Yo;rw[e]at hu;cases hu
  ·rw[ul]at hu;cases hu
  ·obtain⟨fs,e⟩:=Xo;rw[e]at hu;cases hu
  ·rw[ol]at hu;cases hu
  ·rw[ll]at hu;cases hu
  ·rw[jl]at hu;cases hu
 sl:=fun t e hg hu=>by
  simp only[gd,Oa,Xb,Xd]at hg;rcases hg with rfl|rfl|rfl|rfl|rfl|rfl|rfl|rfl|rfl|rfl|rfl|rfl|rfl|rfl|rfl|rfl|rfl|rfl|rfl|rfl|rfl|rfl|rfl|rfl
  ·rw[Pk]at hu;cases hu
  ·rw[Nk]at hu;cases hu
  ·rw[Ym]at hu;cases hu
  ·rw[Mk]at hu;cases hu
  ·rw[Xm]at hu;cases hu
  ·rw[Al]at hu;cases hu
  ·rw[xk]at hu;cases hu
  ·rw[Ij]at hu;cases hu;exact⟨by simp[gd],Me (by decide:0<5) (by kernel_rfl:5=Tryz.prog.cellsOf 44),fun l=>⟨(l:List ze),rfl⟩⟩
  ·rw[uk]at hu;cases hu;exact⟨by simp[gd],Me (by decide:0<6) (by kernel_rfl:6=Tryz.prog.cellsOf 49),fun l=>⟨(l:List zg),rfl⟩⟩
  ·rw[nk]at hu;cases hu
  ·rw[jk]at hu;cases hu;exact⟨by simp[gd],Me (by decide:0<1) (by kernel_rfl:1=Tryz.prog.cellsOf 5),fun l=>⟨(l:List UInt8),rfl⟩⟩
  ·obtain⟨fs,e⟩:=Sn;rw[e]at hu;cases hu
  ·obtain⟨fs,e⟩:=Rn;rw[e]at hu;cases hu
  ·rw[ek]at hu;cases hu;exact⟨by simp[gd],Me (by decide:0<1) (by kernel_rfl:1=Tryz.prog.cellsOf 23),fun l=>⟨(l:List (List zg)),rfl⟩⟩
  ·obtain⟨fs,e⟩:=Pn;rw[e]at hu;cases hu
  ·rw[ak]at hu;cases hu;exact⟨by simp[gd],Me (by decide:0<3) (by kernel_rfl:3=Tryz.prog.cellsOf 66),fun l=>⟨(l:List zdV),rfl⟩⟩
  ·obtain⟨fs,e⟩:=jo;rw[e]at hu;cases hu
  ·rw[yl]at hu;cases hu;exact⟨by simp[gd],Me (by decide:0<2) (by kernel_rfl:2=Tryz.prog.cellsOf 119),fun l=>⟨(l:List zu),rfl⟩⟩
  ·obtain⟨fs,e⟩:=Yo;rw[e]at hu;cases hu
  ·rw[ul]at hu;cases hu;exact⟨by simp[gd],Me (by decide:0<1) (by kernel_rfl:1=Tryz.prog.cellsOf 9),fun l=>⟨(l:List Str),rfl⟩⟩
  ·obtain⟨fs,e⟩:=Xo;rw[e]at hu;cases hu
  ·rw[ol]at hu;cases hu
  ·rw[ll]at hu;cases hu
  ·rw[jl]at hu;cases hu
 st:=fun t fs hg hu=>by
  simp only[gd,Oa,Xb,Xd]at hg;rcases hg with rfl|rfl|rfl|rfl|rfl|rfl|rfl|rfl|rfl|rfl|rfl|rfl|rfl|rfl|rfl|rfl|rfl|rfl|rfl|rfl|rfl|rfl|rfl|rfl
  ·rw[Pk]at hu;cases hu
  ·rw[Nk]at hu;cases hu
  ·rw[Ym]at hu;cases hu
  ·rw[Mk]at hu;cases hu
  ·rw[Xm]at hu;cases hu
  ·rw[Al]at hu;cases hu
  ·rw[xk]at hu;cases hu
  ·rw[Ij]at hu;cases hu
  ·rw[uk]at hu;cases hu
  ·rw[nk]at hu;cases hu
  ·rw[jk]at hu;cases hu
  ·refine Rk hu pI (by simp[gd]) (by kernel_rfl) (by kernel_rfl) (fun pvs h0=> ?_);obtain⟨_,pvs,rfl,⟨y0,rfl⟩,h1⟩:=Zz h0;obtain⟨_,pvs,rfl,⟨y1,rfl⟩,h2⟩:=Zz h1;obtain⟨_,pvs,rfl,⟨y2,rfl⟩,h3⟩:=Zz h2;obtain⟨_,pvs,rfl,⟨y3,rfl⟩,h4⟩:=Zz h3;obtain⟨_,pvs,rfl,⟨y4,rfl⟩,h5⟩:=Zz h4;rw[Hm h5];exact⟨(⟨((UInt8.toNat y0:Nat):Int),y1,y2,y3,y4⟩:ze),rfl⟩
  ·refine Rk hu oI (by simp[gd]) (by kernel_rfl) (by kernel_rfl) (fun pvs h0=> ?_);obtain⟨_,pvs,rfl,⟨y0,rfl⟩,h1⟩:=Zz h0;obtain⟨_,pvs,rfl,⟨y1,rfl⟩,h2⟩:=Zz h1;rw[Hm h2];exact⟨(⟨y0,y1⟩:zg),(VH y0 y1).trans rfl⟩
  ·rw[ek]at hu;cases hu
  ·refine Rk hu nI (by simp[gd]) (by kernel_rfl) (by kernel_rfl) (fun pvs h0=> ?_);obtain⟨_,pvs,rfl,⟨y0,rfl⟩,h1⟩:=Zz h0;obtain⟨_,pvs,rfl,⟨y1,rfl⟩,h2⟩:=Zz h1;obtain⟨_,pvs,rfl,⟨y2,rfl⟩,h3⟩:=Zz h2;rw[Hm h3];exact⟨(⟨y0,y1,y2⟩:zdV),rfl⟩
  ·rw[ak]at hu;cases hu
  ·refine Rk hu WK (by simp[gd]) (by kernel_rfl) (by kernel_rfl) (fun pvs h0=> ?_);obtain⟨_,pvs,rfl,⟨y0,rfl⟩,h1⟩:=Zz h0;obtain⟨_,pvs,rfl,⟨y1,rfl⟩,h2⟩:=Zz h1;obtain⟨_,pvs,rfl,⟨y2,rfl⟩,h3⟩:=Zz h2;rw[Hm h3];exact⟨(⟨y0,y1,y2⟩:zm),rfl⟩
  ·rw[yl]at hu;cases hu
  ·refine Rk hu VK (by simp[gd]) (by kernel_rfl) (by kernel_rfl) (fun pvs h0=> ?_);obtain⟨_,pvs,rfl,⟨y0,rfl⟩,h1⟩:=Zz h0;obtain⟨_,pvs,rfl,⟨y1,rfl⟩,h2⟩:=Zz h1;rw[Hm h2];exact⟨(⟨y0,y1⟩:zu),rfl⟩
  ·rw[ul]at hu;cases hu
  ·refine Rk hu UK (by simp[gd]) (by kernel_rfl) (by kernel_rfl) (fun pvs h0=> ?_);obtain⟨_,pvs,rfl,⟨y0,rfl⟩,h1⟩:=Zz h0;obtain⟨_,pvs,rfl,⟨y1,rfl⟩,h2⟩:=Zz h1;rw[Hm h2];exact⟨(⟨y0,y1⟩:za),rfl⟩
  ·rw[ol]at hu;cases hu
  ·rw[ll]at hu;cases hu
  ·rw[jl]at hu;cases hu
 only:=fun t u hg hu=>by
  simp only[gd,Oa,Xb,Xd]at hg;rcases hg with rfl|rfl|rfl|rfl|rfl|rfl|rfl|rfl|rfl|rfl|rfl|rfl|rfl|rfl|rfl|rfl|rfl|rfl|rfl|rfl|rfl|rfl|rfl|rfl
  ·rw[Pk]at hu;cases hu;exact .inl ⟨_,rfl⟩
  ·rw[Nk]at hu;cases hu;exact .inl ⟨_,rfl⟩
  ·rw[Ym]at hu;cases hu;exact .inr (.inl rfl)
  ·rw[Mk]at hu;cases hu;exact .inl ⟨_,rfl⟩
  ·rw[Xm]at hu;cases hu;exact .inr (.inr (.inl rfl))
  ·rw[Al]at hu;cases hu;exact .inl ⟨_,rfl⟩
  ·rw[xk]at hu;cases hu;exact .inl ⟨_,rfl⟩
  ·rw[Ij]at hu;cases hu;exact .inr (.inr (.inr (.inl ⟨_,rfl⟩)))
  ·rw[uk]at hu;cases hu;exact .inr (.inr (.inr (.inl ⟨_,rfl⟩)))
  ·rw[nk]at hu;cases hu;exact .inl ⟨_,rfl⟩
  ·rw[jk]at hu;cases hu;exact .inr (.inr (.inr (.inl ⟨_,rfl⟩)))
  ·obtain⟨fs,e⟩:=Sn;rw[e]at hu;cases hu;exact .inr (.inr (.inr (.inr ⟨_,rfl⟩)))
  ·obtain⟨fs,e⟩:=Rn;rw[e]at hu;cases hu;exact .inr (.inr (.inr (.inr ⟨_,rfl⟩)))
  ·rw[ek]at hu;cases hu;exact .inr (.inr (.inr (.inl ⟨_,rfl⟩)))
  ·obtain⟨fs,e⟩:=Pn;rw[e]at hu;cases hu;exact .inr (.inr (.inr (.inr ⟨_,rfl⟩)))
  ·rw[ak]at hu;cases hu;exact .inr (.inr (.inr (.inl ⟨_,rfl⟩)))
  ·obtain⟨fs,e⟩:=jo;rw[e]at hu;cases hu;exact .inr (.inr (.inr (.inr ⟨_,rfl⟩)))
  ·rw[yl]at hu;cases hu;exact .inr (.inr (.inr (.inl ⟨_,rfl⟩)))
  ·obtain⟨fs,e⟩:=Yo;rw[e]at hu;cases hu;exact .inr (.inr (.inr (.inr ⟨_,rfl⟩)))
  ·rw[ul]at hu;cases hu;exact .inr (.inr (.inr (.inl ⟨_,rfl⟩)))
  ·obtain⟨fs,e⟩:=Xo;rw[e]at hu;cases hu;exact .inr (.inr (.inr (.inr ⟨_,rfl⟩)))
  ·rw[ol]at hu;cases hu;exact .inl ⟨_,rfl⟩
  ·rw[ll]at hu;cases hu;exact .inl ⟨_,rfl⟩
  ·rw[jl]at hu;cases hu;exact .inl ⟨_,rfl⟩
end Go.Lv.VT
