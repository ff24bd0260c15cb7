/- Which values may come in. -/
import Derived.Test.YtkecjfeffabgiaaGreatDoorIp
import Derived.Test.YtkecjfeffabgiaaGreatDoorLf
set_option linter.unusedSimpArgs false
set_option linter.unusedVariables false
namespace Go.Lv.VT
set_option maxRecDepth 100000
open Go.Proofs
def gd:List Nat:=[2,3,4,5,9,12,21,22,24,25,27,29,30,32,33,52,57,59,62,85,87,111,121,133,172,189,206,208,211,220]
theorem Ni:Tryz.prog.underlying 2=some (.int .i64):=by kernel_rfl
theorem Jl:Tryz.prog.underlying 3=some (.int .i64):=by kernel_rfl
theorem mo:Tryz.prog.underlying 4=some (.bool):=by kernel_rfl
theorem Il:Tryz.prog.underlying 5=some (.int .u8):=by kernel_rfl
theorem ko:Tryz.prog.underlying 9=some (.string):=by kernel_rfl
theorem Dm:Tryz.prog.underlying 12=some (.int .u64):=by kernel_rfl
theorem Cm:Tryz.prog.underlying 21=some (.int .i32):=by kernel_rfl
theorem Am:Tryz.prog.underlying 22=some (.slice 59):=by kernel_rfl
theorem Aq: ∃fs,Tryz.prog.underlying 24=some (.struct fs):=⟨(match Tryz.prog.underlying 24 with|some (.struct fs)=>fs|_=> #[]),by kernel_rfl⟩
theorem tO:Bh Tryz.prog 24=[(9,0),(22,1),(4,2)]:=by kernel_rfl
theorem yl:Tryz.prog.underlying 25=some (.slice 27):=by kernel_rfl
theorem gp: ∃fs,Tryz.prog.underlying 27=some (.struct fs):=⟨(match Tryz.prog.underlying 27 with|some (.struct fs)=>fs|_=> #[]),by kernel_rfl⟩
theorem sO:Bh Tryz.prog 27=[(5,0),(9,1),(2,2),(24,3),(25,6)]:=by kernel_rfl
theorem Yp: ∃fs,Tryz.prog.underlying 29=some (.struct fs):=⟨(match Tryz.prog.underlying 29 with|some (.struct fs)=>fs|_=> #[]),by kernel_rfl⟩
theorem rO:Bh Tryz.prog 29=[(2,0)]:=by kernel_rfl
theorem ul:Tryz.prog.underlying 30=some (.slice 4):=by kernel_rfl
theorem ol:Tryz.prog.underlying 32=some (.slice 24):=by kernel_rfl
theorem ll:Tryz.prog.underlying 33=some (.int .i64):=by kernel_rfl
theorem jl:Tryz.prog.underlying 52=some (.slice 9):=by kernel_rfl
theorem Xp: ∃fs,Tryz.prog.underlying 57=some (.struct fs):=⟨(match Tryz.prog.underlying 57 with|some (.struct fs)=>fs|_=> #[]),by kernel_rfl⟩
theorem pO:Bh Tryz.prog 57=[(5,0),(9,1),(2,2),(9,3),(4,4)]:=by kernel_rfl
theorem Wp: ∃fs,Tryz.prog.underlying 59=some (.struct fs):=⟨(match Tryz.prog.underlying 59 with|some (.struct fs)=>fs|_=> #[]),by kernel_rfl⟩
theorem oO:Bh Tryz.prog 59=[(57,0),(22,5)]:=by kernel_rfl
theorem il:Tryz.prog.underlying 62=some (.slice 57):=by kernel_rfl
theorem Vp: ∃fs,Tryz.prog.underlying 85=some (.struct fs):=⟨(match Tryz.prog.underlying 85 with|some (.struct fs)=>fs|_=> #[]),by kernel_rfl⟩
theorem nO:Bh Tryz.prog 85=[(22,0)]:=by kernel_rfl
theorem Yl:Tryz.prog.underlying 87=some (.slice 22):=by kernel_rfl
theorem Mq: ∃fs,Tryz.prog.underlying 111=some (.struct fs):=⟨(match Tryz.prog.underlying 111 with|some (.struct fs)=>fs|_=> #[]),by kernel_rfl⟩
theorem CQ:Bh Tryz.prog 111=[(3,0),(3,1),(4,2)]:=by kernel_rfl
theorem Kq: ∃fs,Tryz.prog.underlying 121=some (.struct fs):=⟨(match Tryz.prog.underlying 121 with|some (.struct fs)=>fs|_=> #[]),by kernel_rfl⟩
theorem BQ:Bh Tryz.prog 121=[(9,0),(3,1)]:=by kernel_rfl
theorem Pm:Tryz.prog.underlying 133=some (.slice 5):=by kernel_rfl
theorem Om:Tryz.prog.underlying 172=some (.slice 2):=by kernel_rfl
theorem Mm:Tryz.prog.underlying 189=some (.int .u32):=by kernel_rfl
theorem Ym:Tryz.prog.underlying 206=some (.int .u64):=by kernel_rfl
theorem Xm:Tryz.prog.underlying 208=some (.slice 211):=by kernel_rfl
theorem Jq: ∃fs,Tryz.prog.underlying 211=some (.struct fs):=⟨(match Tryz.prog.underlying 211 with|some (.struct fs)=>fs|_=> #[]),by kernel_rfl⟩
theorem AQ:Bh Tryz.prog 211=[(3,0),(3,1)]:=by kernel_rfl
theorem Wm:Tryz.prog.underlying 220=some (.int .u64):=by kernel_rfl
theorem ipRd:IpRd Tryz.prog I (fun t=>t∈gd)where
 int:=fun t k hg hu n h1 h2=>by
  simp only[gd,Ua,jc,yf]at hg;rcases hg with rfl|rfl|rfl|rfl|rfl|rfl|rfl|rfl|rfl|rfl|rfl|rfl|rfl|rfl|rfl|rfl|rfl|rfl|rfl|rfl|rfl|rfl|rfl|rfl|rfl|rfl|rfl|rfl|rfl|rfl
  ·rw[Ni]at hu;cases hu;exact⟨(n:Int),rfl⟩
  ·rw[Jl]at hu;cases hu;exact⟨(n:Int),rfl⟩
  ·rw[mo]at hu;cases hu
  ·rw[Il]at hu;cases hu;exact⟨UInt8.ofNat n.toNat,EP h1 h2⟩
  ·rw[ko]at hu;cases hu
  ·rw[Dm]at hu;cases hu;exact⟨(n:Int),rfl⟩
  ·rw[Cm]at hu;cases hu;exact⟨(n:Int),rfl⟩
  ·rw[Am]at hu;cases hu
  ·obtain⟨fs,e⟩:=Aq;rw[e]at hu;cases hu
  ·rw[yl]at hu;cases hu
  ·obtain⟨fs,e⟩:=gp;rw[e]at hu;cases hu
  ·obtain⟨fs,e⟩:=Yp;rw[e]at hu;cases hu
  ·rw[ul]at hu;cases hu
  ·rw[ol]at hu;cases hu
  ·rw[ll]at hu;cases hu;exact⟨(n:Int),rfl⟩
  ·rw[jl]at hu;cases hu
  ·obtain⟨fs,e⟩:=Xp;rw[e]at hu;cases hu
  ·obtain⟨fs,e⟩:=Wp;rw[e]at hu;cases hu
  ·rw[il]at hu;cases hu
  ·obtain⟨fs,e⟩:=Vp;rw[e]at hu;cases hu
  ·rw[Yl]at hu;cases hu
  ·obtain⟨fs,e⟩:=Mq;rw[e]at hu;cases hu
  ·obtain⟨fs,e⟩:=Kq;rw[e]at hu;cases hu
  ·rw[Pm]at hu;cases hu
  ·rw[Om]at hu;cases hu
  ·rw[Mm]at hu;cases hu;exact⟨(n:Int),rfl⟩
  ·rw[Ym]at hu;cases hu;exact⟨(n:Int),rfl⟩
  ·rw[Xm]at hu;cases hu
  ·obtain⟨fs,e⟩:=Jq;rw[e]at hu;cases hu
  ·rw[Wm]at hu;cases hu;exact⟨(n:Int),rfl⟩
 bool:=fun t hg hu b=>by
  simp only[gd,Ua,jc,yf]at hg;rcases hg with rfl|rfl|rfl|rfl|rfl|rfl|rfl|rfl|rfl|rfl|rfl|rfl|rfl|rfl|rfl|rfl|rfl|rfl|rfl|rfl|rfl|rfl|rfl|rfl|rfl|rfl|rfl|rfl|rfl|rfl
  ·rw[Ni]at hu;cases hu
  ·rw[Jl]at hu;cases hu
  ·exact⟨(b:Bool),rfl⟩
  ·rw[Il]at hu;cases hu
  ·rw[ko]at hu;cases hu
  ·rw[Dm]at hu;cases hu
  ·rw[Cm]at hu;cases hu
  ·rw[Am]at hu;cases hu
  ·obtain⟨fs,e⟩:=Aq;rw[e]at hu;cases hu
  ·rw[yl]at hu;cases hu
  ·obtain⟨fs,e⟩:=gp;rw[e]at hu;cases hu
  ·obtain⟨fs,e⟩:=Yp;rw[e]at hu;cases hu
  ·rw[ul]at hu;cases hu
  ·rw[ol]at hu;cases hu
  ·rw[ll]at hu;cases hu
  ·rw[jl]at hu;cases hu
  ·obtain⟨fs,e⟩:=Xp;rw[e]at hu;cases hu
  ·obtain⟨fs,e⟩:=Wp;rw[e]at hu;cases hu
  ·rw[il]at hu;cases hu
  ·obtain⟨fs,e⟩:=Vp;rw[e]at hu;cases hu
  ·rw[Yl]at hu;cases hu
  ·obtain⟨fs,e⟩:=Mq;rw[e]at hu;cases hu
  ·obtain⟨fs,e⟩:=Kq;rw[e]at hu;cases hu
  ·rw[Pm]at hu;cases hu
  ·rw[Om]at hu;cases hu
  ·rw[Mm]at hu;cases hu
  ·rw[Ym]at hu;cases hu
  ·rw[Xm]at hu;cases hu
  ·obtain⟨fs,e⟩:=Jq;rw[e]at hu;cases hu
  ·rw[Wm]at hu;cases hu
 str:=fun t hg hu l=>by
  simp only[gd,Ua,jc,yf]at hg;rcases hg with rfl|rfl|rfl|rfl|rfl|rfl|rfl|rfl|rfl|rfl|rfl|rfl|rfl|rfl|rfl|rfl|rfl|rfl|rfl|rfl|rfl|rfl|rfl|rfl|rfl|rfl|rfl|rfl|rfl|rfl
  ·rw[Ni]at hu;cases hu
  ·rw[Jl]at hu;cases hu
  ·rw[mo]at hu;cases hu
  ·rw[Il]at hu;cases hu
  ·exact⟨(l:Str),rfl⟩
  ·rw[Dm]at hu;cases hu
  ·rw[Cm]at hu;cases hu
  ·rw[Am]at hu;cases hu
  ·obtain⟨fs,e⟩:=Aq;rw[e]at hu;cases hu
  ·rw[yl]at hu;cases hu
  ·obtain⟨fs,e⟩:=gp;rw[e]at hu;cases hu
  ·obtain⟨fs,e⟩:=Yp;rw[e]at hu;cases hu
  ·rw[ul]at hu;cases hu
  ·rw[ol]at hu;cases hu
  ·rw[ll]at hu;cases hu
  ·rw[jl]at hu;cases hu
  ·obtain⟨fs,e⟩:=Xp;rw[e]at hu;cases hu
  ·obtain⟨fs,e⟩:=Wp;rw[e]at hu;cases hu
  ·rw[il]at hu;cases hu
  ·obtain⟨fs,e⟩:=Vp;rw[e]at hu;cases hu
  ·rw[Yl]at hu;cases hu
  ·obtain⟨fs,e⟩:=Mq;rw[e]at hu;cases hu
  ·obtain⟨fs,e⟩:=Kq;rw[e]at hu;cases hu
  ·rw[Pm]at hu;cases hu
  ·rw[Om]at hu;cases hu
  ·rw[Mm]at hu;cases hu
  ·rw[Ym]at hu;cases hu
  ·rw[Xm]at hu;cases hu
  ·obtain⟨fs,e⟩:=Jq;rw[e]at hu;cases hu
  ·rw[Wm]at hu;cases hu
 sl:=fun t e hg hu=>by
  simp only[gd,Ua,jc,yf]at hg;rcases hg with rfl|rfl|rfl|rfl|rfl|rfl|rfl|rfl|rfl|rfl|rfl|rfl|rfl|rfl|rfl|rfl|rfl|rfl|rfl|rfl|rfl|rfl|rfl|rfl|rfl|rfl|rfl|rfl|rfl|rfl
  ·rw[Ni]at hu;cases hu
  ·rw[Jl]at hu;cases hu
  ·rw[mo]at hu;cases hu
  ·rw[Il]at hu;cases hu
  ·rw[ko]at hu;cases hu
  ·rw[Dm]at hu;cases hu
  ·rw[Cm]at hu;cases hu
  ·rw[Am]at hu;cases hu;exact⟨by simp[gd],ic (by decide:0<6) (by kernel_rfl:6=Tryz.prog.cellsOf 59),fun l=>⟨(l:List ze),rfl⟩⟩
  ·obtain⟨fs,e⟩:=Aq;rw[e]at hu;cases hu
  ·rw[yl]at hu;cases hu;exact⟨by simp[gd],ic (by decide:0<7) (by kernel_rfl:7=Tryz.prog.cellsOf 27),fun l=>⟨(l:List zg),rfl⟩⟩
  ·obtain⟨fs,e⟩:=gp;rw[e]at hu;cases hu
  ·obtain⟨fs,e⟩:=Yp;rw[e]at hu;cases hu
  ·rw[ul]at hu;cases hu;exact⟨by simp[gd],ic (by decide:0<1) (by kernel_rfl:1=Tryz.prog.cellsOf 4),fun l=>⟨(l:List Bool),rfl⟩⟩
  ·rw[ol]at hu;cases hu;exact⟨by simp[gd],ic (by decide:0<3) (by kernel_rfl:3=Tryz.prog.cellsOf 24),fun l=>⟨(l:List zA),rfl⟩⟩
  ·rw[ll]at hu;cases hu
  ·rw[jl]at hu;cases hu;exact⟨by simp[gd],ic (by decide:0<1) (by kernel_rfl:1=Tryz.prog.cellsOf 9),fun l=>⟨(l:List Str),rfl⟩⟩
  ·obtain⟨fs,e⟩:=Xp;rw[e]at hu;cases hu
  ·obtain⟨fs,e⟩:=Wp;rw[e]at hu;cases hu
  ·rw[il]at hu;cases hu;exact⟨by simp[gd],ic (by decide:0<5) (by kernel_rfl:5=Tryz.prog.cellsOf 57),fun l=>⟨(l:List zk),rfl⟩⟩
  ·obtain⟨fs,e⟩:=Vp;rw[e]at hu;cases hu
  ·rw[Yl]at hu;cases hu;exact⟨by simp[gd],ic (by decide:0<1) (by kernel_rfl:1=Tryz.prog.cellsOf 22),fun l=>⟨(l:List (List ze)),rfl⟩⟩
  ·obtain⟨fs,e⟩:=Mq;rw[e]at hu;cases hu
  ·obtain⟨fs,e⟩:=Kq;rw[e]at hu;cases hu
  ·rw[Pm]at hu;cases hu;exact⟨by simp[gd],ic (by decide:0<1) (by kernel_rfl:1=Tryz.prog.cellsOf 5),fun l=>⟨(l:List UInt8),rfl⟩⟩
  ·rw[Om]at hu;cases hu;exact⟨by simp[gd],ic (by decide:0<1) (by kernel_rfl:1=Tryz.prog.cellsOf 2),fun l=>⟨(l:List Int),rfl⟩⟩
  ·rw[Mm]at hu;cases hu
  ·rw[Ym]at hu;cases hu
  ·rw[Xm]at hu;cases hu;exact⟨by simp[gd],ic (by decide:0<2) (by kernel_rfl:2=Tryz.prog.cellsOf 211),fun l=>⟨(l:List zO),rfl⟩⟩
  ·obtain⟨fs,e⟩:=Jq;rw[e]at hu;cases hu
  ·rw[Wm]at hu;cases hu
 st:=fun t fs hg hu=>by
  simp only[gd,Ua,jc,yf]at hg;rcases hg with rfl|rfl|rfl|rfl|rfl|rfl|rfl|rfl|rfl|rfl|rfl|rfl|rfl|rfl|rfl|rfl|rfl|rfl|rfl|rfl|rfl|rfl|rfl|rfl|rfl|rfl|rfl|rfl|rfl|rfl
  ·rw[Ni]at hu;cases hu
  ·rw[Jl]at hu;cases hu
  ·rw[mo]at hu;cases hu
  ·rw[Il]at hu;cases hu
  ·rw[ko]at hu;cases hu
  ·rw[Dm]at hu;cases hu
  ·rw[Cm]at hu;cases hu
  ·rw[Am]at hu;cases hu
  ·refine Vh hu tO (by simp[gd]) (by kernel_rfl) (by kernel_rfl) (fun pvs h0=> ?_);obtain⟨_,pvs,rfl,⟨y0,rfl⟩,h1⟩:=Zj h0;obtain⟨_,pvs,rfl,⟨y1,rfl⟩,h2⟩:=Zj h1;obtain⟨_,pvs,rfl,⟨y2,rfl⟩,h3⟩:=Zj h2;rw[Ci h3];exact⟨(⟨y0,y1,y2⟩:zA),rfl⟩
  ·rw[yl]at hu;cases hu
  ·refine Vh hu sO (by simp[gd]) (by kernel_rfl) (by kernel_rfl) (fun pvs h0=> ?_);obtain⟨_,pvs,rfl,⟨y0,rfl⟩,h1⟩:=Zj h0;obtain⟨_,pvs,rfl,⟨y1,rfl⟩,h2⟩:=Zj h1;obtain⟨_,pvs,rfl,⟨y2,rfl⟩,h3⟩:=Zj h2;obtain⟨_,pvs,rfl,⟨y3,rfl⟩,h4⟩:=Zj h3;obtain⟨_,pvs,rfl,⟨y4,rfl⟩,h5⟩:=Zj h4;rw[Ci h5];exact⟨(⟨((UInt8.toNat y0:Nat):Int),y1,y2,y3,y4⟩:zg),(gK ((UInt8.toNat y0:Nat):Int) y1 y2 y3 y4).trans rfl⟩
  ·refine Vh hu rO (by simp[gd]) (by kernel_rfl) (by kernel_rfl) (fun pvs h0=> ?_);obtain⟨_,pvs,rfl,⟨y0,rfl⟩,h1⟩:=Zj h0;rw[Ci h1];exact⟨(⟨y0⟩:VEnv),rfl⟩
  ·rw[ul]at hu;cases hu
  ·rw[ol]at hu;cases hu
  ·rw[ll]at hu;cases hu
  ·rw[jl]at hu;cases hu
  ·refine Vh hu pO (by simp[gd]) (by kernel_rfl) (by kernel_rfl) (fun pvs h0=> ?_);obtain⟨_,pvs,rfl,⟨y0,rfl⟩,h1⟩:=Zj h0;obtain⟨_,pvs,rfl,⟨y1,rfl⟩,h2⟩:=Zj h1;obtain⟨_,pvs,rfl,⟨y2,rfl⟩,h3⟩:=Zj h2;obtain⟨_,pvs,rfl,⟨y3,rfl⟩,h4⟩:=Zj h3;obtain⟨_,pvs,rfl,⟨y4,rfl⟩,h5⟩:=Zj h4;rw[Ci h5];exact⟨(⟨((UInt8.toNat y0:Nat):Int),y1,y2,y3,y4⟩:zk),rfl⟩
  ·refine Vh hu oO (by simp[gd]) (by kernel_rfl) (by kernel_rfl) (fun pvs h0=> ?_);obtain⟨_,pvs,rfl,⟨y0,rfl⟩,h1⟩:=Zj h0;obtain⟨_,pvs,rfl,⟨y1,rfl⟩,h2⟩:=Zj h1;rw[Ci h2];exact⟨(⟨y0,y1⟩:ze),(KL y0 y1).trans rfl⟩
  ·rw[il]at hu;cases hu
  ·refine Vh hu nO (by simp[gd]) (by kernel_rfl) (by kernel_rfl) (fun pvs h0=> ?_);obtain⟨_,pvs,rfl,⟨y0,rfl⟩,h1⟩:=Zj h0;rw[Ci h1];exact⟨(⟨y0⟩:zh),rfl⟩
  ·rw[Yl]at hu;cases hu
  ·refine Vh hu CQ (by simp[gd]) (by kernel_rfl) (by kernel_rfl) (fun pvs h0=> ?_);obtain⟨_,pvs,rfl,⟨y0,rfl⟩,h1⟩:=Zj h0;obtain⟨_,pvs,rfl,⟨y1,rfl⟩,h2⟩:=Zj h1;obtain⟨_,pvs,rfl,⟨y2,rfl⟩,h3⟩:=Zj h2;rw[Ci h3];exact⟨(⟨y0,y1,y2⟩:zy),rfl⟩
  ·refine Vh hu BQ (by simp[gd]) (by kernel_rfl) (by kernel_rfl) (fun pvs h0=> ?_);obtain⟨_,pvs,rfl,⟨y0,rfl⟩,h1⟩:=Zj h0;obtain⟨_,pvs,rfl,⟨y1,rfl⟩,h2⟩:=Zj h1;rw[Ci h2];exact⟨(⟨y0,y1⟩:za),rfl⟩
  ·rw[Pm]at hu;cases hu
  ·rw[Om]at hu;cases hu
  ·rw[Mm]at hu;cases hu
  ·rw[Ym]at hu;cases hu
  ·rw[Xm]at hu;cases hu
  ·refine Vh hu AQ (by simp[gd]) (by kernel_rfl) (by kernel_rfl) (fun pvs h0=> ?_);obtain⟨_,pvs,rfl,⟨y0,rfl⟩,h1⟩:=Zj h0;obtain⟨_,pvs,rfl,⟨y1,rfl⟩,h2⟩:=Zj h1;rw[Ci h2];exact⟨(⟨y0,y1⟩:zO),rfl⟩
  ·rw[Wm]at hu;cases hu
 only:=fun t u hg hu=>by
  simp only[gd,Ua,jc,yf]at hg;rcases hg with rfl|rfl|rfl|rfl|rfl|rfl|rfl|rfl|rfl|rfl|rfl|rfl|rfl|rfl|rfl|rfl|rfl|rfl|rfl|rfl|rfl|rfl|rfl|rfl|rfl|rfl|rfl|rfl|rfl|rfl
  ·rw[Ni]at hu;cases hu;exact .inl ⟨_,rfl⟩
  ·rw[Jl]at hu;cases hu;exact .inl ⟨_,rfl⟩
  ·rw[mo]at hu;cases hu;exact .inr (.inl rfl)
  ·rw[Il]at hu;cases hu;exact .inl ⟨_,rfl⟩
  ·rw[ko]at hu;cases hu;exact .inr (.inr (.inl rfl))
  ·rw[Dm]at hu;cases hu;exact .inl ⟨_,rfl⟩
  ·rw[Cm]at hu;cases hu;exact .inl ⟨_,rfl⟩
  ·rw[Am]at hu;cases hu;exact .inr (.inr (.inr (.inl ⟨_,rfl⟩)))
  ·obtain⟨fs,e⟩:=Aq;rw[e]at hu;cases hu;exact .inr (.inr (.inr (.inr ⟨_,rfl⟩)))
  ·rw[yl]at hu;cases hu;exact .inr (.inr (.inr (.inl ⟨_,rfl⟩)))
  ·obtain⟨fs,e⟩:=gp;rw[e]at hu;cases hu;exact .inr (.inr (.inr (.inr ⟨_,rfl⟩)))
  ·obtain⟨fs,e⟩:=Yp;rw[e]at hu;cases hu;exact .inr (.inr (.inr (.inr ⟨_,rfl⟩)))
  ·rw[ul]at hu;cases hu;exact .inr (.inr (.inr (.inl ⟨_,rfl⟩)))
  ·rw[ol]at hu;cases hu;exact .inr (.inr (.inr (.inl ⟨_,rfl⟩)))
  ·rw[ll]at hu;cases hu;exact .inl ⟨_,rfl⟩
  ·rw[jl]at hu;cases hu;exact .inr (.inr (.inr (.inl ⟨_,rfl⟩)))
  ·obtain⟨fs,e⟩:=Xp;rw[e]at hu;cases hu;exact .inr (.inr (.inr (.inr ⟨_,rfl⟩)))
  ·obtain⟨fs,e⟩:=Wp;rw[e]at hu;cases hu;exact .inr (.inr (.inr (.inr ⟨_,rfl⟩)))
  ·rw[il]at hu;cases hu;exact .inr (.inr (.inr (.inl ⟨_,rfl⟩)))
  ·obtain⟨fs,e⟩:=Vp;rw[e]at hu;cases hu;exact .inr (.inr (.inr (.inr ⟨_,rfl⟩)))
  ·rw[Yl]at hu;cases hu;exact .inr (.inr (.inr (.inl ⟨_,rfl⟩)))
  ·obtain⟨fs,e⟩:=Mq;rw[e]at hu;cases hu;exact .inr (.inr (.inr (.inr ⟨_,rfl⟩)))
  ·obtain⟨fs,e⟩:=Kq;rw[e]at hu;cases hu;exact .inr (.inr (.inr (.inr ⟨_,rfl⟩)))
  ·rw[Pm]at hu;cases hu;exact .inr (.inr (.inr (.inl ⟨_,rfl⟩)))
  ·rw[Om]at hu;cases hu;exact .inr (.inr (.inr (.inl ⟨_,rfl⟩)))
  ·rw[Mm]at hu;cases hu;exact .inl ⟨_,rfl⟩
  ·rw[Ym]at hu;cases hu;exact .inl ⟨_,rfl⟩
  ·rw[Xm]at hu;cases hu;exact .inr (.inr (.inr (.inl ⟨_,rfl⟩)))
  ·obtain⟨fs,e⟩:=Jq;rw[e]at hu;cases hu;exact .inr (.inr (.inr (.inr ⟨_,rfl⟩)))
  ·rw[Wm]at hu;cases hu;exact .inl ⟨_,rfl⟩
end Go.Lv.VT
