/- Which values may come in. -/
import Derived.Test.YtcdeccnjlkkejaaGreatDoorIp
import Derived.Test.YtcdeccnjlkkejaaGreatDoorLf
set_option linter.unusedSimpArgs false
set_option linter.unusedVariables false
namespace Go.Lv.VT
set_option maxRecDepth 100000
open Go.Proofs
def gd:List Nat:=[2,3,4,5,9,12,21,22,23,25,42,44,49,66,71,101,116,119,122,133,174,185,217]
theorem jo:Tryz.prog.underlying 2=some (.int .i64):=by kernel_rfl
theorem Yo:Tryz.prog.underlying 3=some (.int .i64):=by kernel_rfl
theorem Yr:Tryz.prog.underlying 4=some (.bool):=by kernel_rfl
theorem Xo:Tryz.prog.underlying 5=some (.int .u8):=by kernel_rfl
theorem Xr:Tryz.prog.underlying 9=some (.string):=by kernel_rfl
theorem Wp:Tryz.prog.underlying 12=some (.int .u64):=by kernel_rfl
theorem Vp:Tryz.prog.underlying 21=some (.int .i32):=by kernel_rfl
theorem Tp:Tryz.prog.underlying 22=some (.slice 44):=by kernel_rfl
theorem Rp:Tryz.prog.underlying 23=some (.slice 49):=by kernel_rfl
theorem Pp:Tryz.prog.underlying 25=some (.int .i64):=by kernel_rfl
theorem Np:Tryz.prog.underlying 42=some (.slice 5):=by kernel_rfl
theorem Et: ∃fs,Tryz.prog.underlying 44=some (.struct fs):=⟨(match Tryz.prog.underlying 44 with|some (.struct fs)=>fs|_=> #[]),by kernel_rfl⟩
theorem zBL:nk Tryz.prog 44=[(5,0),(9,1),(2,2),(9,3),(4,4)]:=by kernel_rfl
theorem Dt: ∃fs,Tryz.prog.underlying 49=some (.struct fs):=⟨(match Tryz.prog.underlying 49 with|some (.struct fs)=>fs|_=> #[]),by kernel_rfl⟩
theorem zBM:nk Tryz.prog 49=[(44,0),(23,5)]:=by kernel_rfl
theorem Bt: ∃fs,Tryz.prog.underlying 66=some (.struct fs):=⟨(match Tryz.prog.underlying 66 with|some (.struct fs)=>fs|_=> #[]),by kernel_rfl⟩
theorem zBN:nk Tryz.prog 66=[(9,0),(23,1),(4,2)]:=by kernel_rfl
theorem Jm:Tryz.prog.underlying 71=some (.slice 66):=by kernel_rfl
theorem Cu: ∃fs,Tryz.prog.underlying 101=some (.struct fs):=⟨(match Tryz.prog.underlying 101 with|some (.struct fs)=>fs|_=> #[]),by kernel_rfl⟩
theorem zAg:nk Tryz.prog 101=[(3,0),(3,1),(4,2)]:=by kernel_rfl
theorem Hq:Tryz.prog.underlying 116=some (.slice 119):=by kernel_rfl
theorem Bu: ∃fs,Tryz.prog.underlying 119=some (.struct fs):=⟨(match Tryz.prog.underlying 119 with|some (.struct fs)=>fs|_=> #[]),by kernel_rfl⟩
theorem zAh:nk Tryz.prog 119=[(3,0),(3,1)]:=by kernel_rfl
theorem Gq:Tryz.prog.underlying 122=some (.slice 9):=by kernel_rfl
theorem Au: ∃fs,Tryz.prog.underlying 133=some (.struct fs):=⟨(match Tryz.prog.underlying 133 with|some (.struct fs)=>fs|_=> #[]),by kernel_rfl⟩
theorem zAi:nk Tryz.prog 133=[(9,0),(3,1)]:=by kernel_rfl
theorem Fq:Tryz.prog.underlying 174=some (.int .u64):=by kernel_rfl
theorem Dq:Tryz.prog.underlying 185=some (.int .u32):=by kernel_rfl
theorem Cq:Tryz.prog.underlying 217=some (.int .u64):=by kernel_rfl
theorem ipRd:IpRd Tryz.prog I (fun t=>t∈gd)where
 int:=fun t k hg hu n h1 h2=>by
  simp only[gd,Nb,Ve,or_false]at hg;rcases hg with rfl|rfl|rfl|rfl|rfl|rfl|rfl|rfl|rfl|rfl|rfl|rfl|rfl|rfl|rfl|rfl|rfl|rfl|rfl|rfl|rfl|rfl|rfl
  ·rw[jo]at hu;cases hu;exact⟨(n:Int),rfl⟩
  ·rw[Yo]at hu;cases hu;exact⟨(n:Int),rfl⟩
  ·rw[Yr]at hu;cases hu
  ·rw[Xo]at hu;cases hu;exact⟨UInt8.ofNat n.toNat,zCK h1 h2⟩
  ·rw[Xr]at hu;cases hu
  ·rw[Wp]at hu;cases hu;exact⟨(n:Int),rfl⟩
  ·rw[Vp]at hu;cases hu;exact⟨(n:Int),rfl⟩
  ·rw[Tp]at hu;cases hu
  ·rw[Rp]at hu;cases hu
  ·rw[Pp]at hu;cases hu;exact⟨(n:Int),rfl⟩
  ·rw[Np]at hu;cases hu
  ·obtain⟨fs,e⟩:=Et;rw[e]at hu;cases hu
  ·obtain⟨fs,e⟩:=Dt;rw[e]at hu;cases hu
  ·obtain⟨fs,e⟩:=Bt;rw[e]at hu;cases hu
  ·rw[Jm]at hu;cases hu
  ·obtain⟨fs,e⟩:=Cu;rw[e]at hu;cases hu
  ·rw[Hq]at hu;cases hu
  ·obtain⟨fs,e⟩:=Bu;rw[e]at hu;cases hu
  ·rw[Gq]at hu;cases hu
  ·obtain⟨fs,e⟩:=Au;rw[e]at hu;cases hu
  ·rw[Fq]at hu;cases hu;exact⟨(n:Int),rfl⟩
  ·rw[Dq]at hu;cases hu;exact⟨(n:Int),rfl⟩
  ·rw[Cq]at hu;cases hu;exact⟨(n:Int),rfl⟩
 bool:=fun t hg hu b=>by
  simp only[gd,Nb,Ve,or_false]at hg;rcases hg with rfl|rfl|rfl|rfl|rfl|rfl|rfl|rfl|rfl|rfl|rfl|rfl|rfl|rfl|rfl|rfl|rfl|rfl|rfl|rfl|rfl|rfl|rfl
  ·rw[jo]at hu;cases hu
  ·rw[Yo]at hu;cases hu
  ·exact⟨(b:Bool),rfl⟩
  ·rw[Xo]at hu;cases hu
  ·rw[Xr]at hu;cases hu
  ·rw[Wp]at hu;cases hu
  ·rw[Vp]at hu;cases hu
  ·rw[Tp]at hu;cases hu
  ·rw[Rp]at hu;cases hu
  ·rw[Pp]at hu;cases hu
  ·rw[Np]at hu;cases hu
  ·obtain⟨fs,e⟩:=Et;rw[e]at hu;cases hu
  ·obtain⟨fs,e⟩:=Dt;rw[e]at hu;cases hu
  ·obtain⟨fs,e⟩:=Bt;rw[e]at hu;cases hu
  ·rw[Jm]at hu;cases hu
  ·obtain⟨fs,e⟩:=Cu;rw[e]at hu;cases hu
  ·rw[Hq]at hu;cases hu
  ·obtain⟨fs,e⟩:=Bu;rw[e]at hu;cases hu
  ·rw[Gq]at hu;cases hu
  ·obtain⟨fs,e⟩:=Au;rw[e]at hu;cases hu
  ·rw[Fq]at hu;cases hu
  ·rw[Dq]at hu;cases hu
  ·rw[Cq]at hu;cases hu
 str:=fun t hg hu l=>by
  simp only[gd,Nb,Ve,or_false]at hg;rcases hg with rfl|rfl|rfl|rfl|rfl|rfl|rfl|rfl|rfl|rfl|rfl|rfl|rfl|rfl|rfl|rfl|rfl|rfl|rfl|rfl|rfl|rfl|rfl
  ·rw[jo]at hu;cases hu
  ·rw[Yo]at hu;cases hu
  ·rw[Yr]at hu;cases hu
  ·rw[Xo]at hu;cases hu
  ·exact⟨(l:Str),rfl⟩
  ·rw[Wp]at hu;cases hu
  ·rw[Vp]at hu;cases hu
  ·rw[Tp]at hu;cases hu
  ·rw[Rp]at hu;cases hu
  ·rw[Pp]at hu;cases hu
  ·rw[Np]at hu;cases hu
  ·obtain⟨fs,e⟩:=Et;rw[e]at hu;cases hu
  ·obtain⟨fs,e⟩:=Dt;rw[e]at hu;cases hu
  ·obtain⟨fs,e⟩:=Bt;rw[e]at hu;cases hu
  ·rw[Jm]at hu;cases hu
  ·obtain⟨fs,e⟩:=Cu;rw[e]at hu;cases hu
  ·rw[Hq]at hu;cases hu
  ·obtain⟨fs,e⟩:=Bu;rw[e]at hu;cases hu
  ·rw[Gq]at hu;cases hu
  ·obtain⟨fs,e⟩:=Au;rw[e]at hu;cases hu
  ·rw[Fq]at hu;cases hu
  ·rw[Dq]at hu;cases hu
  ·rw[Cq]at hu;cases hu
 sl:=fun t e hg hu=>by
  simp only[gd,Nb,Ve,or_false]at hg;rcases hg with rfl|rfl|rfl|rfl|rfl|rfl|rfl|rfl|rfl|rfl|rfl|rfl|rfl|rfl|rfl|rfl|rfl|rfl|rfl|rfl|rfl|rfl|rfl
  ·rw[jo]at hu;cases hu
  ·rw[Yo]at hu;cases hu
  ·rw[Yr]at hu;cases hu
  ·rw[Xo]at hu;cases hu
  ·rw[Xr]at hu;cases hu
  ·rw[Wp]at hu;cases hu
  ·rw[Vp]at hu;cases hu
  ·rw[Tp]at hu;cases hu;exact⟨by simp[gd],Jf (by decide:0<5) (by kernel_rfl:5=Tryz.prog.cellsOf 44),fun l=>⟨(l:List ze),rfl⟩⟩
  ·rw[Rp]at hu;cases hu;exact⟨by simp[gd],Jf (by decide:0<6) (by kernel_rfl:6=Tryz.prog.cellsOf 49),fun l=>⟨(l:List zg),rfl⟩⟩
  ·rw[Pp]at hu;cases hu
  ·rw[Np]at hu;cases hu;exact⟨by simp[gd],Jf (by decide:0<1) (by kernel_rfl:1=Tryz.prog.cellsOf 5),fun l=>⟨(l:List UInt8),rfl⟩⟩
  ·obtain⟨fs,e⟩:=Et;rw[e]at hu;cases hu
  ·obtain⟨fs,e⟩:=Dt;rw[e]at hu;cases hu
  ·obtain⟨fs,e⟩:=Bt;rw[e]at hu;cases hu
  ·rw[Jm]at hu;cases hu;exact⟨by simp[gd],Jf (by decide:0<3) (by kernel_rfl:3=Tryz.prog.cellsOf 66),fun l=>⟨(l:List Zj),rfl⟩⟩
  ·obtain⟨fs,e⟩:=Cu;rw[e]at hu;cases hu
  ·rw[Hq]at hu;cases hu;exact⟨by simp[gd],Jf (by decide:0<2) (by kernel_rfl:2=Tryz.prog.cellsOf 119),fun l=>⟨(l:List zH),rfl⟩⟩
  ·obtain⟨fs,e⟩:=Bu;rw[e]at hu;cases hu
  ·rw[Gq]at hu;cases hu;exact⟨by simp[gd],Jf (by decide:0<1) (by kernel_rfl:1=Tryz.prog.cellsOf 9),fun l=>⟨(l:List Str),rfl⟩⟩
  ·obtain⟨fs,e⟩:=Au;rw[e]at hu;cases hu
  ·rw[Fq]at hu;cases hu
  ·rw[Dq]at hu;cases hu
  ·rw[Cq]at hu;cases hu
 st:=fun t fs hg hu=>by
  simp only[gd,Nb,Ve,or_false]at hg;rcases hg with rfl|rfl|rfl|rfl|rfl|rfl|rfl|rfl|rfl|rfl|rfl|rfl|rfl|rfl|rfl|rfl|rfl|rfl|rfl|rfl|rfl|rfl|rfl
  ·rw[jo]at hu;cases hu
  ·rw[Yo]at hu;cases hu
  ·rw[Yr]at hu;cases hu
  ·rw[Xo]at hu;cases hu
  ·rw[Xr]at hu;cases hu
  ·rw[Wp]at hu;cases hu
  ·rw[Vp]at hu;cases hu
  ·rw[Tp]at hu;cases hu
  ·rw[Rp]at hu;cases hu
  ·rw[Pp]at hu;cases hu
  ·rw[Np]at hu;cases hu
  ·refine ko hu zBL (by simp[gd]) (by kernel_rfl) (by kernel_rfl) (fun pvs h0=> ?_);obtain⟨_,pvs,rfl,⟨y0,rfl⟩,h1⟩:=qp h0;obtain⟨_,pvs,rfl,⟨y1,rfl⟩,h2⟩:=qp h1;obtain⟨_,pvs,rfl,⟨y2,rfl⟩,h3⟩:=qp h2;obtain⟨_,pvs,rfl,⟨y3,rfl⟩,h4⟩:=qp h3;obtain⟨_,pvs,rfl,⟨y4,rfl⟩,h5⟩:=qp h4;rw[Uq h5];exact⟨(⟨((UInt8.toNat y0:Nat):Int),y1,y2,y3,y4⟩:ze),rfl⟩
  ·refine ko hu zBM (by simp[gd]) (by kernel_rfl) (by kernel_rfl) (fun pvs h0=> ?_);obtain⟨_,pvs,rfl,⟨y0,rfl⟩,h1⟩:=qp h0;obtain⟨_,pvs,rfl,⟨y1,rfl⟩,h2⟩:=qp h1;rw[Uq h2];exact⟨(⟨y0,y1⟩:zg),(oQ y0 y1).trans rfl⟩
  ·refine ko hu zBN (by simp[gd]) (by kernel_rfl) (by kernel_rfl) (fun pvs h0=> ?_);obtain⟨_,pvs,rfl,⟨y0,rfl⟩,h1⟩:=qp h0;obtain⟨_,pvs,rfl,⟨y1,rfl⟩,h2⟩:=qp h1;obtain⟨_,pvs,rfl,⟨y2,rfl⟩,h3⟩:=qp h2;rw[Uq h3];exact⟨(⟨y0,y1,y2⟩:Zj),rfl⟩
  ·rw[Jm]at hu;cases hu
  ·refine ko hu zAg (by simp[gd]) (by kernel_rfl) (by kernel_rfl) (fun pvs h0=> ?_);obtain⟨_,pvs,rfl,⟨y0,rfl⟩,h1⟩:=qp h0;obtain⟨_,pvs,rfl,⟨y1,rfl⟩,h2⟩:=qp h1;obtain⟨_,pvs,rfl,⟨y2,rfl⟩,h3⟩:=qp h2;rw[Uq h3];exact⟨(⟨y0,y1,y2⟩:zT),rfl⟩
  ·rw[Hq]at hu;cases hu
  ·refine ko hu zAh (by simp[gd]) (by kernel_rfl) (by kernel_rfl) (fun pvs h0=> ?_);obtain⟨_,pvs,rfl,⟨y0,rfl⟩,h1⟩:=qp h0;obtain⟨_,pvs,rfl,⟨y1,rfl⟩,h2⟩:=qp h1;rw[Uq h2];exact⟨(⟨y0,y1⟩:zH),rfl⟩
  ·rw[Gq]at hu;cases hu
  ·refine ko hu zAi (by simp[gd]) (by kernel_rfl) (by kernel_rfl) (fun pvs h0=> ?_);obtain⟨_,pvs,rfl,⟨y0,rfl⟩,h1⟩:=qp h0;obtain⟨_,pvs,rfl,⟨y1,rfl⟩,h2⟩:=qp h1;rw[Uq h2];exact⟨(⟨y0,y1⟩:za),rfl⟩
  ·rw[Fq]at hu;cases hu
  ·rw[Dq]at hu;cases hu
  ·rw[Cq]at hu;cases hu
 only:=fun t u hg hu=>by
  simp only[gd,Nb,Ve,or_false]at hg;rcases hg with rfl|rfl|rfl|rfl|rfl|rfl|rfl|rfl|rfl|rfl|rfl|rfl|rfl|rfl|rfl|rfl|rfl|rfl|rfl|rfl|rfl|rfl|rfl
  ·rw[jo]at hu;cases hu;exact .inl ⟨_,rfl⟩
  ·rw[Yo]at hu;cases hu;exact .inl ⟨_,rfl⟩
  ·rw[Yr]at hu;cases hu;exact .inr (.inl rfl)
  ·rw[Xo]at hu;cases hu;exact .inl ⟨_,rfl⟩
  ·rw[Xr]at hu;cases hu;exact .inr (.inr (.inl rfl))
  ·rw[Wp]at hu;cases hu;exact .inl ⟨_,rfl⟩
  ·rw[Vp]at hu;cases hu;exact .inl ⟨_,rfl⟩
  ·rw[Tp]at hu;cases hu;exact .inr (.inr (.inr (.inl ⟨_,rfl⟩)))
  ·rw[Rp]at hu;cases hu;exact .inr (.inr (.inr (.inl ⟨_,rfl⟩)))
  ·rw[Pp]at hu;cases hu;exact .inl ⟨_,rfl⟩
  ·rw[Np]at hu;cases hu;exact .inr (.inr (.inr (.inl ⟨_,rfl⟩)))
  ·obtain⟨fs,e⟩:=Et;rw[e]at hu;cases hu;exact .inr (.inr (.inr (.inr ⟨_,rfl⟩)))
  ·obtain⟨fs,e⟩:=Dt;rw[e]at hu;cases hu;exact .inr (.inr (.inr (.inr ⟨_,rfl⟩)))
  ·obtain⟨fs,e⟩:=Bt;rw[e]at hu;cases hu;exact .inr (.inr (.inr (.inr ⟨_,rfl⟩)))
  ·rw[Jm]at hu;cases hu;exact .inr (.inr (.inr (.inl ⟨_,rfl⟩)))
  ·obtain⟨fs,e⟩:=Cu;rw[e]at hu;cases hu;exact .inr (.inr (.inr (.inr ⟨_,rfl⟩)))
  ·rw[Hq]at hu;cases hu;exact .inr (.inr (.inr (.inl ⟨_,rfl⟩)))
  ·obtain⟨fs,e⟩:=Bu;rw[e]at hu;cases hu;exact .inr (.inr (.inr (.inr ⟨_,rfl⟩)))
  ·rw[Gq]at hu;cases hu;exact .inr (.inr (.inr (.inl ⟨_,rfl⟩)))
  ·obtain⟨fs,e⟩:=Au;rw[e]at hu;cases hu;exact .inr (.inr (.inr (.inr ⟨_,rfl⟩)))
  ·rw[Fq]at hu;cases hu;exact .inl ⟨_,rfl⟩
  ·rw[Dq]at hu;cases hu;exact .inl ⟨_,rfl⟩
  ·rw[Cq]at hu;cases hu;exact .inl ⟨_,rfl⟩
end Go.Lv.VT
