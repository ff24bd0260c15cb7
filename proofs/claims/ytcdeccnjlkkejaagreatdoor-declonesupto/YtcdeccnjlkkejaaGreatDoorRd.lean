/- Which values may come in. -/
import Derived.Test.YtcdeccnjlkkejaaGreatDoorIp
import Derived.Test.YtcdeccnjlkkejaaGreatDoorLf
set_option linter.unusedSimpArgs false
set_option linter.unusedVariables false
namespace Go.Lv.VT
set_option maxRecDepth 100000
open Go.Proofs
def gd:List Nat:=[2,3,4,5,9,21,22,23,25,42,44,49,52,66,71,101,116,119,122,133,174,185,217]
theorem Gm:Tryz.prog.underlying 2=some (.int .i64):=by kernel_rfl
theorem Em:Tryz.prog.underlying 3=some (.int .i64):=by kernel_rfl
theorem Wo:Tryz.prog.underlying 4=some (.bool):=by kernel_rfl
theorem Dm:Tryz.prog.underlying 5=some (.int .u8):=by kernel_rfl
theorem Vo:Tryz.prog.underlying 9=some (.string):=by kernel_rfl
theorem gm:Tryz.prog.underlying 21=some (.int .i32):=by kernel_rfl
theorem dm:Tryz.prog.underlying 22=some (.slice 44):=by kernel_rfl
theorem Pk:Tryz.prog.underlying 23=some (.slice 49):=by kernel_rfl
theorem Ym:Tryz.prog.underlying 25=some (.int .i64):=by kernel_rfl
theorem Xm:Tryz.prog.underlying 42=some (.slice 5):=by kernel_rfl
theorem Xp: ∃fs,Tryz.prog.underlying 44=some (.struct fs):=⟨(match Tryz.prog.underlying 44 with|some (.struct fs)=>fs|_=> #[]),by kernel_rfl⟩
theorem aN:Rj Tryz.prog 44=[(5,0),(9,1),(2,2),(9,3),(4,4)]:=by kernel_rfl
theorem Wp: ∃fs,Tryz.prog.underlying 49=some (.struct fs):=⟨(match Tryz.prog.underlying 49 with|some (.struct fs)=>fs|_=> #[]),by kernel_rfl⟩
theorem YN:Rj Tryz.prog 49=[(44,0),(23,5)]:=by kernel_rfl
theorem Wm:Tryz.prog.underlying 52=some (.slice 23):=by kernel_rfl
theorem Vp: ∃fs,Tryz.prog.underlying 66=some (.struct fs):=⟨(match Tryz.prog.underlying 66 with|some (.struct fs)=>fs|_=> #[]),by kernel_rfl⟩
theorem XN:Rj Tryz.prog 66=[(9,0),(23,1),(4,2)]:=by kernel_rfl
theorem Vm:Tryz.prog.underlying 71=some (.slice 66):=by kernel_rfl
theorem Wq: ∃fs,Tryz.prog.underlying 101=some (.struct fs):=⟨(match Tryz.prog.underlying 101 with|some (.struct fs)=>fs|_=> #[]),by kernel_rfl⟩
theorem jP:Rj Tryz.prog 101=[(3,0),(3,1),(4,2)]:=by kernel_rfl
theorem Pn:Tryz.prog.underlying 116=some (.slice 119):=by kernel_rfl
theorem Vq: ∃fs,Tryz.prog.underlying 119=some (.struct fs):=⟨(match Tryz.prog.underlying 119 with|some (.struct fs)=>fs|_=> #[]),by kernel_rfl⟩
theorem iP:Rj Tryz.prog 119=[(3,0),(3,1)]:=by kernel_rfl
theorem Nn:Tryz.prog.underlying 122=some (.slice 9):=by kernel_rfl
theorem Uq: ∃fs,Tryz.prog.underlying 133=some (.struct fs):=⟨(match Tryz.prog.underlying 133 with|some (.struct fs)=>fs|_=> #[]),by kernel_rfl⟩
theorem gP:Rj Tryz.prog 133=[(9,0),(3,1)]:=by kernel_rfl
theorem Kn:Tryz.prog.underlying 174=some (.int .u64):=by kernel_rfl
theorem Jn:Tryz.prog.underlying 185=some (.int .u32):=by kernel_rfl
theorem Gn:Tryz.prog.underlying 217=some (.int .u64):=by kernel_rfl
theorem ipRd:IpRd Tryz.prog I (fun t=>t∈gd)where
 int:=fun t k hg hu n h1 h2=>by
  simp only[gd,Va,Td,Fg]at hg;rcases hg with rfl|rfl|rfl|rfl|rfl|rfl|rfl|rfl|rfl|rfl|rfl|rfl|rfl|rfl|rfl|rfl|rfl|rfl|rfl|rfl|rfl|rfl|rfl
  ·rw[Gm]at hu;cases hu;exact⟨(n:Int),rfl⟩
  ·rw[Em]at hu;cases hu;exact⟨(n:Int),rfl⟩
  ·rw[Wo]at hu;cases hu
  ·rw[Dm]at hu;cases hu;exact⟨UInt8.ofNat n.toNat,nO h1 h2⟩
  ·rw[Vo]at hu;cases hu
  ·rw[gm]at hu;cases hu;exact⟨(n:Int),rfl⟩
  ·rw[dm]at hu;cases hu
  ·rw[Pk]at hu;cases hu
  ·rw[Ym]at hu;cases hu;exact⟨(n:Int),rfl⟩
  ·rw[Xm]at hu;cases hu
  ·obtain⟨fs,e⟩:=Xp;rw[e]at hu;cases hu
  ·obtain⟨fs,e⟩:=Wp;rw[e]at hu;cases hu
  ·rw[Wm]at hu;cases hu
  ·obtain⟨fs,e⟩:=Vp;rw[e]at hu;cases hu
  ·rw[Vm]at hu;cases hu
  ·obtain⟨fs,e⟩:=Wq;rw[e]at hu;cases hu
  ·rw[Pn]at hu;cases hu
  ·obtain⟨fs,e⟩:=Vq;rw[e]at hu;cases hu
  ·rw[Nn]at hu;cases hu
  ·obtain⟨fs,e⟩:=Uq;rw[e]at hu;cases hu
  ·rw[Kn]at hu;cases hu;exact⟨(n:Int),rfl⟩
  ·rw[Jn]at hu;cases hu;exact⟨(n:Int),rfl⟩
  ·rw[Gn]at hu;cases hu;exact⟨(n:Int),rfl⟩
 bool:=fun t hg hu b=>by
  simp only[gd,Va,Td,Fg]at hg;rcases hg with rfl|rfl|rfl|rfl|rfl|rfl|rfl|rfl|rfl|rfl|rfl|rfl|rfl|rfl|rfl|rfl|rfl|rfl|rfl|rfl|rfl|rfl|rfl
  ·rw[Gm]at hu;cases hu
  ·rw[Em]at hu;cases hu
  ·exact⟨(b:Bool),rfl⟩
  ·rw[Dm]at hu;cases hu
  ·rw[Vo]at hu;cases hu
  ·rw[gm]at hu;cases hu
  ·rw[dm]at hu;cases hu
  ·rw[Pk]at hu;cases hu
  ·rw[Ym]at hu;cases hu
  ·rw[Xm]at hu;cases hu
  ·obtain⟨fs,e⟩:=Xp;rw[e]at hu;cases hu
  ·obtain⟨fs,e⟩:=Wp;rw[e]at hu;cases hu
  ·rw[Wm]at hu;cases hu
  ·obtain⟨fs,e⟩:=Vp;rw[e]at hu;cases hu
  ·rw[Vm]at hu;cases hu
  ·obtain⟨fs,e⟩:=Wq;rw[e]at hu;cases hu
  ·rw[Pn]at hu;cases hu
  ·obtain⟨fs,e⟩:=Vq;rw[e]at hu;cases hu
  ·rw[Nn]at hu;cases hu
  ·obtain⟨fs,e⟩:=Uq;rw[e]at hu;cases hu
  ·rw[Kn]at hu;cases hu
  ·rw[Jn]at hu;cases hu
  ·rw[Gn]at hu;cases hu
 str:=fun t hg hu l=>by
  simp only[gd,Va,Td,Fg]at hg;rcases hg with rfl|rfl|rfl|rfl|rfl|rfl|rfl|rfl|rfl|rfl|rfl|rfl|rfl|rfl|rfl|rfl|rfl|rfl|rfl|rfl|rfl|rfl|rfl
  ·rw[Gm]at hu;cases hu
  ·rw[Em]at hu;cases hu
  ·rw[Wo]at hu;cases hu
  ·rw[Dm]at hu;cases hu
  ·exact⟨(l:Str),rfl⟩
  ·rw[gm]at hu;cases hu
  ·rw[dm]at hu;cases hu
  ·rw[Pk]at hu;cases hu
  ·rw[Ym]at hu;cases hu
  ·rw[Xm]at hu;cases hu
  ·obtain⟨fs,e⟩:=Xp;rw[e]at hu;cases hu
  ·obtain⟨fs,e⟩:=Wp;rw[e]at hu;cases hu
  ·rw[Wm]at hu;cases hu
  ·obtain⟨fs,e⟩:=Vp;rw[e]at hu;cases hu
  ·rw[Vm]at hu;cases hu
  ·obtain⟨fs,e⟩:=Wq;rw[e]at hu;cases hu
  ·rw[Pn]at hu;cases hu
  ·obtain⟨fs,e⟩:=Vq;rw[e]at hu;cases hu
  ·rw[Nn]at hu;cases hu
  ·obtain⟨fs,e⟩:=Uq;rw[e]at hu;cases hu
  ·rw[Kn]at hu;cases hu
  ·rw[Jn]at hu;cases hu
  ·rw[Gn]at hu;cases hu
 sl:=fun t e hg hu=>by
  simp only[gd,Va,Td,Fg]at hg;rcases hg with rfl|rfl|rfl|rfl|rfl|rfl|rfl|rfl|rfl|rfl|rfl|rfl|rfl|rfl|rfl|rfl|rfl|rfl|rfl|rfl|rfl|rfl|rfl
  ·rw[Gm]at hu;cases hu
  ·rw[Em]at hu;cases hu
  ·rw[Wo]at hu;cases hu
  ·rw[Dm]at hu;cases hu
  ·rw[Vo]at hu;cases hu
  ·rw[gm]at hu;cases hu
  ·rw[dm]at hu;cases hu;exact⟨by simp[gd],Oe (by decide:0<5) (by kernel_rfl:5=Tryz.prog.cellsOf 44),fun l=>⟨(l:List zg),rfl⟩⟩
  ·rw[Pk]at hu;cases hu;exact⟨by simp[gd],Oe (by decide:0<6) (by kernel_rfl:6=Tryz.prog.cellsOf 49),fun l=>⟨(l:List zb),rfl⟩⟩
  ·rw[Ym]at hu;cases hu
  ·rw[Xm]at hu;cases hu;exact⟨by simp[gd],Oe (by decide:0<1) (by kernel_rfl:1=Tryz.prog.cellsOf 5),fun l=>⟨(l:List UInt8),rfl⟩⟩
  ·obtain⟨fs,e⟩:=Xp;rw[e]at hu;cases hu
  ·obtain⟨fs,e⟩:=Wp;rw[e]at hu;cases hu
  ·rw[Wm]at hu;cases hu;exact⟨by simp[gd],Oe (by decide:0<1) (by kernel_rfl:1=Tryz.prog.cellsOf 23),fun l=>⟨(l:List (List zb)),rfl⟩⟩
  ·obtain⟨fs,e⟩:=Vp;rw[e]at hu;cases hu
  ·rw[Vm]at hu;cases hu;exact⟨by simp[gd],Oe (by decide:0<3) (by kernel_rfl:3=Tryz.prog.cellsOf 66),fun l=>⟨(l:List zV),rfl⟩⟩
  ·obtain⟨fs,e⟩:=Wq;rw[e]at hu;cases hu
  ·rw[Pn]at hu;cases hu;exact⟨by simp[gd],Oe (by decide:0<2) (by kernel_rfl:2=Tryz.prog.cellsOf 119),fun l=>⟨(l:List zw),rfl⟩⟩
  ·obtain⟨fs,e⟩:=Vq;rw[e]at hu;cases hu
  ·rw[Nn]at hu;cases hu;exact⟨by simp[gd],Oe (by decide:0<1) (by kernel_rfl:1=Tryz.prog.cellsOf 9),fun l=>⟨(l:List Str),rfl⟩⟩
  ·obtain⟨fs,e⟩:=Uq;rw[e]at hu;cases hu
  ·rw[Kn]at hu;cases hu
  ·rw[Jn]at hu;cases hu
  ·rw[Gn]at hu;cases hu
 st:=fun t fs hg hu=>by
  simp only[gd,Va,Td,Fg]at hg;rcases hg with rfl|rfl|rfl|rfl|rfl|rfl|rfl|rfl|rfl|rfl|rfl|rfl|rfl|rfl|rfl|rfl|rfl|rfl|rfl|rfl|rfl|rfl|rfl
  ·rw[Gm]at hu;cases hu
  ·rw[Em]at hu;cases hu
  ·rw[Wo]at hu;cases hu
  ·rw[Dm]at hu;cases hu
  ·rw[Vo]at hu;cases hu
  ·rw[gm]at hu;cases hu
  ·rw[dm]at hu;cases hu
  ·rw[Pk]at hu;cases hu
  ·rw[Ym]at hu;cases hu
  ·rw[Xm]at hu;cases hu
  ·refine ll hu aN (by simp[gd]) (by kernel_rfl) (by kernel_rfl) (fun pvs h0=> ?_);obtain⟨_,pvs,rfl,⟨y0,rfl⟩,h1⟩:=ZP h0;obtain⟨_,pvs,rfl,⟨y1,rfl⟩,h2⟩:=ZP h1;obtain⟨_,pvs,rfl,⟨y2,rfl⟩,h3⟩:=ZP h2;obtain⟨_,pvs,rfl,⟨y3,rfl⟩,h4⟩:=ZP h3;obtain⟨_,pvs,rfl,⟨y4,rfl⟩,h5⟩:=ZP h4;rw[Tn h5];exact⟨(⟨((UInt8.toNat y0:Nat):Int),y1,y2,y3,y4⟩:zg),rfl⟩
  ·refine ll hu YN (by simp[gd]) (by kernel_rfl) (by kernel_rfl) (fun pvs h0=> ?_);obtain⟨_,pvs,rfl,⟨y0,rfl⟩,h1⟩:=ZP h0;obtain⟨_,pvs,rfl,⟨y1,rfl⟩,h2⟩:=ZP h1;rw[Tn h2];exact⟨(⟨y0,y1⟩:zb),(kD y0 y1).trans rfl⟩
  ·rw[Wm]at hu;cases hu
  ·refine ll hu XN (by simp[gd]) (by kernel_rfl) (by kernel_rfl) (fun pvs h0=> ?_);obtain⟨_,pvs,rfl,⟨y0,rfl⟩,h1⟩:=ZP h0;obtain⟨_,pvs,rfl,⟨y1,rfl⟩,h2⟩:=ZP h1;obtain⟨_,pvs,rfl,⟨y2,rfl⟩,h3⟩:=ZP h2;rw[Tn h3];exact⟨(⟨y0,y1,y2⟩:zV),rfl⟩
  ·rw[Vm]at hu;cases hu
  ·refine ll hu jP (by simp[gd]) (by kernel_rfl) (by kernel_rfl) (fun pvs h0=> ?_);obtain⟨_,pvs,rfl,⟨y0,rfl⟩,h1⟩:=ZP h0;obtain⟨_,pvs,rfl,⟨y1,rfl⟩,h2⟩:=ZP h1;obtain⟨_,pvs,rfl,⟨y2,rfl⟩,h3⟩:=ZP h2;rw[Tn h3];exact⟨(⟨y0,y1,y2⟩:zn),rfl⟩
  ·rw[Pn]at hu;cases hu
  ·refine ll hu iP (by simp[gd]) (by kernel_rfl) (by kernel_rfl) (fun pvs h0=> ?_);obtain⟨_,pvs,rfl,⟨y0,rfl⟩,h1⟩:=ZP h0;obtain⟨_,pvs,rfl,⟨y1,rfl⟩,h2⟩:=ZP h1;rw[Tn h2];exact⟨(⟨y0,y1⟩:zw),rfl⟩
  ·rw[Nn]at hu;cases hu
  ·refine ll hu gP (by simp[gd]) (by kernel_rfl) (by kernel_rfl) (fun pvs h0=> ?_);obtain⟨_,pvs,rfl,⟨y0,rfl⟩,h1⟩:=ZP h0;obtain⟨_,pvs,rfl,⟨y1,rfl⟩,h2⟩:=ZP h1;rw[Tn h2];exact⟨(⟨y0,y1⟩:za),rfl⟩
  ·rw[Kn]at hu;cases hu
  ·rw[Jn]at hu;cases hu
  ·rw[Gn]at hu;cases hu
 only:=fun t u hg hu=>by
  simp only[gd,Va,Td,Fg]at hg;rcases hg with rfl|rfl|rfl|rfl|rfl|rfl|rfl|rfl|rfl|rfl|rfl|rfl|rfl|rfl|rfl|rfl|rfl|rfl|rfl|rfl|rfl|rfl|rfl
  ·rw[Gm]at hu;cases hu;exact .inl ⟨_,rfl⟩
  ·rw[Em]at hu;cases hu;exact .inl ⟨_,rfl⟩
  ·rw[Wo]at hu;cases hu;exact .inr (.inl rfl)
  ·rw[Dm]at hu;cases hu;exact .inl ⟨_,rfl⟩
  ·rw[Vo]at hu;cases hu;exact .inr (.inr (.inl rfl))
  ·rw[gm]at hu;cases hu;exact .inl ⟨_,rfl⟩
  ·rw[dm]at hu;cases hu;exact .inr (.inr (.inr (.inl ⟨_,rfl⟩)))
  ·rw[Pk]at hu;cases hu;exact .inr (.inr (.inr (.inl ⟨_,rfl⟩)))
  ·rw[Ym]at hu;cases hu;exact .inl ⟨_,rfl⟩
  ·rw[Xm]at hu;cases hu;exact .inr (.inr (.inr (.inl ⟨_,rfl⟩)))
  ·obtain⟨fs,e⟩:=Xp;rw[e]at hu;cases hu;exact .inr (.inr (.inr (.inr ⟨_,rfl⟩)))
  ·obtain⟨fs,e⟩:=Wp;rw[e]at hu;cases hu;exact .inr (.inr (.inr (.inr ⟨_,rfl⟩)))
  ·rw[Wm]at hu;cases hu;exact .inr (.inr (.inr (.inl ⟨_,rfl⟩)))
  ·obtain⟨fs,e⟩:=Vp;rw[e]at hu;cases hu;exact .inr (.inr (.inr (.inr ⟨_,rfl⟩)))
  ·rw[Vm]at hu;cases hu;exact .inr (.inr (.inr (.inl ⟨_,rfl⟩)))
  ·obtain⟨fs,e⟩:=Wq;rw[e]at hu;cases hu;exact .inr (.inr (.inr (.inr ⟨_,rfl⟩)))
  ·rw[Pn]at hu;cases hu;exact .inr (.inr (.inr (.inl ⟨_,rfl⟩)))
  ·obtain⟨fs,e⟩:=Vq;rw[e]at hu;cases hu;exact .inr (.inr (.inr (.inr ⟨_,rfl⟩)))
  ·rw[Nn]at hu;cases hu;exact .inr (.inr (.inr (.inl ⟨_,rfl⟩)))
  ·obtain⟨fs,e⟩:=Uq;rw[e]at hu;cases hu;exact .inr (.inr (.inr (.inr ⟨_,rfl⟩)))
  ·rw[Kn]at hu;cases hu;exact .inl ⟨_,rfl⟩
  ·rw[Jn]at hu;cases hu;exact .inl ⟨_,rfl⟩
  ·rw[Gn]at hu;cases hu;exact .inl ⟨_,rfl⟩
end Go.Lv.VT
