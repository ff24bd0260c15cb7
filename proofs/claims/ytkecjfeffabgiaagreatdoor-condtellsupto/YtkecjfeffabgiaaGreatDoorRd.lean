/- Which values may come in. -/
import Derived.Test.YtkecjfeffabgiaaGreatDoorIp
import Derived.Test.YtkecjfeffabgiaaGreatDoorLf
set_option linter.unusedSimpArgs false
set_option linter.unusedVariables false
namespace Go.Lv.VT
set_option maxRecDepth 100000
open Go.Proofs
def gd:List Nat:=[2,3,4,5,9,12,21,22,24,25,27,29,30,32,33,52,57,59,62,111,121,133,172,189,206,208,211,220]
theorem Yw:Tryz.prog.underlying 2=some (.int .i64):=by kernel_rfl
theorem Xw:Tryz.prog.underlying 3=some (.int .i64):=by kernel_rfl
theorem cB:Tryz.prog.underlying 4=some (.bool):=by kernel_rfl
theorem Ww:Tryz.prog.underlying 5=some (.int .u8):=by kernel_rfl
theorem bB:Tryz.prog.underlying 9=some (.string):=by kernel_rfl
theorem Xt:Tryz.prog.underlying 12=some (.int .u64):=by kernel_rfl
theorem Wt:Tryz.prog.underlying 21=some (.int .i32):=by kernel_rfl
theorem Vt:Tryz.prog.underlying 22=some (.slice 59):=by kernel_rfl
theorem ow: ∃fs,Tryz.prog.underlying 24=some (.struct fs):=⟨(match Tryz.prog.underlying 24 with|some (.struct fs)=>fs|_=> #[]),by kernel_rfl⟩
theorem zJb:Jl Tryz.prog 24=[(9,0),(22,1),(4,2)]:=by kernel_rfl
theorem Ut:Tryz.prog.underlying 25=some (.slice 27):=by kernel_rfl
theorem lw: ∃fs,Tryz.prog.underlying 27=some (.struct fs):=⟨(match Tryz.prog.underlying 27 with|some (.struct fs)=>fs|_=> #[]),by kernel_rfl⟩
theorem zJc:Jl Tryz.prog 27=[(5,0),(9,1),(2,2),(24,3),(25,6)]:=by kernel_rfl
theorem jw: ∃fs,Tryz.prog.underlying 29=some (.struct fs):=⟨(match Tryz.prog.underlying 29 with|some (.struct fs)=>fs|_=> #[]),by kernel_rfl⟩
theorem zJd:Jl Tryz.prog 29=[(2,0)]:=by kernel_rfl
theorem Aq:Tryz.prog.underlying 30=some (.slice 4):=by kernel_rfl
theorem Tt:Tryz.prog.underlying 32=some (.slice 24):=by kernel_rfl
theorem Rt:Tryz.prog.underlying 33=some (.int .i64):=by kernel_rfl
theorem Pt:Tryz.prog.underlying 52=some (.slice 9):=by kernel_rfl
theorem iw: ∃fs,Tryz.prog.underlying 57=some (.struct fs):=⟨(match Tryz.prog.underlying 57 with|some (.struct fs)=>fs|_=> #[]),by kernel_rfl⟩
theorem zJe:Jl Tryz.prog 57=[(5,0),(9,1),(2,2),(9,3),(4,4)]:=by kernel_rfl
theorem fw: ∃fs,Tryz.prog.underlying 59=some (.struct fs):=⟨(match Tryz.prog.underlying 59 with|some (.struct fs)=>fs|_=> #[]),by kernel_rfl⟩
theorem zJf:Jl Tryz.prog 59=[(57,0),(22,5)]:=by kernel_rfl
theorem Ot:Tryz.prog.underlying 62=some (.slice 57):=by kernel_rfl
theorem dx: ∃fs,Tryz.prog.underlying 111=some (.struct fs):=⟨(match Tryz.prog.underlying 111 with|some (.struct fs)=>fs|_=> #[]),by kernel_rfl⟩
theorem zHq:Jl Tryz.prog 111=[(3,0),(3,1),(4,2)]:=by kernel_rfl
theorem ax: ∃fs,Tryz.prog.underlying 121=some (.struct fs):=⟨(match Tryz.prog.underlying 121 with|some (.struct fs)=>fs|_=> #[]),by kernel_rfl⟩
theorem zHr:Jl Tryz.prog 121=[(9,0),(3,1)]:=by kernel_rfl
theorem Vu:Tryz.prog.underlying 133=some (.slice 5):=by kernel_rfl
theorem Uu:Tryz.prog.underlying 172=some (.slice 2):=by kernel_rfl
theorem Tu:Tryz.prog.underlying 189=some (.int .u32):=by kernel_rfl
theorem Su:Tryz.prog.underlying 206=some (.int .u64):=by kernel_rfl
theorem Ru:Tryz.prog.underlying 208=some (.slice 211):=by kernel_rfl
theorem Yx: ∃fs,Tryz.prog.underlying 211=some (.struct fs):=⟨(match Tryz.prog.underlying 211 with|some (.struct fs)=>fs|_=> #[]),by kernel_rfl⟩
theorem zHs:Jl Tryz.prog 211=[(3,0),(3,1)]:=by kernel_rfl
theorem Ou:Tryz.prog.underlying 220=some (.int .u64):=by kernel_rfl
theorem ipRd:IpRd Tryz.prog I (fun t=>t∈gd)where
 int:=fun t k hg hu n h1 h2=>by
  simp only[gd,Rb,Af,or_false]at hg;rcases hg with rfl|rfl|rfl|rfl|rfl|rfl|rfl|rfl|rfl|rfl|rfl|rfl|rfl|rfl|rfl|rfl|rfl|rfl|rfl|rfl|rfl|rfl|rfl|rfl|rfl|rfl|rfl|rfl
  ·rw[Yw]at hu;cases hu;exact⟨(n:Int),rfl⟩
  ·rw[Xw]at hu;cases hu;exact⟨(n:Int),rfl⟩
  ·rw[cB]at hu;cases hu
  ·rw[Ww]at hu;cases hu;exact⟨UInt8.ofNat n.toNat,zKe h1 h2⟩
  ·rw[bB]at hu;cases hu
  ·rw[Xt]at hu;cases hu;exact⟨(n:Int),rfl⟩
  ·rw[Wt]at hu;cases hu;exact⟨(n:Int),rfl⟩
  ·rw[Vt]at hu;cases hu
  ·obtain⟨fs,e⟩:=ow;rw[e]at hu;cases hu
  ·rw[Ut]at hu;cases hu
  ·obtain⟨fs,e⟩:=lw;rw[e]at hu;cases hu
  ·obtain⟨fs,e⟩:=jw;rw[e]at hu;cases hu
  ·rw[Aq]at hu;cases hu
  ·rw[Tt]at hu;cases hu
  ·rw[Rt]at hu;cases hu;exact⟨(n:Int),rfl⟩
  ·rw[Pt]at hu;cases hu
  ·obtain⟨fs,e⟩:=iw;rw[e]at hu;cases hu
  ·obtain⟨fs,e⟩:=fw;rw[e]at hu;cases hu
  ·rw[Ot]at hu;cases hu
  ·obtain⟨fs,e⟩:=dx;rw[e]at hu;cases hu
  ·obtain⟨fs,e⟩:=ax;rw[e]at hu;cases hu
  ·rw[Vu]at hu;cases hu
  ·rw[Uu]at hu;cases hu
  ·rw[Tu]at hu;cases hu;exact⟨(n:Int),rfl⟩
  ·rw[Su]at hu;cases hu;exact⟨(n:Int),rfl⟩
  ·rw[Ru]at hu;cases hu
  ·obtain⟨fs,e⟩:=Yx;rw[e]at hu;cases hu
  ·rw[Ou]at hu;cases hu;exact⟨(n:Int),rfl⟩
 bool:=fun t hg hu b=>by
  simp only[gd,Rb,Af,or_false]at hg;rcases hg with rfl|rfl|rfl|rfl|rfl|rfl|rfl|rfl|rfl|rfl|rfl|rfl|rfl|rfl|rfl|rfl|rfl|rfl|rfl|rfl|rfl|rfl|rfl|rfl|rfl|rfl|rfl|rfl
  ·rw[Yw]at hu;cases hu
  ·rw[Xw]at hu;cases hu
  ·exact⟨(b:Bool),rfl⟩
  ·rw[Ww]at hu;cases hu
  ·rw[bB]at hu;cases hu
  ·rw[Xt]at hu;cases hu
  ·rw[Wt]at hu;cases hu
  ·rw[Vt]at hu;cases hu
  ·obtain⟨fs,e⟩:=ow;rw[e]at hu;cases hu
  ·rw[Ut]at hu;cases hu
  ·obtain⟨fs,e⟩:=lw;rw[e]at hu;cases hu
  ·obtain⟨fs,e⟩:=jw;rw[e]at hu;cases hu
  ·rw[Aq]at hu;cases hu
  ·rw[Tt]at hu;cases hu
  ·rw[Rt]at hu;cases hu
  ·rw[Pt]at hu;cases hu
  ·obtain⟨fs,e⟩:=iw;rw[e]at hu;cases hu
  ·obtain⟨fs,e⟩:=fw;rw[e]at hu;cases hu
  ·rw[Ot]at hu;cases hu
  ·obtain⟨fs,e⟩:=dx;rw[e]at hu;cases hu
  ·obtain⟨fs,e⟩:=ax;rw[e]at hu;cases hu
  ·rw[Vu]at hu;cases hu
  ·rw[Uu]at hu;cases hu
  ·rw[Tu]at hu;cases hu
  ·rw[Su]at hu;cases hu
  ·rw[Ru]at hu;cases hu
  ·obtain⟨fs,e⟩:=Yx;rw[e]at hu;cases hu
  ·rw[Ou]at hu;cases hu
 str:=fun t hg hu l=>by
  simp only[gd,Rb,Af,or_false]at hg;rcases hg with rfl|rfl|rfl|rfl|rfl|rfl|rfl|rfl|rfl|rfl|rfl|rfl|rfl|rfl|rfl|rfl|rfl|rfl|rfl|rfl|rfl|rfl|rfl|rfl|rfl|rfl|rfl|rfl
  ·rw[Yw]at hu;cases hu
  ·rw[Xw]at hu;cases hu
  ·rw[cB]at hu;cases hu
  ·rw[Ww]at hu;cases hu
  ·exact⟨(l:Str),rfl⟩
  ·rw[Xt]at hu;cases hu
  ·rw[Wt]at hu;cases hu
  ·rw[Vt]at hu;cases hu
  ·obtain⟨fs,e⟩:=ow;rw[e]at hu;cases hu
  ·rw[Ut]at hu;cases hu
  ·obtain⟨fs,e⟩:=lw;rw[e]at hu;cases hu
  ·obtain⟨fs,e⟩:=jw;rw[e]at hu;cases hu
  ·rw[Aq]at hu;cases hu
  ·rw[Tt]at hu;cases hu
  ·rw[Rt]at hu;cases hu
  ·rw[Pt]at hu;cases hu
  ·obtain⟨fs,e⟩:=iw;rw[e]at hu;cases hu
  ·obtain⟨fs,e⟩:=fw;rw[e]at hu;cases hu
  ·rw[Ot]at hu;cases hu
  ·obtain⟨fs,e⟩:=dx;rw[e]at hu;cases hu
  ·obtain⟨fs,e⟩:=ax;rw[e]at hu;cases hu
  ·rw[Vu]at hu;cases hu
  ·rw[Uu]at hu;cases hu
  ·rw[Tu]at hu;cases hu
  ·rw[Su]at hu;cases hu
  ·rw[Ru]at hu;cases hu
  ·obtain⟨fs,e⟩:=Yx;rw[e]at hu;cases hu
  ·rw[Ou]at hu;cases hu
 sl:=fun t e hg hu=>by
  simp only[gd,Rb,Af,or_false]at hg;rcases hg with rfl|rfl|rfl|rfl|rfl|rfl|rfl|rfl|rfl|rfl|rfl|rfl|rfl|rfl|rfl|rfl|rfl|rfl|rfl|rfl|rfl|rfl|rfl|rfl|rfl|rfl|rfl|rfl
  ·rw[Yw]at hu;cases hu
  ·rw[Xw]at hu;cases hu
  ·rw[cB]at hu;cases hu
  ·rw[Ww]at hu;cases hu
  ·rw[bB]at hu;cases hu
  ·rw[Xt]at hu;cases hu
  ·rw[Wt]at hu;cases hu
  ·rw[Vt]at hu;cases hu;exact⟨by simp[gd],xe (by decide:0<6) (by kernel_rfl:6=Tryz.prog.cellsOf 59),fun l=>⟨(l:List zh),rfl⟩⟩
  ·obtain⟨fs,e⟩:=ow;rw[e]at hu;cases hu
  ·rw[Ut]at hu;cases hu;exact⟨by simp[gd],xe (by decide:0<7) (by kernel_rfl:7=Tryz.prog.cellsOf 27),fun l=>⟨(l:List zg),rfl⟩⟩
  ·obtain⟨fs,e⟩:=lw;rw[e]at hu;cases hu
  ·obtain⟨fs,e⟩:=jw;rw[e]at hu;cases hu
  ·rw[Aq]at hu;cases hu;exact⟨by simp[gd],xe (by decide:0<1) (by kernel_rfl:1=Tryz.prog.cellsOf 4),fun l=>⟨(l:List Bool),rfl⟩⟩
  ·rw[Tt]at hu;cases hu;exact⟨by simp[gd],xe (by decide:0<3) (by kernel_rfl:3=Tryz.prog.cellsOf 24),fun l=>⟨(l:List z8),rfl⟩⟩
  ·rw[Rt]at hu;cases hu
  ·rw[Pt]at hu;cases hu;exact⟨by simp[gd],xe (by decide:0<1) (by kernel_rfl:1=Tryz.prog.cellsOf 9),fun l=>⟨(l:List Str),rfl⟩⟩
  ·obtain⟨fs,e⟩:=iw;rw[e]at hu;cases hu
  ·obtain⟨fs,e⟩:=fw;rw[e]at hu;cases hu
  ·rw[Ot]at hu;cases hu;exact⟨by simp[gd],xe (by decide:0<5) (by kernel_rfl:5=Tryz.prog.cellsOf 57),fun l=>⟨(l:List ze),rfl⟩⟩
  ·obtain⟨fs,e⟩:=dx;rw[e]at hu;cases hu
  ·obtain⟨fs,e⟩:=ax;rw[e]at hu;cases hu
  ·rw[Vu]at hu;cases hu;exact⟨by simp[gd],xe (by decide:0<1) (by kernel_rfl:1=Tryz.prog.cellsOf 5),fun l=>⟨(l:List UInt8),rfl⟩⟩
  ·rw[Uu]at hu;cases hu;exact⟨by simp[gd],xe (by decide:0<1) (by kernel_rfl:1=Tryz.prog.cellsOf 2),fun l=>⟨(l:List Int),rfl⟩⟩
  ·rw[Tu]at hu;cases hu
  ·rw[Su]at hu;cases hu
  ·rw[Ru]at hu;cases hu;exact⟨by simp[gd],xe (by decide:0<2) (by kernel_rfl:2=Tryz.prog.cellsOf 211),fun l=>⟨(l:List zR),rfl⟩⟩
  ·obtain⟨fs,e⟩:=Yx;rw[e]at hu;cases hu
  ·rw[Ou]at hu;cases hu
 st:=fun t fs hg hu=>by
  simp only[gd,Rb,Af,or_false]at hg;rcases hg with rfl|rfl|rfl|rfl|rfl|rfl|rfl|rfl|rfl|rfl|rfl|rfl|rfl|rfl|rfl|rfl|rfl|rfl|rfl|rfl|rfl|rfl|rfl|rfl|rfl|rfl|rfl|rfl
  ·rw[Yw]at hu;cases hu
  ·rw[Xw]at hu;cases hu
  ·rw[cB]at hu;cases hu
  ·rw[Ww]at hu;cases hu
  ·rw[bB]at hu;cases hu
  ·rw[Xt]at hu;cases hu
  ·rw[Wt]at hu;cases hu
  ·rw[Vt]at hu;cases hu
  ·refine Pn hu zJb (by simp[gd]) (by kernel_rfl) (by kernel_rfl) (fun pvs h0=> ?_);obtain⟨_,pvs,rfl,⟨y0,rfl⟩,h1⟩:=ZL h0;obtain⟨_,pvs,rfl,⟨y1,rfl⟩,h2⟩:=ZL h1;obtain⟨_,pvs,rfl,⟨y2,rfl⟩,h3⟩:=ZL h2;rw[Wo h3];exact⟨(⟨y0,y1,y2⟩:z8),rfl⟩
  ·rw[Ut]at hu;cases hu
  ·refine Pn hu zJc (by simp[gd]) (by kernel_rfl) (by kernel_rfl) (fun pvs h0=> ?_);obtain⟨_,pvs,rfl,⟨y0,rfl⟩,h1⟩:=ZL h0;obtain⟨_,pvs,rfl,⟨y1,rfl⟩,h2⟩:=ZL h1;obtain⟨_,pvs,rfl,⟨y2,rfl⟩,h3⟩:=ZL h2;obtain⟨_,pvs,rfl,⟨y3,rfl⟩,h4⟩:=ZL h3;obtain⟨_,pvs,rfl,⟨y4,rfl⟩,h5⟩:=ZL h4;rw[Wo h5];exact⟨(⟨((UInt8.toNat y0:Nat):Int),y1,y2,y3,y4⟩:zg),(NV ((UInt8.toNat y0:Nat):Int) y1 y2 y3 y4).trans rfl⟩
  ·refine Pn hu zJd (by simp[gd]) (by kernel_rfl) (by kernel_rfl) (fun pvs h0=> ?_);obtain⟨_,pvs,rfl,⟨y0,rfl⟩,h1⟩:=ZL h0;rw[Wo h1];exact⟨(⟨y0⟩:VEnv),rfl⟩
  ·rw[Aq]at hu;cases hu
  ·rw[Tt]at hu;cases hu
  ·rw[Rt]at hu;cases hu
  ·rw[Pt]at hu;cases hu
  ·refine Pn hu zJe (by simp[gd]) (by kernel_rfl) (by kernel_rfl) (fun pvs h0=> ?_);obtain⟨_,pvs,rfl,⟨y0,rfl⟩,h1⟩:=ZL h0;obtain⟨_,pvs,rfl,⟨y1,rfl⟩,h2⟩:=ZL h1;obtain⟨_,pvs,rfl,⟨y2,rfl⟩,h3⟩:=ZL h2;obtain⟨_,pvs,rfl,⟨y3,rfl⟩,h4⟩:=ZL h3;obtain⟨_,pvs,rfl,⟨y4,rfl⟩,h5⟩:=ZL h4;rw[Wo h5];exact⟨(⟨((UInt8.toNat y0:Nat):Int),y1,y2,y3,y4⟩:ze),rfl⟩
  ·refine Pn hu zJf (by simp[gd]) (by kernel_rfl) (by kernel_rfl) (fun pvs h0=> ?_);obtain⟨_,pvs,rfl,⟨y0,rfl⟩,h1⟩:=ZL h0;obtain⟨_,pvs,rfl,⟨y1,rfl⟩,h2⟩:=ZL h1;rw[Wo h2];exact⟨(⟨y0,y1⟩:zh),(vW y0 y1).trans rfl⟩
  ·rw[Ot]at hu;cases hu
  ·refine Pn hu zHq (by simp[gd]) (by kernel_rfl) (by kernel_rfl) (fun pvs h0=> ?_);obtain⟨_,pvs,rfl,⟨y0,rfl⟩,h1⟩:=ZL h0;obtain⟨_,pvs,rfl,⟨y1,rfl⟩,h2⟩:=ZL h1;obtain⟨_,pvs,rfl,⟨y2,rfl⟩,h3⟩:=ZL h2;rw[Wo h3];exact⟨(⟨y0,y1,y2⟩:Ze),rfl⟩
  ·refine Pn hu zHr (by simp[gd]) (by kernel_rfl) (by kernel_rfl) (fun pvs h0=> ?_);obtain⟨_,pvs,rfl,⟨y0,rfl⟩,h1⟩:=ZL h0;obtain⟨_,pvs,rfl,⟨y1,rfl⟩,h2⟩:=ZL h1;rw[Wo h2];exact⟨(⟨y0,y1⟩:zb),rfl⟩
  ·rw[Vu]at hu;cases hu
  ·rw[Uu]at hu;cases hu
  ·rw[Tu]at hu;cases hu
  ·rw[Su]at hu;cases hu
  ·rw[Ru]at hu;cases hu
  ·refine Pn hu zHs (by simp[gd]) (by kernel_rfl) (by kernel_rfl) (fun pvs h0=> ?_);obtain⟨_,pvs,rfl,⟨y0,rfl⟩,h1⟩:=ZL h0;obtain⟨_,pvs,rfl,⟨y1,rfl⟩,h2⟩:=ZL h1;rw[Wo h2];exact⟨(⟨y0,y1⟩:zR),rfl⟩
  ·rw[Ou]at hu;cases hu
 only:=fun t u hg hu=>by
  simp only[gd,Rb,Af,or_false]at hg;rcases hg with rfl|rfl|rfl|rfl|rfl|rfl|rfl|rfl|rfl|rfl|rfl|rfl|rfl|rfl|rfl|rfl|rfl|rfl|rfl|rfl|rfl|rfl|rfl|rfl|rfl|rfl|rfl|rfl
  ·rw[Yw]at hu;cases hu;exact .inl ⟨_,rfl⟩
  ·rw[Xw]at hu;cases hu;exact .inl ⟨_,rfl⟩
  ·rw[cB]at hu;cases hu;exact .inr (.inl rfl)
  ·rw[Ww]at hu;cases hu;exact .inl ⟨_,rfl⟩
  ·rw[bB]at hu;cases hu;exact .inr (.inr (.inl rfl))
  ·rw[Xt]at hu;cases hu;exact .inl ⟨_,rfl⟩
  ·rw[Wt]at hu;cases hu;exact .inl ⟨_,rfl⟩
  ·rw[Vt]at hu;cases hu;exact .inr (.inr (.inr (.inl ⟨_,rfl⟩)))
  ·obtain⟨fs,e⟩:=ow;rw[e]at hu;cases hu;exact .inr (.inr (.inr (.inr ⟨_,rfl⟩)))
  ·rw[Ut]at hu;cases hu;exact .inr (.inr (.inr (.inl ⟨_,rfl⟩)))
  ·obtain⟨fs,e⟩:=lw;rw[e]at hu;cases hu;exact .inr (.inr (.inr (.inr ⟨_,rfl⟩)))
  ·obtain⟨fs,e⟩:=jw;rw[e]at hu;cases hu;exact .inr (.inr (.inr (.inr ⟨_,rfl⟩)))
  ·rw[Aq]at hu;cases hu;exact .inr (.inr (.inr (.inl ⟨_,rfl⟩)))
  ·rw[Tt]at hu;cases hu;exact .inr (.inr (.inr (.inl ⟨_,rfl⟩)))
  ·rw[Rt]at hu;cases hu;exact .inl ⟨_,rfl⟩
  ·rw[Pt]at hu;cases hu;exact .inr (.inr (.inr (.inl ⟨_,rfl⟩)))
  ·obtain⟨fs,e⟩:=iw;rw[e]at hu;cases hu;exact .inr (.inr (.inr (.inr ⟨_,rfl⟩)))
  ·obtain⟨fs,e⟩:=fw;rw[e]at hu;cases hu;exact .inr (.inr (.inr (.inr ⟨_,rfl⟩)))
  ·rw[Ot]at hu;cases hu;exact .inr (.inr (.inr (.inl ⟨_,rfl⟩)))
  ·obtain⟨fs,e⟩:=dx;rw[e]at hu;cases hu;exact .inr (.inr (.inr (.inr ⟨_,rfl⟩)))
  ·obtain⟨fs,e⟩:=ax;rw[e]at hu;cases hu;exact .inr (.inr (.inr (.inr ⟨_,rfl⟩)))
  ·rw[Vu]at hu;cases hu;exact .inr (.inr (.inr (.inl ⟨_,rfl⟩)))
  ·rw[Uu]at hu;cases hu;exact .inr (.inr (.inr (.inl ⟨_,rfl⟩)))
  ·rw[Tu]at hu;cases hu;exact .inl ⟨_,rfl⟩
  ·rw[Su]at hu;cases hu;exact .inl ⟨_,rfl⟩
  ·rw[Ru]at hu;cases hu;exact .inr (.inr (.inr (.inl ⟨_,rfl⟩)))
  ·obtain⟨fs,e⟩:=Yx;rw[e]at hu;cases hu;exact .inr (.inr (.inr (.inr ⟨_,rfl⟩)))
  ·rw[Ou]at hu;cases hu;exact .inl ⟨_,rfl⟩
end Go.Lv.VT
