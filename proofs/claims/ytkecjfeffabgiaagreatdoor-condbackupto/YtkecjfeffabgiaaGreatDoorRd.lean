/- Which values may come in. -/
import Derived.Test.YtkecjfeffabgiaaGreatDoorIp
import Derived.Test.YtkecjfeffabgiaaGreatDoorLf
set_option linter.unusedSimpArgs false
set_option linter.unusedVariables false
namespace Go.Lv.VT
set_option maxRecDepth 100000
open Go.Proofs
def gd:List Nat:=[2,3,4,5,9,12,21,22,24,25,27,29,30,32,33,52,57,59,62,85,87,111,121,133,172,189,206,208,211,220]
theorem Uu:Tryz.prog.underlying 2=some (.int .i64):=by kernel_rfl
theorem Tu:Tryz.prog.underlying 3=some (.int .i64):=by kernel_rfl
theorem iC:Tryz.prog.underlying 4=some (.bool):=by kernel_rfl
theorem Su:Tryz.prog.underlying 5=some (.int .u8):=by kernel_rfl
theorem aC:Tryz.prog.underlying 9=some (.string):=by kernel_rfl
theorem Pv:Tryz.prog.underlying 12=some (.int .u64):=by kernel_rfl
theorem Ov:Tryz.prog.underlying 21=some (.int .i32):=by kernel_rfl
theorem Nv:Tryz.prog.underlying 22=some (.slice 59):=by kernel_rfl
theorem iy: ∃fs,Tryz.prog.underlying 24=some (.struct fs):=⟨(match Tryz.prog.underlying 24 with|some (.struct fs)=>fs|_=> #[]),by kernel_rfl⟩
theorem zJx:El Tryz.prog 24=[(9,0),(22,1),(4,2)]:=by kernel_rfl
theorem Mv:Tryz.prog.underlying 25=some (.slice 27):=by kernel_rfl
theorem gy: ∃fs,Tryz.prog.underlying 27=some (.struct fs):=⟨(match Tryz.prog.underlying 27 with|some (.struct fs)=>fs|_=> #[]),by kernel_rfl⟩
theorem zJy:El Tryz.prog 27=[(5,0),(9,1),(2,2),(24,3),(25,6)]:=by kernel_rfl
theorem ay: ∃fs,Tryz.prog.underlying 29=some (.struct fs):=⟨(match Tryz.prog.underlying 29 with|some (.struct fs)=>fs|_=> #[]),by kernel_rfl⟩
theorem zJz:El Tryz.prog 29=[(2,0)]:=by kernel_rfl
theorem Kv:Tryz.prog.underlying 30=some (.slice 4):=by kernel_rfl
theorem Jv:Tryz.prog.underlying 32=some (.slice 24):=by kernel_rfl
theorem Gv:Tryz.prog.underlying 33=some (.int .i64):=by kernel_rfl
theorem Fv:Tryz.prog.underlying 52=some (.slice 9):=by kernel_rfl
theorem Yy: ∃fs,Tryz.prog.underlying 57=some (.struct fs):=⟨(match Tryz.prog.underlying 57 with|some (.struct fs)=>fs|_=> #[]),by kernel_rfl⟩
theorem zJA:El Tryz.prog 57=[(5,0),(9,1),(2,2),(9,3),(4,4)]:=by kernel_rfl
theorem Xy: ∃fs,Tryz.prog.underlying 59=some (.struct fs):=⟨(match Tryz.prog.underlying 59 with|some (.struct fs)=>fs|_=> #[]),by kernel_rfl⟩
theorem zJB:El Tryz.prog 59=[(57,0),(22,5)]:=by kernel_rfl
theorem lu:Tryz.prog.underlying 62=some (.slice 57):=by kernel_rfl
theorem Wy: ∃fs,Tryz.prog.underlying 85=some (.struct fs):=⟨(match Tryz.prog.underlying 85 with|some (.struct fs)=>fs|_=> #[]),by kernel_rfl⟩
theorem zJC:El Tryz.prog 85=[(22,0)]:=by kernel_rfl
theorem ku:Tryz.prog.underlying 87=some (.slice 22):=by kernel_rfl
theorem Wz: ∃fs,Tryz.prog.underlying 111=some (.struct fs):=⟨(match Tryz.prog.underlying 111 with|some (.struct fs)=>fs|_=> #[]),by kernel_rfl⟩
theorem zHq:El Tryz.prog 111=[(3,0),(3,1),(4,2)]:=by kernel_rfl
theorem Vz: ∃fs,Tryz.prog.underlying 121=some (.struct fs):=⟨(match Tryz.prog.underlying 121 with|some (.struct fs)=>fs|_=> #[]),by kernel_rfl⟩
theorem zHr:El Tryz.prog 121=[(9,0),(3,1)]:=by kernel_rfl
theorem bv:Tryz.prog.underlying 133=some (.slice 5):=by kernel_rfl
theorem av:Tryz.prog.underlying 172=some (.slice 2):=by kernel_rfl
theorem Yv:Tryz.prog.underlying 189=some (.int .u32):=by kernel_rfl
theorem Xv:Tryz.prog.underlying 206=some (.int .u64):=by kernel_rfl
theorem Wv:Tryz.prog.underlying 208=some (.slice 211):=by kernel_rfl
theorem Uz: ∃fs,Tryz.prog.underlying 211=some (.struct fs):=⟨(match Tryz.prog.underlying 211 with|some (.struct fs)=>fs|_=> #[]),by kernel_rfl⟩
theorem zHs:El Tryz.prog 211=[(3,0),(3,1)]:=by kernel_rfl
theorem Vv:Tryz.prog.underlying 220=some (.int .u64):=by kernel_rfl
theorem ipRd:IpRd Tryz.prog I (fun t=>t∈gd)where
 int:=fun t k hg hu n h1 h2=>by
  simp only[gd,Jb,Yd,Hg]at hg;rcases hg with rfl|rfl|rfl|rfl|rfl|rfl|rfl|rfl|rfl|rfl|rfl|rfl|rfl|rfl|rfl|rfl|rfl|rfl|rfl|rfl|rfl|rfl|rfl|rfl|rfl|rfl|rfl|rfl|rfl|rfl
  ·rw[Uu]at hu;cases hu;exact⟨(n:Int),rfl⟩
  ·rw[Tu]at hu;cases hu;exact⟨(n:Int),rfl⟩
  ·rw[iC]at hu;cases hu
  ·rw[Su]at hu;cases hu;exact⟨UInt8.ofNat n.toNat,zKE h1 h2⟩
  ·rw[aC]at hu;cases hu
  ·rw[Pv]at hu;cases hu;exact⟨(n:Int),rfl⟩
  ·rw[Ov]at hu;cases hu;exact⟨(n:Int),rfl⟩
  ·rw[Nv]at hu;cases hu
  ·obtain⟨fs,e⟩:=iy;rw[e]at hu;cases hu
  ·rw[Mv]at hu;cases hu
  ·obtain⟨fs,e⟩:=gy;rw[e]at hu;cases hu
  ·obtain⟨fs,e⟩:=ay;rw[e]at hu;cases hu
  ·rw[Kv]at hu;cases hu
  ·rw[Jv]at hu;cases hu
  ·rw[Gv]at hu;cases hu;exact⟨(n:Int),rfl⟩
  ·rw[Fv]at hu;cases hu
  ·obtain⟨fs,e⟩:=Yy;rw[e]at hu;cases hu
  ·obtain⟨fs,e⟩:=Xy;rw[e]at hu;cases hu
  ·rw[lu]at hu;cases hu
  ·obtain⟨fs,e⟩:=Wy;rw[e]at hu;cases hu
  ·rw[ku]at hu;cases hu
  ·obtain⟨fs,e⟩:=Wz;rw[e]at hu;cases hu
  ·obtain⟨fs,e⟩:=Vz;rw[e]at hu;cases hu
  ·rw[bv]at hu;cases hu
  ·rw[av]at hu;cases hu
  ·rw[Yv]at hu;cases hu;exact⟨(n:Int),rfl⟩
  ·rw[Xv]at hu;cases hu;exact⟨(n:Int),rfl⟩
  ·rw[Wv]at hu;cases hu
  ·obtain⟨fs,e⟩:=Uz;rw[e]at hu;cases hu
  ·rw[Vv]at hu;cases hu;exact⟨(n:Int),rfl⟩
 bool:=fun t hg hu b=>by
  simp only[gd,Jb,Yd,Hg]at hg;rcases hg with rfl|rfl|rfl|rfl|rfl|rfl|rfl|rfl|rfl|rfl|rfl|rfl|rfl|rfl|rfl|rfl|rfl|rfl|rfl|rfl|rfl|rfl|rfl|rfl|rfl|rfl|rfl|rfl|rfl|rfl
  ·rw[Uu]at hu;cases hu
  ·rw[Tu]at hu;cases hu
  ·exact⟨(b:Bool),rfl⟩
  ·rw[Su]at hu;cases hu
  ·rw[aC]at hu;cases hu
  ·rw[Pv]at hu;cases hu
  ·rw[Ov]at hu;cases hu
  ·rw[Nv]at hu;cases hu
  ·obtain⟨fs,e⟩:=iy;rw[e]at hu;cases hu
  ·rw[Mv]at hu;cases hu
  ·obtain⟨fs,e⟩:=gy;rw[e]at hu;cases hu
  ·obtain⟨fs,e⟩:=ay;rw[e]at hu;cases hu
  ·rw[Kv]at hu;cases hu
  ·rw[Jv]at hu;cases hu
  ·rw[Gv]at hu;cases hu
  ·rw[Fv]at hu;cases hu
  ·obtain⟨fs,e⟩:=Yy;rw[e]at hu;cases hu
  ·obtain⟨fs,e⟩:=Xy;rw[e]at hu;cases hu
  ·rw[lu]at hu;cases hu
  ·obtain⟨fs,e⟩:=Wy;rw[e]at hu;cases hu
  ·rw[ku]at hu;cases hu
  ·obtain⟨fs,e⟩:=Wz;rw[e]at hu;cases hu
  ·obtain⟨fs,e⟩:=Vz;rw[e]at hu;cases hu
  ·rw[bv]at hu;cases hu
  ·rw[av]at hu;cases hu
  ·rw[Yv]at hu;cases hu
  ·rw[Xv]at hu;cases hu
  ·rw[Wv]at hu;cases hu
  ·obtain⟨fs,e⟩:=Uz;rw[e]at hu;cases hu
  ·rw[Vv]at hu;cases hu
 str:=fun t hg hu l=>by
  simp only[gd,Jb,Yd,Hg]at hg;rcases hg with rfl|rfl|rfl|rfl|rfl|rfl|rfl|rfl|rfl|rfl|rfl|rfl|rfl|rfl|rfl|rfl|rfl|rfl|rfl|rfl|rfl|rfl|rfl|rfl|rfl|rfl|rfl|rfl|rfl|rfl
  ·rw[Uu]at hu;cases hu
  ·rw[Tu]at hu;cases hu
  ·rw[iC]at hu;cases hu
  ·rw[Su]at hu;cases hu
  ·exact⟨(l:Str),rfl⟩
  ·rw[Pv]at hu;cases hu
  ·rw[Ov]at hu;cases hu
  ·rw[Nv]at hu;cases hu
  ·obtain⟨fs,e⟩:=iy;rw[e]at hu;cases hu
  ·rw[Mv]at hu;cases hu
  ·obtain⟨fs,e⟩:=gy;rw[e]at hu;cases hu
  ·obtain⟨fs,e⟩:=ay;rw[e]at hu;cases hu
  ·rw[Kv]at hu;cases hu
  ·rw[Jv]at hu;cases hu
  ·rw[Gv]at hu;cases hu
  ·rw[Fv]at hu;cases hu
  ·obtain⟨fs,e⟩:=Yy;rw[e]at hu;cases hu
  ·obtain⟨fs,e⟩:=Xy;rw[e]at hu;cases hu
  ·rw[lu]at hu;cases hu
  ·obtain⟨fs,e⟩:=Wy;rw[e]at hu;cases hu
  ·rw[ku]at hu;cases hu
  ·obtain⟨fs,e⟩:=Wz;rw[e]at hu;cases hu
  ·obtain⟨fs,e⟩:=Vz;rw[e]at hu;cases hu
  ·rw[bv]at hu;cases hu
  ·rw[av]at hu;cases hu
  ·rw[Yv]at hu;cases hu
  ·rw[Xv]at hu;cases hu
  ·rw[Wv]at hu;cases hu
  ·obtain⟨fs,e⟩:=Uz;rw[e]at hu;cases hu
  ·rw[Vv]at hu;cases hu
 sl:=fun t e hg hu=>by
  simp only[gd,Jb,Yd,Hg]at hg;rcases hg with rfl|rfl|rfl|rfl|rfl|rfl|rfl|rfl|rfl|rfl|rfl|rfl|rfl|rfl|rfl|rfl|rfl|rfl|rfl|rfl|rfl|rfl|rfl|rfl|rfl|rfl|rfl|rfl|rfl|rfl
  ·rw[Uu]at hu;cases hu
  ·rw[Tu]at hu;cases hu
  ·rw[iC]at hu;cases hu
  ·rw[Su]at hu;cases hu
  ·rw[aC]at hu;cases hu
  ·rw[Pv]at hu;cases hu
  ·rw[Ov]at hu;cases hu
  ·rw[Nv]at hu;cases hu;exact⟨by simp[gd],Xe (by decide:0<6) (by kernel_rfl:6=Tryz.prog.cellsOf 59),fun l=>⟨(l:List zb),rfl⟩⟩
  ·obtain⟨fs,e⟩:=iy;rw[e]at hu;cases hu
  ·rw[Mv]at hu;cases hu;exact⟨by simp[gd],Xe (by decide:0<7) (by kernel_rfl:7=Tryz.prog.cellsOf 27),fun l=>⟨(l:List zf),rfl⟩⟩
  ·obtain⟨fs,e⟩:=gy;rw[e]at hu;cases hu
  ·obtain⟨fs,e⟩:=ay;rw[e]at hu;cases hu
  ·rw[Kv]at hu;cases hu;exact⟨by simp[gd],Xe (by decide:0<1) (by kernel_rfl:1=Tryz.prog.cellsOf 4),fun l=>⟨(l:List Bool),rfl⟩⟩
  ·rw[Jv]at hu;cases hu;exact⟨by simp[gd],Xe (by decide:0<3) (by kernel_rfl:3=Tryz.prog.cellsOf 24),fun l=>⟨(l:List zD),rfl⟩⟩
  ·rw[Gv]at hu;cases hu
  ·rw[Fv]at hu;cases hu;exact⟨by simp[gd],Xe (by decide:0<1) (by kernel_rfl:1=Tryz.prog.cellsOf 9),fun l=>⟨(l:List Str),rfl⟩⟩
  ·obtain⟨fs,e⟩:=Yy;rw[e]at hu;cases hu
  ·obtain⟨fs,e⟩:=Xy;rw[e]at hu;cases hu
  ·rw[lu]at hu;cases hu;exact⟨by simp[gd],Xe (by decide:0<5) (by kernel_rfl:5=Tryz.prog.cellsOf 57),fun l=>⟨(l:List zg),rfl⟩⟩
  ·obtain⟨fs,e⟩:=Wy;rw[e]at hu;cases hu
  ·rw[ku]at hu;cases hu;exact⟨by simp[gd],Xe (by decide:0<1) (by kernel_rfl:1=Tryz.prog.cellsOf 22),fun l=>⟨(l:List (List zb)),rfl⟩⟩
  ·obtain⟨fs,e⟩:=Wz;rw[e]at hu;cases hu
  ·obtain⟨fs,e⟩:=Vz;rw[e]at hu;cases hu
  ·rw[bv]at hu;cases hu;exact⟨by simp[gd],Xe (by decide:0<1) (by kernel_rfl:1=Tryz.prog.cellsOf 5),fun l=>⟨(l:List UInt8),rfl⟩⟩
  ·rw[av]at hu;cases hu;exact⟨by simp[gd],Xe (by decide:0<1) (by kernel_rfl:1=Tryz.prog.cellsOf 2),fun l=>⟨(l:List Int),rfl⟩⟩
  ·rw[Yv]at hu;cases hu
  ·rw[Xv]at hu;cases hu
  ·rw[Wv]at hu;cases hu;exact⟨by simp[gd],Xe (by decide:0<2) (by kernel_rfl:2=Tryz.prog.cellsOf 211),fun l=>⟨(l:List zU),rfl⟩⟩
  ·obtain⟨fs,e⟩:=Uz;rw[e]at hu;cases hu
  ·rw[Vv]at hu;cases hu
 st:=fun t fs hg hu=>by
  simp only[gd,Jb,Yd,Hg]at hg;rcases hg with rfl|rfl|rfl|rfl|rfl|rfl|rfl|rfl|rfl|rfl|rfl|rfl|rfl|rfl|rfl|rfl|rfl|rfl|rfl|rfl|rfl|rfl|rfl|rfl|rfl|rfl|rfl|rfl|rfl|rfl
  ·rw[Uu]at hu;cases hu
  ·rw[Tu]at hu;cases hu
  ·rw[iC]at hu;cases hu
  ·rw[Su]at hu;cases hu
  ·rw[aC]at hu;cases hu
  ·rw[Pv]at hu;cases hu
  ·rw[Ov]at hu;cases hu
  ·rw[Nv]at hu;cases hu
  ·refine Tm hu zJx (by simp[gd]) (by kernel_rfl) (by kernel_rfl) (fun pvs h0=> ?_);obtain⟨_,pvs,rfl,⟨y0,rfl⟩,h1⟩:=ZH h0;obtain⟨_,pvs,rfl,⟨y1,rfl⟩,h2⟩:=ZH h1;obtain⟨_,pvs,rfl,⟨y2,rfl⟩,h3⟩:=ZH h2;rw[Ao h3];exact⟨(⟨y0,y1,y2⟩:zD),rfl⟩
  ·rw[Mv]at hu;cases hu
  ·refine Tm hu zJy (by simp[gd]) (by kernel_rfl) (by kernel_rfl) (fun pvs h0=> ?_);obtain⟨_,pvs,rfl,⟨y0,rfl⟩,h1⟩:=ZH h0;obtain⟨_,pvs,rfl,⟨y1,rfl⟩,h2⟩:=ZH h1;obtain⟨_,pvs,rfl,⟨y2,rfl⟩,h3⟩:=ZH h2;obtain⟨_,pvs,rfl,⟨y3,rfl⟩,h4⟩:=ZH h3;obtain⟨_,pvs,rfl,⟨y4,rfl⟩,h5⟩:=ZH h4;rw[Ao h5];exact⟨(⟨((UInt8.toNat y0:Nat):Int),y1,y2,y3,y4⟩:zf),(iW ((UInt8.toNat y0:Nat):Int) y1 y2 y3 y4).trans rfl⟩
  ·refine Tm hu zJz (by simp[gd]) (by kernel_rfl) (by kernel_rfl) (fun pvs h0=> ?_);obtain⟨_,pvs,rfl,⟨y0,rfl⟩,h1⟩:=ZH h0;rw[Ao h1];exact⟨(⟨y0⟩:VEnv),rfl⟩
  ·rw[Kv]at hu;cases hu
  ·rw[Jv]at hu;cases hu
  ·rw[Gv]at hu;cases hu
  ·rw[Fv]at hu;cases hu
  ·refine Tm hu zJA (by simp[gd]) (by kernel_rfl) (by kernel_rfl) (fun pvs h0=> ?_);obtain⟨_,pvs,rfl,⟨y0,rfl⟩,h1⟩:=ZH h0;obtain⟨_,pvs,rfl,⟨y1,rfl⟩,h2⟩:=ZH h1;obtain⟨_,pvs,rfl,⟨y2,rfl⟩,h3⟩:=ZH h2;obtain⟨_,pvs,rfl,⟨y3,rfl⟩,h4⟩:=ZH h3;obtain⟨_,pvs,rfl,⟨y4,rfl⟩,h5⟩:=ZH h4;rw[Ao h5];exact⟨(⟨((UInt8.toNat y0:Nat):Int),y1,y2,y3,y4⟩:zg),rfl⟩
  ·refine Tm hu zJB (by simp[gd]) (by kernel_rfl) (by kernel_rfl) (fun pvs h0=> ?_);obtain⟨_,pvs,rfl,⟨y0,rfl⟩,h1⟩:=ZH h0;obtain⟨_,pvs,rfl,⟨y1,rfl⟩,h2⟩:=ZH h1;rw[Ao h2];exact⟨(⟨y0,y1⟩:zb),(IX y0 y1).trans rfl⟩
  ·rw[lu]at hu;cases hu
  ·refine Tm hu zJC (by simp[gd]) (by kernel_rfl) (by kernel_rfl) (fun pvs h0=> ?_);obtain⟨_,pvs,rfl,⟨y0,rfl⟩,h1⟩:=ZH h0;rw[Ao h1];exact⟨(⟨y0⟩:zk),rfl⟩
  ·rw[ku]at hu;cases hu
  ·refine Tm hu zHq (by simp[gd]) (by kernel_rfl) (by kernel_rfl) (fun pvs h0=> ?_);obtain⟨_,pvs,rfl,⟨y0,rfl⟩,h1⟩:=ZH h0;obtain⟨_,pvs,rfl,⟨y1,rfl⟩,h2⟩:=ZH h1;obtain⟨_,pvs,rfl,⟨y2,rfl⟩,h3⟩:=ZH h2;rw[Ao h3];exact⟨(⟨y0,y1,y2⟩:Zc),rfl⟩
  ·refine Tm hu zHr (by simp[gd]) (by kernel_rfl) (by kernel_rfl) (fun pvs h0=> ?_);obtain⟨_,pvs,rfl,⟨y0,rfl⟩,h1⟩:=ZH h0;obtain⟨_,pvs,rfl,⟨y1,rfl⟩,h2⟩:=ZH h1;rw[Ao h2];exact⟨(⟨y0,y1⟩:za),rfl⟩
  ·rw[bv]at hu;cases hu
  ·rw[av]at hu;cases hu
  ·rw[Yv]at hu;cases hu
  ·rw[Xv]at hu;cases hu
  ·rw[Wv]at hu;cases hu
  ·refine Tm hu zHs (by simp[gd]) (by kernel_rfl) (by kernel_rfl) (fun pvs h0=> ?_);obtain⟨_,pvs,rfl,⟨y0,rfl⟩,h1⟩:=ZH h0;obtain⟨_,pvs,rfl,⟨y1,rfl⟩,h2⟩:=ZH h1;rw[Ao h2];exact⟨(⟨y0,y1⟩:zU),rfl⟩
  ·rw[Vv]at hu;cases hu
 only:=fun t u hg hu=>by
  simp only[gd,Jb,Yd,Hg]at hg;rcases hg with rfl|rfl|rfl|rfl|rfl|rfl|rfl|rfl|rfl|rfl|rfl|rfl|rfl|rfl|rfl|rfl|rfl|rfl|rfl|rfl|rfl|rfl|rfl|rfl|rfl|rfl|rfl|rfl|rfl|rfl
  ·rw[Uu]at hu;cases hu;exact .inl ⟨_,rfl⟩
  ·rw[Tu]at hu;cases hu;exact .inl ⟨_,rfl⟩
  ·rw[iC]at hu;cases hu;exact .inr (.inl rfl)
  ·rw[Su]at hu;cases hu;exact .inl ⟨_,rfl⟩
  ·rw[aC]at hu;cases hu;exact .inr (.inr (.inl rfl))
  ·rw[Pv]at hu;cases hu;exact .inl ⟨_,rfl⟩
  ·rw[Ov]at hu;cases hu;exact .inl ⟨_,rfl⟩
  ·rw[Nv]at hu;cases hu;exact .inr (.inr (.inr (.inl ⟨_,rfl⟩)))
  ·obtain⟨fs,e⟩:=iy;rw[e]at hu;cases hu;exact .inr (.inr (.inr (.inr ⟨_,rfl⟩)))
  ·rw[Mv]at hu;cases hu;exact .inr (.inr (.inr (.inl ⟨_,rfl⟩)))
  ·obtain⟨fs,e⟩:=gy;rw[e]at hu;cases hu;exact .inr (.inr (.inr (.inr ⟨_,rfl⟩)))
  ·obtain⟨fs,e⟩:=ay;rw[e]at hu;cases hu;exact .inr (.inr (.inr (.inr ⟨_,rfl⟩)))
  ·rw[Kv]at hu;cases hu;exact .inr (.inr (.inr (.inl ⟨_,rfl⟩)))
  ·rw[Jv]at hu;cases hu;exact .inr (.inr (.inr (.inl ⟨_,rfl⟩)))
  ·rw[Gv]at hu;cases hu;exact .inl ⟨_,rfl⟩
  ·rw[Fv]at hu;cases hu;exact .inr (.inr (.inr (.inl ⟨_,rfl⟩)))
  ·obtain⟨fs,e⟩:=Yy;rw[e]at hu;cases hu;exact .inr (.inr (.inr (.inr ⟨_,rfl⟩)))
  ·obtain⟨fs,e⟩:=Xy;rw[e]at hu;cases hu;exact .inr (.inr (.inr (.inr ⟨_,rfl⟩)))
  ·rw[lu]at hu;cases hu;exact .inr (.inr (.inr (.inl ⟨_,rfl⟩)))
  ·obtain⟨fs,e⟩:=Wy;rw[e]at hu;cases hu;exact .inr (.inr (.inr (.inr ⟨_,rfl⟩)))
  ·rw[ku]at hu;cases hu;exact .inr (.inr (.inr (.inl ⟨_,rfl⟩)))
  ·obtain⟨fs,e⟩:=Wz;rw[e]at hu;cases hu;exact .inr (.inr (.inr (.inr ⟨_,rfl⟩)))
  ·obtain⟨fs,e⟩:=Vz;rw[e]at hu;cases hu;exact .inr (.inr (.inr (.inr ⟨_,rfl⟩)))
  ·rw[bv]at hu;cases hu;exact .inr (.inr (.inr (.inl ⟨_,rfl⟩)))
  ·rw[av]at hu;cases hu;exact .inr (.inr (.inr (.inl ⟨_,rfl⟩)))
  ·rw[Yv]at hu;cases hu;exact .inl ⟨_,rfl⟩
  ·rw[Xv]at hu;cases hu;exact .inl ⟨_,rfl⟩
  ·rw[Wv]at hu;cases hu;exact .inr (.inr (.inr (.inl ⟨_,rfl⟩)))
  ·obtain⟨fs,e⟩:=Uz;rw[e]at hu;cases hu;exact .inr (.inr (.inr (.inr ⟨_,rfl⟩)))
  ·rw[Vv]at hu;cases hu;exact .inl ⟨_,rfl⟩
end Go.Lv.VT
