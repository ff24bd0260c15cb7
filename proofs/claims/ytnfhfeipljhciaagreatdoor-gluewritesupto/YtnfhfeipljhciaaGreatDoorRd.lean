/- Which values may come in. -/
import Derived.Test.YtnfhfeipljhciaaGreatDoorIp
import Derived.Test.YtnfhfeipljhciaaGreatDoorLf
set_option linter.unusedSimpArgs false
set_option linter.unusedVariables false
namespace Go.Lv.VT
set_option maxRecDepth 100000
open Go.Proofs
def gd:List Nat:=[2,3,4,5,9,12,21,26,41,51,59,86,89,100,136,154,171,181]
theorem Mq:Tryz.prog.underlying 2=some (.int .i64):=by kernel_rfl
theorem Kq:Tryz.prog.underlying 3=some (.int .i64):=by kernel_rfl
theorem Fu:Tryz.prog.underlying 4=some (.bool):=by kernel_rfl
theorem Jq:Tryz.prog.underlying 5=some (.int .u8):=by kernel_rfl
theorem Iq:Tryz.prog.underlying 9=some (.string):=by kernel_rfl
theorem Br:Tryz.prog.underlying 12=some (.int .u64):=by kernel_rfl
theorem Ar:Tryz.prog.underlying 21=some (.int .i32):=by kernel_rfl
theorem xq:Tryz.prog.underlying 26=some (.int .i64):=by kernel_rfl
theorem Vn:Tryz.prog.underlying 41=some (.slice 51):=by kernel_rfl
theorem uu: ∃fs,Tryz.prog.underlying 51=some (.struct fs):=⟨(match Tryz.prog.underlying 51 with|some (.struct fs)=>fs|_=> #[]),by kernel_rfl⟩
theorem zBR:Bv Tryz.prog 51=[(5,0),(9,1),(2,2),(9,3),(4,4)]:=by kernel_rfl
theorem uq:Tryz.prog.underlying 59=some (.slice 5):=by kernel_rfl
theorem tq:Tryz.prog.underlying 86=some (.slice 89):=by kernel_rfl
theorem tu: ∃fs,Tryz.prog.underlying 89=some (.struct fs):=⟨(match Tryz.prog.underlying 89 with|some (.struct fs)=>fs|_=> #[]),by kernel_rfl⟩
theorem zBS:Bv Tryz.prog 89=[(3,0),(3,1)]:=by kernel_rfl
theorem lv: ∃fs,Tryz.prog.underlying 100=some (.struct fs):=⟨(match Tryz.prog.underlying 100 with|some (.struct fs)=>fs|_=> #[]),by kernel_rfl⟩
theorem zAp:Bv Tryz.prog 100=[(9,0),(3,1)]:=by kernel_rfl
theorem Vr:Tryz.prog.underlying 136=some (.slice 9):=by kernel_rfl
theorem Ur:Tryz.prog.underlying 154=some (.int .u64):=by kernel_rfl
theorem Sr:Tryz.prog.underlying 171=some (.int .u64):=by kernel_rfl
theorem Nr:Tryz.prog.underlying 181=some (.int .u32):=by kernel_rfl
theorem ipRd:IpRd Tryz.prog I (fun t=>t∈gd)where
 int:=fun t k hg hu n h1 h2=>by
  simp only[gd,Yb,Ye,Jh]at hg;rcases hg with rfl|rfl|rfl|rfl|rfl|rfl|rfl|rfl|rfl|rfl|rfl|rfl|rfl|rfl|rfl|rfl|rfl|rfl
  ·rw[Mq]at hu;cases hu;exact⟨(n:Int),rfl⟩
  ·rw[Kq]at hu;cases hu;exact⟨(n:Int),rfl⟩
  ·rw[Fu]at hu;cases hu
  ·rw[Jq]at hu;cases hu;exact⟨UInt8.ofNat n.toNat,zCL h1 h2⟩
  ·rw[Iq]at hu;cases hu
  ·rw[Br]at hu;cases hu;exact⟨(n:Int),rfl⟩
  ·rw[Ar]at hu;cases hu;exact⟨(n:Int),rfl⟩
  ·rw[xq]at hu;cases hu;exact⟨(n:Int),rfl⟩
  ·rw[Vn]at hu;cases hu
  ·obtain⟨fs,e⟩:=uu;rw[e]at hu;cases hu
  ·rw[uq]at hu;cases hu
  ·rw[tq]at hu;cases hu
  ·obtain⟨fs,e⟩:=tu;rw[e]at hu;cases hu
  ·obtain⟨fs,e⟩:=lv;rw[e]at hu;cases hu
  ·rw[Vr]at hu;cases hu
  ·rw[Ur]at hu;cases hu;exact⟨(n:Int),rfl⟩
  ·rw[Sr]at hu;cases hu;exact⟨(n:Int),rfl⟩
  ·rw[Nr]at hu;cases hu;exact⟨(n:Int),rfl⟩
 bool:=fun t hg hu b=>by
  simp only[gd,Yb,Ye,Jh]at hg;rcases hg with rfl|rfl|rfl|rfl|rfl|rfl|rfl|rfl|rfl|rfl|rfl|rfl|rfl|rfl|rfl|rfl|rfl|rfl
  ·rw[Mq]at hu;cases hu
  ·rw[Kq]at hu;cases hu
  ·exact⟨(b:Bool),rfl⟩
  ·rw[Jq]at hu;cases hu
  ·rw[Iq]at hu;cases hu
  ·rw[Br]at hu;cases hu
  ·rw[Ar]at hu;cases hu
  ·rw[xq]at hu;cases hu
  ·rw[Vn]at hu;cases hu
  ·obtain⟨fs,e⟩:=uu;rw[e]at hu;cases hu
  ·rw[uq]at hu;cases hu
  ·rw[tq]at hu;cases hu
  ·obtain⟨fs,e⟩:=tu;rw[e]at hu;cases hu
  ·obtain⟨fs,e⟩:=lv;rw[e]at hu;cases hu
  ·rw[Vr]at hu;cases hu
  ·rw[Ur]at hu;cases hu
  ·rw[Sr]at hu;cases hu
  ·rw[Nr]at hu;cases hu
 str:=fun t hg hu l=>by
  simp only[gd,Yb,Ye,Jh]at hg;rcases hg with rfl|rfl|rfl|rfl|rfl|rfl|rfl|rfl|rfl|rfl|rfl|rfl|rfl|rfl|rfl|rfl|rfl|rfl
  ·rw[Mq]at hu;cases hu
  ·rw[Kq]at hu;cases hu
  ·rw[Fu]at hu;cases hu
  ·rw[Jq]at hu;cases hu
  ·exact⟨(l:Str),rfl⟩
  ·rw[Br]at hu;cases hu
  ·rw[Ar]at hu;cases hu
  ·rw[xq]at hu;cases hu
  ·rw[Vn]at hu;cases hu
  ·obtain⟨fs,e⟩:=uu;rw[e]at hu;cases hu
  ·rw[uq]at hu;cases hu
  ·rw[tq]at hu;cases hu
  ·obtain⟨fs,e⟩:=tu;rw[e]at hu;cases hu
  ·obtain⟨fs,e⟩:=lv;rw[e]at hu;cases hu
  ·rw[Vr]at hu;cases hu
  ·rw[Ur]at hu;cases hu
  ·rw[Sr]at hu;cases hu
  ·rw[Nr]at hu;cases hu
 sl:=fun t e hg hu=>by
  simp only[gd,Yb,Ye,Jh]at hg;rcases hg with rfl|rfl|rfl|rfl|rfl|rfl|rfl|rfl|rfl|rfl|rfl|rfl|rfl|rfl|rfl|rfl|rfl|rfl
  ·rw[Mq]at hu;cases hu
  ·rw[Kq]at hu;cases hu
  ·rw[Fu]at hu;cases hu
  ·rw[Jq]at hu;cases hu
  ·rw[Iq]at hu;cases hu
  ·rw[Br]at hu;cases hu
  ·rw[Ar]at hu;cases hu
  ·rw[xq]at hu;cases hu
  ·rw[Vn]at hu;cases hu;exact⟨by simp[gd],Nat.lt_of_lt_of_eq (by decide:0<5) (by kernel_rfl:5=Tryz.prog.cellsOf 51),fun l=>⟨(l:List zb),rfl⟩⟩
  ·obtain⟨fs,e⟩:=uu;rw[e]at hu;cases hu
  ·rw[uq]at hu;cases hu;exact⟨by simp[gd],Nat.lt_of_lt_of_eq (by decide:0<1) (by kernel_rfl:1=Tryz.prog.cellsOf 5),fun l=>⟨(l:List UInt8),rfl⟩⟩
  ·rw[tq]at hu;cases hu;exact⟨by simp[gd],Nat.lt_of_lt_of_eq (by decide:0<2) (by kernel_rfl:2=Tryz.prog.cellsOf 89),fun l=>⟨(l:List zA),rfl⟩⟩
  ·obtain⟨fs,e⟩:=tu;rw[e]at hu;cases hu
  ·obtain⟨fs,e⟩:=lv;rw[e]at hu;cases hu
  ·rw[Vr]at hu;cases hu;exact⟨by simp[gd],Nat.lt_of_lt_of_eq (by decide:0<1) (by kernel_rfl:1=Tryz.prog.cellsOf 9),fun l=>⟨(l:List Str),rfl⟩⟩
  ·rw[Ur]at hu;cases hu
  ·rw[Sr]at hu;cases hu
  ·rw[Nr]at hu;cases hu
 st:=fun t fs hg hu=>by
  simp only[gd,Yb,Ye,Jh]at hg;rcases hg with rfl|rfl|rfl|rfl|rfl|rfl|rfl|rfl|rfl|rfl|rfl|rfl|rfl|rfl|rfl|rfl|rfl|rfl
  ·rw[Mq]at hu;cases hu
  ·rw[Kq]at hu;cases hu
  ·rw[Fu]at hu;cases hu
  ·rw[Jq]at hu;cases hu
  ·rw[Iq]at hu;cases hu
  ·rw[Br]at hu;cases hu
  ·rw[Ar]at hu;cases hu
  ·rw[xq]at hu;cases hu
  ·rw[Vn]at hu;cases hu
  ·refine LJ hu zBR (by simp[gd]) (by kernel_rfl) (by kernel_rfl) (fun pvs h0=> ?_);obtain⟨_,pvs,rfl,⟨y0,rfl⟩,h1⟩:=il h0;obtain⟨_,pvs,rfl,⟨y1,rfl⟩,h2⟩:=il h1;obtain⟨_,pvs,rfl,⟨y2,rfl⟩,h3⟩:=il h2;obtain⟨_,pvs,rfl,⟨y3,rfl⟩,h4⟩:=il h3;obtain⟨_,pvs,rfl,⟨y4,rfl⟩,h5⟩:=il h4;rw[dG h5];exact⟨(⟨((UInt8.toNat y0:Nat):Int),y1,y2,y3,y4⟩:zb),rfl⟩
  ·rw[uq]at hu;cases hu
  ·rw[tq]at hu;cases hu
  ·refine LJ hu zBS (by simp[gd]) (by kernel_rfl) (by kernel_rfl) (fun pvs h0=> ?_);obtain⟨_,pvs,rfl,⟨y0,rfl⟩,h1⟩:=il h0;obtain⟨_,pvs,rfl,⟨y1,rfl⟩,h2⟩:=il h1;rw[dG h2];exact⟨(⟨y0,y1⟩:zA),rfl⟩
  ·refine LJ hu zAp (by simp[gd]) (by kernel_rfl) (by kernel_rfl) (fun pvs h0=> ?_);obtain⟨_,pvs,rfl,⟨y0,rfl⟩,h1⟩:=il h0;obtain⟨_,pvs,rfl,⟨y1,rfl⟩,h2⟩:=il h1;rw[dG h2];exact⟨(⟨y0,y1⟩:za),rfl⟩
  ·rw[Vr]at hu;cases hu
  ·rw[Ur]at hu;cases hu
  ·rw[Sr]at hu;cases hu
  ·rw[Nr]at hu;cases hu
 only:=fun t u hg hu=>by
  simp only[gd,Yb,Ye,Jh]at hg;rcases hg with rfl|rfl|rfl|rfl|rfl|rfl|rfl|rfl|rfl|rfl|rfl|rfl|rfl|rfl|rfl|rfl|rfl|rfl
  ·rw[Mq]at hu;cases hu;exact .inl ⟨_,rfl⟩
  ·rw[Kq]at hu;cases hu;exact .inl ⟨_,rfl⟩
  ·rw[Fu]at hu;cases hu;exact .inr (.inl rfl)
  ·rw[Jq]at hu;cases hu;exact .inl ⟨_,rfl⟩
  ·rw[Iq]at hu;cases hu;exact .inr (.inr (.inl rfl))
  ·rw[Br]at hu;cases hu;exact .inl ⟨_,rfl⟩
  ·rw[Ar]at hu;cases hu;exact .inl ⟨_,rfl⟩
  ·rw[xq]at hu;cases hu;exact .inl ⟨_,rfl⟩
  ·rw[Vn]at hu;cases hu;exact .inr (.inr (.inr (.inl ⟨_,rfl⟩)))
  ·obtain⟨fs,e⟩:=uu;rw[e]at hu;cases hu;exact .inr (.inr (.inr (.inr ⟨_,rfl⟩)))
  ·rw[uq]at hu;cases hu;exact .inr (.inr (.inr (.inl ⟨_,rfl⟩)))
  ·rw[tq]at hu;cases hu;exact .inr (.inr (.inr (.inl ⟨_,rfl⟩)))
  ·obtain⟨fs,e⟩:=tu;rw[e]at hu;cases hu;exact .inr (.inr (.inr (.inr ⟨_,rfl⟩)))
  ·obtain⟨fs,e⟩:=lv;rw[e]at hu;cases hu;exact .inr (.inr (.inr (.inr ⟨_,rfl⟩)))
  ·rw[Vr]at hu;cases hu;exact .inr (.inr (.inr (.inl ⟨_,rfl⟩)))
  ·rw[Ur]at hu;cases hu;exact .inl ⟨_,rfl⟩
  ·rw[Sr]at hu;cases hu;exact .inl ⟨_,rfl⟩
  ·rw[Nr]at hu;cases hu;exact .inl ⟨_,rfl⟩
end Go.Lv.VT
