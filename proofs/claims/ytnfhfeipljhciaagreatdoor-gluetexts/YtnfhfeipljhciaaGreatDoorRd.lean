/- Which values may come in. -/
import Derived.Test.YtnfhfeipljhciaaGreatDoorIp
import Derived.Test.YtnfhfeipljhciaaGreatDoorLf
set_option linter.unusedSimpArgs false
set_option linter.unusedVariables false
namespace Go.Lv.VT
set_option maxRecDepth 100000
open Go.Proofs
def gd:List Nat:=[2,3,4,5,9,12,21,26,41,51,59,86,89,100,136,154,171,181]
theorem ztR:Tryz.prog.underlying 2=some (.int .i64):=by kernel_rfl
theorem ztS:Tryz.prog.underlying 3=some (.int .i64):=by kernel_rfl
theorem zww:Tryz.prog.underlying 4=some (.bool):=by kernel_rfl
theorem ztT:Tryz.prog.underlying 5=some (.int .u8):=by kernel_rfl
theorem ztU:Tryz.prog.underlying 9=some (.string):=by kernel_rfl
theorem zmw:Tryz.prog.underlying 12=some (.int .u64):=by kernel_rfl
theorem zmx:Tryz.prog.underlying 21=some (.int .i32):=by kernel_rfl
theorem zmy:Tryz.prog.underlying 26=some (.int .i64):=by kernel_rfl
theorem zmz:Tryz.prog.underlying 41=some (.slice 51):=by kernel_rfl
theorem zqd: ∃fs,Tryz.prog.underlying 51=some (.struct fs):=⟨(match Tryz.prog.underlying 51 with|some (.struct fs)=>fs|_=> #[]),by kernel_rfl⟩
theorem zAW:zoQ Tryz.prog 51=[(5,0),(9,1),(2,2),(9,3),(4,4)]:=by kernel_rfl
theorem zmA:Tryz.prog.underlying 59=some (.slice 5):=by kernel_rfl
theorem zmB:Tryz.prog.underlying 86=some (.slice 89):=by kernel_rfl
theorem zqe: ∃fs,Tryz.prog.underlying 89=some (.struct fs):=⟨(match Tryz.prog.underlying 89 with|some (.struct fs)=>fs|_=> #[]),by kernel_rfl⟩
theorem zAX:zoQ Tryz.prog 89=[(3,0),(3,1)]:=by kernel_rfl
theorem zla: ∃fs,Tryz.prog.underlying 100=some (.struct fs):=⟨(match Tryz.prog.underlying 100 with|some (.struct fs)=>fs|_=> #[]),by kernel_rfl⟩
theorem zzy:zoQ Tryz.prog 100=[(9,0),(3,1)]:=by kernel_rfl
theorem zil:Tryz.prog.underlying 136=some (.slice 9):=by kernel_rfl
theorem zim:Tryz.prog.underlying 154=some (.int .u64):=by kernel_rfl
theorem zin:Tryz.prog.underlying 171=some (.int .u64):=by kernel_rfl
theorem zio:Tryz.prog.underlying 181=some (.int .u32):=by kernel_rfl
theorem ipRd:IpRd Tryz.prog I (fun t=>t∈gd)where
 int:=fun t k hg hu n h1 h2=>by
  simp only[gd,List.mem_cons,List.not_mem_nil,or_false]at hg
  rcases hg with rfl|rfl|rfl|rfl|rfl|rfl|rfl|rfl|rfl|rfl|rfl|rfl|rfl|rfl|rfl|rfl|rfl|rfl
  ·rw[ztR]at hu;cases hu;exact⟨(n:Int),rfl⟩
  ·rw[ztS]at hu;cases hu;exact⟨(n:Int),rfl⟩
  ·rw[zww]at hu;cases hu
  ·rw[ztT]at hu;cases hu;exact⟨UInt8.ofNat n.toNat,zBG h1 h2⟩
  ·rw[ztU]at hu;cases hu
  ·rw[zmw]at hu;cases hu;exact⟨(n:Int),rfl⟩
  ·rw[zmx]at hu;cases hu;exact⟨(n:Int),rfl⟩
  ·rw[zmy]at hu;cases hu;exact⟨(n:Int),rfl⟩
  ·rw[zmz]at hu;cases hu
  ·obtain⟨fs,e⟩:=zqd;rw[e]at hu;cases hu
  ·rw[zmA]at hu;cases hu
  ·rw[zmB]at hu;cases hu
  ·obtain⟨fs,e⟩:=zqe;rw[e]at hu;cases hu
  ·obtain⟨fs,e⟩:=zla;rw[e]at hu;cases hu
  ·rw[zil]at hu;cases hu
  ·rw[zim]at hu;cases hu;exact⟨(n:Int),rfl⟩
  ·rw[zin]at hu;cases hu;exact⟨(n:Int),rfl⟩
  ·rw[zio]at hu;cases hu;exact⟨(n:Int),rfl⟩
 bool:=fun t hg hu b=>by
  simp only[gd,List.mem_cons,List.not_mem_nil,or_false]at hg
  rcases hg with rfl|rfl|rfl|rfl|rfl|rfl|rfl|rfl|rfl|rfl|rfl|rfl|rfl|rfl|rfl|rfl|rfl|rfl
  ·rw[ztR]at hu;cases hu
  ·rw[ztS]at hu;cases hu
  ·exact⟨(b:Bool),rfl⟩
  ·rw[ztT]at hu;cases hu
  ·rw[ztU]at hu;cases hu
  ·rw[zmw]at hu;cases hu
  ·rw[zmx]at hu;cases hu
  ·rw[zmy]at hu;cases hu
  ·rw[zmz]at hu;cases hu
  ·obtain⟨fs,e⟩:=zqd;rw[e]at hu;cases hu
  ·rw[zmA]at hu;cases hu
  ·rw[zmB]at hu;cases hu
  ·obtain⟨fs,e⟩:=zqe;rw[e]at hu;cases hu
  ·obtain⟨fs,e⟩:=zla;rw[e]at hu;cases hu
  ·rw[zil]at hu;cases hu
  ·rw[zim]at hu;cases hu
  ·rw[zin]at hu;cases hu
  ·rw[zio]at hu;cases hu
 str:=fun t hg hu l=>by
  simp only[gd,List.mem_cons,List.not_mem_nil,or_false]at hg
  rcases hg with rfl|rfl|rfl|rfl|rfl|rfl|rfl|rfl|rfl|rfl|rfl|rfl|rfl|rfl|rfl|rfl|rfl|rfl
  ·rw[ztR]at hu;cases hu
  ·rw[ztS]at hu;cases hu
  ·rw[zww]at hu;cases hu
  ·rw[ztT]at hu;cases hu
  ·exact⟨(l:Str),rfl⟩
  ·rw[zmw]at hu;cases hu
  ·rw[zmx]at hu;cases hu
  ·rw[zmy]at hu;cases hu
  ·rw[zmz]at hu;cases hu
  ·obtain⟨fs,e⟩:=zqd;rw[e]at hu;cases hu
  ·rw[zmA]at hu;cases hu
  ·rw[zmB]at hu;cases hu
  ·obtain⟨fs,e⟩:=zqe;rw[e]at hu;cases hu
  ·obtain⟨fs,e⟩:=zla;rw[e]at hu;cases hu
  ·rw[zil]at hu;cases hu
  ·rw[zim]at hu;cases hu
  ·rw[zin]at hu;cases hu
  ·rw[zio]at hu;cases hu
 sl:=fun t e hg hu=>by
  simp only[gd,List.mem_cons,List.not_mem_nil,or_false]at hg
  rcases hg with rfl|rfl|rfl|rfl|rfl|rfl|rfl|rfl|rfl|rfl|rfl|rfl|rfl|rfl|rfl|rfl|rfl|rfl
  ·rw[ztR]at hu;cases hu
  ·rw[ztS]at hu;cases hu
  ·rw[zww]at hu;cases hu
  ·rw[ztT]at hu;cases hu
  ·rw[ztU]at hu;cases hu
  ·rw[zmw]at hu;cases hu
  ·rw[zmx]at hu;cases hu
  ·rw[zmy]at hu;cases hu
  ·rw[zmz]at hu;cases hu;exact⟨by simp[gd],Nat.lt_of_lt_of_eq (by decide:0<5) (by kernel_rfl:5=Tryz.prog.cellsOf 51),fun l=>⟨(l:List zb),rfl⟩⟩
  ·obtain⟨fs,e⟩:=zqd;rw[e]at hu;cases hu
  ·rw[zmA]at hu;cases hu;exact⟨by simp[gd],Nat.lt_of_lt_of_eq (by decide:0<1) (by kernel_rfl:1=Tryz.prog.cellsOf 5),fun l=>⟨(l:List UInt8),rfl⟩⟩
  ·rw[zmB]at hu;cases hu;exact⟨by simp[gd],Nat.lt_of_lt_of_eq (by decide:0<2) (by kernel_rfl:2=Tryz.prog.cellsOf 89),fun l=>⟨(l:List zx),rfl⟩⟩
  ·obtain⟨fs,e⟩:=zqe;rw[e]at hu;cases hu
  ·obtain⟨fs,e⟩:=zla;rw[e]at hu;cases hu
  ·rw[zil]at hu;cases hu;exact⟨by simp[gd],Nat.lt_of_lt_of_eq (by decide:0<1) (by kernel_rfl:1=Tryz.prog.cellsOf 9),fun l=>⟨(l:List Str),rfl⟩⟩
  ·rw[zim]at hu;cases hu
  ·rw[zin]at hu;cases hu
  ·rw[zio]at hu;cases hu
 st:=fun t fs hg hu=>by
  simp only[gd,List.mem_cons,List.not_mem_nil,or_false]at hg
  rcases hg with rfl|rfl|rfl|rfl|rfl|rfl|rfl|rfl|rfl|rfl|rfl|rfl|rfl|rfl|rfl|rfl|rfl|rfl
  ·rw[ztR]at hu;cases hu
  ·rw[ztS]at hu;cases hu
  ·rw[zww]at hu;cases hu
  ·rw[ztT]at hu;cases hu
  ·rw[ztU]at hu;cases hu
  ·rw[zmw]at hu;cases hu
  ·rw[zmx]at hu;cases hu
  ·rw[zmy]at hu;cases hu
  ·rw[zmz]at hu;cases hu
  ·refine zAn hu zAW (by simp[gd]) (by kernel_rfl) (by kernel_rfl) (fun pvs h0=> ?_)
   obtain⟨_,pvs,rfl,⟨y0,rfl⟩,h1⟩:=zaI h0
   obtain⟨_,pvs,rfl,⟨y1,rfl⟩,h2⟩:=zaI h1
   obtain⟨_,pvs,rfl,⟨y2,rfl⟩,h3⟩:=zaI h2
   obtain⟨_,pvs,rfl,⟨y3,rfl⟩,h4⟩:=zaI h3
   obtain⟨_,pvs,rfl,⟨y4,rfl⟩,h5⟩:=zaI h4
   rw[zmG h5]
   exact⟨(⟨((UInt8.toNat y0:Nat):Int),y1,y2,y3,y4⟩:zb),rfl⟩
  ·rw[zmA]at hu;cases hu
  ·rw[zmB]at hu;cases hu
  ·refine zAn hu zAX (by simp[gd]) (by kernel_rfl) (by kernel_rfl) (fun pvs h0=> ?_)
   obtain⟨_,pvs,rfl,⟨y0,rfl⟩,h1⟩:=zaI h0
   obtain⟨_,pvs,rfl,⟨y1,rfl⟩,h2⟩:=zaI h1
   rw[zmG h2]
   exact⟨(⟨y0,y1⟩:zx),rfl⟩
  ·refine zAn hu zzy (by simp[gd]) (by kernel_rfl) (by kernel_rfl) (fun pvs h0=> ?_)
   obtain⟨_,pvs,rfl,⟨y0,rfl⟩,h1⟩:=zaI h0
   obtain⟨_,pvs,rfl,⟨y1,rfl⟩,h2⟩:=zaI h1
   rw[zmG h2]
   exact⟨(⟨y0,y1⟩:za),rfl⟩
  ·rw[zil]at hu;cases hu
  ·rw[zim]at hu;cases hu
  ·rw[zin]at hu;cases hu
  ·rw[zio]at hu;cases hu
 only:=fun t u hg hu=>by
  simp only[gd,List.mem_cons,List.not_mem_nil,or_false]at hg
  rcases hg with rfl|rfl|rfl|rfl|rfl|rfl|rfl|rfl|rfl|rfl|rfl|rfl|rfl|rfl|rfl|rfl|rfl|rfl
  ·rw[ztR]at hu;cases hu;exact .inl ⟨_,rfl⟩
  ·rw[ztS]at hu;cases hu;exact .inl ⟨_,rfl⟩
  ·rw[zww]at hu;cases hu;exact .inr (.inl rfl)
  ·rw[ztT]at hu;cases hu;exact .inl ⟨_,rfl⟩
  ·rw[ztU]at hu;cases hu;exact .inr (.inr (.inl rfl))
  ·rw[zmw]at hu;cases hu;exact .inl ⟨_,rfl⟩
  ·rw[zmx]at hu;cases hu;exact .inl ⟨_,rfl⟩
  ·rw[zmy]at hu;cases hu;exact .inl ⟨_,rfl⟩
  ·rw[zmz]at hu;cases hu;exact .inr (.inr (.inr (.inl ⟨_,rfl⟩)))
  ·obtain⟨fs,e⟩:=zqd;rw[e]at hu;cases hu;exact .inr (.inr (.inr (.inr ⟨_,rfl⟩)))
  ·rw[zmA]at hu;cases hu;exact .inr (.inr (.inr (.inl ⟨_,rfl⟩)))
  ·rw[zmB]at hu;cases hu;exact .inr (.inr (.inr (.inl ⟨_,rfl⟩)))
  ·obtain⟨fs,e⟩:=zqe;rw[e]at hu;cases hu;exact .inr (.inr (.inr (.inr ⟨_,rfl⟩)))
  ·obtain⟨fs,e⟩:=zla;rw[e]at hu;cases hu;exact .inr (.inr (.inr (.inr ⟨_,rfl⟩)))
  ·rw[zil]at hu;cases hu;exact .inr (.inr (.inr (.inl ⟨_,rfl⟩)))
  ·rw[zim]at hu;cases hu;exact .inl ⟨_,rfl⟩
  ·rw[zin]at hu;cases hu;exact .inl ⟨_,rfl⟩
  ·rw[zio]at hu;cases hu;exact .inl ⟨_,rfl⟩
end Go.Lv.VT
