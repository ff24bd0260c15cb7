/- Which values may come in. -/
import Derived.Test.YtcdeccnjlkkejaaGreatDoorIp
import Derived.Test.YtcdeccnjlkkejaaGreatDoorLf
set_option linter.unusedSimpArgs false
set_option linter.unusedVariables false
namespace Go.Lv.VT
set_option maxRecDepth 100000
open Go.Proofs
def gd:List Nat:=[2,3,4,5,9,21,22,23,25,42,44,49,52,66,71,101,133,185,217]
theorem zvQ:Tryz.prog.underlying 2=some (.int .i64):=by kernel_rfl
theorem zvR:Tryz.prog.underlying 3=some (.int .i64):=by kernel_rfl
theorem zyk:Tryz.prog.underlying 4=some (.bool):=by kernel_rfl
theorem zvS:Tryz.prog.underlying 5=some (.int .u8):=by kernel_rfl
theorem zvT:Tryz.prog.underlying 9=some (.string):=by kernel_rfl
theorem zoI:Tryz.prog.underlying 21=some (.int .i32):=by kernel_rfl
theorem zoJ:Tryz.prog.underlying 22=some (.slice 44):=by kernel_rfl
theorem znd:Tryz.prog.underlying 23=some (.slice 49):=by kernel_rfl
theorem zoK:Tryz.prog.underlying 25=some (.int .i64):=by kernel_rfl
theorem zoL:Tryz.prog.underlying 42=some (.slice 5):=by kernel_rfl
theorem zss: ∃fs,Tryz.prog.underlying 44=some (.struct fs):=⟨(match Tryz.prog.underlying 44 with|some (.struct fs)=>fs|_=> #[]),by kernel_rfl⟩
theorem zB0:zlD Tryz.prog 44=[(5,0),(9,1),(2,2),(9,3),(4,4)]:=by kernel_rfl
theorem zst: ∃fs,Tryz.prog.underlying 49=some (.struct fs):=⟨(match Tryz.prog.underlying 49 with|some (.struct fs)=>fs|_=> #[]),by kernel_rfl⟩
theorem zB1:zlD Tryz.prog 49=[(44,0),(23,5)]:=by kernel_rfl
theorem zoM:Tryz.prog.underlying 52=some (.slice 23):=by kernel_rfl
theorem zsu: ∃fs,Tryz.prog.underlying 66=some (.struct fs):=⟨(match Tryz.prog.underlying 66 with|some (.struct fs)=>fs|_=> #[]),by kernel_rfl⟩
theorem zB2:zlD Tryz.prog 66=[(9,0),(23,1),(4,2)]:=by kernel_rfl
theorem zoN:Tryz.prog.underlying 71=some (.slice 66):=by kernel_rfl
theorem znb: ∃fs,Tryz.prog.underlying 101=some (.struct fs):=⟨(match Tryz.prog.underlying 101 with|some (.struct fs)=>fs|_=> #[]),by kernel_rfl⟩
theorem zAX:zlD Tryz.prog 101=[(3,0),(3,1),(4,2)]:=by kernel_rfl
theorem znc: ∃fs,Tryz.prog.underlying 133=some (.struct fs):=⟨(match Tryz.prog.underlying 133 with|some (.struct fs)=>fs|_=> #[]),by kernel_rfl⟩
theorem zAY:zlD Tryz.prog 133=[(9,0),(3,1)]:=by kernel_rfl
theorem zjx:Tryz.prog.underlying 185=some (.int .u32):=by kernel_rfl
theorem zjy:Tryz.prog.underlying 217=some (.int .u64):=by kernel_rfl
theorem ipRd:IpRd Tryz.prog I (fun t=>t∈gd)where
 int:=fun t k hg hu n h1 h2=>by
  simp only[gd,List.mem_cons,List.not_mem_nil,or_false]at hg
  rcases hg with rfl|rfl|rfl|rfl|rfl|rfl|rfl|rfl|rfl|rfl|rfl|rfl|rfl|rfl|rfl|rfl|rfl|rfl|rfl
  ·rw[zvQ]at hu;cases hu;exact⟨(n:Int),rfl⟩
  ·rw[zvR]at hu;cases hu;exact⟨(n:Int),rfl⟩
  ·rw[zyk]at hu;cases hu
  ·rw[zvS]at hu;cases hu;exact⟨UInt8.ofNat n.toNat,zCN h1 h2⟩
  ·rw[zvT]at hu;cases hu
  ·rw[zoI]at hu;cases hu;exact⟨(n:Int),rfl⟩
  ·rw[zoJ]at hu;cases hu
  ·rw[znd]at hu;cases hu
  ·rw[zoK]at hu;cases hu;exact⟨(n:Int),rfl⟩
  ·rw[zoL]at hu;cases hu
  ·obtain⟨fs,e⟩:=zss;rw[e]at hu;cases hu
  ·obtain⟨fs,e⟩:=zst;rw[e]at hu;cases hu
  ·rw[zoM]at hu;cases hu
  ·obtain⟨fs,e⟩:=zsu;rw[e]at hu;cases hu
  ·rw[zoN]at hu;cases hu
  ·obtain⟨fs,e⟩:=znb;rw[e]at hu;cases hu
  ·obtain⟨fs,e⟩:=znc;rw[e]at hu;cases hu
  ·rw[zjx]at hu;cases hu;exact⟨(n:Int),rfl⟩
  ·rw[zjy]at hu;cases hu;exact⟨(n:Int),rfl⟩
 bool:=fun t hg hu b=>by
  simp only[gd,List.mem_cons,List.not_mem_nil,or_false]at hg
  rcases hg with rfl|rfl|rfl|rfl|rfl|rfl|rfl|rfl|rfl|rfl|rfl|rfl|rfl|rfl|rfl|rfl|rfl|rfl|rfl
  ·rw[zvQ]at hu;cases hu
  ·rw[zvR]at hu;cases hu
  ·exact⟨(b:Bool),rfl⟩
  ·rw[zvS]at hu;cases hu
  ·rw[zvT]at hu;cases hu
  ·rw[zoI]at hu;cases hu
  ·rw[zoJ]at hu;cases hu
  ·rw[znd]at hu;cases hu
  ·rw[zoK]at hu;cases hu
  ·rw[zoL]at hu;cases hu
  ·obtain⟨fs,e⟩:=zss;rw[e]at hu;cases hu
  ·obtain⟨fs,e⟩:=zst;rw[e]at hu;cases hu
  ·rw[zoM]at hu;cases hu
  ·obtain⟨fs,e⟩:=zsu;rw[e]at hu;cases hu
  ·rw[zoN]at hu;cases hu
  ·obtain⟨fs,e⟩:=znb;rw[e]at hu;cases hu
  ·obtain⟨fs,e⟩:=znc;rw[e]at hu;cases hu
  ·rw[zjx]at hu;cases hu
  ·rw[zjy]at hu;cases hu
 str:=fun t hg hu l=>by
  simp only[gd,List.mem_cons,List.not_mem_nil,or_false]at hg
  rcases hg with rfl|rfl|rfl|rfl|rfl|rfl|rfl|rfl|rfl|rfl|rfl|rfl|rfl|rfl|rfl|rfl|rfl|rfl|rfl
  ·rw[zvQ]at hu;cases hu
  ·rw[zvR]at hu;cases hu
  ·rw[zyk]at hu;cases hu
  ·rw[zvS]at hu;cases hu
  ·exact⟨(l:Str),rfl⟩
  ·rw[zoI]at hu;cases hu
  ·rw[zoJ]at hu;cases hu
  ·rw[znd]at hu;cases hu
  ·rw[zoK]at hu;cases hu
  ·rw[zoL]at hu;cases hu
  ·obtain⟨fs,e⟩:=zss;rw[e]at hu;cases hu
  ·obtain⟨fs,e⟩:=zst;rw[e]at hu;cases hu
  ·rw[zoM]at hu;cases hu
  ·obtain⟨fs,e⟩:=zsu;rw[e]at hu;cases hu
  ·rw[zoN]at hu;cases hu
  ·obtain⟨fs,e⟩:=znb;rw[e]at hu;cases hu
  ·obtain⟨fs,e⟩:=znc;rw[e]at hu;cases hu
  ·rw[zjx]at hu;cases hu
  ·rw[zjy]at hu;cases hu
 sl:=fun t e hg hu=>by
  simp only[gd,List.mem_cons,List.not_mem_nil,or_false]at hg
  rcases hg with rfl|rfl|rfl|rfl|rfl|rfl|rfl|rfl|rfl|rfl|rfl|rfl|rfl|rfl|rfl|rfl|rfl|rfl|rfl
  ·rw[zvQ]at hu;cases hu
  ·rw[zvR]at hu;cases hu
  ·rw[zyk]at hu;cases hu
  ·rw[zvS]at hu;cases hu
  ·rw[zvT]at hu;cases hu
  ·rw[zoI]at hu;cases hu
  ·rw[zoJ]at hu;cases hu;exact⟨by simp[gd],Nat.lt_of_lt_of_eq (by decide:0<5) (by kernel_rfl:5=Tryz.prog.cellsOf 44),fun l=>⟨(l:List zf),rfl⟩⟩
  ·rw[znd]at hu;cases hu;exact⟨by simp[gd],Nat.lt_of_lt_of_eq (by decide:0<6) (by kernel_rfl:6=Tryz.prog.cellsOf 49),fun l=>⟨(l:List zb),rfl⟩⟩
  ·rw[zoK]at hu;cases hu
  ·rw[zoL]at hu;cases hu;exact⟨by simp[gd],Nat.lt_of_lt_of_eq (by decide:0<1) (by kernel_rfl:1=Tryz.prog.cellsOf 5),fun l=>⟨(l:List UInt8),rfl⟩⟩
  ·obtain⟨fs,e⟩:=zss;rw[e]at hu;cases hu
  ·obtain⟨fs,e⟩:=zst;rw[e]at hu;cases hu
  ·rw[zoM]at hu;cases hu;exact⟨by simp[gd],Nat.lt_of_lt_of_eq (by decide:0<1) (by kernel_rfl:1=Tryz.prog.cellsOf 23),fun l=>⟨(l:List (List zb)),rfl⟩⟩
  ·obtain⟨fs,e⟩:=zsu;rw[e]at hu;cases hu
  ·rw[zoN]at hu;cases hu;exact⟨by simp[gd],Nat.lt_of_lt_of_eq (by decide:0<3) (by kernel_rfl:3=Tryz.prog.cellsOf 66),fun l=>⟨(l:List Za),rfl⟩⟩
  ·obtain⟨fs,e⟩:=znb;rw[e]at hu;cases hu
  ·obtain⟨fs,e⟩:=znc;rw[e]at hu;cases hu
  ·rw[zjx]at hu;cases hu
  ·rw[zjy]at hu;cases hu
 st:=fun t fs hg hu=>by
  simp only[gd,List.mem_cons,List.not_mem_nil,or_false]at hg
  rcases hg with rfl|rfl|rfl|rfl|rfl|rfl|rfl|rfl|rfl|rfl|rfl|rfl|rfl|rfl|rfl|rfl|rfl|rfl|rfl
  ·rw[zvQ]at hu;cases hu
  ·rw[zvR]at hu;cases hu
  ·rw[zyk]at hu;cases hu
  ·rw[zvS]at hu;cases hu
  ·rw[zvT]at hu;cases hu
  ·rw[zoI]at hu;cases hu
  ·rw[zoJ]at hu;cases hu
  ·rw[znd]at hu;cases hu
  ·rw[zoK]at hu;cases hu
  ·rw[zoL]at hu;cases hu
  ·refine zya hu zB0 (by simp[gd]) (by kernel_rfl) (by kernel_rfl) (fun pvs h0=> ?_)
   obtain⟨_,pvs,rfl,⟨y0,rfl⟩,h1⟩:=qL h0
   obtain⟨_,pvs,rfl,⟨y1,rfl⟩,h2⟩:=qL h1
   obtain⟨_,pvs,rfl,⟨y2,rfl⟩,h3⟩:=qL h2
   obtain⟨_,pvs,rfl,⟨y3,rfl⟩,h4⟩:=qL h3
   obtain⟨_,pvs,rfl,⟨y4,rfl⟩,h5⟩:=qL h4
   rw[zhH h5]
   exact⟨(⟨((UInt8.toNat y0:Nat):Int),y1,y2,y3,y4⟩:zf),rfl⟩
  ·refine zya hu zB1 (by simp[gd]) (by kernel_rfl) (by kernel_rfl) (fun pvs h0=> ?_)
   obtain⟨_,pvs,rfl,⟨y0,rfl⟩,h1⟩:=qL h0
   obtain⟨_,pvs,rfl,⟨y1,rfl⟩,h2⟩:=qL h1
   rw[zhH h2]
   exact⟨(⟨y0,y1⟩:zb),(zeY y0 y1).trans rfl⟩
  ·rw[zoM]at hu;cases hu
  ·refine zya hu zB2 (by simp[gd]) (by kernel_rfl) (by kernel_rfl) (fun pvs h0=> ?_)
   obtain⟨_,pvs,rfl,⟨y0,rfl⟩,h1⟩:=qL h0
   obtain⟨_,pvs,rfl,⟨y1,rfl⟩,h2⟩:=qL h1
   obtain⟨_,pvs,rfl,⟨y2,rfl⟩,h3⟩:=qL h2
   rw[zhH h3]
   exact⟨(⟨y0,y1,y2⟩:Za),rfl⟩
  ·rw[zoN]at hu;cases hu
  ·refine zya hu zAX (by simp[gd]) (by kernel_rfl) (by kernel_rfl) (fun pvs h0=> ?_)
   obtain⟨_,pvs,rfl,⟨y0,rfl⟩,h1⟩:=qL h0
   obtain⟨_,pvs,rfl,⟨y1,rfl⟩,h2⟩:=qL h1
   obtain⟨_,pvs,rfl,⟨y2,rfl⟩,h3⟩:=qL h2
   rw[zhH h3]
   exact⟨(⟨y0,y1,y2⟩:zK),rfl⟩
  ·refine zya hu zAY (by simp[gd]) (by kernel_rfl) (by kernel_rfl) (fun pvs h0=> ?_)
   obtain⟨_,pvs,rfl,⟨y0,rfl⟩,h1⟩:=qL h0
   obtain⟨_,pvs,rfl,⟨y1,rfl⟩,h2⟩:=qL h1
   rw[zhH h2]
   exact⟨(⟨y0,y1⟩:za),rfl⟩
  ·rw[zjx]at hu;cases hu
  ·rw[zjy]at hu;cases hu
 only:=fun t u hg hu=>by
  simp only[gd,List.mem_cons,List.not_mem_nil,or_false]at hg
  rcases hg with rfl|rfl|rfl|rfl|rfl|rfl|rfl|rfl|rfl|rfl|rfl|rfl|rfl|rfl|rfl|rfl|rfl|rfl|rfl
  ·rw[zvQ]at hu;cases hu;exact .inl ⟨_,rfl⟩
  ·rw[zvR]at hu;cases hu;exact .inl ⟨_,rfl⟩
  ·rw[zyk]at hu;cases hu;exact .inr (.inl rfl)
  ·rw[zvS]at hu;cases hu;exact .inl ⟨_,rfl⟩
  ·rw[zvT]at hu;cases hu;exact .inr (.inr (.inl rfl))
  ·rw[zoI]at hu;cases hu;exact .inl ⟨_,rfl⟩
  ·rw[zoJ]at hu;cases hu;exact .inr (.inr (.inr (.inl ⟨_,rfl⟩)))
  ·rw[znd]at hu;cases hu;exact .inr (.inr (.inr (.inl ⟨_,rfl⟩)))
  ·rw[zoK]at hu;cases hu;exact .inl ⟨_,rfl⟩
  ·rw[zoL]at hu;cases hu;exact .inr (.inr (.inr (.inl ⟨_,rfl⟩)))
  ·obtain⟨fs,e⟩:=zss;rw[e]at hu;cases hu;exact .inr (.inr (.inr (.inr ⟨_,rfl⟩)))
  ·obtain⟨fs,e⟩:=zst;rw[e]at hu;cases hu;exact .inr (.inr (.inr (.inr ⟨_,rfl⟩)))
  ·rw[zoM]at hu;cases hu;exact .inr (.inr (.inr (.inl ⟨_,rfl⟩)))
  ·obtain⟨fs,e⟩:=zsu;rw[e]at hu;cases hu;exact .inr (.inr (.inr (.inr ⟨_,rfl⟩)))
  ·rw[zoN]at hu;cases hu;exact .inr (.inr (.inr (.inl ⟨_,rfl⟩)))
  ·obtain⟨fs,e⟩:=znb;rw[e]at hu;cases hu;exact .inr (.inr (.inr (.inr ⟨_,rfl⟩)))
  ·obtain⟨fs,e⟩:=znc;rw[e]at hu;cases hu;exact .inr (.inr (.inr (.inr ⟨_,rfl⟩)))
  ·rw[zjx]at hu;cases hu;exact .inl ⟨_,rfl⟩
  ·rw[zjy]at hu;cases hu;exact .inl ⟨_,rfl⟩
end Go.Lv.VT
