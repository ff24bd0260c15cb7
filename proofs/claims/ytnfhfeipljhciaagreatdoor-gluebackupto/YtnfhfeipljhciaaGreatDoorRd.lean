/- Which values may come in. -/
import Derived.Test.YtnfhfeipljhciaaGreatDoorIp
import Derived.Test.YtnfhfeipljhciaaGreatDoorLf
set_option linter.unusedSimpArgs false
set_option linter.unusedVariables false
namespace Go.Lv.VT
set_option maxRecDepth 100000
open Go.Proofs
def gd:List Nat:=[2,3,4,5,9,12,21,26,41,51,59,86,89,100,136,154,171,181]
theorem ztH:Tryz.prog.underlying 2=some (.int .i64):=by kernel_rfl
theorem ztI:Tryz.prog.underlying 3=some (.int .i64):=by kernel_rfl
theorem zwo:Tryz.prog.underlying 4=some (.bool):=by kernel_rfl
theorem ztJ:Tryz.prog.underlying 5=some (.int .u8):=by kernel_rfl
theorem zwp:Tryz.prog.underlying 9=some (.string):=by kernel_rfl
theorem zmp:Tryz.prog.underlying 12=some (.int .u64):=by kernel_rfl
theorem zmq:Tryz.prog.underlying 21=some (.int .i32):=by kernel_rfl
theorem zmr:Tryz.prog.underlying 26=some (.int .i64):=by kernel_rfl
theorem zk2:Tryz.prog.underlying 41=some (.slice 51):=by kernel_rfl
theorem zp5: ∃fs,Tryz.prog.underlying 51=some (.struct fs):=⟨(match Tryz.prog.underlying 51 with|some (.struct fs)=>fs|_=> #[]),by kernel_rfl⟩
theorem zAO:zoJ Tryz.prog 51=[(5,0),(9,1),(2,2),(9,3),(4,4)]:=by kernel_rfl
theorem zms:Tryz.prog.underlying 59=some (.slice 5):=by kernel_rfl
theorem zmt:Tryz.prog.underlying 86=some (.slice 89):=by kernel_rfl
theorem zp6: ∃fs,Tryz.prog.underlying 89=some (.struct fs):=⟨(match Tryz.prog.underlying 89 with|some (.struct fs)=>fs|_=> #[]),by kernel_rfl⟩
theorem zAP:zoJ Tryz.prog 89=[(3,0),(3,1)]:=by kernel_rfl
theorem zk1: ∃fs,Tryz.prog.underlying 100=some (.struct fs):=⟨(match Tryz.prog.underlying 100 with|some (.struct fs)=>fs|_=> #[]),by kernel_rfl⟩
theorem zzn:zoJ Tryz.prog 100=[(9,0),(3,1)]:=by kernel_rfl
theorem zif:Tryz.prog.underlying 136=some (.slice 9):=by kernel_rfl
theorem zih:Tryz.prog.underlying 154=some (.int .u64):=by kernel_rfl
theorem zii:Tryz.prog.underlying 171=some (.int .u64):=by kernel_rfl
theorem zij:Tryz.prog.underlying 181=some (.int .u32):=by kernel_rfl
theorem ipRd:IpRd Tryz.prog I (fun t=>t∈gd)where
 int:=fun t k hg hu n h1 h2=>by
  simp only[gd,List.mem_cons,List.not_mem_nil,or_false]at hg
  rcases hg with rfl|rfl|rfl|rfl|rfl|rfl|rfl|rfl|rfl|rfl|rfl|rfl|rfl|rfl|rfl|rfl|rfl|rfl
  ·rw[ztH]at hu;cases hu;exact⟨(n:Int),rfl⟩
  ·rw[ztI]at hu;cases hu;exact⟨(n:Int),rfl⟩
  ·rw[zwo]at hu;cases hu
  ·rw[ztJ]at hu;cases hu;exact⟨UInt8.ofNat n.toNat,zBB h1 h2⟩
  ·rw[zwp]at hu;cases hu
  ·rw[zmp]at hu;cases hu;exact⟨(n:Int),rfl⟩
  ·rw[zmq]at hu;cases hu;exact⟨(n:Int),rfl⟩
  ·rw[zmr]at hu;cases hu;exact⟨(n:Int),rfl⟩
  ·rw[zk2]at hu;cases hu
  ·obtain⟨fs,e⟩:=zp5;rw[e]at hu;cases hu
  ·rw[zms]at hu;cases hu
  ·rw[zmt]at hu;cases hu
  ·obtain⟨fs,e⟩:=zp6;rw[e]at hu;cases hu
  ·obtain⟨fs,e⟩:=zk1;rw[e]at hu;cases hu
  ·rw[zif]at hu;cases hu
  ·rw[zih]at hu;cases hu;exact⟨(n:Int),rfl⟩
  ·rw[zii]at hu;cases hu;exact⟨(n:Int),rfl⟩
  ·rw[zij]at hu;cases hu;exact⟨(n:Int),rfl⟩
 bool:=fun t hg hu b=>by
  simp only[gd,List.mem_cons,List.not_mem_nil,or_false]at hg
  rcases hg with rfl|rfl|rfl|rfl|rfl|rfl|rfl|rfl|rfl|rfl|rfl|rfl|rfl|rfl|rfl|rfl|rfl|rfl
  ·rw[ztH]at hu;cases hu
  ·rw[ztI]at hu;cases hu
  ·exact⟨(b:Bool),rfl⟩
  ·rw[ztJ]at hu;cases hu
  ·rw[zwp]at hu;cases hu
  ·rw[zmp]at hu;cases hu
  ·rw[zmq]at hu;cases hu
  ·rw[zmr]at hu;cases hu
  ·rw[zk2]at hu;cases hu
  ·obtain⟨fs,e⟩:=zp5;rw[e]at hu;cases hu
  ·rw[zms]at hu;cases hu
  ·rw[zmt]at hu;cases hu
  ·obtain⟨fs,e⟩:=zp6;rw[e]at hu;cases hu
  ·obtain⟨fs,e⟩:=zk1;rw[e]at hu;cases hu
  ·rw[zif]at hu;cases hu
  ·rw[zih]at hu;cases hu
  ·rw[zii]at hu;cases hu
  ·rw[zij]at hu;cases hu
 str:=fun t hg hu l=>by
  simp only[gd,List.mem_cons,List.not_mem_nil,or_false]at hg
  rcases hg with rfl|rfl|rfl|rfl|rfl|rfl|rfl|rfl|rfl|rfl|rfl|rfl|rfl|rfl|rfl|rfl|rfl|rfl
  ·rw[ztH]at hu;cases hu
  ·rw[ztI]at hu;cases hu
  ·rw[zwo]at hu;cases hu
  ·rw[ztJ]at hu;cases hu
  ·exact⟨(l:Str),rfl⟩
  ·rw[zmp]at hu;cases hu
  ·rw[zmq]at hu;cases hu
  ·rw[zmr]at hu;cases hu
  ·rw[zk2]at hu;cases hu
  ·obtain⟨fs,e⟩:=zp5;rw[e]at hu;cases hu
  ·rw[zms]at hu;cases hu
  ·rw[zmt]at hu;cases hu
  ·obtain⟨fs,e⟩:=zp6;rw[e]at hu;cases hu
  ·obtain⟨fs,e⟩:=zk1;rw[e]at hu;cases hu
  ·rw[zif]at hu;cases hu
  ·rw[zih]at hu;cases hu
  ·rw[zii]at hu;cases hu
  ·rw[zij]at hu;cases hu
 sl:=fun t e hg hu=>by
  simp only[gd,List.mem_cons,List.not_mem_nil,or_false]at hg
  rcases hg with rfl|rfl|rfl|rfl|rfl|rfl|rfl|rfl|rfl|rfl|rfl|rfl|rfl|rfl|rfl|rfl|rfl|rfl
  ·rw[ztH]at hu;cases hu
  ·rw[ztI]at hu;cases hu
  ·rw[zwo]at hu;cases hu
  ·rw[ztJ]at hu;cases hu
  ·rw[zwp]at hu;cases hu
  ·rw[zmp]at hu;cases hu
  ·rw[zmq]at hu;cases hu
  ·rw[zmr]at hu;cases hu
  ·rw[zk2]at hu;cases hu;exact⟨by simp[gd],Nat.lt_of_lt_of_eq (by decide:0<5) (by kernel_rfl:5=Tryz.prog.cellsOf 51),fun l=>⟨(l:List zb),rfl⟩⟩
  ·obtain⟨fs,e⟩:=zp5;rw[e]at hu;cases hu
  ·rw[zms]at hu;cases hu;exact⟨by simp[gd],Nat.lt_of_lt_of_eq (by decide:0<1) (by kernel_rfl:1=Tryz.prog.cellsOf 5),fun l=>⟨(l:List UInt8),rfl⟩⟩
  ·rw[zmt]at hu;cases hu;exact⟨by simp[gd],Nat.lt_of_lt_of_eq (by decide:0<2) (by kernel_rfl:2=Tryz.prog.cellsOf 89),fun l=>⟨(l:List zx),rfl⟩⟩
  ·obtain⟨fs,e⟩:=zp6;rw[e]at hu;cases hu
  ·obtain⟨fs,e⟩:=zk1;rw[e]at hu;cases hu
  ·rw[zif]at hu;cases hu;exact⟨by simp[gd],Nat.lt_of_lt_of_eq (by decide:0<1) (by kernel_rfl:1=Tryz.prog.cellsOf 9),fun l=>⟨(l:List Str),rfl⟩⟩
  ·rw[zih]at hu;cases hu
  ·rw[zii]at hu;cases hu
  ·rw[zij]at hu;cases hu
 st:=fun t fs hg hu=>by
  simp only[gd,List.mem_cons,List.not_mem_nil,or_false]at hg
  rcases hg with rfl|rfl|rfl|rfl|rfl|rfl|rfl|rfl|rfl|rfl|rfl|rfl|rfl|rfl|rfl|rfl|rfl|rfl
  ·rw[ztH]at hu;cases hu
  ·rw[ztI]at hu;cases hu
  ·rw[zwo]at hu;cases hu
  ·rw[ztJ]at hu;cases hu
  ·rw[zwp]at hu;cases hu
  ·rw[zmp]at hu;cases hu
  ·rw[zmq]at hu;cases hu
  ·rw[zmr]at hu;cases hu
  ·rw[zk2]at hu;cases hu
  ·refine zAc hu zAO (by simp[gd]) (by kernel_rfl) (by kernel_rfl) (fun pvs h0=> ?_)
   obtain⟨_,pvs,rfl,⟨y0,rfl⟩,h1⟩:=zaH h0
   obtain⟨_,pvs,rfl,⟨y1,rfl⟩,h2⟩:=zaH h1
   obtain⟨_,pvs,rfl,⟨y2,rfl⟩,h3⟩:=zaH h2
   obtain⟨_,pvs,rfl,⟨y3,rfl⟩,h4⟩:=zaH h3
   obtain⟨_,pvs,rfl,⟨y4,rfl⟩,h5⟩:=zaH h4
   rw[zmx h5]
   exact⟨(⟨((UInt8.toNat y0:Nat):Int),y1,y2,y3,y4⟩:zb),rfl⟩
  ·rw[zms]at hu;cases hu
  ·rw[zmt]at hu;cases hu
  ·refine zAc hu zAP (by simp[gd]) (by kernel_rfl) (by kernel_rfl) (fun pvs h0=> ?_)
   obtain⟨_,pvs,rfl,⟨y0,rfl⟩,h1⟩:=zaH h0
   obtain⟨_,pvs,rfl,⟨y1,rfl⟩,h2⟩:=zaH h1
   rw[zmx h2]
   exact⟨(⟨y0,y1⟩:zx),rfl⟩
  ·refine zAc hu zzn (by simp[gd]) (by kernel_rfl) (by kernel_rfl) (fun pvs h0=> ?_)
   obtain⟨_,pvs,rfl,⟨y0,rfl⟩,h1⟩:=zaH h0
   obtain⟨_,pvs,rfl,⟨y1,rfl⟩,h2⟩:=zaH h1
   rw[zmx h2]
   exact⟨(⟨y0,y1⟩:za),rfl⟩
  ·rw[zif]at hu;cases hu
  ·rw[zih]at hu;cases hu
  ·rw[zii]at hu;cases hu
  ·rw[zij]at hu;cases hu
 only:=fun t u hg hu=>by
  simp only[gd,List.mem_cons,List.not_mem_nil,or_false]at hg
  rcases hg with rfl|rfl|rfl|rfl|rfl|rfl|rfl|rfl|rfl|rfl|rfl|rfl|rfl|rfl|rfl|rfl|rfl|rfl
  ·rw[ztH]at hu;cases hu;exact .inl ⟨_,rfl⟩
  ·rw[ztI]at hu;cases hu;exact .inl ⟨_,rfl⟩
  ·rw[zwo]at hu;cases hu;exact .inr (.inl rfl)
  ·rw[ztJ]at hu;cases hu;exact .inl ⟨_,rfl⟩
  ·rw[zwp]at hu;cases hu;exact .inr (.inr (.inl rfl))
  ·rw[zmp]at hu;cases hu;exact .inl ⟨_,rfl⟩
  ·rw[zmq]at hu;cases hu;exact .inl ⟨_,rfl⟩
  ·rw[zmr]at hu;cases hu;exact .inl ⟨_,rfl⟩
  ·rw[zk2]at hu;cases hu;exact .inr (.inr (.inr (.inl ⟨_,rfl⟩)))
  ·obtain⟨fs,e⟩:=zp5;rw[e]at hu;cases hu;exact .inr (.inr (.inr (.inr ⟨_,rfl⟩)))
  ·rw[zms]at hu;cases hu;exact .inr (.inr (.inr (.inl ⟨_,rfl⟩)))
  ·rw[zmt]at hu;cases hu;exact .inr (.inr (.inr (.inl ⟨_,rfl⟩)))
  ·obtain⟨fs,e⟩:=zp6;rw[e]at hu;cases hu;exact .inr (.inr (.inr (.inr ⟨_,rfl⟩)))
  ·obtain⟨fs,e⟩:=zk1;rw[e]at hu;cases hu;exact .inr (.inr (.inr (.inr ⟨_,rfl⟩)))
  ·rw[zif]at hu;cases hu;exact .inr (.inr (.inr (.inl ⟨_,rfl⟩)))
  ·rw[zih]at hu;cases hu;exact .inl ⟨_,rfl⟩
  ·rw[zii]at hu;cases hu;exact .inl ⟨_,rfl⟩
  ·rw[zij]at hu;cases hu;exact .inl ⟨_,rfl⟩
end Go.Lv.VT
