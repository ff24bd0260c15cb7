/- Which values may come in. -/
import Derived.Test.YtcdeccnjlkkejaaGreatDoorIp
import Derived.Test.YtcdeccnjlkkejaaGreatDoorLf
set_option linter.unusedSimpArgs false
set_option linter.unusedVariables false
namespace Go.Lv.VT
set_option maxRecDepth 100000
open Go.Proofs
def gd:List Nat:=[2,3,4,5,9,12,21,22,23,25,42,44,49,52,66,71,101,116,119,122,133,174,185,217]
theorem zqu:Tryz.prog.underlying 2=some (.int .i64):=by kernel_rfl
theorem zqv:Tryz.prog.underlying 3=some (.int .i64):=by kernel_rfl
theorem zsq:Tryz.prog.underlying 4=some (.bool):=by kernel_rfl
theorem zoJ:Tryz.prog.underlying 5=some (.int .u8):=by kernel_rfl
theorem zsr:Tryz.prog.underlying 9=some (.string):=by kernel_rfl
theorem zkH:Tryz.prog.underlying 12=some (.int .u64):=by kernel_rfl
theorem zkI:Tryz.prog.underlying 21=some (.int .i32):=by kernel_rfl
theorem zkJ:Tryz.prog.underlying 22=some (.slice 44):=by kernel_rfl
theorem zjw:Tryz.prog.underlying 23=some (.slice 49):=by kernel_rfl
theorem zkK:Tryz.prog.underlying 25=some (.int .i64):=by kernel_rfl
theorem zkL:Tryz.prog.underlying 42=some (.slice 5):=by kernel_rfl
theorem znE: ∃fs,Tryz.prog.underlying 44=some (.struct fs):=⟨(match Tryz.prog.underlying 44 with|some (.struct fs)=>fs|_=> #[]),by kernel_rfl⟩
theorem zuO:zhp Tryz.prog 44=[(5,0),(9,1),(2,2),(9,3),(4,4)]:=by kernel_rfl
theorem znF: ∃fs,Tryz.prog.underlying 49=some (.struct fs):=⟨(match Tryz.prog.underlying 49 with|some (.struct fs)=>fs|_=> #[]),by kernel_rfl⟩
theorem zuP:zhp Tryz.prog 49=[(44,0),(23,5)]:=by kernel_rfl
theorem zkM:Tryz.prog.underlying 52=some (.slice 23):=by kernel_rfl
theorem znG: ∃fs,Tryz.prog.underlying 66=some (.struct fs):=⟨(match Tryz.prog.underlying 66 with|some (.struct fs)=>fs|_=> #[]),by kernel_rfl⟩
theorem zuQ:zhp Tryz.prog 66=[(9,0),(23,1),(4,2)]:=by kernel_rfl
theorem zkN:Tryz.prog.underlying 71=some (.slice 66):=by kernel_rfl
theorem zjt: ∃fs,Tryz.prog.underlying 101=some (.struct fs):=⟨(match Tryz.prog.underlying 101 with|some (.struct fs)=>fs|_=> #[]),by kernel_rfl⟩
theorem zt4:zhp Tryz.prog 101=[(3,0),(3,1),(4,2)]:=by kernel_rfl
theorem zg6:Tryz.prog.underlying 116=some (.slice 119):=by kernel_rfl
theorem zju: ∃fs,Tryz.prog.underlying 119=some (.struct fs):=⟨(match Tryz.prog.underlying 119 with|some (.struct fs)=>fs|_=> #[]),by kernel_rfl⟩
theorem zt5:zhp Tryz.prog 119=[(3,0),(3,1)]:=by kernel_rfl
theorem zg7:Tryz.prog.underlying 122=some (.slice 9):=by kernel_rfl
theorem zjv: ∃fs,Tryz.prog.underlying 133=some (.struct fs):=⟨(match Tryz.prog.underlying 133 with|some (.struct fs)=>fs|_=> #[]),by kernel_rfl⟩
theorem zt6:zhp Tryz.prog 133=[(9,0),(3,1)]:=by kernel_rfl
theorem zg8:Tryz.prog.underlying 174=some (.int .u64):=by kernel_rfl
theorem zg9:Tryz.prog.underlying 185=some (.int .u32):=by kernel_rfl
theorem zha:Tryz.prog.underlying 217=some (.int .u64):=by kernel_rfl
theorem ipRd:IpRd Tryz.prog I (fun t=>t∈gd)where
 int:=fun t k hg hu n h1 h2=>by
  simp only[gd,List.mem_cons,List.not_mem_nil,or_false]at hg
  rcases hg with rfl|rfl|rfl|rfl|rfl|rfl|rfl|rfl|rfl|rfl|rfl|rfl|rfl|rfl|rfl|rfl|rfl|rfl|rfl|rfl|rfl|rfl|rfl|rfl
  ·rw[zqu]at hu;cases hu;exact⟨(n:Int),rfl⟩
  ·rw[zqv]at hu;cases hu;exact⟨(n:Int),rfl⟩
  ·rw[zsq]at hu;cases hu
  ·rw[zoJ]at hu;cases hu;exact⟨UInt8.ofNat n.toNat,zvd h1 h2⟩
  ·rw[zsr]at hu;cases hu
  ·rw[zkH]at hu;cases hu;exact⟨(n:Int),rfl⟩
  ·rw[zkI]at hu;cases hu;exact⟨(n:Int),rfl⟩
  ·rw[zkJ]at hu;cases hu
  ·rw[zjw]at hu;cases hu
  ·rw[zkK]at hu;cases hu;exact⟨(n:Int),rfl⟩
  ·rw[zkL]at hu;cases hu
  ·obtain⟨fs,e⟩:=znE;rw[e]at hu;cases hu
  ·obtain⟨fs,e⟩:=znF;rw[e]at hu;cases hu
  ·rw[zkM]at hu;cases hu
  ·obtain⟨fs,e⟩:=znG;rw[e]at hu;cases hu
  ·rw[zkN]at hu;cases hu
  ·obtain⟨fs,e⟩:=zjt;rw[e]at hu;cases hu
  ·rw[zg6]at hu;cases hu
  ·obtain⟨fs,e⟩:=zju;rw[e]at hu;cases hu
  ·rw[zg7]at hu;cases hu
  ·obtain⟨fs,e⟩:=zjv;rw[e]at hu;cases hu
  ·rw[zg8]at hu;cases hu;exact⟨(n:Int),rfl⟩
  ·rw[zg9]at hu;cases hu;exact⟨(n:Int),rfl⟩
  ·rw[zha]at hu;cases hu;exact⟨(n:Int),rfl⟩
 bool:=fun t hg hu b=>by
  simp only[gd,List.mem_cons,List.not_mem_nil,or_false]at hg
  rcases hg with rfl|rfl|rfl|rfl|rfl|rfl|rfl|rfl|rfl|rfl|rfl|rfl|rfl|rfl|rfl|rfl|rfl|rfl|rfl|rfl|rfl|rfl|rfl|rfl
  ·rw[zqu]at hu;cases hu
  ·rw[zqv]at hu;cases hu
  ·exact⟨(b:Bool),rfl⟩
  ·rw[zoJ]at hu;cases hu
  ·rw[zsr]at hu;cases hu
  ·rw[zkH]at hu;cases hu
  ·rw[zkI]at hu;cases hu
  ·rw[zkJ]at hu;cases hu
  ·rw[zjw]at hu;cases hu
  ·rw[zkK]at hu;cases hu
  ·rw[zkL]at hu;cases hu
  ·obtain⟨fs,e⟩:=znE;rw[e]at hu;cases hu
  ·obtain⟨fs,e⟩:=znF;rw[e]at hu;cases hu
  ·rw[zkM]at hu;cases hu
  ·obtain⟨fs,e⟩:=znG;rw[e]at hu;cases hu
  ·rw[zkN]at hu;cases hu
  ·obtain⟨fs,e⟩:=zjt;rw[e]at hu;cases hu
  ·rw[zg6]at hu;cases hu
  ·obtain⟨fs,e⟩:=zju;rw[e]at hu;cases hu
  ·rw[zg7]at hu;cases hu
  ·obtain⟨fs,e⟩:=zjv;rw[e]at hu;cases hu
  ·rw[zg8]at hu;cases hu
  ·rw[zg9]at hu;cases hu
  ·rw[zha]at hu;cases hu
 str:=fun t hg hu l=>by
  simp only[gd,List.mem_cons,List.not_mem_nil,or_false]at hg
  rcases hg with rfl|rfl|rfl|rfl|rfl|rfl|rfl|rfl|rfl|rfl|rfl|rfl|rfl|rfl|rfl|rfl|rfl|rfl|rfl|rfl|rfl|rfl|rfl|rfl
  ·rw[zqu]at hu;cases hu
  ·rw[zqv]at hu;cases hu
  ·rw[zsq]at hu;cases hu
  ·rw[zoJ]at hu;cases hu
  ·exact⟨(l:Str),rfl⟩
  ·rw[zkH]at hu;cases hu
  ·rw[zkI]at hu;cases hu
  ·rw[zkJ]at hu;cases hu
  ·rw[zjw]at hu;cases hu
  ·rw[zkK]at hu;cases hu
  ·rw[zkL]at hu;cases hu
  ·obtain⟨fs,e⟩:=znE;rw[e]at hu;cases hu
  ·obtain⟨fs,e⟩:=znF;rw[e]at hu;cases hu
  ·rw[zkM]at hu;cases hu
  ·obtain⟨fs,e⟩:=znG;rw[e]at hu;cases hu
  ·rw[zkN]at hu;cases hu
  ·obtain⟨fs,e⟩:=zjt;rw[e]at hu;cases hu
  ·rw[zg6]at hu;cases hu
  ·obtain⟨fs,e⟩:=zju;rw[e]at hu;cases hu
  ·rw[zg7]at hu;cases hu
  ·obtain⟨fs,e⟩:=zjv;rw[e]at hu;cases hu
  ·rw[zg8]at hu;cases hu
  ·rw[zg9]at hu;cases hu
  ·rw[zha]at hu;cases hu
 sl:=fun t e hg hu=>by
  simp only[gd,List.mem_cons,List.not_mem_nil,or_false]at hg
  rcases hg with rfl|rfl|rfl|rfl|rfl|rfl|rfl|rfl|rfl|rfl|rfl|rfl|rfl|rfl|rfl|rfl|rfl|rfl|rfl|rfl|rfl|rfl|rfl|rfl
  ·rw[zqu]at hu;cases hu
  ·rw[zqv]at hu;cases hu
  ·rw[zsq]at hu;cases hu
  ·rw[zoJ]at hu;cases hu
  ·rw[zsr]at hu;cases hu
  ·rw[zkH]at hu;cases hu
  ·rw[zkI]at hu;cases hu
  ·rw[zkJ]at hu;cases hu;exact⟨by simp[gd],Nat.lt_of_lt_of_eq (by decide:0<5) (by kernel_rfl:5=Tryz.prog.cellsOf 44),fun l=>⟨(l:List zf),rfl⟩⟩
  ·rw[zjw]at hu;cases hu;exact⟨by simp[gd],Nat.lt_of_lt_of_eq (by decide:0<6) (by kernel_rfl:6=Tryz.prog.cellsOf 49),fun l=>⟨(l:List ze),rfl⟩⟩
  ·rw[zkK]at hu;cases hu
  ·rw[zkL]at hu;cases hu;exact⟨by simp[gd],Nat.lt_of_lt_of_eq (by decide:0<1) (by kernel_rfl:1=Tryz.prog.cellsOf 5),fun l=>⟨(l:List UInt8),rfl⟩⟩
  ·obtain⟨fs,e⟩:=znE;rw[e]at hu;cases hu
  ·obtain⟨fs,e⟩:=znF;rw[e]at hu;cases hu
  ·rw[zkM]at hu;cases hu;exact⟨by simp[gd],Nat.lt_of_lt_of_eq (by decide:0<1) (by kernel_rfl:1=Tryz.prog.cellsOf 23),fun l=>⟨(l:List (List ze)),rfl⟩⟩
  ·obtain⟨fs,e⟩:=znG;rw[e]at hu;cases hu
  ·rw[zkN]at hu;cases hu;exact⟨by simp[gd],Nat.lt_of_lt_of_eq (by decide:0<3) (by kernel_rfl:3=Tryz.prog.cellsOf 66),fun l=>⟨(l:List zfl),rfl⟩⟩
  ·obtain⟨fs,e⟩:=zjt;rw[e]at hu;cases hu
  ·rw[zg6]at hu;cases hu;exact⟨by simp[gd],Nat.lt_of_lt_of_eq (by decide:0<2) (by kernel_rfl:2=Tryz.prog.cellsOf 119),fun l=>⟨(l:List zw),rfl⟩⟩
  ·obtain⟨fs,e⟩:=zju;rw[e]at hu;cases hu
  ·rw[zg7]at hu;cases hu;exact⟨by simp[gd],Nat.lt_of_lt_of_eq (by decide:0<1) (by kernel_rfl:1=Tryz.prog.cellsOf 9),fun l=>⟨(l:List Str),rfl⟩⟩
  ·obtain⟨fs,e⟩:=zjv;rw[e]at hu;cases hu
  ·rw[zg8]at hu;cases hu
  ·rw[zg9]at hu;cases hu
  ·rw[zha]at hu;cases hu
 st:=fun t fs hg hu=>by
  simp only[gd,List.mem_cons,List.not_mem_nil,or_false]at hg
  rcases hg with rfl|rfl|rfl|rfl|rfl|rfl|rfl|rfl|rfl|rfl|rfl|rfl|rfl|rfl|rfl|rfl|rfl|rfl|rfl|rfl|rfl|rfl|rfl|rfl
  ·rw[zqu]at hu;cases hu
  ·rw[zqv]at hu;cases hu
  ·rw[zsq]at hu;cases hu
  ·rw[zoJ]at hu;cases hu
  ·rw[zsr]at hu;cases hu
  ·rw[zkH]at hu;cases hu
  ·rw[zkI]at hu;cases hu
  ·rw[zkJ]at hu;cases hu
  ·rw[zjw]at hu;cases hu
  ·rw[zkK]at hu;cases hu
  ·rw[zkL]at hu;cases hu
  ·refine zqm hu zuO (by simp[gd]) (by kernel_rfl) (by kernel_rfl) (fun pvs h0=> ?_)
   obtain⟨_,pvs,rfl,⟨y0,rfl⟩,h1⟩:=ZJ h0
   obtain⟨_,pvs,rfl,⟨y1,rfl⟩,h2⟩:=ZJ h1
   obtain⟨_,pvs,rfl,⟨y2,rfl⟩,h3⟩:=ZJ h2
   obtain⟨_,pvs,rfl,⟨y3,rfl⟩,h4⟩:=ZJ h3
   obtain⟨_,pvs,rfl,⟨y4,rfl⟩,h5⟩:=ZJ h4
   rw[zeG h5]
   exact⟨(⟨((UInt8.toNat y0:Nat):Int),y1,y2,y3,y4⟩:zf),rfl⟩
  ·refine zqm hu zuP (by simp[gd]) (by kernel_rfl) (by kernel_rfl) (fun pvs h0=> ?_)
   obtain⟨_,pvs,rfl,⟨y0,rfl⟩,h1⟩:=ZJ h0
   obtain⟨_,pvs,rfl,⟨y1,rfl⟩,h2⟩:=ZJ h1
   rw[zeG h2]
   exact⟨(⟨y0,y1⟩:ze),(zdB y0 y1).trans rfl⟩
  ·rw[zkM]at hu;cases hu
  ·refine zqm hu zuQ (by simp[gd]) (by kernel_rfl) (by kernel_rfl) (fun pvs h0=> ?_)
   obtain⟨_,pvs,rfl,⟨y0,rfl⟩,h1⟩:=ZJ h0
   obtain⟨_,pvs,rfl,⟨y1,rfl⟩,h2⟩:=ZJ h1
   obtain⟨_,pvs,rfl,⟨y2,rfl⟩,h3⟩:=ZJ h2
   rw[zeG h3]
   exact⟨(⟨y0,y1,y2⟩:zfl),rfl⟩
  ·rw[zkN]at hu;cases hu
  ·refine zqm hu zt4 (by simp[gd]) (by kernel_rfl) (by kernel_rfl) (fun pvs h0=> ?_)
   obtain⟨_,pvs,rfl,⟨y0,rfl⟩,h1⟩:=ZJ h0
   obtain⟨_,pvs,rfl,⟨y1,rfl⟩,h2⟩:=ZJ h1
   obtain⟨_,pvs,rfl,⟨y2,rfl⟩,h3⟩:=ZJ h2
   rw[zeG h3]
   exact⟨(⟨y0,y1,y2⟩:zo),rfl⟩
  ·rw[zg6]at hu;cases hu
  ·refine zqm hu zt5 (by simp[gd]) (by kernel_rfl) (by kernel_rfl) (fun pvs h0=> ?_)
   obtain⟨_,pvs,rfl,⟨y0,rfl⟩,h1⟩:=ZJ h0
   obtain⟨_,pvs,rfl,⟨y1,rfl⟩,h2⟩:=ZJ h1
   rw[zeG h2]
   exact⟨(⟨y0,y1⟩:zw),rfl⟩
  ·rw[zg7]at hu;cases hu
  ·refine zqm hu zt6 (by simp[gd]) (by kernel_rfl) (by kernel_rfl) (fun pvs h0=> ?_)
   obtain⟨_,pvs,rfl,⟨y0,rfl⟩,h1⟩:=ZJ h0
   obtain⟨_,pvs,rfl,⟨y1,rfl⟩,h2⟩:=ZJ h1
   rw[zeG h2]
   exact⟨(⟨y0,y1⟩:za),rfl⟩
  ·rw[zg8]at hu;cases hu
  ·rw[zg9]at hu;cases hu
  ·rw[zha]at hu;cases hu
 only:=fun t u hg hu=>by
  simp only[gd,List.mem_cons,List.not_mem_nil,or_false]at hg
  rcases hg with rfl|rfl|rfl|rfl|rfl|rfl|rfl|rfl|rfl|rfl|rfl|rfl|rfl|rfl|rfl|rfl|rfl|rfl|rfl|rfl|rfl|rfl|rfl|rfl
  ·rw[zqu]at hu;cases hu;exact .inl ⟨_,rfl⟩
  ·rw[zqv]at hu;cases hu;exact .inl ⟨_,rfl⟩
  ·rw[zsq]at hu;cases hu;exact .inr (.inl rfl)
  ·rw[zoJ]at hu;cases hu;exact .inl ⟨_,rfl⟩
  ·rw[zsr]at hu;cases hu;exact .inr (.inr (.inl rfl))
  ·rw[zkH]at hu;cases hu;exact .inl ⟨_,rfl⟩
  ·rw[zkI]at hu;cases hu;exact .inl ⟨_,rfl⟩
  ·rw[zkJ]at hu;cases hu;exact .inr (.inr (.inr (.inl ⟨_,rfl⟩)))
  ·rw[zjw]at hu;cases hu;exact .inr (.inr (.inr (.inl ⟨_,rfl⟩)))
  ·rw[zkK]at hu;cases hu;exact .inl ⟨_,rfl⟩
  ·rw[zkL]at hu;cases hu;exact .inr (.inr (.inr (.inl ⟨_,rfl⟩)))
  ·obtain⟨fs,e⟩:=znE;rw[e]at hu;cases hu;exact .inr (.inr (.inr (.inr ⟨_,rfl⟩)))
  ·obtain⟨fs,e⟩:=znF;rw[e]at hu;cases hu;exact .inr (.inr (.inr (.inr ⟨_,rfl⟩)))
  ·rw[zkM]at hu;cases hu;exact .inr (.inr (.inr (.inl ⟨_,rfl⟩)))
  ·obtain⟨fs,e⟩:=znG;rw[e]at hu;cases hu;exact .inr (.inr (.inr (.inr ⟨_,rfl⟩)))
  ·rw[zkN]at hu;cases hu;exact .inr (.inr (.inr (.inl ⟨_,rfl⟩)))
  ·obtain⟨fs,e⟩:=zjt;rw[e]at hu;cases hu;exact .inr (.inr (.inr (.inr ⟨_,rfl⟩)))
  ·rw[zg6]at hu;cases hu;exact .inr (.inr (.inr (.inl ⟨_,rfl⟩)))
  ·obtain⟨fs,e⟩:=zju;rw[e]at hu;cases hu;exact .inr (.inr (.inr (.inr ⟨_,rfl⟩)))
  ·rw[zg7]at hu;cases hu;exact .inr (.inr (.inr (.inl ⟨_,rfl⟩)))
  ·obtain⟨fs,e⟩:=zjv;rw[e]at hu;cases hu;exact .inr (.inr (.inr (.inr ⟨_,rfl⟩)))
  ·rw[zg8]at hu;cases hu;exact .inl ⟨_,rfl⟩
  ·rw[zg9]at hu;cases hu;exact .inl ⟨_,rfl⟩
  ·rw[zha]at hu;cases hu;exact .inl ⟨_,rfl⟩
end Go.Lv.VT
