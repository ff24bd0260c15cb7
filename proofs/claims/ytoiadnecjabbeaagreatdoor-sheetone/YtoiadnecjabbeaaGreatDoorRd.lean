/- Which values may come in. -/
import Derived.Test.YtoiadnecjabbeaaGreatDoorIp
import Derived.Test.YtoiadnecjabbeaaGreatDoorLf
set_option linter.unusedSimpArgs false
set_option linter.unusedVariables false
namespace Go.Lv.VT
set_option maxRecDepth 100000
open Go.Proofs
def gd:List Nat:=[2,3,4,5,6,7,9,11,21,23,24,25,27,28,30,31,32,34,35,39,47,52,60,70,72,74,78,80,87,96,98,105,121,124,134,136,139,171,197,200,233,281,305,316]
theorem Kq:Tryz.prog.underlying 2=some (.int .i64):=by kernel_rfl
theorem Jq:Tryz.prog.underlying 3=some (.int .i64):=by kernel_rfl
theorem Oy:Tryz.prog.underlying 4=some (.bool):=by kernel_rfl
theorem Iq:Tryz.prog.underlying 5=some (.int .u8):=by kernel_rfl
theorem Hq:Tryz.prog.underlying 6=some (.int .u8):=by kernel_rfl
theorem Ny: ∃fs,Tryz.prog.underlying 7=some (.struct fs):=⟨(match Tryz.prog.underlying 7 with|some (.struct fs)=>fs|_=> #[]),by kernel_rfl⟩
theorem zH9:Mg Tryz.prog 7=[(2,0),(3,1),(4,2),(6,3)]:=by kernel_rfl
theorem Gq:Tryz.prog.underlying 9=some (.string):=by kernel_rfl
theorem bu:Tryz.prog.underlying 11=some (.string):=by kernel_rfl
theorem Ar:Tryz.prog.underlying 21=some (.int .i32):=by kernel_rfl
theorem xq:Tryz.prog.underlying 23=some (.slice 80):=by kernel_rfl
theorem uq:Tryz.prog.underlying 24=some (.slice 27):=by kernel_rfl
theorem tq:Tryz.prog.underlying 25=some (.slice 72):=by kernel_rfl
theorem au: ∃fs,Tryz.prog.underlying 27=some (.struct fs):=⟨(match Tryz.prog.underlying 27 with|some (.struct fs)=>fs|_=> #[]),by kernel_rfl⟩
theorem zGL:Mg Tryz.prog 27=[(9,0),(25,1),(4,2)]:=by kernel_rfl
theorem rq:Tryz.prog.underlying 28=some (.slice 30):=by kernel_rfl
theorem Yu: ∃fs,Tryz.prog.underlying 30=some (.struct fs):=⟨(match Tryz.prog.underlying 30 with|some (.struct fs)=>fs|_=> #[]),by kernel_rfl⟩
theorem zGM:Mg Tryz.prog 30=[(5,0),(9,1),(2,2),(27,3),(28,6)]:=by kernel_rfl
theorem Xq:Tryz.prog.underlying 31=some (.slice 47):=by kernel_rfl
theorem Wq:Tryz.prog.underlying 32=some (.slice 34):=by kernel_rfl
theorem Xu: ∃fs,Tryz.prog.underlying 34=some (.struct fs):=⟨(match Tryz.prog.underlying 34 with|some (.struct fs)=>fs|_=> #[]),by kernel_rfl⟩
theorem zGN:Mg Tryz.prog 34=[(5,0),(23,1),(24,2),(30,3),(31,10),(32,11)]:=by kernel_rfl
theorem Vq:Tryz.prog.underlying 35=some (.int .i64):=by kernel_rfl
theorem Wu: ∃fs,Tryz.prog.underlying 39=some (.struct fs):=⟨(match Tryz.prog.underlying 39 with|some (.struct fs)=>fs|_=> #[]),by kernel_rfl⟩
theorem zGO:Mg Tryz.prog 39=[(32,0)]:=by kernel_rfl
theorem Uq:Tryz.prog.underlying 47=some (.slice 9):=by kernel_rfl
theorem Vu: ∃fs,Tryz.prog.underlying 52=some (.struct fs):=⟨(match Tryz.prog.underlying 52 with|some (.struct fs)=>fs|_=> #[]),by kernel_rfl⟩
theorem zGP:Mg Tryz.prog 52=[(3,0),(3,1)]:=by kernel_rfl
theorem Tq:Tryz.prog.underlying 60=some (.slice 70):=by kernel_rfl
theorem Uu: ∃fs,Tryz.prog.underlying 70=some (.struct fs):=⟨(match Tryz.prog.underlying 70 with|some (.struct fs)=>fs|_=> #[]),by kernel_rfl⟩
theorem zGQ:Mg Tryz.prog 70=[(5,0),(9,1),(2,2),(9,3),(4,4)]:=by kernel_rfl
theorem Tu: ∃fs,Tryz.prog.underlying 72=some (.struct fs):=⟨(match Tryz.prog.underlying 72 with|some (.struct fs)=>fs|_=> #[]),by kernel_rfl⟩
theorem zGR:Mg Tryz.prog 72=[(70,0),(25,5)]:=by kernel_rfl
theorem Sq:Tryz.prog.underlying 74=some (.slice 5):=by kernel_rfl
theorem Rq:Tryz.prog.underlying 78=some (.slice 98):=by kernel_rfl
theorem eu: ∃fs,Tryz.prog.underlying 80=some (.struct fs):=⟨(match Tryz.prog.underlying 80 with|some (.struct fs)=>fs|_=> #[]),by kernel_rfl⟩
theorem zGS:Mg Tryz.prog 80=[(5,0),(78,1),(74,2)]:=by kernel_rfl
theorem Pq:Tryz.prog.underlying 87=some (.slice 25):=by kernel_rfl
theorem Oq:Tryz.prog.underlying 96=some (.slice 139):=by kernel_rfl
theorem cu: ∃fs,Tryz.prog.underlying 98=some (.struct fs):=⟨(match Tryz.prog.underlying 98 with|some (.struct fs)=>fs|_=> #[]),by kernel_rfl⟩
theorem zGT:Mg Tryz.prog 98=[(9,0),(96,1)]:=by kernel_rfl
theorem Ir:Tryz.prog.underlying 105=some (.int .u32):=by kernel_rfl
theorem Sv: ∃fs,Tryz.prog.underlying 121=some (.struct fs):=⟨(match Tryz.prog.underlying 121 with|some (.struct fs)=>fs|_=> #[]),by kernel_rfl⟩
theorem zEQ:Mg Tryz.prog 121=[(9,0),(3,1)]:=by kernel_rfl
theorem Rv: ∃fs,Tryz.prog.underlying 124=some (.struct fs):=⟨(match Tryz.prog.underlying 124 with|some (.struct fs)=>fs|_=> #[]),by kernel_rfl⟩
theorem zER:Mg Tryz.prog 124=[(3,0),(3,1),(4,2)]:=by kernel_rfl
theorem Pv: ∃fs,Tryz.prog.underlying 134=some (.struct fs):=⟨(match Tryz.prog.underlying 134 with|some (.struct fs)=>fs|_=> #[]),by kernel_rfl⟩
theorem zES:Mg Tryz.prog 134=[(2,0),(2,1)]:=by kernel_rfl
theorem Ov: ∃fs,Tryz.prog.underlying 136=some (.struct fs):=⟨(match Tryz.prog.underlying 136 with|some (.struct fs)=>fs|_=> #[]),by kernel_rfl⟩
theorem zET:Mg Tryz.prog 136=[(5,0),(9,1),(5,2),(9,3),(4,4),(134,5),(4,7)]:=by kernel_rfl
theorem Nv: ∃fs,Tryz.prog.underlying 139=some (.struct fs):=⟨(match Tryz.prog.underlying 139 with|some (.struct fs)=>fs|_=> #[]),by kernel_rfl⟩
theorem zEU:Mg Tryz.prog 139=[(5,0),(9,1),(5,2),(9,3),(4,4),(134,5),(4,7),(23,8)]:=by kernel_rfl
theorem Mv: ∃fs,Tryz.prog.underlying 171=some (.struct fs):=⟨(match Tryz.prog.underlying 171 with|some (.struct fs)=>fs|_=> #[]),by kernel_rfl⟩
theorem zEV:Mg Tryz.prog 171=[(25,0)]:=by kernel_rfl
theorem Kv: ∃fs,Tryz.prog.underlying 197=some (.struct fs):=⟨(match Tryz.prog.underlying 197 with|some (.struct fs)=>fs|_=> #[]),by kernel_rfl⟩
theorem zEW:Mg Tryz.prog 197=[(3,0),(4,1)]:=by kernel_rfl
theorem Jv: ∃fs,Tryz.prog.underlying 200=some (.struct fs):=⟨(match Tryz.prog.underlying 200 with|some (.struct fs)=>fs|_=> #[]),by kernel_rfl⟩
theorem zEX:Mg Tryz.prog 200=[(3,0),(3,1),(4,2)]:=by kernel_rfl
theorem Hr:Tryz.prog.underlying 233=some (.int .u64):=by kernel_rfl
theorem Gv: ∃fs,Tryz.prog.underlying 281=some (.struct fs):=⟨(match Tryz.prog.underlying 281 with|some (.struct fs)=>fs|_=> #[]),by kernel_rfl⟩
theorem zEY:Mg Tryz.prog 281=[(25,0),(3,1)]:=by kernel_rfl
theorem Er:Tryz.prog.underlying 305=some (.slice 2):=by kernel_rfl
theorem Fv: ∃fs,Tryz.prog.underlying 316=some (.struct fs):=⟨(match Tryz.prog.underlying 316 with|some (.struct fs)=>fs|_=> #[]),by kernel_rfl⟩
theorem zEZ:Mg Tryz.prog 316=[(60,0)]:=by kernel_rfl
theorem ipRd:IpRd Tryz.prog I (fun t=>t∈gd)where
 int:=fun t k hg hu n h1 h2=>by
  simp only[gd,ja,Jd,Ff]at hg;rcases hg with rfl|rfl|rfl|rfl|rfl|rfl|rfl|rfl|rfl|rfl|rfl|rfl|rfl|rfl|rfl|rfl|rfl|rfl|rfl|rfl|rfl|rfl|rfl|rfl|rfl|rfl|rfl|rfl|rfl|rfl|rfl|rfl|rfl|rfl|rfl|rfl|rfl|rfl|rfl|rfl|rfl|rfl|rfl|rfl
  ·rw[Kq]at hu;cases hu;exact⟨(n:Int),rfl⟩
  ·rw[Jq]at hu;cases hu;exact⟨(n:Int),rfl⟩
  ·rw[Oy]at hu;cases hu
  ·rw[Iq]at hu;cases hu;exact⟨UInt8.ofNat n.toNat,DT h1 h2⟩
  ·rw[Hq]at hu;cases hu;exact⟨UInt8.ofNat n.toNat,DT h1 h2⟩
  ·obtain⟨fs,e⟩:=Ny;rw[e]at hu;cases hu
  ·rw[Gq]at hu;cases hu
  ·rw[bu]at hu;cases hu
  ·rw[Ar]at hu;cases hu;exact⟨(n:Int),rfl⟩
  ·rw[xq]at hu;cases hu
  ·rw[uq]at hu;cases hu
  ·rw[tq]at hu;cases hu
  ·obtain⟨fs,e⟩:=au;rw[e]at hu;cases hu
  ·rw[rq]at hu;cases hu
  ·obtain⟨fs,e⟩:=Yu;rw[e]at hu;cases hu
  ·rw[Xq]at hu;cases hu
  ·rw[Wq]at hu;cases hu
  ·obtain⟨fs,e⟩:=Xu;rw[e]at hu;cases hu
  ·rw[Vq]at hu;cases hu;exact⟨(n:Int),rfl⟩
  ·obtain⟨fs,e⟩:=Wu;rw[e]at hu;cases hu
  ·rw[Uq]at hu;cases hu
  ·obtain⟨fs,e⟩:=Vu;rw[e]at hu;cases hu
  ·rw[Tq]at hu;cases hu
  ·obtain⟨fs,e⟩:=Uu;rw[e]at hu;cases hu
  ·obtain⟨fs,e⟩:=Tu;rw[e]at hu;cases hu
  ·rw[Sq]at hu;cases hu
  ·rw[Rq]at hu;cases hu
  ·obtain⟨fs,e⟩:=eu;rw[e]at hu;cases hu
  ·rw[Pq]at hu;cases hu
  ·rw[Oq]at hu;cases hu
  ·obtain⟨fs,e⟩:=cu;rw[e]at hu;cases hu
  ·rw[Ir]at hu;cases hu;exact⟨(n:Int),rfl⟩
  ·obtain⟨fs,e⟩:=Sv;rw[e]at hu;cases hu
  ·obtain⟨fs,e⟩:=Rv;rw[e]at hu;cases hu
  ·obtain⟨fs,e⟩:=Pv;rw[e]at hu;cases hu
  ·obtain⟨fs,e⟩:=Ov;rw[e]at hu;cases hu
  ·obtain⟨fs,e⟩:=Nv;rw[e]at hu;cases hu
  ·obtain⟨fs,e⟩:=Mv;rw[e]at hu;cases hu
  ·obtain⟨fs,e⟩:=Kv;rw[e]at hu;cases hu
  ·obtain⟨fs,e⟩:=Jv;rw[e]at hu;cases hu
  ·rw[Hr]at hu;cases hu;exact⟨(n:Int),rfl⟩
  ·obtain⟨fs,e⟩:=Gv;rw[e]at hu;cases hu
  ·rw[Er]at hu;cases hu
  ·obtain⟨fs,e⟩:=Fv;rw[e]at hu;cases hu
 bool:=fun t hg hu b=>by
  simp only[gd,ja,Jd,Ff]at hg;rcases hg with rfl|rfl|rfl|rfl|rfl|rfl|rfl|rfl|rfl|rfl|rfl|rfl|rfl|rfl|rfl|rfl|rfl|rfl|rfl|rfl|rfl|rfl|rfl|rfl|rfl|rfl|rfl|rfl|rfl|rfl|rfl|rfl|rfl|rfl|rfl|rfl|rfl|rfl|rfl|rfl|rfl|rfl|rfl|rfl
  ·rw[Kq]at hu;cases hu
  ·rw[Jq]at hu;cases hu
  ·exact⟨(b:Bool),rfl⟩
  ·rw[Iq]at hu;cases hu
  ·rw[Hq]at hu;cases hu
  ·obtain⟨fs,e⟩:=Ny;rw[e]at hu;cases hu
  ·rw[Gq]at hu;cases hu
  ·rw[bu]at hu;cases hu
  ·rw[Ar]at hu;cases hu
  ·rw[xq]at hu;cases hu
  ·rw[uq]at hu;cases hu
  ·rw[tq]at hu;cases hu
  ·obtain⟨fs,e⟩:=au;rw[e]at hu;cases hu
  ·rw[rq]at hu;cases hu
  ·obtain⟨fs,e⟩:=Yu;rw[e]at hu;cases hu
  ·rw[Xq]at hu;cases hu
  ·rw[Wq]at hu;cases hu
  ·obtain⟨fs,e⟩:=Xu;rw[e]at hu;cases hu
  ·rw[Vq]at hu;cases hu
  ·obtain⟨fs,e⟩:=Wu;rw[e]at hu;cases hu
  ·rw[Uq]at hu;cases hu
  ·obtain⟨fs,e⟩:=Vu;rw[e]at hu;cases hu
  ·rw[Tq]at hu;cases hu
  ·obtain⟨fs,e⟩:=Uu;rw[e]at hu;cases hu
  ·obtain⟨fs,e⟩:=Tu;rw[e]at hu;cases hu
  ·rw[Sq]at hu;cases hu
  ·rw[Rq]at hu;cases hu
  ·obtain⟨fs,e⟩:=eu;rw[e]at hu;cases hu
  ·rw[Pq]at hu;cases hu
  ·rw[Oq]at hu;cases hu
  ·obtain⟨fs,e⟩:=cu;rw[e]at hu;cases hu
  ·rw[Ir]at hu;cases hu
  ·obtain⟨fs,e⟩:=Sv;rw[e]at hu;cases hu
  ·obtain⟨fs,e⟩:=Rv;rw[e]at hu;cases hu
  ·obtain⟨fs,e⟩:=Pv;rw[e]at hu;cases hu
  ·obtain⟨fs,e⟩:=Ov;rw[e]at hu;cases hu
  ·obtain⟨fs,e⟩:=Nv;rw[e]at hu;cases hu
  ·obtain⟨fs,e⟩:=Mv;rw[e]at hu;cases hu
  ·obtain⟨fs,e⟩:=Kv;rw[e]at hu;cases hu
  ·obtain⟨fs,e⟩:=Jv;rw[e]at hu;cases hu
  ·rw[Hr]at hu;cases hu
  ·obtain⟨fs,e⟩:=Gv;rw[e]at hu;cases hu
  ·rw[Er]at hu;cases hu
  ·obtain⟨fs,e⟩:=Fv;rw[e]at hu;cases hu
 str:=fun t hg hu l=>by
  simp only[gd,ja,Jd,Ff]at hg;rcases hg with rfl|rfl|rfl|rfl|rfl|rfl|rfl|rfl|rfl|rfl|rfl|rfl|rfl|rfl|rfl|rfl|rfl|rfl|rfl|rfl|rfl|rfl|rfl|rfl|rfl|rfl|rfl|rfl|rfl|rfl|rfl|rfl|rfl|rfl|rfl|rfl|rfl|rfl|rfl|rfl|rfl|rfl|rfl|rfl
  ·rw[Kq]at hu;cases hu
  ·rw[Jq]at hu;cases hu
  ·rw[Oy]at hu;cases hu
  ·rw[Iq]at hu;cases hu
  ·rw[Hq]at hu;cases hu
  ·obtain⟨fs,e⟩:=Ny;rw[e]at hu;cases hu
  ·exact⟨(l:Str),rfl⟩
  ·exact⟨(l:Str),rfl⟩
  ·rw[Ar]at hu;cases hu
  ·rw[xq]at hu;cases hu
  ·rw[uq]at hu;cases hu
  ·rw[tq]at hu;cases hu
  ·obtain⟨fs,e⟩:=au;rw[e]at hu;cases hu
  ·rw[rq]at hu;cases hu
  ·obtain⟨fs,e⟩:=Yu;rw[e]at hu;cases hu
  ·rw[Xq]at hu;cases hu
  ·rw[Wq]at hu;cases hu
  ·obtain⟨fs,e⟩:=Xu;rw[e]at hu;cases hu
  ·rw[Vq]at hu;cases hu
  ·obtain⟨fs,e⟩:=Wu;rw[e]at hu;cases hu
  ·rw[Uq]at hu;cases hu
  ·obtain⟨fs,e⟩:=Vu;rw[e]at hu;cases hu
  ·rw[Tq]at hu;cases hu
  ·obtain⟨fs,e⟩:=Uu;rw[e]at hu;cases hu
  ·obtain⟨fs,e⟩:=Tu;rw[e]at hu;cases hu
  ·rw[Sq]at hu;cases hu
  ·rw[Rq]at hu;cases hu
  ·obtain⟨fs,e⟩:=eu;rw[e]at hu;cases hu
  ·rw[Pq]at hu;cases hu
  ·rw[Oq]at hu;cases hu
  ·obtain⟨fs,e⟩:=cu;rw[e]at hu;cases hu
  ·rw[Ir]at hu;cases hu
  ·obtain⟨fs,e⟩:=Sv;rw[e]at hu;cases hu
  ·obtain⟨fs,e⟩:=Rv;rw[e]at hu;cases hu
  ·obtain⟨fs,e⟩:=Pv;rw[e]at hu;cases hu
  ·obtain⟨fs,e⟩:=Ov;rw[e]at hu;cases hu
  ·obtain⟨fs,e⟩:=Nv;rw[e]at hu;cases hu
  ·obtain⟨fs,e⟩:=Mv;rw[e]at hu;cases hu
  ·obtain⟨fs,e⟩:=Kv;rw[e]at hu;cases hu
  ·obtain⟨fs,e⟩:=Jv;rw[e]at hu;cases hu
  ·rw[Hr]at hu;cases hu
  ·obtain⟨fs,e⟩:=Gv;rw[e]at hu;cases hu
  ·rw[Er]at hu;cases hu
  ·obtain⟨fs,e⟩:=Fv;rw[e]at hu;cases hu
 sl:=fun t e hg hu=>by
  simp only[gd,ja,Jd,Ff]at hg;rcases hg with rfl|rfl|rfl|rfl|rfl|rfl|rfl|rfl|rfl|rfl|rfl|rfl|rfl|rfl|rfl|rfl|rfl|rfl|rfl|rfl|rfl|rfl|rfl|rfl|rfl|rfl|rfl|rfl|rfl|rfl|rfl|rfl|rfl|rfl|rfl|rfl|rfl|rfl|rfl|rfl|rfl|rfl|rfl|rfl
  ·rw[Kq]at hu;cases hu
  ·rw[Jq]at hu;cases hu
  ·rw[Oy]at hu;cases hu
  ·rw[Iq]at hu;cases hu
  ·rw[Hq]at hu;cases hu
  ·obtain⟨fs,e⟩:=Ny;rw[e]at hu;cases hu
  ·rw[Gq]at hu;cases hu
  ·rw[bu]at hu;cases hu
  ·rw[Ar]at hu;cases hu
  ·rw[xq]at hu;cases hu;exact⟨by simp[gd],ic (by decide:0<3) (by kernel_rfl:3=Tryz.prog.cellsOf 80),fun l=>⟨(l:List zq),rfl⟩⟩
  ·rw[uq]at hu;cases hu;exact⟨by simp[gd],ic (by decide:0<3) (by kernel_rfl:3=Tryz.prog.cellsOf 27),fun l=>⟨(l:List Zh),rfl⟩⟩
  ·rw[tq]at hu;cases hu;exact⟨by simp[gd],ic (by decide:0<6) (by kernel_rfl:6=Tryz.prog.cellsOf 72),fun l=>⟨(l:List za),rfl⟩⟩
  ·obtain⟨fs,e⟩:=au;rw[e]at hu;cases hu
  ·rw[rq]at hu;cases hu;exact⟨by simp[gd],ic (by decide:0<7) (by kernel_rfl:7=Tryz.prog.cellsOf 30),fun l=>⟨(l:List zt),rfl⟩⟩
  ·obtain⟨fs,e⟩:=Yu;rw[e]at hu;cases hu
  ·rw[Xq]at hu;cases hu;exact⟨by simp[gd],ic (by decide:0<1) (by kernel_rfl:1=Tryz.prog.cellsOf 47),fun l=>⟨(l:List (List Str)),rfl⟩⟩
  ·rw[Wq]at hu;cases hu;exact⟨by simp[gd],ic (by decide:0<12) (by kernel_rfl:12=Tryz.prog.cellsOf 34),fun l=>⟨(l:List z8),rfl⟩⟩
  ·obtain⟨fs,e⟩:=Xu;rw[e]at hu;cases hu
  ·rw[Vq]at hu;cases hu
  ·obtain⟨fs,e⟩:=Wu;rw[e]at hu;cases hu
  ·rw[Uq]at hu;cases hu;exact⟨by simp[gd],ic (by decide:0<1) (by kernel_rfl:1=Tryz.prog.cellsOf 9),fun l=>⟨(l:List Str),rfl⟩⟩
  ·obtain⟨fs,e⟩:=Vu;rw[e]at hu;cases hu
  ·rw[Tq]at hu;cases hu;exact⟨by simp[gd],ic (by decide:0<5) (by kernel_rfl:5=Tryz.prog.cellsOf 70),fun l=>⟨(l:List zk),rfl⟩⟩
  ·obtain⟨fs,e⟩:=Uu;rw[e]at hu;cases hu
  ·obtain⟨fs,e⟩:=Tu;rw[e]at hu;cases hu
  ·rw[Sq]at hu;cases hu;exact⟨by simp[gd],ic (by decide:0<1) (by kernel_rfl:1=Tryz.prog.cellsOf 5),fun l=>⟨(l:List UInt8),rfl⟩⟩
  ·rw[Rq]at hu;cases hu;exact⟨by simp[gd],ic (by decide:0<2) (by kernel_rfl:2=Tryz.prog.cellsOf 98),fun l=>⟨(l:List zO),rfl⟩⟩
  ·obtain⟨fs,e⟩:=eu;rw[e]at hu;cases hu
  ·rw[Pq]at hu;cases hu;exact⟨by simp[gd],ic (by decide:0<1) (by kernel_rfl:1=Tryz.prog.cellsOf 25),fun l=>⟨(l:List (List za)),rfl⟩⟩
  ·rw[Oq]at hu;cases hu;exact⟨by simp[gd],ic (by decide:0<9) (by kernel_rfl:9=Tryz.prog.cellsOf 139),fun l=>⟨(l:List zF),rfl⟩⟩
  ·obtain⟨fs,e⟩:=cu;rw[e]at hu;cases hu
  ·rw[Ir]at hu;cases hu
  ·obtain⟨fs,e⟩:=Sv;rw[e]at hu;cases hu
  ·obtain⟨fs,e⟩:=Rv;rw[e]at hu;cases hu
  ·obtain⟨fs,e⟩:=Pv;rw[e]at hu;cases hu
  ·obtain⟨fs,e⟩:=Ov;rw[e]at hu;cases hu
  ·obtain⟨fs,e⟩:=Nv;rw[e]at hu;cases hu
  ·obtain⟨fs,e⟩:=Mv;rw[e]at hu;cases hu
  ·obtain⟨fs,e⟩:=Kv;rw[e]at hu;cases hu
  ·obtain⟨fs,e⟩:=Jv;rw[e]at hu;cases hu
  ·rw[Hr]at hu;cases hu
  ·obtain⟨fs,e⟩:=Gv;rw[e]at hu;cases hu
  ·rw[Er]at hu;cases hu;exact⟨by simp[gd],ic (by decide:0<1) (by kernel_rfl:1=Tryz.prog.cellsOf 2),fun l=>⟨(l:List Int),rfl⟩⟩
  ·obtain⟨fs,e⟩:=Fv;rw[e]at hu;cases hu
 st:=fun t fs hg hu=>by
  simp only[gd,ja,Jd,Ff]at hg;rcases hg with rfl|rfl|rfl|rfl|rfl|rfl|rfl|rfl|rfl|rfl|rfl|rfl|rfl|rfl|rfl|rfl|rfl|rfl|rfl|rfl|rfl|rfl|rfl|rfl|rfl|rfl|rfl|rfl|rfl|rfl|rfl|rfl|rfl|rfl|rfl|rfl|rfl|rfl|rfl|rfl|rfl|rfl|rfl|rfl
  ·rw[Kq]at hu;cases hu
  ·rw[Jq]at hu;cases hu
  ·rw[Oy]at hu;cases hu
  ·rw[Iq]at hu;cases hu
  ·rw[Hq]at hu;cases hu
  ·refine Xg hu zH9 (by simp[gd]) (by kernel_rfl) (by kernel_rfl) (fun pvs h0=> ?_);obtain⟨_,pvs,rfl,⟨y0,rfl⟩,h1⟩:=zI h0;obtain⟨_,pvs,rfl,⟨y1,rfl⟩,h2⟩:=zI h1;obtain⟨_,pvs,rfl,⟨y2,rfl⟩,h3⟩:=zI h2;obtain⟨_,pvs,rfl,⟨y3,rfl⟩,h4⟩:=zI h3;rw[qX h4];exact⟨(⟨y0,y1,y2,((UInt8.toNat y3:Nat):Int)⟩:ZT),rfl⟩
  ·rw[Gq]at hu;cases hu
  ·rw[bu]at hu;cases hu
  ·rw[Ar]at hu;cases hu
  ·rw[xq]at hu;cases hu
  ·rw[uq]at hu;cases hu
  ·rw[tq]at hu;cases hu
  ·refine Xg hu zGL (by simp[gd]) (by kernel_rfl) (by kernel_rfl) (fun pvs h0=> ?_);obtain⟨_,pvs,rfl,⟨y0,rfl⟩,h1⟩:=zI h0;obtain⟨_,pvs,rfl,⟨y1,rfl⟩,h2⟩:=zI h1;obtain⟨_,pvs,rfl,⟨y2,rfl⟩,h3⟩:=zI h2;rw[qX h3];exact⟨(⟨y0,y1,y2⟩:Zh),rfl⟩
  ·rw[rq]at hu;cases hu
  ·refine Xg hu zGM (by simp[gd]) (by kernel_rfl) (by kernel_rfl) (fun pvs h0=> ?_);obtain⟨_,pvs,rfl,⟨y0,rfl⟩,h1⟩:=zI h0;obtain⟨_,pvs,rfl,⟨y1,rfl⟩,h2⟩:=zI h1;obtain⟨_,pvs,rfl,⟨y2,rfl⟩,h3⟩:=zI h2;obtain⟨_,pvs,rfl,⟨y3,rfl⟩,h4⟩:=zI h3;obtain⟨_,pvs,rfl,⟨y4,rfl⟩,h5⟩:=zI h4;rw[qX h5];exact⟨(⟨((UInt8.toNat y0:Nat):Int),y1,y2,y3,y4⟩:zt),(gP ((UInt8.toNat y0:Nat):Int) y1 y2 y3 y4).trans rfl⟩
  ·rw[Xq]at hu;cases hu
  ·rw[Wq]at hu;cases hu
  ·refine Xg hu zGN (by simp[gd]) (by kernel_rfl) (by kernel_rfl) (fun pvs h0=> ?_);obtain⟨_,pvs,rfl,⟨y0,rfl⟩,h1⟩:=zI h0;obtain⟨_,pvs,rfl,⟨y1,rfl⟩,h2⟩:=zI h1;obtain⟨_,pvs,rfl,⟨y2,rfl⟩,h3⟩:=zI h2;obtain⟨_,pvs,rfl,⟨y3,rfl⟩,h4⟩:=zI h3;obtain⟨_,pvs,rfl,⟨y4,rfl⟩,h5⟩:=zI h4;obtain⟨_,pvs,rfl,⟨y5,rfl⟩,h6⟩:=zI h5;rw[qX h6];exact⟨(⟨((UInt8.toNat y0:Nat):Int),y1,y2,y3,y4,y5⟩:z8),(eP ((UInt8.toNat y0:Nat):Int) y1 y2 y3 y4 y5).trans (by
    show [.at (.int .u8 ((UInt8.toNat y0:Nat):Int))]++([.sl (y1.map zy)]++([.sl (y2.map ZC)]++([.at (.int .u8 y3.kind), .str y3.name, .at (.int .i64 y3.num), .str y3.decl.name, .sl (y3.decl.value.map zg), .at (.bool y3.decl.important), .sl (y3.list.map zu)]++([.sl (y4.map (fun y=>[.sl (y.map (fun y=>[.str y]))]))]++([.sl (y5.map zG)]++([]:List PV))))))=_;rw[<-LQ y3];rfl)⟩
  ·rw[Vq]at hu;cases hu
  ·refine Xg hu zGO (by simp[gd]) (by kernel_rfl) (by kernel_rfl) (fun pvs h0=> ?_);obtain⟨_,pvs,rfl,⟨y0,rfl⟩,h1⟩:=zI h0;rw[qX h1];exact⟨(⟨y0⟩:zbr),rfl⟩
  ·rw[Uq]at hu;cases hu
  ·refine Xg hu zGP (by simp[gd]) (by kernel_rfl) (by kernel_rfl) (fun pvs h0=> ?_);obtain⟨_,pvs,rfl,⟨y0,rfl⟩,h1⟩:=zI h0;obtain⟨_,pvs,rfl,⟨y1,rfl⟩,h2⟩:=zI h1;rw[qX h2];exact⟨(⟨y0,y1⟩:zx),rfl⟩
  ·rw[Tq]at hu;cases hu
  ·refine Xg hu zGQ (by simp[gd]) (by kernel_rfl) (by kernel_rfl) (fun pvs h0=> ?_);obtain⟨_,pvs,rfl,⟨y0,rfl⟩,h1⟩:=zI h0;obtain⟨_,pvs,rfl,⟨y1,rfl⟩,h2⟩:=zI h1;obtain⟨_,pvs,rfl,⟨y2,rfl⟩,h3⟩:=zI h2;obtain⟨_,pvs,rfl,⟨y3,rfl⟩,h4⟩:=zI h3;obtain⟨_,pvs,rfl,⟨y4,rfl⟩,h5⟩:=zI h4;rw[qX h5];exact⟨(⟨((UInt8.toNat y0:Nat):Int),y1,y2,y3,y4⟩:zk),rfl⟩
  ·refine Xg hu zGR (by simp[gd]) (by kernel_rfl) (by kernel_rfl) (fun pvs h0=> ?_);obtain⟨_,pvs,rfl,⟨y0,rfl⟩,h1⟩:=zI h0;obtain⟨_,pvs,rfl,⟨y1,rfl⟩,h2⟩:=zI h1;rw[qX h2];exact⟨(⟨y0,y1⟩:za),(KQ y0 y1).trans rfl⟩
  ·rw[Sq]at hu;cases hu
  ·rw[Rq]at hu;cases hu
  ·refine Xg hu zGS (by simp[gd]) (by kernel_rfl) (by kernel_rfl) (fun pvs h0=> ?_);obtain⟨_,pvs,rfl,⟨y0,rfl⟩,h1⟩:=zI h0;obtain⟨_,pvs,rfl,⟨y1,rfl⟩,h2⟩:=zI h1;obtain⟨_,pvs,rfl,⟨y2,rfl⟩,h3⟩:=zI h2;rw[qX h3];exact⟨(⟨((UInt8.toNat y0:Nat):Int),y1,y2⟩:zq),(vQ ((UInt8.toNat y0:Nat):Int) y1 y2).trans rfl⟩
  ·rw[Pq]at hu;cases hu
  ·rw[Oq]at hu;cases hu
  ·refine Xg hu zGT (by simp[gd]) (by kernel_rfl) (by kernel_rfl) (fun pvs h0=> ?_);obtain⟨_,pvs,rfl,⟨y0,rfl⟩,h1⟩:=zI h0;obtain⟨_,pvs,rfl,⟨y1,rfl⟩,h2⟩:=zI h1;rw[qX h2];exact⟨(⟨y0,y1⟩:zO),(pQ y0 y1).trans rfl⟩
  ·rw[Ir]at hu;cases hu
  ·refine Xg hu zEQ (by simp[gd]) (by kernel_rfl) (by kernel_rfl) (fun pvs h0=> ?_);obtain⟨_,pvs,rfl,⟨y0,rfl⟩,h1⟩:=zI h0;obtain⟨_,pvs,rfl,⟨y1,rfl⟩,h2⟩:=zI h1;rw[qX h2];exact⟨(⟨y0,y1⟩:zb),rfl⟩
  ·refine Xg hu zER (by simp[gd]) (by kernel_rfl) (by kernel_rfl) (fun pvs h0=> ?_);obtain⟨_,pvs,rfl,⟨y0,rfl⟩,h1⟩:=zI h0;obtain⟨_,pvs,rfl,⟨y1,rfl⟩,h2⟩:=zI h1;obtain⟨_,pvs,rfl,⟨y2,rfl⟩,h3⟩:=zI h2;rw[qX h3];exact⟨(⟨y0,y1,y2⟩:zZ),rfl⟩
  ·refine Xg hu zES (by simp[gd]) (by kernel_rfl) (by kernel_rfl) (fun pvs h0=> ?_);obtain⟨_,pvs,rfl,⟨y0,rfl⟩,h1⟩:=zI h0;obtain⟨_,pvs,rfl,⟨y1,rfl⟩,h2⟩:=zI h1;rw[qX h2];exact⟨(⟨y0,y1⟩:VAnb),rfl⟩
  ·refine Xg hu zET (by simp[gd]) (by kernel_rfl) (by kernel_rfl) (fun pvs h0=> ?_);obtain⟨_,pvs,rfl,⟨y0,rfl⟩,h1⟩:=zI h0;obtain⟨_,pvs,rfl,⟨y1,rfl⟩,h2⟩:=zI h1;obtain⟨_,pvs,rfl,⟨y2,rfl⟩,h3⟩:=zI h2;obtain⟨_,pvs,rfl,⟨y3,rfl⟩,h4⟩:=zI h3;obtain⟨_,pvs,rfl,⟨y4,rfl⟩,h5⟩:=zI h4;obtain⟨_,pvs,rfl,⟨y5,rfl⟩,h6⟩:=zI h5;obtain⟨_,pvs,rfl,⟨y6,rfl⟩,h7⟩:=zI h6;rw[qX h7];exact⟨(⟨((UInt8.toNat y0:Nat):Int),y1,((UInt8.toNat y2:Nat):Int),y3,y4,y5,y6⟩:Qp),rfl⟩
  ·refine Xg hu zEU (by simp[gd]) (by kernel_rfl) (by kernel_rfl) (fun pvs h0=> ?_);obtain⟨_,pvs,rfl,⟨y0,rfl⟩,h1⟩:=zI h0;obtain⟨_,pvs,rfl,⟨y1,rfl⟩,h2⟩:=zI h1;obtain⟨_,pvs,rfl,⟨y2,rfl⟩,h3⟩:=zI h2;obtain⟨_,pvs,rfl,⟨y3,rfl⟩,h4⟩:=zI h3;obtain⟨_,pvs,rfl,⟨y4,rfl⟩,h5⟩:=zI h4;obtain⟨_,pvs,rfl,⟨y5,rfl⟩,h6⟩:=zI h5;obtain⟨_,pvs,rfl,⟨y6,rfl⟩,h7⟩:=zI h6;obtain⟨_,pvs,rfl,⟨y7,rfl⟩,h8⟩:=zI h7;rw[qX h8];exact⟨(⟨((UInt8.toNat y0:Nat):Int),y1,((UInt8.toNat y2:Nat):Int),y3,y4,y5,y6,y7⟩:zF),(aQ ((UInt8.toNat y0:Nat):Int) y1 ((UInt8.toNat y2:Nat):Int) y3 y4 y5 y6 y7).trans rfl⟩
  ·refine Xg hu zEV (by simp[gd]) (by kernel_rfl) (by kernel_rfl) (fun pvs h0=> ?_);obtain⟨_,pvs,rfl,⟨y0,rfl⟩,h1⟩:=zI h0;rw[qX h1];exact⟨(⟨y0⟩:zh),rfl⟩
  ·refine Xg hu zEW (by simp[gd]) (by kernel_rfl) (by kernel_rfl) (fun pvs h0=> ?_);obtain⟨_,pvs,rfl,⟨y0,rfl⟩,h1⟩:=zI h0;obtain⟨_,pvs,rfl,⟨y1,rfl⟩,h2⟩:=zI h1;rw[qX h2];exact⟨(⟨y0,y1⟩:zf),rfl⟩
  ·refine Xg hu zEX (by simp[gd]) (by kernel_rfl) (by kernel_rfl) (fun pvs h0=> ?_);obtain⟨_,pvs,rfl,⟨y0,rfl⟩,h1⟩:=zI h0;obtain⟨_,pvs,rfl,⟨y1,rfl⟩,h2⟩:=zI h1;obtain⟨_,pvs,rfl,⟨y2,rfl⟩,h3⟩:=zI h2;rw[qX h3];exact⟨(⟨y0,y1,y2⟩:Zq),rfl⟩
  ·rw[Hr]at hu;cases hu
  ·refine Xg hu zEY (by simp[gd]) (by kernel_rfl) (by kernel_rfl) (fun pvs h0=> ?_);obtain⟨_,pvs,rfl,⟨y0,rfl⟩,h1⟩:=zI h0;obtain⟨_,pvs,rfl,⟨y1,rfl⟩,h2⟩:=zI h1;rw[qX h2];exact⟨(⟨y0,y1⟩:zm),rfl⟩
  ·rw[Er]at hu;cases hu
  ·refine Xg hu zEZ (by simp[gd]) (by kernel_rfl) (by kernel_rfl) (fun pvs h0=> ?_);obtain⟨_,pvs,rfl,⟨y0,rfl⟩,h1⟩:=zI h0;rw[qX h1];exact⟨(⟨y0⟩:zM),rfl⟩
 only:=fun t u hg hu=>by
  simp only[gd,ja,Jd,Ff]at hg;rcases hg with rfl|rfl|rfl|rfl|rfl|rfl|rfl|rfl|rfl|rfl|rfl|rfl|rfl|rfl|rfl|rfl|rfl|rfl|rfl|rfl|rfl|rfl|rfl|rfl|rfl|rfl|rfl|rfl|rfl|rfl|rfl|rfl|rfl|rfl|rfl|rfl|rfl|rfl|rfl|rfl|rfl|rfl|rfl|rfl
  ·rw[Kq]at hu;cases hu;exact .inl ⟨_,rfl⟩
  ·rw[Jq]at hu;cases hu;exact .inl ⟨_,rfl⟩
  ·rw[Oy]at hu;cases hu;exact .inr (.inl rfl)
  ·rw[Iq]at hu;cases hu;exact .inl ⟨_,rfl⟩
  ·rw[Hq]at hu;cases hu;exact .inl ⟨_,rfl⟩
  ·obtain⟨fs,e⟩:=Ny;rw[e]at hu;cases hu;exact .inr (.inr (.inr (.inr ⟨_,rfl⟩)))
  ·rw[Gq]at hu;cases hu;exact .inr (.inr (.inl rfl))
  ·rw[bu]at hu;cases hu;exact .inr (.inr (.inl rfl))
  ·rw[Ar]at hu;cases hu;exact .inl ⟨_,rfl⟩
  ·rw[xq]at hu;cases hu;exact .inr (.inr (.inr (.inl ⟨_,rfl⟩)))
  ·rw[uq]at hu;cases hu;exact .inr (.inr (.inr (.inl ⟨_,rfl⟩)))
  ·rw[tq]at hu;cases hu;exact .inr (.inr (.inr (.inl ⟨_,rfl⟩)))
  ·obtain⟨fs,e⟩:=au;rw[e]at hu;cases hu;exact .inr (.inr (.inr (.inr ⟨_,rfl⟩)))
  ·rw[rq]at hu;cases hu;exact .inr (.inr (.inr (.inl ⟨_,rfl⟩)))
  ·obtain⟨fs,e⟩:=Yu;rw[e]at hu;cases hu;exact .inr (.inr (.inr (.inr ⟨_,rfl⟩)))
  ·rw[Xq]at hu;cases hu;exact .inr (.inr (.inr (.inl ⟨_,rfl⟩)))
  ·rw[Wq]at hu;cases hu;exact .inr (.inr (.inr (.inl ⟨_,rfl⟩)))
  ·obtain⟨fs,e⟩:=Xu;rw[e]at hu;cases hu;exact .inr (.inr (.inr (.inr ⟨_,rfl⟩)))
  ·rw[Vq]at hu;cases hu;exact .inl ⟨_,rfl⟩
  ·obtain⟨fs,e⟩:=Wu;rw[e]at hu;cases hu;exact .inr (.inr (.inr (.inr ⟨_,rfl⟩)))
  ·rw[Uq]at hu;cases hu;exact .inr (.inr (.inr (.inl ⟨_,rfl⟩)))
  ·obtain⟨fs,e⟩:=Vu;rw[e]at hu;cases hu;exact .inr (.inr (.inr (.inr ⟨_,rfl⟩)))
  ·rw[Tq]at hu;cases hu;exact .inr (.inr (.inr (.inl ⟨_,rfl⟩)))
  ·obtain⟨fs,e⟩:=Uu;rw[e]at hu;cases hu;exact .inr (.inr (.inr (.inr ⟨_,rfl⟩)))
  ·obtain⟨fs,e⟩:=Tu;rw[e]at hu;cases hu;exact .inr (.inr (.inr (.inr ⟨_,rfl⟩)))
  ·rw[Sq]at hu;cases hu;exact .inr (.inr (.inr (.inl ⟨_,rfl⟩)))
  ·rw[Rq]at hu;cases hu;exact .inr (.inr (.inr (.inl ⟨_,rfl⟩)))
  ·obtain⟨fs,e⟩:=eu;rw[e]at hu;cases hu;exact .inr (.inr (.inr (.inr ⟨_,rfl⟩)))
  ·rw[Pq]at hu;cases hu;exact .inr (.inr (.inr (.inl ⟨_,rfl⟩)))
  ·rw[Oq]at hu;cases hu;exact .inr (.inr (.inr (.inl ⟨_,rfl⟩)))
  ·obtain⟨fs,e⟩:=cu;rw[e]at hu;cases hu;exact .inr (.inr (.inr (.inr ⟨_,rfl⟩)))
  ·rw[Ir]at hu;cases hu;exact .inl ⟨_,rfl⟩
  ·obtain⟨fs,e⟩:=Sv;rw[e]at hu;cases hu;exact .inr (.inr (.inr (.inr ⟨_,rfl⟩)))
  ·obtain⟨fs,e⟩:=Rv;rw[e]at hu;cases hu;exact .inr (.inr (.inr (.inr ⟨_,rfl⟩)))
  ·obtain⟨fs,e⟩:=Pv;rw[e]at hu;cases hu;exact .inr (.inr (.inr (.inr ⟨_,rfl⟩)))
  ·obtain⟨fs,e⟩:=Ov;rw[e]at hu;cases hu;exact .inr (.inr (.inr (.inr ⟨_,rfl⟩)))
  ·obtain⟨fs,e⟩:=Nv;rw[e]at hu;cases hu;exact .inr (.inr (.inr (.inr ⟨_,rfl⟩)))
  ·obtain⟨fs,e⟩:=Mv;rw[e]at hu;cases hu;exact .inr (.inr (.inr (.inr ⟨_,rfl⟩)))
  ·obtain⟨fs,e⟩:=Kv;rw[e]at hu;cases hu;exact .inr (.inr (.inr (.inr ⟨_,rfl⟩)))
  ·obtain⟨fs,e⟩:=Jv;rw[e]at hu;cases hu;exact .inr (.inr (.inr (.inr ⟨_,rfl⟩)))
  ·rw[Hr]at hu;cases hu;exact .inl ⟨_,rfl⟩
  ·obtain⟨fs,e⟩:=Gv;rw[e]at hu;cases hu;exact .inr (.inr (.inr (.inr ⟨_,rfl⟩)))
  ·rw[Er]at hu;cases hu;exact .inr (.inr (.inr (.inl ⟨_,rfl⟩)))
  ·obtain⟨fs,e⟩:=Fv;rw[e]at hu;cases hu;exact .inr (.inr (.inr (.inr ⟨_,rfl⟩)))
end Go.Lv.VT
