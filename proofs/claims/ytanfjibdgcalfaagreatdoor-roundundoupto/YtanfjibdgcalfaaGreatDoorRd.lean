/- Which values may come in. -/
import Derived.Test.YtanfjibdgcalfaaGreatDoorIp
import Derived.Test.YtanfjibdgcalfaaGreatDoorLf
set_option linter.unusedSimpArgs false
set_option linter.unusedVariables false
namespace Go.Lv.VT
set_option maxRecDepth 100000
open Go.Proofs
def gd:List Nat:=[2,3,4,5,6,7,9,11,21,23,25,26,29,30,31,33,34,36,37,39,42,59,63,65,66,68,70,72,77,80,90,131,133,135,151,155,192,212,242,252,272,316,326,330,332,335,363]
theorem tq:Tryz.prog.underlying 2=some (.int .i64):=by kernel_rfl
theorem om:Tryz.prog.underlying 3=some (.int .i64):=by kernel_rfl
theorem Sv:Tryz.prog.underlying 4=some (.bool):=by kernel_rfl
theorem rq:Tryz.prog.underlying 5=some (.int .u8):=by kernel_rfl
theorem pq:Tryz.prog.underlying 6=some (.int .u8):=by kernel_rfl
theorem Rv: ∃fs,Tryz.prog.underlying 7=some (.struct fs):=⟨(match Tryz.prog.underlying 7 with|some (.struct fs)=>fs|_=> #[]),by kernel_rfl⟩
theorem zOg:Nf Tryz.prog 7=[(2,0),(3,1),(4,2),(6,3)]:=by kernel_rfl
theorem Kv:Tryz.prog.underlying 9=some (.string):=by kernel_rfl
theorem Kw:Tryz.prog.underlying 11=some (.string):=by kernel_rfl
theorem Wn:Tryz.prog.underlying 21=some (.int .i32):=by kernel_rfl
theorem Vn:Tryz.prog.underlying 23=some (.slice 39):=by kernel_rfl
theorem Jw: ∃fs,Tryz.prog.underlying 25=some (.struct fs):=⟨(match Tryz.prog.underlying 25 with|some (.struct fs)=>fs|_=> #[]),by kernel_rfl⟩
theorem zNB:Nf Tryz.prog 25=[(23,0)]:=by kernel_rfl
theorem Un:Tryz.prog.underlying 26=some (.int .i64):=by kernel_rfl
theorem Tn:Tryz.prog.underlying 29=some (.slice 68):=by kernel_rfl
theorem Sn:Tryz.prog.underlying 30=some (.slice 33):=by kernel_rfl
theorem Rn:Tryz.prog.underlying 31=some (.slice 135):=by kernel_rfl
theorem Iw: ∃fs,Tryz.prog.underlying 33=some (.struct fs):=⟨(match Tryz.prog.underlying 33 with|some (.struct fs)=>fs|_=> #[]),by kernel_rfl⟩
theorem zNC:Nf Tryz.prog 33=[(9,0),(31,1),(4,2)]:=by kernel_rfl
theorem Pn:Tryz.prog.underlying 34=some (.slice 36):=by kernel_rfl
theorem Hw: ∃fs,Tryz.prog.underlying 36=some (.struct fs):=⟨(match Tryz.prog.underlying 36 with|some (.struct fs)=>fs|_=> #[]),by kernel_rfl⟩
theorem zND:Nf Tryz.prog 36=[(5,0),(9,1),(2,2),(33,3),(34,6)]:=by kernel_rfl
theorem Nn:Tryz.prog.underlying 37=some (.slice 59):=by kernel_rfl
theorem Gw: ∃fs,Tryz.prog.underlying 39=some (.struct fs):=⟨(match Tryz.prog.underlying 39 with|some (.struct fs)=>fs|_=> #[]),by kernel_rfl⟩
theorem zNE:Nf Tryz.prog 39=[(5,0),(29,1),(30,2),(36,3),(37,10),(23,11)]:=by kernel_rfl
theorem Kn:Tryz.prog.underlying 42=some (.slice 5):=by kernel_rfl
theorem Io:Tryz.prog.underlying 59=some (.slice 9):=by kernel_rfl
theorem Ho:Tryz.prog.underlying 63=some (.slice 72):=by kernel_rfl
theorem Fw: ∃fs,Tryz.prog.underlying 65=some (.struct fs):=⟨(match Tryz.prog.underlying 65 with|some (.struct fs)=>fs|_=> #[]),by kernel_rfl⟩
theorem zNF:Nf Tryz.prog 65=[(9,0),(63,1)]:=by kernel_rfl
theorem Eo:Tryz.prog.underlying 66=some (.slice 65):=by kernel_rfl
theorem Ew: ∃fs,Tryz.prog.underlying 68=some (.struct fs):=⟨(match Tryz.prog.underlying 68 with|some (.struct fs)=>fs|_=> #[]),by kernel_rfl⟩
theorem zNG:Nf Tryz.prog 68=[(5,0),(66,1),(42,2)]:=by kernel_rfl
theorem Dw: ∃fs,Tryz.prog.underlying 70=some (.struct fs):=⟨(match Tryz.prog.underlying 70 with|some (.struct fs)=>fs|_=> #[]),by kernel_rfl⟩
theorem zNH:Nf Tryz.prog 70=[(2,0),(2,1)]:=by kernel_rfl
theorem Cw: ∃fs,Tryz.prog.underlying 72=some (.struct fs):=⟨(match Tryz.prog.underlying 72 with|some (.struct fs)=>fs|_=> #[]),by kernel_rfl⟩
theorem zNI:Nf Tryz.prog 72=[(5,0),(9,1),(5,2),(9,3),(4,4),(70,5),(4,7),(29,8)]:=by kernel_rfl
theorem Bw: ∃fs,Tryz.prog.underlying 77=some (.struct fs):=⟨(match Tryz.prog.underlying 77 with|some (.struct fs)=>fs|_=> #[]),by kernel_rfl⟩
theorem zNJ:Nf Tryz.prog 77=[(3,0),(3,1),(4,2)]:=by kernel_rfl
theorem Aw: ∃fs,Tryz.prog.underlying 80=some (.struct fs):=⟨(match Tryz.prog.underlying 80 with|some (.struct fs)=>fs|_=> #[]),by kernel_rfl⟩
theorem zNK:Nf Tryz.prog 80=[(3,0),(3,1)]:=by kernel_rfl
theorem Co:Tryz.prog.underlying 90=some (.slice 131):=by kernel_rfl
theorem mr: ∃fs,Tryz.prog.underlying 131=some (.struct fs):=⟨(match Tryz.prog.underlying 131 with|some (.struct fs)=>fs|_=> #[]),by kernel_rfl⟩
theorem zMv:Nf Tryz.prog 131=[(5,0),(9,1),(2,2),(9,3),(4,4)]:=by kernel_rfl
theorem oo:Tryz.prog.underlying 133=some (.slice 31):=by kernel_rfl
theorem kr: ∃fs,Tryz.prog.underlying 135=some (.struct fs):=⟨(match Tryz.prog.underlying 135 with|some (.struct fs)=>fs|_=> #[]),by kernel_rfl⟩
theorem zMw:Nf Tryz.prog 135=[(131,0),(31,5)]:=by kernel_rfl
theorem jr: ∃fs,Tryz.prog.underlying 151=some (.struct fs):=⟨(match Tryz.prog.underlying 151 with|some (.struct fs)=>fs|_=> #[]),by kernel_rfl⟩
theorem zMx:Nf Tryz.prog 151=[(3,0),(4,1)]:=by kernel_rfl
theorem Yr: ∃fs,Tryz.prog.underlying 155=some (.struct fs):=⟨(match Tryz.prog.underlying 155 with|some (.struct fs)=>fs|_=> #[]),by kernel_rfl⟩
theorem zMy:Nf Tryz.prog 155=[(3,0),(3,1),(4,2)]:=by kernel_rfl
theorem Ur: ∃fs,Tryz.prog.underlying 192=some (.struct fs):=⟨(match Tryz.prog.underlying 192 with|some (.struct fs)=>fs|_=> #[]),by kernel_rfl⟩
theorem zMz:Nf Tryz.prog 192=[(9,0),(3,1)]:=by kernel_rfl
theorem Sr: ∃fs,Tryz.prog.underlying 212=some (.struct fs):=⟨(match Tryz.prog.underlying 212 with|some (.struct fs)=>fs|_=> #[]),by kernel_rfl⟩
theorem zMA:Nf Tryz.prog 212=[(5,0),(9,1),(5,2),(9,3),(4,4),(70,5),(4,7)]:=by kernel_rfl
theorem Nr: ∃fs,Tryz.prog.underlying 242=some (.struct fs):=⟨(match Tryz.prog.underlying 242 with|some (.struct fs)=>fs|_=> #[]),by kernel_rfl⟩
theorem zMB:Nf Tryz.prog 242=[(31,0)]:=by kernel_rfl
theorem Mr: ∃fs,Tryz.prog.underlying 252=some (.struct fs):=⟨(match Tryz.prog.underlying 252 with|some (.struct fs)=>fs|_=> #[]),by kernel_rfl⟩
theorem zMC:Nf Tryz.prog 252=[(3,0),(4,1)]:=by kernel_rfl
theorem mo:Tryz.prog.underlying 272=some (.int .u32):=by kernel_rfl
theorem ko:Tryz.prog.underlying 316=some (.int .u64):=by kernel_rfl
theorem jo:Tryz.prog.underlying 326=some (.slice 2):=by kernel_rfl
theorem Yo:Tryz.prog.underlying 330=some (.slice 332):=by kernel_rfl
theorem Lr: ∃fs,Tryz.prog.underlying 332=some (.struct fs):=⟨(match Tryz.prog.underlying 332 with|some (.struct fs)=>fs|_=> #[]),by kernel_rfl⟩
theorem zMD:Nf Tryz.prog 332=[(3,0),(3,1)]:=by kernel_rfl
theorem Xo:Tryz.prog.underlying 335=some (.int .u64):=by kernel_rfl
theorem Kr: ∃fs,Tryz.prog.underlying 363=some (.struct fs):=⟨(match Tryz.prog.underlying 363 with|some (.struct fs)=>fs|_=> #[]),by kernel_rfl⟩
theorem zME:Nf Tryz.prog 363=[(31,0),(3,1)]:=by kernel_rfl
theorem ipRd:IpRd Tryz.prog I (fun t=>t∈gd)where
 int:=fun t k hg hu n h1 h2=>by
  simp only[gd,Db,Ed,Dg]at hg;rcases hg with rfl|rfl|rfl|rfl|rfl|rfl|rfl|rfl|rfl|rfl|rfl|rfl|rfl|rfl|rfl|rfl|rfl|rfl|rfl|rfl|rfl|rfl|rfl|rfl|rfl|rfl|rfl|rfl|rfl|rfl|rfl|rfl|rfl|rfl|rfl|rfl|rfl|rfl|rfl|rfl|rfl|rfl|rfl|rfl|rfl|rfl|rfl
  ·rw[tq]at hu;cases hu;exact⟨(n:Int),rfl⟩
  ·rw[om]at hu;cases hu;exact⟨(n:Int),rfl⟩
  ·rw[Sv]at hu;cases hu
  ·rw[rq]at hu;cases hu;exact⟨UInt8.ofNat n.toNat,WS h1 h2⟩
  ·rw[pq]at hu;cases hu;exact⟨UInt8.ofNat n.toNat,WS h1 h2⟩
  ·obtain⟨fs,e⟩:=Rv;rw[e]at hu;cases hu
  ·rw[Kv]at hu;cases hu
  ·rw[Kw]at hu;cases hu
  ·rw[Wn]at hu;cases hu;exact⟨(n:Int),rfl⟩
  ·rw[Vn]at hu;cases hu
  ·obtain⟨fs,e⟩:=Jw;rw[e]at hu;cases hu
  ·rw[Un]at hu;cases hu;exact⟨(n:Int),rfl⟩
  ·rw[Tn]at hu;cases hu
  ·rw[Sn]at hu;cases hu
  ·rw[Rn]at hu;cases hu
  ·obtain⟨fs,e⟩:=Iw;rw[e]at hu;cases hu
  ·rw[Pn]at hu;cases hu
  ·obtain⟨fs,e⟩:=Hw;rw[e]at hu;cases hu
  ·rw[Nn]at hu;cases hu
  ·obtain⟨fs,e⟩:=Gw;rw[e]at hu;cases hu
  ·rw[Kn]at hu;cases hu
  ·rw[Io]at hu;cases hu
  ·rw[Ho]at hu;cases hu
  ·obtain⟨fs,e⟩:=Fw;rw[e]at hu;cases hu
  ·rw[Eo]at hu;cases hu
  ·obtain⟨fs,e⟩:=Ew;rw[e]at hu;cases hu
  ·obtain⟨fs,e⟩:=Dw;rw[e]at hu;cases hu
  ·obtain⟨fs,e⟩:=Cw;rw[e]at hu;cases hu
  ·obtain⟨fs,e⟩:=Bw;rw[e]at hu;cases hu
  ·obtain⟨fs,e⟩:=Aw;rw[e]at hu;cases hu
  ·rw[Co]at hu;cases hu
  ·obtain⟨fs,e⟩:=mr;rw[e]at hu;cases hu
  ·rw[oo]at hu;cases hu
  ·obtain⟨fs,e⟩:=kr;rw[e]at hu;cases hu
  ·obtain⟨fs,e⟩:=jr;rw[e]at hu;cases hu
  ·obtain⟨fs,e⟩:=Yr;rw[e]at hu;cases hu
  ·obtain⟨fs,e⟩:=Ur;rw[e]at hu;cases hu
  ·obtain⟨fs,e⟩:=Sr;rw[e]at hu;cases hu
  ·obtain⟨fs,e⟩:=Nr;rw[e]at hu;cases hu
  ·obtain⟨fs,e⟩:=Mr;rw[e]at hu;cases hu
  ·rw[mo]at hu;cases hu;exact⟨(n:Int),rfl⟩
  ·rw[ko]at hu;cases hu;exact⟨(n:Int),rfl⟩
  ·rw[jo]at hu;cases hu
  ·rw[Yo]at hu;cases hu
  ·obtain⟨fs,e⟩:=Lr;rw[e]at hu;cases hu
  ·rw[Xo]at hu;cases hu;exact⟨(n:Int),rfl⟩
  ·obtain⟨fs,e⟩:=Kr;rw[e]at hu;cases hu
 bool:=fun t hg hu b=>by
  simp only[gd,Db,Ed,Dg]at hg;rcases hg with rfl|rfl|rfl|rfl|rfl|rfl|rfl|rfl|rfl|rfl|rfl|rfl|rfl|rfl|rfl|rfl|rfl|rfl|rfl|rfl|rfl|rfl|rfl|rfl|rfl|rfl|rfl|rfl|rfl|rfl|rfl|rfl|rfl|rfl|rfl|rfl|rfl|rfl|rfl|rfl|rfl|rfl|rfl|rfl|rfl|rfl|rfl
  ·rw[tq]at hu;cases hu
  ·rw[om]at hu;cases hu
  ·exact⟨(b:Bool),rfl⟩
  ·rw[rq]at hu;cases hu
  ·rw[pq]at hu;cases hu
  ·obtain⟨fs,e⟩:=Rv;rw[e]at hu;cases hu
  ·rw[Kv]at hu;cases hu
  ·rw[Kw]at hu;cases hu
  ·rw[Wn]at hu;cases hu
  ·rw[Vn]at hu;cases hu
  ·obtain⟨fs,e⟩:=Jw;rw[e]at hu;cases hu
  ·rw[Un]at hu;cases hu
  ·rw[Tn]at hu;cases hu
  ·rw[Sn]at hu;cases hu
  ·rw[Rn]at hu;cases hu
  ·obtain⟨fs,e⟩:=Iw;rw[e]at hu;cases hu
  ·rw[Pn]at hu;cases hu
  ·obtain⟨fs,e⟩:=Hw;rw[e]at hu;cases hu
  ·rw[Nn]at hu;cases hu
  ·obtain⟨fs,e⟩:=Gw;rw[e]at hu;cases hu
  ·rw[Kn]at hu;cases hu
  ·rw[Io]at hu;cases hu
  ·rw[Ho]at hu;cases hu
  ·obtain⟨fs,e⟩:=Fw;rw[e]at hu;cases hu
  ·rw[Eo]at hu;cases hu
  ·obtain⟨fs,e⟩:=Ew;rw[e]at hu;cases hu
  ·obtain⟨fs,e⟩:=Dw;rw[e]at hu;cases hu
  ·obtain⟨fs,e⟩:=Cw;rw[e]at hu;cases hu
  ·obtain⟨fs,e⟩:=Bw;rw[e]at hu;cases hu
  ·obtain⟨fs,e⟩:=Aw;rw[e]at hu;cases hu
  ·rw[Co]at hu;cases hu
  ·obtain⟨fs,e⟩:=mr;rw[e]at hu;cases hu
  ·rw[oo]at hu;cases hu
  ·obtain⟨fs,e⟩:=kr;rw[e]at hu;cases hu
  ·obtain⟨fs,e⟩:=jr;rw[e]at hu;cases hu
  ·obtain⟨fs,e⟩:=Yr;rw[e]at hu;cases hu
  ·obtain⟨fs,e⟩:=Ur;rw[e]at hu;cases hu
  ·obtain⟨fs,e⟩:=Sr;rw[e]at hu;cases hu
  ·obtain⟨fs,e⟩:=Nr;rw[e]at hu;cases hu
  ·obtain⟨fs,e⟩:=Mr;rw[e]at hu;cases hu
  ·rw[mo]at hu;cases hu
  ·rw[ko]at hu;cases hu
  ·rw[jo]at hu;cases hu
  ·rw[Yo]at hu;cases hu
  ·obtain⟨fs,e⟩:=Lr;rw[e]at hu;cases hu
  ·rw[Xo]at hu;cases hu
  ·obtain⟨fs,e⟩:=Kr;rw[e]at hu;cases hu
 str:=fun t hg hu l=>by
  simp only[gd,Db,Ed,Dg]at hg;rcases hg with rfl|rfl|rfl|rfl|rfl|rfl|rfl|rfl|rfl|rfl|rfl|rfl|rfl|rfl|rfl|rfl|rfl|rfl|rfl|rfl|rfl|rfl|rfl|rfl|rfl|rfl|rfl|rfl|rfl|rfl|rfl|rfl|rfl|rfl|rfl|rfl|rfl|rfl|rfl|rfl|rfl|rfl|rfl|rfl|rfl|rfl|rfl
  ·rw[tq]at hu;cases hu
  ·rw[om]at hu;cases hu
  ·rw[Sv]at hu;cases hu
  ·rw[rq]at hu;cases hu
  ·rw[pq]at hu;cases hu
  ·obtain⟨fs,e⟩:=Rv;rw[e]at hu;cases hu
  ·exact⟨(l:Str),rfl⟩
  ·exact⟨(l:Str),rfl⟩
  ·rw[Wn]at hu;cases hu
  ·rw[Vn]at hu;cases hu
  ·obtain⟨fs,e⟩:=Jw;rw[e]at hu;cases hu
  ·rw[Un]at hu;cases hu
  ·rw[Tn]at hu;cases hu
  ·rw[Sn]at hu;cases hu
  ·rw[Rn]at hu;cases hu
  ·obtain⟨fs,e⟩:=Iw;rw[e]at hu;cases hu
  ·rw[Pn]at hu;cases hu
  ·obtain⟨fs,e⟩:=Hw;rw[e]at hu;cases hu
  ·rw[Nn]at hu;cases hu
  ·obtain⟨fs,e⟩:=Gw;rw[e]at hu;cases hu
  ·rw[Kn]at hu;cases hu
  ·rw[Io]at hu;cases hu
  ·rw[Ho]at hu;cases hu
  ·obtain⟨fs,e⟩:=Fw;rw[e]at hu;cases hu
  ·rw[Eo]at hu;cases hu
  ·obtain⟨fs,e⟩:=Ew;rw[e]at hu;cases hu
  ·obtain⟨fs,e⟩:=Dw;rw[e]at hu;cases hu
  ·obtain⟨fs,e⟩:=Cw;rw[e]at hu;cases hu
  ·obtain⟨fs,e⟩:=Bw;rw[e]at hu;cases hu
  ·obtain⟨fs,e⟩:=Aw;rw[e]at hu;cases hu
  ·rw[Co]at hu;cases hu
  ·obtain⟨fs,e⟩:=mr;rw[e]at hu;cases hu
  ·rw[oo]at hu;cases hu
  ·obtain⟨fs,e⟩:=kr;rw[e]at hu;cases hu
  ·obtain⟨fs,e⟩:=jr;rw[e]at hu;cases hu
  ·obtain⟨fs,e⟩:=Yr;rw[e]at hu;cases hu
  ·obtain⟨fs,e⟩:=Ur;rw[e]at hu;cases hu
  ·obtain⟨fs,e⟩:=Sr;rw[e]at hu;cases hu
  ·obtain⟨fs,e⟩:=Nr;rw[e]at hu;cases hu
  ·obtain⟨fs,e⟩:=Mr;rw[e]at hu;cases hu
  ·rw[mo]at hu;cases hu
  ·rw[ko]at hu;cases hu
  ·rw[jo]at hu;cases hu
  ·rw[Yo]at hu;cases hu
  ·obtain⟨fs,e⟩:=Lr;rw[e]at hu;cases hu
  ·rw[Xo]at hu;cases hu
  ·obtain⟨fs,e⟩:=Kr;rw[e]at hu;cases hu
 sl:=fun t e hg hu=>by
  simp only[gd,Db,Ed,Dg]at hg;rcases hg with rfl|rfl|rfl|rfl|rfl|rfl|rfl|rfl|rfl|rfl|rfl|rfl|rfl|rfl|rfl|rfl|rfl|rfl|rfl|rfl|rfl|rfl|rfl|rfl|rfl|rfl|rfl|rfl|rfl|rfl|rfl|rfl|rfl|rfl|rfl|rfl|rfl|rfl|rfl|rfl|rfl|rfl|rfl|rfl|rfl|rfl|rfl
  ·rw[tq]at hu;cases hu
  ·rw[om]at hu;cases hu
  ·rw[Sv]at hu;cases hu
  ·rw[rq]at hu;cases hu
  ·rw[pq]at hu;cases hu
  ·obtain⟨fs,e⟩:=Rv;rw[e]at hu;cases hu
  ·rw[Kv]at hu;cases hu
  ·rw[Kw]at hu;cases hu
  ·rw[Wn]at hu;cases hu
  ·rw[Vn]at hu;cases hu;exact⟨by simp[gd],Dc (by decide:0<12) (by kernel_rfl:12=Tryz.prog.cellsOf 39),fun l=>⟨(l:List zC),rfl⟩⟩
  ·obtain⟨fs,e⟩:=Jw;rw[e]at hu;cases hu
  ·rw[Un]at hu;cases hu
  ·rw[Tn]at hu;cases hu;exact⟨by simp[gd],Dc (by decide:0<3) (by kernel_rfl:3=Tryz.prog.cellsOf 68),fun l=>⟨(l:List zg),rfl⟩⟩
  ·rw[Sn]at hu;cases hu;exact⟨by simp[gd],Dc (by decide:0<3) (by kernel_rfl:3=Tryz.prog.cellsOf 33),fun l=>⟨(l:List Za),rfl⟩⟩
  ·rw[Rn]at hu;cases hu;exact⟨by simp[gd],Dc (by decide:0<6) (by kernel_rfl:6=Tryz.prog.cellsOf 135),fun l=>⟨(l:List ze),rfl⟩⟩
  ·obtain⟨fs,e⟩:=Iw;rw[e]at hu;cases hu
  ·rw[Pn]at hu;cases hu;exact⟨by simp[gd],Dc (by decide:0<7) (by kernel_rfl:7=Tryz.prog.cellsOf 36),fun l=>⟨(l:List zm),rfl⟩⟩
  ·obtain⟨fs,e⟩:=Hw;rw[e]at hu;cases hu
  ·rw[Nn]at hu;cases hu;exact⟨by simp[gd],Dc (by decide:0<1) (by kernel_rfl:1=Tryz.prog.cellsOf 59),fun l=>⟨(l:List (List Str)),rfl⟩⟩
  ·obtain⟨fs,e⟩:=Gw;rw[e]at hu;cases hu
  ·rw[Kn]at hu;cases hu;exact⟨by simp[gd],Dc (by decide:0<1) (by kernel_rfl:1=Tryz.prog.cellsOf 5),fun l=>⟨(l:List UInt8),rfl⟩⟩
  ·rw[Io]at hu;cases hu;exact⟨by simp[gd],Dc (by decide:0<1) (by kernel_rfl:1=Tryz.prog.cellsOf 9),fun l=>⟨(l:List Str),rfl⟩⟩
  ·rw[Ho]at hu;cases hu;exact⟨by simp[gd],Dc (by decide:0<9) (by kernel_rfl:9=Tryz.prog.cellsOf 72),fun l=>⟨(l:List zx),rfl⟩⟩
  ·obtain⟨fs,e⟩:=Fw;rw[e]at hu;cases hu
  ·rw[Eo]at hu;cases hu;exact⟨by simp[gd],Dc (by decide:0<2) (by kernel_rfl:2=Tryz.prog.cellsOf 65),fun l=>⟨(l:List zy),rfl⟩⟩
  ·obtain⟨fs,e⟩:=Ew;rw[e]at hu;cases hu
  ·obtain⟨fs,e⟩:=Dw;rw[e]at hu;cases hu
  ·obtain⟨fs,e⟩:=Cw;rw[e]at hu;cases hu
  ·obtain⟨fs,e⟩:=Bw;rw[e]at hu;cases hu
  ·obtain⟨fs,e⟩:=Aw;rw[e]at hu;cases hu
  ·rw[Co]at hu;cases hu;exact⟨by simp[gd],Dc (by decide:0<5) (by kernel_rfl:5=Tryz.prog.cellsOf 131),fun l=>⟨(l:List zk),rfl⟩⟩
  ·obtain⟨fs,e⟩:=mr;rw[e]at hu;cases hu
  ·rw[oo]at hu;cases hu;exact⟨by simp[gd],Dc (by decide:0<1) (by kernel_rfl:1=Tryz.prog.cellsOf 31),fun l=>⟨(l:List (List ze)),rfl⟩⟩
  ·obtain⟨fs,e⟩:=kr;rw[e]at hu;cases hu
  ·obtain⟨fs,e⟩:=jr;rw[e]at hu;cases hu
  ·obtain⟨fs,e⟩:=Yr;rw[e]at hu;cases hu
  ·obtain⟨fs,e⟩:=Ur;rw[e]at hu;cases hu
  ·obtain⟨fs,e⟩:=Sr;rw[e]at hu;cases hu
  ·obtain⟨fs,e⟩:=Nr;rw[e]at hu;cases hu
  ·obtain⟨fs,e⟩:=Mr;rw[e]at hu;cases hu
  ·rw[mo]at hu;cases hu
  ·rw[ko]at hu;cases hu
  ·rw[jo]at hu;cases hu;exact⟨by simp[gd],Dc (by decide:0<1) (by kernel_rfl:1=Tryz.prog.cellsOf 2),fun l=>⟨(l:List Int),rfl⟩⟩
  ·rw[Yo]at hu;cases hu;exact⟨by simp[gd],Dc (by decide:0<2) (by kernel_rfl:2=Tryz.prog.cellsOf 332),fun l=>⟨(l:List Zz),rfl⟩⟩
  ·obtain⟨fs,e⟩:=Lr;rw[e]at hu;cases hu
  ·rw[Xo]at hu;cases hu
  ·obtain⟨fs,e⟩:=Kr;rw[e]at hu;cases hu
 st:=fun t fs hg hu=>by
  simp only[gd,Db,Ed,Dg]at hg;rcases hg with rfl|rfl|rfl|rfl|rfl|rfl|rfl|rfl|rfl|rfl|rfl|rfl|rfl|rfl|rfl|rfl|rfl|rfl|rfl|rfl|rfl|rfl|rfl|rfl|rfl|rfl|rfl|rfl|rfl|rfl|rfl|rfl|rfl|rfl|rfl|rfl|rfl|rfl|rfl|rfl|rfl|rfl|rfl|rfl|rfl|rfl|rfl
  ·rw[tq]at hu;cases hu
  ·rw[om]at hu;cases hu
  ·rw[Sv]at hu;cases hu
  ·rw[rq]at hu;cases hu
  ·rw[pq]at hu;cases hu
  ·refine af hu zOg (by simp[gd]) (by kernel_rfl) (by kernel_rfl) (fun pvs h0=> ?_);obtain⟨_,pvs,rfl,⟨y0,rfl⟩,h1⟩:=zN h0;obtain⟨_,pvs,rfl,⟨y1,rfl⟩,h2⟩:=zN h1;obtain⟨_,pvs,rfl,⟨y2,rfl⟩,h3⟩:=zN h2;obtain⟨_,pvs,rfl,⟨y3,rfl⟩,h4⟩:=zN h3;rw[qU h4];exact⟨(⟨y0,y1,y2,((UInt8.toNat y3:Nat):Int)⟩:ZR),rfl⟩
  ·rw[Kv]at hu;cases hu
  ·rw[Kw]at hu;cases hu
  ·rw[Wn]at hu;cases hu
  ·rw[Vn]at hu;cases hu
  ·refine af hu zNB (by simp[gd]) (by kernel_rfl) (by kernel_rfl) (fun pvs h0=> ?_);obtain⟨_,pvs,rfl,⟨y0,rfl⟩,h1⟩:=zN h0;rw[qU h1];exact⟨(⟨y0⟩:ZN),rfl⟩
  ·rw[Un]at hu;cases hu
  ·rw[Tn]at hu;cases hu
  ·rw[Sn]at hu;cases hu
  ·rw[Rn]at hu;cases hu
  ·refine af hu zNC (by simp[gd]) (by kernel_rfl) (by kernel_rfl) (fun pvs h0=> ?_);obtain⟨_,pvs,rfl,⟨y0,rfl⟩,h1⟩:=zN h0;obtain⟨_,pvs,rfl,⟨y1,rfl⟩,h2⟩:=zN h1;obtain⟨_,pvs,rfl,⟨y2,rfl⟩,h3⟩:=zN h2;rw[qU h3];exact⟨(⟨y0,y1,y2⟩:Za),rfl⟩
  ·rw[Pn]at hu;cases hu
  ·refine af hu zND (by simp[gd]) (by kernel_rfl) (by kernel_rfl) (fun pvs h0=> ?_);obtain⟨_,pvs,rfl,⟨y0,rfl⟩,h1⟩:=zN h0;obtain⟨_,pvs,rfl,⟨y1,rfl⟩,h2⟩:=zN h1;obtain⟨_,pvs,rfl,⟨y2,rfl⟩,h3⟩:=zN h2;obtain⟨_,pvs,rfl,⟨y3,rfl⟩,h4⟩:=zN h3;obtain⟨_,pvs,rfl,⟨y4,rfl⟩,h5⟩:=zN h4;rw[qU h5];exact⟨(⟨((UInt8.toNat y0:Nat):Int),y1,y2,y3,y4⟩:zm),(VN ((UInt8.toNat y0:Nat):Int) y1 y2 y3 y4).trans rfl⟩
  ·rw[Nn]at hu;cases hu
  ·refine af hu zNE (by simp[gd]) (by kernel_rfl) (by kernel_rfl) (fun pvs h0=> ?_);obtain⟨_,pvs,rfl,⟨y0,rfl⟩,h1⟩:=zN h0;obtain⟨_,pvs,rfl,⟨y1,rfl⟩,h2⟩:=zN h1;obtain⟨_,pvs,rfl,⟨y2,rfl⟩,h3⟩:=zN h2;obtain⟨_,pvs,rfl,⟨y3,rfl⟩,h4⟩:=zN h3;obtain⟨_,pvs,rfl,⟨y4,rfl⟩,h5⟩:=zN h4;obtain⟨_,pvs,rfl,⟨y5,rfl⟩,h6⟩:=zN h5;rw[qU h6];exact⟨(⟨((UInt8.toNat y0:Nat):Int),y1,y2,y3,y4,y5⟩:zC),(UN ((UInt8.toNat y0:Nat):Int) y1 y2 y3 y4 y5).trans (by
    show [.at (.int .u8 ((UInt8.toNat y0:Nat):Int))]++([.sl (y1.map zo)]++([.sl (y2.map ZC)]++([.at (.int .u8 y3.kind), .str y3.name, .at (.int .i64 y3.num), .str y3.decl.name, .sl (y3.decl.value.map Zr), .at (.bool y3.decl.important), .sl (y3.list.map zH)]++([.sl (y4.map (fun y=>[.sl (y.map (fun y=>[.str y]))]))]++([.sl (y5.map zD)]++([]:List PV))))))=_;rw[<-FO y3];rfl)⟩
  ·rw[Kn]at hu;cases hu
  ·rw[Io]at hu;cases hu
  ·rw[Ho]at hu;cases hu
  ·refine af hu zNF (by simp[gd]) (by kernel_rfl) (by kernel_rfl) (fun pvs h0=> ?_);obtain⟨_,pvs,rfl,⟨y0,rfl⟩,h1⟩:=zN h0;obtain⟨_,pvs,rfl,⟨y1,rfl⟩,h2⟩:=zN h1;rw[qU h2];exact⟨(⟨y0,y1⟩:zy),(GQ y0 y1).trans rfl⟩
  ·rw[Eo]at hu;cases hu
  ·refine af hu zNG (by simp[gd]) (by kernel_rfl) (by kernel_rfl) (fun pvs h0=> ?_);obtain⟨_,pvs,rfl,⟨y0,rfl⟩,h1⟩:=zN h0;obtain⟨_,pvs,rfl,⟨y1,rfl⟩,h2⟩:=zN h1;obtain⟨_,pvs,rfl,⟨y2,rfl⟩,h3⟩:=zN h2;rw[qU h3];exact⟨(⟨((UInt8.toNat y0:Nat):Int),y1,y2⟩:zg),(xP ((UInt8.toNat y0:Nat):Int) y1 y2).trans rfl⟩
  ·refine af hu zNH (by simp[gd]) (by kernel_rfl) (by kernel_rfl) (fun pvs h0=> ?_);obtain⟨_,pvs,rfl,⟨y0,rfl⟩,h1⟩:=zN h0;obtain⟨_,pvs,rfl,⟨y1,rfl⟩,h2⟩:=zN h1;rw[qU h2];exact⟨(⟨y0,y1⟩:VAnb),rfl⟩
  ·refine af hu zNI (by simp[gd]) (by kernel_rfl) (by kernel_rfl) (fun pvs h0=> ?_);obtain⟨_,pvs,rfl,⟨y0,rfl⟩,h1⟩:=zN h0;obtain⟨_,pvs,rfl,⟨y1,rfl⟩,h2⟩:=zN h1;obtain⟨_,pvs,rfl,⟨y2,rfl⟩,h3⟩:=zN h2;obtain⟨_,pvs,rfl,⟨y3,rfl⟩,h4⟩:=zN h3;obtain⟨_,pvs,rfl,⟨y4,rfl⟩,h5⟩:=zN h4;obtain⟨_,pvs,rfl,⟨y5,rfl⟩,h6⟩:=zN h5;obtain⟨_,pvs,rfl,⟨y6,rfl⟩,h7⟩:=zN h6;obtain⟨_,pvs,rfl,⟨y7,rfl⟩,h8⟩:=zN h7;rw[qU h8];exact⟨(⟨((UInt8.toNat y0:Nat):Int),y1,((UInt8.toNat y2:Nat):Int),y3,y4,y5,y6,y7⟩:zx),(xO ((UInt8.toNat y0:Nat):Int) y1 ((UInt8.toNat y2:Nat):Int) y3 y4 y5 y6 y7).trans rfl⟩
  ·refine af hu zNJ (by simp[gd]) (by kernel_rfl) (by kernel_rfl) (fun pvs h0=> ?_);obtain⟨_,pvs,rfl,⟨y0,rfl⟩,h1⟩:=zN h0;obtain⟨_,pvs,rfl,⟨y1,rfl⟩,h2⟩:=zN h1;obtain⟨_,pvs,rfl,⟨y2,rfl⟩,h3⟩:=zN h2;rw[qU h3];exact⟨(⟨y0,y1,y2⟩:zq),rfl⟩
  ·refine af hu zNK (by simp[gd]) (by kernel_rfl) (by kernel_rfl) (fun pvs h0=> ?_);obtain⟨_,pvs,rfl,⟨y0,rfl⟩,h1⟩:=zN h0;obtain⟨_,pvs,rfl,⟨y1,rfl⟩,h2⟩:=zN h1;rw[qU h2];exact⟨(⟨y0,y1⟩:zJ),rfl⟩
  ·rw[Co]at hu;cases hu
  ·refine af hu zMv (by simp[gd]) (by kernel_rfl) (by kernel_rfl) (fun pvs h0=> ?_);obtain⟨_,pvs,rfl,⟨y0,rfl⟩,h1⟩:=zN h0;obtain⟨_,pvs,rfl,⟨y1,rfl⟩,h2⟩:=zN h1;obtain⟨_,pvs,rfl,⟨y2,rfl⟩,h3⟩:=zN h2;obtain⟨_,pvs,rfl,⟨y3,rfl⟩,h4⟩:=zN h3;obtain⟨_,pvs,rfl,⟨y4,rfl⟩,h5⟩:=zN h4;rw[qU h5];exact⟨(⟨((UInt8.toNat y0:Nat):Int),y1,y2,y3,y4⟩:zk),rfl⟩
  ·rw[oo]at hu;cases hu
  ·refine af hu zMw (by simp[gd]) (by kernel_rfl) (by kernel_rfl) (fun pvs h0=> ?_);obtain⟨_,pvs,rfl,⟨y0,rfl⟩,h1⟩:=zN h0;obtain⟨_,pvs,rfl,⟨y1,rfl⟩,h2⟩:=zN h1;rw[qU h2];exact⟨(⟨y0,y1⟩:ze),(CO y0 y1).trans rfl⟩
  ·refine af hu zMx (by simp[gd]) (by kernel_rfl) (by kernel_rfl) (fun pvs h0=> ?_);obtain⟨_,pvs,rfl,⟨y0,rfl⟩,h1⟩:=zN h0;obtain⟨_,pvs,rfl,⟨y1,rfl⟩,h2⟩:=zN h1;rw[qU h2];exact⟨(⟨y0,y1⟩:zh),rfl⟩
  ·refine af hu zMy (by simp[gd]) (by kernel_rfl) (by kernel_rfl) (fun pvs h0=> ?_);obtain⟨_,pvs,rfl,⟨y0,rfl⟩,h1⟩:=zN h0;obtain⟨_,pvs,rfl,⟨y1,rfl⟩,h2⟩:=zN h1;obtain⟨_,pvs,rfl,⟨y2,rfl⟩,h3⟩:=zN h2;rw[qU h3];exact⟨(⟨y0,y1,y2⟩:zU),rfl⟩
  ·refine af hu zMz (by simp[gd]) (by kernel_rfl) (by kernel_rfl) (fun pvs h0=> ?_);obtain⟨_,pvs,rfl,⟨y0,rfl⟩,h1⟩:=zN h0;obtain⟨_,pvs,rfl,⟨y1,rfl⟩,h2⟩:=zN h1;rw[qU h2];exact⟨(⟨y0,y1⟩:zb),rfl⟩
  ·refine af hu zMA (by simp[gd]) (by kernel_rfl) (by kernel_rfl) (fun pvs h0=> ?_);obtain⟨_,pvs,rfl,⟨y0,rfl⟩,h1⟩:=zN h0;obtain⟨_,pvs,rfl,⟨y1,rfl⟩,h2⟩:=zN h1;obtain⟨_,pvs,rfl,⟨y2,rfl⟩,h3⟩:=zN h2;obtain⟨_,pvs,rfl,⟨y3,rfl⟩,h4⟩:=zN h3;obtain⟨_,pvs,rfl,⟨y4,rfl⟩,h5⟩:=zN h4;obtain⟨_,pvs,rfl,⟨y5,rfl⟩,h6⟩:=zN h5;obtain⟨_,pvs,rfl,⟨y6,rfl⟩,h7⟩:=zN h6;rw[qU h7];exact⟨(⟨((UInt8.toNat y0:Nat):Int),y1,((UInt8.toNat y2:Nat):Int),y3,y4,y5,y6⟩:QB),rfl⟩
  ·refine af hu zMB (by simp[gd]) (by kernel_rfl) (by kernel_rfl) (fun pvs h0=> ?_);obtain⟨_,pvs,rfl,⟨y0,rfl⟩,h1⟩:=zN h0;rw[qU h1];exact⟨(⟨y0⟩:zB),rfl⟩
  ·refine af hu zMC (by simp[gd]) (by kernel_rfl) (by kernel_rfl) (fun pvs h0=> ?_);obtain⟨_,pvs,rfl,⟨y0,rfl⟩,h1⟩:=zN h0;obtain⟨_,pvs,rfl,⟨y1,rfl⟩,h2⟩:=zN h1;rw[qU h2];exact⟨(⟨y0,y1⟩:zX),rfl⟩
  ·rw[mo]at hu;cases hu
  ·rw[ko]at hu;cases hu
  ·rw[jo]at hu;cases hu
  ·rw[Yo]at hu;cases hu
  ·refine af hu zMD (by simp[gd]) (by kernel_rfl) (by kernel_rfl) (fun pvs h0=> ?_);obtain⟨_,pvs,rfl,⟨y0,rfl⟩,h1⟩:=zN h0;obtain⟨_,pvs,rfl,⟨y1,rfl⟩,h2⟩:=zN h1;rw[qU h2];exact⟨(⟨y0,y1⟩:Zz),rfl⟩
  ·rw[Xo]at hu;cases hu
  ·refine af hu zME (by simp[gd]) (by kernel_rfl) (by kernel_rfl) (fun pvs h0=> ?_);obtain⟨_,pvs,rfl,⟨y0,rfl⟩,h1⟩:=zN h0;obtain⟨_,pvs,rfl,⟨y1,rfl⟩,h2⟩:=zN h1;rw[qU h2];exact⟨(⟨y0,y1⟩:zw),rfl⟩
 only:=fun t u hg hu=>by
  simp only[gd,Db,Ed,Dg]at hg;rcases hg with rfl|rfl|rfl|rfl|rfl|rfl|rfl|rfl|rfl|rfl|rfl|rfl|rfl|rfl|rfl|rfl|rfl|rfl|rfl|rfl|rfl|rfl|rfl|rfl|rfl|rfl|rfl|rfl|rfl|rfl|rfl|rfl|rfl|rfl|rfl|rfl|rfl|rfl|rfl|rfl|rfl|rfl|rfl|rfl|rfl|rfl|rfl
  ·rw[tq]at hu;cases hu;exact .inl ⟨_,rfl⟩
  ·rw[om]at hu;cases hu;exact .inl ⟨_,rfl⟩
  ·rw[Sv]at hu;cases hu;exact .inr (.inl rfl)
  ·rw[rq]at hu;cases hu;exact .inl ⟨_,rfl⟩
  ·rw[pq]at hu;cases hu;exact .inl ⟨_,rfl⟩
  ·obtain⟨fs,e⟩:=Rv;rw[e]at hu;cases hu;exact .inr (.inr (.inr (.inr ⟨_,rfl⟩)))
  ·rw[Kv]at hu;cases hu;exact .inr (.inr (.inl rfl))
  ·rw[Kw]at hu;cases hu;exact .inr (.inr (.inl rfl))
  ·rw[Wn]at hu;cases hu;exact .inl ⟨_,rfl⟩
  ·rw[Vn]at hu;cases hu;exact .inr (.inr (.inr (.inl ⟨_,rfl⟩)))
  ·obtain⟨fs,e⟩:=Jw;rw[e]at hu;cases hu;exact .inr (.inr (.inr (.inr ⟨_,rfl⟩)))
  ·rw[Un]at hu;cases hu;exact .inl ⟨_,rfl⟩
  ·rw[Tn]at hu;cases hu;exact .inr (.inr (.inr (.inl ⟨_,rfl⟩)))
  ·rw[Sn]at hu;cases hu;exact .inr (.inr (.inr (.inl ⟨_,rfl⟩)))
  ·rw[Rn]at hu;cases hu;exact .inr (.inr (.inr (.inl ⟨_,rfl⟩)))
  ·obtain⟨fs,e⟩:=Iw;rw[e]at hu;cases hu;exact .inr (.inr (.inr (.inr ⟨_,rfl⟩)))
  ·rw[Pn]at hu;cases hu;exact .inr (.inr (.inr (.inl ⟨_,rfl⟩)))
  ·obtain⟨fs,e⟩:=Hw;rw[e]at hu;cases hu;exact .inr (.inr (.inr (.inr ⟨_,rfl⟩)))
  ·rw[Nn]at hu;cases hu;exact .inr (.inr (.inr (.inl ⟨_,rfl⟩)))
  ·obtain⟨fs,e⟩:=Gw;rw[e]at hu;cases hu;exact .inr (.inr (.inr (.inr ⟨_,rfl⟩)))
  ·rw[Kn]at hu;cases hu;exact .inr (.inr (.inr (.inl ⟨_,rfl⟩)))
  ·rw[Io]at hu;cases hu;exact .inr (.inr (.inr (.inl ⟨_,rfl⟩)))
  ·rw[Ho]at hu;cases hu;exact .inr (.inr (.inr (.inl ⟨_,rfl⟩)))
  ·obtain⟨fs,e⟩:=Fw;rw[e]at hu;cases hu;exact .inr (.inr (.inr (.inr ⟨_,rfl⟩)))
  ·rw[Eo]at hu;cases hu;exact .inr (.inr (.inr (.inl ⟨_,rfl⟩)))
  ·obtain⟨fs,e⟩:=Ew;rw[e]at hu;cases hu;exact .inr (.inr (.inr (.inr ⟨_,rfl⟩)))
  ·obtain⟨fs,e⟩:=Dw;rw[e]at hu;cases hu;exact .inr (.inr (.inr (.inr ⟨_,rfl⟩)))
  ·obtain⟨fs,e⟩:=Cw;rw[e]at hu;cases hu;exact .inr (.inr (.inr (.inr ⟨_,rfl⟩)))
  ·obtain⟨fs,e⟩:=Bw;rw[e]at hu;cases hu;exact .inr (.inr (.inr (.inr ⟨_,rfl⟩)))
  ·obtain⟨fs,e⟩:=Aw;rw[e]at hu;cases hu;exact .inr (.inr (.inr (.inr ⟨_,rfl⟩)))
  ·rw[Co]at hu;cases hu;exact .inr (.inr (.inr (.inl ⟨_,rfl⟩)))
  ·obtain⟨fs,e⟩:=mr;rw[e]at hu;cases hu;exact .inr (.inr (.inr (.inr ⟨_,rfl⟩)))
  ·rw[oo]at hu;cases hu;exact .inr (.inr (.inr (.inl ⟨_,rfl⟩)))
  ·obtain⟨fs,e⟩:=kr;rw[e]at hu;cases hu;exact .inr (.inr (.inr (.inr ⟨_,rfl⟩)))
  ·obtain⟨fs,e⟩:=jr;rw[e]at hu;cases hu;exact .inr (.inr (.inr (.inr ⟨_,rfl⟩)))
  ·obtain⟨fs,e⟩:=Yr;rw[e]at hu;cases hu;exact .inr (.inr (.inr (.inr ⟨_,rfl⟩)))
  ·obtain⟨fs,e⟩:=Ur;rw[e]at hu;cases hu;exact .inr (.inr (.inr (.inr ⟨_,rfl⟩)))
  ·obtain⟨fs,e⟩:=Sr;rw[e]at hu;cases hu;exact .inr (.inr (.inr (.inr ⟨_,rfl⟩)))
  ·obtain⟨fs,e⟩:=Nr;rw[e]at hu;cases hu;exact .inr (.inr (.inr (.inr ⟨_,rfl⟩)))
  ·obtain⟨fs,e⟩:=Mr;rw[e]at hu;cases hu;exact .inr (.inr (.inr (.inr ⟨_,rfl⟩)))
  ·rw[mo]at hu;cases hu;exact .inl ⟨_,rfl⟩
  ·rw[ko]at hu;cases hu;exact .inl ⟨_,rfl⟩
  ·rw[jo]at hu;cases hu;exact .inr (.inr (.inr (.inl ⟨_,rfl⟩)))
  ·rw[Yo]at hu;cases hu;exact .inr (.inr (.inr (.inl ⟨_,rfl⟩)))
  ·obtain⟨fs,e⟩:=Lr;rw[e]at hu;cases hu;exact .inr (.inr (.inr (.inr ⟨_,rfl⟩)))
  ·rw[Xo]at hu;cases hu;exact .inl ⟨_,rfl⟩
  ·obtain⟨fs,e⟩:=Kr;rw[e]at hu;cases hu;exact .inr (.inr (.inr (.inr ⟨_,rfl⟩)))
end Go.Lv.VT
