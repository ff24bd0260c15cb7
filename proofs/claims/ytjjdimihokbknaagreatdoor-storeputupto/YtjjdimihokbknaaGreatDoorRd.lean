/- Which values may come in. -/
import Derived.Test.YtjjdimihokbknaaGreatDoorIp
import Derived.Test.YtjjdimihokbknaaGreatDoorLf
set_option linter.unusedSimpArgs false
set_option linter.unusedVariables false
namespace Go.Lv.VT
set_option maxRecDepth 100000
open Go.Proofs
def gd:List Nat:=[2,3,4,5,6,7,9,11,21,22,24,25,27,33,34,62,64,65,66,68,69,71,72,74,78,100,102,103,105,107,109,112,114,120,126,129,131,145,155,169,173,191,211,232,245,281,297,325]
theorem Wq:Tryz.prog.underlying 2=some (.int .i64):=by kernel_rfl
theorem Lm:Tryz.prog.underlying 3=some (.int .i64):=by kernel_rfl
theorem tu:Tryz.prog.underlying 4=some (.bool):=by kernel_rfl
theorem Vq:Tryz.prog.underlying 5=some (.int .u8):=by kernel_rfl
theorem Uq:Tryz.prog.underlying 6=some (.int .u8):=by kernel_rfl
theorem su: ∃fs,Tryz.prog.underlying 7=some (.struct fs):=⟨(match Tryz.prog.underlying 7 with|some (.struct fs)=>fs|_=> #[]),by kernel_rfl⟩
theorem zMj:Gf Tryz.prog 7=[(2,0),(3,1),(4,2),(6,3)]:=by kernel_rfl
theorem pu:Tryz.prog.underlying 9=some (.string):=by kernel_rfl
theorem Tv:Tryz.prog.underlying 11=some (.string):=by kernel_rfl
theorem Um:Tryz.prog.underlying 21=some (.int .i32):=by kernel_rfl
theorem Tm:Tryz.prog.underlying 22=some (.slice 33):=by kernel_rfl
theorem Sv: ∃fs,Tryz.prog.underlying 24=some (.struct fs):=⟨(match Tryz.prog.underlying 24 with|some (.struct fs)=>fs|_=> #[]),by kernel_rfl⟩
theorem zLE:Gf Tryz.prog 24=[(22,0),(3,1)]:=by kernel_rfl
theorem Sm:Tryz.prog.underlying 25=some (.slice 74):=by kernel_rfl
theorem Rv: ∃fs,Tryz.prog.underlying 27=some (.struct fs):=⟨(match Tryz.prog.underlying 27 with|some (.struct fs)=>fs|_=> #[]),by kernel_rfl⟩
theorem zLF:Gf Tryz.prog 27=[(25,0)]:=by kernel_rfl
theorem Pv: ∃fs,Tryz.prog.underlying 33=some (.struct fs):=⟨(match Tryz.prog.underlying 33 with|some (.struct fs)=>fs|_=> #[]),by kernel_rfl⟩
theorem zLG:Gf Tryz.prog 33=[(3,0),(5,1),(9,2),(27,3)]:=by kernel_rfl
theorem Kn:Tryz.prog.underlying 34=some (.int .i64):=by kernel_rfl
theorem Jn:Tryz.prog.underlying 62=some (.slice 3):=by kernel_rfl
theorem Gn:Tryz.prog.underlying 64=some (.slice 105):=by kernel_rfl
theorem En:Tryz.prog.underlying 65=some (.slice 68):=by kernel_rfl
theorem Dn:Tryz.prog.underlying 66=some (.slice 131):=by kernel_rfl
theorem Ov: ∃fs,Tryz.prog.underlying 68=some (.struct fs):=⟨(match Tryz.prog.underlying 68 with|some (.struct fs)=>fs|_=> #[]),by kernel_rfl⟩
theorem zLH:Gf Tryz.prog 68=[(9,0),(66,1),(4,2)]:=by kernel_rfl
theorem Bn:Tryz.prog.underlying 69=some (.slice 71):=by kernel_rfl
theorem Nv: ∃fs,Tryz.prog.underlying 71=some (.struct fs):=⟨(match Tryz.prog.underlying 71 with|some (.struct fs)=>fs|_=> #[]),by kernel_rfl⟩
theorem zLI:Gf Tryz.prog 71=[(5,0),(9,1),(2,2),(68,3),(69,6)]:=by kernel_rfl
theorem ym:Tryz.prog.underlying 72=some (.slice 78):=by kernel_rfl
theorem Xv: ∃fs,Tryz.prog.underlying 74=some (.struct fs):=⟨(match Tryz.prog.underlying 74 with|some (.struct fs)=>fs|_=> #[]),by kernel_rfl⟩
theorem zLJ:Gf Tryz.prog 74=[(5,0),(64,1),(65,2),(71,3),(72,10),(25,11)]:=by kernel_rfl
theorem wm:Tryz.prog.underlying 78=some (.slice 9):=by kernel_rfl
theorem Jr: ∃fs,Tryz.prog.underlying 100=some (.struct fs):=⟨(match Tryz.prog.underlying 100 with|some (.struct fs)=>fs|_=> #[]),by kernel_rfl⟩
theorem zKt:Gf Tryz.prog 100=[(3,0),(3,1),(4,2)]:=by kernel_rfl
theorem Co:Tryz.prog.underlying 102=some (.slice 109):=by kernel_rfl
theorem Bo:Tryz.prog.underlying 103=some (.slice 5):=by kernel_rfl
theorem Ir: ∃fs,Tryz.prog.underlying 105=some (.struct fs):=⟨(match Tryz.prog.underlying 105 with|some (.struct fs)=>fs|_=> #[]),by kernel_rfl⟩
theorem zKu:Gf Tryz.prog 105=[(5,0),(102,1),(103,2)]:=by kernel_rfl
theorem Ao:Tryz.prog.underlying 107=some (.slice 114):=by kernel_rfl
theorem Hr: ∃fs,Tryz.prog.underlying 109=some (.struct fs):=⟨(match Tryz.prog.underlying 109 with|some (.struct fs)=>fs|_=> #[]),by kernel_rfl⟩
theorem zKv:Gf Tryz.prog 109=[(9,0),(107,1)]:=by kernel_rfl
theorem Er: ∃fs,Tryz.prog.underlying 112=some (.struct fs):=⟨(match Tryz.prog.underlying 112 with|some (.struct fs)=>fs|_=> #[]),by kernel_rfl⟩
theorem zKw:Gf Tryz.prog 112=[(2,0),(2,1)]:=by kernel_rfl
theorem Dr: ∃fs,Tryz.prog.underlying 114=some (.struct fs):=⟨(match Tryz.prog.underlying 114 with|some (.struct fs)=>fs|_=> #[]),by kernel_rfl⟩
theorem zKx:Gf Tryz.prog 114=[(5,0),(9,1),(5,2),(9,3),(4,4),(112,5),(4,7),(64,8)]:=by kernel_rfl
theorem yn:Tryz.prog.underlying 120=some (.slice 129):=by kernel_rfl
theorem Cr: ∃fs,Tryz.prog.underlying 126=some (.struct fs):=⟨(match Tryz.prog.underlying 126 with|some (.struct fs)=>fs|_=> #[]),by kernel_rfl⟩
theorem zKy:Gf Tryz.prog 126=[(3,0),(3,1)]:=by kernel_rfl
theorem Br: ∃fs,Tryz.prog.underlying 129=some (.struct fs):=⟨(match Tryz.prog.underlying 129 with|some (.struct fs)=>fs|_=> #[]),by kernel_rfl⟩
theorem zKz:Gf Tryz.prog 129=[(5,0),(9,1),(2,2),(9,3),(4,4)]:=by kernel_rfl
theorem Ar: ∃fs,Tryz.prog.underlying 131=some (.struct fs):=⟨(match Tryz.prog.underlying 131 with|some (.struct fs)=>fs|_=> #[]),by kernel_rfl⟩
theorem zKA:Gf Tryz.prog 131=[(129,0),(66,5)]:=by kernel_rfl
theorem dn:Tryz.prog.underlying 145=some (.slice 66):=by kernel_rfl
theorem xq: ∃fs,Tryz.prog.underlying 155=some (.struct fs):=⟨(match Tryz.prog.underlying 155 with|some (.struct fs)=>fs|_=> #[]),by kernel_rfl⟩
theorem zKB:Gf Tryz.prog 155=[(3,0),(4,1)]:=by kernel_rfl
theorem uq: ∃fs,Tryz.prog.underlying 169=some (.struct fs):=⟨(match Tryz.prog.underlying 169 with|some (.struct fs)=>fs|_=> #[]),by kernel_rfl⟩
theorem zKC:Gf Tryz.prog 169=[(3,0),(4,1)]:=by kernel_rfl
theorem tq: ∃fs,Tryz.prog.underlying 173=some (.struct fs):=⟨(match Tryz.prog.underlying 173 with|some (.struct fs)=>fs|_=> #[]),by kernel_rfl⟩
theorem zKD:Gf Tryz.prog 173=[(3,0),(3,1),(4,2)]:=by kernel_rfl
theorem rq: ∃fs,Tryz.prog.underlying 191=some (.struct fs):=⟨(match Tryz.prog.underlying 191 with|some (.struct fs)=>fs|_=> #[]),by kernel_rfl⟩
theorem zKE:Gf Tryz.prog 191=[(9,0),(3,1)]:=by kernel_rfl
theorem pq: ∃fs,Tryz.prog.underlying 211=some (.struct fs):=⟨(match Tryz.prog.underlying 211 with|some (.struct fs)=>fs|_=> #[]),by kernel_rfl⟩
theorem zKF:Gf Tryz.prog 211=[(5,0),(9,1),(5,2),(9,3),(4,4),(112,5),(4,7)]:=by kernel_rfl
theorem oq: ∃fs,Tryz.prog.underlying 232=some (.struct fs):=⟨(match Tryz.prog.underlying 232 with|some (.struct fs)=>fs|_=> #[]),by kernel_rfl⟩
theorem zKG:Gf Tryz.prog 232=[(66,0)]:=by kernel_rfl
theorem bn:Tryz.prog.underlying 245=some (.int .u32):=by kernel_rfl
theorem Yn:Tryz.prog.underlying 281=some (.int .u64):=by kernel_rfl
theorem Xn:Tryz.prog.underlying 297=some (.slice 2):=by kernel_rfl
theorem mq: ∃fs,Tryz.prog.underlying 325=some (.struct fs):=⟨(match Tryz.prog.underlying 325 with|some (.struct fs)=>fs|_=> #[]),by kernel_rfl⟩
theorem zKH:Gf Tryz.prog 325=[(66,0),(3,1)]:=by kernel_rfl
theorem ipRd:IpRd Tryz.prog I (fun t=>t∈gd)where
 int:=fun t k hg hu n h1 h2=>by
  simp only[gd,ma,xc,Cg]at hg;rcases hg with rfl|rfl|rfl|rfl|rfl|rfl|rfl|rfl|rfl|rfl|rfl|rfl|rfl|rfl|rfl|rfl|rfl|rfl|rfl|rfl|rfl|rfl|rfl|rfl|rfl|rfl|rfl|rfl|rfl|rfl|rfl|rfl|rfl|rfl|rfl|rfl|rfl|rfl|rfl|rfl|rfl|rfl|rfl|rfl|rfl|rfl|rfl|rfl
  ·rw[Wq]at hu;cases hu;exact⟨(n:Int),rfl⟩
  ·rw[Lm]at hu;cases hu;exact⟨(n:Int),rfl⟩
  ·rw[tu]at hu;cases hu
  ·rw[Vq]at hu;cases hu;exact⟨UInt8.ofNat n.toNat,jQ h1 h2⟩
  ·rw[Uq]at hu;cases hu;exact⟨UInt8.ofNat n.toNat,jQ h1 h2⟩
  ·obtain⟨fs,e⟩:=su;rw[e]at hu;cases hu
  ·rw[pu]at hu;cases hu
  ·rw[Tv]at hu;cases hu
  ·rw[Um]at hu;cases hu;exact⟨(n:Int),rfl⟩
  ·rw[Tm]at hu;cases hu
  ·obtain⟨fs,e⟩:=Sv;rw[e]at hu;cases hu
  ·rw[Sm]at hu;cases hu
  ·obtain⟨fs,e⟩:=Rv;rw[e]at hu;cases hu
  ·obtain⟨fs,e⟩:=Pv;rw[e]at hu;cases hu
  ·rw[Kn]at hu;cases hu;exact⟨(n:Int),rfl⟩
  ·rw[Jn]at hu;cases hu
  ·rw[Gn]at hu;cases hu
  ·rw[En]at hu;cases hu
  ·rw[Dn]at hu;cases hu
  ·obtain⟨fs,e⟩:=Ov;rw[e]at hu;cases hu
  ·rw[Bn]at hu;cases hu
  ·obtain⟨fs,e⟩:=Nv;rw[e]at hu;cases hu
  ·rw[ym]at hu;cases hu
  ·obtain⟨fs,e⟩:=Xv;rw[e]at hu;cases hu
  ·rw[wm]at hu;cases hu
  ·obtain⟨fs,e⟩:=Jr;rw[e]at hu;cases hu
  ·rw[Co]at hu;cases hu
  ·rw[Bo]at hu;cases hu
  ·obtain⟨fs,e⟩:=Ir;rw[e]at hu;cases hu
  ·rw[Ao]at hu;cases hu
  ·obtain⟨fs,e⟩:=Hr;rw[e]at hu;cases hu
  ·obtain⟨fs,e⟩:=Er;rw[e]at hu;cases hu
  ·obtain⟨fs,e⟩:=Dr;rw[e]at hu;cases hu
  ·rw[yn]at hu;cases hu
  ·obtain⟨fs,e⟩:=Cr;rw[e]at hu;cases hu
  ·obtain⟨fs,e⟩:=Br;rw[e]at hu;cases hu
  ·obtain⟨fs,e⟩:=Ar;rw[e]at hu;cases hu
  ·rw[dn]at hu;cases hu
  ·obtain⟨fs,e⟩:=xq;rw[e]at hu;cases hu
  ·obtain⟨fs,e⟩:=uq;rw[e]at hu;cases hu
  ·obtain⟨fs,e⟩:=tq;rw[e]at hu;cases hu
  ·obtain⟨fs,e⟩:=rq;rw[e]at hu;cases hu
  ·obtain⟨fs,e⟩:=pq;rw[e]at hu;cases hu
  ·obtain⟨fs,e⟩:=oq;rw[e]at hu;cases hu
  ·rw[bn]at hu;cases hu;exact⟨(n:Int),rfl⟩
  ·rw[Yn]at hu;cases hu;exact⟨(n:Int),rfl⟩
  ·rw[Xn]at hu;cases hu
  ·obtain⟨fs,e⟩:=mq;rw[e]at hu;cases hu
 bool:=fun t hg hu b=>by
  simp only[gd,ma,xc,Cg]at hg;rcases hg with rfl|rfl|rfl|rfl|rfl|rfl|rfl|rfl|rfl|rfl|rfl|rfl|rfl|rfl|rfl|rfl|rfl|rfl|rfl|rfl|rfl|rfl|rfl|rfl|rfl|rfl|rfl|rfl|rfl|rfl|rfl|rfl|rfl|rfl|rfl|rfl|rfl|rfl|rfl|rfl|rfl|rfl|rfl|rfl|rfl|rfl|rfl|rfl
  ·rw[Wq]at hu;cases hu
  ·rw[Lm]at hu;cases hu
  ·exact⟨(b:Bool),rfl⟩
  ·rw[Vq]at hu;cases hu
  ·rw[Uq]at hu;cases hu
  ·obtain⟨fs,e⟩:=su;rw[e]at hu;cases hu
  ·rw[pu]at hu;cases hu
  ·rw[Tv]at hu;cases hu
  ·rw[Um]at hu;cases hu
  ·rw[Tm]at hu;cases hu
  ·obtain⟨fs,e⟩:=Sv;rw[e]at hu;cases hu
  ·rw[Sm]at hu;cases hu
  ·obtain⟨fs,e⟩:=Rv;rw[e]at hu;cases hu
  ·obtain⟨fs,e⟩:=Pv;rw[e]at hu;cases hu
  ·rw[Kn]at hu;cases hu
  ·rw[Jn]at hu;cases hu
  ·rw[Gn]at hu;cases hu
  ·rw[En]at hu;cases hu
  ·rw[Dn]at hu;cases hu
  ·obtain⟨fs,e⟩:=Ov;rw[e]at hu;cases hu
  ·rw[Bn]at hu;cases hu
  ·obtain⟨fs,e⟩:=Nv;rw[e]at hu;cases hu
  ·rw[ym]at hu;cases hu
  ·obtain⟨fs,e⟩:=Xv;rw[e]at hu;cases hu
  ·rw[wm]at hu;cases hu
  ·obtain⟨fs,e⟩:=Jr;rw[e]at hu;cases hu
  ·rw[Co]at hu;cases hu
  ·rw[Bo]at hu;cases hu
  ·obtain⟨fs,e⟩:=Ir;rw[e]at hu;cases hu
  ·rw[Ao]at hu;cases hu
  ·obtain⟨fs,e⟩:=Hr;rw[e]at hu;cases hu
  ·obtain⟨fs,e⟩:=Er;rw[e]at hu;cases hu
  ·obtain⟨fs,e⟩:=Dr;rw[e]at hu;cases hu
  ·rw[yn]at hu;cases hu
  ·obtain⟨fs,e⟩:=Cr;rw[e]at hu;cases hu
  ·obtain⟨fs,e⟩:=Br;rw[e]at hu;cases hu
  ·obtain⟨fs,e⟩:=Ar;rw[e]at hu;cases hu
  ·rw[dn]at hu;cases hu
  ·obtain⟨fs,e⟩:=xq;rw[e]at hu;cases hu
  ·obtain⟨fs,e⟩:=uq;rw[e]at hu;cases hu
  ·obtain⟨fs,e⟩:=tq;rw[e]at hu;cases hu
  ·obtain⟨fs,e⟩:=rq;rw[e]at hu;cases hu
  ·obtain⟨fs,e⟩:=pq;rw[e]at hu;cases hu
  ·obtain⟨fs,e⟩:=oq;rw[e]at hu;cases hu
  ·rw[bn]at hu;cases hu
  ·rw[Yn]at hu;cases hu
  ·rw[Xn]at hu;cases hu
  ·obtain⟨fs,e⟩:=mq;rw[e]at hu;cases hu
 str:=fun t hg hu l=>by
  simp only[gd,ma,xc,Cg]at hg;rcases hg with rfl|rfl|rfl|rfl|rfl|rfl|rfl|rfl|rfl|rfl|rfl|rfl|rfl|rfl|rfl|rfl|rfl|rfl|rfl|rfl|rfl|rfl|rfl|rfl|rfl|rfl|rfl|rfl|rfl|rfl|rfl|rfl|rfl|rfl|rfl|rfl|rfl|rfl|rfl|rfl|rfl|rfl|rfl|rfl|rfl|rfl|rfl|rfl
  ·rw[Wq]at hu;cases hu
  ·rw[Lm]at hu;cases hu
  ·rw[tu]at hu;cases hu
  ·rw[Vq]at hu;cases hu
  ·rw[Uq]at hu;cases hu
  ·obtain⟨fs,e⟩:=su;rw[e]at hu;cases hu
  ·exact⟨(l:Str),rfl⟩
  ·exact⟨(l:Str),rfl⟩
  ·rw[Um]at hu;cases hu
  ·rw[Tm]at hu;cases hu
  ·obtain⟨fs,e⟩:=Sv;rw[e]at hu;cases hu
  ·rw[Sm]at hu;cases hu
  ·obtain⟨fs,e⟩:=Rv;rw[e]at hu;cases hu
  ·obtain⟨fs,e⟩:=Pv;rw[e]at hu;cases hu
  ·rw[Kn]at hu;cases hu
  ·rw[Jn]at hu;cases hu
  ·rw[Gn]at hu;cases hu
  ·rw[En]at hu;cases hu
  ·rw[Dn]at hu;cases hu
  ·obtain⟨fs,e⟩:=Ov;rw[e]at hu;cases hu
  ·rw[Bn]at hu;cases hu
  ·obtain⟨fs,e⟩:=Nv;rw[e]at hu;cases hu
  ·rw[ym]at hu;cases hu
  ·obtain⟨fs,e⟩:=Xv;rw[e]at hu;cases hu
  ·rw[wm]at hu;cases hu
  ·obtain⟨fs,e⟩:=Jr;rw[e]at hu;cases hu
  ·rw[Co]at hu;cases hu
  ·rw[Bo]at hu;cases hu
  ·obtain⟨fs,e⟩:=Ir;rw[e]at hu;cases hu
  ·rw[Ao]at hu;cases hu
  ·obtain⟨fs,e⟩:=Hr;rw[e]at hu;cases hu
  ·obtain⟨fs,e⟩:=Er;rw[e]at hu;cases hu
  ·obtain⟨fs,e⟩:=Dr;rw[e]at hu;cases hu
  ·rw[yn]at hu;cases hu
  ·obtain⟨fs,e⟩:=Cr;rw[e]at hu;cases hu
  ·obtain⟨fs,e⟩:=Br;rw[e]at hu;cases hu
  ·obtain⟨fs,e⟩:=Ar;rw[e]at hu;cases hu
  ·rw[dn]at hu;cases hu
  ·obtain⟨fs,e⟩:=xq;rw[e]at hu;cases hu
  ·obtain⟨fs,e⟩:=uq;rw[e]at hu;cases hu
  ·obtain⟨fs,e⟩:=tq;rw[e]at hu;cases hu
  ·obtain⟨fs,e⟩:=rq;rw[e]at hu;cases hu
  ·obtain⟨fs,e⟩:=pq;rw[e]at hu;cases hu
  ·obtain⟨fs,e⟩:=oq;rw[e]at hu;cases hu
  ·rw[bn]at hu;cases hu
  ·rw[Yn]at hu;cases hu
  ·rw[Xn]at hu;cases hu
  ·obtain⟨fs,e⟩:=mq;rw[e]at hu;cases hu
 sl:=fun t e hg hu=>by
  simp only[gd,ma,xc,Cg]at hg;rcases hg with rfl|rfl|rfl|rfl|rfl|rfl|rfl|rfl|rfl|rfl|rfl|rfl|rfl|rfl|rfl|rfl|rfl|rfl|rfl|rfl|rfl|rfl|rfl|rfl|rfl|rfl|rfl|rfl|rfl|rfl|rfl|rfl|rfl|rfl|rfl|rfl|rfl|rfl|rfl|rfl|rfl|rfl|rfl|rfl|rfl|rfl|rfl|rfl
  ·rw[Wq]at hu;cases hu
  ·rw[Lm]at hu;cases hu
  ·rw[tu]at hu;cases hu
  ·rw[Vq]at hu;cases hu
  ·rw[Uq]at hu;cases hu
  ·obtain⟨fs,e⟩:=su;rw[e]at hu;cases hu
  ·rw[pu]at hu;cases hu
  ·rw[Tv]at hu;cases hu
  ·rw[Um]at hu;cases hu
  ·rw[Tm]at hu;cases hu;exact⟨by simp[gd],ib (by decide:0<4) (by kernel_rfl:4=Tryz.prog.cellsOf 33),fun l=>⟨(l:List Zr),rfl⟩⟩
  ·obtain⟨fs,e⟩:=Sv;rw[e]at hu;cases hu
  ·rw[Sm]at hu;cases hu;exact⟨by simp[gd],ib (by decide:0<12) (by kernel_rfl:12=Tryz.prog.cellsOf 74),fun l=>⟨(l:List zK),rfl⟩⟩
  ·obtain⟨fs,e⟩:=Rv;rw[e]at hu;cases hu
  ·obtain⟨fs,e⟩:=Pv;rw[e]at hu;cases hu
  ·rw[Kn]at hu;cases hu
  ·rw[Jn]at hu;cases hu;exact⟨by simp[gd],ib (by decide:0<1) (by kernel_rfl:1=Tryz.prog.cellsOf 3),fun l=>⟨(l:List Int),rfl⟩⟩
  ·rw[Gn]at hu;cases hu;exact⟨by simp[gd],ib (by decide:0<3) (by kernel_rfl:3=Tryz.prog.cellsOf 105),fun l=>⟨(l:List zf),rfl⟩⟩
  ·rw[En]at hu;cases hu;exact⟨by simp[gd],ib (by decide:0<3) (by kernel_rfl:3=Tryz.prog.cellsOf 68),fun l=>⟨(l:List Zd),rfl⟩⟩
  ·rw[Dn]at hu;cases hu;exact⟨by simp[gd],ib (by decide:0<6) (by kernel_rfl:6=Tryz.prog.cellsOf 131),fun l=>⟨(l:List ze),rfl⟩⟩
  ·obtain⟨fs,e⟩:=Ov;rw[e]at hu;cases hu
  ·rw[Bn]at hu;cases hu;exact⟨by simp[gd],ib (by decide:0<7) (by kernel_rfl:7=Tryz.prog.cellsOf 71),fun l=>⟨(l:List zo),rfl⟩⟩
  ·obtain⟨fs,e⟩:=Nv;rw[e]at hu;cases hu
  ·rw[ym]at hu;cases hu;exact⟨by simp[gd],ib (by decide:0<1) (by kernel_rfl:1=Tryz.prog.cellsOf 78),fun l=>⟨(l:List (List Str)),rfl⟩⟩
  ·obtain⟨fs,e⟩:=Xv;rw[e]at hu;cases hu
  ·rw[wm]at hu;cases hu;exact⟨by simp[gd],ib (by decide:0<1) (by kernel_rfl:1=Tryz.prog.cellsOf 9),fun l=>⟨(l:List Str),rfl⟩⟩
  ·obtain⟨fs,e⟩:=Jr;rw[e]at hu;cases hu
  ·rw[Co]at hu;cases hu;exact⟨by simp[gd],ib (by decide:0<2) (by kernel_rfl:2=Tryz.prog.cellsOf 109),fun l=>⟨(l:List zI),rfl⟩⟩
  ·rw[Bo]at hu;cases hu;exact⟨by simp[gd],ib (by decide:0<1) (by kernel_rfl:1=Tryz.prog.cellsOf 5),fun l=>⟨(l:List UInt8),rfl⟩⟩
  ·obtain⟨fs,e⟩:=Ir;rw[e]at hu;cases hu
  ·rw[Ao]at hu;cases hu;exact⟨by simp[gd],ib (by decide:0<9) (by kernel_rfl:9=Tryz.prog.cellsOf 114),fun l=>⟨(l:List zw),rfl⟩⟩
  ·obtain⟨fs,e⟩:=Hr;rw[e]at hu;cases hu
  ·obtain⟨fs,e⟩:=Er;rw[e]at hu;cases hu
  ·obtain⟨fs,e⟩:=Dr;rw[e]at hu;cases hu
  ·rw[yn]at hu;cases hu;exact⟨by simp[gd],ib (by decide:0<5) (by kernel_rfl:5=Tryz.prog.cellsOf 129),fun l=>⟨(l:List zk),rfl⟩⟩
  ·obtain⟨fs,e⟩:=Cr;rw[e]at hu;cases hu
  ·obtain⟨fs,e⟩:=Br;rw[e]at hu;cases hu
  ·obtain⟨fs,e⟩:=Ar;rw[e]at hu;cases hu
  ·rw[dn]at hu;cases hu;exact⟨by simp[gd],ib (by decide:0<1) (by kernel_rfl:1=Tryz.prog.cellsOf 66),fun l=>⟨(l:List (List ze)),rfl⟩⟩
  ·obtain⟨fs,e⟩:=xq;rw[e]at hu;cases hu
  ·obtain⟨fs,e⟩:=uq;rw[e]at hu;cases hu
  ·obtain⟨fs,e⟩:=tq;rw[e]at hu;cases hu
  ·obtain⟨fs,e⟩:=rq;rw[e]at hu;cases hu
  ·obtain⟨fs,e⟩:=pq;rw[e]at hu;cases hu
  ·obtain⟨fs,e⟩:=oq;rw[e]at hu;cases hu
  ·rw[bn]at hu;cases hu
  ·rw[Yn]at hu;cases hu
  ·rw[Xn]at hu;cases hu;exact⟨by simp[gd],ib (by decide:0<1) (by kernel_rfl:1=Tryz.prog.cellsOf 2),fun l=>⟨(l:List Int),rfl⟩⟩
  ·obtain⟨fs,e⟩:=mq;rw[e]at hu;cases hu
 st:=fun t fs hg hu=>by
  simp only[gd,ma,xc,Cg]at hg;rcases hg with rfl|rfl|rfl|rfl|rfl|rfl|rfl|rfl|rfl|rfl|rfl|rfl|rfl|rfl|rfl|rfl|rfl|rfl|rfl|rfl|rfl|rfl|rfl|rfl|rfl|rfl|rfl|rfl|rfl|rfl|rfl|rfl|rfl|rfl|rfl|rfl|rfl|rfl|rfl|rfl|rfl|rfl|rfl|rfl|rfl|rfl|rfl|rfl
  ·rw[Wq]at hu;cases hu
  ·rw[Lm]at hu;cases hu
  ·rw[tu]at hu;cases hu
  ·rw[Vq]at hu;cases hu
  ·rw[Uq]at hu;cases hu
  ·refine Lf hu zMj (by simp[gd]) (by kernel_rfl) (by kernel_rfl) (fun pvs h0=> ?_);obtain⟨_,pvs,rfl,⟨y0,rfl⟩,h1⟩:=zM h0;obtain⟨_,pvs,rfl,⟨y1,rfl⟩,h2⟩:=zM h1;obtain⟨_,pvs,rfl,⟨y2,rfl⟩,h3⟩:=zM h2;obtain⟨_,pvs,rfl,⟨y3,rfl⟩,h4⟩:=zM h3;rw[qG h4];exact⟨(⟨y0,y1,y2,((UInt8.toNat y3:Nat):Int)⟩:ZM),rfl⟩
  ·rw[pu]at hu;cases hu
  ·rw[Tv]at hu;cases hu
  ·rw[Um]at hu;cases hu
  ·rw[Tm]at hu;cases hu
  ·refine Lf hu zLE (by simp[gd]) (by kernel_rfl) (by kernel_rfl) (fun pvs h0=> ?_);obtain⟨_,pvs,rfl,⟨y0,rfl⟩,h1⟩:=zM h0;obtain⟨_,pvs,rfl,⟨y1,rfl⟩,h2⟩:=zM h1;rw[qG h2];exact⟨(⟨y0,y1⟩:Ze),rfl⟩
  ·rw[Sm]at hu;cases hu
  ·refine Lf hu zLF (by simp[gd]) (by kernel_rfl) (by kernel_rfl) (fun pvs h0=> ?_);obtain⟨_,pvs,rfl,⟨y0,rfl⟩,h1⟩:=zM h0;rw[qG h1];exact⟨(⟨y0⟩:ZI),rfl⟩
  ·refine Lf hu zLG (by simp[gd]) (by kernel_rfl) (by kernel_rfl) (fun pvs h0=> ?_);obtain⟨_,pvs,rfl,⟨y0,rfl⟩,h1⟩:=zM h0;obtain⟨_,pvs,rfl,⟨y1,rfl⟩,h2⟩:=zM h1;obtain⟨_,pvs,rfl,⟨y2,rfl⟩,h3⟩:=zM h2;obtain⟨_,pvs,rfl,⟨y3,rfl⟩,h4⟩:=zM h3;rw[qG h4];exact⟨(⟨y0,((UInt8.toNat y1:Nat):Int),y2,y3⟩:Zr),rfl⟩
  ·rw[Kn]at hu;cases hu
  ·rw[Jn]at hu;cases hu
  ·rw[Gn]at hu;cases hu
  ·rw[En]at hu;cases hu
  ·rw[Dn]at hu;cases hu
  ·refine Lf hu zLH (by simp[gd]) (by kernel_rfl) (by kernel_rfl) (fun pvs h0=> ?_);obtain⟨_,pvs,rfl,⟨y0,rfl⟩,h1⟩:=zM h0;obtain⟨_,pvs,rfl,⟨y1,rfl⟩,h2⟩:=zM h1;obtain⟨_,pvs,rfl,⟨y2,rfl⟩,h3⟩:=zM h2;rw[qG h3];exact⟨(⟨y0,y1,y2⟩:Zd),rfl⟩
  ·rw[Bn]at hu;cases hu
  ·refine Lf hu zLI (by simp[gd]) (by kernel_rfl) (by kernel_rfl) (fun pvs h0=> ?_);obtain⟨_,pvs,rfl,⟨y0,rfl⟩,h1⟩:=zM h0;obtain⟨_,pvs,rfl,⟨y1,rfl⟩,h2⟩:=zM h1;obtain⟨_,pvs,rfl,⟨y2,rfl⟩,h3⟩:=zM h2;obtain⟨_,pvs,rfl,⟨y3,rfl⟩,h4⟩:=zM h3;obtain⟨_,pvs,rfl,⟨y4,rfl⟩,h5⟩:=zM h4;rw[qG h5];exact⟨(⟨((UInt8.toNat y0:Nat):Int),y1,y2,y3,y4⟩:zo),(oL ((UInt8.toNat y0:Nat):Int) y1 y2 y3 y4).trans rfl⟩
  ·rw[ym]at hu;cases hu
  ·refine Lf hu zLJ (by simp[gd]) (by kernel_rfl) (by kernel_rfl) (fun pvs h0=> ?_);obtain⟨_,pvs,rfl,⟨y0,rfl⟩,h1⟩:=zM h0;obtain⟨_,pvs,rfl,⟨y1,rfl⟩,h2⟩:=zM h1;obtain⟨_,pvs,rfl,⟨y2,rfl⟩,h3⟩:=zM h2;obtain⟨_,pvs,rfl,⟨y3,rfl⟩,h4⟩:=zM h3;obtain⟨_,pvs,rfl,⟨y4,rfl⟩,h5⟩:=zM h4;obtain⟨_,pvs,rfl,⟨y5,rfl⟩,h6⟩:=zM h5;rw[qG h6];exact⟨(⟨((UInt8.toNat y0:Nat):Int),y1,y2,y3,y4,y5⟩:zK),(nL ((UInt8.toNat y0:Nat):Int) y1 y2 y3 y4 y5).trans (by
    show [.at (.int .u8 ((UInt8.toNat y0:Nat):Int))]++([.sl (y1.map zm)]++([.sl (y2.map Zu)]++([.at (.int .u8 y3.kind), .str y3.name, .at (.int .i64 y3.num), .str y3.decl.name, .sl (y3.decl.value.map Zp), .at (.bool y3.decl.important), .sl (y3.list.map zD)]++([.sl (y4.map (fun y=>[.sl (y.map (fun y=>[.str y]))]))]++([.sl (y5.map zF)]++([]:List PV))))))=_;rw[<-WM y3];rfl)⟩
  ·rw[wm]at hu;cases hu
  ·refine Lf hu zKt (by simp[gd]) (by kernel_rfl) (by kernel_rfl) (fun pvs h0=> ?_);obtain⟨_,pvs,rfl,⟨y0,rfl⟩,h1⟩:=zM h0;obtain⟨_,pvs,rfl,⟨y1,rfl⟩,h2⟩:=zM h1;obtain⟨_,pvs,rfl,⟨y2,rfl⟩,h3⟩:=zM h2;rw[qG h3];exact⟨(⟨y0,y1,y2⟩:zq),rfl⟩
  ·rw[Co]at hu;cases hu
  ·rw[Bo]at hu;cases hu
  ·refine Lf hu zKu (by simp[gd]) (by kernel_rfl) (by kernel_rfl) (fun pvs h0=> ?_);obtain⟨_,pvs,rfl,⟨y0,rfl⟩,h1⟩:=zM h0;obtain⟨_,pvs,rfl,⟨y1,rfl⟩,h2⟩:=zM h1;obtain⟨_,pvs,rfl,⟨y2,rfl⟩,h3⟩:=zM h2;rw[qG h3];exact⟨(⟨((UInt8.toNat y0:Nat):Int),y1,y2⟩:zf),(AO ((UInt8.toNat y0:Nat):Int) y1 y2).trans rfl⟩
  ·rw[Ao]at hu;cases hu
  ·refine Lf hu zKv (by simp[gd]) (by kernel_rfl) (by kernel_rfl) (fun pvs h0=> ?_);obtain⟨_,pvs,rfl,⟨y0,rfl⟩,h1⟩:=zM h0;obtain⟨_,pvs,rfl,⟨y1,rfl⟩,h2⟩:=zM h1;rw[qG h2];exact⟨(⟨y0,y1⟩:zI),(bO y0 y1).trans rfl⟩
  ·refine Lf hu zKw (by simp[gd]) (by kernel_rfl) (by kernel_rfl) (fun pvs h0=> ?_);obtain⟨_,pvs,rfl,⟨y0,rfl⟩,h1⟩:=zM h0;obtain⟨_,pvs,rfl,⟨y1,rfl⟩,h2⟩:=zM h1;rw[qG h2];exact⟨(⟨y0,y1⟩:VAnb),rfl⟩
  ·refine Lf hu zKx (by simp[gd]) (by kernel_rfl) (by kernel_rfl) (fun pvs h0=> ?_);obtain⟨_,pvs,rfl,⟨y0,rfl⟩,h1⟩:=zM h0;obtain⟨_,pvs,rfl,⟨y1,rfl⟩,h2⟩:=zM h1;obtain⟨_,pvs,rfl,⟨y2,rfl⟩,h3⟩:=zM h2;obtain⟨_,pvs,rfl,⟨y3,rfl⟩,h4⟩:=zM h3;obtain⟨_,pvs,rfl,⟨y4,rfl⟩,h5⟩:=zM h4;obtain⟨_,pvs,rfl,⟨y5,rfl⟩,h6⟩:=zM h5;obtain⟨_,pvs,rfl,⟨y6,rfl⟩,h7⟩:=zM h6;obtain⟨_,pvs,rfl,⟨y7,rfl⟩,h8⟩:=zM h7;rw[qG h8];exact⟨(⟨((UInt8.toNat y0:Nat):Int),y1,((UInt8.toNat y2:Nat):Int),y3,y4,y5,y6,y7⟩:zw),(TN ((UInt8.toNat y0:Nat):Int) y1 ((UInt8.toNat y2:Nat):Int) y3 y4 y5 y6 y7).trans rfl⟩
  ·rw[yn]at hu;cases hu
  ·refine Lf hu zKy (by simp[gd]) (by kernel_rfl) (by kernel_rfl) (fun pvs h0=> ?_);obtain⟨_,pvs,rfl,⟨y0,rfl⟩,h1⟩:=zM h0;obtain⟨_,pvs,rfl,⟨y1,rfl⟩,h2⟩:=zM h1;rw[qG h2];exact⟨(⟨y0,y1⟩:zJ),rfl⟩
  ·refine Lf hu zKz (by simp[gd]) (by kernel_rfl) (by kernel_rfl) (fun pvs h0=> ?_);obtain⟨_,pvs,rfl,⟨y0,rfl⟩,h1⟩:=zM h0;obtain⟨_,pvs,rfl,⟨y1,rfl⟩,h2⟩:=zM h1;obtain⟨_,pvs,rfl,⟨y2,rfl⟩,h3⟩:=zM h2;obtain⟨_,pvs,rfl,⟨y3,rfl⟩,h4⟩:=zM h3;obtain⟨_,pvs,rfl,⟨y4,rfl⟩,h5⟩:=zM h4;rw[qG h5];exact⟨(⟨((UInt8.toNat y0:Nat):Int),y1,y2,y3,y4⟩:zk),rfl⟩
  ·refine Lf hu zKA (by simp[gd]) (by kernel_rfl) (by kernel_rfl) (fun pvs h0=> ?_);obtain⟨_,pvs,rfl,⟨y0,rfl⟩,h1⟩:=zM h0;obtain⟨_,pvs,rfl,⟨y1,rfl⟩,h2⟩:=zM h1;rw[qG h2];exact⟨(⟨y0,y1⟩:ze),(VM y0 y1).trans rfl⟩
  ·rw[dn]at hu;cases hu
  ·refine Lf hu zKB (by simp[gd]) (by kernel_rfl) (by kernel_rfl) (fun pvs h0=> ?_);obtain⟨_,pvs,rfl,⟨y0,rfl⟩,h1⟩:=zM h0;obtain⟨_,pvs,rfl,⟨y1,rfl⟩,h2⟩:=zM h1;rw[qG h2];exact⟨(⟨y0,y1⟩:zV),rfl⟩
  ·refine Lf hu zKC (by simp[gd]) (by kernel_rfl) (by kernel_rfl) (fun pvs h0=> ?_);obtain⟨_,pvs,rfl,⟨y0,rfl⟩,h1⟩:=zM h0;obtain⟨_,pvs,rfl,⟨y1,rfl⟩,h2⟩:=zM h1;rw[qG h2];exact⟨(⟨y0,y1⟩:zg),rfl⟩
  ·refine Lf hu zKD (by simp[gd]) (by kernel_rfl) (by kernel_rfl) (fun pvs h0=> ?_);obtain⟨_,pvs,rfl,⟨y0,rfl⟩,h1⟩:=zM h0;obtain⟨_,pvs,rfl,⟨y1,rfl⟩,h2⟩:=zM h1;obtain⟨_,pvs,rfl,⟨y2,rfl⟩,h3⟩:=zM h2;rw[qG h3];exact⟨(⟨y0,y1,y2⟩:zS),rfl⟩
  ·refine Lf hu zKE (by simp[gd]) (by kernel_rfl) (by kernel_rfl) (fun pvs h0=> ?_);obtain⟨_,pvs,rfl,⟨y0,rfl⟩,h1⟩:=zM h0;obtain⟨_,pvs,rfl,⟨y1,rfl⟩,h2⟩:=zM h1;rw[qG h2];exact⟨(⟨y0,y1⟩:zb),rfl⟩
  ·refine Lf hu zKF (by simp[gd]) (by kernel_rfl) (by kernel_rfl) (fun pvs h0=> ?_);obtain⟨_,pvs,rfl,⟨y0,rfl⟩,h1⟩:=zM h0;obtain⟨_,pvs,rfl,⟨y1,rfl⟩,h2⟩:=zM h1;obtain⟨_,pvs,rfl,⟨y2,rfl⟩,h3⟩:=zM h2;obtain⟨_,pvs,rfl,⟨y3,rfl⟩,h4⟩:=zM h3;obtain⟨_,pvs,rfl,⟨y4,rfl⟩,h5⟩:=zM h4;obtain⟨_,pvs,rfl,⟨y5,rfl⟩,h6⟩:=zM h5;obtain⟨_,pvs,rfl,⟨y6,rfl⟩,h7⟩:=zM h6;rw[qG h7];exact⟨(⟨((UInt8.toNat y0:Nat):Int),y1,((UInt8.toNat y2:Nat):Int),y3,y4,y5,y6⟩:Qp),rfl⟩
  ·refine Lf hu zKG (by simp[gd]) (by kernel_rfl) (by kernel_rfl) (fun pvs h0=> ?_);obtain⟨_,pvs,rfl,⟨y0,rfl⟩,h1⟩:=zM h0;rw[qG h1];exact⟨(⟨y0⟩:zx),rfl⟩
  ·rw[bn]at hu;cases hu
  ·rw[Yn]at hu;cases hu
  ·rw[Xn]at hu;cases hu
  ·refine Lf hu zKH (by simp[gd]) (by kernel_rfl) (by kernel_rfl) (fun pvs h0=> ?_);obtain⟨_,pvs,rfl,⟨y0,rfl⟩,h1⟩:=zM h0;obtain⟨_,pvs,rfl,⟨y1,rfl⟩,h2⟩:=zM h1;rw[qG h2];exact⟨(⟨y0,y1⟩:zt),rfl⟩
 only:=fun t u hg hu=>by
  simp only[gd,ma,xc,Cg]at hg;rcases hg with rfl|rfl|rfl|rfl|rfl|rfl|rfl|rfl|rfl|rfl|rfl|rfl|rfl|rfl|rfl|rfl|rfl|rfl|rfl|rfl|rfl|rfl|rfl|rfl|rfl|rfl|rfl|rfl|rfl|rfl|rfl|rfl|rfl|rfl|rfl|rfl|rfl|rfl|rfl|rfl|rfl|rfl|rfl|rfl|rfl|rfl|rfl|rfl
  ·rw[Wq]at hu;cases hu;exact .inl ⟨_,rfl⟩
  ·rw[Lm]at hu;cases hu;exact .inl ⟨_,rfl⟩
  ·rw[tu]at hu;cases hu;exact .inr (.inl rfl)
  ·rw[Vq]at hu;cases hu;exact .inl ⟨_,rfl⟩
  ·rw[Uq]at hu;cases hu;exact .inl ⟨_,rfl⟩
  ·obtain⟨fs,e⟩:=su;rw[e]at hu;cases hu;exact .inr (.inr (.inr (.inr ⟨_,rfl⟩)))
  ·rw[pu]at hu;cases hu;exact .inr (.inr (.inl rfl))
  ·rw[Tv]at hu;cases hu;exact .inr (.inr (.inl rfl))
  ·rw[Um]at hu;cases hu;exact .inl ⟨_,rfl⟩
  ·rw[Tm]at hu;cases hu;exact .inr (.inr (.inr (.inl ⟨_,rfl⟩)))
  ·obtain⟨fs,e⟩:=Sv;rw[e]at hu;cases hu;exact .inr (.inr (.inr (.inr ⟨_,rfl⟩)))
  ·rw[Sm]at hu;cases hu;exact .inr (.inr (.inr (.inl ⟨_,rfl⟩)))
  ·obtain⟨fs,e⟩:=Rv;rw[e]at hu;cases hu;exact .inr (.inr (.inr (.inr ⟨_,rfl⟩)))
  ·obtain⟨fs,e⟩:=Pv;rw[e]at hu;cases hu;exact .inr (.inr (.inr (.inr ⟨_,rfl⟩)))
  ·rw[Kn]at hu;cases hu;exact .inl ⟨_,rfl⟩
  ·rw[Jn]at hu;cases hu;exact .inr (.inr (.inr (.inl ⟨_,rfl⟩)))
  ·rw[Gn]at hu;cases hu;exact .inr (.inr (.inr (.inl ⟨_,rfl⟩)))
  ·rw[En]at hu;cases hu;exact .inr (.inr (.inr (.inl ⟨_,rfl⟩)))
  ·rw[Dn]at hu;cases hu;exact .inr (.inr (.inr (.inl ⟨_,rfl⟩)))
  ·obtain⟨fs,e⟩:=Ov;rw[e]at hu;cases hu;exact .inr (.inr (.inr (.inr ⟨_,rfl⟩)))
  ·rw[Bn]at hu;cases hu;exact .inr (.inr (.inr (.inl ⟨_,rfl⟩)))
  ·obtain⟨fs,e⟩:=Nv;rw[e]at hu;cases hu;exact .inr (.inr (.inr (.inr ⟨_,rfl⟩)))
  ·rw[ym]at hu;cases hu;exact .inr (.inr (.inr (.inl ⟨_,rfl⟩)))
  ·obtain⟨fs,e⟩:=Xv;rw[e]at hu;cases hu;exact .inr (.inr (.inr (.inr ⟨_,rfl⟩)))
  ·rw[wm]at hu;cases hu;exact .inr (.inr (.inr (.inl ⟨_,rfl⟩)))
  ·obtain⟨fs,e⟩:=Jr;rw[e]at hu;cases hu;exact .inr (.inr (.inr (.inr ⟨_,rfl⟩)))
  ·rw[Co]at hu;cases hu;exact .inr (.inr (.inr (.inl ⟨_,rfl⟩)))
  ·rw[Bo]at hu;cases hu;exact .inr (.inr (.inr (.inl ⟨_,rfl⟩)))
  ·obtain⟨fs,e⟩:=Ir;rw[e]at hu;cases hu;exact .inr (.inr (.inr (.inr ⟨_,rfl⟩)))
  ·rw[Ao]at hu;cases hu;exact .inr (.inr (.inr (.inl ⟨_,rfl⟩)))
  ·obtain⟨fs,e⟩:=Hr;rw[e]at hu;cases hu;exact .inr (.inr (.inr (.inr ⟨_,rfl⟩)))
  ·obtain⟨fs,e⟩:=Er;rw[e]at hu;cases hu;exact .inr (.inr (.inr (.inr ⟨_,rfl⟩)))
  ·obtain⟨fs,e⟩:=Dr;rw[e]at hu;cases hu;exact .inr (.inr (.inr (.inr ⟨_,rfl⟩)))
  ·rw[yn]at hu;cases hu;exact .inr (.inr (.inr (.inl ⟨_,rfl⟩)))
  ·obtain⟨fs,e⟩:=Cr;rw[e]at hu;cases hu;exact .inr (.inr (.inr (.inr ⟨_,rfl⟩)))
  ·obtain⟨fs,e⟩:=Br;rw[e]at hu;cases hu;exact .inr (.inr (.inr (.inr ⟨_,rfl⟩)))
  ·obtain⟨fs,e⟩:=Ar;rw[e]at hu;cases hu;exact .inr (.inr (.inr (.inr ⟨_,rfl⟩)))
  ·rw[dn]at hu;cases hu;exact .inr (.inr (.inr (.inl ⟨_,rfl⟩)))
  ·obtain⟨fs,e⟩:=xq;rw[e]at hu;cases hu;exact .inr (.inr (.inr (.inr ⟨_,rfl⟩)))
  ·obtain⟨fs,e⟩:=uq;rw[e]at hu;cases hu;exact .inr (.inr (.inr (.inr ⟨_,rfl⟩)))
  ·obtain⟨fs,e⟩:=tq;rw[e]at hu;cases hu;exact .inr (.inr (.inr (.inr ⟨_,rfl⟩)))
  ·obtain⟨fs,e⟩:=rq;rw[e]at hu;cases hu;exact .inr (.inr (.inr (.inr ⟨_,rfl⟩)))
  ·obtain⟨fs,e⟩:=pq;rw[e]at hu;cases hu;exact .inr (.inr (.inr (.inr ⟨_,rfl⟩)))
  ·obtain⟨fs,e⟩:=oq;rw[e]at hu;cases hu;exact .inr (.inr (.inr (.inr ⟨_,rfl⟩)))
  ·rw[bn]at hu;cases hu;exact .inl ⟨_,rfl⟩
  ·rw[Yn]at hu;cases hu;exact .inl ⟨_,rfl⟩
  ·rw[Xn]at hu;cases hu;exact .inr (.inr (.inr (.inl ⟨_,rfl⟩)))
  ·obtain⟨fs,e⟩:=mq;rw[e]at hu;cases hu;exact .inr (.inr (.inr (.inr ⟨_,rfl⟩)))
end Go.Lv.VT
