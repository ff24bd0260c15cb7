/- Which values may come in. -/
import Derived.Test.YtcdeccnjlkkejaaGreatDoorIp
import Derived.Test.YtcdeccnjlkkejaaGreatDoorLf
set_option linter.unusedSimpArgs false
set_option linter.unusedVariables false
namespace Go.Lv.VT
set_option maxRecDepth 100000
open Go.Proofs
def gd:List Nat:=[2,3,4,5,9,12,21,22,23,25,42,44,49,52,66,71,101,116,119,122,133,174,185,217]
theorem yo:Tryz.prog.underlying 2=some (.int .i64):=by kernel_rfl
theorem wo:Tryz.prog.underlying 3=some (.int .i64):=by kernel_rfl
theorem Yt:Tryz.prog.underlying 4=some (.bool):=by kernel_rfl
theorem vo:Tryz.prog.underlying 5=some (.int .u8):=by kernel_rfl
theorem uo:Tryz.prog.underlying 9=some (.string):=by kernel_rfl
theorem Xq:Tryz.prog.underlying 12=some (.int .u64):=by kernel_rfl
theorem Wq:Tryz.prog.underlying 21=some (.int .i32):=by kernel_rfl
theorem Vq:Tryz.prog.underlying 22=some (.slice 44):=by kernel_rfl
theorem Uq:Tryz.prog.underlying 23=some (.slice 49):=by kernel_rfl
theorem Tq:Tryz.prog.underlying 25=some (.int .i64):=by kernel_rfl
theorem Sq:Tryz.prog.underlying 42=some (.slice 5):=by kernel_rfl
theorem au: ∃fs,Tryz.prog.underlying 44=some (.struct fs):=⟨(match Tryz.prog.underlying 44 with|some (.struct fs)=>fs|_=> #[]),by kernel_rfl⟩
theorem zC5:jl Tryz.prog 44=[(5,0),(9,1),(2,2),(9,3),(4,4)]:=by kernel_rfl
theorem Yu: ∃fs,Tryz.prog.underlying 49=some (.struct fs):=⟨(match Tryz.prog.underlying 49 with|some (.struct fs)=>fs|_=> #[]),by kernel_rfl⟩
theorem zC6:jl Tryz.prog 49=[(44,0),(23,5)]:=by kernel_rfl
theorem Rq:Tryz.prog.underlying 52=some (.slice 23):=by kernel_rfl
theorem Xu: ∃fs,Tryz.prog.underlying 66=some (.struct fs):=⟨(match Tryz.prog.underlying 66 with|some (.struct fs)=>fs|_=> #[]),by kernel_rfl⟩
theorem zC7:jl Tryz.prog 66=[(9,0),(23,1),(4,2)]:=by kernel_rfl
theorem Pq:Tryz.prog.underlying 71=some (.slice 66):=by kernel_rfl
theorem Mv: ∃fs,Tryz.prog.underlying 101=some (.struct fs):=⟨(match Tryz.prog.underlying 101 with|some (.struct fs)=>fs|_=> #[]),by kernel_rfl⟩
theorem zBA:jl Tryz.prog 101=[(3,0),(3,1),(4,2)]:=by kernel_rfl
theorem rq:Tryz.prog.underlying 116=some (.slice 119):=by kernel_rfl
theorem Kv: ∃fs,Tryz.prog.underlying 119=some (.struct fs):=⟨(match Tryz.prog.underlying 119 with|some (.struct fs)=>fs|_=> #[]),by kernel_rfl⟩
theorem zBB:jl Tryz.prog 119=[(3,0),(3,1)]:=by kernel_rfl
theorem Ur:Tryz.prog.underlying 122=some (.slice 9):=by kernel_rfl
theorem Jv: ∃fs,Tryz.prog.underlying 133=some (.struct fs):=⟨(match Tryz.prog.underlying 133 with|some (.struct fs)=>fs|_=> #[]),by kernel_rfl⟩
theorem zBC:jl Tryz.prog 133=[(9,0),(3,1)]:=by kernel_rfl
theorem Sr:Tryz.prog.underlying 174=some (.int .u64):=by kernel_rfl
theorem Nr:Tryz.prog.underlying 185=some (.int .u32):=by kernel_rfl
theorem Mr:Tryz.prog.underlying 217=some (.int .u64):=by kernel_rfl
theorem ipRd:IpRd Tryz.prog I (fun t=>t∈gd)where
 int:=fun t k hg hu n h1 h2=>by
  simp only[gd,Ab,Ke,ng]at hg;rcases hg with rfl|rfl|rfl|rfl|rfl|rfl|rfl|rfl|rfl|rfl|rfl|rfl|rfl|rfl|rfl|rfl|rfl|rfl|rfl|rfl|rfl|rfl|rfl|rfl
  ·rw[yo]at hu;cases hu;exact⟨(n:Int),rfl⟩
  ·rw[wo]at hu;cases hu;exact⟨(n:Int),rfl⟩
  ·rw[Yt]at hu;cases hu
  ·rw[vo]at hu;cases hu;exact⟨UInt8.ofNat n.toNat,zDW h1 h2⟩
  ·rw[uo]at hu;cases hu
  ·rw[Xq]at hu;cases hu;exact⟨(n:Int),rfl⟩
  ·rw[Wq]at hu;cases hu;exact⟨(n:Int),rfl⟩
  ·rw[Vq]at hu;cases hu
  ·rw[Uq]at hu;cases hu
  ·rw[Tq]at hu;cases hu;exact⟨(n:Int),rfl⟩
  ·rw[Sq]at hu;cases hu
  ·obtain⟨fs,e⟩:=au;rw[e]at hu;cases hu
  ·obtain⟨fs,e⟩:=Yu;rw[e]at hu;cases hu
  ·rw[Rq]at hu;cases hu
  ·obtain⟨fs,e⟩:=Xu;rw[e]at hu;cases hu
  ·rw[Pq]at hu;cases hu
  ·obtain⟨fs,e⟩:=Mv;rw[e]at hu;cases hu
  ·rw[rq]at hu;cases hu
  ·obtain⟨fs,e⟩:=Kv;rw[e]at hu;cases hu
  ·rw[Ur]at hu;cases hu
  ·obtain⟨fs,e⟩:=Jv;rw[e]at hu;cases hu
  ·rw[Sr]at hu;cases hu;exact⟨(n:Int),rfl⟩
  ·rw[Nr]at hu;cases hu;exact⟨(n:Int),rfl⟩
  ·rw[Mr]at hu;cases hu;exact⟨(n:Int),rfl⟩
 bool:=fun t hg hu b=>by
  simp only[gd,Ab,Ke,ng]at hg;rcases hg with rfl|rfl|rfl|rfl|rfl|rfl|rfl|rfl|rfl|rfl|rfl|rfl|rfl|rfl|rfl|rfl|rfl|rfl|rfl|rfl|rfl|rfl|rfl|rfl
  ·rw[yo]at hu;cases hu
  ·rw[wo]at hu;cases hu
  ·exact⟨(b:Bool),rfl⟩
  ·rw[vo]at hu;cases hu
  ·rw[uo]at hu;cases hu
  ·rw[Xq]at hu;cases hu
  ·rw[Wq]at hu;cases hu
  ·rw[Vq]at hu;cases hu
  ·rw[Uq]at hu;cases hu
  ·rw[Tq]at hu;cases hu
  ·rw[Sq]at hu;cases hu
  ·obtain⟨fs,e⟩:=au;rw[e]at hu;cases hu
  ·obtain⟨fs,e⟩:=Yu;rw[e]at hu;cases hu
  ·rw[Rq]at hu;cases hu
  ·obtain⟨fs,e⟩:=Xu;rw[e]at hu;cases hu
  ·rw[Pq]at hu;cases hu
  ·obtain⟨fs,e⟩:=Mv;rw[e]at hu;cases hu
  ·rw[rq]at hu;cases hu
  ·obtain⟨fs,e⟩:=Kv;rw[e]at hu;cases hu
  ·rw[Ur]at hu;cases hu
  ·obtain⟨fs,e⟩:=Jv;rw[e]at hu;cases hu
  ·rw[Sr]at hu;cases hu
  ·rw[Nr]at hu;cases hu
  ·rw[Mr]at hu;cases hu
 str:=fun t hg hu l=>by
  simp only[gd,Ab,Ke,ng]at hg;rcases hg with rfl|rfl|rfl|rfl|rfl|rfl|rfl|rfl|rfl|rfl|rfl|rfl|rfl|rfl|rfl|rfl|rfl|rfl|rfl|rfl|rfl|rfl|rfl|rfl
  ·rw[yo]at hu;cases hu
  ·rw[wo]at hu;cases hu
  ·rw[Yt]at hu;cases hu
  ·rw[vo]at hu;cases hu
  ·exact⟨(l:Str),rfl⟩
  ·rw[Xq]at hu;cases hu
  ·rw[Wq]at hu;cases hu
  ·rw[Vq]at hu;cases hu
  ·rw[Uq]at hu;cases hu
  ·rw[Tq]at hu;cases hu
  ·rw[Sq]at hu;cases hu
  ·obtain⟨fs,e⟩:=au;rw[e]at hu;cases hu
  ·obtain⟨fs,e⟩:=Yu;rw[e]at hu;cases hu
  ·rw[Rq]at hu;cases hu
  ·obtain⟨fs,e⟩:=Xu;rw[e]at hu;cases hu
  ·rw[Pq]at hu;cases hu
  ·obtain⟨fs,e⟩:=Mv;rw[e]at hu;cases hu
  ·rw[rq]at hu;cases hu
  ·obtain⟨fs,e⟩:=Kv;rw[e]at hu;cases hu
  ·rw[Ur]at hu;cases hu
  ·obtain⟨fs,e⟩:=Jv;rw[e]at hu;cases hu
  ·rw[Sr]at hu;cases hu
  ·rw[Nr]at hu;cases hu
  ·rw[Mr]at hu;cases hu
 sl:=fun t e hg hu=>by
  simp only[gd,Ab,Ke,ng]at hg;rcases hg with rfl|rfl|rfl|rfl|rfl|rfl|rfl|rfl|rfl|rfl|rfl|rfl|rfl|rfl|rfl|rfl|rfl|rfl|rfl|rfl|rfl|rfl|rfl|rfl
  ·rw[yo]at hu;cases hu
  ·rw[wo]at hu;cases hu
  ·rw[Yt]at hu;cases hu
  ·rw[vo]at hu;cases hu
  ·rw[uo]at hu;cases hu
  ·rw[Xq]at hu;cases hu
  ·rw[Wq]at hu;cases hu
  ·rw[Vq]at hu;cases hu;exact⟨by simp[gd],Ef (by decide:0<5) (by kernel_rfl:5=Tryz.prog.cellsOf 44),fun l=>⟨(l:List zb),rfl⟩⟩
  ·rw[Uq]at hu;cases hu;exact⟨by simp[gd],Ef (by decide:0<6) (by kernel_rfl:6=Tryz.prog.cellsOf 49),fun l=>⟨(l:List zg),rfl⟩⟩
  ·rw[Tq]at hu;cases hu
  ·rw[Sq]at hu;cases hu;exact⟨by simp[gd],Ef (by decide:0<1) (by kernel_rfl:1=Tryz.prog.cellsOf 5),fun l=>⟨(l:List UInt8),rfl⟩⟩
  ·obtain⟨fs,e⟩:=au;rw[e]at hu;cases hu
  ·obtain⟨fs,e⟩:=Yu;rw[e]at hu;cases hu
  ·rw[Rq]at hu;cases hu;exact⟨by simp[gd],Ef (by decide:0<1) (by kernel_rfl:1=Tryz.prog.cellsOf 23),fun l=>⟨(l:List (List zg)),rfl⟩⟩
  ·obtain⟨fs,e⟩:=Xu;rw[e]at hu;cases hu
  ·rw[Pq]at hu;cases hu;exact⟨by simp[gd],Ef (by decide:0<3) (by kernel_rfl:3=Tryz.prog.cellsOf 66),fun l=>⟨(l:List zgD),rfl⟩⟩
  ·obtain⟨fs,e⟩:=Mv;rw[e]at hu;cases hu
  ·rw[rq]at hu;cases hu;exact⟨by simp[gd],Ef (by decide:0<2) (by kernel_rfl:2=Tryz.prog.cellsOf 119),fun l=>⟨(l:List zz),rfl⟩⟩
  ·obtain⟨fs,e⟩:=Kv;rw[e]at hu;cases hu
  ·rw[Ur]at hu;cases hu;exact⟨by simp[gd],Ef (by decide:0<1) (by kernel_rfl:1=Tryz.prog.cellsOf 9),fun l=>⟨(l:List Str),rfl⟩⟩
  ·obtain⟨fs,e⟩:=Jv;rw[e]at hu;cases hu
  ·rw[Sr]at hu;cases hu
  ·rw[Nr]at hu;cases hu
  ·rw[Mr]at hu;cases hu
 st:=fun t fs hg hu=>by
  simp only[gd,Ab,Ke,ng]at hg;rcases hg with rfl|rfl|rfl|rfl|rfl|rfl|rfl|rfl|rfl|rfl|rfl|rfl|rfl|rfl|rfl|rfl|rfl|rfl|rfl|rfl|rfl|rfl|rfl|rfl
  ·rw[yo]at hu;cases hu
  ·rw[wo]at hu;cases hu
  ·rw[Yt]at hu;cases hu
  ·rw[vo]at hu;cases hu
  ·rw[uo]at hu;cases hu
  ·rw[Xq]at hu;cases hu
  ·rw[Wq]at hu;cases hu
  ·rw[Vq]at hu;cases hu
  ·rw[Uq]at hu;cases hu
  ·rw[Tq]at hu;cases hu
  ·rw[Sq]at hu;cases hu
  ·refine Ep hu zC5 (by simp[gd]) (by kernel_rfl) (by kernel_rfl) (fun pvs h0=> ?_);obtain⟨_,pvs,rfl,⟨y0,rfl⟩,h1⟩:=ZY h0;obtain⟨_,pvs,rfl,⟨y1,rfl⟩,h2⟩:=ZY h1;obtain⟨_,pvs,rfl,⟨y2,rfl⟩,h3⟩:=ZY h2;obtain⟨_,pvs,rfl,⟨y3,rfl⟩,h4⟩:=ZY h3;obtain⟨_,pvs,rfl,⟨y4,rfl⟩,h5⟩:=ZY h4;rw[kr h5];exact⟨(⟨((UInt8.toNat y0:Nat):Int),y1,y2,y3,y4⟩:zb),rfl⟩
  ·refine Ep hu zC6 (by simp[gd]) (by kernel_rfl) (by kernel_rfl) (fun pvs h0=> ?_);obtain⟨_,pvs,rfl,⟨y0,rfl⟩,h1⟩:=ZY h0;obtain⟨_,pvs,rfl,⟨y1,rfl⟩,h2⟩:=ZY h1;rw[kr h2];exact⟨(⟨y0,y1⟩:zg),(BS y0 y1).trans rfl⟩
  ·rw[Rq]at hu;cases hu
  ·refine Ep hu zC7 (by simp[gd]) (by kernel_rfl) (by kernel_rfl) (fun pvs h0=> ?_);obtain⟨_,pvs,rfl,⟨y0,rfl⟩,h1⟩:=ZY h0;obtain⟨_,pvs,rfl,⟨y1,rfl⟩,h2⟩:=ZY h1;obtain⟨_,pvs,rfl,⟨y2,rfl⟩,h3⟩:=ZY h2;rw[kr h3];exact⟨(⟨y0,y1,y2⟩:zgD),rfl⟩
  ·rw[Pq]at hu;cases hu
  ·refine Ep hu zBA (by simp[gd]) (by kernel_rfl) (by kernel_rfl) (fun pvs h0=> ?_);obtain⟨_,pvs,rfl,⟨y0,rfl⟩,h1⟩:=ZY h0;obtain⟨_,pvs,rfl,⟨y1,rfl⟩,h2⟩:=ZY h1;obtain⟨_,pvs,rfl,⟨y2,rfl⟩,h3⟩:=ZY h2;rw[kr h3];exact⟨(⟨y0,y1,y2⟩:zH),rfl⟩
  ·rw[rq]at hu;cases hu
  ·refine Ep hu zBB (by simp[gd]) (by kernel_rfl) (by kernel_rfl) (fun pvs h0=> ?_);obtain⟨_,pvs,rfl,⟨y0,rfl⟩,h1⟩:=ZY h0;obtain⟨_,pvs,rfl,⟨y1,rfl⟩,h2⟩:=ZY h1;rw[kr h2];exact⟨(⟨y0,y1⟩:zz),rfl⟩
  ·rw[Ur]at hu;cases hu
  ·refine Ep hu zBC (by simp[gd]) (by kernel_rfl) (by kernel_rfl) (fun pvs h0=> ?_);obtain⟨_,pvs,rfl,⟨y0,rfl⟩,h1⟩:=ZY h0;obtain⟨_,pvs,rfl,⟨y1,rfl⟩,h2⟩:=ZY h1;rw[kr h2];exact⟨(⟨y0,y1⟩:za),rfl⟩
  ·rw[Sr]at hu;cases hu
  ·rw[Nr]at hu;cases hu
  ·rw[Mr]at hu;cases hu
 only:=fun t u hg hu=>by
  simp only[gd,Ab,Ke,ng]at hg;rcases hg with rfl|rfl|rfl|rfl|rfl|rfl|rfl|rfl|rfl|rfl|rfl|rfl|rfl|rfl|rfl|rfl|rfl|rfl|rfl|rfl|rfl|rfl|rfl|rfl
  ·rw[yo]at hu;cases hu;exact .inl ⟨_,rfl⟩
  ·rw[wo]at hu;cases hu;exact .inl ⟨_,rfl⟩
  ·rw[Yt]at hu;cases hu;exact .inr (.inl rfl)
  ·rw[vo]at hu;cases hu;exact .inl ⟨_,rfl⟩
  ·rw[uo]at hu;cases hu;exact .inr (.inr (.inl rfl))
  ·rw[Xq]at hu;cases hu;exact .inl ⟨_,rfl⟩
  ·rw[Wq]at hu;cases hu;exact .inl ⟨_,rfl⟩
  ·rw[Vq]at hu;cases hu;exact .inr (.inr (.inr (.inl ⟨_,rfl⟩)))
  ·rw[Uq]at hu;cases hu;exact .inr (.inr (.inr (.inl ⟨_,rfl⟩)))
  ·rw[Tq]at hu;cases hu;exact .inl ⟨_,rfl⟩
  ·rw[Sq]at hu;cases hu;exact .inr (.inr (.inr (.inl ⟨_,rfl⟩)))
  ·obtain⟨fs,e⟩:=au;rw[e]at hu;cases hu;exact .inr (.inr (.inr (.inr ⟨_,rfl⟩)))
  ·obtain⟨fs,e⟩:=Yu;rw[e]at hu;cases hu;exact .inr (.inr (.inr (.inr ⟨_,rfl⟩)))
  ·rw[Rq]at hu;cases hu;exact .inr (.inr (.inr (.inl ⟨_,rfl⟩)))
  ·obtain⟨fs,e⟩:=Xu;rw[e]at hu;cases hu;exact .inr (.inr (.inr (.inr ⟨_,rfl⟩)))
  ·rw[Pq]at hu;cases hu;exact .inr (.inr (.inr (.inl ⟨_,rfl⟩)))
  ·obtain⟨fs,e⟩:=Mv;rw[e]at hu;cases hu;exact .inr (.inr (.inr (.inr ⟨_,rfl⟩)))
  ·rw[rq]at hu;cases hu;exact .inr (.inr (.inr (.inl ⟨_,rfl⟩)))
  ·obtain⟨fs,e⟩:=Kv;rw[e]at hu;cases hu;exact .inr (.inr (.inr (.inr ⟨_,rfl⟩)))
  ·rw[Ur]at hu;cases hu;exact .inr (.inr (.inr (.inl ⟨_,rfl⟩)))
  ·obtain⟨fs,e⟩:=Jv;rw[e]at hu;cases hu;exact .inr (.inr (.inr (.inr ⟨_,rfl⟩)))
  ·rw[Sr]at hu;cases hu;exact .inl ⟨_,rfl⟩
  ·rw[Nr]at hu;cases hu;exact .inl ⟨_,rfl⟩
  ·rw[Mr]at hu;cases hu;exact .inl ⟨_,rfl⟩
end Go.Lv.VT
