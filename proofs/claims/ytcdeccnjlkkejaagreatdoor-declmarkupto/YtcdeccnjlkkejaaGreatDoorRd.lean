/- Which values may come in. -/
import Derived.Test.YtcdeccnjlkkejaaGreatDoorIp
import Derived.Test.YtcdeccnjlkkejaaGreatDoorLf
set_option linter.unusedSimpArgs false
set_option linter.unusedVariables false
namespace Go.Lv.VT
set_option maxRecDepth 100000
open Go.Proofs
def gd:List Nat:=[2,3,4,5,9,21,22,23,25,42,44,49,52,66,71,101,116,119,122,133,174,185,217]
theorem Rp:Tryz.prog.underlying 2=some (.int .i64):=by kernel_rfl
theorem Pp:Tryz.prog.underlying 3=some (.int .i64):=by kernel_rfl
theorem Yt:Tryz.prog.underlying 4=some (.bool):=by kernel_rfl
theorem Np:Tryz.prog.underlying 5=some (.int .u8):=by kernel_rfl
theorem Xt:Tryz.prog.underlying 9=some (.string):=by kernel_rfl
theorem Uq:Tryz.prog.underlying 21=some (.int .i32):=by kernel_rfl
theorem Tq:Tryz.prog.underlying 22=some (.slice 44):=by kernel_rfl
theorem Sq:Tryz.prog.underlying 23=some (.slice 49):=by kernel_rfl
theorem Rq:Tryz.prog.underlying 25=some (.int .i64):=by kernel_rfl
theorem Pq:Tryz.prog.underlying 42=some (.slice 5):=by kernel_rfl
theorem Tu: ∃fs,Tryz.prog.underlying 44=some (.struct fs):=⟨(match Tryz.prog.underlying 44 with|some (.struct fs)=>fs|_=> #[]),by kernel_rfl⟩
theorem zEO:Ul Tryz.prog 44=[(5,0),(9,1),(2,2),(9,3),(4,4)]:=by kernel_rfl
theorem Su: ∃fs,Tryz.prog.underlying 49=some (.struct fs):=⟨(match Tryz.prog.underlying 49 with|some (.struct fs)=>fs|_=> #[]),by kernel_rfl⟩
theorem zEP:Ul Tryz.prog 49=[(44,0),(23,5)]:=by kernel_rfl
theorem Oq:Tryz.prog.underlying 52=some (.slice 23):=by kernel_rfl
theorem Ru: ∃fs,Tryz.prog.underlying 66=some (.struct fs):=⟨(match Tryz.prog.underlying 66 with|some (.struct fs)=>fs|_=> #[]),by kernel_rfl⟩
theorem zEQ:Ul Tryz.prog 66=[(9,0),(23,1),(4,2)]:=by kernel_rfl
theorem Nq:Tryz.prog.underlying 71=some (.slice 66):=by kernel_rfl
theorem su: ∃fs,Tryz.prog.underlying 101=some (.struct fs):=⟨(match Tryz.prog.underlying 101 with|some (.struct fs)=>fs|_=> #[]),by kernel_rfl⟩
theorem zDa:Ul Tryz.prog 101=[(3,0),(3,1),(4,2)]:=by kernel_rfl
theorem mq:Tryz.prog.underlying 116=some (.slice 119):=by kernel_rfl
theorem pu: ∃fs,Tryz.prog.underlying 119=some (.struct fs):=⟨(match Tryz.prog.underlying 119 with|some (.struct fs)=>fs|_=> #[]),by kernel_rfl⟩
theorem zDb:Ul Tryz.prog 119=[(3,0),(3,1)]:=by kernel_rfl
theorem lq:Tryz.prog.underlying 122=some (.slice 9):=by kernel_rfl
theorem ou: ∃fs,Tryz.prog.underlying 133=some (.struct fs):=⟨(match Tryz.prog.underlying 133 with|some (.struct fs)=>fs|_=> #[]),by kernel_rfl⟩
theorem zDc:Ul Tryz.prog 133=[(9,0),(3,1)]:=by kernel_rfl
theorem jq:Tryz.prog.underlying 174=some (.int .u64):=by kernel_rfl
theorem iq:Tryz.prog.underlying 185=some (.int .u32):=by kernel_rfl
theorem gq:Tryz.prog.underlying 217=some (.int .u64):=by kernel_rfl
theorem ipRd:IpRd Tryz.prog I (fun t=>t∈gd)where
 int:=fun t k hg hu n h1 h2=>by
  simp only[gd,Fb,Xd,uf]at hg;rcases hg with rfl|rfl|rfl|rfl|rfl|rfl|rfl|rfl|rfl|rfl|rfl|rfl|rfl|rfl|rfl|rfl|rfl|rfl|rfl|rfl|rfl|rfl|rfl
  ·rw[Rp]at hu;cases hu;exact⟨(n:Int),rfl⟩
  ·rw[Pp]at hu;cases hu;exact⟨(n:Int),rfl⟩
  ·rw[Yt]at hu;cases hu
  ·rw[Np]at hu;cases hu;exact⟨UInt8.ofNat n.toNat,zFS h1 h2⟩
  ·rw[Xt]at hu;cases hu
  ·rw[Uq]at hu;cases hu;exact⟨(n:Int),rfl⟩
  ·rw[Tq]at hu;cases hu
  ·rw[Sq]at hu;cases hu
  ·rw[Rq]at hu;cases hu;exact⟨(n:Int),rfl⟩
  ·rw[Pq]at hu;cases hu
  ·obtain⟨fs,e⟩:=Tu;rw[e]at hu;cases hu
  ·obtain⟨fs,e⟩:=Su;rw[e]at hu;cases hu
  ·rw[Oq]at hu;cases hu
  ·obtain⟨fs,e⟩:=Ru;rw[e]at hu;cases hu
  ·rw[Nq]at hu;cases hu
  ·obtain⟨fs,e⟩:=su;rw[e]at hu;cases hu
  ·rw[mq]at hu;cases hu
  ·obtain⟨fs,e⟩:=pu;rw[e]at hu;cases hu
  ·rw[lq]at hu;cases hu
  ·obtain⟨fs,e⟩:=ou;rw[e]at hu;cases hu
  ·rw[jq]at hu;cases hu;exact⟨(n:Int),rfl⟩
  ·rw[iq]at hu;cases hu;exact⟨(n:Int),rfl⟩
  ·rw[gq]at hu;cases hu;exact⟨(n:Int),rfl⟩
 bool:=fun t hg hu b=>by
  simp only[gd,Fb,Xd,uf]at hg;rcases hg with rfl|rfl|rfl|rfl|rfl|rfl|rfl|rfl|rfl|rfl|rfl|rfl|rfl|rfl|rfl|rfl|rfl|rfl|rfl|rfl|rfl|rfl|rfl
  ·rw[Rp]at hu;cases hu
  ·rw[Pp]at hu;cases hu
  ·exact⟨(b:Bool),rfl⟩
  ·rw[Np]at hu;cases hu
  ·rw[Xt]at hu;cases hu
  ·rw[Uq]at hu;cases hu
  ·rw[Tq]at hu;cases hu
  ·rw[Sq]at hu;cases hu
  ·rw[Rq]at hu;cases hu
  ·rw[Pq]at hu;cases hu
  ·obtain⟨fs,e⟩:=Tu;rw[e]at hu;cases hu
  ·obtain⟨fs,e⟩:=Su;rw[e]at hu;cases hu
  ·rw[Oq]at hu;cases hu
  ·obtain⟨fs,e⟩:=Ru;rw[e]at hu;cases hu
  ·rw[Nq]at hu;cases hu
  ·obtain⟨fs,e⟩:=su;rw[e]at hu;cases hu
  ·rw[mq]at hu;cases hu
  ·obtain⟨fs,e⟩:=pu;rw[e]at hu;cases hu
  ·rw[lq]at hu;cases hu
  ·obtain⟨fs,e⟩:=ou;rw[e]at hu;cases hu
  ·rw[jq]at hu;cases hu
  ·rw[iq]at hu;cases hu
  ·rw[gq]at hu;cases hu
 str:=fun t hg hu l=>by
  simp only[gd,Fb,Xd,uf]at hg;rcases hg with rfl|rfl|rfl|rfl|rfl|rfl|rfl|rfl|rfl|rfl|rfl|rfl|rfl|rfl|rfl|rfl|rfl|rfl|rfl|rfl|rfl|rfl|rfl
  ·rw[Rp]at hu;cases hu
  ·rw[Pp]at hu;cases hu
  ·rw[Yt]at hu;cases hu
  ·rw[Np]at hu;cases hu
  ·exact⟨(l:Str),rfl⟩
  ·rw[Uq]at hu;cases hu
  ·rw[Tq]at hu;cases hu
  ·rw[Sq]at hu;cases hu
  ·rw[Rq]at hu;cases hu
  ·rw[Pq]at hu;cases hu
  ·obtain⟨fs,e⟩:=Tu;rw[e]at hu;cases hu
  ·obtain⟨fs,e⟩:=Su;rw[e]at hu;cases hu
  ·rw[Oq]at hu;cases hu
  ·obtain⟨fs,e⟩:=Ru;rw[e]at hu;cases hu
  ·rw[Nq]at hu;cases hu
  ·obtain⟨fs,e⟩:=su;rw[e]at hu;cases hu
  ·rw[mq]at hu;cases hu
  ·obtain⟨fs,e⟩:=pu;rw[e]at hu;cases hu
  ·rw[lq]at hu;cases hu
  ·obtain⟨fs,e⟩:=ou;rw[e]at hu;cases hu
  ·rw[jq]at hu;cases hu
  ·rw[iq]at hu;cases hu
  ·rw[gq]at hu;cases hu
 sl:=fun t e hg hu=>by
  simp only[gd,Fb,Xd,uf]at hg;rcases hg with rfl|rfl|rfl|rfl|rfl|rfl|rfl|rfl|rfl|rfl|rfl|rfl|rfl|rfl|rfl|rfl|rfl|rfl|rfl|rfl|rfl|rfl|rfl
  ·rw[Rp]at hu;cases hu
  ·rw[Pp]at hu;cases hu
  ·rw[Yt]at hu;cases hu
  ·rw[Np]at hu;cases hu
  ·rw[Xt]at hu;cases hu
  ·rw[Uq]at hu;cases hu
  ·rw[Tq]at hu;cases hu;exact⟨by simp[gd],je (by decide:0<5) (by kernel_rfl:5=Tryz.prog.cellsOf 44),fun l=>⟨(l:List ze),rfl⟩⟩
  ·rw[Sq]at hu;cases hu;exact⟨by simp[gd],je (by decide:0<6) (by kernel_rfl:6=Tryz.prog.cellsOf 49),fun l=>⟨(l:List zf),rfl⟩⟩
  ·rw[Rq]at hu;cases hu
  ·rw[Pq]at hu;cases hu;exact⟨by simp[gd],je (by decide:0<1) (by kernel_rfl:1=Tryz.prog.cellsOf 5),fun l=>⟨(l:List UInt8),rfl⟩⟩
  ·obtain⟨fs,e⟩:=Tu;rw[e]at hu;cases hu
  ·obtain⟨fs,e⟩:=Su;rw[e]at hu;cases hu
  ·rw[Oq]at hu;cases hu;exact⟨by simp[gd],je (by decide:0<1) (by kernel_rfl:1=Tryz.prog.cellsOf 23),fun l=>⟨(l:List (List zf)),rfl⟩⟩
  ·obtain⟨fs,e⟩:=Ru;rw[e]at hu;cases hu
  ·rw[Nq]at hu;cases hu;exact⟨by simp[gd],je (by decide:0<3) (by kernel_rfl:3=Tryz.prog.cellsOf 66),fun l=>⟨(l:List zJ),rfl⟩⟩
  ·obtain⟨fs,e⟩:=su;rw[e]at hu;cases hu
  ·rw[mq]at hu;cases hu;exact⟨by simp[gd],je (by decide:0<2) (by kernel_rfl:2=Tryz.prog.cellsOf 119),fun l=>⟨(l:List zw),rfl⟩⟩
  ·obtain⟨fs,e⟩:=pu;rw[e]at hu;cases hu
  ·rw[lq]at hu;cases hu;exact⟨by simp[gd],je (by decide:0<1) (by kernel_rfl:1=Tryz.prog.cellsOf 9),fun l=>⟨(l:List Str),rfl⟩⟩
  ·obtain⟨fs,e⟩:=ou;rw[e]at hu;cases hu
  ·rw[jq]at hu;cases hu
  ·rw[iq]at hu;cases hu
  ·rw[gq]at hu;cases hu
 st:=fun t fs hg hu=>by
  simp only[gd,Fb,Xd,uf]at hg;rcases hg with rfl|rfl|rfl|rfl|rfl|rfl|rfl|rfl|rfl|rfl|rfl|rfl|rfl|rfl|rfl|rfl|rfl|rfl|rfl|rfl|rfl|rfl|rfl
  ·rw[Rp]at hu;cases hu
  ·rw[Pp]at hu;cases hu
  ·rw[Yt]at hu;cases hu
  ·rw[Np]at hu;cases hu
  ·rw[Xt]at hu;cases hu
  ·rw[Uq]at hu;cases hu
  ·rw[Tq]at hu;cases hu
  ·rw[Sq]at hu;cases hu
  ·rw[Rq]at hu;cases hu
  ·rw[Pq]at hu;cases hu
  ·refine Tp hu zEO (by simp[gd]) (by kernel_rfl) (by kernel_rfl) (fun pvs h0=> ?_);obtain⟨_,pvs,rfl,⟨y0,rfl⟩,h1⟩:=qC h0;obtain⟨_,pvs,rfl,⟨y1,rfl⟩,h2⟩:=qC h1;obtain⟨_,pvs,rfl,⟨y2,rfl⟩,h3⟩:=qC h2;obtain⟨_,pvs,rfl,⟨y3,rfl⟩,h4⟩:=qC h3;obtain⟨_,pvs,rfl,⟨y4,rfl⟩,h5⟩:=qC h4;rw[Nr h5];exact⟨(⟨((UInt8.toNat y0:Nat):Int),y1,y2,y3,y4⟩:ze),rfl⟩
  ·refine Tp hu zEP (by simp[gd]) (by kernel_rfl) (by kernel_rfl) (fun pvs h0=> ?_);obtain⟨_,pvs,rfl,⟨y0,rfl⟩,h1⟩:=qC h0;obtain⟨_,pvs,rfl,⟨y1,rfl⟩,h2⟩:=qC h1;rw[Nr h2];exact⟨(⟨y0,y1⟩:zf),(MS y0 y1).trans rfl⟩
  ·rw[Oq]at hu;cases hu
  ·refine Tp hu zEQ (by simp[gd]) (by kernel_rfl) (by kernel_rfl) (fun pvs h0=> ?_);obtain⟨_,pvs,rfl,⟨y0,rfl⟩,h1⟩:=qC h0;obtain⟨_,pvs,rfl,⟨y1,rfl⟩,h2⟩:=qC h1;obtain⟨_,pvs,rfl,⟨y2,rfl⟩,h3⟩:=qC h2;rw[Nr h3];exact⟨(⟨y0,y1,y2⟩:zJ),rfl⟩
  ·rw[Nq]at hu;cases hu
  ·refine Tp hu zDa (by simp[gd]) (by kernel_rfl) (by kernel_rfl) (fun pvs h0=> ?_);obtain⟨_,pvs,rfl,⟨y0,rfl⟩,h1⟩:=qC h0;obtain⟨_,pvs,rfl,⟨y1,rfl⟩,h2⟩:=qC h1;obtain⟨_,pvs,rfl,⟨y2,rfl⟩,h3⟩:=qC h2;rw[Nr h3];exact⟨(⟨y0,y1,y2⟩:zx),rfl⟩
  ·rw[mq]at hu;cases hu
  ·refine Tp hu zDb (by simp[gd]) (by kernel_rfl) (by kernel_rfl) (fun pvs h0=> ?_);obtain⟨_,pvs,rfl,⟨y0,rfl⟩,h1⟩:=qC h0;obtain⟨_,pvs,rfl,⟨y1,rfl⟩,h2⟩:=qC h1;rw[Nr h2];exact⟨(⟨y0,y1⟩:zw),rfl⟩
  ·rw[lq]at hu;cases hu
  ·refine Tp hu zDc (by simp[gd]) (by kernel_rfl) (by kernel_rfl) (fun pvs h0=> ?_);obtain⟨_,pvs,rfl,⟨y0,rfl⟩,h1⟩:=qC h0;obtain⟨_,pvs,rfl,⟨y1,rfl⟩,h2⟩:=qC h1;rw[Nr h2];exact⟨(⟨y0,y1⟩:za),rfl⟩
  ·rw[jq]at hu;cases hu
  ·rw[iq]at hu;cases hu
  ·rw[gq]at hu;cases hu
 only:=fun t u hg hu=>by
  simp only[gd,Fb,Xd,uf]at hg;rcases hg with rfl|rfl|rfl|rfl|rfl|rfl|rfl|rfl|rfl|rfl|rfl|rfl|rfl|rfl|rfl|rfl|rfl|rfl|rfl|rfl|rfl|rfl|rfl
  ·rw[Rp]at hu;cases hu;exact .inl ⟨_,rfl⟩
  ·rw[Pp]at hu;cases hu;exact .inl ⟨_,rfl⟩
  ·rw[Yt]at hu;cases hu;exact .inr (.inl rfl)
  ·rw[Np]at hu;cases hu;exact .inl ⟨_,rfl⟩
  ·rw[Xt]at hu;cases hu;exact .inr (.inr (.inl rfl))
  ·rw[Uq]at hu;cases hu;exact .inl ⟨_,rfl⟩
  ·rw[Tq]at hu;cases hu;exact .inr (.inr (.inr (.inl ⟨_,rfl⟩)))
  ·rw[Sq]at hu;cases hu;exact .inr (.inr (.inr (.inl ⟨_,rfl⟩)))
  ·rw[Rq]at hu;cases hu;exact .inl ⟨_,rfl⟩
  ·rw[Pq]at hu;cases hu;exact .inr (.inr (.inr (.inl ⟨_,rfl⟩)))
  ·obtain⟨fs,e⟩:=Tu;rw[e]at hu;cases hu;exact .inr (.inr (.inr (.inr ⟨_,rfl⟩)))
  ·obtain⟨fs,e⟩:=Su;rw[e]at hu;cases hu;exact .inr (.inr (.inr (.inr ⟨_,rfl⟩)))
  ·rw[Oq]at hu;cases hu;exact .inr (.inr (.inr (.inl ⟨_,rfl⟩)))
  ·obtain⟨fs,e⟩:=Ru;rw[e]at hu;cases hu;exact .inr (.inr (.inr (.inr ⟨_,rfl⟩)))
  ·rw[Nq]at hu;cases hu;exact .inr (.inr (.inr (.inl ⟨_,rfl⟩)))
  ·obtain⟨fs,e⟩:=su;rw[e]at hu;cases hu;exact .inr (.inr (.inr (.inr ⟨_,rfl⟩)))
  ·rw[mq]at hu;cases hu;exact .inr (.inr (.inr (.inl ⟨_,rfl⟩)))
  ·obtain⟨fs,e⟩:=pu;rw[e]at hu;cases hu;exact .inr (.inr (.inr (.inr ⟨_,rfl⟩)))
  ·rw[lq]at hu;cases hu;exact .inr (.inr (.inr (.inl ⟨_,rfl⟩)))
  ·obtain⟨fs,e⟩:=ou;rw[e]at hu;cases hu;exact .inr (.inr (.inr (.inr ⟨_,rfl⟩)))
  ·rw[jq]at hu;cases hu;exact .inl ⟨_,rfl⟩
  ·rw[iq]at hu;cases hu;exact .inl ⟨_,rfl⟩
  ·rw[gq]at hu;cases hu;exact .inl ⟨_,rfl⟩
end Go.Lv.VT
