/- Which values may come in. -/
import Derived.Test.YtcdeccnjlkkejaaGreatDoorIp
import Derived.Test.YtcdeccnjlkkejaaGreatDoorLf
set_option linter.unusedSimpArgs false
set_option linter.unusedVariables false
namespace Go.Lv.VT
set_option maxRecDepth 100000
open Go.Proofs
def gd:List Nat:=[2,3,4,5,9,21,22,23,25,42,44,49,52,66,71,101,116,119,122,133,174,185,217]
theorem Yp:Tryz.prog.underlying 2=some (.int .i64):=by kernel_rfl
theorem Xp:Tryz.prog.underlying 3=some (.int .i64):=by kernel_rfl
theorem yt:Tryz.prog.underlying 4=some (.bool):=by kernel_rfl
theorem Wp:Tryz.prog.underlying 5=some (.int .u8):=by kernel_rfl
theorem Vp:Tryz.prog.underlying 9=some (.string):=by kernel_rfl
theorem gq:Tryz.prog.underlying 21=some (.int .i32):=by kernel_rfl
theorem fq:Tryz.prog.underlying 22=some (.slice 44):=by kernel_rfl
theorem Yq:Tryz.prog.underlying 23=some (.slice 49):=by kernel_rfl
theorem Xq:Tryz.prog.underlying 25=some (.int .i64):=by kernel_rfl
theorem Wq:Tryz.prog.underlying 42=some (.slice 5):=by kernel_rfl
theorem Su: ∃fs,Tryz.prog.underlying 44=some (.struct fs):=⟨(match Tryz.prog.underlying 44 with|some (.struct fs)=>fs|_=> #[]),by kernel_rfl⟩
theorem zET:Yl Tryz.prog 44=[(5,0),(9,1),(2,2),(9,3),(4,4)]:=by kernel_rfl
theorem Ru: ∃fs,Tryz.prog.underlying 49=some (.struct fs):=⟨(match Tryz.prog.underlying 49 with|some (.struct fs)=>fs|_=> #[]),by kernel_rfl⟩
theorem zEU:Yl Tryz.prog 49=[(44,0),(23,5)]:=by kernel_rfl
theorem Vq:Tryz.prog.underlying 52=some (.slice 23):=by kernel_rfl
theorem Ou: ∃fs,Tryz.prog.underlying 66=some (.struct fs):=⟨(match Tryz.prog.underlying 66 with|some (.struct fs)=>fs|_=> #[]),by kernel_rfl⟩
theorem zEV:Yl Tryz.prog 66=[(9,0),(23,1),(4,2)]:=by kernel_rfl
theorem En:Tryz.prog.underlying 71=some (.slice 66):=by kernel_rfl
theorem uu: ∃fs,Tryz.prog.underlying 101=some (.struct fs):=⟨(match Tryz.prog.underlying 101 with|some (.struct fs)=>fs|_=> #[]),by kernel_rfl⟩
theorem zDe:Yl Tryz.prog 101=[(3,0),(3,1),(4,2)]:=by kernel_rfl
theorem tq:Tryz.prog.underlying 116=some (.slice 119):=by kernel_rfl
theorem tu: ∃fs,Tryz.prog.underlying 119=some (.struct fs):=⟨(match Tryz.prog.underlying 119 with|some (.struct fs)=>fs|_=> #[]),by kernel_rfl⟩
theorem zDf:Yl Tryz.prog 119=[(3,0),(3,1)]:=by kernel_rfl
theorem rq:Tryz.prog.underlying 122=some (.slice 9):=by kernel_rfl
theorem su: ∃fs,Tryz.prog.underlying 133=some (.struct fs):=⟨(match Tryz.prog.underlying 133 with|some (.struct fs)=>fs|_=> #[]),by kernel_rfl⟩
theorem zDg:Yl Tryz.prog 133=[(9,0),(3,1)]:=by kernel_rfl
theorem pq:Tryz.prog.underlying 174=some (.int .u64):=by kernel_rfl
theorem oq:Tryz.prog.underlying 185=some (.int .u32):=by kernel_rfl
theorem mq:Tryz.prog.underlying 217=some (.int .u64):=by kernel_rfl
theorem ipRd:IpRd Tryz.prog I (fun t=>t∈gd)where
 int:=fun t k hg hu n h1 h2=>by
  simp only[gd,Cb,Xd,Bg]at hg;rcases hg with rfl|rfl|rfl|rfl|rfl|rfl|rfl|rfl|rfl|rfl|rfl|rfl|rfl|rfl|rfl|rfl|rfl|rfl|rfl|rfl|rfl|rfl|rfl
  ·rw[Yp]at hu;cases hu;exact⟨(n:Int),rfl⟩
  ·rw[Xp]at hu;cases hu;exact⟨(n:Int),rfl⟩
  ·rw[yt]at hu;cases hu
  ·rw[Wp]at hu;cases hu;exact⟨UInt8.ofNat n.toNat,zF0 h1 h2⟩
  ·rw[Vp]at hu;cases hu
  ·rw[gq]at hu;cases hu;exact⟨(n:Int),rfl⟩
  ·rw[fq]at hu;cases hu
  ·rw[Yq]at hu;cases hu
  ·rw[Xq]at hu;cases hu;exact⟨(n:Int),rfl⟩
  ·rw[Wq]at hu;cases hu
  ·obtain⟨fs,e⟩:=Su;rw[e]at hu;cases hu
  ·obtain⟨fs,e⟩:=Ru;rw[e]at hu;cases hu
  ·rw[Vq]at hu;cases hu
  ·obtain⟨fs,e⟩:=Ou;rw[e]at hu;cases hu
  ·rw[En]at hu;cases hu
  ·obtain⟨fs,e⟩:=uu;rw[e]at hu;cases hu
  ·rw[tq]at hu;cases hu
  ·obtain⟨fs,e⟩:=tu;rw[e]at hu;cases hu
  ·rw[rq]at hu;cases hu
  ·obtain⟨fs,e⟩:=su;rw[e]at hu;cases hu
  ·rw[pq]at hu;cases hu;exact⟨(n:Int),rfl⟩
  ·rw[oq]at hu;cases hu;exact⟨(n:Int),rfl⟩
  ·rw[mq]at hu;cases hu;exact⟨(n:Int),rfl⟩
 bool:=fun t hg hu b=>by
  simp only[gd,Cb,Xd,Bg]at hg;rcases hg with rfl|rfl|rfl|rfl|rfl|rfl|rfl|rfl|rfl|rfl|rfl|rfl|rfl|rfl|rfl|rfl|rfl|rfl|rfl|rfl|rfl|rfl|rfl
  ·rw[Yp]at hu;cases hu
  ·rw[Xp]at hu;cases hu
  ·exact⟨(b:Bool),rfl⟩
  ·rw[Wp]at hu;cases hu
  ·rw[Vp]at hu;cases hu
  ·rw[gq]at hu;cases hu
  ·rw[fq]at hu;cases hu
  ·rw[Yq]at hu;cases hu
  ·rw[Xq]at hu;cases hu
  ·rw[Wq]at hu;cases hu
  ·obtain⟨fs,e⟩:=Su;rw[e]at hu;cases hu
  ·obtain⟨fs,e⟩:=Ru;rw[e]at hu;cases hu
  ·rw[Vq]at hu;cases hu
  ·obtain⟨fs,e⟩:=Ou;rw[e]at hu;cases hu
  ·rw[En]at hu;cases hu
  ·obtain⟨fs,e⟩:=uu;rw[e]at hu;cases hu
  ·rw[tq]at hu;cases hu
  ·obtain⟨fs,e⟩:=tu;rw[e]at hu;cases hu
  ·rw[rq]at hu;cases hu
  ·obtain⟨fs,e⟩:=su;rw[e]at hu;cases hu
  ·rw[pq]at hu;cases hu
  ·rw[oq]at hu;cases hu
  ·rw[mq]at hu;cases hu
 str:=fun t hg hu l=>by
  simp only[gd,Cb,Xd,Bg]at hg;rcases hg with rfl|rfl|rfl|rfl|rfl|rfl|rfl|rfl|rfl|rfl|rfl|rfl|rfl|rfl|rfl|rfl|rfl|rfl|rfl|rfl|rfl|rfl|rfl
  ·rw[Yp]at hu;cases hu
  ·rw[Xp]at hu;cases hu
  ·rw[yt]at hu;cases hu
  ·rw[Wp]at hu;cases hu
  ·exact⟨(l:Str),rfl⟩
  ·rw[gq]at hu;cases hu
  ·rw[fq]at hu;cases hu
  ·rw[Yq]at hu;cases hu
  ·rw[Xq]at hu;cases hu
  ·rw[Wq]at hu;cases hu
  ·obtain⟨fs,e⟩:=Su;rw[e]at hu;cases hu
  ·obtain⟨fs,e⟩:=Ru;rw[e]at hu;cases hu
  ·rw[Vq]at hu;cases hu
  ·obtain⟨fs,e⟩:=Ou;rw[e]at hu;cases hu
  ·rw[En]at hu;cases hu
  ·obtain⟨fs,e⟩:=uu;rw[e]at hu;cases hu
  ·rw[tq]at hu;cases hu
  ·obtain⟨fs,e⟩:=tu;rw[e]at hu;cases hu
  ·rw[rq]at hu;cases hu
  ·obtain⟨fs,e⟩:=su;rw[e]at hu;cases hu
  ·rw[pq]at hu;cases hu
  ·rw[oq]at hu;cases hu
  ·rw[mq]at hu;cases hu
 sl:=fun t e hg hu=>by
  simp only[gd,Cb,Xd,Bg]at hg;rcases hg with rfl|rfl|rfl|rfl|rfl|rfl|rfl|rfl|rfl|rfl|rfl|rfl|rfl|rfl|rfl|rfl|rfl|rfl|rfl|rfl|rfl|rfl|rfl
  ·rw[Yp]at hu;cases hu
  ·rw[Xp]at hu;cases hu
  ·rw[yt]at hu;cases hu
  ·rw[Wp]at hu;cases hu
  ·rw[Vp]at hu;cases hu
  ·rw[gq]at hu;cases hu
  ·rw[fq]at hu;cases hu;exact⟨by simp[gd],xe (by decide:0<5) (by kernel_rfl:5=Tryz.prog.cellsOf 44),fun l=>⟨(l:List ze),rfl⟩⟩
  ·rw[Yq]at hu;cases hu;exact⟨by simp[gd],xe (by decide:0<6) (by kernel_rfl:6=Tryz.prog.cellsOf 49),fun l=>⟨(l:List zf),rfl⟩⟩
  ·rw[Xq]at hu;cases hu
  ·rw[Wq]at hu;cases hu;exact⟨by simp[gd],xe (by decide:0<1) (by kernel_rfl:1=Tryz.prog.cellsOf 5),fun l=>⟨(l:List UInt8),rfl⟩⟩
  ·obtain⟨fs,e⟩:=Su;rw[e]at hu;cases hu
  ·obtain⟨fs,e⟩:=Ru;rw[e]at hu;cases hu
  ·rw[Vq]at hu;cases hu;exact⟨by simp[gd],xe (by decide:0<1) (by kernel_rfl:1=Tryz.prog.cellsOf 23),fun l=>⟨(l:List (List zf)),rfl⟩⟩
  ·obtain⟨fs,e⟩:=Ou;rw[e]at hu;cases hu
  ·rw[En]at hu;cases hu;exact⟨by simp[gd],xe (by decide:0<3) (by kernel_rfl:3=Tryz.prog.cellsOf 66),fun l=>⟨(l:List zM),rfl⟩⟩
  ·obtain⟨fs,e⟩:=uu;rw[e]at hu;cases hu
  ·rw[tq]at hu;cases hu;exact⟨by simp[gd],xe (by decide:0<2) (by kernel_rfl:2=Tryz.prog.cellsOf 119),fun l=>⟨(l:List zw),rfl⟩⟩
  ·obtain⟨fs,e⟩:=tu;rw[e]at hu;cases hu
  ·rw[rq]at hu;cases hu;exact⟨by simp[gd],xe (by decide:0<1) (by kernel_rfl:1=Tryz.prog.cellsOf 9),fun l=>⟨(l:List Str),rfl⟩⟩
  ·obtain⟨fs,e⟩:=su;rw[e]at hu;cases hu
  ·rw[pq]at hu;cases hu
  ·rw[oq]at hu;cases hu
  ·rw[mq]at hu;cases hu
 st:=fun t fs hg hu=>by
  simp only[gd,Cb,Xd,Bg]at hg;rcases hg with rfl|rfl|rfl|rfl|rfl|rfl|rfl|rfl|rfl|rfl|rfl|rfl|rfl|rfl|rfl|rfl|rfl|rfl|rfl|rfl|rfl|rfl|rfl
  ·rw[Yp]at hu;cases hu
  ·rw[Xp]at hu;cases hu
  ·rw[yt]at hu;cases hu
  ·rw[Wp]at hu;cases hu
  ·rw[Vp]at hu;cases hu
  ·rw[gq]at hu;cases hu
  ·rw[fq]at hu;cases hu
  ·rw[Yq]at hu;cases hu
  ·rw[Xq]at hu;cases hu
  ·rw[Wq]at hu;cases hu
  ·refine gp hu zET (by simp[gd]) (by kernel_rfl) (by kernel_rfl) (fun pvs h0=> ?_);obtain⟨_,pvs,rfl,⟨y0,rfl⟩,h1⟩:=qB h0;obtain⟨_,pvs,rfl,⟨y1,rfl⟩,h2⟩:=qB h1;obtain⟨_,pvs,rfl,⟨y2,rfl⟩,h3⟩:=qB h2;obtain⟨_,pvs,rfl,⟨y3,rfl⟩,h4⟩:=qB h3;obtain⟨_,pvs,rfl,⟨y4,rfl⟩,h5⟩:=qB h4;rw[Xr h5];exact⟨(⟨((UInt8.toNat y0:Nat):Int),y1,y2,y3,y4⟩:ze),rfl⟩
  ·refine gp hu zEU (by simp[gd]) (by kernel_rfl) (by kernel_rfl) (fun pvs h0=> ?_);obtain⟨_,pvs,rfl,⟨y0,rfl⟩,h1⟩:=qB h0;obtain⟨_,pvs,rfl,⟨y1,rfl⟩,h2⟩:=qB h1;rw[Xr h2];exact⟨(⟨y0,y1⟩:zf),(NS y0 y1).trans rfl⟩
  ·rw[Vq]at hu;cases hu
  ·refine gp hu zEV (by simp[gd]) (by kernel_rfl) (by kernel_rfl) (fun pvs h0=> ?_);obtain⟨_,pvs,rfl,⟨y0,rfl⟩,h1⟩:=qB h0;obtain⟨_,pvs,rfl,⟨y1,rfl⟩,h2⟩:=qB h1;obtain⟨_,pvs,rfl,⟨y2,rfl⟩,h3⟩:=qB h2;rw[Xr h3];exact⟨(⟨y0,y1,y2⟩:zM),rfl⟩
  ·rw[En]at hu;cases hu
  ·refine gp hu zDe (by simp[gd]) (by kernel_rfl) (by kernel_rfl) (fun pvs h0=> ?_);obtain⟨_,pvs,rfl,⟨y0,rfl⟩,h1⟩:=qB h0;obtain⟨_,pvs,rfl,⟨y1,rfl⟩,h2⟩:=qB h1;obtain⟨_,pvs,rfl,⟨y2,rfl⟩,h3⟩:=qB h2;rw[Xr h3];exact⟨(⟨y0,y1,y2⟩:zy),rfl⟩
  ·rw[tq]at hu;cases hu
  ·refine gp hu zDf (by simp[gd]) (by kernel_rfl) (by kernel_rfl) (fun pvs h0=> ?_);obtain⟨_,pvs,rfl,⟨y0,rfl⟩,h1⟩:=qB h0;obtain⟨_,pvs,rfl,⟨y1,rfl⟩,h2⟩:=qB h1;rw[Xr h2];exact⟨(⟨y0,y1⟩:zw),rfl⟩
  ·rw[rq]at hu;cases hu
  ·refine gp hu zDg (by simp[gd]) (by kernel_rfl) (by kernel_rfl) (fun pvs h0=> ?_);obtain⟨_,pvs,rfl,⟨y0,rfl⟩,h1⟩:=qB h0;obtain⟨_,pvs,rfl,⟨y1,rfl⟩,h2⟩:=qB h1;rw[Xr h2];exact⟨(⟨y0,y1⟩:za),rfl⟩
  ·rw[pq]at hu;cases hu
  ·rw[oq]at hu;cases hu
  ·rw[mq]at hu;cases hu
 only:=fun t u hg hu=>by
  simp only[gd,Cb,Xd,Bg]at hg;rcases hg with rfl|rfl|rfl|rfl|rfl|rfl|rfl|rfl|rfl|rfl|rfl|rfl|rfl|rfl|rfl|rfl|rfl|rfl|rfl|rfl|rfl|rfl|rfl
  ·rw[Yp]at hu;cases hu;exact .inl ⟨_,rfl⟩
  ·rw[Xp]at hu;cases hu;exact .inl ⟨_,rfl⟩
  ·rw[yt]at hu;cases hu;exact .inr (.inl rfl)
  ·rw[Wp]at hu;cases hu;exact .inl ⟨_,rfl⟩
  ·rw[Vp]at hu;cases hu;exact .inr (.inr (.inl rfl))
  ·rw[gq]at hu;cases hu;exact .inl ⟨_,rfl⟩
  ·rw[fq]at hu;cases hu;exact .inr (.inr (.inr (.inl ⟨_,rfl⟩)))
  ·rw[Yq]at hu;cases hu;exact .inr (.inr (.inr (.inl ⟨_,rfl⟩)))
  ·rw[Xq]at hu;cases hu;exact .inl ⟨_,rfl⟩
  ·rw[Wq]at hu;cases hu;exact .inr (.inr (.inr (.inl ⟨_,rfl⟩)))
  ·obtain⟨fs,e⟩:=Su;rw[e]at hu;cases hu;exact .inr (.inr (.inr (.inr ⟨_,rfl⟩)))
  ·obtain⟨fs,e⟩:=Ru;rw[e]at hu;cases hu;exact .inr (.inr (.inr (.inr ⟨_,rfl⟩)))
  ·rw[Vq]at hu;cases hu;exact .inr (.inr (.inr (.inl ⟨_,rfl⟩)))
  ·obtain⟨fs,e⟩:=Ou;rw[e]at hu;cases hu;exact .inr (.inr (.inr (.inr ⟨_,rfl⟩)))
  ·rw[En]at hu;cases hu;exact .inr (.inr (.inr (.inl ⟨_,rfl⟩)))
  ·obtain⟨fs,e⟩:=uu;rw[e]at hu;cases hu;exact .inr (.inr (.inr (.inr ⟨_,rfl⟩)))
  ·rw[tq]at hu;cases hu;exact .inr (.inr (.inr (.inl ⟨_,rfl⟩)))
  ·obtain⟨fs,e⟩:=tu;rw[e]at hu;cases hu;exact .inr (.inr (.inr (.inr ⟨_,rfl⟩)))
  ·rw[rq]at hu;cases hu;exact .inr (.inr (.inr (.inl ⟨_,rfl⟩)))
  ·obtain⟨fs,e⟩:=su;rw[e]at hu;cases hu;exact .inr (.inr (.inr (.inr ⟨_,rfl⟩)))
  ·rw[pq]at hu;cases hu;exact .inl ⟨_,rfl⟩
  ·rw[oq]at hu;cases hu;exact .inl ⟨_,rfl⟩
  ·rw[mq]at hu;cases hu;exact .inl ⟨_,rfl⟩
end Go.Lv.VT
