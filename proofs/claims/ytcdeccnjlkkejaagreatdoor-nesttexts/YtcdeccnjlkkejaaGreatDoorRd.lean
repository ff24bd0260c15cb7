/- Which values may come in. -/
import Derived.Test.YtcdeccnjlkkejaaGreatDoorIp
import Derived.Test.YtcdeccnjlkkejaaGreatDoorLf
set_option linter.unusedSimpArgs false
set_option linter.unusedVariables false
namespace Go.Lv.VT
set_option maxRecDepth 100000
open Go.Proofs
def gd:List Nat:=[2,3,4,5,9,12,21,22,23,25,42,44,49,52,66,71,101,116,119,122,133,174,185,217]
theorem oq:Tryz.prog.underlying 2=some (.int .i64):=by kernel_rfl
theorem mq:Tryz.prog.underlying 3=some (.int .i64):=by kernel_rfl
theorem Av:Tryz.prog.underlying 4=some (.bool):=by kernel_rfl
theorem lq:Tryz.prog.underlying 5=some (.int .u8):=by kernel_rfl
theorem jq:Tryz.prog.underlying 9=some (.string):=by kernel_rfl
theorem Sr:Tryz.prog.underlying 12=some (.int .u64):=by kernel_rfl
theorem Nr:Tryz.prog.underlying 21=some (.int .i32):=by kernel_rfl
theorem Vs:Tryz.prog.underlying 22=some (.slice 44):=by kernel_rfl
theorem Us:Tryz.prog.underlying 23=some (.slice 49):=by kernel_rfl
theorem Rs:Tryz.prog.underlying 25=some (.int .i64):=by kernel_rfl
theorem Ps:Tryz.prog.underlying 42=some (.slice 5):=by kernel_rfl
theorem Cw: ∃fs,Tryz.prog.underlying 44=some (.struct fs):=⟨(match Tryz.prog.underlying 44 with|some (.struct fs)=>fs|_=> #[]),by kernel_rfl⟩
theorem zDF:Bn Tryz.prog 44=[(5,0),(9,1),(2,2),(9,3),(4,4)]:=by kernel_rfl
theorem Bw: ∃fs,Tryz.prog.underlying 49=some (.struct fs):=⟨(match Tryz.prog.underlying 49 with|some (.struct fs)=>fs|_=> #[]),by kernel_rfl⟩
theorem zDG:Bn Tryz.prog 49=[(44,0),(23,5)]:=by kernel_rfl
theorem Ns:Tryz.prog.underlying 52=some (.slice 23):=by kernel_rfl
theorem Aw: ∃fs,Tryz.prog.underlying 66=some (.struct fs):=⟨(match Tryz.prog.underlying 66 with|some (.struct fs)=>fs|_=> #[]),by kernel_rfl⟩
theorem zDH:Bn Tryz.prog 66=[(9,0),(23,1),(4,2)]:=by kernel_rfl
theorem Ms:Tryz.prog.underlying 71=some (.slice 66):=by kernel_rfl
theorem jw: ∃fs,Tryz.prog.underlying 101=some (.struct fs):=⟨(match Tryz.prog.underlying 101 with|some (.struct fs)=>fs|_=> #[]),by kernel_rfl⟩
theorem zB8:Bn Tryz.prog 101=[(3,0),(3,1),(4,2)]:=by kernel_rfl
theorem Gt:Tryz.prog.underlying 116=some (.slice 119):=by kernel_rfl
theorem iw: ∃fs,Tryz.prog.underlying 119=some (.struct fs):=⟨(match Tryz.prog.underlying 119 with|some (.struct fs)=>fs|_=> #[]),by kernel_rfl⟩
theorem zB9:Bn Tryz.prog 119=[(3,0),(3,1)]:=by kernel_rfl
theorem Et:Tryz.prog.underlying 122=some (.slice 9):=by kernel_rfl
theorem fw: ∃fs,Tryz.prog.underlying 133=some (.struct fs):=⟨(match Tryz.prog.underlying 133 with|some (.struct fs)=>fs|_=> #[]),by kernel_rfl⟩
theorem zCa:Bn Tryz.prog 133=[(9,0),(3,1)]:=by kernel_rfl
theorem Dt:Tryz.prog.underlying 174=some (.int .u64):=by kernel_rfl
theorem Bt:Tryz.prog.underlying 185=some (.int .u32):=by kernel_rfl
theorem Ws:Tryz.prog.underlying 217=some (.int .u64):=by kernel_rfl
theorem ipRd:IpRd Tryz.prog I (fun t=>t∈gd)where
 int:=fun t k hg hu n h1 h2=>by
  simp only[gd,ja,yc,Af]at hg;rcases hg with rfl|rfl|rfl|rfl|rfl|rfl|rfl|rfl|rfl|rfl|rfl|rfl|rfl|rfl|rfl|rfl|rfl|rfl|rfl|rfl|rfl|rfl|rfl|rfl
  ·rw[oq]at hu;cases hu;exact⟨(n:Int),rfl⟩
  ·rw[mq]at hu;cases hu;exact⟨(n:Int),rfl⟩
  ·rw[Av]at hu;cases hu
  ·rw[lq]at hu;cases hu;exact⟨UInt8.ofNat n.toNat,zEv h1 h2⟩
  ·rw[jq]at hu;cases hu
  ·rw[Sr]at hu;cases hu;exact⟨(n:Int),rfl⟩
  ·rw[Nr]at hu;cases hu;exact⟨(n:Int),rfl⟩
  ·rw[Vs]at hu;cases hu
  ·rw[Us]at hu;cases hu
  ·rw[Rs]at hu;cases hu;exact⟨(n:Int),rfl⟩
  ·rw[Ps]at hu;cases hu
  ·obtain⟨fs,e⟩:=Cw;rw[e]at hu;cases hu
  ·obtain⟨fs,e⟩:=Bw;rw[e]at hu;cases hu
  ·rw[Ns]at hu;cases hu
  ·obtain⟨fs,e⟩:=Aw;rw[e]at hu;cases hu
  ·rw[Ms]at hu;cases hu
  ·obtain⟨fs,e⟩:=jw;rw[e]at hu;cases hu
  ·rw[Gt]at hu;cases hu
  ·obtain⟨fs,e⟩:=iw;rw[e]at hu;cases hu
  ·rw[Et]at hu;cases hu
  ·obtain⟨fs,e⟩:=fw;rw[e]at hu;cases hu
  ·rw[Dt]at hu;cases hu;exact⟨(n:Int),rfl⟩
  ·rw[Bt]at hu;cases hu;exact⟨(n:Int),rfl⟩
  ·rw[Ws]at hu;cases hu;exact⟨(n:Int),rfl⟩
 bool:=fun t hg hu b=>by
  simp only[gd,ja,yc,Af]at hg;rcases hg with rfl|rfl|rfl|rfl|rfl|rfl|rfl|rfl|rfl|rfl|rfl|rfl|rfl|rfl|rfl|rfl|rfl|rfl|rfl|rfl|rfl|rfl|rfl|rfl
  ·rw[oq]at hu;cases hu
  ·rw[mq]at hu;cases hu
  ·exact⟨(b:Bool),rfl⟩
  ·rw[lq]at hu;cases hu
  ·rw[jq]at hu;cases hu
  ·rw[Sr]at hu;cases hu
  ·rw[Nr]at hu;cases hu
  ·rw[Vs]at hu;cases hu
  ·rw[Us]at hu;cases hu
  ·rw[Rs]at hu;cases hu
  ·rw[Ps]at hu;cases hu
  ·obtain⟨fs,e⟩:=Cw;rw[e]at hu;cases hu
  ·obtain⟨fs,e⟩:=Bw;rw[e]at hu;cases hu
  ·rw[Ns]at hu;cases hu
  ·obtain⟨fs,e⟩:=Aw;rw[e]at hu;cases hu
  ·rw[Ms]at hu;cases hu
  ·obtain⟨fs,e⟩:=jw;rw[e]at hu;cases hu
  ·rw[Gt]at hu;cases hu
  ·obtain⟨fs,e⟩:=iw;rw[e]at hu;cases hu
  ·rw[Et]at hu;cases hu
  ·obtain⟨fs,e⟩:=fw;rw[e]at hu;cases hu
  ·rw[Dt]at hu;cases hu
  ·rw[Bt]at hu;cases hu
  ·rw[Ws]at hu;cases hu
 str:=fun t hg hu l=>by
  simp only[gd,ja,yc,Af]at hg;rcases hg with rfl|rfl|rfl|rfl|rfl|rfl|rfl|rfl|rfl|rfl|rfl|rfl|rfl|rfl|rfl|rfl|rfl|rfl|rfl|rfl|rfl|rfl|rfl|rfl
  ·rw[oq]at hu;cases hu
  ·rw[mq]at hu;cases hu
  ·rw[Av]at hu;cases hu
  ·rw[lq]at hu;cases hu
  ·exact⟨(l:Str),rfl⟩
  ·rw[Sr]at hu;cases hu
  ·rw[Nr]at hu;cases hu
  ·rw[Vs]at hu;cases hu
  ·rw[Us]at hu;cases hu
  ·rw[Rs]at hu;cases hu
  ·rw[Ps]at hu;cases hu
  ·obtain⟨fs,e⟩:=Cw;rw[e]at hu;cases hu
  ·obtain⟨fs,e⟩:=Bw;rw[e]at hu;cases hu
  ·rw[Ns]at hu;cases hu
  ·obtain⟨fs,e⟩:=Aw;rw[e]at hu;cases hu
  ·rw[Ms]at hu;cases hu
  ·obtain⟨fs,e⟩:=jw;rw[e]at hu;cases hu
  ·rw[Gt]at hu;cases hu
  ·obtain⟨fs,e⟩:=iw;rw[e]at hu;cases hu
  ·rw[Et]at hu;cases hu
  ·obtain⟨fs,e⟩:=fw;rw[e]at hu;cases hu
  ·rw[Dt]at hu;cases hu
  ·rw[Bt]at hu;cases hu
  ·rw[Ws]at hu;cases hu
 sl:=fun t e hg hu=>by
  simp only[gd,ja,yc,Af]at hg;rcases hg with rfl|rfl|rfl|rfl|rfl|rfl|rfl|rfl|rfl|rfl|rfl|rfl|rfl|rfl|rfl|rfl|rfl|rfl|rfl|rfl|rfl|rfl|rfl|rfl
  ·rw[oq]at hu;cases hu
  ·rw[mq]at hu;cases hu
  ·rw[Av]at hu;cases hu
  ·rw[lq]at hu;cases hu
  ·rw[jq]at hu;cases hu
  ·rw[Sr]at hu;cases hu
  ·rw[Nr]at hu;cases hu
  ·rw[Vs]at hu;cases hu;exact⟨by simp[gd],Cg (by decide:0<5) (by kernel_rfl:5=Tryz.prog.cellsOf 44),fun l=>⟨(l:List zb),rfl⟩⟩
  ·rw[Us]at hu;cases hu;exact⟨by simp[gd],Cg (by decide:0<6) (by kernel_rfl:6=Tryz.prog.cellsOf 49),fun l=>⟨(l:List zg),rfl⟩⟩
  ·rw[Rs]at hu;cases hu
  ·rw[Ps]at hu;cases hu;exact⟨by simp[gd],Cg (by decide:0<1) (by kernel_rfl:1=Tryz.prog.cellsOf 5),fun l=>⟨(l:List UInt8),rfl⟩⟩
  ·obtain⟨fs,e⟩:=Cw;rw[e]at hu;cases hu
  ·obtain⟨fs,e⟩:=Bw;rw[e]at hu;cases hu
  ·rw[Ns]at hu;cases hu;exact⟨by simp[gd],Cg (by decide:0<1) (by kernel_rfl:1=Tryz.prog.cellsOf 23),fun l=>⟨(l:List (List zg)),rfl⟩⟩
  ·obtain⟨fs,e⟩:=Aw;rw[e]at hu;cases hu
  ·rw[Ms]at hu;cases hu;exact⟨by simp[gd],Cg (by decide:0<3) (by kernel_rfl:3=Tryz.prog.cellsOf 66),fun l=>⟨(l:List zgM),rfl⟩⟩
  ·obtain⟨fs,e⟩:=jw;rw[e]at hu;cases hu
  ·rw[Gt]at hu;cases hu;exact⟨by simp[gd],Cg (by decide:0<2) (by kernel_rfl:2=Tryz.prog.cellsOf 119),fun l=>⟨(l:List zz),rfl⟩⟩
  ·obtain⟨fs,e⟩:=iw;rw[e]at hu;cases hu
  ·rw[Et]at hu;cases hu;exact⟨by simp[gd],Cg (by decide:0<1) (by kernel_rfl:1=Tryz.prog.cellsOf 9),fun l=>⟨(l:List Str),rfl⟩⟩
  ·obtain⟨fs,e⟩:=fw;rw[e]at hu;cases hu
  ·rw[Dt]at hu;cases hu
  ·rw[Bt]at hu;cases hu
  ·rw[Ws]at hu;cases hu
 st:=fun t fs hg hu=>by
  simp only[gd,ja,yc,Af]at hg;rcases hg with rfl|rfl|rfl|rfl|rfl|rfl|rfl|rfl|rfl|rfl|rfl|rfl|rfl|rfl|rfl|rfl|rfl|rfl|rfl|rfl|rfl|rfl|rfl|rfl
  ·rw[oq]at hu;cases hu
  ·rw[mq]at hu;cases hu
  ·rw[Av]at hu;cases hu
  ·rw[lq]at hu;cases hu
  ·rw[jq]at hu;cases hu
  ·rw[Sr]at hu;cases hu
  ·rw[Nr]at hu;cases hu
  ·rw[Vs]at hu;cases hu
  ·rw[Us]at hu;cases hu
  ·rw[Rs]at hu;cases hu
  ·rw[Ps]at hu;cases hu
  ·refine tq hu zDF (by simp[gd]) (by kernel_rfl) (by kernel_rfl) (fun pvs h0=> ?_);obtain⟨_,pvs,rfl,⟨y0,rfl⟩,h1⟩:=Z0 h0;obtain⟨_,pvs,rfl,⟨y1,rfl⟩,h2⟩:=Z0 h1;obtain⟨_,pvs,rfl,⟨y2,rfl⟩,h3⟩:=Z0 h2;obtain⟨_,pvs,rfl,⟨y3,rfl⟩,h4⟩:=Z0 h3;obtain⟨_,pvs,rfl,⟨y4,rfl⟩,h5⟩:=Z0 h4;rw[Fu h5];exact⟨(⟨((UInt8.toNat y0:Nat):Int),y1,y2,y3,y4⟩:zb),rfl⟩
  ·refine tq hu zDG (by simp[gd]) (by kernel_rfl) (by kernel_rfl) (fun pvs h0=> ?_);obtain⟨_,pvs,rfl,⟨y0,rfl⟩,h1⟩:=Z0 h0;obtain⟨_,pvs,rfl,⟨y1,rfl⟩,h2⟩:=Z0 h1;rw[Fu h2];exact⟨(⟨y0,y1⟩:zg),(TU y0 y1).trans rfl⟩
  ·rw[Ns]at hu;cases hu
  ·refine tq hu zDH (by simp[gd]) (by kernel_rfl) (by kernel_rfl) (fun pvs h0=> ?_);obtain⟨_,pvs,rfl,⟨y0,rfl⟩,h1⟩:=Z0 h0;obtain⟨_,pvs,rfl,⟨y1,rfl⟩,h2⟩:=Z0 h1;obtain⟨_,pvs,rfl,⟨y2,rfl⟩,h3⟩:=Z0 h2;rw[Fu h3];exact⟨(⟨y0,y1,y2⟩:zgM),rfl⟩
  ·rw[Ms]at hu;cases hu
  ·refine tq hu zB8 (by simp[gd]) (by kernel_rfl) (by kernel_rfl) (fun pvs h0=> ?_);obtain⟨_,pvs,rfl,⟨y0,rfl⟩,h1⟩:=Z0 h0;obtain⟨_,pvs,rfl,⟨y1,rfl⟩,h2⟩:=Z0 h1;obtain⟨_,pvs,rfl,⟨y2,rfl⟩,h3⟩:=Z0 h2;rw[Fu h3];exact⟨(⟨y0,y1,y2⟩:zH),rfl⟩
  ·rw[Gt]at hu;cases hu
  ·refine tq hu zB9 (by simp[gd]) (by kernel_rfl) (by kernel_rfl) (fun pvs h0=> ?_);obtain⟨_,pvs,rfl,⟨y0,rfl⟩,h1⟩:=Z0 h0;obtain⟨_,pvs,rfl,⟨y1,rfl⟩,h2⟩:=Z0 h1;rw[Fu h2];exact⟨(⟨y0,y1⟩:zz),rfl⟩
  ·rw[Et]at hu;cases hu
  ·refine tq hu zCa (by simp[gd]) (by kernel_rfl) (by kernel_rfl) (fun pvs h0=> ?_);obtain⟨_,pvs,rfl,⟨y0,rfl⟩,h1⟩:=Z0 h0;obtain⟨_,pvs,rfl,⟨y1,rfl⟩,h2⟩:=Z0 h1;rw[Fu h2];exact⟨(⟨y0,y1⟩:za),rfl⟩
  ·rw[Dt]at hu;cases hu
  ·rw[Bt]at hu;cases hu
  ·rw[Ws]at hu;cases hu
 only:=fun t u hg hu=>by
  simp only[gd,ja,yc,Af]at hg;rcases hg with rfl|rfl|rfl|rfl|rfl|rfl|rfl|rfl|rfl|rfl|rfl|rfl|rfl|rfl|rfl|rfl|rfl|rfl|rfl|rfl|rfl|rfl|rfl|rfl
  ·rw[oq]at hu;cases hu;exact .inl ⟨_,rfl⟩
  ·rw[mq]at hu;cases hu;exact .inl ⟨_,rfl⟩
  ·rw[Av]at hu;cases hu;exact .inr (.inl rfl)
  ·rw[lq]at hu;cases hu;exact .inl ⟨_,rfl⟩
  ·rw[jq]at hu;cases hu;exact .inr (.inr (.inl rfl))
  ·rw[Sr]at hu;cases hu;exact .inl ⟨_,rfl⟩
  ·rw[Nr]at hu;cases hu;exact .inl ⟨_,rfl⟩
  ·rw[Vs]at hu;cases hu;exact .inr (.inr (.inr (.inl ⟨_,rfl⟩)))
  ·rw[Us]at hu;cases hu;exact .inr (.inr (.inr (.inl ⟨_,rfl⟩)))
  ·rw[Rs]at hu;cases hu;exact .inl ⟨_,rfl⟩
  ·rw[Ps]at hu;cases hu;exact .inr (.inr (.inr (.inl ⟨_,rfl⟩)))
  ·obtain⟨fs,e⟩:=Cw;rw[e]at hu;cases hu;exact .inr (.inr (.inr (.inr ⟨_,rfl⟩)))
  ·obtain⟨fs,e⟩:=Bw;rw[e]at hu;cases hu;exact .inr (.inr (.inr (.inr ⟨_,rfl⟩)))
  ·rw[Ns]at hu;cases hu;exact .inr (.inr (.inr (.inl ⟨_,rfl⟩)))
  ·obtain⟨fs,e⟩:=Aw;rw[e]at hu;cases hu;exact .inr (.inr (.inr (.inr ⟨_,rfl⟩)))
  ·rw[Ms]at hu;cases hu;exact .inr (.inr (.inr (.inl ⟨_,rfl⟩)))
  ·obtain⟨fs,e⟩:=jw;rw[e]at hu;cases hu;exact .inr (.inr (.inr (.inr ⟨_,rfl⟩)))
  ·rw[Gt]at hu;cases hu;exact .inr (.inr (.inr (.inl ⟨_,rfl⟩)))
  ·obtain⟨fs,e⟩:=iw;rw[e]at hu;cases hu;exact .inr (.inr (.inr (.inr ⟨_,rfl⟩)))
  ·rw[Et]at hu;cases hu;exact .inr (.inr (.inr (.inl ⟨_,rfl⟩)))
  ·obtain⟨fs,e⟩:=fw;rw[e]at hu;cases hu;exact .inr (.inr (.inr (.inr ⟨_,rfl⟩)))
  ·rw[Dt]at hu;cases hu;exact .inl ⟨_,rfl⟩
  ·rw[Bt]at hu;cases hu;exact .inl ⟨_,rfl⟩
  ·rw[Ws]at hu;cases hu;exact .inl ⟨_,rfl⟩
end Go.Lv.VT
