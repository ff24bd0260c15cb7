/- Which values may come in. -/
import Derived.Test.YtcdeccnjlkkejaaGreatDoorIp
import Derived.Test.YtcdeccnjlkkejaaGreatDoorLf
set_option linter.unusedSimpArgs false
set_option linter.unusedVariables false
namespace Go.Lv.VT
set_option maxRecDepth 100000
open Go.Proofs
def gd:List Nat:=[2,3,4,5,9,21,22,23,25,42,44,49,52,66,71,101,133,185,217]
theorem mq:Tryz.prog.underlying 2=some (.int .i64):=by kernel_rfl
theorem lq:Tryz.prog.underlying 3=some (.int .i64):=by kernel_rfl
theorem Nu:Tryz.prog.underlying 4=some (.bool):=by kernel_rfl
theorem jq:Tryz.prog.underlying 5=some (.int .u8):=by kernel_rfl
theorem iq:Tryz.prog.underlying 9=some (.string):=by kernel_rfl
theorem Yr:Tryz.prog.underlying 21=some (.int .i32):=by kernel_rfl
theorem Xr:Tryz.prog.underlying 22=some (.slice 44):=by kernel_rfl
theorem Bo:Tryz.prog.underlying 23=some (.slice 49):=by kernel_rfl
theorem Vr:Tryz.prog.underlying 25=some (.int .i64):=by kernel_rfl
theorem Ur:Tryz.prog.underlying 42=some (.slice 5):=by kernel_rfl
theorem wu: ∃fs,Tryz.prog.underlying 44=some (.struct fs):=⟨(match Tryz.prog.underlying 44 with|some (.struct fs)=>fs|_=> #[]),by kernel_rfl⟩
theorem zB7:Yo Tryz.prog 44=[(5,0),(9,1),(2,2),(9,3),(4,4)]:=by kernel_rfl
theorem uu: ∃fs,Tryz.prog.underlying 49=some (.struct fs):=⟨(match Tryz.prog.underlying 49 with|some (.struct fs)=>fs|_=> #[]),by kernel_rfl⟩
theorem zB8:Yo Tryz.prog 49=[(44,0),(23,5)]:=by kernel_rfl
theorem Sr:Tryz.prog.underlying 52=some (.slice 23):=by kernel_rfl
theorem tu: ∃fs,Tryz.prog.underlying 66=some (.struct fs):=⟨(match Tryz.prog.underlying 66 with|some (.struct fs)=>fs|_=> #[]),by kernel_rfl⟩
theorem zB9:Yo Tryz.prog 66=[(9,0),(23,1),(4,2)]:=by kernel_rfl
theorem Nr:Tryz.prog.underlying 71=some (.slice 66):=by kernel_rfl
theorem Uv: ∃fs,Tryz.prog.underlying 101=some (.struct fs):=⟨(match Tryz.prog.underlying 101 with|some (.struct fs)=>fs|_=> #[]),by kernel_rfl⟩
theorem zA2:Yo Tryz.prog 101=[(3,0),(3,1),(4,2)]:=by kernel_rfl
theorem Tv: ∃fs,Tryz.prog.underlying 133=some (.struct fs):=⟨(match Tryz.prog.underlying 133 with|some (.struct fs)=>fs|_=> #[]),by kernel_rfl⟩
theorem zA3:Yo Tryz.prog 133=[(9,0),(3,1)]:=by kernel_rfl
theorem Es:Tryz.prog.underlying 185=some (.int .u32):=by kernel_rfl
theorem Cs:Tryz.prog.underlying 217=some (.int .u64):=by kernel_rfl
theorem ipRd:IpRd Tryz.prog I (fun t=>t∈gd)where
 int:=fun t k hg hu n h1 h2=>by
  simp only[gd,Ab,Rc,je]at hg;rcases hg with rfl|rfl|rfl|rfl|rfl|rfl|rfl|rfl|rfl|rfl|rfl|rfl|rfl|rfl|rfl|rfl|rfl|rfl|rfl
  ·rw[mq]at hu;cases hu;exact⟨(n:Int),rfl⟩
  ·rw[lq]at hu;cases hu;exact⟨(n:Int),rfl⟩
  ·rw[Nu]at hu;cases hu
  ·rw[jq]at hu;cases hu;exact⟨UInt8.ofNat n.toNat,zCV h1 h2⟩
  ·rw[iq]at hu;cases hu
  ·rw[Yr]at hu;cases hu;exact⟨(n:Int),rfl⟩
  ·rw[Xr]at hu;cases hu
  ·rw[Bo]at hu;cases hu
  ·rw[Vr]at hu;cases hu;exact⟨(n:Int),rfl⟩
  ·rw[Ur]at hu;cases hu
  ·obtain⟨fs,e⟩:=wu;rw[e]at hu;cases hu
  ·obtain⟨fs,e⟩:=uu;rw[e]at hu;cases hu
  ·rw[Sr]at hu;cases hu
  ·obtain⟨fs,e⟩:=tu;rw[e]at hu;cases hu
  ·rw[Nr]at hu;cases hu
  ·obtain⟨fs,e⟩:=Uv;rw[e]at hu;cases hu
  ·obtain⟨fs,e⟩:=Tv;rw[e]at hu;cases hu
  ·rw[Es]at hu;cases hu;exact⟨(n:Int),rfl⟩
  ·rw[Cs]at hu;cases hu;exact⟨(n:Int),rfl⟩
 bool:=fun t hg hu b=>by
  simp only[gd,Ab,Rc,je]at hg;rcases hg with rfl|rfl|rfl|rfl|rfl|rfl|rfl|rfl|rfl|rfl|rfl|rfl|rfl|rfl|rfl|rfl|rfl|rfl|rfl
  ·rw[mq]at hu;cases hu
  ·rw[lq]at hu;cases hu
  ·exact⟨(b:Bool),rfl⟩
  ·rw[jq]at hu;cases hu
  ·rw[iq]at hu;cases hu
  ·rw[Yr]at hu;cases hu
  ·rw[Xr]at hu;cases hu
  ·rw[Bo]at hu;cases hu
  ·rw[Vr]at hu;cases hu
  ·rw[Ur]at hu;cases hu
  ·obtain⟨fs,e⟩:=wu;rw[e]at hu;cases hu
  ·obtain⟨fs,e⟩:=uu;rw[e]at hu;cases hu
  ·rw[Sr]at hu;cases hu
  ·obtain⟨fs,e⟩:=tu;rw[e]at hu;cases hu
  ·rw[Nr]at hu;cases hu
  ·obtain⟨fs,e⟩:=Uv;rw[e]at hu;cases hu
  ·obtain⟨fs,e⟩:=Tv;rw[e]at hu;cases hu
  ·rw[Es]at hu;cases hu
  ·rw[Cs]at hu;cases hu
 str:=fun t hg hu l=>by
  simp only[gd,Ab,Rc,je]at hg;rcases hg with rfl|rfl|rfl|rfl|rfl|rfl|rfl|rfl|rfl|rfl|rfl|rfl|rfl|rfl|rfl|rfl|rfl|rfl|rfl
  ·rw[mq]at hu;cases hu
  ·rw[lq]at hu;cases hu
  ·rw[Nu]at hu;cases hu
  ·rw[jq]at hu;cases hu
  ·exact⟨(l:Str),rfl⟩
  ·rw[Yr]at hu;cases hu
  ·rw[Xr]at hu;cases hu
  ·rw[Bo]at hu;cases hu
  ·rw[Vr]at hu;cases hu
  ·rw[Ur]at hu;cases hu
  ·obtain⟨fs,e⟩:=wu;rw[e]at hu;cases hu
  ·obtain⟨fs,e⟩:=uu;rw[e]at hu;cases hu
  ·rw[Sr]at hu;cases hu
  ·obtain⟨fs,e⟩:=tu;rw[e]at hu;cases hu
  ·rw[Nr]at hu;cases hu
  ·obtain⟨fs,e⟩:=Uv;rw[e]at hu;cases hu
  ·obtain⟨fs,e⟩:=Tv;rw[e]at hu;cases hu
  ·rw[Es]at hu;cases hu
  ·rw[Cs]at hu;cases hu
 sl:=fun t e hg hu=>by
  simp only[gd,Ab,Rc,je]at hg;rcases hg with rfl|rfl|rfl|rfl|rfl|rfl|rfl|rfl|rfl|rfl|rfl|rfl|rfl|rfl|rfl|rfl|rfl|rfl|rfl
  ·rw[mq]at hu;cases hu
  ·rw[lq]at hu;cases hu
  ·rw[Nu]at hu;cases hu
  ·rw[jq]at hu;cases hu
  ·rw[iq]at hu;cases hu
  ·rw[Yr]at hu;cases hu
  ·rw[Xr]at hu;cases hu;exact⟨by simp[gd],Oh (by decide:0<5) (by kernel_rfl:5=Tryz.prog.cellsOf 44),fun l=>⟨(l:List zf),rfl⟩⟩
  ·rw[Bo]at hu;cases hu;exact⟨by simp[gd],Oh (by decide:0<6) (by kernel_rfl:6=Tryz.prog.cellsOf 49),fun l=>⟨(l:List zb),rfl⟩⟩
  ·rw[Vr]at hu;cases hu
  ·rw[Ur]at hu;cases hu;exact⟨by simp[gd],Oh (by decide:0<1) (by kernel_rfl:1=Tryz.prog.cellsOf 5),fun l=>⟨(l:List UInt8),rfl⟩⟩
  ·obtain⟨fs,e⟩:=wu;rw[e]at hu;cases hu
  ·obtain⟨fs,e⟩:=uu;rw[e]at hu;cases hu
  ·rw[Sr]at hu;cases hu;exact⟨by simp[gd],Oh (by decide:0<1) (by kernel_rfl:1=Tryz.prog.cellsOf 23),fun l=>⟨(l:List (List zb)),rfl⟩⟩
  ·obtain⟨fs,e⟩:=tu;rw[e]at hu;cases hu
  ·rw[Nr]at hu;cases hu;exact⟨by simp[gd],Oh (by decide:0<3) (by kernel_rfl:3=Tryz.prog.cellsOf 66),fun l=>⟨(l:List Za),rfl⟩⟩
  ·obtain⟨fs,e⟩:=Uv;rw[e]at hu;cases hu
  ·obtain⟨fs,e⟩:=Tv;rw[e]at hu;cases hu
  ·rw[Es]at hu;cases hu
  ·rw[Cs]at hu;cases hu
 st:=fun t fs hg hu=>by
  simp only[gd,Ab,Rc,je]at hg;rcases hg with rfl|rfl|rfl|rfl|rfl|rfl|rfl|rfl|rfl|rfl|rfl|rfl|rfl|rfl|rfl|rfl|rfl|rfl|rfl
  ·rw[mq]at hu;cases hu
  ·rw[lq]at hu;cases hu
  ·rw[Nu]at hu;cases hu
  ·rw[jq]at hu;cases hu
  ·rw[iq]at hu;cases hu
  ·rw[Yr]at hu;cases hu
  ·rw[Xr]at hu;cases hu
  ·rw[Bo]at hu;cases hu
  ·rw[Vr]at hu;cases hu
  ·rw[Ur]at hu;cases hu
  ·refine Ru hu zB7 (by simp[gd]) (by kernel_rfl) (by kernel_rfl) (fun pvs h0=> ?_);obtain⟨_,pvs,rfl,⟨y0,rfl⟩,h1⟩:=qL h0;obtain⟨_,pvs,rfl,⟨y1,rfl⟩,h2⟩:=qL h1;obtain⟨_,pvs,rfl,⟨y2,rfl⟩,h3⟩:=qL h2;obtain⟨_,pvs,rfl,⟨y3,rfl⟩,h4⟩:=qL h3;obtain⟨_,pvs,rfl,⟨y4,rfl⟩,h5⟩:=qL h4;rw[kw h5];exact⟨(⟨((UInt8.toNat y0:Nat):Int),y1,y2,y3,y4⟩:zf),rfl⟩
  ·refine Ru hu zB8 (by simp[gd]) (by kernel_rfl) (by kernel_rfl) (fun pvs h0=> ?_);obtain⟨_,pvs,rfl,⟨y0,rfl⟩,h1⟩:=qL h0;obtain⟨_,pvs,rfl,⟨y1,rfl⟩,h2⟩:=qL h1;rw[kw h2];exact⟨(⟨y0,y1⟩:zb),(jJ y0 y1).trans rfl⟩
  ·rw[Sr]at hu;cases hu
  ·refine Ru hu zB9 (by simp[gd]) (by kernel_rfl) (by kernel_rfl) (fun pvs h0=> ?_);obtain⟨_,pvs,rfl,⟨y0,rfl⟩,h1⟩:=qL h0;obtain⟨_,pvs,rfl,⟨y1,rfl⟩,h2⟩:=qL h1;obtain⟨_,pvs,rfl,⟨y2,rfl⟩,h3⟩:=qL h2;rw[kw h3];exact⟨(⟨y0,y1,y2⟩:Za),rfl⟩
  ·rw[Nr]at hu;cases hu
  ·refine Ru hu zA2 (by simp[gd]) (by kernel_rfl) (by kernel_rfl) (fun pvs h0=> ?_);obtain⟨_,pvs,rfl,⟨y0,rfl⟩,h1⟩:=qL h0;obtain⟨_,pvs,rfl,⟨y1,rfl⟩,h2⟩:=qL h1;obtain⟨_,pvs,rfl,⟨y2,rfl⟩,h3⟩:=qL h2;rw[kw h3];exact⟨(⟨y0,y1,y2⟩:zK),rfl⟩
  ·refine Ru hu zA3 (by simp[gd]) (by kernel_rfl) (by kernel_rfl) (fun pvs h0=> ?_);obtain⟨_,pvs,rfl,⟨y0,rfl⟩,h1⟩:=qL h0;obtain⟨_,pvs,rfl,⟨y1,rfl⟩,h2⟩:=qL h1;rw[kw h2];exact⟨(⟨y0,y1⟩:za),rfl⟩
  ·rw[Es]at hu;cases hu
  ·rw[Cs]at hu;cases hu
 only:=fun t u hg hu=>by
  simp only[gd,Ab,Rc,je]at hg;rcases hg with rfl|rfl|rfl|rfl|rfl|rfl|rfl|rfl|rfl|rfl|rfl|rfl|rfl|rfl|rfl|rfl|rfl|rfl|rfl
  ·rw[mq]at hu;cases hu;exact .inl ⟨_,rfl⟩
  ·rw[lq]at hu;cases hu;exact .inl ⟨_,rfl⟩
  ·rw[Nu]at hu;cases hu;exact .inr (.inl rfl)
  ·rw[jq]at hu;cases hu;exact .inl ⟨_,rfl⟩
  ·rw[iq]at hu;cases hu;exact .inr (.inr (.inl rfl))
  ·rw[Yr]at hu;cases hu;exact .inl ⟨_,rfl⟩
  ·rw[Xr]at hu;cases hu;exact .inr (.inr (.inr (.inl ⟨_,rfl⟩)))
  ·rw[Bo]at hu;cases hu;exact .inr (.inr (.inr (.inl ⟨_,rfl⟩)))
  ·rw[Vr]at hu;cases hu;exact .inl ⟨_,rfl⟩
  ·rw[Ur]at hu;cases hu;exact .inr (.inr (.inr (.inl ⟨_,rfl⟩)))
  ·obtain⟨fs,e⟩:=wu;rw[e]at hu;cases hu;exact .inr (.inr (.inr (.inr ⟨_,rfl⟩)))
  ·obtain⟨fs,e⟩:=uu;rw[e]at hu;cases hu;exact .inr (.inr (.inr (.inr ⟨_,rfl⟩)))
  ·rw[Sr]at hu;cases hu;exact .inr (.inr (.inr (.inl ⟨_,rfl⟩)))
  ·obtain⟨fs,e⟩:=tu;rw[e]at hu;cases hu;exact .inr (.inr (.inr (.inr ⟨_,rfl⟩)))
  ·rw[Nr]at hu;cases hu;exact .inr (.inr (.inr (.inl ⟨_,rfl⟩)))
  ·obtain⟨fs,e⟩:=Uv;rw[e]at hu;cases hu;exact .inr (.inr (.inr (.inr ⟨_,rfl⟩)))
  ·obtain⟨fs,e⟩:=Tv;rw[e]at hu;cases hu;exact .inr (.inr (.inr (.inr ⟨_,rfl⟩)))
  ·rw[Es]at hu;cases hu;exact .inl ⟨_,rfl⟩
  ·rw[Cs]at hu;cases hu;exact .inl ⟨_,rfl⟩
end Go.Lv.VT
