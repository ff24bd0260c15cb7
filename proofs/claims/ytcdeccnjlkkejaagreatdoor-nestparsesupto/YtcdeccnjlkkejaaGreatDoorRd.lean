/- Which values may come in. -/
import Derived.Test.YtcdeccnjlkkejaaGreatDoorIp
import Derived.Test.YtcdeccnjlkkejaaGreatDoorLf
set_option linter.unusedSimpArgs false
set_option linter.unusedVariables false
namespace Go.Lv.VT
set_option maxRecDepth 100000
open Go.Proofs
def gd:List Nat:=[2,3,4,5,9,12,21,22,23,25,42,44,49,52,66,71,101,116,119,122,133,174,185,217]
theorem Bt:Tryz.prog.underlying 2=some (.int .i64):=by kernel_rfl
theorem Ws:Tryz.prog.underlying 3=some (.int .i64):=by kernel_rfl
theorem KC:Tryz.prog.underlying 4=some (.bool):=by kernel_rfl
theorem Vs:Tryz.prog.underlying 5=some (.int .u8):=by kernel_rfl
theorem JC:Tryz.prog.underlying 9=some (.string):=by kernel_rfl
theorem Ju:Tryz.prog.underlying 12=some (.int .u64):=by kernel_rfl
theorem Iu:Tryz.prog.underlying 21=some (.int .i32):=by kernel_rfl
theorem Dq:Tryz.prog.underlying 22=some (.slice 44):=by kernel_rfl
theorem Cq:Tryz.prog.underlying 23=some (.slice 49):=by kernel_rfl
theorem Hu:Tryz.prog.underlying 25=some (.int .i64):=by kernel_rfl
theorem Gu:Tryz.prog.underlying 42=some (.slice 5):=by kernel_rfl
theorem Vx: ∃fs,Tryz.prog.underlying 44=some (.struct fs):=⟨(match Tryz.prog.underlying 44 with|some (.struct fs)=>fs|_=> #[]),by kernel_rfl⟩
theorem zFp:Mo Tryz.prog 44=[(5,0),(9,1),(2,2),(9,3),(4,4)]:=by kernel_rfl
theorem Ux: ∃fs,Tryz.prog.underlying 49=some (.struct fs):=⟨(match Tryz.prog.underlying 49 with|some (.struct fs)=>fs|_=> #[]),by kernel_rfl⟩
theorem zFq:Mo Tryz.prog 49=[(44,0),(23,5)]:=by kernel_rfl
theorem Fu:Tryz.prog.underlying 52=some (.slice 23):=by kernel_rfl
theorem Tx: ∃fs,Tryz.prog.underlying 66=some (.struct fs):=⟨(match Tryz.prog.underlying 66 with|some (.struct fs)=>fs|_=> #[]),by kernel_rfl⟩
theorem zFr:Mo Tryz.prog 66=[(9,0),(23,1),(4,2)]:=by kernel_rfl
theorem Eu:Tryz.prog.underlying 71=some (.slice 66):=by kernel_rfl
theorem Py: ∃fs,Tryz.prog.underlying 101=some (.struct fs):=⟨(match Tryz.prog.underlying 101 with|some (.struct fs)=>fs|_=> #[]),by kernel_rfl⟩
theorem zDK:Mo Tryz.prog 101=[(3,0),(3,1),(4,2)]:=by kernel_rfl
theorem lu:Tryz.prog.underlying 116=some (.slice 119):=by kernel_rfl
theorem Oy: ∃fs,Tryz.prog.underlying 119=some (.struct fs):=⟨(match Tryz.prog.underlying 119 with|some (.struct fs)=>fs|_=> #[]),by kernel_rfl⟩
theorem zDL:Mo Tryz.prog 119=[(3,0),(3,1)]:=by kernel_rfl
theorem ku:Tryz.prog.underlying 122=some (.slice 9):=by kernel_rfl
theorem Ny: ∃fs,Tryz.prog.underlying 133=some (.struct fs):=⟨(match Tryz.prog.underlying 133 with|some (.struct fs)=>fs|_=> #[]),by kernel_rfl⟩
theorem zDM:Mo Tryz.prog 133=[(9,0),(3,1)]:=by kernel_rfl
theorem gu:Tryz.prog.underlying 174=some (.int .u64):=by kernel_rfl
theorem fu:Tryz.prog.underlying 185=some (.int .u32):=by kernel_rfl
theorem eu:Tryz.prog.underlying 217=some (.int .u64):=by kernel_rfl
theorem ipRd:IpRd Tryz.prog I (fun t=>t∈gd)where
 int:=fun t k hg hu n h1 h2=>by
  simp only[gd,Cb,Gd,Df]at hg;rcases hg with rfl|rfl|rfl|rfl|rfl|rfl|rfl|rfl|rfl|rfl|rfl|rfl|rfl|rfl|rfl|rfl|rfl|rfl|rfl|rfl|rfl|rfl|rfl|rfl
  ·rw[Bt]at hu;cases hu;exact⟨(n:Int),rfl⟩
  ·rw[Ws]at hu;cases hu;exact⟨(n:Int),rfl⟩
  ·rw[KC]at hu;cases hu
  ·rw[Vs]at hu;cases hu;exact⟨UInt8.ofNat n.toNat,zGo h1 h2⟩
  ·rw[JC]at hu;cases hu
  ·rw[Ju]at hu;cases hu;exact⟨(n:Int),rfl⟩
  ·rw[Iu]at hu;cases hu;exact⟨(n:Int),rfl⟩
  ·rw[Dq]at hu;cases hu
  ·rw[Cq]at hu;cases hu
  ·rw[Hu]at hu;cases hu;exact⟨(n:Int),rfl⟩
  ·rw[Gu]at hu;cases hu
  ·obtain⟨fs,e⟩:=Vx;rw[e]at hu;cases hu
  ·obtain⟨fs,e⟩:=Ux;rw[e]at hu;cases hu
  ·rw[Fu]at hu;cases hu
  ·obtain⟨fs,e⟩:=Tx;rw[e]at hu;cases hu
  ·rw[Eu]at hu;cases hu
  ·obtain⟨fs,e⟩:=Py;rw[e]at hu;cases hu
  ·rw[lu]at hu;cases hu
  ·obtain⟨fs,e⟩:=Oy;rw[e]at hu;cases hu
  ·rw[ku]at hu;cases hu
  ·obtain⟨fs,e⟩:=Ny;rw[e]at hu;cases hu
  ·rw[gu]at hu;cases hu;exact⟨(n:Int),rfl⟩
  ·rw[fu]at hu;cases hu;exact⟨(n:Int),rfl⟩
  ·rw[eu]at hu;cases hu;exact⟨(n:Int),rfl⟩
 bool:=fun t hg hu b=>by
  simp only[gd,Cb,Gd,Df]at hg;rcases hg with rfl|rfl|rfl|rfl|rfl|rfl|rfl|rfl|rfl|rfl|rfl|rfl|rfl|rfl|rfl|rfl|rfl|rfl|rfl|rfl|rfl|rfl|rfl|rfl
  ·rw[Bt]at hu;cases hu
  ·rw[Ws]at hu;cases hu
  ·exact⟨(b:Bool),rfl⟩
  ·rw[Vs]at hu;cases hu
  ·rw[JC]at hu;cases hu
  ·rw[Ju]at hu;cases hu
  ·rw[Iu]at hu;cases hu
  ·rw[Dq]at hu;cases hu
  ·rw[Cq]at hu;cases hu
  ·rw[Hu]at hu;cases hu
  ·rw[Gu]at hu;cases hu
  ·obtain⟨fs,e⟩:=Vx;rw[e]at hu;cases hu
  ·obtain⟨fs,e⟩:=Ux;rw[e]at hu;cases hu
  ·rw[Fu]at hu;cases hu
  ·obtain⟨fs,e⟩:=Tx;rw[e]at hu;cases hu
  ·rw[Eu]at hu;cases hu
  ·obtain⟨fs,e⟩:=Py;rw[e]at hu;cases hu
  ·rw[lu]at hu;cases hu
  ·obtain⟨fs,e⟩:=Oy;rw[e]at hu;cases hu
  ·rw[ku]at hu;cases hu
  ·obtain⟨fs,e⟩:=Ny;rw[e]at hu;cases hu
  ·rw[gu]at hu;cases hu
  ·rw[fu]at hu;cases hu
  ·rw[eu]at hu;cases hu
 str:=fun t hg hu l=>by
  simp only[gd,Cb,Gd,Df]at hg;rcases hg with rfl|rfl|rfl|rfl|rfl|rfl|rfl|rfl|rfl|rfl|rfl|rfl|rfl|rfl|rfl|rfl|rfl|rfl|rfl|rfl|rfl|rfl|rfl|rfl
  ·rw[Bt]at hu;cases hu
  ·rw[Ws]at hu;cases hu
  ·rw[KC]at hu;cases hu
  ·rw[Vs]at hu;cases hu
  ·exact⟨(l:Str),rfl⟩
  ·rw[Ju]at hu;cases hu
  ·rw[Iu]at hu;cases hu
  ·rw[Dq]at hu;cases hu
  ·rw[Cq]at hu;cases hu
  ·rw[Hu]at hu;cases hu
  ·rw[Gu]at hu;cases hu
  ·obtain⟨fs,e⟩:=Vx;rw[e]at hu;cases hu
  ·obtain⟨fs,e⟩:=Ux;rw[e]at hu;cases hu
  ·rw[Fu]at hu;cases hu
  ·obtain⟨fs,e⟩:=Tx;rw[e]at hu;cases hu
  ·rw[Eu]at hu;cases hu
  ·obtain⟨fs,e⟩:=Py;rw[e]at hu;cases hu
  ·rw[lu]at hu;cases hu
  ·obtain⟨fs,e⟩:=Oy;rw[e]at hu;cases hu
  ·rw[ku]at hu;cases hu
  ·obtain⟨fs,e⟩:=Ny;rw[e]at hu;cases hu
  ·rw[gu]at hu;cases hu
  ·rw[fu]at hu;cases hu
  ·rw[eu]at hu;cases hu
 sl:=fun t e hg hu=>by
  simp only[gd,Cb,Gd,Df]at hg;rcases hg with rfl|rfl|rfl|rfl|rfl|rfl|rfl|rfl|rfl|rfl|rfl|rfl|rfl|rfl|rfl|rfl|rfl|rfl|rfl|rfl|rfl|rfl|rfl|rfl
  ·rw[Bt]at hu;cases hu
  ·rw[Ws]at hu;cases hu
  ·rw[KC]at hu;cases hu
  ·rw[Vs]at hu;cases hu
  ·rw[JC]at hu;cases hu
  ·rw[Ju]at hu;cases hu
  ·rw[Iu]at hu;cases hu
  ·rw[Dq]at hu;cases hu;exact⟨by simp[gd],Fg (by decide:0<5) (by kernel_rfl:5=Tryz.prog.cellsOf 44),fun l=>⟨(l:List zb),rfl⟩⟩
  ·rw[Cq]at hu;cases hu;exact⟨by simp[gd],Fg (by decide:0<6) (by kernel_rfl:6=Tryz.prog.cellsOf 49),fun l=>⟨(l:List zg),rfl⟩⟩
  ·rw[Hu]at hu;cases hu
  ·rw[Gu]at hu;cases hu;exact⟨by simp[gd],Fg (by decide:0<1) (by kernel_rfl:1=Tryz.prog.cellsOf 5),fun l=>⟨(l:List UInt8),rfl⟩⟩
  ·obtain⟨fs,e⟩:=Vx;rw[e]at hu;cases hu
  ·obtain⟨fs,e⟩:=Ux;rw[e]at hu;cases hu
  ·rw[Fu]at hu;cases hu;exact⟨by simp[gd],Fg (by decide:0<1) (by kernel_rfl:1=Tryz.prog.cellsOf 23),fun l=>⟨(l:List (List zg)),rfl⟩⟩
  ·obtain⟨fs,e⟩:=Tx;rw[e]at hu;cases hu
  ·rw[Eu]at hu;cases hu;exact⟨by simp[gd],Fg (by decide:0<3) (by kernel_rfl:3=Tryz.prog.cellsOf 66),fun l=>⟨(l:List zhn),rfl⟩⟩
  ·obtain⟨fs,e⟩:=Py;rw[e]at hu;cases hu
  ·rw[lu]at hu;cases hu;exact⟨by simp[gd],Fg (by decide:0<2) (by kernel_rfl:2=Tryz.prog.cellsOf 119),fun l=>⟨(l:List zC),rfl⟩⟩
  ·obtain⟨fs,e⟩:=Oy;rw[e]at hu;cases hu
  ·rw[ku]at hu;cases hu;exact⟨by simp[gd],Fg (by decide:0<1) (by kernel_rfl:1=Tryz.prog.cellsOf 9),fun l=>⟨(l:List Str),rfl⟩⟩
  ·obtain⟨fs,e⟩:=Ny;rw[e]at hu;cases hu
  ·rw[gu]at hu;cases hu
  ·rw[fu]at hu;cases hu
  ·rw[eu]at hu;cases hu
 st:=fun t fs hg hu=>by
  simp only[gd,Cb,Gd,Df]at hg;rcases hg with rfl|rfl|rfl|rfl|rfl|rfl|rfl|rfl|rfl|rfl|rfl|rfl|rfl|rfl|rfl|rfl|rfl|rfl|rfl|rfl|rfl|rfl|rfl|rfl
  ·rw[Bt]at hu;cases hu
  ·rw[Ws]at hu;cases hu
  ·rw[KC]at hu;cases hu
  ·rw[Vs]at hu;cases hu
  ·rw[JC]at hu;cases hu
  ·rw[Ju]at hu;cases hu
  ·rw[Iu]at hu;cases hu
  ·rw[Dq]at hu;cases hu
  ·rw[Cq]at hu;cases hu
  ·rw[Hu]at hu;cases hu
  ·rw[Gu]at hu;cases hu
  ·refine Tt hu zFp (by simp[gd]) (by kernel_rfl) (by kernel_rfl) (fun pvs h0=> ?_);obtain⟨_,pvs,rfl,⟨y0,rfl⟩,h1⟩:=ql h0;obtain⟨_,pvs,rfl,⟨y1,rfl⟩,h2⟩:=ql h1;obtain⟨_,pvs,rfl,⟨y2,rfl⟩,h3⟩:=ql h2;obtain⟨_,pvs,rfl,⟨y3,rfl⟩,h4⟩:=ql h3;obtain⟨_,pvs,rfl,⟨y4,rfl⟩,h5⟩:=ql h4;rw[Cv h5];exact⟨(⟨((UInt8.toNat y0:Nat):Int),y1,y2,y3,y4⟩:zb),rfl⟩
  ·refine Tt hu zFq (by simp[gd]) (by kernel_rfl) (by kernel_rfl) (fun pvs h0=> ?_);obtain⟨_,pvs,rfl,⟨y0,rfl⟩,h1⟩:=ql h0;obtain⟨_,pvs,rfl,⟨y1,rfl⟩,h2⟩:=ql h1;rw[Cv h2];exact⟨(⟨y0,y1⟩:zg),(XM y0 y1).trans rfl⟩
  ·rw[Fu]at hu;cases hu
  ·refine Tt hu zFr (by simp[gd]) (by kernel_rfl) (by kernel_rfl) (fun pvs h0=> ?_);obtain⟨_,pvs,rfl,⟨y0,rfl⟩,h1⟩:=ql h0;obtain⟨_,pvs,rfl,⟨y1,rfl⟩,h2⟩:=ql h1;obtain⟨_,pvs,rfl,⟨y2,rfl⟩,h3⟩:=ql h2;rw[Cv h3];exact⟨(⟨y0,y1,y2⟩:zhn),rfl⟩
  ·rw[Eu]at hu;cases hu
  ·refine Tt hu zDK (by simp[gd]) (by kernel_rfl) (by kernel_rfl) (fun pvs h0=> ?_);obtain⟨_,pvs,rfl,⟨y0,rfl⟩,h1⟩:=ql h0;obtain⟨_,pvs,rfl,⟨y1,rfl⟩,h2⟩:=ql h1;obtain⟨_,pvs,rfl,⟨y2,rfl⟩,h3⟩:=ql h2;rw[Cv h3];exact⟨(⟨y0,y1,y2⟩:zN),rfl⟩
  ·rw[lu]at hu;cases hu
  ·refine Tt hu zDL (by simp[gd]) (by kernel_rfl) (by kernel_rfl) (fun pvs h0=> ?_);obtain⟨_,pvs,rfl,⟨y0,rfl⟩,h1⟩:=ql h0;obtain⟨_,pvs,rfl,⟨y1,rfl⟩,h2⟩:=ql h1;rw[Cv h2];exact⟨(⟨y0,y1⟩:zC),rfl⟩
  ·rw[ku]at hu;cases hu
  ·refine Tt hu zDM (by simp[gd]) (by kernel_rfl) (by kernel_rfl) (fun pvs h0=> ?_);obtain⟨_,pvs,rfl,⟨y0,rfl⟩,h1⟩:=ql h0;obtain⟨_,pvs,rfl,⟨y1,rfl⟩,h2⟩:=ql h1;rw[Cv h2];exact⟨(⟨y0,y1⟩:za),rfl⟩
  ·rw[gu]at hu;cases hu
  ·rw[fu]at hu;cases hu
  ·rw[eu]at hu;cases hu
 only:=fun t u hg hu=>by
  simp only[gd,Cb,Gd,Df]at hg;rcases hg with rfl|rfl|rfl|rfl|rfl|rfl|rfl|rfl|rfl|rfl|rfl|rfl|rfl|rfl|rfl|rfl|rfl|rfl|rfl|rfl|rfl|rfl|rfl|rfl
  ·rw[Bt]at hu;cases hu;exact .inl ⟨_,rfl⟩
  ·rw[Ws]at hu;cases hu;exact .inl ⟨_,rfl⟩
  ·rw[KC]at hu;cases hu;exact .inr (.inl rfl)
  ·rw[Vs]at hu;cases hu;exact .inl ⟨_,rfl⟩
  ·rw[JC]at hu;cases hu;exact .inr (.inr (.inl rfl))
  ·rw[Ju]at hu;cases hu;exact .inl ⟨_,rfl⟩
  ·rw[Iu]at hu;cases hu;exact .inl ⟨_,rfl⟩
  ·rw[Dq]at hu;cases hu;exact .inr (.inr (.inr (.inl ⟨_,rfl⟩)))
  ·rw[Cq]at hu;cases hu;exact .inr (.inr (.inr (.inl ⟨_,rfl⟩)))
  ·rw[Hu]at hu;cases hu;exact .inl ⟨_,rfl⟩
  ·rw[Gu]at hu;cases hu;exact .inr (.inr (.inr (.inl ⟨_,rfl⟩)))
  ·obtain⟨fs,e⟩:=Vx;rw[e]at hu;cases hu;exact .inr (.inr (.inr (.inr ⟨_,rfl⟩)))
  ·obtain⟨fs,e⟩:=Ux;rw[e]at hu;cases hu;exact .inr (.inr (.inr (.inr ⟨_,rfl⟩)))
  ·rw[Fu]at hu;cases hu;exact .inr (.inr (.inr (.inl ⟨_,rfl⟩)))
  ·obtain⟨fs,e⟩:=Tx;rw[e]at hu;cases hu;exact .inr (.inr (.inr (.inr ⟨_,rfl⟩)))
  ·rw[Eu]at hu;cases hu;exact .inr (.inr (.inr (.inl ⟨_,rfl⟩)))
  ·obtain⟨fs,e⟩:=Py;rw[e]at hu;cases hu;exact .inr (.inr (.inr (.inr ⟨_,rfl⟩)))
  ·rw[lu]at hu;cases hu;exact .inr (.inr (.inr (.inl ⟨_,rfl⟩)))
  ·obtain⟨fs,e⟩:=Oy;rw[e]at hu;cases hu;exact .inr (.inr (.inr (.inr ⟨_,rfl⟩)))
  ·rw[ku]at hu;cases hu;exact .inr (.inr (.inr (.inl ⟨_,rfl⟩)))
  ·obtain⟨fs,e⟩:=Ny;rw[e]at hu;cases hu;exact .inr (.inr (.inr (.inr ⟨_,rfl⟩)))
  ·rw[gu]at hu;cases hu;exact .inl ⟨_,rfl⟩
  ·rw[fu]at hu;cases hu;exact .inl ⟨_,rfl⟩
  ·rw[eu]at hu;cases hu;exact .inl ⟨_,rfl⟩
end Go.Lv.VT
