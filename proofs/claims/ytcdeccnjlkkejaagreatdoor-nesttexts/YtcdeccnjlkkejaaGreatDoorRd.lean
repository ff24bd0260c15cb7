/- Which values may come in. -/
import Derived.Test.YtcdeccnjlkkejaaGreatDoorIp
import Derived.Test.YtcdeccnjlkkejaaGreatDoorLf
set_option linter.unusedSimpArgs false
set_option linter.unusedVariables false
namespace Go.Lv.VT
set_option maxRecDepth 100000
open Go.Proofs
def gd:List Nat:=[2,3,4,5,9,12,21,22,23,25,42,44,49,52,66,71,101,116,119,122,133,174,185,217]
theorem uq:Tryz.prog.underlying 2=some (.int .i64):=by kernel_rfl
theorem tq:Tryz.prog.underlying 3=some (.int .i64):=by kernel_rfl
theorem Dv:Tryz.prog.underlying 4=some (.bool):=by kernel_rfl
theorem rq:Tryz.prog.underlying 5=some (.int .u8):=by kernel_rfl
theorem pq:Tryz.prog.underlying 9=some (.string):=by kernel_rfl
theorem Vr:Tryz.prog.underlying 12=some (.int .u64):=by kernel_rfl
theorem Et:Tryz.prog.underlying 21=some (.int .i32):=by kernel_rfl
theorem Dt:Tryz.prog.underlying 22=some (.slice 44):=by kernel_rfl
theorem Bt:Tryz.prog.underlying 23=some (.slice 49):=by kernel_rfl
theorem Ws:Tryz.prog.underlying 25=some (.int .i64):=by kernel_rfl
theorem Vs:Tryz.prog.underlying 42=some (.slice 5):=by kernel_rfl
theorem Fw: ∃fs,Tryz.prog.underlying 44=some (.struct fs):=⟨(match Tryz.prog.underlying 44 with|some (.struct fs)=>fs|_=> #[]),by kernel_rfl⟩
theorem zDF:Gn Tryz.prog 44=[(5,0),(9,1),(2,2),(9,3),(4,4)]:=by kernel_rfl
theorem Ew: ∃fs,Tryz.prog.underlying 49=some (.struct fs):=⟨(match Tryz.prog.underlying 49 with|some (.struct fs)=>fs|_=> #[]),by kernel_rfl⟩
theorem zDG:Gn Tryz.prog 49=[(44,0),(23,5)]:=by kernel_rfl
theorem Us:Tryz.prog.underlying 52=some (.slice 23):=by kernel_rfl
theorem Dw: ∃fs,Tryz.prog.underlying 66=some (.struct fs):=⟨(match Tryz.prog.underlying 66 with|some (.struct fs)=>fs|_=> #[]),by kernel_rfl⟩
theorem zDH:Gn Tryz.prog 66=[(9,0),(23,1),(4,2)]:=by kernel_rfl
theorem Rs:Tryz.prog.underlying 71=some (.slice 66):=by kernel_rfl
theorem ow: ∃fs,Tryz.prog.underlying 101=some (.struct fs):=⟨(match Tryz.prog.underlying 101 with|some (.struct fs)=>fs|_=> #[]),by kernel_rfl⟩
theorem zB8:Gn Tryz.prog 101=[(3,0),(3,1),(4,2)]:=by kernel_rfl
theorem Mt:Tryz.prog.underlying 116=some (.slice 119):=by kernel_rfl
theorem lw: ∃fs,Tryz.prog.underlying 119=some (.struct fs):=⟨(match Tryz.prog.underlying 119 with|some (.struct fs)=>fs|_=> #[]),by kernel_rfl⟩
theorem zB9:Gn Tryz.prog 119=[(3,0),(3,1)]:=by kernel_rfl
theorem Lt:Tryz.prog.underlying 122=some (.slice 9):=by kernel_rfl
theorem kw: ∃fs,Tryz.prog.underlying 133=some (.struct fs):=⟨(match Tryz.prog.underlying 133 with|some (.struct fs)=>fs|_=> #[]),by kernel_rfl⟩
theorem zCa:Gn Tryz.prog 133=[(9,0),(3,1)]:=by kernel_rfl
theorem Jt:Tryz.prog.underlying 174=some (.int .u64):=by kernel_rfl
theorem Ht:Tryz.prog.underlying 185=some (.int .u32):=by kernel_rfl
theorem Gt:Tryz.prog.underlying 217=some (.int .u64):=by kernel_rfl
theorem ipRd:IpRd Tryz.prog I (fun t=>t∈gd)where
 int:=fun t k c hu n h1 h2=>by
  simp only[gd,ma,Ed,Bf]at c;rcases c with rfl|rfl|rfl|rfl|rfl|rfl|rfl|rfl|rfl|rfl|rfl|rfl|rfl|rfl|rfl|rfl|rfl|rfl|rfl|rfl|rfl|rfl|rfl|rfl
  ·rw[uq]at hu;cases hu;exact⟨(n:Int),rfl⟩
  ·rw[tq]at hu;cases hu;exact⟨(n:Int),rfl⟩
  ·rw[Dv]at hu;cases hu
  ·rw[rq]at hu;cases hu;exact⟨UInt8.ofNat n.toNat,zEv h1 h2⟩
  ·rw[pq]at hu;cases hu
  ·rw[Vr]at hu;cases hu;exact⟨(n:Int),rfl⟩
  ·rw[Et]at hu;cases hu;exact⟨(n:Int),rfl⟩
  ·rw[Dt]at hu;cases hu
  ·rw[Bt]at hu;cases hu
  ·rw[Ws]at hu;cases hu;exact⟨(n:Int),rfl⟩
  ·rw[Vs]at hu;cases hu
  ·obtain⟨fs,e⟩:=Fw;rw[e]at hu;cases hu
  ·obtain⟨fs,e⟩:=Ew;rw[e]at hu;cases hu
  ·rw[Us]at hu;cases hu
  ·obtain⟨fs,e⟩:=Dw;rw[e]at hu;cases hu
  ·rw[Rs]at hu;cases hu
  ·obtain⟨fs,e⟩:=ow;rw[e]at hu;cases hu
  ·rw[Mt]at hu;cases hu
  ·obtain⟨fs,e⟩:=lw;rw[e]at hu;cases hu
  ·rw[Lt]at hu;cases hu
  ·obtain⟨fs,e⟩:=kw;rw[e]at hu;cases hu
  ·rw[Jt]at hu;cases hu;exact⟨(n:Int),rfl⟩
  ·rw[Ht]at hu;cases hu;exact⟨(n:Int),rfl⟩
  ·rw[Gt]at hu;cases hu;exact⟨(n:Int),rfl⟩
 bool:=fun t c hu b=>by
  simp only[gd,ma,Ed,Bf]at c;rcases c with rfl|rfl|rfl|rfl|rfl|rfl|rfl|rfl|rfl|rfl|rfl|rfl|rfl|rfl|rfl|rfl|rfl|rfl|rfl|rfl|rfl|rfl|rfl|rfl
  ·rw[uq]at hu;cases hu
  ·rw[tq]at hu;cases hu
  ·exact⟨(b:Bool),rfl⟩
  ·rw[rq]at hu;cases hu
  ·rw[pq]at hu;cases hu
  ·rw[Vr]at hu;cases hu
  ·rw[Et]at hu;cases hu
  ·rw[Dt]at hu;cases hu
  ·rw[Bt]at hu;cases hu
  ·rw[Ws]at hu;cases hu
  ·rw[Vs]at hu;cases hu
  ·obtain⟨fs,e⟩:=Fw;rw[e]at hu;cases hu
  ·obtain⟨fs,e⟩:=Ew;rw[e]at hu;cases hu
  ·rw[Us]at hu;cases hu
  ·obtain⟨fs,e⟩:=Dw;rw[e]at hu;cases hu
  ·rw[Rs]at hu;cases hu
  ·obtain⟨fs,e⟩:=ow;rw[e]at hu;cases hu
  ·rw[Mt]at hu;cases hu
  ·obtain⟨fs,e⟩:=lw;rw[e]at hu;cases hu
  ·rw[Lt]at hu;cases hu
  ·obtain⟨fs,e⟩:=kw;rw[e]at hu;cases hu
  ·rw[Jt]at hu;cases hu
  ·rw[Ht]at hu;cases hu
  ·rw[Gt]at hu;cases hu
 str:=fun t c hu l=>by
  simp only[gd,ma,Ed,Bf]at c;rcases c with rfl|rfl|rfl|rfl|rfl|rfl|rfl|rfl|rfl|rfl|rfl|rfl|rfl|rfl|rfl|rfl|rfl|rfl|rfl|rfl|rfl|rfl|rfl|rfl
  ·rw[uq]at hu;cases hu
  ·rw[tq]at hu;cases hu
  ·rw[Dv]at hu;cases hu
  ·rw[rq]at hu;cases hu
  ·exact⟨(l:Str),rfl⟩
  ·rw[Vr]at hu;cases hu
  ·rw[Et]at hu;cases hu
  ·rw[Dt]at hu;cases hu
  ·rw[Bt]at hu;cases hu
  ·rw[Ws]at hu;cases hu
  ·rw[Vs]at hu;cases hu
  ·obtain⟨fs,e⟩:=Fw;rw[e]at hu;cases hu
  ·obtain⟨fs,e⟩:=Ew;rw[e]at hu;cases hu
  ·rw[Us]at hu;cases hu
  ·obtain⟨fs,e⟩:=Dw;rw[e]at hu;cases hu
  ·rw[Rs]at hu;cases hu
  ·obtain⟨fs,e⟩:=ow;rw[e]at hu;cases hu
  ·rw[Mt]at hu;cases hu
  ·obtain⟨fs,e⟩:=lw;rw[e]at hu;cases hu
  ·rw[Lt]at hu;cases hu
  ·obtain⟨fs,e⟩:=kw;rw[e]at hu;cases hu
  ·rw[Jt]at hu;cases hu
  ·rw[Ht]at hu;cases hu
  ·rw[Gt]at hu;cases hu
 sl:=fun t e c hu=>by
  simp only[gd,ma,Ed,Bf]at c;rcases c with rfl|rfl|rfl|rfl|rfl|rfl|rfl|rfl|rfl|rfl|rfl|rfl|rfl|rfl|rfl|rfl|rfl|rfl|rfl|rfl|rfl|rfl|rfl|rfl
  ·rw[uq]at hu;cases hu
  ·rw[tq]at hu;cases hu
  ·rw[Dv]at hu;cases hu
  ·rw[rq]at hu;cases hu
  ·rw[pq]at hu;cases hu
  ·rw[Vr]at hu;cases hu
  ·rw[Et]at hu;cases hu
  ·rw[Dt]at hu;cases hu;exact⟨by simp[gd],Dg (by decide:0<5) (by kernel_rfl:5=Tryz.prog.cellsOf 44),fun l=>⟨(l:List zb),rfl⟩⟩
  ·rw[Bt]at hu;cases hu;exact⟨by simp[gd],Dg (by decide:0<6) (by kernel_rfl:6=Tryz.prog.cellsOf 49),fun l=>⟨(l:List zg),rfl⟩⟩
  ·rw[Ws]at hu;cases hu
  ·rw[Vs]at hu;cases hu;exact⟨by simp[gd],Dg (by decide:0<1) (by kernel_rfl:1=Tryz.prog.cellsOf 5),fun l=>⟨(l:List UInt8),rfl⟩⟩
  ·obtain⟨fs,e⟩:=Fw;rw[e]at hu;cases hu
  ·obtain⟨fs,e⟩:=Ew;rw[e]at hu;cases hu
  ·rw[Us]at hu;cases hu;exact⟨by simp[gd],Dg (by decide:0<1) (by kernel_rfl:1=Tryz.prog.cellsOf 23),fun l=>⟨(l:List (List zg)),rfl⟩⟩
  ·obtain⟨fs,e⟩:=Dw;rw[e]at hu;cases hu
  ·rw[Rs]at hu;cases hu;exact⟨by simp[gd],Dg (by decide:0<3) (by kernel_rfl:3=Tryz.prog.cellsOf 66),fun l=>⟨(l:List zgN),rfl⟩⟩
  ·obtain⟨fs,e⟩:=ow;rw[e]at hu;cases hu
  ·rw[Mt]at hu;cases hu;exact⟨by simp[gd],Dg (by decide:0<2) (by kernel_rfl:2=Tryz.prog.cellsOf 119),fun l=>⟨(l:List zz),rfl⟩⟩
  ·obtain⟨fs,e⟩:=lw;rw[e]at hu;cases hu
  ·rw[Lt]at hu;cases hu;exact⟨by simp[gd],Dg (by decide:0<1) (by kernel_rfl:1=Tryz.prog.cellsOf 9),fun l=>⟨(l:List Str),rfl⟩⟩
  ·obtain⟨fs,e⟩:=kw;rw[e]at hu;cases hu
  ·rw[Jt]at hu;cases hu
  ·rw[Ht]at hu;cases hu
  ·rw[Gt]at hu;cases hu
 st:=fun t fs c hu=>by
  simp only[gd,ma,Ed,Bf]at c;rcases c with rfl|rfl|rfl|rfl|rfl|rfl|rfl|rfl|rfl|rfl|rfl|rfl|rfl|rfl|rfl|rfl|rfl|rfl|rfl|rfl|rfl|rfl|rfl|rfl
  ·rw[uq]at hu;cases hu
  ·rw[tq]at hu;cases hu
  ·rw[Dv]at hu;cases hu
  ·rw[rq]at hu;cases hu
  ·rw[pq]at hu;cases hu
  ·rw[Vr]at hu;cases hu
  ·rw[Et]at hu;cases hu
  ·rw[Dt]at hu;cases hu
  ·rw[Bt]at hu;cases hu
  ·rw[Ws]at hu;cases hu
  ·rw[Vs]at hu;cases hu
  ·refine Br hu zDF (by simp[gd]) (by kernel_rfl) (by kernel_rfl) (fun pvs h0=> ?_);obtain⟨_,pvs,rfl,⟨d,rfl⟩,h1⟩:=Z0 h0;obtain⟨_,pvs,rfl,⟨f,rfl⟩,h2⟩:=Z0 h1;obtain⟨_,pvs,rfl,⟨i,rfl⟩,h3⟩:=Z0 h2;obtain⟨_,pvs,rfl,⟨j,rfl⟩,h4⟩:=Z0 h3;obtain⟨_,pvs,rfl,⟨m,rfl⟩,p⟩:=Z0 h4;rw[Iu p];exact⟨(⟨((UInt8.toNat d:Nat):Int),f,i,j,m⟩:zb),rfl⟩
  ·refine Br hu zDG (by simp[gd]) (by kernel_rfl) (by kernel_rfl) (fun pvs h0=> ?_);obtain⟨_,pvs,rfl,⟨d,rfl⟩,h1⟩:=Z0 h0;obtain⟨_,pvs,rfl,⟨f,rfl⟩,h2⟩:=Z0 h1;rw[Iu h2];exact⟨(⟨d,f⟩:zg),(WU d f).trans rfl⟩
  ·rw[Us]at hu;cases hu
  ·refine Br hu zDH (by simp[gd]) (by kernel_rfl) (by kernel_rfl) (fun pvs h0=> ?_);obtain⟨_,pvs,rfl,⟨d,rfl⟩,h1⟩:=Z0 h0;obtain⟨_,pvs,rfl,⟨f,rfl⟩,h2⟩:=Z0 h1;obtain⟨_,pvs,rfl,⟨i,rfl⟩,h3⟩:=Z0 h2;rw[Iu h3];exact⟨(⟨d,f,i⟩:zgN),rfl⟩
  ·rw[Rs]at hu;cases hu
  ·refine Br hu zB8 (by simp[gd]) (by kernel_rfl) (by kernel_rfl) (fun pvs h0=> ?_);obtain⟨_,pvs,rfl,⟨d,rfl⟩,h1⟩:=Z0 h0;obtain⟨_,pvs,rfl,⟨f,rfl⟩,h2⟩:=Z0 h1;obtain⟨_,pvs,rfl,⟨i,rfl⟩,h3⟩:=Z0 h2;rw[Iu h3];exact⟨(⟨d,f,i⟩:zI),rfl⟩
  ·rw[Mt]at hu;cases hu
  ·refine Br hu zB9 (by simp[gd]) (by kernel_rfl) (by kernel_rfl) (fun pvs h0=> ?_);obtain⟨_,pvs,rfl,⟨d,rfl⟩,h1⟩:=Z0 h0;obtain⟨_,pvs,rfl,⟨f,rfl⟩,h2⟩:=Z0 h1;rw[Iu h2];exact⟨(⟨d,f⟩:zz),rfl⟩
  ·rw[Lt]at hu;cases hu
  ·refine Br hu zCa (by simp[gd]) (by kernel_rfl) (by kernel_rfl) (fun pvs h0=> ?_);obtain⟨_,pvs,rfl,⟨d,rfl⟩,h1⟩:=Z0 h0;obtain⟨_,pvs,rfl,⟨f,rfl⟩,h2⟩:=Z0 h1;rw[Iu h2];exact⟨(⟨d,f⟩:za),rfl⟩
  ·rw[Jt]at hu;cases hu
  ·rw[Ht]at hu;cases hu
  ·rw[Gt]at hu;cases hu
 only:=fun t u c hu=>by
  simp only[gd,ma,Ed,Bf]at c;rcases c with rfl|rfl|rfl|rfl|rfl|rfl|rfl|rfl|rfl|rfl|rfl|rfl|rfl|rfl|rfl|rfl|rfl|rfl|rfl|rfl|rfl|rfl|rfl|rfl
  ·rw[uq]at hu;cases hu;exact .inl ⟨_,rfl⟩
  ·rw[tq]at hu;cases hu;exact .inl ⟨_,rfl⟩
  ·rw[Dv]at hu;cases hu;exact .inr (.inl rfl)
  ·rw[rq]at hu;cases hu;exact .inl ⟨_,rfl⟩
  ·rw[pq]at hu;cases hu;exact .inr (.inr (.inl rfl))
  ·rw[Vr]at hu;cases hu;exact .inl ⟨_,rfl⟩
  ·rw[Et]at hu;cases hu;exact .inl ⟨_,rfl⟩
  ·rw[Dt]at hu;cases hu;exact .inr (.inr (.inr (.inl ⟨_,rfl⟩)))
  ·rw[Bt]at hu;cases hu;exact .inr (.inr (.inr (.inl ⟨_,rfl⟩)))
  ·rw[Ws]at hu;cases hu;exact .inl ⟨_,rfl⟩
  ·rw[Vs]at hu;cases hu;exact .inr (.inr (.inr (.inl ⟨_,rfl⟩)))
  ·obtain⟨fs,e⟩:=Fw;rw[e]at hu;cases hu;exact .inr (.inr (.inr (.inr ⟨_,rfl⟩)))
  ·obtain⟨fs,e⟩:=Ew;rw[e]at hu;cases hu;exact .inr (.inr (.inr (.inr ⟨_,rfl⟩)))
  ·rw[Us]at hu;cases hu;exact .inr (.inr (.inr (.inl ⟨_,rfl⟩)))
  ·obtain⟨fs,e⟩:=Dw;rw[e]at hu;cases hu;exact .inr (.inr (.inr (.inr ⟨_,rfl⟩)))
  ·rw[Rs]at hu;cases hu;exact .inr (.inr (.inr (.inl ⟨_,rfl⟩)))
  ·obtain⟨fs,e⟩:=ow;rw[e]at hu;cases hu;exact .inr (.inr (.inr (.inr ⟨_,rfl⟩)))
  ·rw[Mt]at hu;cases hu;exact .inr (.inr (.inr (.inl ⟨_,rfl⟩)))
  ·obtain⟨fs,e⟩:=lw;rw[e]at hu;cases hu;exact .inr (.inr (.inr (.inr ⟨_,rfl⟩)))
  ·rw[Lt]at hu;cases hu;exact .inr (.inr (.inr (.inl ⟨_,rfl⟩)))
  ·obtain⟨fs,e⟩:=kw;rw[e]at hu;cases hu;exact .inr (.inr (.inr (.inr ⟨_,rfl⟩)))
  ·rw[Jt]at hu;cases hu;exact .inl ⟨_,rfl⟩
  ·rw[Ht]at hu;cases hu;exact .inl ⟨_,rfl⟩
  ·rw[Gt]at hu;cases hu;exact .inl ⟨_,rfl⟩
end Go.Lv.VT
