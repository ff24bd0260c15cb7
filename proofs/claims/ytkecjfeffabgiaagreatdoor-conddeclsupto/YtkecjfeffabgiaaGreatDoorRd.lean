/- Which values may come in. -/
import Derived.Test.YtkecjfeffabgiaaGreatDoorIp
import Derived.Test.YtkecjfeffabgiaaGreatDoorLf
set_option linter.unusedSimpArgs false
set_option linter.unusedVariables false
namespace Go.Lv.VT
set_option maxRecDepth 100000
open Go.Proofs
def gd:List Nat:=[2,3,4,5,9,12,21,22,24,25,27,29,30,32,33,52,57,59,62,85,87,111,121,133,172,189,206,208,211,220]
theorem Rm:Tryz.prog.underlying 2=some (.int .i64):=by kernel_rfl
theorem Pm:Tryz.prog.underlying 3=some (.int .i64):=by kernel_rfl
theorem Tq:Tryz.prog.underlying 4=some (.bool):=by kernel_rfl
theorem Om:Tryz.prog.underlying 5=some (.int .u8):=by kernel_rfl
theorem Sq:Tryz.prog.underlying 9=some (.string):=by kernel_rfl
theorem Xm:Tryz.prog.underlying 12=some (.int .u64):=by kernel_rfl
theorem Wm:Tryz.prog.underlying 21=some (.int .i32):=by kernel_rfl
theorem Vm:Tryz.prog.underlying 22=some (.slice 59):=by kernel_rfl
theorem Br: ∃fs,Tryz.prog.underlying 24=some (.struct fs):=⟨(match Tryz.prog.underlying 24 with|some (.struct fs)=>fs|_=> #[]),by kernel_rfl⟩
theorem zCl:Rh Tryz.prog 24=[(9,0),(22,1),(4,2)]:=by kernel_rfl
theorem Um:Tryz.prog.underlying 25=some (.slice 27):=by kernel_rfl
theorem Ar: ∃fs,Tryz.prog.underlying 27=some (.struct fs):=⟨(match Tryz.prog.underlying 27 with|some (.struct fs)=>fs|_=> #[]),by kernel_rfl⟩
theorem zCm:Rh Tryz.prog 27=[(5,0),(9,1),(2,2),(24,3),(25,6)]:=by kernel_rfl
theorem pq: ∃fs,Tryz.prog.underlying 29=some (.struct fs):=⟨(match Tryz.prog.underlying 29 with|some (.struct fs)=>fs|_=> #[]),by kernel_rfl⟩
theorem zCn:Rh Tryz.prog 29=[(2,0)]:=by kernel_rfl
theorem Jn:Tryz.prog.underlying 30=some (.slice 4):=by kernel_rfl
theorem Gn:Tryz.prog.underlying 32=some (.slice 24):=by kernel_rfl
theorem En:Tryz.prog.underlying 33=some (.int .i64):=by kernel_rfl
theorem Dn:Tryz.prog.underlying 52=some (.slice 9):=by kernel_rfl
theorem oq: ∃fs,Tryz.prog.underlying 57=some (.struct fs):=⟨(match Tryz.prog.underlying 57 with|some (.struct fs)=>fs|_=> #[]),by kernel_rfl⟩
theorem zCo:Rh Tryz.prog 57=[(5,0),(9,1),(2,2),(9,3),(4,4)]:=by kernel_rfl
theorem mq: ∃fs,Tryz.prog.underlying 59=some (.struct fs):=⟨(match Tryz.prog.underlying 59 with|some (.struct fs)=>fs|_=> #[]),by kernel_rfl⟩
theorem zCp:Rh Tryz.prog 59=[(57,0),(22,5)]:=by kernel_rfl
theorem Bn:Tryz.prog.underlying 62=some (.slice 57):=by kernel_rfl
theorem lq: ∃fs,Tryz.prog.underlying 85=some (.struct fs):=⟨(match Tryz.prog.underlying 85 with|some (.struct fs)=>fs|_=> #[]),by kernel_rfl⟩
theorem zCq:Rh Tryz.prog 85=[(22,0)]:=by kernel_rfl
theorem ym:Tryz.prog.underlying 87=some (.slice 22):=by kernel_rfl
theorem Vr: ∃fs,Tryz.prog.underlying 111=some (.struct fs):=⟨(match Tryz.prog.underlying 111 with|some (.struct fs)=>fs|_=> #[]),by kernel_rfl⟩
theorem zBr:Rh Tryz.prog 111=[(3,0),(3,1),(4,2)]:=by kernel_rfl
theorem Ur: ∃fs,Tryz.prog.underlying 121=some (.struct fs):=⟨(match Tryz.prog.underlying 121 with|some (.struct fs)=>fs|_=> #[]),by kernel_rfl⟩
theorem zBs:Rh Tryz.prog 121=[(9,0),(3,1)]:=by kernel_rfl
theorem Ao:Tryz.prog.underlying 133=some (.slice 5):=by kernel_rfl
theorem yn:Tryz.prog.underlying 172=some (.slice 2):=by kernel_rfl
theorem Wn:Tryz.prog.underlying 189=some (.int .u32):=by kernel_rfl
theorem Vn:Tryz.prog.underlying 206=some (.int .u64):=by kernel_rfl
theorem Un:Tryz.prog.underlying 208=some (.slice 211):=by kernel_rfl
theorem Sr: ∃fs,Tryz.prog.underlying 211=some (.struct fs):=⟨(match Tryz.prog.underlying 211 with|some (.struct fs)=>fs|_=> #[]),by kernel_rfl⟩
theorem zBt:Rh Tryz.prog 211=[(3,0),(3,1)]:=by kernel_rfl
theorem Tn:Tryz.prog.underlying 220=some (.int .u64):=by kernel_rfl
theorem ipRd:IpRd Tryz.prog I (fun t=>t∈gd)where
 int:=fun t k hg hu n h1 h2=>by
  simp only[gd,Ua,Ed,yf]at hg;rcases hg with rfl|rfl|rfl|rfl|rfl|rfl|rfl|rfl|rfl|rfl|rfl|rfl|rfl|rfl|rfl|rfl|rfl|rfl|rfl|rfl|rfl|rfl|rfl|rfl|rfl|rfl|rfl|rfl|rfl|rfl
  ·rw[Rm]at hu;cases hu;exact⟨(n:Int),rfl⟩
  ·rw[Pm]at hu;cases hu;exact⟨(n:Int),rfl⟩
  ·rw[Tq]at hu;cases hu
  ·rw[Om]at hu;cases hu;exact⟨UInt8.ofNat n.toNat,zCW h1 h2⟩
  ·rw[Sq]at hu;cases hu
  ·rw[Xm]at hu;cases hu;exact⟨(n:Int),rfl⟩
  ·rw[Wm]at hu;cases hu;exact⟨(n:Int),rfl⟩
  ·rw[Vm]at hu;cases hu
  ·obtain⟨fs,e⟩:=Br;rw[e]at hu;cases hu
  ·rw[Um]at hu;cases hu
  ·obtain⟨fs,e⟩:=Ar;rw[e]at hu;cases hu
  ·obtain⟨fs,e⟩:=pq;rw[e]at hu;cases hu
  ·rw[Jn]at hu;cases hu
  ·rw[Gn]at hu;cases hu
  ·rw[En]at hu;cases hu;exact⟨(n:Int),rfl⟩
  ·rw[Dn]at hu;cases hu
  ·obtain⟨fs,e⟩:=oq;rw[e]at hu;cases hu
  ·obtain⟨fs,e⟩:=mq;rw[e]at hu;cases hu
  ·rw[Bn]at hu;cases hu
  ·obtain⟨fs,e⟩:=lq;rw[e]at hu;cases hu
  ·rw[ym]at hu;cases hu
  ·obtain⟨fs,e⟩:=Vr;rw[e]at hu;cases hu
  ·obtain⟨fs,e⟩:=Ur;rw[e]at hu;cases hu
  ·rw[Ao]at hu;cases hu
  ·rw[yn]at hu;cases hu
  ·rw[Wn]at hu;cases hu;exact⟨(n:Int),rfl⟩
  ·rw[Vn]at hu;cases hu;exact⟨(n:Int),rfl⟩
  ·rw[Un]at hu;cases hu
  ·obtain⟨fs,e⟩:=Sr;rw[e]at hu;cases hu
  ·rw[Tn]at hu;cases hu;exact⟨(n:Int),rfl⟩
 bool:=fun t hg hu b=>by
  simp only[gd,Ua,Ed,yf]at hg;rcases hg with rfl|rfl|rfl|rfl|rfl|rfl|rfl|rfl|rfl|rfl|rfl|rfl|rfl|rfl|rfl|rfl|rfl|rfl|rfl|rfl|rfl|rfl|rfl|rfl|rfl|rfl|rfl|rfl|rfl|rfl
  ·rw[Rm]at hu;cases hu
  ·rw[Pm]at hu;cases hu
  ·exact⟨(b:Bool),rfl⟩
  ·rw[Om]at hu;cases hu
  ·rw[Sq]at hu;cases hu
  ·rw[Xm]at hu;cases hu
  ·rw[Wm]at hu;cases hu
  ·rw[Vm]at hu;cases hu
  ·obtain⟨fs,e⟩:=Br;rw[e]at hu;cases hu
  ·rw[Um]at hu;cases hu
  ·obtain⟨fs,e⟩:=Ar;rw[e]at hu;cases hu
  ·obtain⟨fs,e⟩:=pq;rw[e]at hu;cases hu
  ·rw[Jn]at hu;cases hu
  ·rw[Gn]at hu;cases hu
  ·rw[En]at hu;cases hu
  ·rw[Dn]at hu;cases hu
  ·obtain⟨fs,e⟩:=oq;rw[e]at hu;cases hu
  ·obtain⟨fs,e⟩:=mq;rw[e]at hu;cases hu
  ·rw[Bn]at hu;cases hu
  ·obtain⟨fs,e⟩:=lq;rw[e]at hu;cases hu
  ·rw[ym]at hu;cases hu
  ·obtain⟨fs,e⟩:=Vr;rw[e]at hu;cases hu
  ·obtain⟨fs,e⟩:=Ur;rw[e]at hu;cases hu
  ·rw[Ao]at hu;cases hu
  ·rw[yn]at hu;cases hu
  ·rw[Wn]at hu;cases hu
  ·rw[Vn]at hu;cases hu
  ·rw[Un]at hu;cases hu
  ·obtain⟨fs,e⟩:=Sr;rw[e]at hu;cases hu
  ·rw[Tn]at hu;cases hu
 str:=fun t hg hu l=>by
  simp only[gd,Ua,Ed,yf]at hg;rcases hg with rfl|rfl|rfl|rfl|rfl|rfl|rfl|rfl|rfl|rfl|rfl|rfl|rfl|rfl|rfl|rfl|rfl|rfl|rfl|rfl|rfl|rfl|rfl|rfl|rfl|rfl|rfl|rfl|rfl|rfl
  ·rw[Rm]at hu;cases hu
  ·rw[Pm]at hu;cases hu
  ·rw[Tq]at hu;cases hu
  ·rw[Om]at hu;cases hu
  ·exact⟨(l:Str),rfl⟩
  ·rw[Xm]at hu;cases hu
  ·rw[Wm]at hu;cases hu
  ·rw[Vm]at hu;cases hu
  ·obtain⟨fs,e⟩:=Br;rw[e]at hu;cases hu
  ·rw[Um]at hu;cases hu
  ·obtain⟨fs,e⟩:=Ar;rw[e]at hu;cases hu
  ·obtain⟨fs,e⟩:=pq;rw[e]at hu;cases hu
  ·rw[Jn]at hu;cases hu
  ·rw[Gn]at hu;cases hu
  ·rw[En]at hu;cases hu
  ·rw[Dn]at hu;cases hu
  ·obtain⟨fs,e⟩:=oq;rw[e]at hu;cases hu
  ·obtain⟨fs,e⟩:=mq;rw[e]at hu;cases hu
  ·rw[Bn]at hu;cases hu
  ·obtain⟨fs,e⟩:=lq;rw[e]at hu;cases hu
  ·rw[ym]at hu;cases hu
  ·obtain⟨fs,e⟩:=Vr;rw[e]at hu;cases hu
  ·obtain⟨fs,e⟩:=Ur;rw[e]at hu;cases hu
  ·rw[Ao]at hu;cases hu
  ·rw[yn]at hu;cases hu
  ·rw[Wn]at hu;cases hu
  ·rw[Vn]at hu;cases hu
  ·rw[Un]at hu;cases hu
  ·obtain⟨fs,e⟩:=Sr;rw[e]at hu;cases hu
  ·rw[Tn]at hu;cases hu
 sl:=fun t e hg hu=>by
  simp only[gd,Ua,Ed,yf]at hg;rcases hg with rfl|rfl|rfl|rfl|rfl|rfl|rfl|rfl|rfl|rfl|rfl|rfl|rfl|rfl|rfl|rfl|rfl|rfl|rfl|rfl|rfl|rfl|rfl|rfl|rfl|rfl|rfl|rfl|rfl|rfl
  ·rw[Rm]at hu;cases hu
  ·rw[Pm]at hu;cases hu
  ·rw[Tq]at hu;cases hu
  ·rw[Om]at hu;cases hu
  ·rw[Sq]at hu;cases hu
  ·rw[Xm]at hu;cases hu
  ·rw[Wm]at hu;cases hu
  ·rw[Vm]at hu;cases hu;exact⟨by simp[gd],Ad (by decide:0<6) (by kernel_rfl:6=Tryz.prog.cellsOf 59),fun l=>⟨(l:List ze),rfl⟩⟩
  ·obtain⟨fs,e⟩:=Br;rw[e]at hu;cases hu
  ·rw[Um]at hu;cases hu;exact⟨by simp[gd],Ad (by decide:0<7) (by kernel_rfl:7=Tryz.prog.cellsOf 27),fun l=>⟨(l:List zh),rfl⟩⟩
  ·obtain⟨fs,e⟩:=Ar;rw[e]at hu;cases hu
  ·obtain⟨fs,e⟩:=pq;rw[e]at hu;cases hu
  ·rw[Jn]at hu;cases hu;exact⟨by simp[gd],Ad (by decide:0<1) (by kernel_rfl:1=Tryz.prog.cellsOf 4),fun l=>⟨(l:List Bool),rfl⟩⟩
  ·rw[Gn]at hu;cases hu;exact⟨by simp[gd],Ad (by decide:0<3) (by kernel_rfl:3=Tryz.prog.cellsOf 24),fun l=>⟨(l:List zA),rfl⟩⟩
  ·rw[En]at hu;cases hu
  ·rw[Dn]at hu;cases hu;exact⟨by simp[gd],Ad (by decide:0<1) (by kernel_rfl:1=Tryz.prog.cellsOf 9),fun l=>⟨(l:List Str),rfl⟩⟩
  ·obtain⟨fs,e⟩:=oq;rw[e]at hu;cases hu
  ·obtain⟨fs,e⟩:=mq;rw[e]at hu;cases hu
  ·rw[Bn]at hu;cases hu;exact⟨by simp[gd],Ad (by decide:0<5) (by kernel_rfl:5=Tryz.prog.cellsOf 57),fun l=>⟨(l:List zf),rfl⟩⟩
  ·obtain⟨fs,e⟩:=lq;rw[e]at hu;cases hu
  ·rw[ym]at hu;cases hu;exact⟨by simp[gd],Ad (by decide:0<1) (by kernel_rfl:1=Tryz.prog.cellsOf 22),fun l=>⟨(l:List (List ze)),rfl⟩⟩
  ·obtain⟨fs,e⟩:=Vr;rw[e]at hu;cases hu
  ·obtain⟨fs,e⟩:=Ur;rw[e]at hu;cases hu
  ·rw[Ao]at hu;cases hu;exact⟨by simp[gd],Ad (by decide:0<1) (by kernel_rfl:1=Tryz.prog.cellsOf 5),fun l=>⟨(l:List UInt8),rfl⟩⟩
  ·rw[yn]at hu;cases hu;exact⟨by simp[gd],Ad (by decide:0<1) (by kernel_rfl:1=Tryz.prog.cellsOf 2),fun l=>⟨(l:List Int),rfl⟩⟩
  ·rw[Wn]at hu;cases hu
  ·rw[Vn]at hu;cases hu
  ·rw[Un]at hu;cases hu;exact⟨by simp[gd],Ad (by decide:0<2) (by kernel_rfl:2=Tryz.prog.cellsOf 211),fun l=>⟨(l:List zP),rfl⟩⟩
  ·obtain⟨fs,e⟩:=Sr;rw[e]at hu;cases hu
  ·rw[Tn]at hu;cases hu
 st:=fun t fs hg hu=>by
  simp only[gd,Ua,Ed,yf]at hg;rcases hg with rfl|rfl|rfl|rfl|rfl|rfl|rfl|rfl|rfl|rfl|rfl|rfl|rfl|rfl|rfl|rfl|rfl|rfl|rfl|rfl|rfl|rfl|rfl|rfl|rfl|rfl|rfl|rfl|rfl|rfl
  ·rw[Rm]at hu;cases hu
  ·rw[Pm]at hu;cases hu
  ·rw[Tq]at hu;cases hu
  ·rw[Om]at hu;cases hu
  ·rw[Sq]at hu;cases hu
  ·rw[Xm]at hu;cases hu
  ·rw[Wm]at hu;cases hu
  ·rw[Vm]at hu;cases hu
  ·refine Ci hu zCl (by simp[gd]) (by kernel_rfl) (by kernel_rfl) (fun pvs h0=> ?_);obtain⟨_,pvs,rfl,⟨y0,rfl⟩,h1⟩:=Zu h0;obtain⟨_,pvs,rfl,⟨y1,rfl⟩,h2⟩:=Zu h1;obtain⟨_,pvs,rfl,⟨y2,rfl⟩,h3⟩:=Zu h2;rw[Ui h3];exact⟨(⟨y0,y1,y2⟩:zA),rfl⟩
  ·rw[Um]at hu;cases hu
  ·refine Ci hu zCm (by simp[gd]) (by kernel_rfl) (by kernel_rfl) (fun pvs h0=> ?_);obtain⟨_,pvs,rfl,⟨y0,rfl⟩,h1⟩:=Zu h0;obtain⟨_,pvs,rfl,⟨y1,rfl⟩,h2⟩:=Zu h1;obtain⟨_,pvs,rfl,⟨y2,rfl⟩,h3⟩:=Zu h2;obtain⟨_,pvs,rfl,⟨y3,rfl⟩,h4⟩:=Zu h3;obtain⟨_,pvs,rfl,⟨y4,rfl⟩,h5⟩:=Zu h4;rw[Ui h5];exact⟨(⟨((UInt8.toNat y0:Nat):Int),y1,y2,y3,y4⟩:zh),(TM ((UInt8.toNat y0:Nat):Int) y1 y2 y3 y4).trans rfl⟩
  ·refine Ci hu zCn (by simp[gd]) (by kernel_rfl) (by kernel_rfl) (fun pvs h0=> ?_);obtain⟨_,pvs,rfl,⟨y0,rfl⟩,h1⟩:=Zu h0;rw[Ui h1];exact⟨(⟨y0⟩:VEnv),rfl⟩
  ·rw[Jn]at hu;cases hu
  ·rw[Gn]at hu;cases hu
  ·rw[En]at hu;cases hu
  ·rw[Dn]at hu;cases hu
  ·refine Ci hu zCo (by simp[gd]) (by kernel_rfl) (by kernel_rfl) (fun pvs h0=> ?_);obtain⟨_,pvs,rfl,⟨y0,rfl⟩,h1⟩:=Zu h0;obtain⟨_,pvs,rfl,⟨y1,rfl⟩,h2⟩:=Zu h1;obtain⟨_,pvs,rfl,⟨y2,rfl⟩,h3⟩:=Zu h2;obtain⟨_,pvs,rfl,⟨y3,rfl⟩,h4⟩:=Zu h3;obtain⟨_,pvs,rfl,⟨y4,rfl⟩,h5⟩:=Zu h4;rw[Ui h5];exact⟨(⟨((UInt8.toNat y0:Nat):Int),y1,y2,y3,y4⟩:zf),rfl⟩
  ·refine Ci hu zCp (by simp[gd]) (by kernel_rfl) (by kernel_rfl) (fun pvs h0=> ?_);obtain⟨_,pvs,rfl,⟨y0,rfl⟩,h1⟩:=Zu h0;obtain⟨_,pvs,rfl,⟨y1,rfl⟩,h2⟩:=Zu h1;rw[Ui h2];exact⟨(⟨y0,y1⟩:ze),(kN y0 y1).trans rfl⟩
  ·rw[Bn]at hu;cases hu
  ·refine Ci hu zCq (by simp[gd]) (by kernel_rfl) (by kernel_rfl) (fun pvs h0=> ?_);obtain⟨_,pvs,rfl,⟨y0,rfl⟩,h1⟩:=Zu h0;rw[Ui h1];exact⟨(⟨y0⟩:zk),rfl⟩
  ·rw[ym]at hu;cases hu
  ·refine Ci hu zBr (by simp[gd]) (by kernel_rfl) (by kernel_rfl) (fun pvs h0=> ?_);obtain⟨_,pvs,rfl,⟨y0,rfl⟩,h1⟩:=Zu h0;obtain⟨_,pvs,rfl,⟨y1,rfl⟩,h2⟩:=Zu h1;obtain⟨_,pvs,rfl,⟨y2,rfl⟩,h3⟩:=Zu h2;rw[Ui h3];exact⟨(⟨y0,y1,y2⟩:zB),rfl⟩
  ·refine Ci hu zBs (by simp[gd]) (by kernel_rfl) (by kernel_rfl) (fun pvs h0=> ?_);obtain⟨_,pvs,rfl,⟨y0,rfl⟩,h1⟩:=Zu h0;obtain⟨_,pvs,rfl,⟨y1,rfl⟩,h2⟩:=Zu h1;rw[Ui h2];exact⟨(⟨y0,y1⟩:za),rfl⟩
  ·rw[Ao]at hu;cases hu
  ·rw[yn]at hu;cases hu
  ·rw[Wn]at hu;cases hu
  ·rw[Vn]at hu;cases hu
  ·rw[Un]at hu;cases hu
  ·refine Ci hu zBt (by simp[gd]) (by kernel_rfl) (by kernel_rfl) (fun pvs h0=> ?_);obtain⟨_,pvs,rfl,⟨y0,rfl⟩,h1⟩:=Zu h0;obtain⟨_,pvs,rfl,⟨y1,rfl⟩,h2⟩:=Zu h1;rw[Ui h2];exact⟨(⟨y0,y1⟩:zP),rfl⟩
  ·rw[Tn]at hu;cases hu
 only:=fun t u hg hu=>by
  simp only[gd,Ua,Ed,yf]at hg;rcases hg with rfl|rfl|rfl|rfl|rfl|rfl|rfl|rfl|rfl|rfl|rfl|rfl|rfl|rfl|rfl|rfl|rfl|rfl|rfl|rfl|rfl|rfl|rfl|rfl|rfl|rfl|rfl|rfl|rfl|rfl
  ·rw[Rm]at hu;cases hu;exact .inl ⟨_,rfl⟩
  ·rw[Pm]at hu;cases hu;exact .inl ⟨_,rfl⟩
  ·rw[Tq]at hu;cases hu;exact .inr (.inl rfl)
  ·rw[Om]at hu;cases hu;exact .inl ⟨_,rfl⟩
  ·rw[Sq]at hu;cases hu;exact .inr (.inr (.inl rfl))
  ·rw[Xm]at hu;cases hu;exact .inl ⟨_,rfl⟩
  ·rw[Wm]at hu;cases hu;exact .inl ⟨_,rfl⟩
  ·rw[Vm]at hu;cases hu;exact .inr (.inr (.inr (.inl ⟨_,rfl⟩)))
  ·obtain⟨fs,e⟩:=Br;rw[e]at hu;cases hu;exact .inr (.inr (.inr (.inr ⟨_,rfl⟩)))
  ·rw[Um]at hu;cases hu;exact .inr (.inr (.inr (.inl ⟨_,rfl⟩)))
  ·obtain⟨fs,e⟩:=Ar;rw[e]at hu;cases hu;exact .inr (.inr (.inr (.inr ⟨_,rfl⟩)))
  ·obtain⟨fs,e⟩:=pq;rw[e]at hu;cases hu;exact .inr (.inr (.inr (.inr ⟨_,rfl⟩)))
  ·rw[Jn]at hu;cases hu;exact .inr (.inr (.inr (.inl ⟨_,rfl⟩)))
  ·rw[Gn]at hu;cases hu;exact .inr (.inr (.inr (.inl ⟨_,rfl⟩)))
  ·rw[En]at hu;cases hu;exact .inl ⟨_,rfl⟩
  ·rw[Dn]at hu;cases hu;exact .inr (.inr (.inr (.inl ⟨_,rfl⟩)))
  ·obtain⟨fs,e⟩:=oq;rw[e]at hu;cases hu;exact .inr (.inr (.inr (.inr ⟨_,rfl⟩)))
  ·obtain⟨fs,e⟩:=mq;rw[e]at hu;cases hu;exact .inr (.inr (.inr (.inr ⟨_,rfl⟩)))
  ·rw[Bn]at hu;cases hu;exact .inr (.inr (.inr (.inl ⟨_,rfl⟩)))
  ·obtain⟨fs,e⟩:=lq;rw[e]at hu;cases hu;exact .inr (.inr (.inr (.inr ⟨_,rfl⟩)))
  ·rw[ym]at hu;cases hu;exact .inr (.inr (.inr (.inl ⟨_,rfl⟩)))
  ·obtain⟨fs,e⟩:=Vr;rw[e]at hu;cases hu;exact .inr (.inr (.inr (.inr ⟨_,rfl⟩)))
  ·obtain⟨fs,e⟩:=Ur;rw[e]at hu;cases hu;exact .inr (.inr (.inr (.inr ⟨_,rfl⟩)))
  ·rw[Ao]at hu;cases hu;exact .inr (.inr (.inr (.inl ⟨_,rfl⟩)))
  ·rw[yn]at hu;cases hu;exact .inr (.inr (.inr (.inl ⟨_,rfl⟩)))
  ·rw[Wn]at hu;cases hu;exact .inl ⟨_,rfl⟩
  ·rw[Vn]at hu;cases hu;exact .inl ⟨_,rfl⟩
  ·rw[Un]at hu;cases hu;exact .inr (.inr (.inr (.inl ⟨_,rfl⟩)))
  ·obtain⟨fs,e⟩:=Sr;rw[e]at hu;cases hu;exact .inr (.inr (.inr (.inr ⟨_,rfl⟩)))
  ·rw[Tn]at hu;cases hu;exact .inl ⟨_,rfl⟩
end Go.Lv.VT
