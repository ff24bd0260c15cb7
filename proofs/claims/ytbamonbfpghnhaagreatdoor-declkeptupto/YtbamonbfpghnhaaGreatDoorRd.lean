/- Which values may come in. -/
import Derived.Test.YtbamonbfpghnhaaGreatDoorIp
import Derived.Test.YtbamonbfpghnhaaGreatDoorLf
set_option linter.unusedSimpArgs false
set_option linter.unusedVariables false
namespace Go.Lv.VT
set_option maxRecDepth 100000
open Go.Proofs
def gd:List Nat:=[2,3,4,5,9,11,21,22,25,28,33,35,41,49,51,57,68,91,102,104,107,120,128,149]
theorem vo:Tryz.prog.underlying 2=some (.int .i64):=by kernel_rfl
theorem Hm:Tryz.prog.underlying 3=some (.int .i64):=by kernel_rfl
theorem Fs:Tryz.prog.underlying 4=some (.bool):=by kernel_rfl
theorem uo:Tryz.prog.underlying 5=some (.int .u8):=by kernel_rfl
theorem Es:Tryz.prog.underlying 9=some (.string):=by kernel_rfl
theorem Nt:Tryz.prog.underlying 11=some (.string):=by kernel_rfl
theorem Aq:Tryz.prog.underlying 21=some (.int .i32):=by kernel_rfl
theorem Hl:Tryz.prog.underlying 22=some (.slice 35):=by kernel_rfl
theorem gp:Tryz.prog.underlying 25=some (.int .i64):=by kernel_rfl
theorem Yp:Tryz.prog.underlying 28=some (.slice 9):=by kernel_rfl
theorem Xp:Tryz.prog.underlying 33=some (.slice 51):=by kernel_rfl
theorem Mt: ∃fs,Tryz.prog.underlying 35=some (.struct fs):=⟨(match Tryz.prog.underlying 35 with|some (.struct fs)=>fs|_=> #[]),by kernel_rfl⟩
theorem zBw:El Tryz.prog 35=[(9,0),(33,1),(4,2)]:=by kernel_rfl
theorem Wp:Tryz.prog.underlying 41=some (.slice 49):=by kernel_rfl
theorem Lt: ∃fs,Tryz.prog.underlying 49=some (.struct fs):=⟨(match Tryz.prog.underlying 49 with|some (.struct fs)=>fs|_=> #[]),by kernel_rfl⟩
theorem zBx:El Tryz.prog 49=[(5,0),(9,1),(2,2),(9,3),(4,4)]:=by kernel_rfl
theorem Jt: ∃fs,Tryz.prog.underlying 51=some (.struct fs):=⟨(match Tryz.prog.underlying 51 with|some (.struct fs)=>fs|_=> #[]),by kernel_rfl⟩
theorem zBy:El Tryz.prog 51=[(49,0),(33,5)]:=by kernel_rfl
theorem Vp:Tryz.prog.underlying 57=some (.slice 5):=by kernel_rfl
theorem Tp:Tryz.prog.underlying 68=some (.slice 33):=by kernel_rfl
theorem Ht: ∃fs,Tryz.prog.underlying 91=some (.struct fs):=⟨(match Tryz.prog.underlying 91 with|some (.struct fs)=>fs|_=> #[]),by kernel_rfl⟩
theorem zBz:El Tryz.prog 91=[(9,0),(3,1)]:=by kernel_rfl
theorem Iu: ∃fs,Tryz.prog.underlying 102=some (.struct fs):=⟨(match Tryz.prog.underlying 102 with|some (.struct fs)=>fs|_=> #[]),by kernel_rfl⟩
theorem DU:El Tryz.prog 102=[(3,0),(3,1),(4,2)]:=by kernel_rfl
theorem Tq:Tryz.prog.underlying 104=some (.slice 107):=by kernel_rfl
theorem Hu: ∃fs,Tryz.prog.underlying 107=some (.struct fs):=⟨(match Tryz.prog.underlying 107 with|some (.struct fs)=>fs|_=> #[]),by kernel_rfl⟩
theorem CU:El Tryz.prog 107=[(3,0),(3,1)]:=by kernel_rfl
theorem Sq:Tryz.prog.underlying 120=some (.int .u64):=by kernel_rfl
theorem Rq:Tryz.prog.underlying 128=some (.int .u32):=by kernel_rfl
theorem Pq:Tryz.prog.underlying 149=some (.int .u64):=by kernel_rfl
theorem ipRd:IpRd Tryz.prog I (fun t=>t∈gd)where
 int:=fun t k hg hu n h1 h2=>by
  simp only[gd,Ab,Jd,Lf]at hg;rcases hg with rfl|rfl|rfl|rfl|rfl|rfl|rfl|rfl|rfl|rfl|rfl|rfl|rfl|rfl|rfl|rfl|rfl|rfl|rfl|rfl|rfl|rfl|rfl|rfl
  ·rw[vo]at hu;cases hu;exact⟨(n:Int),rfl⟩
  ·rw[Hm]at hu;cases hu;exact⟨(n:Int),rfl⟩
  ·rw[Fs]at hu;cases hu
  ·rw[uo]at hu;cases hu;exact⟨UInt8.ofNat n.toNat,zCD h1 h2⟩
  ·rw[Es]at hu;cases hu
  ·rw[Nt]at hu;cases hu
  ·rw[Aq]at hu;cases hu;exact⟨(n:Int),rfl⟩
  ·rw[Hl]at hu;cases hu
  ·rw[gp]at hu;cases hu;exact⟨(n:Int),rfl⟩
  ·rw[Yp]at hu;cases hu
  ·rw[Xp]at hu;cases hu
  ·obtain⟨fs,e⟩:=Mt;rw[e]at hu;cases hu
  ·rw[Wp]at hu;cases hu
  ·obtain⟨fs,e⟩:=Lt;rw[e]at hu;cases hu
  ·obtain⟨fs,e⟩:=Jt;rw[e]at hu;cases hu
  ·rw[Vp]at hu;cases hu
  ·rw[Tp]at hu;cases hu
  ·obtain⟨fs,e⟩:=Ht;rw[e]at hu;cases hu
  ·obtain⟨fs,e⟩:=Iu;rw[e]at hu;cases hu
  ·rw[Tq]at hu;cases hu
  ·obtain⟨fs,e⟩:=Hu;rw[e]at hu;cases hu
  ·rw[Sq]at hu;cases hu;exact⟨(n:Int),rfl⟩
  ·rw[Rq]at hu;cases hu;exact⟨(n:Int),rfl⟩
  ·rw[Pq]at hu;cases hu;exact⟨(n:Int),rfl⟩
 bool:=fun t hg hu b=>by
  simp only[gd,Ab,Jd,Lf]at hg;rcases hg with rfl|rfl|rfl|rfl|rfl|rfl|rfl|rfl|rfl|rfl|rfl|rfl|rfl|rfl|rfl|rfl|rfl|rfl|rfl|rfl|rfl|rfl|rfl|rfl
  ·rw[vo]at hu;cases hu
  ·rw[Hm]at hu;cases hu
  ·exact⟨(b:Bool),rfl⟩
  ·rw[uo]at hu;cases hu
  ·rw[Es]at hu;cases hu
  ·rw[Nt]at hu;cases hu
  ·rw[Aq]at hu;cases hu
  ·rw[Hl]at hu;cases hu
  ·rw[gp]at hu;cases hu
  ·rw[Yp]at hu;cases hu
  ·rw[Xp]at hu;cases hu
  ·obtain⟨fs,e⟩:=Mt;rw[e]at hu;cases hu
  ·rw[Wp]at hu;cases hu
  ·obtain⟨fs,e⟩:=Lt;rw[e]at hu;cases hu
  ·obtain⟨fs,e⟩:=Jt;rw[e]at hu;cases hu
  ·rw[Vp]at hu;cases hu
  ·rw[Tp]at hu;cases hu
  ·obtain⟨fs,e⟩:=Ht;rw[e]at hu;cases hu
  ·obtain⟨fs,e⟩:=Iu;rw[e]at hu;cases hu
  ·rw[Tq]at hu;cases hu
  ·obtain⟨fs,e⟩:=Hu;rw[e]at hu;cases hu
  ·rw[Sq]at hu;cases hu
  ·rw[Rq]at hu;cases hu
  ·rw[Pq]at hu;cases hu
 str:=fun t hg hu l=>by
  simp only[gd,Ab,Jd,Lf]at hg;rcases hg with rfl|rfl|rfl|rfl|rfl|rfl|rfl|rfl|rfl|rfl|rfl|rfl|rfl|rfl|rfl|rfl|rfl|rfl|rfl|rfl|rfl|rfl|rfl|rfl
  ·rw[vo]at hu;cases hu
  ·rw[Hm]at hu;cases hu
  ·rw[Fs]at hu;cases hu
  ·rw[uo]at hu;cases hu
  ·exact⟨(l:Str),rfl⟩
  ·exact⟨(l:Str),rfl⟩
  ·rw[Aq]at hu;cases hu
  ·rw[Hl]at hu;cases hu
  ·rw[gp]at hu;cases hu
  ·rw[Yp]at hu;cases hu
  ·rw[Xp]at hu;cases hu
  ·obtain⟨fs,e⟩:=Mt;rw[e]at hu;cases hu
  ·rw[Wp]at hu;cases hu
  ·obtain⟨fs,e⟩:=Lt;rw[e]at hu;cases hu
  ·obtain⟨fs,e⟩:=Jt;rw[e]at hu;cases hu
  ·rw[Vp]at hu;cases hu
  ·rw[Tp]at hu;cases hu
  ·obtain⟨fs,e⟩:=Ht;rw[e]at hu;cases hu
  ·obtain⟨fs,e⟩:=Iu;rw[e]at hu;cases hu
  ·rw[Tq]at hu;cases hu
  ·obtain⟨fs,e⟩:=Hu;rw[e]at hu;cases hu
  ·rw[Sq]at hu;cases hu
  ·rw[Rq]at hu;cases hu
  ·rw[Pq]at hu;cases hu
 sl:=fun t e hg hu=>by
  simp only[gd,Ab,Jd,Lf]at hg;rcases hg with rfl|rfl|rfl|rfl|rfl|rfl|rfl|rfl|rfl|rfl|rfl|rfl|rfl|rfl|rfl|rfl|rfl|rfl|rfl|rfl|rfl|rfl|rfl|rfl
  ·rw[vo]at hu;cases hu
  ·rw[Hm]at hu;cases hu
  ·rw[Fs]at hu;cases hu
  ·rw[uo]at hu;cases hu
  ·rw[Es]at hu;cases hu
  ·rw[Nt]at hu;cases hu
  ·rw[Aq]at hu;cases hu
  ·rw[Hl]at hu;cases hu;exact⟨by simp[gd],ve (by decide:0<3) (by kernel_rfl:3=Tryz.prog.cellsOf 35),fun l=>⟨(l:List zI),rfl⟩⟩
  ·rw[gp]at hu;cases hu
  ·rw[Yp]at hu;cases hu;exact⟨by simp[gd],ve (by decide:0<1) (by kernel_rfl:1=Tryz.prog.cellsOf 9),fun l=>⟨(l:List Str),rfl⟩⟩
  ·rw[Xp]at hu;cases hu;exact⟨by simp[gd],ve (by decide:0<6) (by kernel_rfl:6=Tryz.prog.cellsOf 51),fun l=>⟨(l:List zb),rfl⟩⟩
  ·obtain⟨fs,e⟩:=Mt;rw[e]at hu;cases hu
  ·rw[Wp]at hu;cases hu;exact⟨by simp[gd],ve (by decide:0<5) (by kernel_rfl:5=Tryz.prog.cellsOf 49),fun l=>⟨(l:List ze),rfl⟩⟩
  ·obtain⟨fs,e⟩:=Lt;rw[e]at hu;cases hu
  ·obtain⟨fs,e⟩:=Jt;rw[e]at hu;cases hu
  ·rw[Vp]at hu;cases hu;exact⟨by simp[gd],ve (by decide:0<1) (by kernel_rfl:1=Tryz.prog.cellsOf 5),fun l=>⟨(l:List UInt8),rfl⟩⟩
  ·rw[Tp]at hu;cases hu;exact⟨by simp[gd],ve (by decide:0<1) (by kernel_rfl:1=Tryz.prog.cellsOf 33),fun l=>⟨(l:List (List zb)),rfl⟩⟩
  ·obtain⟨fs,e⟩:=Ht;rw[e]at hu;cases hu
  ·obtain⟨fs,e⟩:=Iu;rw[e]at hu;cases hu
  ·rw[Tq]at hu;cases hu;exact⟨by simp[gd],ve (by decide:0<2) (by kernel_rfl:2=Tryz.prog.cellsOf 107),fun l=>⟨(l:List zu),rfl⟩⟩
  ·obtain⟨fs,e⟩:=Hu;rw[e]at hu;cases hu
  ·rw[Sq]at hu;cases hu
  ·rw[Rq]at hu;cases hu
  ·rw[Pq]at hu;cases hu
 st:=fun t fs hg hu=>by
  simp only[gd,Ab,Jd,Lf]at hg;rcases hg with rfl|rfl|rfl|rfl|rfl|rfl|rfl|rfl|rfl|rfl|rfl|rfl|rfl|rfl|rfl|rfl|rfl|rfl|rfl|rfl|rfl|rfl|rfl|rfl
  ·rw[vo]at hu;cases hu
  ·rw[Hm]at hu;cases hu
  ·rw[Fs]at hu;cases hu
  ·rw[uo]at hu;cases hu
  ·rw[Es]at hu;cases hu
  ·rw[Nt]at hu;cases hu
  ·rw[Aq]at hu;cases hu
  ·rw[Hl]at hu;cases hu
  ·rw[gp]at hu;cases hu
  ·rw[Yp]at hu;cases hu
  ·rw[Xp]at hu;cases hu
  ·refine wo hu zBw (by simp[gd]) (by kernel_rfl) (by kernel_rfl) (fun pvs h0=> ?_);obtain⟨_,pvs,rfl,⟨y0,rfl⟩,h1⟩:=qi h0;obtain⟨_,pvs,rfl,⟨y1,rfl⟩,h2⟩:=qi h1;obtain⟨_,pvs,rfl,⟨y2,rfl⟩,h3⟩:=qi h2;rw[iq h3];exact⟨(⟨y0,y1,y2⟩:zI),rfl⟩
  ·rw[Wp]at hu;cases hu
  ·refine wo hu zBx (by simp[gd]) (by kernel_rfl) (by kernel_rfl) (fun pvs h0=> ?_);obtain⟨_,pvs,rfl,⟨y0,rfl⟩,h1⟩:=qi h0;obtain⟨_,pvs,rfl,⟨y1,rfl⟩,h2⟩:=qi h1;obtain⟨_,pvs,rfl,⟨y2,rfl⟩,h3⟩:=qi h2;obtain⟨_,pvs,rfl,⟨y3,rfl⟩,h4⟩:=qi h3;obtain⟨_,pvs,rfl,⟨y4,rfl⟩,h5⟩:=qi h4;rw[iq h5];exact⟨(⟨((UInt8.toNat y0:Nat):Int),y1,y2,y3,y4⟩:ze),rfl⟩
  ·refine wo hu zBy (by simp[gd]) (by kernel_rfl) (by kernel_rfl) (fun pvs h0=> ?_);obtain⟨_,pvs,rfl,⟨y0,rfl⟩,h1⟩:=qi h0;obtain⟨_,pvs,rfl,⟨y1,rfl⟩,h2⟩:=qi h1;rw[iq h2];exact⟨(⟨y0,y1⟩:zb),(KQ y0 y1).trans rfl⟩
  ·rw[Vp]at hu;cases hu
  ·rw[Tp]at hu;cases hu
  ·refine wo hu zBz (by simp[gd]) (by kernel_rfl) (by kernel_rfl) (fun pvs h0=> ?_);obtain⟨_,pvs,rfl,⟨y0,rfl⟩,h1⟩:=qi h0;obtain⟨_,pvs,rfl,⟨y1,rfl⟩,h2⟩:=qi h1;rw[iq h2];exact⟨(⟨y0,y1⟩:za),rfl⟩
  ·refine wo hu DU (by simp[gd]) (by kernel_rfl) (by kernel_rfl) (fun pvs h0=> ?_);obtain⟨_,pvs,rfl,⟨y0,rfl⟩,h1⟩:=qi h0;obtain⟨_,pvs,rfl,⟨y1,rfl⟩,h2⟩:=qi h1;obtain⟨_,pvs,rfl,⟨y2,rfl⟩,h3⟩:=qi h2;rw[iq h3];exact⟨(⟨y0,y1,y2⟩:zw),rfl⟩
  ·rw[Tq]at hu;cases hu
  ·refine wo hu CU (by simp[gd]) (by kernel_rfl) (by kernel_rfl) (fun pvs h0=> ?_);obtain⟨_,pvs,rfl,⟨y0,rfl⟩,h1⟩:=qi h0;obtain⟨_,pvs,rfl,⟨y1,rfl⟩,h2⟩:=qi h1;rw[iq h2];exact⟨(⟨y0,y1⟩:zu),rfl⟩
  ·rw[Sq]at hu;cases hu
  ·rw[Rq]at hu;cases hu
  ·rw[Pq]at hu;cases hu
 only:=fun t u hg hu=>by
  simp only[gd,Ab,Jd,Lf]at hg;rcases hg with rfl|rfl|rfl|rfl|rfl|rfl|rfl|rfl|rfl|rfl|rfl|rfl|rfl|rfl|rfl|rfl|rfl|rfl|rfl|rfl|rfl|rfl|rfl|rfl
  ·rw[vo]at hu;cases hu;exact .inl ⟨_,rfl⟩
  ·rw[Hm]at hu;cases hu;exact .inl ⟨_,rfl⟩
  ·rw[Fs]at hu;cases hu;exact .inr (.inl rfl)
  ·rw[uo]at hu;cases hu;exact .inl ⟨_,rfl⟩
  ·rw[Es]at hu;cases hu;exact .inr (.inr (.inl rfl))
  ·rw[Nt]at hu;cases hu;exact .inr (.inr (.inl rfl))
  ·rw[Aq]at hu;cases hu;exact .inl ⟨_,rfl⟩
  ·rw[Hl]at hu;cases hu;exact .inr (.inr (.inr (.inl ⟨_,rfl⟩)))
  ·rw[gp]at hu;cases hu;exact .inl ⟨_,rfl⟩
  ·rw[Yp]at hu;cases hu;exact .inr (.inr (.inr (.inl ⟨_,rfl⟩)))
  ·rw[Xp]at hu;cases hu;exact .inr (.inr (.inr (.inl ⟨_,rfl⟩)))
  ·obtain⟨fs,e⟩:=Mt;rw[e]at hu;cases hu;exact .inr (.inr (.inr (.inr ⟨_,rfl⟩)))
  ·rw[Wp]at hu;cases hu;exact .inr (.inr (.inr (.inl ⟨_,rfl⟩)))
  ·obtain⟨fs,e⟩:=Lt;rw[e]at hu;cases hu;exact .inr (.inr (.inr (.inr ⟨_,rfl⟩)))
  ·obtain⟨fs,e⟩:=Jt;rw[e]at hu;cases hu;exact .inr (.inr (.inr (.inr ⟨_,rfl⟩)))
  ·rw[Vp]at hu;cases hu;exact .inr (.inr (.inr (.inl ⟨_,rfl⟩)))
  ·rw[Tp]at hu;cases hu;exact .inr (.inr (.inr (.inl ⟨_,rfl⟩)))
  ·obtain⟨fs,e⟩:=Ht;rw[e]at hu;cases hu;exact .inr (.inr (.inr (.inr ⟨_,rfl⟩)))
  ·obtain⟨fs,e⟩:=Iu;rw[e]at hu;cases hu;exact .inr (.inr (.inr (.inr ⟨_,rfl⟩)))
  ·rw[Tq]at hu;cases hu;exact .inr (.inr (.inr (.inl ⟨_,rfl⟩)))
  ·obtain⟨fs,e⟩:=Hu;rw[e]at hu;cases hu;exact .inr (.inr (.inr (.inr ⟨_,rfl⟩)))
  ·rw[Sq]at hu;cases hu;exact .inl ⟨_,rfl⟩
  ·rw[Rq]at hu;cases hu;exact .inl ⟨_,rfl⟩
  ·rw[Pq]at hu;cases hu;exact .inl ⟨_,rfl⟩
end Go.Lv.VT
