/- Which values may come in. -/
import Derived.Test.YtcdeccnjlkkejaaGreatDoorIp
import Derived.Test.YtcdeccnjlkkejaaGreatDoorLf
set_option linter.unusedSimpArgs false
set_option linter.unusedVariables false
namespace Go.Lv.VT
set_option maxRecDepth 100000
open Go.Proofs
def gd:List Nat:=[2,3,4,5,9,12,21,22,23,25,42,44,49,52,66,71,101,116,119,122,133,174,185,217]
theorem Nn:Tryz.prog.underlying 2=some (.int .i64):=by kernel_rfl
theorem Kn:Tryz.prog.underlying 3=some (.int .i64):=by kernel_rfl
theorem gq:Tryz.prog.underlying 4=some (.bool):=by kernel_rfl
theorem Jn:Tryz.prog.underlying 5=some (.int .u8):=by kernel_rfl
theorem fq:Tryz.prog.underlying 9=some (.string):=by kernel_rfl
theorem Vo:Tryz.prog.underlying 12=some (.int .u64):=by kernel_rfl
theorem Uo:Tryz.prog.underlying 21=some (.int .i32):=by kernel_rfl
theorem Ll:Tryz.prog.underlying 22=some (.slice 44):=by kernel_rfl
theorem Kl:Tryz.prog.underlying 23=some (.slice 49):=by kernel_rfl
theorem Ro:Tryz.prog.underlying 25=some (.int .i64):=by kernel_rfl
theorem Po:Tryz.prog.underlying 42=some (.slice 5):=by kernel_rfl
theorem Ur: ∃fs,Tryz.prog.underlying 44=some (.struct fs):=⟨(match Tryz.prog.underlying 44 with|some (.struct fs)=>fs|_=> #[]),by kernel_rfl⟩
theorem zAc:Ck Tryz.prog 44=[(5,0),(9,1),(2,2),(9,3),(4,4)]:=by kernel_rfl
theorem Sr: ∃fs,Tryz.prog.underlying 49=some (.struct fs):=⟨(match Tryz.prog.underlying 49 with|some (.struct fs)=>fs|_=> #[]),by kernel_rfl⟩
theorem zAd:Ck Tryz.prog 49=[(44,0),(23,5)]:=by kernel_rfl
theorem Oo:Tryz.prog.underlying 52=some (.slice 23):=by kernel_rfl
theorem Nr: ∃fs,Tryz.prog.underlying 66=some (.struct fs):=⟨(match Tryz.prog.underlying 66 with|some (.struct fs)=>fs|_=> #[]),by kernel_rfl⟩
theorem zAe:Ck Tryz.prog 66=[(9,0),(23,1),(4,2)]:=by kernel_rfl
theorem Mo:Tryz.prog.underlying 71=some (.slice 66):=by kernel_rfl
theorem Ms: ∃fs,Tryz.prog.underlying 101=some (.struct fs):=⟨(match Tryz.prog.underlying 101 with|some (.struct fs)=>fs|_=> #[]),by kernel_rfl⟩
theorem NU:Ck Tryz.prog 101=[(3,0),(3,1),(4,2)]:=by kernel_rfl
theorem Bp:Tryz.prog.underlying 116=some (.slice 119):=by kernel_rfl
theorem Ls: ∃fs,Tryz.prog.underlying 119=some (.struct fs):=⟨(match Tryz.prog.underlying 119 with|some (.struct fs)=>fs|_=> #[]),by kernel_rfl⟩
theorem MU:Ck Tryz.prog 119=[(3,0),(3,1)]:=by kernel_rfl
theorem yo:Tryz.prog.underlying 122=some (.slice 9):=by kernel_rfl
theorem Js: ∃fs,Tryz.prog.underlying 133=some (.struct fs):=⟨(match Tryz.prog.underlying 133 with|some (.struct fs)=>fs|_=> #[]),by kernel_rfl⟩
theorem LU:Ck Tryz.prog 133=[(9,0),(3,1)]:=by kernel_rfl
theorem wo:Tryz.prog.underlying 174=some (.int .u64):=by kernel_rfl
theorem vo:Tryz.prog.underlying 185=some (.int .u32):=by kernel_rfl
theorem uo:Tryz.prog.underlying 217=some (.int .u64):=by kernel_rfl
theorem ipRd:IpRd Tryz.prog I (fun t=>t∈gd)where
 int:=fun t k hg hu n h1 h2=>by
  simp only[gd,Lb,Me,or_false]at hg;rcases hg with rfl|rfl|rfl|rfl|rfl|rfl|rfl|rfl|rfl|rfl|rfl|rfl|rfl|rfl|rfl|rfl|rfl|rfl|rfl|rfl|rfl|rfl|rfl|rfl
  ·rw[Nn]at hu;cases hu;exact⟨(n:Int),rfl⟩
  ·rw[Kn]at hu;cases hu;exact⟨(n:Int),rfl⟩
  ·rw[gq]at hu;cases hu
  ·rw[Jn]at hu;cases hu;exact⟨UInt8.ofNat n.toNat,zBc h1 h2⟩
  ·rw[fq]at hu;cases hu
  ·rw[Vo]at hu;cases hu;exact⟨(n:Int),rfl⟩
  ·rw[Uo]at hu;cases hu;exact⟨(n:Int),rfl⟩
  ·rw[Ll]at hu;cases hu
  ·rw[Kl]at hu;cases hu
  ·rw[Ro]at hu;cases hu;exact⟨(n:Int),rfl⟩
  ·rw[Po]at hu;cases hu
  ·obtain⟨fs,e⟩:=Ur;rw[e]at hu;cases hu
  ·obtain⟨fs,e⟩:=Sr;rw[e]at hu;cases hu
  ·rw[Oo]at hu;cases hu
  ·obtain⟨fs,e⟩:=Nr;rw[e]at hu;cases hu
  ·rw[Mo]at hu;cases hu
  ·obtain⟨fs,e⟩:=Ms;rw[e]at hu;cases hu
  ·rw[Bp]at hu;cases hu
  ·obtain⟨fs,e⟩:=Ls;rw[e]at hu;cases hu
  ·rw[yo]at hu;cases hu
  ·obtain⟨fs,e⟩:=Js;rw[e]at hu;cases hu
  ·rw[wo]at hu;cases hu;exact⟨(n:Int),rfl⟩
  ·rw[vo]at hu;cases hu;exact⟨(n:Int),rfl⟩
  ·rw[uo]at hu;cases hu;exact⟨(n:Int),rfl⟩
 bool:=fun t hg hu b=>by
  simp only[gd,Lb,Me,or_false]at hg;rcases hg with rfl|rfl|rfl|rfl|rfl|rfl|rfl|rfl|rfl|rfl|rfl|rfl|rfl|rfl|rfl|rfl|rfl|rfl|rfl|rfl|rfl|rfl|rfl|rfl
  ·rw[Nn]at hu;cases hu
  ·rw[Kn]at hu;cases hu
  ·exact⟨(b:Bool),rfl⟩
  ·rw[Jn]at hu;cases hu
  ·rw[fq]at hu;cases hu
  ·rw[Vo]at hu;cases hu
  ·rw[Uo]at hu;cases hu
  ·rw[Ll]at hu;cases hu
  ·rw[Kl]at hu;cases hu
  ·rw[Ro]at hu;cases hu
  ·rw[Po]at hu;cases hu
  ·obtain⟨fs,e⟩:=Ur;rw[e]at hu;cases hu
  ·obtain⟨fs,e⟩:=Sr;rw[e]at hu;cases hu
  ·rw[Oo]at hu;cases hu
  ·obtain⟨fs,e⟩:=Nr;rw[e]at hu;cases hu
  ·rw[Mo]at hu;cases hu
  ·obtain⟨fs,e⟩:=Ms;rw[e]at hu;cases hu
  ·rw[Bp]at hu;cases hu
  ·obtain⟨fs,e⟩:=Ls;rw[e]at hu;cases hu
  ·rw[yo]at hu;cases hu
  ·obtain⟨fs,e⟩:=Js;rw[e]at hu;cases hu
  ·rw[wo]at hu;cases hu
  ·rw[vo]at hu;cases hu
  ·rw[uo]at hu;cases hu
 str:=fun t hg hu l=>by
  simp only[gd,Lb,Me,or_false]at hg;rcases hg with rfl|rfl|rfl|rfl|rfl|rfl|rfl|rfl|rfl|rfl|rfl|rfl|rfl|rfl|rfl|rfl|rfl|rfl|rfl|rfl|rfl|rfl|rfl|rfl
  ·rw[Nn]at hu;cases hu
  ·rw[Kn]at hu;cases hu
  ·rw[gq]at hu;cases hu
  ·rw[Jn]at hu;cases hu
  ·exact⟨(l:Str),rfl⟩
  ·rw[Vo]at hu;cases hu
  ·rw[Uo]at hu;cases hu
  ·rw[Ll]at hu;cases hu
  ·rw[Kl]at hu;cases hu
  ·rw[Ro]at hu;cases hu
  ·rw[Po]at hu;cases hu
  ·obtain⟨fs,e⟩:=Ur;rw[e]at hu;cases hu
  ·obtain⟨fs,e⟩:=Sr;rw[e]at hu;cases hu
  ·rw[Oo]at hu;cases hu
  ·obtain⟨fs,e⟩:=Nr;rw[e]at hu;cases hu
  ·rw[Mo]at hu;cases hu
  ·obtain⟨fs,e⟩:=Ms;rw[e]at hu;cases hu
  ·rw[Bp]at hu;cases hu
  ·obtain⟨fs,e⟩:=Ls;rw[e]at hu;cases hu
  ·rw[yo]at hu;cases hu
  ·obtain⟨fs,e⟩:=Js;rw[e]at hu;cases hu
  ·rw[wo]at hu;cases hu
  ·rw[vo]at hu;cases hu
  ·rw[uo]at hu;cases hu
 sl:=fun t e hg hu=>by
  simp only[gd,Lb,Me,or_false]at hg;rcases hg with rfl|rfl|rfl|rfl|rfl|rfl|rfl|rfl|rfl|rfl|rfl|rfl|rfl|rfl|rfl|rfl|rfl|rfl|rfl|rfl|rfl|rfl|rfl|rfl
  ·rw[Nn]at hu;cases hu
  ·rw[Kn]at hu;cases hu
  ·rw[gq]at hu;cases hu
  ·rw[Jn]at hu;cases hu
  ·rw[fq]at hu;cases hu
  ·rw[Vo]at hu;cases hu
  ·rw[Uo]at hu;cases hu
  ·rw[Ll]at hu;cases hu;exact⟨by simp[gd],Ye (by decide:0<5) (by kernel_rfl:5=Tryz.prog.cellsOf 44),fun l=>⟨(l:List zb),rfl⟩⟩
  ·rw[Kl]at hu;cases hu;exact⟨by simp[gd],Ye (by decide:0<6) (by kernel_rfl:6=Tryz.prog.cellsOf 49),fun l=>⟨(l:List zg),rfl⟩⟩
  ·rw[Ro]at hu;cases hu
  ·rw[Po]at hu;cases hu;exact⟨by simp[gd],Ye (by decide:0<1) (by kernel_rfl:1=Tryz.prog.cellsOf 5),fun l=>⟨(l:List UInt8),rfl⟩⟩
  ·obtain⟨fs,e⟩:=Ur;rw[e]at hu;cases hu
  ·obtain⟨fs,e⟩:=Sr;rw[e]at hu;cases hu
  ·rw[Oo]at hu;cases hu;exact⟨by simp[gd],Ye (by decide:0<1) (by kernel_rfl:1=Tryz.prog.cellsOf 23),fun l=>⟨(l:List (List zg)),rfl⟩⟩
  ·obtain⟨fs,e⟩:=Nr;rw[e]at hu;cases hu
  ·rw[Mo]at hu;cases hu;exact⟨by simp[gd],Ye (by decide:0<3) (by kernel_rfl:3=Tryz.prog.cellsOf 66),fun l=>⟨(l:List zfV),rfl⟩⟩
  ·obtain⟨fs,e⟩:=Ms;rw[e]at hu;cases hu
  ·rw[Bp]at hu;cases hu;exact⟨by simp[gd],Ye (by decide:0<2) (by kernel_rfl:2=Tryz.prog.cellsOf 119),fun l=>⟨(l:List zC),rfl⟩⟩
  ·obtain⟨fs,e⟩:=Ls;rw[e]at hu;cases hu
  ·rw[yo]at hu;cases hu;exact⟨by simp[gd],Ye (by decide:0<1) (by kernel_rfl:1=Tryz.prog.cellsOf 9),fun l=>⟨(l:List Str),rfl⟩⟩
  ·obtain⟨fs,e⟩:=Js;rw[e]at hu;cases hu
  ·rw[wo]at hu;cases hu
  ·rw[vo]at hu;cases hu
  ·rw[uo]at hu;cases hu
 st:=fun t fs hg hu=>by
  simp only[gd,Lb,Me,or_false]at hg;rcases hg with rfl|rfl|rfl|rfl|rfl|rfl|rfl|rfl|rfl|rfl|rfl|rfl|rfl|rfl|rfl|rfl|rfl|rfl|rfl|rfl|rfl|rfl|rfl|rfl
  ·rw[Nn]at hu;cases hu
  ·rw[Kn]at hu;cases hu
  ·rw[gq]at hu;cases hu
  ·rw[Jn]at hu;cases hu
  ·rw[fq]at hu;cases hu
  ·rw[Vo]at hu;cases hu
  ·rw[Uo]at hu;cases hu
  ·rw[Ll]at hu;cases hu
  ·rw[Kl]at hu;cases hu
  ·rw[Ro]at hu;cases hu
  ·rw[Po]at hu;cases hu
  ·refine Pn hu zAc (by simp[gd]) (by kernel_rfl) (by kernel_rfl) (fun pvs h0=> ?_);obtain⟨_,pvs,rfl,⟨y0,rfl⟩,h1⟩:=Z7 h0;obtain⟨_,pvs,rfl,⟨y1,rfl⟩,h2⟩:=Z7 h1;obtain⟨_,pvs,rfl,⟨y2,rfl⟩,h3⟩:=Z7 h2;obtain⟨_,pvs,rfl,⟨y3,rfl⟩,h4⟩:=Z7 h3;obtain⟨_,pvs,rfl,⟨y4,rfl⟩,h5⟩:=Z7 h4;rw[Aq h5];exact⟨(⟨((UInt8.toNat y0:Nat):Int),y1,y2,y3,y4⟩:zb),rfl⟩
  ·refine Pn hu zAd (by simp[gd]) (by kernel_rfl) (by kernel_rfl) (fun pvs h0=> ?_);obtain⟨_,pvs,rfl,⟨y0,rfl⟩,h1⟩:=Z7 h0;obtain⟨_,pvs,rfl,⟨y1,rfl⟩,h2⟩:=Z7 h1;rw[Aq h2];exact⟨(⟨y0,y1⟩:zg),(JP y0 y1).trans rfl⟩
  ·rw[Oo]at hu;cases hu
  ·refine Pn hu zAe (by simp[gd]) (by kernel_rfl) (by kernel_rfl) (fun pvs h0=> ?_);obtain⟨_,pvs,rfl,⟨y0,rfl⟩,h1⟩:=Z7 h0;obtain⟨_,pvs,rfl,⟨y1,rfl⟩,h2⟩:=Z7 h1;obtain⟨_,pvs,rfl,⟨y2,rfl⟩,h3⟩:=Z7 h2;rw[Aq h3];exact⟨(⟨y0,y1,y2⟩:zfV),rfl⟩
  ·rw[Mo]at hu;cases hu
  ·refine Pn hu NU (by simp[gd]) (by kernel_rfl) (by kernel_rfl) (fun pvs h0=> ?_);obtain⟨_,pvs,rfl,⟨y0,rfl⟩,h1⟩:=Z7 h0;obtain⟨_,pvs,rfl,⟨y1,rfl⟩,h2⟩:=Z7 h1;obtain⟨_,pvs,rfl,⟨y2,rfl⟩,h3⟩:=Z7 h2;rw[Aq h3];exact⟨(⟨y0,y1,y2⟩:zR),rfl⟩
  ·rw[Bp]at hu;cases hu
  ·refine Pn hu MU (by simp[gd]) (by kernel_rfl) (by kernel_rfl) (fun pvs h0=> ?_);obtain⟨_,pvs,rfl,⟨y0,rfl⟩,h1⟩:=Z7 h0;obtain⟨_,pvs,rfl,⟨y1,rfl⟩,h2⟩:=Z7 h1;rw[Aq h2];exact⟨(⟨y0,y1⟩:zC),rfl⟩
  ·rw[yo]at hu;cases hu
  ·refine Pn hu LU (by simp[gd]) (by kernel_rfl) (by kernel_rfl) (fun pvs h0=> ?_);obtain⟨_,pvs,rfl,⟨y0,rfl⟩,h1⟩:=Z7 h0;obtain⟨_,pvs,rfl,⟨y1,rfl⟩,h2⟩:=Z7 h1;rw[Aq h2];exact⟨(⟨y0,y1⟩:za),rfl⟩
  ·rw[wo]at hu;cases hu
  ·rw[vo]at hu;cases hu
  ·rw[uo]at hu;cases hu
 only:=fun t u hg hu=>by
  simp only[gd,Lb,Me,or_false]at hg;rcases hg with rfl|rfl|rfl|rfl|rfl|rfl|rfl|rfl|rfl|rfl|rfl|rfl|rfl|rfl|rfl|rfl|rfl|rfl|rfl|rfl|rfl|rfl|rfl|rfl
  ·rw[Nn]at hu;cases hu;exact .inl ⟨_,rfl⟩
  ·rw[Kn]at hu;cases hu;exact .inl ⟨_,rfl⟩
  ·rw[gq]at hu;cases hu;exact .inr (.inl rfl)
  ·rw[Jn]at hu;cases hu;exact .inl ⟨_,rfl⟩
  ·rw[fq]at hu;cases hu;exact .inr (.inr (.inl rfl))
  ·rw[Vo]at hu;cases hu;exact .inl ⟨_,rfl⟩
  ·rw[Uo]at hu;cases hu;exact .inl ⟨_,rfl⟩
  ·rw[Ll]at hu;cases hu;exact .inr (.inr (.inr (.inl ⟨_,rfl⟩)))
  ·rw[Kl]at hu;cases hu;exact .inr (.inr (.inr (.inl ⟨_,rfl⟩)))
  ·rw[Ro]at hu;cases hu;exact .inl ⟨_,rfl⟩
  ·rw[Po]at hu;cases hu;exact .inr (.inr (.inr (.inl ⟨_,rfl⟩)))
  ·obtain⟨fs,e⟩:=Ur;rw[e]at hu;cases hu;exact .inr (.inr (.inr (.inr ⟨_,rfl⟩)))
  ·obtain⟨fs,e⟩:=Sr;rw[e]at hu;cases hu;exact .inr (.inr (.inr (.inr ⟨_,rfl⟩)))
  ·rw[Oo]at hu;cases hu;exact .inr (.inr (.inr (.inl ⟨_,rfl⟩)))
  ·obtain⟨fs,e⟩:=Nr;rw[e]at hu;cases hu;exact .inr (.inr (.inr (.inr ⟨_,rfl⟩)))
  ·rw[Mo]at hu;cases hu;exact .inr (.inr (.inr (.inl ⟨_,rfl⟩)))
  ·obtain⟨fs,e⟩:=Ms;rw[e]at hu;cases hu;exact .inr (.inr (.inr (.inr ⟨_,rfl⟩)))
  ·rw[Bp]at hu;cases hu;exact .inr (.inr (.inr (.inl ⟨_,rfl⟩)))
  ·obtain⟨fs,e⟩:=Ls;rw[e]at hu;cases hu;exact .inr (.inr (.inr (.inr ⟨_,rfl⟩)))
  ·rw[yo]at hu;cases hu;exact .inr (.inr (.inr (.inl ⟨_,rfl⟩)))
  ·obtain⟨fs,e⟩:=Js;rw[e]at hu;cases hu;exact .inr (.inr (.inr (.inr ⟨_,rfl⟩)))
  ·rw[wo]at hu;cases hu;exact .inl ⟨_,rfl⟩
  ·rw[vo]at hu;cases hu;exact .inl ⟨_,rfl⟩
  ·rw[uo]at hu;cases hu;exact .inl ⟨_,rfl⟩
end Go.Lv.VT
