/- Which values may come in. -/
import Derived.Test.YtagibnnojbolnaaGreatDoorIp
import Derived.Test.YtagibnnojbolnaaGreatDoorLf
set_option linter.unusedSimpArgs false
set_option linter.unusedVariables false
namespace Go.Lv.VT
set_option maxRecDepth 100000
open Go.Proofs
def gd:List Nat:=[2,3,4,5,9,22,24,33,35,37,71,77,78,80,81,83,84,86,90,102,106,109,116,118,120,122,125,127]
theorem zOZ:Tryz.prog.underlying 5=some (.int .u8):=by kernel_rfl
theorem DU:Tryz.prog.underlying 9=some (.string):=by kernel_rfl
theorem zNw:bi Tryz.prog 24=[(22,0),(3,1)]:=by kernel_rfl
theorem zNx:bi Tryz.prog 35=[(33,0)]:=by kernel_rfl
theorem zNy:bi Tryz.prog 37=[(3,0),(5,1),(9,2),(35,3)]:=by kernel_rfl
theorem zNz:bi Tryz.prog 80=[(9,0),(71,1),(4,2)]:=by kernel_rfl
theorem zNA:bi Tryz.prog 83=[(5,0),(9,1),(2,2),(80,3),(81,6)]:=by kernel_rfl
theorem zNB:bi Tryz.prog 86=[(5,0),(77,1),(78,2),(83,3),(84,10),(33,11)]:=by kernel_rfl
theorem zLO:bi Tryz.prog 102=[(5,0),(9,1),(2,2),(9,3),(4,4)]:=by kernel_rfl
theorem zLP:bi Tryz.prog 106=[(102,0),(71,5)]:=by kernel_rfl
theorem zLQ:bi Tryz.prog 118=[(5,0),(116,1),(109,2)]:=by kernel_rfl
theorem zLR:bi Tryz.prog 122=[(9,0),(120,1)]:=by kernel_rfl
theorem zLS:bi Tryz.prog 125=[(2,0),(2,1)]:=by kernel_rfl
theorem zLT:bi Tryz.prog 127=[(5,0),(9,1),(5,2),(9,3),(4,4),(125,5),(4,7),(77,8)]:=by kernel_rfl
def kc(t:Nat):TypeDesc->Bool
 | .int k=>memI (t,k) [(2, .i64),(3, .i64),(5, .u8)]
 | .bool=>Nat.beq t 4
 | .string=>memT t [9]
 | .slice e=>memP (t,e) [(22,37),(33,86),(71,106),(77,118),(78,80),(81,83),(84,90),(90,9),(109,5),(116,122),(120,127)]
 | .struct _=>memT t [24,35,37,80,83,86,102,106,118,122,125,127]
 |_=>false
theorem zOI:gd.all (fun t=>match Tryz.prog.underlying t with|some u=>kc t u|none=>true)=true:=by kernel_rfl
theorem kcs{t:Nat}{u:TypeDesc}(hg:t∈gd)(hu:Tryz.prog.underlying t=some u):kc t u=true:=by have:=Pb.1 zOI t hg;rw[hu]at this;exact this
theorem ipRd:IpRd Tryz.prog I (fun t=>t∈gd)where
 int:=fun t k hg hu n h1 h2=>by have hm:=kcs hg hu;obtain hm:=uW hm;simp only[Jb,Pe,or_false,Prod.mk.injEq]at hm;rcases hm with⟨rfl,rfl⟩|⟨rfl,rfl⟩|⟨rfl,rfl⟩<;>first|exact⟨(n:Int),rfl⟩|exact⟨UInt8.ofNat n.toNat,zOu h1 h2⟩
 bool:=fun t hg hu b=>by have hm:=kcs hg hu;obtain rfl:=La hm;exact⟨(b:Bool),rfl⟩
 str:=fun t hg hu l=>by have hm:=kcs hg hu;obtain hm:=AO hm;simp only[Jb,Pe,or_false]at hm;rcases hm with rfl<;>exact⟨(l:Str),rfl⟩
 sl:=fun t e hg hu=>by have hm:=kcs hg hu;obtain hm:=sW hm;simp only[Jb,Pe,or_false,Prod.mk.injEq]at hm;rcases hm with⟨rfl,rfl⟩|⟨rfl,rfl⟩|⟨rfl,rfl⟩|⟨rfl,rfl⟩|⟨rfl,rfl⟩|⟨rfl,rfl⟩|⟨rfl,rfl⟩|⟨rfl,rfl⟩|⟨rfl,rfl⟩|⟨rfl,rfl⟩|⟨rfl,rfl⟩<;>exact⟨by simp[gd],Gc (by kernel_rfl),fun l=>⟨l,rfl⟩⟩
 st:=fun t fs hg hu=>by
  have hm:=kcs hg hu;obtain hm:=AO hm;simp only[Jb,Pe,or_false]at hm;rcases hm with rfl|rfl|rfl|rfl|rfl|rfl|rfl|rfl|rfl|rfl|rfl|rfl
  ·refine Yj hu zNw (by simp[gd]) (by kernel_rfl) (by kernel_rfl) (fun pvs h0=> ?_);obtain⟨_,pvs,rfl,⟨y0,rfl⟩,h1⟩:=Zp h0;obtain⟨_,pvs,rfl,⟨y1,rfl⟩,h2⟩:=Zp h1;rw[Dk h2];exact⟨(⟨y0,y1⟩:ZJ),rfl⟩
  ·refine Yj hu zNx (by simp[gd]) (by kernel_rfl) (by kernel_rfl) (fun pvs h0=> ?_);obtain⟨_,pvs,rfl,⟨y0,rfl⟩,h1⟩:=Zp h0;rw[Dk h1];exact⟨(⟨y0⟩:zbj),rfl⟩
  ·refine Yj hu zNy (by simp[gd]) (by kernel_rfl) (by kernel_rfl) (fun pvs h0=> ?_);obtain⟨_,pvs,rfl,⟨y0,rfl⟩,h1⟩:=Zp h0;obtain⟨_,pvs,rfl,⟨y1,rfl⟩,h2⟩:=Zp h1;obtain⟨_,pvs,rfl,⟨y2,rfl⟩,h3⟩:=Zp h2;obtain⟨_,pvs,rfl,⟨y3,rfl⟩,h4⟩:=Zp h3;rw[Dk h4];exact⟨(⟨y0,((UInt8.toNat y1:Nat):Int),y2,y3⟩:qE),rfl⟩
  ·refine Yj hu zNz (by simp[gd]) (by kernel_rfl) (by kernel_rfl) (fun pvs h0=> ?_);obtain⟨_,pvs,rfl,⟨y0,rfl⟩,h1⟩:=Zp h0;obtain⟨_,pvs,rfl,⟨y1,rfl⟩,h2⟩:=Zp h1;obtain⟨_,pvs,rfl,⟨y2,rfl⟩,h3⟩:=Zp h2;rw[Dk h3];exact⟨(⟨y0,y1,y2⟩:Zu),rfl⟩
  ·refine Yj hu zNA (by simp[gd]) (by kernel_rfl) (by kernel_rfl) (fun pvs h0=> ?_);obtain⟨_,pvs,rfl,⟨y0,rfl⟩,h1⟩:=Zp h0;obtain⟨_,pvs,rfl,⟨y1,rfl⟩,h2⟩:=Zp h1;obtain⟨_,pvs,rfl,⟨y2,rfl⟩,h3⟩:=Zp h2;obtain⟨_,pvs,rfl,⟨y3,rfl⟩,h4⟩:=Zp h3;obtain⟨_,pvs,rfl,⟨y4,rfl⟩,h5⟩:=Zp h4;rw[Dk h5];exact⟨(⟨((UInt8.toNat y0:Nat):Int),y1,y2,y3,y4⟩:zu),(Oz ⟨((UInt8.toNat y0:Nat):Int),y1,y2,y3,y4⟩).trans rfl⟩
  ·refine Yj hu zNB (by simp[gd]) (by kernel_rfl) (by kernel_rfl) (fun pvs h0=> ?_);obtain⟨_,pvs,rfl,⟨y0,rfl⟩,h1⟩:=Zp h0;obtain⟨_,pvs,rfl,⟨y1,rfl⟩,h2⟩:=Zp h1;obtain⟨_,pvs,rfl,⟨y2,rfl⟩,h3⟩:=Zp h2;obtain⟨_,pvs,rfl,⟨y3,rfl⟩,h4⟩:=Zp h3;obtain⟨_,pvs,rfl,⟨y4,rfl⟩,h5⟩:=Zp h4;obtain⟨_,pvs,rfl,⟨y5,rfl⟩,h6⟩:=Zp h5;rw[Dk h6];exact⟨(⟨((UInt8.toNat y0:Nat):Int),y1,y2,y3,y4,y5⟩:zN),(sF ⟨((UInt8.toNat y0:Nat):Int),y1,y2,y3,y4,y5⟩).trans (by
    show [.at (.int .u8 ((UInt8.toNat y0:Nat):Int))]++([.sl (y1.map zf)]++([.sl (y2.map Zv)]++([.at (.int .u8 y3.kind), .str y3.name, .at (.int .i64 y3.num), .str y3.decl.name, .sl (y3.decl.value.map zD), .at (.bool y3.decl.important), .sl (y3.list.map zk)]++([.sl (y4.map (fun y=>[.sl (y.map (fun y=>[.str y]))]))]++([.sl (y5.map zy)]++([]:List PV))))))=_;rw[<-Oz y3];rfl)⟩
  ·refine Yj hu zLO (by simp[gd]) (by kernel_rfl) (by kernel_rfl) (fun pvs h0=> ?_);obtain⟨_,pvs,rfl,⟨y0,rfl⟩,h1⟩:=Zp h0;obtain⟨_,pvs,rfl,⟨y1,rfl⟩,h2⟩:=Zp h1;obtain⟨_,pvs,rfl,⟨y2,rfl⟩,h3⟩:=Zp h2;obtain⟨_,pvs,rfl,⟨y3,rfl⟩,h4⟩:=Zp h3;obtain⟨_,pvs,rfl,⟨y4,rfl⟩,h5⟩:=Zp h4;rw[Dk h5];exact⟨(⟨((UInt8.toNat y0:Nat):Int),y1,y2,y3,y4⟩:zg),rfl⟩
  ·refine Yj hu zLP (by simp[gd]) (by kernel_rfl) (by kernel_rfl) (fun pvs h0=> ?_);obtain⟨_,pvs,rfl,⟨y0,rfl⟩,h1⟩:=Zp h0;obtain⟨_,pvs,rfl,⟨y1,rfl⟩,h2⟩:=Zp h1;rw[Dk h2];exact⟨(⟨y0,y1⟩:zb),(OG ⟨y0,y1⟩).trans rfl⟩
  ·refine Yj hu zLQ (by simp[gd]) (by kernel_rfl) (by kernel_rfl) (fun pvs h0=> ?_);obtain⟨_,pvs,rfl,⟨y0,rfl⟩,h1⟩:=Zp h0;obtain⟨_,pvs,rfl,⟨y1,rfl⟩,h2⟩:=Zp h1;obtain⟨_,pvs,rfl,⟨y2,rfl⟩,h3⟩:=Zp h2;rw[Dk h3];exact⟨(⟨((UInt8.toNat y0:Nat):Int),y1,y2⟩:zm),(KH ⟨((UInt8.toNat y0:Nat):Int),y1,y2⟩).trans rfl⟩
  ·refine Yj hu zLR (by simp[gd]) (by kernel_rfl) (by kernel_rfl) (fun pvs h0=> ?_);obtain⟨_,pvs,rfl,⟨y0,rfl⟩,h1⟩:=Zp h0;obtain⟨_,pvs,rfl,⟨y1,rfl⟩,h2⟩:=Zp h1;rw[Dk h2];exact⟨(⟨y0,y1⟩:zQ),(aH ⟨y0,y1⟩).trans rfl⟩
  ·refine Yj hu zLS (by simp[gd]) (by kernel_rfl) (by kernel_rfl) (fun pvs h0=> ?_);obtain⟨_,pvs,rfl,⟨y0,rfl⟩,h1⟩:=Zp h0;obtain⟨_,pvs,rfl,⟨y1,rfl⟩,h2⟩:=Zp h1;rw[Dk h2];exact⟨(⟨y0,y1⟩:VAnb),rfl⟩
  ·refine Yj hu zLT (by simp[gd]) (by kernel_rfl) (by kernel_rfl) (fun pvs h0=> ?_);obtain⟨_,pvs,rfl,⟨y0,rfl⟩,h1⟩:=Zp h0;obtain⟨_,pvs,rfl,⟨y1,rfl⟩,h2⟩:=Zp h1;obtain⟨_,pvs,rfl,⟨y2,rfl⟩,h3⟩:=Zp h2;obtain⟨_,pvs,rfl,⟨y3,rfl⟩,h4⟩:=Zp h3;obtain⟨_,pvs,rfl,⟨y4,rfl⟩,h5⟩:=Zp h4;obtain⟨_,pvs,rfl,⟨y5,rfl⟩,h6⟩:=Zp h5;obtain⟨_,pvs,rfl,⟨y6,rfl⟩,h7⟩:=Zp h6;obtain⟨_,pvs,rfl,⟨y7,rfl⟩,h8⟩:=Zp h7;rw[Dk h8];exact⟨(⟨((UInt8.toNat y0:Nat):Int),y1,((UInt8.toNat y2:Nat):Int),y3,y4,y5,y6,y7⟩:zJ),(dG ⟨((UInt8.toNat y0:Nat):Int),y1,((UInt8.toNat y2:Nat):Int),y3,y4,y5,y6,y7⟩).trans rfl⟩
 only:=fun t u hg hu=>by have hm:=kcs hg hu;cases u<;>first|cases hm;done|simp
end Go.Lv.VT
