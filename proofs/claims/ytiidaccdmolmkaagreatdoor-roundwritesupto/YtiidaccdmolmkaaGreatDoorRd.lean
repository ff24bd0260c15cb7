import Derived.Test.YtiidaccdmolmkaaGreatDoorIp
set_option linter.all false
namespace Go.Lv.VT
set_option maxRecDepth 100000
open Go.Proofs
def gd:List Nat:=[2,4,5,9,22,23,24,26,27,29,30,31,33,35,42,65,98,100,102,104,108,110,116,118]
def zSa:ek Tryz.prog 26=[(9,0),(24,1),(4,2)]:=by kernel_rfl
def zSb:ek Tryz.prog 29=[(5,0),(9,1),(2,2),(26,3),(27,6)]:=by kernel_rfl
def zSc:ek Tryz.prog 33=[(5,0),(22,1),(23,2),(29,3),(30,10),(31,11)]:=by kernel_rfl
def zSd:ek Tryz.prog 35=[(31,0)]:=by kernel_rfl
def zP0:ek Tryz.prog 100=[(5,0),(98,1),(65,2)]:=by kernel_rfl
def zP1:ek Tryz.prog 104=[(9,0),(102,1)]:=by kernel_rfl
def zP2:ek Tryz.prog 108=[(2,0),(2,1)]:=by kernel_rfl
def zP3:ek Tryz.prog 110=[(5,0),(9,1),(5,2),(9,3),(4,4),(108,5),(4,7),(22,8)]:=by kernel_rfl
def zP4:ek Tryz.prog 116=[(5,0),(9,1),(2,2),(9,3),(4,4)]:=by kernel_rfl
def zP5:ek Tryz.prog 118=[(116,0),(24,5)]:=by kernel_rfl
def kc(t:Nat):TypeDesc->Bool
 | .int k=>memI (t,k) [(2, .i64),(5, .u8)]
 | .bool=>Nat.beq t 4
 | .string=>memT t [9]
 | .slice e=>memP (t,e) [(22,100),(23,26),(24,118),(27,29),(30,42),(31,33),(42,9),(65,5),(98,104),(102,110)]
 | .struct _=>memT t [26,29,33,35,100,104,108,110,116,118]
 |_=>false
def zTs:gd.all (λt=>match Tryz.prog.underlying t with|some u=>kc t u|none=>true)=true:=by kernel_rfl
def kcs{t:Nat}{u:TypeDesc}(a:t∈gd)(hu:Tryz.prog.underlying t=some u):kc t u=true:=by have:=Ya.1 zTs t a;rw[hu]at this;exact this
def ipRd:IpRd Tryz.prog I (λt=>t∈gd)where
 int:=λt k i hu n h1 h2=>by have hm:=kcs i hu;obtain hm:=O5 hm;simp only[ib,Tf,or_false,Prod.mk.injEq]at hm;rcases hm with⟨rfl,rfl⟩|⟨rfl,rfl⟩<;>first|exact⟨(n:Int),rfl⟩|exact⟨UInt8.ofNat n.toNat,zTk h1 h2⟩
 bool:=λt i hu b=>by have hm:=kcs i hu;obtain rfl:=ma hm;exact⟨(b:Bool),rfl⟩
 str:=λt i hu l=>by have hm:=kcs i hu;obtain hm:=NT hm;simp only[ib,Tf,or_false]at hm;rcases hm with rfl<;>exact⟨(l:aE),rfl⟩
 sl:=λt e i hu=>by have hm:=kcs i hu;obtain hm:=M5 hm;simp only[ib,Tf,or_false,Prod.mk.injEq]at hm;rcases hm with⟨rfl,rfl⟩|⟨rfl,rfl⟩|⟨rfl,rfl⟩|⟨rfl,rfl⟩|⟨rfl,rfl⟩|⟨rfl,rfl⟩|⟨rfl,rfl⟩|⟨rfl,rfl⟩|⟨rfl,rfl⟩|⟨rfl,rfl⟩<;>exact⟨by simp[gd],Kc (by kernel_rfl),λl=>⟨l,rfl⟩⟩
 st:=λt fs i hu=>by
  have hm:=kcs i hu;obtain hm:=NT hm;simp only[ib,Tf,or_false]at hm;rcases hm with rfl|rfl|rfl|rfl|rfl|rfl|rfl|rfl|rfl|rfl
  ·refine Lm hu zSa (by simp[gd]) (by kernel_rfl) (by kernel_rfl) (λpvs h0=> ?_);obtain⟨_,pvs,rfl,⟨a,rfl⟩,h1⟩:=Zp h0;obtain⟨_,pvs,rfl,⟨c,rfl⟩,h2⟩:=Zp h1;obtain⟨_,pvs,rfl,⟨f,rfl⟩,h3⟩:=Zp h2;rw[Xm h3];exact⟨(⟨a,c,f⟩:Zv),rfl⟩
  ·refine Lm hu zSb (by simp[gd]) (by kernel_rfl) (by kernel_rfl) (λpvs h0=> ?_);obtain⟨_,pvs,rfl,⟨a,rfl⟩,h1⟩:=Zp h0;obtain⟨_,pvs,rfl,⟨c,rfl⟩,h2⟩:=Zp h1;obtain⟨_,pvs,rfl,⟨f,rfl⟩,h3⟩:=Zp h2;obtain⟨_,pvs,rfl,⟨d,rfl⟩,h4⟩:=Zp h3;obtain⟨_,pvs,rfl,⟨j,rfl⟩,m⟩:=Zp h4;rw[Xm m];exact⟨(⟨((UInt8.toNat a:Nat):Int),c,f,d,j⟩:zh),(UB ⟨((UInt8.toNat a:Nat):Int),c,f,d,j⟩).trans rfl⟩
  ·refine Lm hu zSc (by simp[gd]) (by kernel_rfl) (by kernel_rfl) (λpvs h0=> ?_);obtain⟨_,pvs,rfl,⟨a,rfl⟩,h1⟩:=Zp h0;obtain⟨_,pvs,rfl,⟨c,rfl⟩,h2⟩:=Zp h1;obtain⟨_,pvs,rfl,⟨f,rfl⟩,h3⟩:=Zp h2;obtain⟨_,pvs,rfl,⟨d,rfl⟩,h4⟩:=Zp h3;obtain⟨_,pvs,rfl,⟨j,rfl⟩,m⟩:=Zp h4;obtain⟨_,pvs,rfl,⟨o,rfl⟩,p⟩:=Zp m;rw[Xm p];exact⟨(⟨((UInt8.toNat a:Nat):Int),c,f,d,j,o⟩:zP),(TB ⟨((UInt8.toNat a:Nat):Int),c,f,d,j,o⟩).trans (by
    show [.at (.int .u8 ((UInt8.toNat a:Nat):Int))]++([.sl (c.map zk)]++([.sl (f.map Z0)]++([.at (.int .u8 d.u), .str d.q, .at (.int .i64 d.kg), .str d.decl.q, .sl (d.decl.i.map qc), .at (.bool d.decl.lb), .sl (d.w.map zC)]++([.sl (j.map (λy=>[.sl (y.map (λy=>[.str y]))]))]++([.sl (o.map zu)]++([]:List PV))))))=_;rw[<-UB d];rfl)⟩
  ·refine Lm hu zSd (by simp[gd]) (by kernel_rfl) (by kernel_rfl) (λpvs h0=> ?_);obtain⟨_,pvs,rfl,⟨a,rfl⟩,h1⟩:=Zp h0;rw[Xm h1];exact⟨(⟨a⟩:lj),rfl⟩
  ·refine Lm hu zP0 (by simp[gd]) (by kernel_rfl) (by kernel_rfl) (λpvs h0=> ?_);obtain⟨_,pvs,rfl,⟨a,rfl⟩,h1⟩:=Zp h0;obtain⟨_,pvs,rfl,⟨c,rfl⟩,h2⟩:=Zp h1;obtain⟨_,pvs,rfl,⟨f,rfl⟩,h3⟩:=Zp h2;rw[Xm h3];exact⟨(⟨((UInt8.toNat a:Nat):Int),c,f⟩:zm),(jB ⟨((UInt8.toNat a:Nat):Int),c,f⟩).trans rfl⟩
  ·refine Lm hu zP1 (by simp[gd]) (by kernel_rfl) (by kernel_rfl) (λpvs h0=> ?_);obtain⟨_,pvs,rfl,⟨a,rfl⟩,h1⟩:=Zp h0;obtain⟨_,pvs,rfl,⟨c,rfl⟩,h2⟩:=Zp h1;rw[Xm h2];exact⟨(⟨a,c⟩:zU),(EC ⟨a,c⟩).trans rfl⟩
  ·refine Lm hu zP2 (by simp[gd]) (by kernel_rfl) (by kernel_rfl) (λpvs h0=> ?_);obtain⟨_,pvs,rfl,⟨a,rfl⟩,h1⟩:=Zp h0;obtain⟨_,pvs,rfl,⟨c,rfl⟩,h2⟩:=Zp h1;rw[Xm h2];exact⟨(⟨a,c⟩:fj),rfl⟩
  ·refine Lm hu zP3 (by simp[gd]) (by kernel_rfl) (by kernel_rfl) (λpvs h0=> ?_);obtain⟨_,pvs,rfl,⟨a,rfl⟩,h1⟩:=Zp h0;obtain⟨_,pvs,rfl,⟨c,rfl⟩,h2⟩:=Zp h1;obtain⟨_,pvs,rfl,⟨f,rfl⟩,h3⟩:=Zp h2;obtain⟨_,pvs,rfl,⟨d,rfl⟩,h4⟩:=Zp h3;obtain⟨_,pvs,rfl,⟨j,rfl⟩,m⟩:=Zp h4;obtain⟨_,pvs,rfl,⟨o,rfl⟩,p⟩:=Zp m;obtain⟨_,pvs,rfl,⟨r,rfl⟩,v⟩:=Zp p;obtain⟨_,pvs,rfl,⟨s,rfl⟩,x⟩:=Zp v;rw[Xm x];exact⟨(⟨((UInt8.toNat a:Nat):Int),c,((UInt8.toNat f:Nat):Int),d,j,o,r,s⟩:zH),(vB ⟨((UInt8.toNat a:Nat):Int),c,((UInt8.toNat f:Nat):Int),d,j,o,r,s⟩).trans rfl⟩
  ·refine Lm hu zP4 (by simp[gd]) (by kernel_rfl) (by kernel_rfl) (λpvs h0=> ?_);obtain⟨_,pvs,rfl,⟨a,rfl⟩,h1⟩:=Zp h0;obtain⟨_,pvs,rfl,⟨c,rfl⟩,h2⟩:=Zp h1;obtain⟨_,pvs,rfl,⟨f,rfl⟩,h3⟩:=Zp h2;obtain⟨_,pvs,rfl,⟨d,rfl⟩,h4⟩:=Zp h3;obtain⟨_,pvs,rfl,⟨j,rfl⟩,m⟩:=Zp h4;rw[Xm m];exact⟨(⟨((UInt8.toNat a:Nat):Int),c,f,d,j⟩:ze),rfl⟩
  ·refine Lm hu zP5 (by simp[gd]) (by kernel_rfl) (by kernel_rfl) (λpvs h0=> ?_);obtain⟨_,pvs,rfl,⟨a,rfl⟩,h1⟩:=Zp h0;obtain⟨_,pvs,rfl,⟨c,rfl⟩,h2⟩:=Zp h1;rw[Xm h2];exact⟨(⟨a,c⟩:zo),(EJ ⟨a,c⟩).trans rfl⟩
 only:=λt u i hu=>by have hm:=kcs i hu;cases u<;>first|cases hm;done|simp
end Go.Lv.VT
