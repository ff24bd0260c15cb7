import Derived.Test.YtiidaccdmolmkaaGreatDoorIp
import Derived.Lib.Walk
import Derived.Lib.Builder
import Derived.Laws.Externs
import Derived.Lib.UnsafeStr
set_option linter.all false
namespace Go.Proofs
open Go.RowKit
set_option maxRecDepth 100000
set_option maxHeartbeats 1000000
def Wr.size:(Tryz.prog.info? 67).map (·.size)=some 2:=by kernel_rfl
def Wr.used(b:Nat)(w:World)(h0:w.cell? ⟨b,0,none⟩=some (.pointer (some ⟨b,0,none⟩))):
  Calls Tryz.prog 61 #[.pointer (some ⟨b,0,none⟩)] w λe w'=>e= .returned (.tuple #[])/\w'=w:=by
 obtain⟨j,hj,_⟩:=Sa.1 Wr.size;go_enter Tryz.func61,Tryz.ntmps61
 go_wp2
 rw[Lib.run_neq_ptr_same w _ Tryz.underlying64 hj]
 go_wp2
 go_end0
 exact⟨rfl,rfl⟩
def Wr.fresh(b W n:Nat)(w:World)(h0:w.cell? ⟨b,0,none⟩=some (.pointer none))(hsh:w.shape? b=some (W,n))(hn:0<n)(hl:liesAt Tryz.prog Tryz.prog.depth W (n / Tryz.prog.cellsOf W) 0 67 1=true)(hfz:w.frozen? ⟨b,0,none⟩=false):
  Calls Tryz.prog 61 #[.pointer (some ⟨b,0,none⟩)] w λe w'=>e= .returned (.tuple #[])/\w'=w.setCell ⟨b,0,none⟩ (.pointer (some ⟨b,0,none⟩)):=by
 obtain⟨j,hj,hjs⟩:=Sa.1 Wr.size;go_enter Tryz.func61,Tryz.ntmps61
 go_wp2
 rw[Lib.run_to_unsafe w ⟨b,0,none⟩ Tryz.underlying64 Tryz.underlying145 hj (by rw[hjs];decide) hsh hn];simp only[Result.andThen];rw[Oper.upon_value]
 go_wp2
 rw[run_callFunc_extern Tryz.func101 (by kernel_rfl) (by kernel_rfl) (by kernel_rfl) (e:=Extern.AbiNoEscape.same) (by kernel_rfl)];rw[Lib.run_noEscape];simp only[Result.andThen];rw[Oper.upon_value]
 go_wp2
 rw[Lib.run_from_unsafe w ⟨b,0,none⟩ Tryz.underlying145 Tryz.underlying64 hj hsh hl];simp only[Result.andThen];rw[Oper.upon_value]
 go_wp2
 go_end0
 exact⟨rfl,rfl⟩
end Go.Proofs

namespace Go.Lv
open Go.Proofs
set_option maxRecDepth 100000
section
variable {I:Ip}
def zCM{w:World}{b:Nat}{cur:Array Value}{t:TypeId}{fr:Nat×Nat}(h:w.heap[b]? =some (.cells cur t fr))(v:Value):(w.setCell ⟨b,0,none⟩ v).heap[b]? =some (.cells (cur.setIfInBounds 0 v) t fr):=by unfold World.setCell;simp[af,h]
def zNU{w:World}{b:Nat}{cur:Array Value}{t:TypeId}{fr:Nat×Nat}(h:w.heap[b]? =some (.cells cur t fr))(v:Value):Chg w (w.setCell ⟨b,0,none⟩ v) b:=by
 refine⟨rfl,rfl,rfl,by simp[World.setCell],λb' hb=> ?_,λs hs=> ?_⟩
 ·unfold World.setCell;simp only[af];rw[Ka (λe=>hb e.symm)]
 ·unfold World.shape? at hs ⊢;rw[h]at hs;rw[zCM h];simpa using hs
def uM {W n:Nat}{rest:List (EV I.C)}(hn:0<n)(hl:liesAt Tryz.prog Tryz.prog.depth W (n / Tryz.prog.cellsOf W) 0 67 1=true){T:Nat->Prop}(hT:T 0){ι:cL}{w:World}{vs:Array Value}(WF:Wf ι w)
  (h0:Sg Tryz.prog ι w 0 (.cells W (.nop 0 W n::rest):EO I.C)) (hv:Jh ι w [(.c (.optr 0 0 0):ET I.C)] vs):
  Calls Tryz.prog 61 vs w λe w'=>e= .returned (.tuple #[])/\fW T ι w ι w'/\Wf ι w'/\Sg Tryz.prog ι w' 0 (.cells W (.nop 0 W n::rest):EO I.C):=by
 obtain⟨sv,hsv,hrep⟩:=hv.2 0 (.c (.optr 0 0 0)) rfl;obtain⟨b,cur,fr,ty2,g1,g2,g3,g4,g5,g6,g7⟩:=h0.row (i:=0) (row:= .nop 0 W n::rest) rfl;have hp:gb (ι 0) 0 0 sv:=hrep.2;rw[g1]at hp;obtain⟨b',e,rfl⟩:=hp;cases e;obtain rfl:vs= #[.pointer (some ⟨b,0,none⟩)]:=by
  have h1:vs.size=1:=hv.1;apply Array.ext
  ·simp[h1]
  ·intro i hi hi';obtain rfl:i=0:=by simp at hi';omega
   have:=(Sb.1 hsv).2;simpa using this
 obtain⟨u0,a0,o0,n1,n2,n3⟩:=g6.2 0 _ 0 (.nop 0 W n) rfl rfl;simp only[Uf,Gd]at a0;have hsh:w.shape? b=some (W,n):=n3 _ _ _ g1;have hcell:w.cell? ⟨b,0,none⟩=some u0:=by unfold World.cell?;rw[g2];simpa using a0
 rcases n1 with rfl|n1
 ·have hfz:w.frozen? ⟨b,0,none⟩=false:=by unfold World.frozen?;rw[g2];have hc:0<cur.size:=(Sb.1 a0).1;rcases g3.1 with h|h<;>simp<;>omega
  refine(Wr.fresh b W n w hcell hsh hn hl hfz).mono ?_;rintro e w' ⟨rfl,rfl⟩;obtain⟨S,W'⟩:=Fv (T:=T) WF g1 hT (zNU g2 (.pointer (some ⟨b,0,none⟩)));refine⟨rfl,S,W',some b,g1,Qf.blk S ?_ (zCM g2 _) (by simpa using g3) (by simpa using g5)⟩;refine⟨g6.1,λi row j x hi hj=> ?_⟩
  match i with
  |i+1=>simp[Zl]at hi
  |0=>
   obtain⟨u,q1,q2⟩:=g6.2 0 row j x hi hj;simp[Zl]at hi;subst hi
   match j with
   |0=>
    simp at hj;subst hj;refine⟨.pointer (some ⟨b,0,none⟩),?_,rfl, .inr ?_,n2,n3⟩
    ·simp[Fh,(Sb.1 a0).1]
    ·rw[g1];exact⟨b,rfl,by simp⟩
   |j+1=> refine⟨u,?_,q2⟩;rw[Fh];simpa using q1
 ·rw[g1]at n1;obtain⟨b2,e2,rfl⟩:=n1;cases e2;refine(Wr.used b w (by simpa using hcell)).mono ?_;rintro e w' ⟨rfl,rfl⟩;exact⟨rfl,fW.same _ ι _,WF,h0⟩
def zGN{W n t:Nat}(hn:0<n)(hl:liesAt Tryz.prog Tryz.prog.depth W (n / Tryz.prog.cellsOf W) 0 67 1=true)(hwf:Ii (⟨61,⟨[.optr 0],[(0, .cells W [.nop 0 W n, .own 1, .bool]),(1, .sl t)]⟩,[1],⟨[],[(0, .cells W [.nop 0 W n, .own 1, .bool])]⟩,0,λx=>some x.1⟩:Con I)=true):ZH Tryz.prog (⟨61,⟨[.optr 0],[(0, .cells W [.nop 0 W n, .own 1, .bool]),(1, .sl t)]⟩,[1],⟨[],[(0, .cells W [.nop 0 W n, .own 1, .bool])]⟩,0,λx=>some x.1⟩:Con I):=
 ⟨hwf,λ_ _ _=>⟨_,Tryz.func61,by kernel_rfl,by kernel_rfl⟩,λx y hxy ι w vs WF hfr hobj hv=>by
  cases hxy;refine(uM (T:=(· ∉ ([1]:List Nat))) (rest:=[.own 1, .bool x.1]) hn hl (by simp) WF (hobj (0, .cells W (.nop 0 W n::[.own 1, .bool x.1])) (Ub ..)) hv).mono ?_;rintro e w' ⟨rfl,S,W',h⟩;exact⟨_,ι,rfl,S,W',⟨#[],rfl,rfl,λj t h=>by cases h⟩,λo ho=>by obtain rfl:=jc.1 ho;exact h,λi hi=>hfr i hi⟩⟩
def zDG{W n t:Nat}(hn:0<n)(hl:liesAt Tryz.prog Tryz.prog.depth W (n / Tryz.prog.cellsOf W) 0 67 1=true)(hwf:Ii (⟨61,⟨[.optr 0],[(0, .cells W [.nop 0 W n, .own 1]),(1, .sl t)]⟩,[1],⟨[],[(0, .cells W [.nop 0 W n, .own 1])]⟩,0,λ_=>some ()⟩:Con I)=true):ZH Tryz.prog (⟨61,⟨[.optr 0],[(0, .cells W [.nop 0 W n, .own 1]),(1, .sl t)]⟩,[1],⟨[],[(0, .cells W [.nop 0 W n, .own 1])]⟩,0,λ_=>some ()⟩:Con I):=
 ⟨hwf,λ_ _ _=>⟨_,Tryz.func61,by kernel_rfl,by kernel_rfl⟩,λx y hxy ι w vs WF hfr hobj hv=>by
  cases hxy;refine(uM (T:=(· ∉ ([1]:List Nat))) (rest:=[.own 1]) hn hl (by simp) WF (hobj (0, .cells W (.nop 0 W n::[.own 1])) (Ub ..)) hv).mono ?_;rintro e w' ⟨rfl,S,W',h⟩;exact⟨_,ι,rfl,S,W',⟨#[],rfl,rfl,λj t h=>by cases h⟩,λo ho=>by obtain rfl:=jc.1 ho;exact h,λi hi=>hfr i hi⟩⟩
def zDF{W n:Nat}(hn:0<n)(hl:liesAt Tryz.prog Tryz.prog.depth W (n / Tryz.prog.cellsOf W) 0 67 1=true)(hwf:Ii (⟨61,⟨[.optr 0],[(0, .cells W [.nop 0 W n, .nilv, .bool])]⟩,[],⟨[],[(0, .cells W [.nop 0 W n, .nilv, .bool])]⟩,0,λx=>some x⟩:Con I)=true):ZH Tryz.prog (⟨61,⟨[.optr 0],[(0, .cells W [.nop 0 W n, .nilv, .bool])]⟩,[],⟨[],[(0, .cells W [.nop 0 W n, .nilv, .bool])]⟩,0,λx=>some x⟩:Con I):=
 ⟨hwf,λ_ _ _=>⟨_,Tryz.func61,by kernel_rfl,by kernel_rfl⟩,λx y hxy ι w vs WF hfr hobj hv=>by
  cases hxy;refine(uM (T:=(· ∉ ([]:List Nat))) (rest:=[.nil, .bool x]) hn hl (by simp) WF (hobj (0, .cells W (.nop 0 W n::[.nil, .bool x])) (Ub ..)) hv).mono ?_;rintro e w' ⟨rfl,S,W',h⟩;exact⟨_,ι,rfl,S,W',⟨#[],rfl,rfl,λj t h=>by cases h⟩,λo ho=>by obtain rfl:=jc.1 ho;exact h,λi hi=>hfr i hi⟩⟩
end
end Go.Lv

namespace Go.Proofs
open Go.RowKit Go.Lv
set_option maxRecDepth 100000
set_option maxHeartbeats 1000000
def Wr.lies{P:Program}{e T m n:Nat}(hT:P.underlying T=some (.array m e))(hc:P.cellsOf e=1)(hs:P.cellsOf T=m)(hn:n<=m)(h0:0<n):liesAt P P.depth T (m / P.cellsOf T) 0 e n=true:=by
 have hd:P.depth=(2*(P.types.size+Made.depth)+1)+1:=rfl;have hm:0<m:=by omega
 rw[hs,Nat.div_self hm,hd];simp only[liesAt,Pb];left;rw[hd];simp[rowAt,hs,hT,hc,hn,sameLayout,Nat.ne_of_gt hm]
def Wr.usr {P:Program}{w:World}{pt it ty e T g cells:Nat}(hp:P.underlying pt=some (.pointer e))(hsh:w.shape? g=some (T,cells)){l:List UInt8}(h0:l≠[])(h63:l.length<=9223372036854775807)
  (hlies:liesAt P P.depth T (cells / P.cellsOf T) 0 e l.length=true) (hcell: ∀j x,l[j]? =some x->w.cell? ((⟨g,0,none⟩:Addr).add j)=some (.int .u8 x.toNat)):
  (Builtin.unsafeString_ #[pt,it] ty #[.pointer (some ⟨g,0,none⟩), .int .i64 l.length]).run P w= .ok (.string ⟨l.toArray⟩) (w.freeze ⟨g,0,none⟩ l.length):=by
 have hl:l.length≠0:=by simpa using h0
 have hlb:=Lib.run_loadBytes (P:=P) w l ⟨g,0,none⟩ .empty hcell;have h63': ¬(9223372036854775807:Int)<(l.length:Int):=by omega
 have hdef:Builtin.unsafeString_ #[pt,it] ty #[.pointer (some ⟨g,0,none⟩), .int .i64 l.length]=
   (do
    let n<-asInt (.int .i64 l.length)
    if n<0 then runtimePanic (.error "unsafe.String: len out of range")
    if n>IntKind.i64.max then unsupported (.unsafePointer "String: a length above the largest int")
    if n=0 then pure (.string .empty)
    else if<-variablesAt ⟨g,0,none⟩ (<-elemOf pt) n.toNat then do
     let s<-loadBytes ⟨g,0,none⟩ .empty n.toNat
     freeze ⟨g,0,none⟩ n.toNat
     pure (.string s)
    else unsupported (.unsafePointer "String: not so many bytes at ptr")):=rfl
 rw[hdef];have hmax:IntKind.i64.max=9223372036854775807:=rfl;have hneg: ¬(l.length:Int)<0:=by omega
 simp[asInt,asIntOf,hmax,h63',hneg,hl,variablesAt,hsh,elemOf,run_underlying hp,hlies,hlb]
def Wr.str (b g cap T cells:Nat)(l:List UInt8)(w:World)(h0:l≠[])(hc0:cap≠0)(h63:l.length<=9223372036854775807)(c1:w.cell? ⟨b,1,none⟩=some (.slice (some ⟨g,0,none⟩) l.length cap))(hsh:w.shape? g=some (T,cells))
  (hl:liesAt Tryz.prog Tryz.prog.depth T (cells / Tryz.prog.cellsOf T) 0 5 l.length=true) (hcell: ∀j x,l[j]? =some x->w.cell? ((⟨g,0,none⟩:Addr).add j)=some (.int .u8 x.toNat)):
  Calls Tryz.prog 28 #[.pointer (some ⟨b,0,none⟩)] w λe w'=>e= .returned (.string ⟨l.toArray⟩)/\w'=w.drew.freeze ⟨g,0,none⟩ l.length:=by
 have hSD:(Builtin.unsafeSliceData_ #[65] 97 #[.slice (some ⟨g,0,none⟩) l.length cap]).run Tryz.prog w.drew= .ok (.pointer (some ⟨g,0,none⟩)) w.drew:=Lib.run_unsafeSliceData_row _ _ _ _ _ _ hc0;have hUS:(Builtin.unsafeString_ #[97,3] 9 #[.pointer (some ⟨g,0,none⟩), .int .i64 l.length]).run Tryz.prog w.drew= .ok (.string ⟨l.toArray⟩) (w.drew.freeze ⟨g,0,none⟩ l.length):=
  Wr.usr (w:=w.drew) Tryz.underlying97 hsh h0 h63 hl hcell
 have c1':w.drew.cell? ⟨b,1,none⟩=some (.slice (some ⟨g,0,none⟩) l.length cap):=c1;go_enter Tryz.func28,Tryz.ntmps28
 go_wp2
 go_region
 all_goals (go_wp2;go_ret;exact⟨rfl,rfl⟩)
end Go.Proofs
namespace Go.Lv
open Go.Proofs
set_option maxRecDepth 100000
section
variable {I:Ip}
def zMH{w:World}{b:Nat}{cur:Array Value}{t:TypeId}{fr:Nat×Nat}(h:w.heap[b]? =some (.cells cur t fr))(n:Nat): ∃fr',(w.drew.freeze ⟨b,0,none⟩ n).heap[b]? =some (.cells cur t fr'):=by
 unfold World.freeze;split
 ·exact⟨fr,h⟩
 ·obtain⟨lo,hi⟩:=fr;refine⟨if lo==hi then(0,0+n)else(min lo 0,max hi (0+n)),?_⟩;simp only[af,He];rw[show w.drew.heap[b]? =_ from h];rfl
def zP8{w:World}{b:Nat}{cur:Array Value}{t:TypeId}{fr:Nat×Nat}(h:w.heap[b]? =some (.cells cur t fr))(n:Nat):Chg w (w.drew.freeze ⟨b,0,none⟩ n) b:=by
 obtain⟨fr',h'⟩:=zMH h n;refine⟨?_,?_,?_,?_,λb' hb=> ?_,λs hs=> ?_⟩
 ·unfold World.freeze;split<;>rfl
 ·unfold World.freeze;split<;>rfl
 ·unfold World.freeze;split<;>rfl
 ·unfold World.freeze;split
  ·rfl
  ·simp only[Array.size_modify];rfl
 ·unfold World.freeze;split
  ·rfl
  ·simp only[af];rw[Ka (λe=>hb e.symm)];rfl
 ·unfold World.shape? at hs ⊢;rw[h]at hs;rw[h'];exact hs
def G8 (hI:cU Tryz.prog I){W n t:Nat}{p}(hp:I.byt t=some p)(hc:Tryz.prog.cellsOf t=1)(ht:t=5){rest:List (EV I.C)}{l:List (I.C t)}(hle:l≠[]){T:Nat->Prop}(hT:T 1){ι:cL}{w:World}{vs:Array Value}(WF:Wf ι w)
  (h0:Sg Tryz.prog ι w 0 (.cells W (.nop 0 W n:: .own 1::rest):EO I.C)) (h1:Sg Tryz.prog ι w 1 (.sl t l:EO I.C)) (hv:Jh ι w [(.c (.optr 0 0 0):ET I.C)] vs):
  Calls Tryz.prog 28 vs w λe w'=>e= .returned (.string ⟨(p.2 l).toArray⟩)/\fW T ι w ι w'/\Wf ι w':=by
  obtain⟨_,hfull,_⟩:=hI.byt t p hp;have hlen:(p.2 l).length=l.length:=by have:=congrArg List.length (hfull l);rw[Xa,Xa]at this;exact this.symm
  obtain⟨sv,hsv,hrep⟩:=hv.2 0 (.c (.optr 0 0 0)) rfl;obtain⟨b,cur,fr,ty2,g1,g2,g3,g4,g5,g6,g7⟩:=h0.row (i:=0) (row:= .nop 0 W n:: .own 1::rest) rfl;have hp0:gb (ι 0) 0 0 sv:=hrep.2;rw[g1]at hp0;obtain⟨b',e,rfl⟩:=hp0;cases e;obtain rfl:vs= #[.pointer (some ⟨b,0,none⟩)]:=by
   have h1:vs.size=1:=hv.1;apply Array.ext
   ·simp[h1]
   ·intro i hi hi';obtain rfl:i=0:=by simp at hi';omega
    have:=(Sb.1 hsv).2;simpa using this
  obtain⟨a0,ha0⟩: ∃a,(Zl (.sl t l:EO I.C))[0]? =some a:=⟨_,Na (by cases l with|nil=>exact absurd rfl hle|cons a r=>simp[Zl])⟩;obtain⟨g,cur1,fr1,ty1,k1,k2,k3,k4,k5,k6,k7⟩:=h1.row ha0;have hkE:kE Tryz.prog (.sl t l:EO I.C)=1:=hc;rw[hkE]at k1 k5 k6;have hrl:(Zl (.sl t l:EO I.C)).length=l.length:=by simp[Zl]
  rw[hrl]at k1 k5;obtain⟨u1,a1,_,n1⟩:=g6.2 0 _ 1 (.own 1) rfl rfl;have n1':li ι w (ι 1) none u1:=n1;rw[k1]at n1';rcases n1' with⟨e,_⟩|⟨b2,c,ty,sz,a,e,rfl,e2,e3,e4,e5,e6⟩
  ·cases e
  cases e;have hl0:0<l.length:=Oe.2 hle;have hc0:c≠0:=by omega
  obtain rfl:a=some ⟨g,0,none⟩:=by
   rcases e2 with e2|e2
   ·exact absurd e2 hc0
   ·simpa using e2
  have hcell:w.cell? ⟨b,1,none⟩=some (.slice (some ⟨g,0,none⟩) (p.2 l).length c):=by unfold World.cell?;rw[g2,hlen];simpa using a1
  have hsh:w.shape? g=some (ty1,cur1.size):=by unfold World.shape?;rw[k2]
  have hlies:liesAt Tryz.prog Tryz.prog.depth ty1 (cur1.size / Tryz.prog.cellsOf ty1) 0 5 (p.2 l).length=true:=by
   rw[hlen];subst ht;rcases k3.2 with rfl|⟨m,m1,m2,m3⟩
   ·exact Lib.liesAt_bytes hc _ _ (by show l.length<=cur1.size / Tryz.prog.cellsOf 5;rw[hc,Nat.div_one];omega)
   ·replace m3:cur1.size=m*Tryz.prog.cellsOf 5:=m3;rw[hc,Jf]at m3;rw[m3];exact Wr.lies (gp m1) hc (by rw[<-m2,m3]) (by omega) hl0
  have hcl: ∀j x,(p.2 l)[j]? =some x->w.cell? ((⟨g,0,none⟩:Addr).add j)=some (.int .u8 x.toNat):=by
   intro j x hj;have e:=congrArg (λz=>z[j]?) (hfull l);simp only[Ta,hj,Ed,Sa]at e;obtain⟨y,hy,ey⟩:=e;have hex:=Um hI t y;rw[hc]at hex;obtain⟨z,hz⟩: ∃z,I.exp t y=[z]:=Ef.1 hex;obtain⟨v,v1,v2,v3⟩:=k6.2 j (I.exp t y) 0 z (by simp[Zl,hy]) (by rw[hz];rfl);obtain⟨q1,q2⟩:=Sm hI (j:=0) (y:=z) (x:=y) (by rw[hz];rfl);rw[ey]at q1;have v4:=(Cj q2).1 v3;rw[<-Option.some.inj q1]at v4;cases v4;have:(⟨g,0,none⟩:Addr).add j=⟨g,j,none⟩:=by simp[Addr.add];exact λe=>e.symm
   rw[this];unfold World.cell?;rw[k2];simpa using v1
  refine(Wr.str b g c ty1 cur1.size (p.2 l) w (by intro e;rw[e]at hlen;simp at hlen;omega) hc0 (by rw[hlen];unfold maxLen at e4;omega) hcell hsh hlies hcl).mono ?_;rintro e w' ⟨rfl,rfl⟩;obtain⟨S,W'⟩:=Fv (T:=T) WF k1 hT (zP8 k2 (p.2 l).length);exact⟨rfl,S,W'⟩
def zIq(hI:cU Tryz.prog I){W n t:Nat}{p}(hp:I.byt t=some p)(hc:Tryz.prog.cellsOf t=1)(ht:t=5)(hwf:Ii (⟨28,⟨[.optr 0],[(0, .cells W [.nop 0 W n, .own 1, .bool]),(1, .sl t)]⟩,[],⟨[.str],[]⟩,0,λx=>bif x.2.isEmpty then none else some (p.2 x.2)⟩:Con I)=true):ZH Tryz.prog (⟨28,⟨[.optr 0],[(0, .cells W [.nop 0 W n, .own 1, .bool]),(1, .sl t)]⟩,[],⟨[.str],[]⟩,0,λx=>bif x.2.isEmpty then none else some (p.2 x.2)⟩:Con I):=
 ⟨hwf,λ_ _ _=>⟨_,Tryz.func28,by kernel_rfl,by kernel_rfl⟩,λx y hxy ι w vs WF hfr hobj hv=>by
  obtain⟨lg,(l:List (I.C t))⟩:=x;have hle:l≠[]:=λe=>by subst e;cases hxy
  have hy:y=p.2 l:=by
   cases l with
   |nil=>exact absurd rfl hle
   |cons a r=>exact(Option.some.inj hxy).symm
  subst hy;refine(G8 (T:=(· ∉ ([]:List Nat))) hI hp hc ht (rest:=[.bool lg]) hle (by simp) WF (hobj (0, .cells W (.nop 0 W n:: .own 1::[.bool lg])) (Ub ..)) (hobj (1, .sl t l) (Vb _ (Ub ..))) hv).mono ?_;rintro e w' ⟨rfl,S,W'⟩;exact⟨_,ι,rfl,S,W',Tv _,λo ho=>(by cases ho),λi hi=>hfr i hi⟩⟩
def zGO(hI:cU Tryz.prog I){W n t:Nat}{p}(hp:I.byt t=some p)(hc:Tryz.prog.cellsOf t=1)(ht:t=5)(hwf:Ii (⟨28,⟨[.optr 0],[(0, .cells W [.nop 0 W n, .own 1]),(1, .sl t)]⟩,[],⟨[.str],[]⟩,0,λx=>bif x.isEmpty then none else some (p.2 x)⟩:Con I)=true):ZH Tryz.prog (⟨28,⟨[.optr 0],[(0, .cells W [.nop 0 W n, .own 1]),(1, .sl t)]⟩,[],⟨[.str],[]⟩,0,λx=>bif x.isEmpty then none else some (p.2 x)⟩:Con I):=
 ⟨hwf,λ_ _ _=>⟨_,Tryz.func28,by kernel_rfl,by kernel_rfl⟩,λx y hxy ι w vs WF hfr hobj hv=>by
  obtain⟨l,rfl⟩: ∃l:List (I.C t),l=x:=⟨x,rfl⟩;have hle:l≠[]:=λe=>by subst e;cases hxy
  have hy:y=p.2 l:=by
   cases l with
   |nil=>exact absurd rfl hle
   |cons a r=>exact(Option.some.inj hxy).symm
  subst hy;refine(G8 (T:=(· ∉ ([]:List Nat))) hI hp hc ht (rest:=[]) hle (by simp) WF (hobj (0, .cells W (.nop 0 W n:: .own 1::[])) (Ub ..)) (hobj (1, .sl t l) (Vb _ (Ub ..))) hv).mono ?_;rintro e w' ⟨rfl,S,W'⟩;exact⟨_,ι,rfl,S,W',Tv _,λo ho=>(by cases ho),λi hi=>hfr i hi⟩⟩
end
end Go.Lv

namespace Go.Lv.VT
open Go.Proofs
set_option maxRecDepth 100000
def zMO:ZH Tryz.prog (⟨61,⟨[.optr 0],[(0, .cells 69 [.nop 0 69 3, .own 1, .bool]),(1, .sl 5)]⟩,[1],⟨[],[(0, .cells 69 [.nop 0 69 3, .own 1, .bool])]⟩,0,oK⟩:Con VT.I):=zGN (by decide) (by kernel_rfl) (by kernel_rfl)
def zQf:ZH Tryz.prog (⟨28,⟨[.optr 0],[(0, .cells 69 [.nop 0 69 3, .own 1, .bool]),(1, .sl 5)]⟩,[],⟨[.str],[]⟩,0,strW⟩:Con VT.I):=zIq ipOK (p:=(id,id)) rfl (by kernel_rfl) rfl (by kernel_rfl)
def zMN:ZH Tryz.prog (⟨61,⟨[.optr 0],[(0, .cells 130 [.nop 0 130 2, .own 1]),(1, .sl 5)]⟩,[1],⟨[],[(0, .cells 130 [.nop 0 130 2, .own 1])]⟩,0,copyV⟩:Con VT.I):=zDG (by decide) (by kernel_rfl) (by kernel_rfl)
def zQe:ZH Tryz.prog (⟨28,⟨[.optr 0],[(0, .cells 130 [.nop 0 130 2, .own 1]),(1, .sl 5)]⟩,[],⟨[.str],[]⟩,0,strV⟩:Con VT.I):=zGO ipOK (p:=(id,id)) rfl (by kernel_rfl) rfl (by kernel_rfl)
def zI3:ZH Tryz.prog (⟨61,⟨[.optr 0],[(0, .cells 69 [.nop 0 69 3, .nilv, .bool])]⟩,[],⟨[],[(0, .cells 69 [.nop 0 69 3, .nilv, .bool])]⟩,0,JR⟩:Con VT.I):=zDF (by decide) (by kernel_rfl) (by kernel_rfl)
end Go.Lv.VT
