/- Contracts. -/
import Derived.Test.YtanfjibdgcalfaaGreatDoorCoa
set_option linter.unusedSimpArgs false
set_option linter.unusedVariables false
namespace Go.Lv.VT
set_option maxRecDepth 100000
open Go.Proofs
theorem bV(fu:Nat):zg Tryz.prog (Q0 (qL fu)):=
 okC (A:=⟨[CK (Qz fu)],[],[],0,[],[],[],some fu⟩) (exS:=⟨[.bool],[]⟩) Tryz.f80 (memC (IV fu) zw) (by kernel_rfl) (by kernel_rfl) fun x=>by kernel_rfl
theorem bR(fu:Nat):zg Tryz.prog (oH (Xy fu)):=
 okC (A:=⟨[Q0 (qL fu)],[],[],0,[],[],[],some fu⟩) (exS:=⟨[.bool],[]⟩) Tryz.f43 (memC (bV fu) zw) (by kernel_rfl) (by kernel_rfl) fun x=>by kernel_rfl
theorem jQ(fu:Nat):zg Tryz.prog (KH (Px fu)):=
 okC (A:=⟨[oH (Xy fu)],[],[],0,[],[],[],some fu⟩) (exS:=⟨[.bool],[]⟩) Tryz.f42 (memC (bR fu) zw) (by kernel_rfl) (by kernel_rfl) fun x=>by kernel_rfl
theorem JV(fu:Nat):zg Tryz.prog (DK (Qy fu)):=
 okC (A:=⟨[KH (Px fu)],[],[],0,[(2,⟨[8],⟨[.int .i64],[]⟩,[0,1,7],[],[],0,[],⟨[],[]⟩,[]⟩)],[],[],some fu⟩) (exS:=⟨[.int .i64],[]⟩) Tryz.f79 (memC (jQ fu) zw) (by kernel_rfl) (by kernel_rfl) fun x=>by kernel_rfl
theorem dV(fu:Nat):zg Tryz.prog (QZ (qK fu)):=
 okC (A:=⟨[DK (Qy fu)],[],[],0,[],[],[],some fu⟩) (exS:=⟨[.bool],[]⟩) Tryz.f41 (memC (JV fu) zw) (by kernel_rfl) (by kernel_rfl) fun x=>by kernel_rfl
theorem CS(fu:Nat)(qh:List zu->Option Int)(hs:zg Tryz.prog (wm qh)):zg Tryz.prog (wm (gz fu qh)):=
 okC (A:=⟨[wm qh],[],[],0,[(3,⟨[3,14],⟨[.int .i64, .int .i64],[]⟩,[2,12,13],[],[],0,[3],⟨[.int .i64],[]⟩,[]⟩),(6,⟨[3,21],⟨[.int .i64, .int .i64],[]⟩,[14,19,20],[],[],2,[3],⟨[.int .i64],[]⟩,[]⟩),(9,⟨[3,28],⟨[.int .i64, .int .i64],[]⟩,[21,26,27],[],[],4,[3],⟨[.int .i64],[]⟩,[]⟩)],[(15,⟨[3,28],⟨[.int .i64, .int .i64],[]⟩,[],[],[],0,[],⟨[],[]⟩,[]⟩)],[],some fu⟩) (exS:=⟨[.int .i64],[]⟩) Tryz.f44 (memC hs zw) (by kernel_rfl) (by kernel_rfl) fun x=>by kernel_rfl
theorem wR(fu:Nat):zg Tryz.prog (wm (qh fu)):=
 zg.iter (I:=I) (P:=Tryz.prog) (f:=44) (inS:=⟨[.sl 68],[]⟩) (cst:=[]) (outS:=⟨[.int .i64],[]⟩) (k:=0) (gz fu) (by kernel_rfl) (fun S h=>CS fu S h) fu
theorem NS(fu:Nat):zg Tryz.prog (PI (Wz fu)):=
 okC (A:=⟨[Hz (Ym fu (zf fu))],[],[],0,[],[],[],some fu⟩) (exS:=⟨[.bool],[]⟩) Tryz.f84 (memC (eH fu (zf fu) (YI fu)) zw) (by kernel_rfl) (by kernel_rfl) fun x=>by kernel_rfl
theorem TV(fu:Nat):zg Tryz.prog (IK (Qd fu)):=
 okC (A:=⟨[PI (Wz fu)],[],[],0,[(2,⟨[8],⟨[.int .i64],[]⟩,[0,1,7],[],[],0,[],⟨[],[]⟩,[]⟩)],[],[],some fu⟩) (exS:=⟨[.int .i64],[]⟩) Tryz.f146 (memC (NS fu) zw) (by kernel_rfl) (by kernel_rfl) fun x=>by kernel_rfl
theorem aV(fu:Nat):zg Tryz.prog (QK (qB fu)):=
 okC (A:=⟨[IK (Qd fu)],[],[],0,[],[],[],some fu⟩) (exS:=⟨[.bool],[]⟩) Tryz.f83 (memC (TV fu) zw) (by kernel_rfl) (by kernel_rfl) fun x=>by kernel_rfl
theorem jH(fu:Nat):zg Tryz.prog (Kz (Om fu)):=
 okC (A:=⟨[QK (qB fu),QJ (Z5 fu)],[],[],0,[],[],[],some fu⟩) (exS:=⟨[.int .i64],[]⟩) Tryz.f45 (memC (aV fu) (memC (iH fu) zw)) (by kernel_rfl) (by kernel_rfl) fun x=>by kernel_rfl
theorem CR(fu:Nat):zg Tryz.prog (SG (ol fu)):=
 okC (A:=⟨[],[],[],0,[],[],[],some fu⟩) (exS:=⟨[.bool],[]⟩) Tryz.f46 zw (by kernel_rfl) (by kernel_rfl) fun x=>by kernel_rfl
theorem wQ(fu:Nat)(Kg:zq->Option Int)(hs:zg Tryz.prog (Vm Kg)):zg Tryz.prog (Vm (Yy fu Kg)):=
 okC (A:=⟨[Vm Kg],[],[],0,[(5,⟨[3,17],⟨[.int .i64, .int .i64],[]⟩,[15,16],[],[],0,[3],⟨[.int .i64],[]⟩,[]⟩)],[(4,⟨[3],⟨[.int .i64],[]⟩,[1],[0],[],0,[],⟨[],[]⟩,[]⟩)],[],some fu⟩) (exS:=⟨[.int .i64],[]⟩) Tryz.f49 (memC hs zw) (by kernel_rfl) (by kernel_rfl) fun x=>by kernel_rfl
theorem DR(fu:Nat):zg Tryz.prog (Vm (Kg fu)):=
 zg.iter (I:=I) (P:=Tryz.prog) (f:=49) (inS:=⟨[.val 36],[]⟩) (cst:=[]) (outS:=⟨[.int .i64],[]⟩) (k:=0) (Yy fu) (by kernel_rfl) (fun S h=>wQ fu S h) fu
theorem XQ(fu:Nat):zg Tryz.prog (wF (Bq fu)):=
 okC (A:=⟨[Vl (Gf fu),Ey (jl fu),Dy (Yl fu)],[],[],0,[(4,⟨[23],⟨[.int .i64],[]⟩,[21,22],[],[],0,[],⟨[],[]⟩,[]⟩)],[(17,⟨[57],⟨[.bool],[]⟩,[4,23],[1],[],0,[],⟨[],[]⟩,[]⟩),(19,⟨[23],⟨[.int .i64],[]⟩,[],[],[],0,[],⟨[],[]⟩,[]⟩)],[],some fu⟩) (exS:=⟨[.bool],[]⟩) Tryz.f156 (memC (Oq fu) (memC (FH fu) (memC (EH fu) zw))) (by kernel_rfl) (by kernel_rfl) fun x=>by kernel_rfl
theorem YQ(fu:Nat):zg Tryz.prog (yF (vv fu)):=
 okC (A:=⟨[],[],[],0,[],[],[],some fu⟩) (exS:=⟨[.bool],[]⟩) Tryz.f157 zw (by kernel_rfl) (by kernel_rfl) fun x=>by kernel_rfl
theorem FQ(fu:Nat):zg Tryz.prog (eF (Jv fu)):=
 okC (A:=⟨[Vl (Gf fu),wF (Bq fu),yF (vv fu)],[],[],0,[],[],[],some fu⟩) (exS:=⟨[.bool],[]⟩) Tryz.f100 (memC (Oq fu) (memC (XQ fu) (memC (YQ fu) zw))) (by kernel_rfl) (by kernel_rfl) fun x=>by kernel_rfl
theorem YT(fu:Nat):zg Tryz.prog (XI (yz fu)):=
 okC (A:=⟨[eF (Jv fu)],[],[],0,[],[],[],some fu⟩) (exS:=⟨[.bool],[]⟩) Tryz.f99 (memC (FQ fu) zw) (by kernel_rfl) (by kernel_rfl) fun x=>by kernel_rfl
theorem aU(fu:Nat):zg Tryz.prog (RJ (UB fu)):=
 okC (A:=⟨[XI (yz fu)],[],[],0,[(2,⟨[8],⟨[.int .i64],[]⟩,[0,1,7],[],[],0,[],⟨[],[]⟩,[]⟩)],[],[],some fu⟩) (exS:=⟨[.int .i64],[]⟩) Tryz.f155 (memC (YT fu) zw) (by kernel_rfl) (by kernel_rfl) fun x=>by kernel_rfl
theorem SV(fu:Nat):zg Tryz.prog (jJ (QR fu)):=
 okC (A:=⟨[RJ (UB fu)],[],[],0,[],[],[],some fu⟩) (exS:=⟨[.bool],[]⟩) Tryz.f98 (memC (aU fu) zw) (by kernel_rfl) (by kernel_rfl) fun x=>by kernel_rfl
theorem vz(fu:Nat):zg Tryz.prog (rq (qO fu)):=
 okC (A:=⟨[jJ (QR fu),Vl (Gf fu)],[],[],0,[],[],[],some fu⟩) (exS:=⟨[.int .i64],[]⟩) Tryz.f50 (memC (SV fu) (memC (Oq fu) zw)) (by kernel_rfl) (by kernel_rfl) fun x=>by kernel_rfl
theorem kP(fu:Nat)(Hg:zq->Option Int)(hs:zg Tryz.prog (Dm Hg)):zg Tryz.prog (Dm (Mx fu Hg)):=
 okC (A:=⟨[Rq (Wh fu),Dm Hg],[],[],0,[(9,⟨[5,27],⟨[.int .i64, .int .i64],[]⟩,[2,25,26],[],[],1,[5],⟨[.int .i64],[]⟩,[]⟩)],[(14,⟨[5,8],⟨[.int .i64, .int .i64],[]⟩,[27],[],[],0,[],⟨[],[]⟩,[]⟩)],[],some fu⟩) (exS:=⟨[.int .i64],[]⟩) Tryz.f51 (memC (Gy fu) (memC hs zw)) (by kernel_rfl) (by kernel_rfl) fun x=>by kernel_rfl
theorem uP(fu:Nat):zg Tryz.prog (Dm (Hg fu)):=
 zg.iter (I:=I) (P:=Tryz.prog) (f:=51) (inS:=⟨[.val 36],[]⟩) (cst:=[]) (outS:=⟨[.int .i64],[]⟩) (k:=0) (Mx fu) (by kernel_rfl) (fun S h=>kP fu S h) fu
theorem mP(fu:Nat)(Ig:List zD->Option zK)(hs:zg Tryz.prog (Em Ig)):zg Tryz.prog (Em (Ox fu Ig)):=
 okC (A:=⟨[Em Ig,QZ (qK fu),wm (qh fu),Kz (Om fu),SG (ol fu),Rq (Wh fu),Gm (Jg fu),Vm (Kg fu),rq (qO fu),Dm (Hg fu),QC (ZY fu)],[],[],0,[(3,⟨[18],⟨[.int .i64],[(1, .row 77)]⟩,[2,3,16,17],[0],[1],0,[],⟨[],[(1, .row 77)]⟩,[1]⟩),(17,⟨[10,87],⟨[.bool, .int .i64],[(3, .row 77)]⟩,[6,7,18,85,86],[1],[3],3,[10],⟨[.bool],[(3, .row 77)]⟩,[3]⟩)],[(35,⟨[7,10],⟨[.int .i64, .bool],[(1, .row 77),(3, .row 77)]⟩,[6,18],[],[1,3],0,[],⟨[],[]⟩,[]⟩)],[],some fu⟩) (exS:=⟨[.optr 0],[(0, .row 77)]⟩) Tryz.f26 (memC hs (memC (dV fu) (memC (wR fu) (memC (jH fu) (memC (CR fu) (memC (Gy fu) (memC (Vq fu) (memC (DR fu) (memC (vz fu) (memC (uP fu) (memC (LB fu) zw))))))))))) (by kernel_rfl) (by kernel_rfl) fun x=>by kernel_rfl
theorem wP(fu:Nat):zg Tryz.prog (Em (Ig fu)):=
 zg.iter (I:=I) (P:=Tryz.prog) (f:=26) (inS:=⟨[.sl 39],[]⟩) (cst:=[]) (outS:=⟨[.val 77],[]⟩) (k:=0) (Ox fu) (by kernel_rfl) (fun S h=>mP fu S h) fu
theorem rG(fu:Nat):zg Tryz.prog (Ry (ul fu)):=
 okC (A:=⟨[Em (Ig fu)],[],[],0,[],[],[],some fu⟩) (exS:=⟨[.int .i64],[]⟩) Tryz.f27 (memC (wP fu) zw) (by kernel_rfl) (by kernel_rfl) fun x=>by kernel_rfl
theorem wy(fu:Nat):zg Tryz.prog (Yq (ng fu)):=
 okC (A:=⟨[Ry (ul fu)],[],[],0,[],[],[],some fu⟩) (exS:=⟨[.int .i64],[]⟩) Tryz.f10 (memC (rG fu) zw) (by kernel_rfl) (by kernel_rfl) fun x=>by kernel_rfl
theorem Zw(fu:Nat):zg Tryz.prog (Zq (zx fu)):=
 okC (A:=⟨[Ut copyV],[],[],2,[],[],[],some fu⟩) (exS:=⟨[.int .i64, .nili],[(0, .cells 218 [.nop 0 218 2, .own 2]),(2, .sl 5)]⟩) Tryz.f67 (memC lD zw) (by kernel_rfl) (by kernel_rfl) fun x=>by kernel_rfl
theorem qI(fu:Nat):zg Tryz.prog (ZX (zW fu)):=
 okC (A:=⟨[Ut copyV],[(2,[6])],[],2,[],[],[],some fu⟩) (exS:=⟨[.nili],[(0, .cells 218 [.nop 0 218 2, .own 2]),(2, .sl 5)]⟩) Tryz.f225 (memC lD zw) (by kernel_rfl) (by kernel_rfl) fun x=>by kernel_rfl
theorem Iy(fu:Nat):zg Tryz.prog (Tq (qc fu)):=
 okC (A:=⟨[Zm (strings_HasPrefix fu)],[],[],0,[],[],[],some fu⟩) (exS:=⟨[.int .i64],[]⟩) Tryz.f233 (memC (Zo fu) zw) (by kernel_rfl) (by kernel_rfl) fun x=>by kernel_rfl
theorem tq(fu:Nat):zg Tryz.prog (Bn (ZC fu)):=
 okC (A:=⟨[Ej (QO fu),Wy (Wl fu),yE vo],[(2,[2]),(3,[1]),(5,[1])],[],1,[],[],[],some fu⟩) (exS:=⟨[.own 1],[(1, .sl 5)]⟩) Tryz.f276 (memC (Pm fu) (memC (yG fu) (memC PP zw))) (by kernel_rfl) (by kernel_rfl) fun x=>by kernel_rfl
theorem xG(fu:Nat):zg Tryz.prog (Vy (mi fu)):=
 okC (A:=⟨[Sq (Ph fu),Ej (QO fu),Bn (ZC fu)],[(6,[2])],[],0,[(2,⟨[0,11],⟨[.own 2160, .int .i64],[(2160, .sl 5)]⟩,[1,2,6,10],[],[],0,[0],⟨[.own 2160],[(2160, .sl 5)]⟩,[2160]⟩)],[(8,⟨[0,11],⟨[.own 2262, .int .i64],[(2262, .sl 5)]⟩,[],[],[],0,[],⟨[],[]⟩,[]⟩)],[],some fu⟩) (exS:=⟨[.own 0],[(0, .sl 5)]⟩) Tryz.f232 (memC (Hy fu) (memC (Pm fu) (memC (tq fu) zw))) (by kernel_rfl) (by kernel_rfl) fun x=>by kernel_rfl
theorem wG(fu:Nat):zg Tryz.prog (Uy (qd fu)):=
 okC (A:=⟨[Sq (Ph fu),Ej (QO fu),Bn (ZC fu)],[(6,[2])],[],1,[(2,⟨[0,11],⟨[.own 2264, .int .i64],[(2264, .sl 5)]⟩,[1,2,6,10],[],[],0,[0],⟨[.own 2264],[(2264, .sl 5)]⟩,[2264]⟩)],[(8,⟨[0,11],⟨[.own 2366, .int .i64],[(2366, .sl 5)]⟩,[],[],[],0,[],⟨[],[]⟩,[]⟩)],[],some fu⟩) (exS:=⟨[.own 1],[(1, .sl 5)]⟩) Tryz.f232 (memC (Hy fu) (memC (Pm fu) (memC (tq fu) zw))) (by kernel_rfl) (by kernel_rfl) fun x=>by kernel_rfl
theorem mR(fu:Nat):zg Tryz.prog (uH (Sm fu)):=
 okC (A:=⟨[Cw Ui,Gp yf,Vu Vg],[(2,[1]),(6,[1])],[],0,[],[(3,⟨[0,1],⟨[.own 2575, .int .i64],[(2575, .sl 5)]⟩,[2],[],[],0,[],⟨[],[]⟩,[]⟩),(9,⟨[0],⟨[.own 2678],[(2678, .sl 5)]⟩,[],[],[],0,[],⟨[],[]⟩,[]⟩)],[],some fu⟩) (exS:=⟨[.own 0],[(0, .sl 5)]⟩) Tryz.f333 (memC gF (memC Uv (memC uD zw))) (by kernel_rfl) (by kernel_rfl) fun x=>by kernel_rfl
theorem jG(fu:Nat):zg Tryz.prog (ax (Ol fu)):=
 okC (A:=⟨[],[],[],0,[],[],[],some fu⟩) (exS:=⟨[.optr 0],[(0, .row 372)]⟩) Tryz.f334 zw (by kernel_rfl) (by kernel_rfl) fun x=>by kernel_rfl
theorem MR(fu:Nat):zg Tryz.prog (aG (Sw fu)):=
 okC (A:=⟨[Tq (qc fu),Vy (mi fu),Uy (qd fu),Zn (strings_IndexByte fu),Bn (ZC fu),uH (Sm fu),Xq (ah fu),Zm (strings_HasPrefix fu),ax (Ol fu)],[(5,[7]),(7,[1]),(12,[1]),(14,[1]),(20,[2]),(22,[1]),(30,[2]),(32,[1]),(38,[4])],[],0,[(16,⟨[0,67],⟨[.own 2368, .int .i64],[(2368, .sl 5)]⟩,[3,4,65,66],[0,3],[],1,[0],⟨[.own 2368],[(2368, .sl 5)]⟩,[2368]⟩),(26,⟨[0,93],⟨[.own 2472, .int .i64],[(2472, .sl 5)]⟩,[3,4,91,92],[0,2],[],3,[0],⟨[.own 2472],[(2472, .sl 5)]⟩,[2472]⟩)],[(12,⟨[5],⟨[.int .i64],[]⟩,[0,3],[0],[],0,[],⟨[],[]⟩,[]⟩),(21,⟨[0,67],⟨[.own 2470, .int .i64],[(2470, .sl 5)]⟩,[],[],[],0,[],⟨[],[]⟩,[]⟩),(31,⟨[0,93],⟨[.own 2574, .int .i64],[(2574, .sl 5)]⟩,[],[],[],0,[],⟨[],[]⟩,[]⟩)],[],some fu⟩) (exS:=⟨[.own 0],[(0, .sl 5)]⟩) Tryz.f302 (memC (Iy fu) (memC (xG fu) (memC (wG fu) (memC (Zp fu) (memC (tq fu) (memC (mR fu) (memC (Pz fu) (memC (Zo fu) (memC (jG fu) zw))))))))) (by kernel_rfl) (by kernel_rfl) fun x=>by kernel_rfl
theorem NP(fu:Nat):zg Tryz.prog (wE (su fu)):=
 okC (A:=⟨[fw (Bl fu),aG (Sw fu)],[],[],0,[],[],[],some fu⟩) (exS:=⟨[.str, .int .i64],[]⟩) Tryz.f271 (memC (MG fu) (memC (MR fu) zw)) (by kernel_rfl) (by kernel_rfl) fun x=>by kernel_rfl
theorem FB(fu:Nat):zg Tryz.prog (qY (Zh fu)):=
 okC (A:=⟨[wE (su fu),Zq (zx fu)],[],[],2,[],[],[],some fu⟩) (exS:=⟨[],[(0, .cells 218 [.nop 0 218 2, .own 2]),(2, .sl 5)]⟩) Tryz.f226 (memC (NP fu) (memC (Zw fu) zw)) (by kernel_rfl) (by kernel_rfl) fun x=>by kernel_rfl
theorem XU(fu:Nat):zg Tryz.prog (NJ (stringslite_HasSuffix fu)):=
 okC (A:=⟨[],[],[],0,[],[],[],some fu⟩) (exS:=⟨[.bool],[]⟩) Tryz.f370 zw (by kernel_rfl) (by kernel_rfl) fun x=>by kernel_rfl
theorem wU(fu:Nat):zg Tryz.prog (tJ (stringslite_TrimSuffix fu)):=
 okC (A:=⟨[NJ (stringslite_HasSuffix fu)],[],[],0,[],[],[],some fu⟩) (exS:=⟨[.str],[]⟩) Tryz.f336 (memC (XU fu) zw) (by kernel_rfl) (by kernel_rfl) fun x=>by kernel_rfl
theorem DT(fu:Nat):zg Tryz.prog (wI (strings_TrimSuffix fu)):=
 okC (A:=⟨[tJ (stringslite_TrimSuffix fu)],[],[],0,[],[],[],some fu⟩) (exS:=⟨[.str],[]⟩) Tryz.f304 (memC (wU fu) zw) (by kernel_rfl) (by kernel_rfl) fun x=>by kernel_rfl
theorem RP(fu:Nat):zg Tryz.prog (BF (Yu fu)):=
 okC (A:=⟨[sw (nk fu),Gp yf,wI (strings_TrimSuffix fu)],[],[],0,[],[(10,⟨[6],⟨[.str],[]⟩,[1,5],[0],[],0,[],⟨[],[]⟩,[]⟩),(15,⟨[6],⟨[.str],[]⟩,[],[],[],0,[],⟨[],[]⟩,[]⟩)],[],some fu⟩) (exS:=⟨[.str, .int .i64],[]⟩) Tryz.f273 (memC (mF fu) (memC Uv (memC (DT fu) zw))) (by kernel_rfl) (by kernel_rfl) fun x=>by kernel_rfl
theorem gU(fu:Nat)(zJ:zC×List UInt8->Option (List UInt8))(h_seltext_writer_simple:zg Tryz.prog (ZA zJ)):zg Tryz.prog (UJ (IB fu zJ)):=
 okC (A:=⟨[Zq (zx fu),ZX (zW fu),qY (Zh fu),ZA zJ],[],[],2,[(1,⟨[13],⟨[.int .i64],[(0, .cells 218 [.nop 0 218 2, .own 4636]),(4636, .sl 5)]⟩,[0,11,12],[],[0],0,[],⟨[],[(0, .cells 218 [.nop 0 218 2, .own 4636]),(4636, .sl 5)]⟩,[0,4636]⟩),(9,⟨[40],⟨[.int .i64],[(0, .cells 218 [.nop 0 218 2, .own 5150]),(5150, .sl 5)]⟩,[38,39],[],[0],2,[],⟨[],[(0, .cells 218 [.nop 0 218 2, .own 5150]),(5150, .sl 5)]⟩,[0,5150]⟩),(19,⟨[77],⟨[.int .i64],[(0, .cells 218 [.nop 0 218 2, .own 5457]),(5457, .sl 5)]⟩,[75,76],[],[0],5,[],⟨[],[(0, .cells 218 [.nop 0 218 2, .own 5457]),(5457, .sl 5)]⟩,[0,5457]⟩)],[(5,⟨[],⟨[],[(0, .cells 218 [.nop 0 218 2, .own 4739]),(4739, .sl 5)]⟩,[5,13],[4637],[0],0,[],⟨[],[]⟩,[]⟩),(8,⟨[],⟨[],[(0, .cells 218 [.nop 0 218 2, .own 4842]),(4842, .sl 5)]⟩,[6],[4740],[0],0,[],⟨[],[]⟩,[]⟩),(13,⟨[],⟨[],[(0, .cells 218 [.nop 0 218 2, .own 5253]),(5253, .sl 5)]⟩,[8,40],[5151],[0],0,[],⟨[],[]⟩,[]⟩),(18,⟨[],⟨[],[(0, .cells 218 [.nop 0 218 2, .own 5355]),(5355, .sl 5)]⟩,[],[],[0],0,[],⟨[],[]⟩,[]⟩)],[],some fu⟩) (exS:=⟨[],[(0, .cells 218 [.nop 0 218 2, .own 2]),(2, .sl 5)]⟩) Tryz.f174 (memC (Zw fu) (memC (qI fu) (memC (FB fu) (memC h_seltext_writer_simple zw)))) (by kernel_rfl) (by kernel_rfl) fun x=>by kernel_rfl
theorem RU(fu:Nat)(zJ:zC×List UInt8->Option (List UInt8))(hs:zg Tryz.prog (ZA zJ)):zg Tryz.prog (ZA (EB fu zJ)):=
 okC (A:=⟨[qY (Zh fu),ZX (zW fu),Zq (zx fu),iq (Yh fu),BF (Yu fu),UJ (IB fu zJ)],[],[],2,[],[(14,⟨[],⟨[],[(0, .cells 218 [.nop 0 218 2, .own 2680]),(2680, .sl 5)]⟩,[0,3],[2],[0],0,[],⟨[],[]⟩,[]⟩),(16,⟨[],⟨[],[(0, .cells 218 [.nop 0 218 2, .own 2782]),(2782, .sl 5)]⟩,[],[],[0],0,[],⟨[],[]⟩,[]⟩),(27,⟨[],⟨[],[(0, .cells 218 [.nop 0 218 2, .own 2783]),(2783, .sl 5)]⟩,[0,3],[2],[0],0,[],⟨[],[]⟩,[]⟩)],[],some fu⟩) (exS:=⟨[],[(0, .cells 218 [.nop 0 218 2, .own 2]),(2, .sl 5)]⟩) Tryz.f227 (memC (FB fu) (memC (qI fu) (memC (Zw fu) (memC (pz fu) (memC (RP fu) (memC (gU fu zJ hs) zw)))))) (by kernel_rfl) (by kernel_rfl) fun x=>by kernel_rfl
theorem fU(fu:Nat):zg Tryz.prog (ZA (zJ fu)):=
 zg.iter (I:=I) (P:=Tryz.prog) (f:=227) (inS:=⟨[.optr 0, .val 72],[(0, .cells 218 [.nop 0 218 2, .own 1]),(1, .sl 5)]⟩) (cst:=[]) (outS:=⟨[],[(0, .cells 218 [.nop 0 218 2, .own 2]),(2, .sl 5)]⟩) (k:=1) (EB fu) (by kernel_rfl) (fun S h=>RU fu S h) fu
theorem GU(fu:Nat):zg Tryz.prog (oI (XA fu)):=
 okC (A:=⟨[Zq (zx fu),ZX (zW fu),qY (Zh fu),ZA (zJ fu)],[],[],1,[(1,⟨[13],⟨[.int .i64],[(0, .cells 218 [.nop 0 218 2, .own 1849]),(1849, .sl 5)]⟩,[0,11,12],[],[0],0,[],⟨[],[(0, .cells 218 [.nop 0 218 2, .own 1849]),(1849, .sl 5)]⟩,[0,1849]⟩),(9,⟨[40],⟨[.int .i64],[(0, .cells 218 [.nop 0 218 2, .own 5459]),(5459, .sl 5)]⟩,[38,39],[],[0],2,[],⟨[],[(0, .cells 218 [.nop 0 218 2, .own 5459]),(5459, .sl 5)]⟩,[0,5459]⟩),(19,⟨[77],⟨[.int .i64],[(0, .cells 218 [.nop 0 218 2, .own 5766]),(5766, .sl 5)]⟩,[75,76],[],[0],5,[],⟨[],[(0, .cells 218 [.nop 0 218 2, .own 5766]),(5766, .sl 5)]⟩,[0,5766]⟩)],[(5,⟨[],⟨[],[(0, .cells 218 [.nop 0 218 2, .own 1952]),(1952, .sl 5)]⟩,[5,13],[1850],[0],0,[],⟨[],[]⟩,[]⟩),(8,⟨[],⟨[],[(0, .cells 218 [.nop 0 218 2, .own 2055]),(2055, .sl 5)]⟩,[6],[1953],[0],0,[],⟨[],[]⟩,[]⟩),(13,⟨[],⟨[],[(0, .cells 218 [.nop 0 218 2, .own 5562]),(5562, .sl 5)]⟩,[8,40],[5460],[0],0,[],⟨[],[]⟩,[]⟩),(18,⟨[],⟨[],[(0, .cells 218 [.nop 0 218 2, .own 5664]),(5664, .sl 5)]⟩,[],[],[0],0,[],⟨[],[]⟩,[]⟩)],[],some fu⟩) (exS:=⟨[],[(0, .cells 218 [.nop 0 218 2, .own 1]),(1, .sl 5)]⟩) Tryz.f174 (memC (Zw fu) (memC (qI fu) (memC (FB fu) (memC (fU fu) zw)))) (by kernel_rfl) (by kernel_rfl) fun x=>by kernel_rfl
theorem CU(fu:Nat):zg Tryz.prog (mI (VA fu)):=
 okC (A:=⟨[],[],[],2,[],[],[],some fu⟩) (exS:=⟨[.int .i64],[]⟩) Tryz.f70 zw (by kernel_rfl) (by kernel_rfl) fun x=>by kernel_rfl
theorem aH(fu:Nat):zg Tryz.prog (ky (Km fu)):=
 okC (A:=⟨[Kz (Om fu),oI (XA fu),mI (VA fu),FC strV],[(4,[400000])],[],0,[],[],[],some fu⟩) (exS:=⟨[.str, .int .i64],[]⟩) Tryz.f129 (memC (jH fu) (memC (GU fu) (memC (CU fu) (memC aL zw)))) (by kernel_rfl) (by kernel_rfl) fun x=>by kernel_rfl
theorem YU(fu:Nat):zg Tryz.prog (OJ (TB fu)):=
 okC (A:=⟨[],[],[],1,[],[],[],some fu⟩) (exS:=⟨[.int .i64],[]⟩) Tryz.f70 zw (by kernel_rfl) (by kernel_rfl) fun x=>by kernel_rfl
theorem YV(fu:Nat):zg Tryz.prog (QL (qC fu)):=
 okC (A:=⟨[PD bn],[],[],1,[],[],[],some fu⟩) (exS:=⟨[.int .i64, .nili],[(0, .cells 126 [.nop 0 126 3, .own 1, .bool]),(1, .sl 5)]⟩) Tryz.f67 (memC oM zw) (by kernel_rfl) (by kernel_rfl) fun x=>by kernel_rfl
theorem nS(fu:Nat):zg Tryz.prog (JI (oz fu)):=
 okC (A:=⟨[OJ (TB fu),QL (qC fu)],[],[],1,[],[],[],some fu⟩) (exS:=⟨[],[(0, .cells 126 [.nop 0 126 3, .own 1, .bool]),(1, .sl 5)]⟩) Tryz.f128 (memC (YU fu) (memC (YV fu) zw)) (by kernel_rfl) (by kernel_rfl) fun x=>by kernel_rfl
theorem pJ(fu:Nat):zg Tryz.prog (Q6 (ql fu)):=
 okC (A:=⟨[],[],[],2,[],[],[],some fu⟩) (exS:=⟨[.int .i64],[]⟩) Tryz.f70 zw (by kernel_rfl) (by kernel_rfl) fun x=>by kernel_rfl
theorem XV(fu:Nat):zg Tryz.prog (QM (qD fu)):=
 okC (A:=⟨[tC Kn],[],[],2,[],[],[],some fu⟩) (exS:=⟨[.int .i64, .nili],[(0, .cells 126 [.nop 0 126 3, .own 2, .bool]),(2, .sl 5)]⟩) Tryz.f67 (memC YM zw) (by kernel_rfl) (by kernel_rfl) fun x=>by kernel_rfl
theorem qi(fu:Nat):zg Tryz.prog (Z8 (zB fu)):=
 okC (A:=⟨[Q6 (ql fu),QM (qD fu)],[],[],2,[],[],[],some fu⟩) (exS:=⟨[],[(0, .cells 126 [.nop 0 126 3, .own 2, .bool]),(2, .sl 5)]⟩) Tryz.f128 (memC (pJ fu) (memC (XV fu) zw)) (by kernel_rfl) (by kernel_rfl) fun x=>by kernel_rfl
theorem Ay(fu:Nat):zg Tryz.prog (Gq (Oh fu)):=
 okC (A:=⟨[Zn (strings_IndexByte fu),Tq (qc fu),Vy (mi fu)],[],[],0,[],[],[],some fu⟩) (exS:=⟨[.str, .int .i64],[]⟩) Tryz.f179 (memC (Zp fu) (memC (Iy fu) (memC (xG fu) zw))) (by kernel_rfl) (by kernel_rfl) fun x=>by kernel_rfl
theorem kR(fu:Nat):zg Tryz.prog (tH (Rm fu)):=
 okC (A:=⟨[Cw Ui,Gp yf,Vu Vg],[(2,[1]),(6,[1])],[],1,[],[(3,⟨[0,1],⟨[.own 5976, .int .i64],[(5976, .sl 5)]⟩,[2],[],[],0,[],⟨[],[]⟩,[]⟩),(9,⟨[0],⟨[.own 6079],[(6079, .sl 5)]⟩,[],[],[],0,[],⟨[],[]⟩,[]⟩)],[],some fu⟩) (exS:=⟨[.own 1],[(1, .sl 5)]⟩) Tryz.f333 (memC gF (memC Uv (memC uD zw))) (by kernel_rfl) (by kernel_rfl) fun x=>by kernel_rfl
theorem KR(fu:Nat):zg Tryz.prog (YG (Rw fu)):=
 okC (A:=⟨[Tq (qc fu),Uy (qd fu),Zn (strings_IndexByte fu),Bn (ZC fu),tH (Rm fu),Xq (ah fu),Zm (strings_HasPrefix fu),ax (Ol fu)],[(5,[7]),(7,[1]),(12,[1]),(14,[1]),(20,[2]),(22,[1]),(30,[2]),(32,[1]),(38,[4])],[],1,[(16,⟨[0,67],⟨[.own 5769, .int .i64],[(5769, .sl 5)]⟩,[3,4,65,66],[1,4],[],1,[0],⟨[.own 5769],[(5769, .sl 5)]⟩,[5769]⟩),(26,⟨[0,93],⟨[.own 5873, .int .i64],[(5873, .sl 5)]⟩,[3,4,91,92],[1,3],[],3,[0],⟨[.own 5873],[(5873, .sl 5)]⟩,[5873]⟩)],[(12,⟨[5],⟨[.int .i64],[(0, .sl 5)]⟩,[0,3],[1],[0],0,[],⟨[],[]⟩,[]⟩),(21,⟨[0,67],⟨[.own 5871, .int .i64],[(5871, .sl 5)]⟩,[],[],[],0,[],⟨[],[]⟩,[]⟩),(31,⟨[0,93],⟨[.own 5975, .int .i64],[(5975, .sl 5)]⟩,[],[],[],0,[],⟨[],[]⟩,[]⟩)],[],some fu⟩) (exS:=⟨[.own 1],[(1, .sl 5)]⟩) Tryz.f302 (memC (Iy fu) (memC (wG fu) (memC (Zp fu) (memC (tq fu) (memC (kR fu) (memC (Pz fu) (memC (Zo fu) (memC (jG fu) zw)))))))) (by kernel_rfl) (by kernel_rfl) fun x=>by kernel_rfl
theorem OT(fu:Nat):zg Tryz.prog (AJ (IA fu)):=
 okC (A:=⟨[],[],[],0,[(4,⟨[13],⟨[.int .i64],[]⟩,[0,1,12],[],[],0,[],⟨[],[]⟩,[]⟩)],[],[],some fu⟩) (exS:=⟨[.bool],[]⟩) Tryz.f305 zw (by kernel_rfl) (by kernel_rfl) fun x=>by kernel_rfl
theorem UQ(fu:Nat):zg Tryz.prog (tF (Yv fu)):=
 okC (A:=⟨[dx (Rl fu),Yx (Nl fu),YG (Rw fu),Wq (Qs fu),AJ (IA fu)],[(24,[5])],[],0,[(7,⟨[5,6,7],⟨[.own 6186, .own 6187, .int .i64],[(6186, .sl 5),(6187, .sl 332)]⟩,[0],[],[],0,[5],⟨[.own 6186],[(6186, .sl 5)]⟩,[6186]⟩),(11,⟨[9,36],⟨[.own 5767, .int .i64],[(5767, .sl 5)]⟩,[5,6,7,8,34,35],[6186,6187],[],2,[9],⟨[.own 5767],[(5767, .sl 5)]⟩,[5767]⟩)],[(17,⟨[5,6,7,9],⟨[.own 6186, .own 6187, .int .i64, .own 6289],[(6186, .sl 5),(6187, .sl 332),(6289, .sl 5)]⟩,[8],[],[6186,6187],0,[],⟨[],[]⟩,[]⟩),(21,⟨[5,6,7],⟨[.own 6186, .own 6187, .int .i64],[(6186, .sl 5),(6187, .sl 332),(6290, .row 332)]⟩,[9,12],[6289],[6186,6187,6290],0,[],⟨[],[]⟩,[]⟩),(24,⟨[5,6,7],⟨[.own 6394, .own 6187, .int .i64],[(6187, .sl 332),(6394, .sl 5)]⟩,[],[6290],[6187],0,[],⟨[],[]⟩,[]⟩)],[],some fu⟩) (exS:=⟨[.str, .int .i64],[]⟩) Tryz.f274 (memC (kG fu) (memC (iG fu) (memC (KR fu) (memC (Oz fu) (memC (OT fu) zw))))) (by kernel_rfl) (by kernel_rfl) fun x=>by kernel_rfl
theorem KP(fu:Nat):zg Tryz.prog (XF (Pv fu)):=
 okC (A:=⟨[Qf (ZU fu),RH (ui fu),tF (Yv fu)],[],[],0,[],[],[],some fu⟩) (exS:=⟨[.str, .int .i64],[]⟩) Tryz.f228 (memC (Qn fu) (memC (sQ fu) (memC (UQ fu) zw))) (by kernel_rfl) (by kernel_rfl) fun x=>by kernel_rfl
theorem iF(fu:Nat):zg Tryz.prog (jw (Xk fu)):=
 okC (A:=⟨[Gm (Jg fu),Gq (Oh fu),XF (Pv fu)],[],[],0,[],[(13,⟨[8],⟨[.str],[]⟩,[],[],[],0,[],⟨[],[]⟩,[]⟩)],[],some fu⟩) (exS:=⟨[.str, .int .i64],[]⟩) Tryz.f175 (memC (Vq fu) (memC (Ay fu) (memC (KP fu) zw))) (by kernel_rfl) (by kernel_rfl) fun x=>by kernel_rfl
theorem jF(fu:Nat):zg Tryz.prog (kw (Yk fu)):=
 okC (A:=⟨[jw (Xk fu),Ck Ue],[(12,[2])],[(14,[(4,none)])],0,[(6,⟨[4,5,16],⟨[.own 6395, .bool, .int .i64],[(6395, .sl 9)]⟩,[14,15],[],[],0,[4,5],⟨[.own 6395, .bool],[(6395, .sl 9)]⟩,[6395]⟩)],[],[],some fu⟩) (exS:=⟨[.str, .int .i64],[]⟩) Tryz.f130 (memC (iF fu) (memC Bp zw)) (by kernel_rfl) (by kernel_rfl) fun x=>by kernel_rfl
theorem MQ(fu:Nat):zg Tryz.prog (BG (Aw fu)):=
 okC (A:=⟨[rq (qO fu),QC (ZY fu)],[],[],0,[],[],[],some fu⟩) (exS:=⟨[.int .i64],[]⟩) Tryz.f176 (memC (vz fu) (memC (LB fu) zw)) (by kernel_rfl) (by kernel_rfl) fun x=>by kernel_rfl
theorem nR(fu:Nat):zg Tryz.prog (vH (Aj fu)):=
 okC (A:=⟨[],[],[],2,[],[],[],some fu⟩) (exS:=⟨[],[(0, .row 3),(1, .sl 5)]⟩) Tryz.f275 zw (by kernel_rfl) (by kernel_rfl) fun x=>by kernel_rfl
theorem NR(fu:Nat):zg Tryz.prog (bG (Tw fu)):=
 okC (A:=⟨[Cy (Xl fu),vH (Aj fu)],[(1,[1]),(7,[200000])],[],0,[(12,⟨[9,26],⟨[.int .i64, .int .i64],[(1, .sl 5),(2, .row 3)]⟩,[0,6,7,8],[],[1,2],0,[],⟨[],[(1, .sl 5),(2, .row 3)]⟩,[1,2]⟩),(23,⟨[0],⟨[.int .i64],[(1, .sl 5),(2, .row 3)]⟩,[6,7,8],[],[1,2],2,[],⟨[],[(1, .sl 5),(2, .row 3)]⟩,[1,2]⟩)],[(7,⟨[0],⟨[.int .i64],[]⟩,[5],[],[],0,[],⟨[],[]⟩,[]⟩),(17,⟨[9],⟨[.int .i64],[(1, .sl 5),(2, .row 3)]⟩,[10,26],[],[1,2],0,[],⟨[],[]⟩,[]⟩),(20,⟨[9,26],⟨[.int .i64, .int .i64],[(1, .sl 5),(2, .row 3)]⟩,[],[],[1,2],0,[],⟨[],[]⟩,[]⟩),(27,⟨[],⟨[],[(1, .sl 5),(2, .row 3)]⟩,[6,7],[],[1,2],0,[],⟨[],[]⟩,[]⟩)],[],some fu⟩) (exS:=⟨[.str, .int .i64],[]⟩) Tryz.f230 (memC (BH fu) (memC (nR fu) zw)) (by kernel_rfl) (by kernel_rfl) fun x=>by kernel_rfl
theorem EQ(fu:Nat)(ZB:zq->Option Str)(h_cond_media:zg Tryz.prog (dh ZB)):zg Tryz.prog (bF (Vp fu ZB)):=
 okC (A:=⟨[dh ZB,Ck Ue],[(5,[4])],[(7,[(7,none)])],0,[(3,⟨[7,12],⟨[.own 6396, .int .i64],[(6396, .sl 9)]⟩,[1,2,6,10,11],[],[],0,[7],⟨[.own 6396],[(6396, .sl 9)]⟩,[6396]⟩)],[],[],some fu⟩) (exS:=⟨[.str],[]⟩) Tryz.f229 (memC h_cond_media (memC Bp zw)) (by kernel_rfl) (by kernel_rfl) fun x=>by kernel_rfl
theorem oP(fu:Nat)(ZB:zq->Option Str)(hs:zg Tryz.prog (dh ZB)):zg Tryz.prog (dh (Vx fu ZB)):=
 okC (A:=⟨[Gq (Oh fu),dh ZB,bF (Vp fu ZB),bG (Tw fu)],[],[],0,[],[],[],some fu⟩) (exS:=⟨[.str],[]⟩) Tryz.f177 (memC (Ay fu) (memC hs (memC (EQ fu ZB hs) (memC (NR fu) zw)))) (by kernel_rfl) (by kernel_rfl) fun x=>by kernel_rfl
theorem aQ(fu:Nat):zg Tryz.prog (dh (ZB fu)):=
 zg.iter (I:=I) (P:=Tryz.prog) (f:=177) (inS:=⟨[.val 36],[]⟩) (cst:=[]) (outS:=⟨[.str],[]⟩) (k:=0) (Vx fu) (by kernel_rfl) (fun S h=>oP fu S h) fu
theorem DI(fu:Nat)(zR:zq×Bool->Option (Str×Bool))(h_cond_supports:zg Tryz.prog (qN zR)):zg Tryz.prog (BA (ym fu zR)):=
 okC (A:=⟨[qN zR,lw (ek fu)],[],[],2,[],[],[],some fu⟩) (exS:=⟨[.str],[(1, .row 4)]⟩) Tryz.f231 (memC h_cond_supports (memC (kF fu) zw)) (by kernel_rfl) (by kernel_rfl) fun x=>by kernel_rfl
theorem PR(fu:Nat)(zR:zq×Bool->Option (Str×Bool))(h_cond_supports:zg Tryz.prog (qN zR)):zg Tryz.prog (dG (Iq fu zR)):=
 okC (A:=⟨[BA (ym fu zR),Ck Ue],[(5,[4])],[(7,[(7,none)])],2,[(3,⟨[7,12],⟨[.own 6397, .int .i64],[(1, .row 4),(6397, .sl 9)]⟩,[1,2,6,10,11],[],[1],0,[7],⟨[.own 6397],[(1, .row 4),(6397, .sl 9)]⟩,[1,6397]⟩)],[],[],some fu⟩) (exS:=⟨[.str],[(1, .row 4)]⟩) Tryz.f229 (memC (DI fu zR h_cond_supports) (memC Bp zw)) (by kernel_rfl) (by kernel_rfl) fun x=>by kernel_rfl
theorem YR(fu:Nat)(zR:zq×Bool->Option (Str×Bool))(hs:zg Tryz.prog (qN zR)):zg Tryz.prog (qN (Sz fu zR)):=
 okC (A:=⟨[jw (Xk fu),BA (ym fu zR),dG (Iq fu zR)],[],[],1,[],[],[],some fu⟩) (exS:=⟨[.str],[(0, .row 4)]⟩) Tryz.f178 (memC (iF fu) (memC (DI fu zR hs) (memC (PR fu zR hs) zw))) (by kernel_rfl) (by kernel_rfl) fun x=>by kernel_rfl
theorem pR(fu:Nat):zg Tryz.prog (qN (zR fu)):=
 zg.iter (I:=I) (P:=Tryz.prog) (f:=178) (inS:=⟨[.val 36, .optr 0],[(0, .row 4)]⟩) (cst:=[]) (outS:=⟨[.str],[(0, .row 4)]⟩) (k:=0) (Sz fu) (by kernel_rfl) (fun S h=>YR fu S h) fu
theorem lF(fu:Nat):zg Tryz.prog (ow (ik fu)):=
 okC (A:=⟨[BG (Aw fu),rq (qO fu),dh (ZB fu),qN (zR fu)],[],[],0,[],[(8,⟨[5],⟨[.str],[(1, .row 4)]⟩,[6],[],[1],0,[],⟨[],[]⟩,[]⟩)],[],some fu⟩) (exS:=⟨[.str, .int .i64],[]⟩) Tryz.f131 (memC (MQ fu) (memC (vz fu) (memC (aQ fu) (memC (pR fu) zw)))) (by kernel_rfl) (by kernel_rfl) fun x=>by kernel_rfl
theorem rJ(fu:Nat):zg Tryz.prog (Q3 (Zl fu)):=
 okC (A:=⟨[Z8 (zB fu)],[],[],3,[],[],[],some fu⟩) (exS:=⟨[],[(1, .cells 126 [.nop 1 126 3, .own 3, .bool]),(3, .sl 5)]⟩) Tryz.f127 (memC (qi fu) zw) (by kernel_rfl) (by kernel_rfl) fun x=>by kernel_rfl
theorem IJ(fu:Nat):zg Tryz.prog (jA (qf fu)):=
 okC (A:=⟨[Z8 (zB fu),Gq (Oh fu)],[],[],2,[(1,⟨[8],⟨[.int .i64],[(0, .cells 126 [.nop 0 126 3, .own 6400, .bool]),(6400, .sl 5)]⟩,[0,6,7],[],[0],0,[],⟨[],[(0, .cells 126 [.nop 0 126 3, .own 6400, .bool]),(6400, .sl 5)]⟩,[0,6400]⟩)],[(5,⟨[],⟨[],[(0, .cells 126 [.nop 0 126 3, .own 6502, .bool]),(6502, .sl 5)]⟩,[5,8],[],[0],0,[],⟨[],[]⟩,[]⟩)],[],some fu⟩) (exS:=⟨[],[(0, .cells 126 [.nop 0 126 3, .own 2, .bool]),(2, .sl 5)]⟩) Tryz.f133 (memC (qi fu) (memC (Ay fu) zw)) (by kernel_rfl) (by kernel_rfl) fun x=>by kernel_rfl
theorem KU(fu:Nat)(zO:List zD×Bool×List UInt8->Option (Bool×List UInt8))(h_round_writer_group:zg Tryz.prog (Z7 zO)):zg Tryz.prog (uI (YA fu zO)):=
 okC (A:=⟨[ky (Km fu),Z8 (zB fu),kw (Yk fu),ow (ik fu),Q3 (Zl fu),Z7 zO,jA (qf fu)],[],[],2,[(24,⟨[75],⟨[.int .i64],[(0, .cells 126 [.nop 0 126 3, .own 6609, .bool]),(6609, .sl 5)]⟩,[73,74],[],[0],1,[],⟨[],[(0, .cells 126 [.nop 0 126 3, .own 6609, .bool]),(6609, .sl 5)]⟩,[0,6609]⟩),(33,⟨[96],⟨[.int .i64],[(0, .cells 126 [.nop 0 126 3, .own 6611, .bool]),(6611, .sl 5)]⟩,[94,95],[],[0],3,[],⟨[],[(0, .cells 126 [.nop 0 126 3, .own 6611, .bool]),(6611, .sl 5)]⟩,[0,6611]⟩)],[(12,⟨[41],⟨[.bool],[(0, .cells 126 [.nop 0 126 3, .own 1, .bool]),(1, .sl 5)]⟩,[2,3,4,14],[2,3],[0,1],0,[],⟨[],[]⟩,[]⟩),(15,⟨[5],⟨[.str],[(0, .cells 126 [.nop 0 126 3, .own 1, .bool]),(1, .sl 5)]⟩,[],[],[0,1],0,[],⟨[],[]⟩,[]⟩),(18,⟨[6],⟨[.str],[(0, .cells 126 [.nop 0 126 3, .own 1, .bool]),(1, .sl 5)]⟩,[5,7],[],[0,1],0,[],⟨[],[]⟩,[]⟩),(37,⟨[],⟨[],[(0, .cells 126 [.nop 0 126 3, .own 6713, .bool]),(6713, .sl 5)]⟩,[11,96],[],[0],0,[],⟨[],[]⟩,[]⟩)],[],some fu⟩) (exS:=⟨[],[(0, .cells 126 [.nop 0 126 3, .own 2, .bool]),(2, .sl 5)]⟩) Tryz.f69 (memC (aH fu) (memC (qi fu) (memC (jF fu) (memC (lF fu) (memC (rJ fu) (memC h_round_writer_group (memC (IJ fu) zw))))))) (by kernel_rfl) (by kernel_rfl) fun x=>by kernel_rfl
theorem gT(fu:Nat)(zO:List zD×Bool×List UInt8->Option (Bool×List UInt8))(hs:zg Tryz.prog (Z7 zO)):zg Tryz.prog (Z7 (RA fu zO)):=
 okC (A:=⟨[Z8 (zB fu),uI (YA fu zO)],[],[],2,[(4,⟨[15],⟨[.int .i64],[(0, .cells 126 [.nop 0 126 3, .own 6608, .bool]),(6608, .sl 5)]⟩,[0,13,14],[],[0],0,[],⟨[],[(0, .cells 126 [.nop 0 126 3, .own 6608, .bool]),(6608, .sl 5)]⟩,[0,6608]⟩)],[],[],some fu⟩) (exS:=⟨[],[(0, .cells 126 [.nop 0 126 3, .own 2, .bool]),(2, .sl 5)]⟩) Tryz.f132 (memC (qi fu) (memC (KU fu zO hs) zw)) (by kernel_rfl) (by kernel_rfl) fun x=>by kernel_rfl
theorem UT(fu:Nat):zg Tryz.prog (Z7 (zO fu)):=
 zg.iter (I:=I) (P:=Tryz.prog) (f:=132) (inS:=⟨[.optr 0, .sl 39],[(0, .cells 126 [.nop 0 126 3, .own 1, .bool]),(1, .sl 5)]⟩) (cst:=[]) (outS:=⟨[],[(0, .cells 126 [.nop 0 126 3, .own 2, .bool]),(2, .sl 5)]⟩) (k:=1) (RA fu) (by kernel_rfl) (fun S h=>gT fu S h) fu
theorem wT(fu:Nat):zg Tryz.prog (VI (cz fu)):=
 okC (A:=⟨[ky (Km fu),JI (oz fu),Z8 (zB fu),kw (Yk fu),ow (ik fu),Q3 (Zl fu),Z7 (zO fu),jA (qf fu)],[],[],1,[(24,⟨[75],⟨[.int .i64],[(0, .cells 126 [.nop 0 126 3, .own 6714, .bool]),(6714, .sl 5)]⟩,[73,74],[],[0],1,[],⟨[],[(0, .cells 126 [.nop 0 126 3, .own 6714, .bool]),(6714, .sl 5)]⟩,[0,6714]⟩),(33,⟨[96],⟨[.int .i64],[(0, .cells 126 [.nop 0 126 3, .own 6716, .bool]),(6716, .sl 5)]⟩,[94,95],[],[0],3,[],⟨[],[(0, .cells 126 [.nop 0 126 3, .own 6716, .bool]),(6716, .sl 5)]⟩,[0,6716]⟩)],[(12,⟨[41],⟨[.bool],[(0, .cells 126 [.nop 0 126 3, .own 6398, .bool]),(6398, .sl 5)]⟩,[2,3,4,14],[1,2],[0],0,[],⟨[],[]⟩,[]⟩),(15,⟨[5],⟨[.str],[(0, .cells 126 [.nop 0 126 3, .own 6398, .bool]),(6398, .sl 5)]⟩,[],[],[0,6398],0,[],⟨[],[]⟩,[]⟩),(18,⟨[6],⟨[.str],[(0, .cells 126 [.nop 0 126 3, .own 6398, .bool]),(6398, .sl 5)]⟩,[5,7],[],[0,6398],0,[],⟨[],[]⟩,[]⟩),(37,⟨[],⟨[],[(0, .cells 126 [.nop 0 126 3, .own 6818, .bool]),(6818, .sl 5)]⟩,[11,96],[],[0],0,[],⟨[],[]⟩,[]⟩)],[],some fu⟩) (exS:=⟨[],[(0, .cells 126 [.nop 0 126 3, .own 1, .bool]),(1, .sl 5)]⟩) Tryz.f69 (memC (aH fu) (memC (nS fu) (memC (qi fu) (memC (jF fu) (memC (lF fu) (memC (rJ fu) (memC (UT fu) (memC (IJ fu) zw)))))))) (by kernel_rfl) (by kernel_rfl) fun x=>by kernel_rfl
theorem gG(fu:Nat):zg Tryz.prog (Xx (Hl fu)):=
 okC (A:=⟨[VI (cz fu),Q6 (ql fu),EC strW],[(1,[400000])],[],0,[],[],[],some fu⟩) (exS:=⟨[.str, .int .i64],[]⟩) Tryz.f37 (memC (wT fu) (memC (pJ fu) (memC YL zw))) (by kernel_rfl) (by kernel_rfl) fun x=>by kernel_rfl
theorem sG(fu:Nat):zg Tryz.prog (Sy (yl fu)):=
 okC (A:=⟨[Yq (ng fu),Xx (Hl fu)],[(11,[2])],[],0,[(6,⟨[5,18],⟨[.own 6819, .int .i64],[(6819, .sl 9)]⟩,[16,17],[],[],0,[5],⟨[.own 6819],[(6819, .sl 9)]⟩,[6819]⟩)],[],[],some fu⟩) (exS:=⟨[.sl 9, .int .i64],[]⟩) Tryz.f23 (memC (wy fu) (memC (gG fu) zw)) (by kernel_rfl) (by kernel_rfl) fun x=>by kernel_rfl
theorem uG(fu:Nat):zg Tryz.prog (Ty (kg fu)):=
 okC (A:=⟨[Sy (yl fu),Ck Ue],[],[],0,[],[],[],some fu⟩) (exS:=⟨[.str, .int .i64],[]⟩) Tryz.f22 (memC (sG fu) (memC Bp zw)) (by kernel_rfl) (by kernel_rfl) fun x=>by kernel_rfl
theorem xH(fu:Nat):zg Tryz.prog (ny (Z9 fu)):=
 okC (A:=⟨[Fz (jh fu),Ty (kg fu)],[],[],0,[],[],[],some fu⟩) (exS:=⟨[.bool],[]⟩) Tryz.f21 (memC (XH fu) (memC (uG fu) zw)) (by kernel_rfl) (by kernel_rfl) fun x=>by kernel_rfl
theorem PQ(fu:Nat):zg Tryz.prog (AQ (El fu)):=
 okC (A:=⟨[Wx (Dl fu)],[],[],0,[],[],[],some fu⟩) (exS:=⟨[.optr 0, .int .i64],[(0, .row 39)]⟩) Tryz.f9 (memC (eG fu) zw) (by kernel_rfl) (by kernel_rfl) fun x=>by kernel_rfl
theorem lQ(fu:Nat):zg Tryz.prog (VR (Mq fu)):=
 okC (A:=⟨[Ez (Im fu)],[],[],0,[],[],[],some fu⟩) (exS:=⟨[.optr 0, .int .i64],[(0, .row 39)]⟩) Tryz.f9 (memC (WH fu) zw) (by kernel_rfl) (by kernel_rfl) fun x=>by kernel_rfl
theorem kQ(fu:Nat):zg Tryz.prog (LH (Kq fu)):=
 zg.told (I:=I) (P:=Tryz.prog) (Fn:=fun b:Bool=>cond b (El fu) (Mq fu)) true (fun b=>match b with|true=>PQ fu|false=>lQ fu) (fun x y h=>by
  unfold Kq at h;exact alt2 (A:=(El fu)) (B:=(Mq fu)) h)
theorem BI(fu:Nat):zg Tryz.prog (AA (Dn fu)):=
 okC (A:=⟨[Ry (ul fu)],[(1,[1])],[],0,[],[],[],some fu⟩) (exS:=⟨[.int .i64],[]⟩) Tryz.f30 (memC (rG fu) zw) (by kernel_rfl) (by kernel_rfl) fun x=>by kernel_rfl
theorem vS(fu:Nat):zg Tryz.prog (dA (NI fu)):=
 okC (A:=⟨[],[],[],0,[],[],[],some fu⟩) (exS:=⟨[.own 0],[(0, .sl 39)]⟩) Tryz.f58 zw (by kernel_rfl) (by kernel_rfl) fun x=>by kernel_rfl
theorem nT(fu:Nat):zg Tryz.prog (dA (mq fu)):=(vS fu).le (aT fu)
theorem TU(fu:Nat):zg Tryz.prog (AB (VJ fu)):=
 okC (A:=⟨[],[],[],0,[],[],[],some fu⟩) (exS:=⟨[.own 0],[(0, .sl 68)]⟩) Tryz.f116 zw (by kernel_rfl) (by kernel_rfl) fun x=>by kernel_rfl
theorem kU(fu:Nat):zg Tryz.prog (AB (QF fu)):=(TU fu).le (lU fu)
theorem uU(fu:Nat):zg Tryz.prog (Q4 (bJ fu)):=
 okC (A:=⟨[],[],[],0,[],[],[],some fu⟩) (exS:=⟨[.own 0],[(0, .sl 65)]⟩) Tryz.f117 zw (by kernel_rfl) (by kernel_rfl) fun x=>by kernel_rfl
theorem eU(fu:Nat):zg Tryz.prog (Q4 (Qq fu)):=(uU fu).le (CV fu)
theorem yT(fu:Nat):zg Tryz.prog (TA (FJ fu)):=
 okC (A:=⟨[],[],[],0,[],[],[],some fu⟩) (exS:=⟨[.own 0],[(0, .sl 5)]⟩) Tryz.f118 zw (by kernel_rfl) (by kernel_rfl) fun x=>by kernel_rfl
theorem PT(fu:Nat):zg Tryz.prog (TA (Br fu)):=(yT fu).le (OU fu)
theorem nU(fu:Nat):zg Tryz.prog (NB (CJ fu)):=
 okC (A:=⟨[],[],[],0,[],[],[],some fu⟩) (exS:=⟨[.own 0],[(0, .sl 72)]⟩) Tryz.f119 zw (by kernel_rfl) (by kernel_rfl) fun x=>by kernel_rfl
theorem EU(fu:Nat):zg Tryz.prog (NB (uq fu)):=(nU fu).le (NU fu)
theorem VS(fu:Nat)(Z4:List zu->Option (List zu))(hs:zg Tryz.prog (QI Z4)):zg Tryz.prog (QI (JA fu Z4)):=
 okC (A:=⟨[AB (QF fu),Q4 (Qq fu),TA (Br fu),NB (uq fu),QI Z4],[],[],0,[(3,⟨[12],⟨[.int .i64],[(0, .sl 68)]⟩,[0,2,11],[],[0],0,[],⟨[],[(0, .sl 68)]⟩,[0]⟩),(8,⟨[39],⟨[.int .i64],[(1, .sl 65)]⟩,[4,12,38],[0,2],[1],2,[],⟨[],[(1, .sl 65)]⟩,[1]⟩),(12,⟨[53],⟨[.int .i64],[(3, .sl 72)]⟩,[5,6,39,52],[1],[3],4,[],⟨[],[(3, .sl 72)]⟩,[3]⟩)],[],[],some fu⟩) (exS:=⟨[.sl 68],[]⟩) Tryz.f59 (memC (kU fu) (memC (eU fu) (memC (PT fu) (memC (EU fu) (memC hs zw))))) (by kernel_rfl) (by kernel_rfl) fun x=>by kernel_rfl
theorem PS(fu:Nat):zg Tryz.prog (QI (Z4 fu)):=
 zg.iter (I:=I) (P:=Tryz.prog) (f:=59) (inS:=⟨[.sl 68],[]⟩) (cst:=[]) (outS:=⟨[.sl 68],[]⟩) (k:=0) (JA fu) (by kernel_rfl) (fun S h=>VS fu S h) fu
theorem wS(fu:Nat):zg Tryz.prog (fA (iI fu)):=
 okC (A:=⟨[],[],[],0,[],[],[],some fu⟩) (exS:=⟨[.own 0],[(0, .sl 33)]⟩) Tryz.f120 zw (by kernel_rfl) (by kernel_rfl) fun x=>by kernel_rfl
theorem rT(fu:Nat):zg Tryz.prog (fA (oq fu)):=(wS fu).le (bT fu)
theorem fQ(fu:Nat)(qj:List ze->Option (List ze))(hs:zg Tryz.prog (Gj qj)):zg Tryz.prog (Gj (uy fu qj)):=
 okC (A:=⟨[QD (qy fu),Gj qj],[],[],0,[(3,⟨[8],⟨[.int .i64],[(0, .sl 135)]⟩,[0,2,7],[],[0],0,[],⟨[],[(0, .sl 135)]⟩,[0]⟩)],[],[],some fu⟩) (exS:=⟨[.sl 135],[]⟩) Tryz.f121 (memC (EJ fu) (memC hs zw)) (by kernel_rfl) (by kernel_rfl) fun x=>by kernel_rfl
theorem bH(fu:Nat):zg Tryz.prog (Gj (qj fu)):=
 zg.iter (I:=I) (P:=Tryz.prog) (f:=121) (inS:=⟨[.sl 135],[]⟩) (cst:=[]) (outS:=⟨[.sl 135],[]⟩) (k:=0) (uy fu) (by kernel_rfl) (fun S h=>fQ fu S h) fu
theorem FR(fu:Nat):zg Tryz.prog (UG (xw fu)):=
 okC (A:=⟨[fA (oq fu),Gj (qj fu)],[],[],0,[(3,⟨[8],⟨[.int .i64],[(0, .sl 33)]⟩,[0,2,7],[],[0],0,[],⟨[],[(0, .sl 33)]⟩,[0]⟩)],[],[],some fu⟩) (exS:=⟨[.sl 33],[]⟩) Tryz.f60 (memC (rT fu) (memC (bH fu) zw)) (by kernel_rfl) (by kernel_rfl) fun x=>by kernel_rfl
theorem xS(fu:Nat):zg Tryz.prog (iA (jI fu)):=
 okC (A:=⟨[],[],[],0,[],[],[],some fu⟩) (exS:=⟨[.own 0],[(0, .sl 36)]⟩) Tryz.f122 zw (by kernel_rfl) (by kernel_rfl) fun x=>by kernel_rfl
theorem tT(fu:Nat):zg Tryz.prog (iA (pq fu)):=(xS fu).le (eT fu)
theorem WS(fu:Nat)(Z0:zq->Option zq)(hs:zg Tryz.prog (QH Z0)):zg Tryz.prog (QH (KA fu Z0)):=
 okC (A:=⟨[Gj (qj fu),iA (pq fu),QH Z0],[],[],0,[(4,⟨[17],⟨[.int .i64],[(2, .sl 36)]⟩,[1,2,16],[0,1],[2],0,[],⟨[],[(2, .sl 36)]⟩,[2]⟩)],[],[],some fu⟩) (exS:=⟨[.optr 0],[(0, .row 36)]⟩) Tryz.f61 (memC (bH fu) (memC (tT fu) (memC hs zw))) (by kernel_rfl) (by kernel_rfl) fun x=>by kernel_rfl
theorem RS(fu:Nat):zg Tryz.prog (QH (Z0 fu)):=
 zg.iter (I:=I) (P:=Tryz.prog) (f:=61) (inS:=⟨[.val 36],[]⟩) (cst:=[]) (outS:=⟨[.val 36],[]⟩) (k:=0) (KA fu) (by kernel_rfl) (fun S h=>WS fu S h) fu
theorem mU(fu:Nat):zg Tryz.prog (MB (BJ fu)):=
 okC (A:=⟨[],[],[],0,[],[],[],some fu⟩) (exS:=⟨[.own 0],[(0, .sl 59)]⟩) Tryz.f62 zw (by kernel_rfl) (by kernel_rfl) fun x=>by kernel_rfl
theorem DU(fu:Nat):zg Tryz.prog (MB (slices_Clone_string fu)):=(mU fu).le (MU fu)
theorem sU(fu:Nat):zg Tryz.prog (Q5 (aJ fu)):=
 okC (A:=⟨[],[],[],0,[],[],[],some fu⟩) (exS:=⟨[.own 0],[(0, .sl 9)]⟩) Tryz.f63 zw (by kernel_rfl) (by kernel_rfl) fun x=>by kernel_rfl
theorem dU(fu:Nat):zg Tryz.prog (Q5 (Qr fu)):=(sU fu).le (iU fu)
theorem nP(fu:Nat)(QQ:List zD->Option (List zD))(hs:zg Tryz.prog (Dj QQ)):zg Tryz.prog (Dj (Ex fu QQ)):=
 okC (A:=⟨[dA (mq fu),QI (Z4 fu),UG (xw fu),QH (Z0 fu),Dj QQ,MB (slices_Clone_string fu),Q5 (Qr fu)],[],[],0,[(3,⟨[10],⟨[.int .i64],[(0, .sl 39)]⟩,[0,2,9],[],[0],0,[],⟨[],[(0, .sl 39)]⟩,[0]⟩),(9,⟨[61],⟨[.int .i64],[(1, .sl 59)]⟩,[4,10,60],[0],[1],2,[],⟨[],[(1, .sl 59)]⟩,[1]⟩)],[],[],some fu⟩) (exS:=⟨[.sl 39],[]⟩) Tryz.f31 (memC (nT fu) (memC (PS fu) (memC (FR fu) (memC (RS fu) (memC hs (memC (DU fu) (memC (dU fu) zw))))))) (by kernel_rfl) (by kernel_rfl) fun x=>by kernel_rfl
theorem fG(fu:Nat):zg Tryz.prog (Dj (QQ fu)):=
 zg.iter (I:=I) (P:=Tryz.prog) (f:=31) (inS:=⟨[.sl 39],[]⟩) (cst:=[]) (outS:=⟨[.sl 39],[]⟩) (k:=0) (Ex fu) (by kernel_rfl) (fun S h=>nP fu S h) fu
theorem pQ(fu:Nat):zg Tryz.prog (OH (Qp fu)):=
 okC (A:=⟨[Yq (ng fu),AA (Dn fu),Dj (QQ fu)],[],[(10,[(54,none)])],0,[],[],[],some fu⟩) (exS:=⟨[.optr 0, .int .i64],[(0, .row 25)]⟩) Tryz.f16 (memC (wy fu) (memC (BI fu) (memC (fG fu) zw))) (by kernel_rfl) (by kernel_rfl) fun x=>by kernel_rfl
theorem rQ(fu:Nat):zg Tryz.prog (PH (Fj fu)):=
 okC (A:=⟨[Yq (ng fu),Dj (QQ fu)],[],[],0,[],[],[],some fu⟩) (exS:=⟨[.optr 0, .int .i64],[(0, .row 25)]⟩) Tryz.f20 (memC (wy fu) (memC (fG fu) zw)) (by kernel_rfl) (by kernel_rfl) fun x=>by kernel_rfl
theorem TQ(fu:Nat):zg Tryz.prog (sF (Aq fu)):=
 okC (A:=⟨[AA (Dn fu),Xx (Hl fu)],[],[],0,[],[],[],some fu⟩) (exS:=⟨[.str, .int .i64],[]⟩) Tryz.f24 (memC (BI fu) (memC (gG fu) zw)) (by kernel_rfl) (by kernel_rfl) fun x=>by kernel_rfl
theorem JR(fu:Nat):zg Tryz.prog (XG (Pw fu)):=
 okC (A:=⟨[ny (Z9 fu)],[],[],0,[],[],[],some fu⟩) (exS:=⟨[.bool],[]⟩) Tryz.f15 (memC (xH fu) zw) (by kernel_rfl) (by kernel_rfl) fun x=>by kernel_rfl
theorem sS(fu:Nat):zg Tryz.prog (KI (rz fu)):=
 okC (A:=⟨[ny (Z9 fu),Fz (jh fu),LH (Kq fu),OH (Qp fu),Ty (kg fu),PH (Fj fu),Sy (yl fu),sF (Aq fu),XG (Pw fu)],[(17,[1]),(36,[500001,500003]),(40,[16])],[(41,[(45,some 1)])],0,[(25,⟨[39,40],⟨[.str, .int .i64],[]⟩,[0,1,4,7,9,10,11,12,13,15,16,17,19,21,23,25,27,30,32,34,36,38],[1],[],0,[39],⟨[.str],[]⟩,[]⟩),(33,⟨[47],⟨[.int .i64],[(17, .sl 5)]⟩,[0,1,7,9,10,11,12,13,15,16,17,19,21,23,25,27,30,32,34,36,38,42,44,45,46],[16],[17],2,[],⟨[],[(17, .sl 5)]⟩,[17]⟩),(38,⟨[48],⟨[.int .i64],[(18, .slo 65 [.str, .own 6820]),(6820, .sl 72)]⟩,[0,1,7,9,10,11,12,13,15,16,17,19,21,23,25,27,30,32,34,36,38,42,44,45,46],[16,17,19],[18],4,[],⟨[],[(18, .slo 65 [.str, .own 6820]),(6820, .sl 72)]⟩,[18,6820]⟩)],[],[],some fu⟩) (exS:=⟨[.bool],[]⟩) Tryz.f5 (memC (xH fu) (memC (XH fu) (memC (kQ fu) (memC (pQ fu) (memC (uG fu) (memC (rQ fu) (memC (sG fu) (memC (TQ fu) (memC (JR fu) zw))))))))) (by kernel_rfl) (by kernel_rfl) fun x=>by kernel_rfl
end Go.Lv.VT
