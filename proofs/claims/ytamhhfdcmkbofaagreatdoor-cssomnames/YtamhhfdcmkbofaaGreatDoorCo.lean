/- Contracts. -/
import Derived.Test.YtamhhfdcmkbofaaGreatDoorCoa
set_option linter.unusedSimpArgs false
set_option linter.unusedVariables false
namespace Go.Lv.VT
set_option maxRecDepth 100000
open Go.Proofs
theorem NY(fu:Nat):zf Tryz.prog (bY (QZ fu)):=
 okC Tryz.f158 (memC FE zw) (p:=1) (cuts:=[(2,⟨[8],⟨[.int .i64],[]⟩,[0,1,7],[],[],0,[],⟨[],[]⟩,[]⟩)]) (fl:=some fu)
theorem kY(fu:Nat):zf Tryz.prog (wY (Ql fu)):=
 okC Tryz.f103 (memC (NY fu) zw) (p:=1) (fl:=some fu)
theorem XR(fu:Nat):zf Tryz.prog (YS (nC fu)):=
 okC Tryz.f73 (memC (kY fu) zw) (p:=1) (fl:=some fu)
theorem jO(fu:Nat):zf Tryz.prog (KN (VA fu)):=
 okC Tryz.f154 (memC (Xu fu) (memC (XR fu) zw)) (fz:=[(14,[3])]) (cuts:=[(6,⟨[5,24],⟨[.own 1536, .int .i64],[(1536, .sl 9)]⟩,[22,23],[],[],0,[5],⟨[.own 1536],[(1536, .sl 9)]⟩,[1536]⟩)]) (joins:=[(15,⟨[5,24],⟨[.own 1638, .int .i64],[(1638, .sl 9)]⟩,[],[],[],0,[],⟨[],[]⟩,[]⟩)]) (fl:=some fu)
theorem UD(fu:Nat):zf Tryz.prog (iP (Gu fu)):=
 okC Tryz.f98 (memC (Gv fu) (memC (Xu fu) (memC (jO fu) zw))) (fz:=[(16,[3])]) (cuts:=[(11,⟨[42],⟨[.int .i64],[(0, .cells 45 [.int .u8, .nilv, .nilv, .int .u8, .str, .int .i64, .str, .nilv, .bool, .nilv, .nilv, .nilv]),(1, .cells 45 [.int .u8, .nilv, .nilv, .int .u8, .str, .int .i64, .str, .nilv, .bool, .nilv, .own 1639, .nilv]),(1639, .sl 50)]⟩,[40,41],[],[0,1],0,[],⟨[],[(0, .cells 45 [.int .u8, .nilv, .nilv, .int .u8, .str, .int .i64, .str, .nilv, .bool, .nilv, .nilv, .nilv]),(1, .cells 45 [.int .u8, .nilv, .nilv, .int .u8, .str, .int .i64, .str, .nilv, .bool, .nilv, .own 1639, .nilv]),(1639, .sl 50)]⟩,[0,1,1639]⟩)]) (joins:=[(10,⟨[],⟨[],[(0, .cells 45 [.int .u8, .nilv, .nilv, .int .u8, .str, .int .i64, .str, .nilv, .bool, .nilv, .nilv, .nilv]),(1, .cells 45 [.int .u8, .nilv, .nilv, .int .u8, .str, .int .i64, .str, .nilv, .bool, .nilv, .nilv, .nilv])]⟩,[1,4,6,8],[],[0,1],0,[],⟨[],[]⟩,[]⟩)]) (fl:=some fu) (exS:=⟨[.optr 0, .bool],[(0, .row 45)]⟩)
theorem qb:zf Tryz.prog (mU Zz):=
 okC Tryz.f203 zw (p:=1)
theorem qc:zf Tryz.prog (lU ZA):=
 okC Tryz.f204 zw (p:=1) (exS:=⟨[.optr 1],[(0, .row 230),(1, .row 133)]⟩)
theorem qy(fu:Nat):zf Tryz.prog (AV (zN fu)):=
 okC Tryz.f155 (memC qb (memC qc zw)) (p:=1) (cuts:=[(2,⟨[],⟨[],[(0, .row 230)]⟩,[0,2,3],[],[0],0,[],⟨[],[(0, .row 230)]⟩,[0]⟩)]) (fl:=some fu)
theorem Ww(fu:Nat):zf Tryz.prog (jU (qj fu)):=
 okC Tryz.f205 (memC qb (memC (qH fu) (memC qc zw))) (p:=1) (cuts:=[(2,⟨[9],⟨[.int .i64],[(0, .row 230)]⟩,[0,7,8],[],[0],0,[],⟨[],[(0, .row 230)]⟩,[0]⟩)]) (fl:=some fu)
theorem UW(fu:Nat):zf Tryz.prog (mW (Xw fu)):=
 okC Tryz.f207 (memC qb (memC qc (memC (qy fu) (memC (Ww fu) (memC (qH fu) (memC (FD fu) zw)))))) (fz:=[(6,[1])]) (p:=1) (joins:=[(11,⟨[],⟨[],[(1, .cells 42 [.int .u8, .str, .int .i64, .str, .nilv, .bool, .nilv]),(2, .row 230),(3, .cells 42 [.int .u8, .str, .int .i64, .str, .nilv, .bool, .nilv])]⟩,[2,4,5],[0],[1,2,3],0,[],⟨[],[]⟩,[]⟩)]) (fl:=some fu) (exS:=⟨[.optr 1, .bool],[(0, .row 230),(1, .row 42)]⟩)
theorem TV(fu:Nat):zf Tryz.prog (TU (nE fu)):=
 okC Tryz.f156 (memC (qy fu) (memC (Ww fu) (memC qb (memC qc (memC (Zx fu) (memC (GD fu) (memC (UW fu) zw))))))) (fz:=[(3,[1]),(9,[4]),(13,[3]),(17,[1]),(23,[3]),(25,[1])]) (pre:=[(25,[(4,some 6)])]) (p:=1) (cuts:=[(15,⟨[],⟨[],[(0, .row 230),(1, .cells 42 [.int .u8, .str, .int .i64, .str, .nilv, .bool, .nilv]),(2, .cells 42 [.int .u8, .str, .int .i64, .str, .nilv, .bool, .own 1742]),(1742, .sl 42)]⟩,[],[],[0,1,2],0,[],⟨[],[(0, .row 230),(1, .cells 42 [.int .u8, .str, .int .i64, .str, .nilv, .bool, .nilv]),(2, .cells 42 [.int .u8, .str, .int .i64, .str, .nilv, .bool, .own 1742]),(1742, .sl 42)]⟩,[0,1,2,1742]⟩)]) (joins:=[(14,⟨[],⟨[],[(0, .row 230),(1, .cells 42 [.int .u8, .str, .int .i64, .str, .nilv, .bool, .nilv]),(2, .cells 42 [.int .u8, .str, .int .i64, .str, .nilv, .bool, .own 1640]),(1640, .sl 42)]⟩,[0,2,4,5],[],[0,1,2],0,[],⟨[],[]⟩,[]⟩),(26,⟨[],⟨[],[(1, .cells 42 [.int .u8, .str, .int .i64, .str, .nilv, .bool, .nilv]),(2, .cells 42 [.int .u8, .str, .int .i64, .str, .nilv, .bool, .sl 42])]⟩,[],[0],[1,2],0,[],⟨[],[]⟩,[]⟩)]) (fl:=some fu) (exS:=⟨[.optr 1, .bool],[(0, .row 230),(1, .row 42)]⟩)
theorem jC(fu:Nat):zf Tryz.prog (rM (Pt fu)):=
 okC Tryz.f99 (memC (Gv fu) (memC (qy fu) (memC (TV fu) zw))) (fz:=[(17,[1]),(18,[1]),(19,[3])]) (cuts:=[(13,⟨[44],⟨[.int .i64],[(1, .cells 42 [.int .u8, .str, .int .i64, .str, .nilv, .bool, .own 1743]),(1743, .sl 42)]⟩,[7,42,43],[0],[1],0,[],⟨[],[(1, .cells 42 [.int .u8, .str, .int .i64, .str, .nilv, .bool, .own 1743]),(1743, .sl 42)]⟩,[1,1743]⟩)]) (joins:=[(9,⟨[],⟨[],[(0, .cells 42 [.int .u8, .str, .int .i64, .str, .nilv, .bool, .nilv])]⟩,[2,4],[],[0],0,[],⟨[],[]⟩,[]⟩),(19,⟨[],⟨[],[(1, .cells 42 [.int .u8, .str, .int .i64, .str, .nilv, .bool, .own 1743]),(1743, .sl 42),(1745, .row 42)]⟩,[10,44],[],[1,1743,1745],0,[],⟨[],[]⟩,[]⟩)]) (fl:=some fu) (exS:=⟨[.optr 0, .int .i64],[(0, .row 42)]⟩)
theorem oL(fu:Nat):zf Tryz.prog (wK (Cz fu)):=
 okC Tryz.f247 (memC (qz fu) (memC (VB fu) zw)) (fl:=some fu) (exS:=⟨[.optr 0, .bool, .int .i64],[(0, .row 39)]⟩)
theorem gU(fu:Nat)(zY:zo->Option ((zm×Bool)×zo))(h_cond_reader_told:zf Tryz.prog (qm zY)):zf Tryz.prog (kU (Q7 fu zY)):=
 okC Tryz.f208 (memC qb (memC qc (memC (oL fu) (memC h_cond_reader_told zw)))) (p:=1) (fl:=some fu) (exS:=⟨[.optr 1, .bool],[(0, .row 230),(1, .row 42)]⟩)
theorem WU(fu:Nat)(zY:zo->Option ((zm×Bool)×zo))(hs:zf Tryz.prog (qm zY)):zf Tryz.prog (qm (iw fu zY)):=
 okC Tryz.f157 (memC (qy fu) (memC (Ww fu) (memC (gU fu zY hs) zw))) (fz:=[(2,[1]),(6,[1]),(15,[5]),(23,[3])]) (p:=1) (cuts:=[(14,⟨[9],⟨[.bool],[(0, .row 230),(1, .cells 42 [.int .u8, .str, .int .i64, .str, .nilv, .bool, .nilv]),(5, .cells 42 [.int .u8, .str, .int .i64, .str, .nilv, .bool, .own 1744]),(1744, .sl 42)]⟩,[0,2,10],[],[0,1,5],0,[],⟨[],[(0, .row 230),(1, .cells 42 [.int .u8, .str, .int .i64, .str, .nilv, .bool, .nilv]),(5, .cells 42 [.int .u8, .str, .int .i64, .str, .nilv, .bool, .own 1744]),(1744, .sl 42)]⟩,[0,1,5,1744]⟩)]) (fl:=some fu) (exS:=⟨[.optr 1, .bool],[(0, .row 230),(1, .row 42)]⟩)
theorem fU(fu:Nat):zf Tryz.prog (qm (zY fu)):=ic (qm (zY fu)) (iw fu) (fun S h=>WU fu S h) fu
theorem wD(fu:Nat):zf Tryz.prog (SS (Ov fu)):=
 okC Tryz.f100 (memC (qz fu) (memC (fU fu) (memC (Qo fu) zw))) (fl:=some fu) (exS:=⟨[.optr 0, .int .i64],[(0, .row 42)]⟩)
theorem LW(fu:Nat):zf Tryz.prog (kV (DF fu)):=
 okC Tryz.f65 (memC (UD fu) (memC (jC fu) (memC (wD fu) zw))) (p:=1) (joins:=[(13,⟨[13],⟨[.bool],[(0, .row 92),(1, .cells 45 [.int .u8, .nilv, .nilv, .int .u8, .str, .int .i64, .str, .nilv, .bool, .nilv, .nilv, .nilv]),(2, .row 45)]⟩,[0,4,10,12],[],[0,1,2],0,[],⟨[],[]⟩,[]⟩)]) (fl:=some fu) (exS:=⟨[.optr 1, .bool],[(0, .row 92),(1, .row 45)]⟩)
theorem MV(fu:Nat)(zX:(List ze×Bool)×zx->Option (List zA×zx))(h_sheet_parser_rules:zf Tryz.prog (ZW zX)):zf Tryz.prog (MU (UE fu zX)):=
 okC Tryz.f65 (memC (RQ fu) (memC (UD fu) (memC (jC fu) (memC (wD fu) (memC h_sheet_parser_rules zw))))) (p:=1) (joins:=[(13,⟨[13],⟨[.bool],[(0, .row 92),(1, .cells 45 [.int .u8, .nilv, .nilv, .int .u8, .str, .int .i64, .str, .nilv, .bool, .nilv, .nilv, .nilv]),(2, .row 45)]⟩,[0,4,10,12],[],[0,1,2],0,[],⟨[],[]⟩,[]⟩),(18,⟨[],⟨[],[(0, .row 92),(1, .cells 45 [.int .u8, .nilv, .nilv, .int .u8, .str, .int .i64, .str, .nilv, .bool, .nilv, .nilv, .nilv]),(2, .row 45)]⟩,[],[],[0,1,2],0,[],⟨[],[]⟩,[]⟩)]) (fl:=some fu) (exS:=⟨[.optr 1, .bool],[(0, .row 92),(1, .row 45)]⟩)
theorem uV(fu:Nat)(zX:(List ze×Bool)×zx->Option (List zA×zx))(hs:zf Tryz.prog (ZW zX)):zf Tryz.prog (ZW (QN fu zX)):=
 okC Tryz.f44 (memC nO (memC (Zx fu) (memC (PQ fu) (memC (MV fu zX hs) (memC (LW fu) zw))))) (fz:=[(10,[7]),(22,[2])]) (p:=1) (cuts:=[(2,⟨[1,7],⟨[.sl 133, .own 1745],[(0, .row 92),(1745, .sl 45)]⟩,[0,2,6],[],[0],0,[7],⟨[.own 1745],[(0, .row 92),(1745, .sl 45)]⟩,[0,1745]⟩)]) (joins:=[(8,⟨[1,7],⟨[.sl 133, .own 1745],[(0, .row 92),(1745, .sl 45)]⟩,[8],[],[0,1745],0,[],⟨[],[]⟩,[]⟩),(12,⟨[1,7,9,10],⟨[.sl 133, .own 1745, .str, .own 1848],[(0, .row 92),(1745, .sl 45),(1848, .sl 5)]⟩,[],[],[0,1745],0,[],⟨[],[]⟩,[]⟩),(19,⟨[1,7],⟨[.sl 133, .own 1745],[(0, .row 92),(1745, .sl 45)]⟩,[9,11,12],[],[0,1745],0,[],⟨[],[]⟩,[]⟩)]) (fl:=some fu)
theorem gF(fu:Nat):zf Tryz.prog (ZW (zX fu)):=ic (ZW (zX fu)) (QN fu) (fun S h=>uV fu S h) fu
theorem uC(fu:Nat):zf Tryz.prog (JN (Tt fu)):=
 okC Tryz.f29 (memC (Bw fu) (memC GA (memC (gF fu) zw))) (fl:=some fu)
theorem pO(fu:Nat):zf Tryz.prog (PN (Lj fu)):=
 okC Tryz.f20 (memC (uC fu) zw) (fl:=some fu) (exS:=⟨[.optr 0, .int .i64],[(0, .row 49)]⟩)
theorem aD(fu:Nat):zf Tryz.prog (nP (uu fu)):=
 okC Tryz.f29 (memC (Bw fu) (memC GA (memC (gF fu) zw))) (fl:=some fu)
theorem CR(fu:Nat):zf Tryz.prog (vP (lm fu)):=
 okC Tryz.f20 (memC (aD fu) zw) (fl:=some fu) (exS:=⟨[.optr 0, .int .i64],[(0, .row 49)]⟩)
theorem BR(fu:Nat):zf Tryz.prog (uP (yu fu)):=
 zf.told (I:=I) (P:=Tryz.prog) (Fn:=fun b:Bool=>cond b (Lj fu) (lm fu)) true (fun b=>match b with|true=>pO fu|false=>CR fu) (fun x y h=>by
  unfold yu at h;exact alt2 (A:=(Lj fu)) (B:=(lm fu)) h)
theorem oW(fu:Nat):zf Tryz.prog (kF (vE fu)):=
 okC Tryz.f51 zw (fl:=some fu)
theorem eF(fu:Nat):zf Tryz.prog (kF (Qi fu)):=(oW fu).le (bV fu)
theorem xV(fu:Nat):zf Tryz.prog (MF (YF fu)):=
 okC Tryz.f52 zw (fl:=some fu)
theorem MG(fu:Nat):zf Tryz.prog (MF (qR fu)):=(xV fu).le (WW fu)
theorem nW(fu:Nat)(Zr:List zh->Option (List zh))(hs:zf Tryz.prog (qo Zr)):zf Tryz.prog (qo (Qw fu Zr)):=
 okC Tryz.f35 (memC (eF fu) (memC (MG fu) (memC hs zw))) (fz:=[(16,[2]),(19,[2])]) (pre:=[(16,[(8,some 1)]),(19,[(55,none),(5,some 2)])]) (cuts:=[(3,⟨[3,12],⟨[.own 1850, .int .i64],[(1850, .sl 74)]⟩,[2,10,11],[],[],0,[3],⟨[.own 1850],[(1850, .sl 74)]⟩,[1850]⟩),(8,⟨[6,23],⟨[.own 1849, .int .i64],[(1849, .sl 71)]⟩,[3,5,12,21,22],[1850,1851,1852],[],2,[6],⟨[.own 1849],[(1849, .sl 71)]⟩,[1849]⟩),(12,⟨[34],⟨[.int .i64],[(1854, .sl 78)]⟩,[6,8,23,33],[1849,1853],[1854],4,[],⟨[],[(1854, .sl 78)]⟩,[1854]⟩)]) (fl:=some fu)
theorem KW(fu:Nat):zf Tryz.prog (qo (Zr fu)):=ic (qo (Zr fu)) (Qw fu) (fun S h=>nW fu S h) fu
theorem VU(fu:Nat)(ZC:List ze->Option (List ze))(hs:zf Tryz.prog (Qd ZC)):zf Tryz.prog (Qd (Yw fu ZC)):=
 okC Tryz.f53 (memC hs zw) (fz:=[(6,[2])]) (cuts:=[(3,⟨[3,8],⟨[.own 1851, .int .i64],[(1851, .sl 133)]⟩,[2,6,7],[],[],0,[3],⟨[.own 1851],[(1851, .sl 133)]⟩,[1851]⟩)]) (fl:=some fu)
theorem LF(fu:Nat):zf Tryz.prog (Qd (ZC fu)):=ic (Qd (ZC fu)) (Yw fu) (fun S h=>VU fu S h) fu
theorem jT(fu:Nat):zf Tryz.prog (wS (rD fu)):=
 okC Tryz.f36 (memC (LF fu) zw) (fz:=[(6,[2])]) (cuts:=[(3,⟨[3,8],⟨[.own 1852, .int .i64],[(1852, .sl 39)]⟩,[2,6,7],[],[],0,[3],⟨[.own 1852],[(1852, .sl 39)]⟩,[1852]⟩)]) (fl:=some fu)
theorem DT(fu:Nat)(Z6:zm->Option zm)(hs:zf Tryz.prog (Q6 Z6)):zf Tryz.prog (Q6 (Mw fu Z6)):=
 okC Tryz.f37 (memC (LF fu) (memC hs zw)) (fz:=[(6,[3])]) (cuts:=[(4,⟨[3,15],⟨[.own 1853, .int .i64],[(1853, .sl 42)]⟩,[1,2,13,14],[0,1],[],0,[3],⟨[.own 1853],[(1853, .sl 42)]⟩,[1853]⟩)]) (fl:=some fu) (exS:=⟨[.optr 0],[(0, .row 42)]⟩)
theorem jS(fu:Nat):zf Tryz.prog (Q6 (Z6 fu)):=ic (Q6 (Z6 fu)) (Mw fu) (fun S h=>DT fu S h) fu
theorem wV(fu:Nat):zf Tryz.prog (iF (XF fu)):=
 okC Tryz.f38 zw (fl:=some fu)
theorem LG(fu:Nat):zf Tryz.prog (iF (slices_Clone_string fu)):=(wV fu).le (VW fu)
theorem DW(fu:Nat):zf Tryz.prog (bW (slices_Clone_string fu)):=OA ipOK (by kernel_rfl) (LG fu)
theorem fT(fu:Nat)(Zy:List zA->Option (List zA))(hs:zf Tryz.prog (QC Zy)):zf Tryz.prog (QC (Ew fu Zy)):=
 okC Tryz.f24 (memC (KW fu) (memC (jT fu) (memC (jS fu) (memC (DW fu) (memC hs zw))))) (fz:=[(12,[3]),(16,[2])]) (pre:=[(16,[(40,none)])]) (cuts:=[(3,⟨[3,11],⟨[.own 1855, .int .i64],[(1855, .sl 45)]⟩,[2,9,10],[],[],0,[3],⟨[.own 1855],[(1855, .sl 45)]⟩,[1855]⟩),(10,⟨[6,30],⟨[.own 1854, .int .i64],[(1854, .sl 50)]⟩,[3,5,11,28,29],[1855,1856],[],2,[6],⟨[.own 1854],[(1854, .sl 50)]⟩,[1854]⟩)]) (fl:=some fu)
theorem dw(fu:Nat):zf Tryz.prog (QC (Zy fu)):=ic (QC (Zy fu)) (Ew fu) (fun S h=>fT fu S h) fu
theorem tC(fu:Nat):zf Tryz.prog (vN (Rt fu)):=
 okC Tryz.f21 (memC (dw fu) zw) (fz:=[(6,[2])]) (cuts:=[(3,⟨[3,9],⟨[.own 1856, .int .i64],[(1856, .sl 68)]⟩,[1,2,7,8],[0,1],[],0,[3],⟨[.own 1856],[(1856, .sl 68)]⟩,[1856]⟩)]) (fl:=some fu) (exS:=⟨[.optr 0],[(0, .row 24)]⟩)
theorem WC(fu:Nat):zf Tryz.prog (jL (Ls fu)):=
 okC Tryz.f7 (memC (TD fu) (memC (BR fu) (memC (tC fu) zw))) (fz:=[(13,[11])]) (fl:=some fu) (exS:=⟨[.optr 0, .int .i64, .int .i64],[(0, .row 24)]⟩)
theorem xC(fu:Nat):zf Tryz.prog (EP (Ru fu)):=
 okC Tryz.f4 (memC (WC fu) zw) (fl:=some fu) (exS:=⟨[.optr 0, .bool],[(0, .row 24)]⟩)
theorem fO:zf Tryz.prog (wN UA):=
 okC Tryz.f33 zw (p:=1)
theorem xW(fu:Nat):zf Tryz.prog (UX (TF fu)):=
 okC Tryz.f32 (memC fO zw) (p:=1) (cuts:=[(2,⟨[8],⟨[.int .i64],[]⟩,[0,1,7],[],[],0,[],⟨[],[]⟩,[]⟩)]) (fl:=some fu)
theorem UB(fu:Nat):zf Tryz.prog (tK (Tq fu)):=
 okC Tryz.f22 (memC (TD fu) (memC (xW fu) zw)) (fl:=some fu)
theorem VC(fu:Nat):zf Tryz.prog (iL (Ir fu)):=
 okC Tryz.f26 (memC (UB fu) (memC (tC fu) zw)) (fl:=some fu) (exS:=⟨[.optr 0, .int .i64],[(0, .row 68)]⟩)
theorem Pv(fu:Nat):zf Tryz.prog (sN (Pm fu)):=
 okC Tryz.f15 (memC (VC fu) zw) (fl:=some fu) (exS:=⟨[.optr 0, .int .i64],[(0, .row 49)]⟩)
theorem oO(fu:Nat):zf Tryz.prog (NN (Kj fu)):=
 okC Tryz.f16 (memC (uC fu) zw) (fl:=some fu) (exS:=⟨[.optr 0, .int .i64],[(0, .row 45)]⟩)
theorem AR(fu:Nat):zf Tryz.prog (sP (jm fu)):=
 okC Tryz.f16 (memC (aD fu) zw) (fl:=some fu) (exS:=⟨[.optr 0, .int .i64],[(0, .row 45)]⟩)
theorem yQ(fu:Nat):zf Tryz.prog (rP (xu fu)):=
 zf.told (I:=I) (P:=Tryz.prog) (Fn:=fun b:Bool=>cond b (Kj fu) (jm fu)) true (fun b=>match b with|true=>oO fu|false=>AR fu) (fun x y h=>by
  unfold xu at h;exact alt2 (A:=(Kj fu)) (B:=(jm fu)) h)
theorem kT(fu:Nat):zf Tryz.prog (xS (iD fu)):=
 okC Tryz.f30 (memC (VD fu) zw) (fz:=[(1,[1])]) (fl:=some fu)
theorem nV(fu:Nat):zf Tryz.prog (yE (dE fu)):=
 okC Tryz.f45 zw (fl:=some fu)
theorem JV(fu:Nat):zf Tryz.prog (yE (Fw fu)):=(nV fu).le (VV fu)
theorem pW(fu:Nat):zf Tryz.prog (OG (JG fu)):=
 okC Tryz.f66 zw (fl:=some fu)
theorem EW(fu:Nat):zf Tryz.prog (OG (QO fu)):=(pW fu).le (dX fu)
theorem vX(fu:Nat):zf Tryz.prog (GG (CG fu)):=
 okC Tryz.f67 zw (fl:=some fu)
theorem DX(fu:Nat):zf Tryz.prog (GG (Qs fu)):=(vX fu).le (IX fu)
theorem gT(fu:Nat)(ZQ:List zh->Option (List zh))(hs:zf Tryz.prog (QB ZQ)):zf Tryz.prog (QB (Iw fu ZQ)):=
 okC Tryz.f46 (memC (EW fu) (memC (DX fu) (memC (eF fu) (memC (MG fu) (memC hs zw))))) (cuts:=[(3,⟨[12],⟨[.int .i64],[(0, .sl 74)]⟩,[0,2,11],[],[0],0,[],⟨[],[(0, .sl 74)]⟩,[0]⟩),(8,⟨[39],⟨[.int .i64],[(1, .sl 71)]⟩,[4,12,38],[0,2],[1],2,[],⟨[],[(1, .sl 71)]⟩,[1]⟩),(12,⟨[53],⟨[.int .i64],[(3, .sl 78)]⟩,[5,6,39,52],[1],[3],4,[],⟨[],[(3, .sl 78)]⟩,[3]⟩)]) (fl:=some fu)
theorem rT(fu:Nat):zf Tryz.prog (QB (ZQ fu)):=ic (QB (ZQ fu)) (Iw fu) (fun S h=>gT fu S h) fu
theorem oV(fu:Nat):zf Tryz.prog (BF (fE fu)):=
 okC Tryz.f68 zw (fl:=some fu)
theorem KV(fu:Nat):zf Tryz.prog (BF (Gw fu)):=(oV fu).le (WV fu)
theorem PR(fu:Nat)(qA:List ze->Option (List ze))(hs:zf Tryz.prog (Un qA)):zf Tryz.prog (Un (Tv fu qA)):=
 okC Tryz.f69 (memC (fF fu) (memC hs zw)) (cuts:=[(3,⟨[8],⟨[.int .i64],[(0, .sl 133)]⟩,[0,2,7],[],[0],0,[],⟨[],[(0, .sl 133)]⟩,[0]⟩)]) (fl:=some fu)
theorem eD(fu:Nat):zf Tryz.prog (Un (qA fu)):=ic (Un (qA fu)) (Tv fu) (fun S h=>PR fu S h) fu
theorem WQ(fu:Nat):zf Tryz.prog (uO (cB fu)):=
 okC Tryz.f47 (memC (KV fu) (memC (eD fu) zw)) (cuts:=[(3,⟨[8],⟨[.int .i64],[(0, .sl 39)]⟩,[0,2,7],[],[0],0,[],⟨[],[(0, .sl 39)]⟩,[0]⟩)]) (fl:=some fu)
theorem pV(fu:Nat):zf Tryz.prog (CF (iE fu)):=
 okC Tryz.f70 zw (fl:=some fu)
theorem LV(fu:Nat):zf Tryz.prog (CF (Hw fu)):=(pV fu).le (nU fu)
theorem iT(fu:Nat)(ZP:zm->Option zm)(hs:zf Tryz.prog (QA ZP)):zf Tryz.prog (QA (Jw fu ZP)):=
 okC Tryz.f48 (memC (eD fu) (memC (LV fu) (memC hs zw))) (cuts:=[(4,⟨[17],⟨[.int .i64],[(2, .sl 42)]⟩,[1,2,16],[0,1],[2],0,[],⟨[],[(2, .sl 42)]⟩,[2]⟩)]) (fl:=some fu) (exS:=⟨[.optr 0],[(0, .row 42)]⟩)
theorem tT(fu:Nat):zf Tryz.prog (QA (ZP fu)):=ic (QA (ZP fu)) (Jw fu) (fun S h=>iT fu S h) fu
theorem uX(fu:Nat):zf Tryz.prog (EG (BG fu)):=
 okC Tryz.f49 zw (fl:=some fu)
theorem CX(fu:Nat):zf Tryz.prog (EG (Qt fu)):=(uX fu).le (GX fu)
theorem wM(fu:Nat)(QG:List zA->Option (List zA))(hs:zf Tryz.prog (Dn QG)):zf Tryz.prog (Dn (eu fu QG)):=
 okC Tryz.f31 (memC (JV fu) (memC (rT fu) (memC (WQ fu) (memC (tT fu) (memC hs (memC (CX fu) (memC (LG fu) zw))))))) (cuts:=[(3,⟨[10],⟨[.int .i64],[(0, .sl 45)]⟩,[0,2,9],[],[0],0,[],⟨[],[(0, .sl 45)]⟩,[0]⟩),(9,⟨[61],⟨[.int .i64],[(1, .sl 50)]⟩,[4,10,60],[0],[1],2,[],⟨[],[(1, .sl 50)]⟩,[1]⟩)]) (fl:=some fu)
theorem vC(fu:Nat):zf Tryz.prog (Dn (QG fu)):=ic (Dn (QG fu)) (eu fu) (fun S h=>wM fu S h) fu
theorem FR(fu:Nat):zf Tryz.prog (BQ (OC fu)):=
 okC Tryz.f17 (memC (QT fu) (memC (kT fu) (memC (vC fu) zw))) (pre:=[(10,[(54,none)])]) (fl:=some fu) (exS:=⟨[.optr 0, .int .i64],[(0, .row 49)]⟩)
theorem wQ(fu:Nat):zf Tryz.prog (rQ (gB fu)):=
 okC Tryz.f21 (memC (dw fu) zw) (fz:=[(6,[2])]) (cuts:=[(3,⟨[3,9],⟨[.own 1857, .int .i64],[(1857, .sl 68)]⟩,[1,2,7,8],[0,1],[],0,[3],⟨[.own 1857],[(1857, .sl 68)]⟩,[1857]⟩)]) (fl:=some fu) (exS:=⟨[.optr 1],[(1, .cells 24 [.own 0, .int .i64]),(0, .sl 68)]⟩)
theorem su(fu:Nat):zf Tryz.prog (gL (Gj fu)):=
 okC Tryz.f9 (memC (UB fu) (memC (QT fu) (memC (wQ fu) (memC (dw fu) zw)))) (fl:=some fu) (exS:=⟨[.optr 0, .int .i64],[(0, .row 24)]⟩)
theorem av(fu:Nat):zf Tryz.prog (KQ (ZN fu)):=
 okC Tryz.f5 (memC (Pv fu) (memC (yQ fu) (memC (FR fu) (memC (su fu) zw)))) (fl:=some fu) (exS:=⟨[.optr 0, .int .i64],[(0, .row 24)]⟩)
theorem GR(fu:Nat):zf Tryz.prog (CQ (SC fu)):=
 okC Tryz.f18 (memC (QT fu) (memC (vC fu) zw)) (fl:=some fu) (exS:=⟨[.optr 0, .int .i64],[(0, .row 49)]⟩)
theorem fD(fu:Nat):zf Tryz.prog (LQ (Gi fu)):=
 okC Tryz.f6 (memC (Pv fu) (memC (GR fu) (memC (su fu) zw))) (fl:=some fu) (exS:=⟨[.optr 0, .int .i64],[(0, .row 24)]⟩)
theorem VO(fu:Nat):zf Tryz.prog (YN (jA fu)):=
 okC Tryz.f8 zw (fz:=[(3,[500001]),(7,[8]),(8,[1])]) (pre:=[(8,[(2,some 1)])]) (cuts:=[(5,⟨[3],⟨[.int .i64],[(2, .slo 71 [.str, .own 1858]),(1858, .sl 78)]⟩,[0,1,2],[0,1,3],[2],0,[],⟨[],[(2, .slo 71 [.str, .own 1858]),(1858, .sl 78)]⟩,[2,1858]⟩)]) (fl:=some fu) (exS:=⟨[.optr 0],[(0, .row 45)]⟩)
theorem Zo:zf Tryz.prog (FZ zD):=
 okC Tryz.f126 (memC ay zw) (p:=2)
theorem ZZ:zf Tryz.prog (aY Za):=
 okC Tryz.f174 (memC ay zw) (fz:=[(2,[6])]) (p:=2)
theorem Mv:zf Tryz.prog (gN ql):=
 okC Tryz.f183 (memC Zg zw)
theorem Q8:zf Tryz.prog (NS ZY):=
 okC Tryz.f227 (memC Yj (memC DD (memC tL zw))) (fz:=[(2,[2]),(3,[1]),(5,[1])]) (p:=1)
theorem BD(fu:Nat):zf Tryz.prog (NP (gm fu)):=
 okC Tryz.f182 (memC Kv (memC Yj (memC Q8 zw))) (fz:=[(6,[2])]) (cuts:=[(2,⟨[0,11],⟨[.own 2171, .int .i64],[(2171, .sl 5)]⟩,[1,2,6,10],[],[],0,[0],⟨[.own 2171],[(2171, .sl 5)]⟩,[2171]⟩)]) (joins:=[(8,⟨[0,11],⟨[.own 2273, .int .i64],[(2273, .sl 5)]⟩,[],[],[],0,[],⟨[],[]⟩,[]⟩)]) (fl:=some fu)
theorem yC(fu:Nat):zf Tryz.prog (MP (Z9 fu)):=
 okC Tryz.f182 (memC Kv (memC Yj (memC Q8 zw))) (fz:=[(6,[2])]) (p:=1) (cuts:=[(2,⟨[0,11],⟨[.own 2275, .int .i64],[(2275, .sl 5)]⟩,[1,2,6,10],[],[],0,[0],⟨[.own 2275],[(2275, .sl 5)]⟩,[2275]⟩)]) (joins:=[(8,⟨[0,11],⟨[.own 2377, .int .i64],[(2377, .sl 5)]⟩,[],[],[],0,[],⟨[],[]⟩,[]⟩)]) (fl:=some fu)
theorem iR:zf Tryz.prog (MS Rn):=
 okC Tryz.f289 (memC WB (memC Ws (memC EA zw))) (fz:=[(2,[1]),(6,[1])]) (joins:=[(3,⟨[0,1],⟨[.own 2586, .int .i64],[(2586, .sl 5)]⟩,[2],[],[],0,[],⟨[],[]⟩,[]⟩),(9,⟨[0],⟨[.own 2689],[(2689, .sl 5)]⟩,[],[],[],0,[],⟨[],[]⟩,[]⟩)])
theorem aC:zf Tryz.prog (dN Ht):=
 okC Tryz.f290 zw (exS:=⟨[.optr 0],[(0, .row 368)]⟩)
theorem gQ(fu:Nat):zf Tryz.prog (LP (NB fu)):=
 okC Tryz.f256 (memC Mv (memC (BD fu) (memC (yC fu) (memC Zh (memC Q8 (memC iR (memC Yv (memC Zg (memC aC zw))))))))) (fz:=[(5,[7]),(7,[1]),(12,[1]),(14,[1]),(20,[2]),(22,[1]),(30,[2]),(32,[1]),(38,[4])]) (cuts:=[(16,⟨[0,67],⟨[.own 2379, .int .i64],[(2379, .sl 5)]⟩,[3,4,65,66],[0,3],[],1,[0],⟨[.own 2379],[(2379, .sl 5)]⟩,[2379]⟩),(26,⟨[0,93],⟨[.own 2483, .int .i64],[(2483, .sl 5)]⟩,[3,4,91,92],[0,2],[],3,[0],⟨[.own 2483],[(2483, .sl 5)]⟩,[2483]⟩)]) (joins:=[(12,⟨[5],⟨[.int .i64],[]⟩,[0,3],[0],[],0,[],⟨[],[]⟩,[]⟩),(21,⟨[0,67],⟨[.own 2481, .int .i64],[(2481, .sl 5)]⟩,[],[],[],0,[],⟨[],[]⟩,[]⟩),(31,⟨[0,93],⟨[.own 2585, .int .i64],[(2585, .sl 5)]⟩,[],[],[],0,[],⟨[],[]⟩,[]⟩)]) (fl:=some fu)
theorem nL(fu:Nat):zf Tryz.prog (uK (wy fu)):=
 okC Tryz.f219 (memC xB (memC (gQ fu) zw)) (fl:=some fu)
theorem qP(fu:Nat):zf Tryz.prog (dW (Zv fu)):=
 okC Tryz.f175 (memC (nL fu) (memC Zo zw)) (p:=2) (fl:=some fu)
theorem vW:zf Tryz.prog (OX stringslite_HasSuffix):=
 okC Tryz.f314 zw
theorem xX:zf Tryz.prog (JY stringslite_TrimSuffix):=
 okC Tryz.f292 (memC vW zw)
theorem sV:zf Tryz.prog (uU strings_TrimSuffix):=
 okC Tryz.f258 (memC xX zw)
theorem uL:zf Tryz.prog (AL Sz):=
 okC Tryz.f221 (memC FC (memC Ws (memC sV zw))) (joins:=[(10,⟨[6],⟨[.str],[]⟩,[1,5],[0],[],0,[],⟨[],[]⟩,[]⟩),(15,⟨[6],⟨[.str],[]⟩,[],[],[],0,[],⟨[],[]⟩,[]⟩)])
theorem FX(fu:Nat)(zO:zy×List UInt8->Option (List UInt8))(h_seltext_writer_simple:zf Tryz.prog (ZG zO)):zf Tryz.prog (XX (aF fu zO)):=
 okC Tryz.f127 (memC Zo (memC ZZ (memC (qP fu) (memC h_seltext_writer_simple zw)))) (p:=2) (cuts:=[(1,⟨[13],⟨[.int .i64],[(0, .cells 204 [.nop 0 204 2, .own 4647]),(4647, .sl 5)]⟩,[0,11,12],[],[0],0,[],⟨[],[(0, .cells 204 [.nop 0 204 2, .own 4647]),(4647, .sl 5)]⟩,[0,4647]⟩),(9,⟨[40],⟨[.int .i64],[(0, .cells 204 [.nop 0 204 2, .own 5161]),(5161, .sl 5)]⟩,[38,39],[],[0],2,[],⟨[],[(0, .cells 204 [.nop 0 204 2, .own 5161]),(5161, .sl 5)]⟩,[0,5161]⟩),(19,⟨[77],⟨[.int .i64],[(0, .cells 204 [.nop 0 204 2, .own 5468]),(5468, .sl 5)]⟩,[75,76],[],[0],5,[],⟨[],[(0, .cells 204 [.nop 0 204 2, .own 5468]),(5468, .sl 5)]⟩,[0,5468]⟩)]) (joins:=[(5,⟨[],⟨[],[(0, .cells 204 [.nop 0 204 2, .own 4750]),(4750, .sl 5)]⟩,[5,13],[4648],[0],0,[],⟨[],[]⟩,[]⟩),(8,⟨[],⟨[],[(0, .cells 204 [.nop 0 204 2, .own 4853]),(4853, .sl 5)]⟩,[6],[4751],[0],0,[],⟨[],[]⟩,[]⟩),(13,⟨[],⟨[],[(0, .cells 204 [.nop 0 204 2, .own 5264]),(5264, .sl 5)]⟩,[8,40],[5162],[0],0,[],⟨[],[]⟩,[]⟩),(18,⟨[],⟨[],[(0, .cells 204 [.nop 0 204 2, .own 5366]),(5366, .sl 5)]⟩,[],[],[0],0,[],⟨[],[]⟩,[]⟩)]) (fl:=some fu)
theorem bX(fu:Nat)(zO:zy×List UInt8->Option (List UInt8))(hs:zf Tryz.prog (ZG zO)):zf Tryz.prog (ZG (qQ fu zO)):=
 okC Tryz.f176 (memC (qP fu) (memC ZZ (memC Zo (memC Pw (memC uL (memC (FX fu zO hs) zw)))))) (p:=2) (joins:=[(14,⟨[],⟨[],[(0, .cells 204 [.nop 0 204 2, .own 2691]),(2691, .sl 5)]⟩,[0,3],[2],[0],0,[],⟨[],[]⟩,[]⟩),(16,⟨[],⟨[],[(0, .cells 204 [.nop 0 204 2, .own 2793]),(2793, .sl 5)]⟩,[],[],[0],0,[],⟨[],[]⟩,[]⟩),(27,⟨[],⟨[],[(0, .cells 204 [.nop 0 204 2, .own 2794]),(2794, .sl 5)]⟩,[0,3],[2],[0],0,[],⟨[],[]⟩,[]⟩)]) (fl:=some fu)
theorem EX(fu:Nat):zf Tryz.prog (ZG (zO fu)):=ic (ZG (zO fu)) (qQ fu) (fun S h=>bX fu S h) fu
theorem MW(fu:Nat):zf Tryz.prog (lV (JF fu)):=
 okC Tryz.f127 (memC Zo (memC ZZ (memC (qP fu) (memC (EX fu) zw)))) (p:=1) (cuts:=[(1,⟨[13],⟨[.int .i64],[(0, .cells 204 [.nop 0 204 2, .own 1860]),(1860, .sl 5)]⟩,[0,11,12],[],[0],0,[],⟨[],[(0, .cells 204 [.nop 0 204 2, .own 1860]),(1860, .sl 5)]⟩,[0,1860]⟩),(9,⟨[40],⟨[.int .i64],[(0, .cells 204 [.nop 0 204 2, .own 5470]),(5470, .sl 5)]⟩,[38,39],[],[0],2,[],⟨[],[(0, .cells 204 [.nop 0 204 2, .own 5470]),(5470, .sl 5)]⟩,[0,5470]⟩),(19,⟨[77],⟨[.int .i64],[(0, .cells 204 [.nop 0 204 2, .own 5777]),(5777, .sl 5)]⟩,[75,76],[],[0],5,[],⟨[],[(0, .cells 204 [.nop 0 204 2, .own 5777]),(5777, .sl 5)]⟩,[0,5777]⟩)]) (joins:=[(5,⟨[],⟨[],[(0, .cells 204 [.nop 0 204 2, .own 1963]),(1963, .sl 5)]⟩,[5,13],[1861],[0],0,[],⟨[],[]⟩,[]⟩),(8,⟨[],⟨[],[(0, .cells 204 [.nop 0 204 2, .own 2066]),(2066, .sl 5)]⟩,[6],[1964],[0],0,[],⟨[],[]⟩,[]⟩),(13,⟨[],⟨[],[(0, .cells 204 [.nop 0 204 2, .own 5573]),(5573, .sl 5)]⟩,[8,40],[5471],[0],0,[],⟨[],[]⟩,[]⟩),(18,⟨[],⟨[],[(0, .cells 204 [.nop 0 204 2, .own 5675]),(5675, .sl 5)]⟩,[],[],[0],0,[],⟨[],[]⟩,[]⟩)]) (fl:=some fu)
theorem JW:zf Tryz.prog (iV bE):=
 okC Tryz.f55 zw (p:=2)
theorem dD(fu:Nat):zf Tryz.prog (AQ (cu fu)):=
 okC Tryz.f85 (memC (uD fu) (memC (MW fu) (memC JW (memC bH zw)))) (fz:=[(4,[400000])]) (fl:=some fu)
theorem wW:zf Tryz.prog (SX SF):=
 okC Tryz.f55 zw (p:=1)
theorem DZ:zf Tryz.prog (pY qV):=
 okC Tryz.f126 (memC jJ zw) (p:=1)
theorem dU:zf Tryz.prog (eT EE):=
 okC Tryz.f84 (memC wW (memC DZ zw)) (p:=1)
theorem uF:zf Tryz.prog (RX Qx):=
 okC Tryz.f55 zw (p:=2)
theorem CZ:zf Tryz.prog (nY qW):=
 okC Tryz.f126 (memC mI zw) (p:=2)
theorem ZO:zf Tryz.prog (yU zC):=
 okC Tryz.f84 (memC uF (memC CZ zw)) (p:=2)
theorem Yu(fu:Nat):zf Tryz.prog (mM (Am fu)):=
 okC Tryz.f133 (memC Zh (memC Mv (memC (BD fu) zw))) (fl:=some fu)
theorem dR:zf Tryz.prog (KS Pn):=
 okC Tryz.f289 (memC WB (memC Ws (memC EA zw))) (fz:=[(2,[1]),(6,[1])]) (p:=1) (joins:=[(3,⟨[0,1],⟨[.own 5987, .int .i64],[(5987, .sl 5)]⟩,[2],[],[],0,[],⟨[],[]⟩,[]⟩),(9,⟨[0],⟨[.own 6090],[(6090, .sl 5)]⟩,[],[],[],0,[],⟨[],[]⟩,[]⟩)])
theorem fQ(fu:Nat):zf Tryz.prog (KP (MB fu)):=
 okC Tryz.f256 (memC Mv (memC (yC fu) (memC Zh (memC Q8 (memC dR (memC Yv (memC Zg (memC aC zw)))))))) (fz:=[(5,[7]),(7,[1]),(12,[1]),(14,[1]),(20,[2]),(22,[1]),(30,[2]),(32,[1]),(38,[4])]) (p:=1) (cuts:=[(16,⟨[0,67],⟨[.own 5780, .int .i64],[(5780, .sl 5)]⟩,[3,4,65,66],[1,4],[],1,[0],⟨[.own 5780],[(5780, .sl 5)]⟩,[5780]⟩),(26,⟨[0,93],⟨[.own 5884, .int .i64],[(5884, .sl 5)]⟩,[3,4,91,92],[1,3],[],3,[0],⟨[.own 5884],[(5884, .sl 5)]⟩,[5884]⟩)]) (joins:=[(12,⟨[5],⟨[.int .i64],[(0, .sl 5)]⟩,[0,3],[1],[0],0,[],⟨[],[]⟩,[]⟩),(21,⟨[0,67],⟨[.own 5882, .int .i64],[(5882, .sl 5)]⟩,[],[],[],0,[],⟨[],[]⟩,[]⟩),(31,⟨[0,93],⟨[.own 5986, .int .i64],[(5986, .sl 5)]⟩,[],[],[],0,[],⟨[],[]⟩,[]⟩)]) (fl:=some fu)
theorem YV(fu:Nat):zf Tryz.prog (xU (VE fu)):=
 okC Tryz.f259 zw (cuts:=[(4,⟨[13],⟨[.int .i64],[]⟩,[0,1,12],[],[],0,[],⟨[],[]⟩,[]⟩)]) (fl:=some fu)
theorem WO(fu:Nat):zf Tryz.prog (jN (uA fu)):=
 okC Tryz.f222 (memC (iC fu) (memC (YC fu) (memC (fQ fu) (memC (Bw fu) (memC (YV fu) zw))))) (fz:=[(24,[5])]) (cuts:=[(7,⟨[5,6,7],⟨[.own 6197, .own 6198, .int .i64],[(6197, .sl 5),(6198, .sl 326)]⟩,[0],[],[],0,[5],⟨[.own 6197],[(6197, .sl 5)]⟩,[6197]⟩),(11,⟨[9,36],⟨[.own 5778, .int .i64],[(5778, .sl 5)]⟩,[5,6,7,8,34,35],[6197,6198],[],2,[9],⟨[.own 5778],[(5778, .sl 5)]⟩,[5778]⟩)]) (joins:=[(17,⟨[5,6,7,9],⟨[.own 6197, .own 6198, .int .i64, .own 6300],[(6197, .sl 5),(6198, .sl 326),(6300, .sl 5)]⟩,[8],[],[6197,6198],0,[],⟨[],[]⟩,[]⟩),(21,⟨[5,6,7],⟨[.own 6197, .own 6198, .int .i64],[(6197, .sl 5),(6198, .sl 326),(6301, .row 326)]⟩,[9,12],[6300],[6197,6198,6301],0,[],⟨[],[]⟩,[]⟩),(24,⟨[5,6,7],⟨[.own 6405, .own 6198, .int .i64],[(6198, .sl 326),(6405, .sl 5)]⟩,[],[6301],[6198],0,[],⟨[],[]⟩,[]⟩)]) (fl:=some fu)
theorem XM(fu:Nat):zf Tryz.prog (gM (Yz fu)):=
 okC Tryz.f177 (memC (qz fu) (memC (JR fu) (memC (WO fu) zw))) (fl:=some fu)
theorem AC(fu:Nat):zf Tryz.prog (GM (Vr fu)):=
 okC Tryz.f128 (memC (Nn fu) (memC (Yu fu) (memC (XM fu) zw))) (joins:=[(13,⟨[8],⟨[.str],[]⟩,[],[],[],0,[],⟨[],[]⟩,[]⟩)]) (fl:=some fu)
theorem BC(fu:Nat):zf Tryz.prog (IM (Xr fu)):=
 okC Tryz.f86 (memC (AC fu) (memC rq zw)) (fz:=[(12,[2])]) (pre:=[(14,[(4,none)])]) (cuts:=[(6,⟨[4,5,16],⟨[.own 6406, .bool, .int .i64],[(6406, .sl 9)]⟩,[14,15],[],[],0,[4,5],⟨[.own 6406, .bool],[(6406, .sl 9)]⟩,[6406]⟩)]) (fl:=some fu)
theorem dO(fu:Nat):zf Tryz.prog (pM (EB fu)):=
 okC Tryz.f130 (memC (fw fu) (memC (Qo fu) zw)) (fl:=some fu)
theorem jR:zf Tryz.prog (PS sj):=
 okC Tryz.f225 zw (p:=2)
theorem iQ(fu:Nat):zf Tryz.prog (RP (OB fu)):=
 okC Tryz.f180 (memC (ED fu) (memC jR zw)) (fz:=[(1,[1]),(7,[200000])]) (cuts:=[(12,⟨[9,26],⟨[.int .i64, .int .i64],[(1, .sl 5),(2, .row 3)]⟩,[0,6,7,8],[],[1,2],0,[],⟨[],[(1, .sl 5),(2, .row 3)]⟩,[1,2]⟩),(23,⟨[0],⟨[.int .i64],[(1, .sl 5),(2, .row 3)]⟩,[6,7,8],[],[1,2],2,[],⟨[],[(1, .sl 5),(2, .row 3)]⟩,[1,2]⟩)]) (joins:=[(7,⟨[0],⟨[.int .i64],[]⟩,[5],[],[],0,[],⟨[],[]⟩,[]⟩),(17,⟨[9],⟨[.int .i64],[(1, .sl 5),(2, .row 3)]⟩,[10,26],[],[1,2],0,[],⟨[],[]⟩,[]⟩),(20,⟨[9,26],⟨[.int .i64, .int .i64],[(1, .sl 5),(2, .row 3)]⟩,[],[],[1,2],0,[],⟨[],[]⟩,[]⟩),(27,⟨[],⟨[],[(1, .sl 5),(2, .row 3)]⟩,[6,7],[],[1,2],0,[],⟨[],[]⟩,[]⟩)]) (fl:=some fu)
theorem BM(fu:Nat)(ZJ:zm->Option Str)(h_cond_media:zf Tryz.prog (Vj ZJ)):zf Tryz.prog (KM (Fs fu ZJ)):=
 okC Tryz.f179 (memC h_cond_media (memC rq zw)) (fz:=[(5,[4])]) (pre:=[(7,[(7,none)])]) (cuts:=[(3,⟨[7,12],⟨[.own 6407, .int .i64],[(6407, .sl 9)]⟩,[1,2,6,10,11],[],[],0,[7],⟨[.own 6407],[(6407, .sl 9)]⟩,[6407]⟩)]) (fl:=some fu)
theorem EN(fu:Nat)(ZJ:zm->Option Str)(hs:zf Tryz.prog (Vj ZJ)):zf Tryz.prog (Vj (au fu ZJ)):=
 okC Tryz.f131 (memC (Yu fu) (memC hs (memC (BM fu ZJ hs) (memC (iQ fu) zw)))) (fl:=some fu)
theorem cO(fu:Nat):zf Tryz.prog (Vj (ZJ fu)):=ic (Vj (ZJ fu)) (au fu) (fun S h=>EN fu S h) fu
theorem WE(fu:Nat)(zW:zm×Bool->Option (Str×Bool))(h_cond_supports:zf Tryz.prog (qL zW)):zf Tryz.prog (CU (jv fu zW)):=
 okC Tryz.f181 (memC h_cond_supports (memC DC zw)) (p:=2) (fl:=some fu)
theorem jQ(fu:Nat)(zW:zm×Bool->Option (Str×Bool))(h_cond_supports:zf Tryz.prog (qL zW)):zf Tryz.prog (YP (Cu fu zW)):=
 okC Tryz.f179 (memC (WE fu zW h_cond_supports) (memC rq zw)) (fz:=[(5,[4])]) (pre:=[(7,[(7,none)])]) (p:=2) (cuts:=[(3,⟨[7,12],⟨[.own 6408, .int .i64],[(1, .row 4),(6408, .sl 9)]⟩,[1,2,6,10,11],[],[1],0,[7],⟨[.own 6408],[(1, .row 4),(6408, .sl 9)]⟩,[1,6408]⟩)]) (fl:=some fu)
theorem VR(fu:Nat)(zW:zm×Bool->Option (Str×Bool))(hs:zf Tryz.prog (qL zW)):zf Tryz.prog (qL (bv fu zW)):=
 okC Tryz.f132 (memC (AC fu) (memC (WE fu zW hs) (memC (jQ fu zW hs) zw))) (p:=1) (fl:=some fu)
theorem mR(fu:Nat):zf Tryz.prog (qL (zW fu)):=ic (qL (zW fu)) (bv fu) (fun S h=>VR fu S h) fu
theorem EC(fu:Nat):zf Tryz.prog (NM (Ps fu)):=
 okC Tryz.f87 (memC (dO fu) (memC (fw fu) (memC (cO fu) (memC (mR fu) zw)))) (joins:=[(8,⟨[5],⟨[.str],[(1, .row 4)]⟩,[6],[],[1],0,[],⟨[],[]⟩,[]⟩)]) (fl:=some fu)
theorem vF:zf Tryz.prog (aX Zq):=
 okC Tryz.f83 (memC ZO zw) (p:=3)
theorem jF(fu:Nat):zf Tryz.prog (PU (qN fu)):=
 okC Tryz.f89 (memC ZO (memC (Yu fu) zw)) (p:=2) (cuts:=[(1,⟨[8],⟨[.int .i64],[(0, .cells 122 [.nop 0 122 3, .own 6411, .bool]),(6411, .sl 5)]⟩,[0,6,7],[],[0],0,[],⟨[],[(0, .cells 122 [.nop 0 122 3, .own 6411, .bool]),(6411, .sl 5)]⟩,[0,6411]⟩)]) (joins:=[(5,⟨[],⟨[],[(0, .cells 122 [.nop 0 122 3, .own 6513, .bool]),(6513, .sl 5)]⟩,[5,8],[],[0],0,[],⟨[],[]⟩,[]⟩)]) (fl:=some fu)
theorem PW(fu:Nat)(zS:List zA×Bool×List UInt8->Option (Bool×List UInt8))(h_round_writer_group:zf Tryz.prog (ZV zS)):zf Tryz.prog (lW (KF fu zS)):=
 okC Tryz.f54 (memC (dD fu) (memC ZO (memC (BC fu) (memC (EC fu) (memC vF (memC h_round_writer_group (memC (jF fu) zw))))))) (p:=2) (cuts:=[(24,⟨[75],⟨[.int .i64],[(0, .cells 122 [.nop 0 122 3, .own 6620, .bool]),(6620, .sl 5)]⟩,[73,74],[],[0],1,[],⟨[],[(0, .cells 122 [.nop 0 122 3, .own 6620, .bool]),(6620, .sl 5)]⟩,[0,6620]⟩),(33,⟨[96],⟨[.int .i64],[(0, .cells 122 [.nop 0 122 3, .own 6622, .bool]),(6622, .sl 5)]⟩,[94,95],[],[0],3,[],⟨[],[(0, .cells 122 [.nop 0 122 3, .own 6622, .bool]),(6622, .sl 5)]⟩,[0,6622]⟩)]) (joins:=[(12,⟨[41],⟨[.bool],[(0, .cells 122 [.nop 0 122 3, .own 1, .bool]),(1, .sl 5)]⟩,[2,3,4,14],[2,3],[0,1],0,[],⟨[],[]⟩,[]⟩),(15,⟨[5],⟨[.str],[(0, .cells 122 [.nop 0 122 3, .own 1, .bool]),(1, .sl 5)]⟩,[],[],[0,1],0,[],⟨[],[]⟩,[]⟩),(18,⟨[6],⟨[.str],[(0, .cells 122 [.nop 0 122 3, .own 1, .bool]),(1, .sl 5)]⟩,[5,7],[],[0,1],0,[],⟨[],[]⟩,[]⟩),(37,⟨[],⟨[],[(0, .cells 122 [.nop 0 122 3, .own 6724, .bool]),(6724, .sl 5)]⟩,[11,96],[],[0],0,[],⟨[],[]⟩,[]⟩)]) (fl:=some fu)
theorem vV(fu:Nat)(zS:List zA×Bool×List UInt8->Option (Bool×List UInt8))(hs:zf Tryz.prog (ZV zS)):zf Tryz.prog (ZV (QM fu zS)):=
 okC Tryz.f88 (memC ZO (memC (PW fu zS hs) zw)) (p:=2) (cuts:=[(4,⟨[15],⟨[.int .i64],[(0, .cells 122 [.nop 0 122 3, .own 6619, .bool]),(6619, .sl 5)]⟩,[0,13,14],[],[0],0,[],⟨[],[(0, .cells 122 [.nop 0 122 3, .own 6619, .bool]),(6619, .sl 5)]⟩,[0,6619]⟩)]) (fl:=some fu)
theorem aV(fu:Nat):zf Tryz.prog (ZV (zS fu)):=ic (ZV (zS fu)) (QM fu) (fun S h=>vV fu S h) fu
theorem OV(fu:Nat):zf Tryz.prog (OU (OE fu)):=
 okC Tryz.f54 (memC (dD fu) (memC dU (memC ZO (memC (BC fu) (memC (EC fu) (memC vF (memC (aV fu) (memC (jF fu) zw)))))))) (p:=1) (cuts:=[(24,⟨[75],⟨[.int .i64],[(0, .cells 122 [.nop 0 122 3, .own 6725, .bool]),(6725, .sl 5)]⟩,[73,74],[],[0],1,[],⟨[],[(0, .cells 122 [.nop 0 122 3, .own 6725, .bool]),(6725, .sl 5)]⟩,[0,6725]⟩),(33,⟨[96],⟨[.int .i64],[(0, .cells 122 [.nop 0 122 3, .own 6727, .bool]),(6727, .sl 5)]⟩,[94,95],[],[0],3,[],⟨[],[(0, .cells 122 [.nop 0 122 3, .own 6727, .bool]),(6727, .sl 5)]⟩,[0,6727]⟩)]) (joins:=[(12,⟨[41],⟨[.bool],[(0, .cells 122 [.nop 0 122 3, .own 6409, .bool]),(6409, .sl 5)]⟩,[2,3,4,14],[1,2],[0],0,[],⟨[],[]⟩,[]⟩),(15,⟨[5],⟨[.str],[(0, .cells 122 [.nop 0 122 3, .own 6409, .bool]),(6409, .sl 5)]⟩,[],[],[0,6409],0,[],⟨[],[]⟩,[]⟩),(18,⟨[6],⟨[.str],[(0, .cells 122 [.nop 0 122 3, .own 6409, .bool]),(6409, .sl 5)]⟩,[5,7],[],[0,6409],0,[],⟨[],[]⟩,[]⟩),(37,⟨[],⟨[],[(0, .cells 122 [.nop 0 122 3, .own 6829, .bool]),(6829, .sl 5)]⟩,[11,96],[],[0],0,[],⟨[],[]⟩,[]⟩)]) (fl:=some fu)
theorem sO(fu:Nat):zf Tryz.prog (SN (XA fu)):=
 okC Tryz.f39 (memC (OV fu) (memC uF (memC aH zw))) (fz:=[(1,[400000])]) (fl:=some fu)
theorem XQ(fu:Nat):zf Tryz.prog (vO (dB fu)):=
 okC Tryz.f25 (memC (QT fu) (memC (sO fu) zw)) (fz:=[(11,[2])]) (cuts:=[(6,⟨[5,18],⟨[.own 6830, .int .i64],[(6830, .sl 9)]⟩,[16,17],[],[],0,[5],⟨[.own 6830],[(6830, .sl 9)]⟩,[6830]⟩)]) (fl:=some fu)
theorem Vv(fu:Nat):zf Tryz.prog (WP (Tj fu)):=
 okC Tryz.f10 (memC (Pv fu) (memC (XQ fu) zw)) (cuts:=[(9,⟨[11,34],⟨[.int .i64, .int .i64],[]⟩,[6,7,10,32,33],[],[],0,[11],⟨[.int .i64],[]⟩,[]⟩)]) (fl:=some fu)
theorem kR(fu:Nat):zf Tryz.prog (RS (yj fu)):=
 okC Tryz.f11 (memC (VC fu) zw) (fl:=some fu)
theorem IR:zf Tryz.prog (EQ lu):=
 okC Tryz.f294 zw (exS:=⟨[.optr 0],[(0, .row 371)]⟩)
theorem RV(fu:Nat)(Zl:List zh×List zh->Option Bool)(h_ref08_Same:zf Tryz.prog (Ii Zl)):zf Tryz.prog (RU (PE fu Zl)):=
 okC Tryz.f262 (memC IR (memC h_ref08_Same zw)) (cuts:=[(4,⟨[5],⟨[.int .i64],[]⟩,[0,1],[],[],0,[],⟨[],[]⟩,[]⟩)]) (fl:=some fu)
theorem aQ(fu:Nat)(Zl:List zh×List zh->Option Bool)(h_ref08_Same:zf Tryz.prog (Ii Zl)):zf Tryz.prog (xO (SB fu Zl)):=
 okC Tryz.f228 (memC (RV fu Zl h_ref08_Same) zw) (cuts:=[(4,⟨[5],⟨[.int .i64],[]⟩,[2,3],[0,1],[],0,[],⟨[],[]⟩,[]⟩)]) (fl:=some fu)
theorem BN(fu:Nat)(Zl:List zh×List zh->Option Bool)(hs:zf Tryz.prog (Ii Zl)):zf Tryz.prog (Ii (nu fu Zl)):=
 okC Tryz.f184 (memC (aQ fu Zl hs) zw) (cuts:=[(4,⟨[5],⟨[.int .i64],[]⟩,[0,1],[],[],0,[],⟨[],[]⟩,[]⟩)]) (fl:=some fu)
theorem PO(fu:Nat):zf Tryz.prog (Ii (Zl fu)):=ic (Ii (Zl fu)) (nu fu) (fun S h=>BN fu S h) fu
theorem DN(fu:Nat)(Hg:List ze×List ze->Option Bool)(hs:zf Tryz.prog (Gn Hg)):zf Tryz.prog (Gn (ou fu Hg)):=
 okC Tryz.f263 (memC hs zw) (cuts:=[(4,⟨[5],⟨[.int .i64],[]⟩,[0,1],[],[],0,[],⟨[],[]⟩,[]⟩)]) (fl:=some fu)
theorem UO(fu:Nat):zf Tryz.prog (Gn (Hg fu)):=ic (Gn (Hg fu)) (ou fu) (fun S h=>DN fu S h) fu
theorem XD(fu:Nat):zf Tryz.prog (yO (Iu fu)):=
 okC Tryz.f229 (memC (UO fu) zw) (fl:=some fu)
theorem RO(fu:Nat):zf Tryz.prog (UN (YA fu)):=
 okC Tryz.f185 (memC (XD fu) zw) (cuts:=[(4,⟨[5],⟨[.int .i64],[]⟩,[0,1],[],[],0,[],⟨[],[]⟩,[]⟩)]) (fl:=some fu)
theorem yM(fu:Nat)(Gg:zm×zm->Option Bool)(hs:zf Tryz.prog (En Gg)):zf Tryz.prog (En (ku fu Gg)):=
 okC Tryz.f186 (memC (XD fu) (memC hs zw)) (cuts:=[(4,⟨[5],⟨[.int .i64],[]⟩,[2,3],[0,1],[],0,[],⟨[],[]⟩,[]⟩)]) (fl:=some fu)
theorem OO(fu:Nat):zf Tryz.prog (En (Gg fu)):=ic (En (Gg fu)) (ku fu) (fun S h=>yM fu S h) fu
theorem NT(fu:Nat):zf Tryz.prog (BU (nD fu)):=
 okC Tryz.f187 zw (cuts:=[(4,⟨[5],⟨[.int .i64],[]⟩,[0,1],[],[],0,[],⟨[],[]⟩,[]⟩),(9,⟨[6],⟨[.int .i64],[]⟩,[5],[],[],2,[],⟨[],[]⟩,[]⟩)]) (fl:=some fu)
theorem YQ(fu:Nat)(ZT:List zA×List zA->Option Bool)(h_ref11_Same:zf Tryz.prog (Uj ZT)):zf Tryz.prog (wO (eB fu ZT)):=
 okC Tryz.f134 (memC (PO fu) (memC (RO fu) (memC (OO fu) (memC (NT fu) (memC h_ref11_Same zw))))) (fl:=some fu)
theorem xM(fu:Nat)(ZT:List zA×List zA->Option Bool)(hs:zf Tryz.prog (Uj ZT)):zf Tryz.prog (Uj (gu fu ZT)):=
 okC Tryz.f90 (memC (YQ fu ZT hs) zw) (cuts:=[(4,⟨[5],⟨[.int .i64],[]⟩,[0,1],[],[],0,[],⟨[],[]⟩,[]⟩)]) (fl:=some fu)
theorem MO(fu:Nat):zf Tryz.prog (Uj (ZT fu)):=ic (Uj (ZT fu)) (gu fu) (fun S h=>xM fu S h) fu
theorem sS(fu:Nat):zf Tryz.prog (vR (PD fu)):=
 okC Tryz.f57 (memC (MO fu) zw) (fl:=some fu)
theorem nS(fu:Nat):zf Tryz.prog (uR (OD fu)):=
 okC Tryz.f40 (memC (sS fu) zw) (cuts:=[(4,⟨[5],⟨[.int .i64],[]⟩,[0,1],[],[],0,[],⟨[],[]⟩,[]⟩)]) (fl:=some fu)
theorem KO(fu:Nat):zf Tryz.prog (TN (Wt fu)):=
 okC Tryz.f27 (memC (nS fu) zw) (fl:=some fu)
theorem vD(fu:Nat):zf Tryz.prog (JS (aj fu)):=
 okC Tryz.f12 (memC (Vv fu) (memC (av fu) (memC (fD fu) (memC (KO fu) zw)))) (fl:=some fu)
theorem vT(fu:Nat):zf Tryz.prog (AU (mD fu)):=
 okC Tryz.f41 zw (cuts:=[(4,⟨[5],⟨[.int .i64],[]⟩,[0,1],[],[],0,[],⟨[],[]⟩,[]⟩)]) (fl:=some fu)
theorem uT(fu:Nat):zf Tryz.prog (yT (lD fu)):=
 okC Tryz.f28 (memC (vT fu) zw) (fl:=some fu)
theorem wB(fu:Nat):zf Tryz.prog (jM (uh fu)):=
 okC Tryz.f13 (memC (Vv fu) (memC (uT fu) zw)) (fl:=some fu)
theorem eQ(fu:Nat):zf Tryz.prog (FP (LB fu)):=
 okC Tryz.f14 (memC (xC fu) (memC (av fu) (memC (wB fu) (memC (vD fu) zw)))) (fz:=[(3,[3,12])]) (fl:=some fu)
theorem eU(fu:Nat):zf Tryz.prog (XE (Rw fu)):=
 okC Tryz.f3 (memC (xC fu) (memC (av fu) (memC (fD fu) (memC (WC fu) (memC (VO fu) (memC (su fu) (memC (Vv fu) (memC (kR fu) (memC (vD fu) (memC (wB fu) (memC (eQ fu) zw))))))))))) (fz:=[(24,[2]),(35,[12,21])]) (pre:=[(25,[(32,none)])]) (cuts:=[(14,⟨[23,24],⟨[.str, .int .i64],[]⟩,[0,1,2,4,6,8,10,12,14,16,17,18,19,20,21,22],[0,10,11,12],[],0,[23],⟨[.str],[]⟩,[]⟩),(22,⟨[32,33],⟨[.own 1859, .int .i64],[(1859, .sl 45)]⟩,[0,1,2,4,6,8,10,12,14,16,17,18,19,20,21,22,27,29,31],[0,10,11,12],[],2,[32],⟨[.own 1859],[(1859, .sl 45)]⟩,[1859]⟩)]) (fl:=some fu)
end Go.Lv.VT
