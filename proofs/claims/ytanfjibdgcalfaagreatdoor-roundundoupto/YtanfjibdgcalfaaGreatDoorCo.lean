/- Contracts. -/
import Derived.Test.YtanfjibdgcalfaaGreatDoorCoa
set_option linter.unusedSimpArgs false
set_option linter.unusedVariables false
namespace Go.Lv.VT
set_option maxRecDepth 100000
open Go.Proofs
theorem zgo(fu:Nat):zf Tryz.prog (zgQ (MR fu)):=
 okC Tryz.f137 (memC jP zu) (cuts:=[(2,⟨[8],⟨[.int .i64],[]⟩,[0,1,7],[],[],0,[],⟨[],[]⟩,[]⟩)]) (fl:=some fu)
theorem zeq(fu:Nat):zf Tryz.prog (ze7 (bR fu)):=
 okC Tryz.f93 (memC (zgo fu) zu) (fl:=some fu)
theorem RB(fu:Nat):zf Tryz.prog (KX (Ru fu)):=
 okC Tryz.f48 (memC (MO fu) (memC (nY fu) (memC (NP fu) (memC (zsY fu) (memC (zeq fu) (memC Zx (memC Sj zu))))))) (fl:=some fu)
theorem JN(fu:Nat):zf Tryz.prog (zEw (wE fu)):=
 okC Tryz.f245 (memC (zA6 fu) (memC (mY fu) (memC Sj (memC Zx (memC (Z0 fu) (memC (QI fu) (memC KN (memC (wG fu) (memC (RB fu) zu))))))))) (joins:=[(7,⟨[0],⟨[.sl 135],[(0, .cells 33 [.str, .nilv, .bool]),(1, .cells 33 [.str, .nilv, .bool])]⟩,[2,4],[],[0,1],0,[],⟨[],[]⟩,[]⟩),(16,⟨[0],⟨[.sl 135],[(0, .cells 33 [.str, .nilv, .bool]),(1, .cells 33 [.str, .nilv, .bool])]⟩,[],[],[0,1],0,[],⟨[],[]⟩,[]⟩)]) (fl:=some fu) (exS:=⟨[.optr 0, .bool],[(0, .row 33)]⟩)
theorem zFh(fu:Nat):zf Tryz.prog (zGK (BV fu)):=
 okC Tryz.f196 (memC (dH fu) (memC (JN fu) zu)) (fz:=[(10,[2])]) (cuts:=[(6,⟨[6,21],⟨[.own 1535, .int .i64],[(1535, .sl 33)]⟩,[2,3,19,20],[],[],0,[6],⟨[.own 1535],[(1535, .sl 33)]⟩,[1535]⟩)]) (joins:=[(11,⟨[6,21],⟨[.own 1637, .int .i64],[(1637, .sl 33)]⟩,[],[],[],0,[],⟨[],[]⟩,[]⟩)]) (fl:=some fu)
theorem Y5(fu:Nat):zf Tryz.prog (R5 (sM fu)):=
 okC Tryz.f140 (memC (RZ fu) (memC (zFh fu) zu)) (fl:=some fu) (exS:=⟨[.optr 0, .bool],[(0, .row 39)]⟩)
theorem II:zf Tryz.prog (I8 iq):=
 okC Tryz.f81 (memC Zy zu)
theorem zhf(fu:Nat):zf Tryz.prog (zhA (xQ fu)):=
 okC Tryz.f144 (memC II zu) (p:=1) (cuts:=[(2,⟨[8],⟨[.int .i64],[]⟩,[0,1,7],[],[],0,[],⟨[],[]⟩,[]⟩)]) (fl:=some fu)
theorem zfg(fu:Nat):zf Tryz.prog (zfv (jR fu)):=
 okC Tryz.f80 (memC (zhf fu) zu) (p:=1) (fl:=some fu)
theorem l5(fu:Nat):zf Tryz.prog (U5 (uM fu)):=
 okC Tryz.f43 (memC (zfg fu) zu) (p:=1) (fl:=some fu)
theorem LZ(fu:Nat):zf Tryz.prog (EY (XM fu)):=
 okC Tryz.f199 (memC (wG fu) (memC (l5 fu) zu)) (fz:=[(14,[3])]) (cuts:=[(6,⟨[5,24],⟨[.own 1639, .int .i64],[(1639, .sl 9)]⟩,[22,23],[],[],0,[5],⟨[.own 1639],[(1639, .sl 9)]⟩,[1639]⟩)]) (joins:=[(15,⟨[5,24],⟨[.own 1741, .int .i64],[(1741, .sl 9)]⟩,[],[],[],0,[],⟨[],[]⟩,[]⟩)]) (fl:=some fu)
theorem OP(fu:Nat):zf Tryz.prog (X5 (jG fu)):=
 okC Tryz.f141 (memC (dH fu) (memC (wG fu) (memC (LZ fu) zu))) (fz:=[(16,[3])]) (cuts:=[(11,⟨[42],⟨[.int .i64],[(0, .cells 39 [.int .u8, .nilv, .nilv, .int .u8, .str, .int .i64, .str, .nilv, .bool, .nilv, .nilv, .nilv]),(1, .cells 39 [.int .u8, .nilv, .nilv, .int .u8, .str, .int .i64, .str, .nilv, .bool, .nilv, .own 1742, .nilv]),(1742, .sl 59)]⟩,[40,41],[],[0,1],0,[],⟨[],[(0, .cells 39 [.int .u8, .nilv, .nilv, .int .u8, .str, .int .i64, .str, .nilv, .bool, .nilv, .nilv, .nilv]),(1, .cells 39 [.int .u8, .nilv, .nilv, .int .u8, .str, .int .i64, .str, .nilv, .bool, .nilv, .own 1742, .nilv]),(1742, .sl 59)]⟩,[0,1,1742]⟩)]) (joins:=[(10,⟨[],⟨[],[(0, .cells 39 [.int .u8, .nilv, .nilv, .int .u8, .str, .int .i64, .str, .nilv, .bool, .nilv, .nilv, .nilv]),(1, .cells 39 [.int .u8, .nilv, .nilv, .int .u8, .str, .int .i64, .str, .nilv, .bool, .nilv, .nilv, .nilv])]⟩,[1,4,6,8],[],[0,1],0,[],⟨[],[]⟩,[]⟩)]) (fl:=some fu) (exS:=⟨[.optr 0, .bool],[(0, .row 39)]⟩)
theorem QG:zf Tryz.prog (zpo ql):=
 okC Tryz.f248 zu (p:=1)
theorem QH:zf Tryz.prog (zpp qm):=
 okC Tryz.f249 zu (p:=1) (exS:=⟨[.optr 1],[(0, .row 242),(1, .row 135)]⟩)
theorem QO(fu:Nat):zf Tryz.prog (zlH (Ze fu)):=
 okC Tryz.f200 (memC QG (memC QH zu)) (p:=1) (cuts:=[(2,⟨[],⟨[],[(0, .row 242)]⟩,[0,2,3],[],[0],0,[],⟨[],[(0, .row 242)]⟩,[0]⟩)]) (fl:=some fu)
theorem YI(fu:Nat):zf Tryz.prog (zoA (QA fu)):=
 okC Tryz.f250 (memC QG (memC (QI fu) (memC QH zu))) (p:=1) (cuts:=[(2,⟨[9],⟨[.int .i64],[(0, .row 242)]⟩,[0,7,8],[],[0],0,[],⟨[],[(0, .row 242)]⟩,[0]⟩)]) (fl:=some fu)
theorem zhF(fu:Nat):zf Tryz.prog (ziv (DR fu)):=
 okC Tryz.f262 (memC (GJ fu) zu) (fl:=some fu)
theorem kP(fu:Nat):zf Tryz.prog (I1 (oG fu)):=
 okC Tryz.f212 (memC (zhF fu) (memC (Z0 fu) (memC Zy zu))) (fz:=[(1,[0])]) (fl:=some fu)
theorem gP(fu:Nat):zf Tryz.prog (O0 (uG fu)):=
 okC Tryz.f263 zu (cuts:=[(2,⟨[7],⟨[.int .i64],[]⟩,[5,6],[],[],0,[],⟨[],[]⟩,[]⟩)]) (fl:=some fu)
theorem iP(fu:Nat):zf Tryz.prog (X0 (vG fu)):=
 okC Tryz.f213 (memC (gP fu) zu) (fz:=[(1,[1])]) (fl:=some fu)
theorem zko(fu:Nat):zf Tryz.prog (zld (aI fu)):=
 okC Tryz.f251 (memC QG (memC QH (memC (QO fu) (memC (YI fu) (memC (QI fu) (memC (iP fu) zu)))))) (fz:=[(6,[1])]) (p:=1) (joins:=[(11,⟨[],⟨[],[(1, .cells 36 [.int .u8, .str, .int .i64, .str, .nilv, .bool, .nilv]),(2, .row 242),(3, .cells 36 [.int .u8, .str, .int .i64, .str, .nilv, .bool, .nilv])]⟩,[2,4,5],[0],[1,2,3],0,[],⟨[],[]⟩,[]⟩)]) (fl:=some fu) (exS:=⟨[.optr 1, .bool],[(0, .row 242),(1, .row 36)]⟩)
theorem zmh(fu:Nat):zf Tryz.prog (znm (bQ fu)):=
 okC Tryz.f201 (memC (QO fu) (memC (YI fu) (memC QG (memC QH (memC (Z0 fu) (memC (kP fu) (memC (zko fu) zu))))))) (fz:=[(3,[1]),(9,[4]),(13,[3]),(17,[1]),(23,[3]),(25,[1])]) (pre:=[(25,[(4,some 6)])]) (p:=1) (cuts:=[(15,⟨[],⟨[],[(0, .row 242),(1, .cells 36 [.int .u8, .str, .int .i64, .str, .nilv, .bool, .nilv]),(2, .cells 36 [.int .u8, .str, .int .i64, .str, .nilv, .bool, .own 1845]),(1845, .sl 36)]⟩,[],[],[0,1,2],0,[],⟨[],[(0, .row 242),(1, .cells 36 [.int .u8, .str, .int .i64, .str, .nilv, .bool, .nilv]),(2, .cells 36 [.int .u8, .str, .int .i64, .str, .nilv, .bool, .own 1845]),(1845, .sl 36)]⟩,[0,1,2,1845]⟩)]) (joins:=[(14,⟨[],⟨[],[(0, .row 242),(1, .cells 36 [.int .u8, .str, .int .i64, .str, .nilv, .bool, .nilv]),(2, .cells 36 [.int .u8, .str, .int .i64, .str, .nilv, .bool, .own 1743]),(1743, .sl 36)]⟩,[0,2,4,5],[],[0,1,2],0,[],⟨[],[]⟩,[]⟩),(26,⟨[],⟨[],[(1, .cells 36 [.int .u8, .str, .int .i64, .str, .nilv, .bool, .nilv]),(2, .cells 36 [.int .u8, .str, .int .i64, .str, .nilv, .bool, .sl 36])]⟩,[],[0],[1,2],0,[],⟨[],[]⟩,[]⟩)]) (fl:=some fu) (exS:=⟨[.optr 1, .bool],[(0, .row 242),(1, .row 36)]⟩)
theorem uO(fu:Nat):zf Tryz.prog (RX (aG fu)):=
 okC Tryz.f142 (memC (dH fu) (memC (QO fu) (memC (zmh fu) zu))) (fz:=[(17,[1]),(18,[1]),(19,[3])]) (cuts:=[(13,⟨[44],⟨[.int .i64],[(1, .cells 36 [.int .u8, .str, .int .i64, .str, .nilv, .bool, .own 1846]),(1846, .sl 36)]⟩,[7,42,43],[0],[1],0,[],⟨[],[(1, .cells 36 [.int .u8, .str, .int .i64, .str, .nilv, .bool, .own 1846]),(1846, .sl 36)]⟩,[1,1846]⟩)]) (joins:=[(9,⟨[],⟨[],[(0, .cells 36 [.int .u8, .str, .int .i64, .str, .nilv, .bool, .nilv])]⟩,[2,4],[],[0],0,[],⟨[],[]⟩,[]⟩),(19,⟨[],⟨[],[(1, .cells 36 [.int .u8, .str, .int .i64, .str, .nilv, .bool, .own 1846]),(1846, .sl 36),(1848, .row 36)]⟩,[10,44],[],[1,1846,1848],0,[],⟨[],[]⟩,[]⟩)]) (fl:=some fu) (exS:=⟨[.optr 0, .int .i64],[(0, .row 36)]⟩)
theorem zDF(fu:Nat):zf Tryz.prog (zEu (bW fu)):=
 okC Tryz.f293 (memC (Qy fu) (memC (JN fu) zu)) (fl:=some fu) (exS:=⟨[.optr 0, .bool, .int .i64],[(0, .row 33)]⟩)
theorem znD(fu:Nat)(Zq:zB->Option ((zm×Bool)×zB))(h_cond_reader_toldQ:zf Tryz.prog (QC Zq)):zf Tryz.prog (zoz (rC fu Zq)):=
 okC Tryz.f252 (memC QG (memC QH (memC (zDF fu) (memC h_cond_reader_toldQ zu)))) (p:=1) (fl:=some fu) (exS:=⟨[.optr 1, .bool],[(0, .row 242),(1, .row 36)]⟩)
theorem znR(fu:Nat)(Zq:zB->Option ((zm×Bool)×zB))(hs:zf Tryz.prog (QC Zq)):zf Tryz.prog (QC (iI fu Zq)):=
 okC Tryz.f202 (memC (QO fu) (memC (YI fu) (memC (znD fu Zq hs) zu))) (fz:=[(2,[1]),(6,[1]),(15,[5]),(23,[3])]) (p:=1) (cuts:=[(14,⟨[9],⟨[.bool],[(0, .row 242),(1, .cells 36 [.int .u8, .str, .int .i64, .str, .nilv, .bool, .nilv]),(5, .cells 36 [.int .u8, .str, .int .i64, .str, .nilv, .bool, .own 1847]),(1847, .sl 36)]⟩,[0,2,10],[],[0,1,5],0,[],⟨[],[(0, .row 242),(1, .cells 36 [.int .u8, .str, .int .i64, .str, .nilv, .bool, .nilv]),(5, .cells 36 [.int .u8, .str, .int .i64, .str, .nilv, .bool, .own 1847]),(1847, .sl 36)]⟩,[0,1,5,1847]⟩)]) (fl:=some fu) (exS:=⟨[.optr 1, .bool],[(0, .row 242),(1, .row 36)]⟩)
theorem znE(fu:Nat):zf Tryz.prog (QC (Zq fu)):=Ag (QC (Zq fu)) (iI fu) (fun S h=>znR fu S h) fu
theorem eH(fu:Nat):zf Tryz.prog (vW (Az fu)):=
 okC Tryz.f47 (memC (Qy fu) (memC (oN fu) zu)) (fl:=some fu)
theorem Jl:zf Tryz.prog (zEs Qo):=
 okC Tryz.f101 zu
theorem fG:zf Tryz.prog (zEt Pp):=
 okC Tryz.f158 zu
theorem zBI(fu:Nat)(uk:zm×Int->Option ((Int×Bool)×Int))(hs:zf Tryz.prog (JA uk)):zf Tryz.prog (JA (pG fu uk)):=
 okC Tryz.f102 (memC (eH fu) (memC (RB fu) (memC Jl (memC hs (memC fG zu))))) (p:=1) (cuts:=[(19,⟨[9,97],⟨[.int .i64, .int .i64],[(0, .row 3)]⟩,[1,95,96],[],[0],1,[9],⟨[.int .i64],[(0, .row 3)]⟩,[0]⟩)]) (joins:=[(15,⟨[69],⟨[.bool],[]⟩,[1,2,6],[0,1],[],0,[],⟨[],[]⟩,[]⟩),(26,⟨[9,12],⟨[.int .i64, .int .i64],[]⟩,[97],[0],[],0,[],⟨[],[]⟩,[]⟩)]) (fl:=some fu)
theorem zA4(fu:Nat):zf Tryz.prog (JA (uk fu)):=Ag (JA (uk fu)) (pG fu) (fun S h=>zBI fu S h) fu
theorem oI(fu:Nat):zf Tryz.prog (zlG (LD fu)):=
 okC Tryz.f52 (memC (zA4 fu) zu) (fl:=some fu)
theorem OQ(fu:Nat):zf Tryz.prog (zsC (SH fu)):=
 okC Tryz.f143 (memC (Qy fu) (memC (znE fu) (memC (oI fu) zu))) (fl:=some fu) (exS:=⟨[.optr 0, .int .i64],[(0, .row 36)]⟩)
theorem zkx(fu:Nat):zf Tryz.prog (zlh (nQ fu)):=
 okC Tryz.f78 (memC (OP fu) (memC (uO fu) (memC (OQ fu) zu))) (p:=1) (joins:=[(13,⟨[13],⟨[.bool],[(0, .row 80),(1, .cells 39 [.int .u8, .nilv, .nilv, .int .u8, .str, .int .i64, .str, .nilv, .bool, .nilv, .nilv, .nilv]),(2, .row 39)]⟩,[0,4,10,12],[],[0,1,2],0,[],⟨[],[]⟩,[]⟩)]) (fl:=some fu) (exS:=⟨[.optr 1, .bool],[(0, .row 80),(1, .row 39)]⟩)
theorem zmz(fu:Nat)(Zm:(List ze×Bool)×zJ->Option (List zC×zJ))(h_sheet_parser_rulesQ:zf Tryz.prog (Qa Zm)):zf Tryz.prog (znr (SQ fu Zm)):=
 okC Tryz.f78 (memC (Y5 fu) (memC (OP fu) (memC (uO fu) (memC (OQ fu) (memC h_sheet_parser_rulesQ zu))))) (p:=1) (joins:=[(13,⟨[13],⟨[.bool],[(0, .row 80),(1, .cells 39 [.int .u8, .nilv, .nilv, .int .u8, .str, .int .i64, .str, .nilv, .bool, .nilv, .nilv, .nilv]),(2, .row 39)]⟩,[0,4,10,12],[],[0,1,2],0,[],⟨[],[]⟩,[]⟩),(18,⟨[],⟨[],[(0, .row 80),(1, .cells 39 [.int .u8, .nilv, .nilv, .int .u8, .str, .int .i64, .str, .nilv, .bool, .nilv, .nilv, .nilv]),(2, .row 39)]⟩,[],[],[0,1,2],0,[],⟨[],[]⟩,[]⟩)]) (fl:=some fu) (exS:=⟨[.optr 1, .bool],[(0, .row 80),(1, .row 39)]⟩)
theorem zlC(fu:Nat)(Zm:(List ze×Bool)×zJ->Option (List zC×zJ))(hs:zf Tryz.prog (Qa Zm)):zf Tryz.prog (Qa (vI fu Zm)):=
 okC Tryz.f40 (memC zBp (memC (Z0 fu) (memC (l7 fu) (memC (zmz fu Zm hs) (memC (zkx fu) zu))))) (fz:=[(10,[7]),(22,[2])]) (p:=1) (cuts:=[(2,⟨[1,7],⟨[.sl 135, .own 1848],[(0, .row 80),(1848, .sl 39)]⟩,[0,2,6],[],[0],0,[7],⟨[.own 1848],[(0, .row 80),(1848, .sl 39)]⟩,[0,1848]⟩)]) (joins:=[(8,⟨[1,7],⟨[.sl 135, .own 1848],[(0, .row 80),(1848, .sl 39)]⟩,[8],[],[0,1848],0,[],⟨[],[]⟩,[]⟩),(12,⟨[1,7,9,10],⟨[.sl 135, .own 1848, .str, .own 1951],[(0, .row 80),(1848, .sl 39),(1951, .sl 5)]⟩,[],[],[0,1848],0,[],⟨[],[]⟩,[]⟩),(19,⟨[1,7],⟨[.sl 135, .own 1848],[(0, .row 80),(1848, .sl 39)]⟩,[9,11,12],[],[0,1848],0,[],⟨[],[]⟩,[]⟩)]) (fl:=some fu)
theorem IR(fu:Nat):zf Tryz.prog (Qa (Zm fu)):=Ag (Qa (Zm fu)) (vI fu) (fun S h=>zlC fu S h) fu
theorem KZ(fu:Nat):zf Tryz.prog (DY (WM fu)):=
 okC Tryz.f25 (memC (GI fu) (memC xV (memC (IR fu) zu))) (fl:=some fu)
theorem PZ(fu:Nat):zf Tryz.prog (IY (Gu fu)):=
 okC Tryz.f7 (memC (KZ fu) zu) (fl:=some fu) (exS:=⟨[.optr 0, .int .i64],[(0, .row 25)]⟩)
theorem R9(fu:Nat):zf Tryz.prog (H8 (uN fu)):=
 okC Tryz.f25 (memC (GI fu) (memC xV (memC (IR fu) zu))) (fl:=some fu)
theorem U9(fu:Nat):zf Tryz.prog (L8 (yA fu)):=
 okC Tryz.f7 (memC (R9 fu) zu) (fl:=some fu) (exS:=⟨[.optr 0, .int .i64],[(0, .row 25)]⟩)
theorem T9(fu:Nat):zf Tryz.prog (K8 (KH fu)):=
 zf.told (I:=I) (P:=Tryz.prog) (Fn:=fun b:Bool=>cond b (Gu fu) (yA fu)) true (fun b=>match b with|true=>PZ fu|false=>U9 fu) (fun x y h=>by
  unfold KH at h;exact alt2 (A:=(Gu fu)) (B:=(yA fu)) h)
theorem zfG(fu:Nat):zf Tryz.prog (zf3 (VR fu)):=
 okC Tryz.f144 (memC II zu) (cuts:=[(2,⟨[8],⟨[.int .i64],[]⟩,[0,1,7],[],[],0,[],⟨[],[]⟩,[]⟩)]) (fl:=some fu)
theorem zd3(fu:Nat):zf Tryz.prog (zeh (pR fu)):=
 okC Tryz.f80 (memC (zfG fu) zu) (fl:=some fu)
theorem zrG(fu:Nat):zf Tryz.prog (zsL (bO fu)):=
 okC Tryz.f43 (memC (zd3 fu) zu) (fl:=some fu)
theorem S9(fu:Nat):zf Tryz.prog (J8 (vN fu)):=
 okC Tryz.f42 (memC (zrG fu) zu) (fl:=some fu)
theorem zfF(fu:Nat):zf Tryz.prog (zf2 (WR fu)):=
 okC Tryz.f79 (memC (S9 fu) zu) (cuts:=[(2,⟨[8],⟨[.int .i64],[]⟩,[0,1,7],[],[],0,[],⟨[],[]⟩,[]⟩)]) (fl:=some fu)
theorem zd2(fu:Nat):zf Tryz.prog (zeg (rR fu)):=
 okC Tryz.f41 (memC (zfF fu) zu) (fl:=some fu)
theorem zqP(fu:Nat)(Qf:List zg->Option Int)(hs:zf Tryz.prog (uC Qf)):zf Tryz.prog (uC (JI fu Qf)):=
 okC Tryz.f44 (memC hs zu) (cuts:=[(3,⟨[3,14],⟨[.int .i64, .int .i64],[]⟩,[2,12,13],[],[],0,[3],⟨[.int .i64],[]⟩,[]⟩),(6,⟨[3,21],⟨[.int .i64, .int .i64],[]⟩,[14,19,20],[],[],2,[3],⟨[.int .i64],[]⟩,[]⟩),(9,⟨[3,28],⟨[.int .i64, .int .i64],[]⟩,[21,26,27],[],[],4,[3],⟨[.int .i64],[]⟩,[]⟩)]) (joins:=[(15,⟨[3,28],⟨[.int .i64, .int .i64],[]⟩,[],[],[],0,[],⟨[],[]⟩,[]⟩)]) (fl:=some fu)
theorem zqs(fu:Nat):zf Tryz.prog (uC (Qf fu)):=Ag (uC (Qf fu)) (JI fu) (fun S h=>zqP fu S h) fu
theorem zo3(fu:Nat):zf Tryz.prog (zpt (AQ fu)):=
 okC Tryz.f84 (memC (KQ fu (zt fu) (rQ fu)) zu) (fl:=some fu)
theorem zfh(fu:Nat):zf Tryz.prog (zfw (iR fu)):=
 okC Tryz.f146 (memC (zo3 fu) zu) (cuts:=[(2,⟨[8],⟨[.int .i64],[]⟩,[0,1,7],[],[],0,[],⟨[],[]⟩,[]⟩)]) (fl:=some fu)
theorem zdH(fu:Nat):zf Tryz.prog (zdZ (kR fu)):=
 okC Tryz.f83 (memC (zfh fu) zu) (fl:=some fu)
theorem NQ(fu:Nat):zf Tryz.prog (zsG (TH fu)):=
 okC Tryz.f45 (memC (zdH fu) (memC (MQ fu) zu)) (fl:=some fu)
theorem pO:zf Tryz.prog (GY Xj):=
 okC Tryz.f46 zu
theorem u7(fu:Nat)(Il:zm->Option Int)(hs:zf Tryz.prog (VB Il)):zf Tryz.prog (VB (iH fu Il)):=
 okC Tryz.f49 (memC hs zu) (cuts:=[(5,⟨[3,17],⟨[.int .i64, .int .i64],[]⟩,[15,16],[],[],0,[3],⟨[.int .i64],[]⟩,[]⟩)]) (joins:=[(4,⟨[3],⟨[.int .i64],[]⟩,[1],[0],[],0,[],⟨[],[]⟩,[]⟩)]) (fl:=some fu)
theorem G6(fu:Nat):zf Tryz.prog (VB (Il fu)):=Ag (VB (Il fu)) (iH fu) (fun S h=>u7 fu S h) fu
theorem pY(fu:Nat):zf Tryz.prog (MX (YG fu)):=
 okC Tryz.f156 (memC Jl (memC (kP fu) (memC (iP fu) zu))) (cuts:=[(4,⟨[23],⟨[.int .i64],[]⟩,[21,22],[],[],0,[],⟨[],[]⟩,[]⟩)]) (joins:=[(17,⟨[57],⟨[.bool],[]⟩,[4,23],[1],[],0,[],⟨[],[]⟩,[]⟩),(19,⟨[23],⟨[.int .i64],[]⟩,[],[],[],0,[],⟨[],[]⟩,[]⟩)]) (fl:=some fu)
theorem WO:zf Tryz.prog (zCi ut):=
 okC Tryz.f157 zu
theorem zA2(fu:Nat):zf Tryz.prog (zCg (wL fu)):=
 okC Tryz.f100 (memC Jl (memC (pY fu) (memC WO zu))) (fl:=some fu)
theorem zmd(fu:Nat):zf Tryz.prog (znk (dQ fu)):=
 okC Tryz.f99 (memC (zA2 fu) zu) (fl:=some fu)
theorem ziO(fu:Nat):zf Tryz.prog (zjb (uQ fu)):=
 okC Tryz.f155 (memC (zmd fu) zu) (cuts:=[(2,⟨[8],⟨[.int .i64],[]⟩,[0,1,7],[],[],0,[],⟨[],[]⟩,[]⟩)]) (fl:=some fu)
theorem zgi(fu:Nat):zf Tryz.prog (zgK (UR fu)):=
 okC Tryz.f98 (memC (ziO fu) zu) (fl:=some fu)
theorem gI(fu:Nat):zf Tryz.prog (zpn (YC fu)):=
 okC Tryz.f50 (memC (zgi fu) (memC Jl zu)) (fl:=some fu)
theorem NY(fu:Nat)(Dl:zm->Option Int)(hs:zf Tryz.prog (AB Dl)):zf Tryz.prog (AB (GH fu Dl)):=
 okC Tryz.f51 (memC (eH fu) (memC hs zu)) (cuts:=[(9,⟨[5,27],⟨[.int .i64, .int .i64],[]⟩,[2,25,26],[],[],1,[5],⟨[.int .i64],[]⟩,[]⟩)]) (joins:=[(14,⟨[5,8],⟨[.int .i64, .int .i64],[]⟩,[27],[],[],0,[],⟨[],[]⟩,[]⟩)]) (fl:=some fu)
theorem JZ(fu:Nat):zf Tryz.prog (AB (Dl fu)):=Ag (AB (Dl fu)) (GH fu) (fun S h=>NY fu S h) fu
theorem OY(fu:Nat)(El:List zC->Option zq)(hs:zf Tryz.prog (BB El)):zf Tryz.prog (BB (JH fu El)):=
 okC Tryz.f26 (memC hs (memC (zd2 fu) (memC (zqs fu) (memC (NQ fu) (memC pO (memC (eH fu) (memC (RB fu) (memC (G6 fu) (memC (gI fu) (memC (JZ fu) (memC (oI fu) zu))))))))))) (cuts:=[(3,⟨[18],⟨[.int .i64],[(1, .row 77)]⟩,[2,3,16,17],[0],[1],0,[],⟨[],[(1, .row 77)]⟩,[1]⟩),(17,⟨[10,87],⟨[.bool, .int .i64],[(3, .row 77)]⟩,[6,7,18,85,86],[1],[3],3,[10],⟨[.bool],[(3, .row 77)]⟩,[3]⟩)]) (joins:=[(35,⟨[7,10],⟨[.int .i64, .bool],[(1, .row 77),(3, .row 77)]⟩,[6,18],[],[1,3],0,[],⟨[],[]⟩,[]⟩)]) (fl:=some fu) (exS:=⟨[.optr 0],[(0, .row 77)]⟩)
theorem NZ(fu:Nat):zf Tryz.prog (BB (El fu)):=Ag (BB (El fu)) (JH fu) (fun S h=>OY fu S h) fu
theorem F6(fu:Nat):zf Tryz.prog (J2 (vM fu)):=
 okC Tryz.f27 (memC (NZ fu) zu) (fl:=some fu)
theorem H6(fu:Nat):zf Tryz.prog (U2 (wM fu)):=
 okC Tryz.f10 (memC (F6 fu) zu) (fl:=some fu)
theorem ZY:zf Tryz.prog (zei zQ):=
 okC Tryz.f67 (memC rU zu) (p:=2)
theorem Qt:zf Tryz.prog (zgS ZA):=
 okC Tryz.f225 (memC rU zu) (fz:=[(2,[6])]) (p:=2)
theorem BH:zf Tryz.prog (zCs QY):=
 okC Tryz.f233 (memC Zx zu)
theorem WC:zf Tryz.prog (ztU Qs):=
 okC Tryz.f276 (memC pu (memC MP (memC zFg zu))) (fz:=[(2,[2]),(3,[1]),(5,[1])]) (p:=1)
theorem eP(fu:Nat):zf Tryz.prog (M0 (VA fu)):=
 okC Tryz.f232 (memC yG (memC pu (memC WC zu))) (fz:=[(6,[2])]) (cuts:=[(2,⟨[0,11],⟨[.own 2263, .int .i64],[(2263, .sl 5)]⟩,[1,2,6,10],[],[],0,[0],⟨[.own 2263],[(2263, .sl 5)]⟩,[2263]⟩)]) (joins:=[(8,⟨[0,11],⟨[.own 2365, .int .i64],[(2365, .sl 5)]⟩,[],[],[],0,[],⟨[],[]⟩,[]⟩)]) (fl:=some fu)
theorem dP(fu:Nat):zf Tryz.prog (yZ (Qb fu)):=
 okC Tryz.f232 (memC yG (memC pu (memC WC zu))) (fz:=[(6,[2])]) (p:=1) (cuts:=[(2,⟨[0,11],⟨[.own 2367, .int .i64],[(2367, .sl 5)]⟩,[1,2,6,10],[],[],0,[0],⟨[.own 2367],[(2367, .sl 5)]⟩,[2367]⟩)]) (joins:=[(8,⟨[0,11],⟨[.own 2469, .int .i64],[(2469, .sl 5)]⟩,[],[],[],0,[],⟨[],[]⟩,[]⟩)]) (fl:=some fu)
theorem zs1:zf Tryz.prog (w9 uA):=
 okC Tryz.f333 (memC mM (memC eF (memC wV zu))) (fz:=[(2,[1]),(6,[1])]) (joins:=[(3,⟨[0,1],⟨[.own 2678, .int .i64],[(2678, .sl 5)]⟩,[2],[],[],0,[],⟨[],[]⟩,[]⟩),(9,⟨[0],⟨[.own 2781],[(2781, .sl 5)]⟩,[],[],[],0,[],⟨[],[]⟩,[]⟩)])
theorem PO:zf Tryz.prog (zCt lF):=
 okC Tryz.f334 zu (exS:=⟨[.optr 0],[(0, .row 372)]⟩)
theorem C9(fu:Nat):zf Tryz.prog (vZ (RN fu)):=
 okC Tryz.f302 (memC BH (memC (eP fu) (memC (dP fu) (memC Zy (memC WC (memC zs1 (memC vH (memC Zx (memC PO zu))))))))) (fz:=[(5,[7]),(7,[1]),(12,[1]),(14,[1]),(20,[2]),(22,[1]),(30,[2]),(32,[1]),(38,[4])]) (cuts:=[(16,⟨[0,67],⟨[.own 2471, .int .i64],[(2471, .sl 5)]⟩,[3,4,65,66],[0,3],[],1,[0],⟨[.own 2471],[(2471, .sl 5)]⟩,[2471]⟩),(26,⟨[0,93],⟨[.own 2575, .int .i64],[(2575, .sl 5)]⟩,[3,4,91,92],[0,2],[],3,[0],⟨[.own 2575],[(2575, .sl 5)]⟩,[2575]⟩)]) (joins:=[(12,⟨[5],⟨[.int .i64],[]⟩,[0,3],[0],[],0,[],⟨[],[]⟩,[]⟩),(21,⟨[0,67],⟨[.own 2573, .int .i64],[(2573, .sl 5)]⟩,[],[],[],0,[],⟨[],[]⟩,[]⟩),(31,⟨[0,93],⟨[.own 2677, .int .i64],[(2677, .sl 5)]⟩,[],[],[],0,[],⟨[],[]⟩,[]⟩)]) (fl:=some fu)
theorem zDG(fu:Nat):zf Tryz.prog (zEx (mV fu)):=
 okC Tryz.f271 (memC eG (memC (C9 fu) zu)) (fl:=some fu)
theorem yI(fu:Nat):zf Tryz.prog (zj0 (Z5 fu)):=
 okC Tryz.f226 (memC (zDG fu) (memC ZY zu)) (p:=2) (fl:=some fu)
theorem zjJ:zf Tryz.prog (zj7 stringslite_HasSuffix):=
 okC Tryz.f370 zu
theorem ziR:zf Tryz.prog (zje stringslite_TrimSuffix):=
 okC Tryz.f336 (memC zjJ zu)
theorem zmD:zf Tryz.prog (znv strings_TrimSuffix):=
 okC Tryz.f304 (memC ziR zu)
theorem zFf:zf Tryz.prog (zGH MV):=
 okC Tryz.f273 (memC gG (memC eF (memC zmD zu))) (joins:=[(10,⟨[6],⟨[.str],[]⟩,[1,5],[0],[],0,[],⟨[],[]⟩,[]⟩),(15,⟨[6],⟨[.str],[]⟩,[],[],[],0,[],⟨[],[]⟩,[]⟩)])
theorem ziJ(fu:Nat)(Zg:zx×List UInt8->Option (List UInt8))(h_seltext_writer_simpleQ:zf Tryz.prog (qy Zg)):zf Tryz.prog (zi8 (GR fu Zg)):=
 okC Tryz.f174 (memC ZY (memC Qt (memC (yI fu) (memC h_seltext_writer_simpleQ zu)))) (p:=2) (cuts:=[(1,⟨[13],⟨[.int .i64],[(0, .cells 218 [.nop 0 218 2, .own 4739]),(4739, .sl 5)]⟩,[0,11,12],[],[0],0,[],⟨[],[(0, .cells 218 [.nop 0 218 2, .own 4739]),(4739, .sl 5)]⟩,[0,4739]⟩),(9,⟨[40],⟨[.int .i64],[(0, .cells 218 [.nop 0 218 2, .own 5253]),(5253, .sl 5)]⟩,[38,39],[],[0],2,[],⟨[],[(0, .cells 218 [.nop 0 218 2, .own 5253]),(5253, .sl 5)]⟩,[0,5253]⟩),(19,⟨[77],⟨[.int .i64],[(0, .cells 218 [.nop 0 218 2, .own 5560]),(5560, .sl 5)]⟩,[75,76],[],[0],5,[],⟨[],[(0, .cells 218 [.nop 0 218 2, .own 5560]),(5560, .sl 5)]⟩,[0,5560]⟩)]) (joins:=[(5,⟨[],⟨[],[(0, .cells 218 [.nop 0 218 2, .own 4842]),(4842, .sl 5)]⟩,[5,13],[4740],[0],0,[],⟨[],[]⟩,[]⟩),(8,⟨[],⟨[],[(0, .cells 218 [.nop 0 218 2, .own 4945]),(4945, .sl 5)]⟩,[6],[4843],[0],0,[],⟨[],[]⟩,[]⟩),(13,⟨[],⟨[],[(0, .cells 218 [.nop 0 218 2, .own 5356]),(5356, .sl 5)]⟩,[8,40],[5254],[0],0,[],⟨[],[]⟩,[]⟩),(18,⟨[],⟨[],[(0, .cells 218 [.nop 0 218 2, .own 5458]),(5458, .sl 5)]⟩,[],[],[0],0,[],⟨[],[]⟩,[]⟩)]) (fl:=some fu)
theorem zi4(fu:Nat)(Zg:zx×List UInt8->Option (List UInt8))(hs:zf Tryz.prog (qy Zg)):zf Tryz.prog (qy (xI fu Zg)):=
 okC Tryz.f227 (memC (yI fu) (memC Qt (memC ZY (memC xH (memC zFf (memC (ziJ fu Zg hs) zu)))))) (p:=2) (joins:=[(14,⟨[],⟨[],[(0, .cells 218 [.nop 0 218 2, .own 2783]),(2783, .sl 5)]⟩,[0,3],[2],[0],0,[],⟨[],[]⟩,[]⟩),(16,⟨[],⟨[],[(0, .cells 218 [.nop 0 218 2, .own 2885]),(2885, .sl 5)]⟩,[],[],[0],0,[],⟨[],[]⟩,[]⟩),(27,⟨[],⟨[],[(0, .cells 218 [.nop 0 218 2, .own 2886]),(2886, .sl 5)]⟩,[0,3],[2],[0],0,[],⟨[],[]⟩,[]⟩)]) (fl:=some fu)
theorem ziK(fu:Nat):zf Tryz.prog (qy (Zg fu)):=Ag (qy (Zg fu)) (xI fu) (fun S h=>zi4 fu S h) fu
theorem zkw(fu:Nat):zf Tryz.prog (zlg (oQ fu)):=
 okC Tryz.f174 (memC ZY (memC Qt (memC (yI fu) (memC (ziK fu) zu)))) (p:=1) (cuts:=[(1,⟨[13],⟨[.int .i64],[(0, .cells 218 [.nop 0 218 2, .own 1952]),(1952, .sl 5)]⟩,[0,11,12],[],[0],0,[],⟨[],[(0, .cells 218 [.nop 0 218 2, .own 1952]),(1952, .sl 5)]⟩,[0,1952]⟩),(9,⟨[40],⟨[.int .i64],[(0, .cells 218 [.nop 0 218 2, .own 5562]),(5562, .sl 5)]⟩,[38,39],[],[0],2,[],⟨[],[(0, .cells 218 [.nop 0 218 2, .own 5562]),(5562, .sl 5)]⟩,[0,5562]⟩),(19,⟨[77],⟨[.int .i64],[(0, .cells 218 [.nop 0 218 2, .own 5869]),(5869, .sl 5)]⟩,[75,76],[],[0],5,[],⟨[],[(0, .cells 218 [.nop 0 218 2, .own 5869]),(5869, .sl 5)]⟩,[0,5869]⟩)]) (joins:=[(5,⟨[],⟨[],[(0, .cells 218 [.nop 0 218 2, .own 2055]),(2055, .sl 5)]⟩,[5,13],[1953],[0],0,[],⟨[],[]⟩,[]⟩),(8,⟨[],⟨[],[(0, .cells 218 [.nop 0 218 2, .own 2158]),(2158, .sl 5)]⟩,[6],[2056],[0],0,[],⟨[],[]⟩,[]⟩),(13,⟨[],⟨[],[(0, .cells 218 [.nop 0 218 2, .own 5665]),(5665, .sl 5)]⟩,[8,40],[5563],[0],0,[],⟨[],[]⟩,[]⟩),(18,⟨[],⟨[],[(0, .cells 218 [.nop 0 218 2, .own 5767]),(5767, .sl 5)]⟩,[],[],[0],0,[],⟨[],[]⟩,[]⟩)]) (fl:=some fu)
theorem zlz:zf Tryz.prog (zlR XQ):=
 okC Tryz.f70 zu (p:=2)
theorem FQ(fu:Nat):zf Tryz.prog (zt3 (MH fu)):=
 okC Tryz.f129 (memC (NQ fu) (memC (zkw fu) (memC zlz (memC zM2 zu)))) (fz:=[(4,[400000])]) (fl:=some fu)
theorem zjI:zf Tryz.prog (zj4 gQ):=
 okC Tryz.f70 zu (p:=1)
theorem zd4:zf Tryz.prog (zej nR):=
 okC Tryz.f67 (memC zJf zu) (p:=1)
theorem zo2:zf Tryz.prog (zps BQ):=
 okC Tryz.f128 (memC zjI (memC zd4 zu)) (p:=1)
theorem AR:zf Tryz.prog (zj5 pI):=
 okC Tryz.f70 zu (p:=2)
theorem zd5:zf Tryz.prog (zek mR):=
 okC Tryz.f67 (memC zLf zu) (p:=2)
theorem Qd:zf Tryz.prog (zno zP):=
 okC Tryz.f128 (memC AR (memC zd5 zu)) (p:=2)
theorem EH(fu:Nat):zf Tryz.prog (zCq (gy fu)):=
 okC Tryz.f179 (memC Zy (memC BH (memC (eP fu) zu))) (fl:=some fu)
theorem zs2:zf Tryz.prog (r9 rA):=
 okC Tryz.f333 (memC mM (memC eF (memC wV zu))) (fz:=[(2,[1]),(6,[1])]) (p:=1) (joins:=[(3,⟨[0,1],⟨[.own 6079, .int .i64],[(6079, .sl 5)]⟩,[2],[],[],0,[],⟨[],[]⟩,[]⟩),(9,⟨[0],⟨[.own 6182],[(6182, .sl 5)]⟩,[],[],[],0,[],⟨[],[]⟩,[]⟩)])
theorem A9(fu:Nat):zf Tryz.prog (uZ (PN fu)):=
 okC Tryz.f302 (memC BH (memC (dP fu) (memC Zy (memC WC (memC zs2 (memC vH (memC Zx (memC PO zu)))))))) (fz:=[(5,[7]),(7,[1]),(12,[1]),(14,[1]),(20,[2]),(22,[1]),(30,[2]),(32,[1]),(38,[4])]) (p:=1) (cuts:=[(16,⟨[0,67],⟨[.own 5872, .int .i64],[(5872, .sl 5)]⟩,[3,4,65,66],[1,4],[],1,[0],⟨[.own 5872],[(5872, .sl 5)]⟩,[5872]⟩),(26,⟨[0,93],⟨[.own 5976, .int .i64],[(5976, .sl 5)]⟩,[3,4,91,92],[1,3],[],3,[0],⟨[.own 5976],[(5976, .sl 5)]⟩,[5976]⟩)]) (joins:=[(12,⟨[5],⟨[.int .i64],[(0, .sl 5)]⟩,[0,3],[1],[0],0,[],⟨[],[]⟩,[]⟩),(21,⟨[0,67],⟨[.own 5974, .int .i64],[(5974, .sl 5)]⟩,[],[],[],0,[],⟨[],[]⟩,[]⟩),(31,⟨[0,93],⟨[.own 6078, .int .i64],[(6078, .sl 5)]⟩,[],[],[],0,[],⟨[],[]⟩,[]⟩)]) (fl:=some fu)
theorem zlw(fu:Nat):zf Tryz.prog (zlO (aQ fu)):=
 okC Tryz.f305 zu (cuts:=[(4,⟨[13],⟨[.int .i64],[]⟩,[0,1,12],[],[],0,[],⟨[],[]⟩,[]⟩)]) (fl:=some fu)
theorem jY(fu:Nat):zf Tryz.prog (DX (kM fu)):=
 okC Tryz.f274 (memC (NP fu) (memC (LP fu) (memC (A9 fu) (memC (GI fu) (memC (zlw fu) zu))))) (fz:=[(24,[5])]) (cuts:=[(7,⟨[5,6,7],⟨[.own 6289, .own 6290, .int .i64],[(6289, .sl 5),(6290, .sl 332)]⟩,[0],[],[],0,[5],⟨[.own 6289],[(6289, .sl 5)]⟩,[6289]⟩),(11,⟨[9,36],⟨[.own 5870, .int .i64],[(5870, .sl 5)]⟩,[5,6,7,8,34,35],[6289,6290],[],2,[9],⟨[.own 5870],[(5870, .sl 5)]⟩,[5870]⟩)]) (joins:=[(17,⟨[5,6,7,9],⟨[.own 6289, .own 6290, .int .i64, .own 6392],[(6289, .sl 5),(6290, .sl 332),(6392, .sl 5)]⟩,[8],[],[6289,6290],0,[],⟨[],[]⟩,[]⟩),(21,⟨[5,6,7],⟨[.own 6289, .own 6290, .int .i64],[(6289, .sl 5),(6290, .sl 332),(6393, .row 332)]⟩,[9,12],[6392],[6289,6290,6393],0,[],⟨[],[]⟩,[]⟩),(24,⟨[5,6,7],⟨[.own 6497, .own 6290, .int .i64],[(6290, .sl 332),(6497, .sl 5)]⟩,[],[6393],[6290],0,[],⟨[],[]⟩,[]⟩)]) (fl:=some fu)
theorem zBa(fu:Nat):zf Tryz.prog (zCz (MM fu)):=
 okC Tryz.f228 (memC (Qy fu) (memC (zs4 fu) (memC (jY fu) zu))) (fl:=some fu)
theorem RO(fu:Nat):zf Tryz.prog (zCm (sF fu)):=
 okC Tryz.f175 (memC (RB fu) (memC (EH fu) (memC (zBa fu) zu))) (joins:=[(13,⟨[8],⟨[.str],[]⟩,[],[],[],0,[],⟨[],[]⟩,[]⟩)]) (fl:=some fu)
theorem UO(fu:Nat):zf Tryz.prog (zCl (tF fu)):=
 okC Tryz.f130 (memC (RO fu) (memC Mx zu)) (fz:=[(12,[2])]) (pre:=[(14,[(4,none)])]) (cuts:=[(6,⟨[4,5,16],⟨[.own 6498, .bool, .int .i64],[(6498, .sl 9)]⟩,[14,15],[],[],0,[4,5],⟨[.own 6498, .bool],[(6498, .sl 9)]⟩,[6498]⟩)]) (fl:=some fu)
theorem uY(fu:Nat):zf Tryz.prog (PX (iM fu)):=
 okC Tryz.f176 (memC (gI fu) (memC (oI fu) zu)) (fl:=some fu)
theorem zsZ:zf Tryz.prog (ztT su):=
 okC Tryz.f275 zu (p:=2)
theorem D9(fu:Nat):zf Tryz.prog (U0 (SN fu)):=
 okC Tryz.f230 (memC (gP fu) (memC zsZ zu)) (fz:=[(1,[1]),(7,[200000])]) (cuts:=[(12,⟨[9,26],⟨[.int .i64, .int .i64],[(1, .sl 5),(2, .row 3)]⟩,[0,6,7,8],[],[1,2],0,[],⟨[],[(1, .sl 5),(2, .row 3)]⟩,[1,2]⟩),(23,⟨[0],⟨[.int .i64],[(1, .sl 5),(2, .row 3)]⟩,[6,7,8],[],[1,2],2,[],⟨[],[(1, .sl 5),(2, .row 3)]⟩,[1,2]⟩)]) (joins:=[(7,⟨[0],⟨[.int .i64],[]⟩,[5],[],[],0,[],⟨[],[]⟩,[]⟩),(17,⟨[9],⟨[.int .i64],[(1, .sl 5),(2, .row 3)]⟩,[10,26],[],[1,2],0,[],⟨[],[]⟩,[]⟩),(20,⟨[9,26],⟨[.int .i64, .int .i64],[(1, .sl 5),(2, .row 3)]⟩,[],[],[1,2],0,[],⟨[],[]⟩,[]⟩),(27,⟨[],⟨[],[(1, .sl 5),(2, .row 3)]⟩,[6,7],[],[1,2],0,[],⟨[],[]⟩,[]⟩)]) (fl:=some fu)
theorem zA3(fu:Nat)(qb:zm->Option Str)(h_cond_mediaQ:zf Tryz.prog (lu qb)):zf Tryz.prog (zCh (uF fu qb)):=
 okC Tryz.f229 (memC h_cond_mediaQ (memC Mx zu)) (fz:=[(5,[4])]) (pre:=[(7,[(7,none)])]) (cuts:=[(3,⟨[7,12],⟨[.own 6499, .int .i64],[(6499, .sl 9)]⟩,[1,2,6,10,11],[],[],0,[7],⟨[.own 6499],[(6499, .sl 9)]⟩,[6499]⟩)]) (fl:=some fu)
theorem UY(fu:Nat)(qb:zm->Option Str)(hs:zf Tryz.prog (lu qb)):zf Tryz.prog (lu (FH fu qb)):=
 okC Tryz.f177 (memC (EH fu) (memC hs (memC (zA3 fu qb hs) (memC (D9 fu) zu)))) (fl:=some fu)
theorem tY(fu:Nat):zf Tryz.prog (lu (qb fu)):=Ag (lu (qb fu)) (FH fu) (fun S h=>UY fu S h) fu
theorem eQ(fu:Nat)(Zl:zm×Bool->Option (Str×Bool))(h_cond_supportsQ:zf Tryz.prog (QW Zl)):zf Tryz.prog (zpq (yH fu Zl)):=
 okC Tryz.f231 (memC h_cond_supportsQ (memC fG zu)) (p:=2) (fl:=some fu)
theorem F9(fu:Nat)(Zl:zm×Bool->Option (Str×Bool))(h_cond_supportsQ:zf Tryz.prog (QW Zl)):zf Tryz.prog (U1 (rG fu Zl)):=
 okC Tryz.f229 (memC (eQ fu Zl h_cond_supportsQ) (memC Mx zu)) (fz:=[(5,[4])]) (pre:=[(7,[(7,none)])]) (p:=2) (cuts:=[(3,⟨[7,12],⟨[.own 6500, .int .i64],[(1, .row 4),(6500, .sl 9)]⟩,[1,2,6,10,11],[],[1],0,[7],⟨[.own 6500],[(1, .row 4),(6500, .sl 9)]⟩,[1,6500]⟩)]) (fl:=some fu)
theorem zrT(fu:Nat)(Zl:zm×Bool->Option (Str×Bool))(hs:zf Tryz.prog (QW Zl)):zf Tryz.prog (QW (BI fu Zl)):=
 okC Tryz.f178 (memC (RO fu) (memC (eQ fu Zl hs) (memC (F9 fu Zl hs) zu))) (p:=1) (fl:=some fu)
theorem zrx(fu:Nat):zf Tryz.prog (QW (Zl fu)):=Ag (QW (Zl fu)) (BI fu) (fun S h=>zrT fu S h) fu
theorem XO(fu:Nat):zf Tryz.prog (zCf (vF fu)):=
 okC Tryz.f131 (memC (uY fu) (memC (gI fu) (memC (tY fu) (memC (zrx fu) zu)))) (joins:=[(8,⟨[5],⟨[.str],[(1, .row 4)]⟩,[6],[],[1],0,[],⟨[],[]⟩,[]⟩)]) (fl:=some fu)
theorem BR:zf Tryz.prog (zjZ Z4):=
 okC Tryz.f127 (memC Qd zu) (p:=3)
theorem kQ(fu:Nat):zf Tryz.prog (znn (Jv fu)):=
 okC Tryz.f133 (memC Qd (memC (EH fu) zu)) (p:=2) (cuts:=[(1,⟨[8],⟨[.int .i64],[(0, .cells 126 [.nop 0 126 3, .own 6503, .bool]),(6503, .sl 5)]⟩,[0,6,7],[],[0],0,[],⟨[],[(0, .cells 126 [.nop 0 126 3, .own 6503, .bool]),(6503, .sl 5)]⟩,[0,6503]⟩)]) (joins:=[(5,⟨[],⟨[],[(0, .cells 126 [.nop 0 126 3, .own 6605, .bool]),(6605, .sl 5)]⟩,[5,8],[],[0],0,[],⟨[],[]⟩,[]⟩)]) (fl:=some fu)
theorem zku(fu:Nat)(Zi:List zC×Bool×List UInt8->Option (Bool×List UInt8))(h_round_writer_groupQ:zf Tryz.prog (qZ Zi)):zf Tryz.prog (zle (pQ fu Zi)):=
 okC Tryz.f69 (memC (FQ fu) (memC Qd (memC (UO fu) (memC (XO fu) (memC BR (memC h_round_writer_groupQ (memC (kQ fu) zu))))))) (p:=2) (cuts:=[(24,⟨[75],⟨[.int .i64],[(0, .cells 126 [.nop 0 126 3, .own 6712, .bool]),(6712, .sl 5)]⟩,[73,74],[],[0],1,[],⟨[],[(0, .cells 126 [.nop 0 126 3, .own 6712, .bool]),(6712, .sl 5)]⟩,[0,6712]⟩),(33,⟨[96],⟨[.int .i64],[(0, .cells 126 [.nop 0 126 3, .own 6714, .bool]),(6714, .sl 5)]⟩,[94,95],[],[0],3,[],⟨[],[(0, .cells 126 [.nop 0 126 3, .own 6714, .bool]),(6714, .sl 5)]⟩,[0,6714]⟩)]) (joins:=[(12,⟨[41],⟨[.bool],[(0, .cells 126 [.nop 0 126 3, .own 1, .bool]),(1, .sl 5)]⟩,[2,3,4,14],[2,3],[0,1],0,[],⟨[],[]⟩,[]⟩),(15,⟨[5],⟨[.str],[(0, .cells 126 [.nop 0 126 3, .own 1, .bool]),(1, .sl 5)]⟩,[],[],[0,1],0,[],⟨[],[]⟩,[]⟩),(18,⟨[6],⟨[.str],[(0, .cells 126 [.nop 0 126 3, .own 1, .bool]),(1, .sl 5)]⟩,[5,7],[],[0,1],0,[],⟨[],[]⟩,[]⟩),(37,⟨[],⟨[],[(0, .cells 126 [.nop 0 126 3, .own 6816, .bool]),(6816, .sl 5)]⟩,[11,96],[],[0],0,[],⟨[],[]⟩,[]⟩)]) (fl:=some fu)
theorem zlB(fu:Nat)(Zi:List zC×Bool×List UInt8->Option (Bool×List UInt8))(hs:zf Tryz.prog (qZ Zi)):zf Tryz.prog (qZ (kI fu Zi)):=
 okC Tryz.f132 (memC Qd (memC (zku fu Zi hs) zu)) (p:=2) (cuts:=[(4,⟨[15],⟨[.int .i64],[(0, .cells 126 [.nop 0 126 3, .own 6711, .bool]),(6711, .sl 5)]⟩,[0,13,14],[],[0],0,[],⟨[],[(0, .cells 126 [.nop 0 126 3, .own 6711, .bool]),(6711, .sl 5)]⟩,[0,6711]⟩)]) (fl:=some fu)
theorem zlr(fu:Nat):zf Tryz.prog (qZ (Zi fu)):=Ag (qZ (Zi fu)) (kI fu) (fun S h=>zlB fu S h) fu
theorem zmw(fu:Nat):zf Tryz.prog (znp (UQ fu)):=
 okC Tryz.f69 (memC (FQ fu) (memC zo2 (memC Qd (memC (UO fu) (memC (XO fu) (memC BR (memC (zlr fu) (memC (kQ fu) zu)))))))) (p:=1) (cuts:=[(24,⟨[75],⟨[.int .i64],[(0, .cells 126 [.nop 0 126 3, .own 6817, .bool]),(6817, .sl 5)]⟩,[73,74],[],[0],1,[],⟨[],[(0, .cells 126 [.nop 0 126 3, .own 6817, .bool]),(6817, .sl 5)]⟩,[0,6817]⟩),(33,⟨[96],⟨[.int .i64],[(0, .cells 126 [.nop 0 126 3, .own 6819, .bool]),(6819, .sl 5)]⟩,[94,95],[],[0],3,[],⟨[],[(0, .cells 126 [.nop 0 126 3, .own 6819, .bool]),(6819, .sl 5)]⟩,[0,6819]⟩)]) (joins:=[(12,⟨[41],⟨[.bool],[(0, .cells 126 [.nop 0 126 3, .own 6501, .bool]),(6501, .sl 5)]⟩,[2,3,4,14],[1,2],[0],0,[],⟨[],[]⟩,[]⟩),(15,⟨[5],⟨[.str],[(0, .cells 126 [.nop 0 126 3, .own 6501, .bool]),(6501, .sl 5)]⟩,[],[],[0,6501],0,[],⟨[],[]⟩,[]⟩),(18,⟨[6],⟨[.str],[(0, .cells 126 [.nop 0 126 3, .own 6501, .bool]),(6501, .sl 5)]⟩,[5,7],[],[0,6501],0,[],⟨[],[]⟩,[]⟩),(37,⟨[],⟨[],[(0, .cells 126 [.nop 0 126 3, .own 6921, .bool]),(6921, .sl 5)]⟩,[11,96],[],[0],0,[],⟨[],[]⟩,[]⟩)]) (fl:=some fu)
theorem TZ(fu:Nat):zf Tryz.prog (LY (aM fu)):=
 okC Tryz.f37 (memC (zmw fu) (memC AR (memC zM3 zu))) (fz:=[(1,[400000])]) (fl:=some fu)
theorem J6(fu:Nat):zf Tryz.prog (K3 (BN fu)):=
 okC Tryz.f23 (memC (H6 fu) (memC (TZ fu) zu)) (fz:=[(11,[2])]) (cuts:=[(6,⟨[5,18],⟨[.own 6922, .int .i64],[(6922, .sl 9)]⟩,[16,17],[],[],0,[5],⟨[.own 6922],[(6922, .sl 9)]⟩,[6922]⟩)]) (fl:=some fu)
theorem K6(fu:Nat):zf Tryz.prog (M3 (DN fu)):=
 okC Tryz.f22 (memC (J6 fu) (memC Mx zu)) (fl:=some fu)
theorem zs3(fu:Nat):zf Tryz.prog (p9 (BO fu)):=
 okC Tryz.f21 (memC (T9 fu) (memC (K6 fu) zu)) (fl:=some fu)
theorem H7(fu:Nat):zf Tryz.prog (rZ (Vq fu)):=
 okC Tryz.f15 (memC (zs3 fu) zu) (fl:=some fu)
theorem zgp:zf Tryz.prog (zgR qY):=
 okC Tryz.f144 (memC II zu) (cuts:=[(2,⟨[8],⟨[.int .i64],[]⟩,[0,1,7],[],[],0,[],⟨[],[]⟩,[]⟩)])
theorem zer:zf Tryz.prog (ze8 qC):=
 okC Tryz.f80 (memC zgp zu)
theorem MZ:zf Tryz.prog (FY Gz):=
 okC Tryz.f43 (memC zer zu)
theorem D6:zf Tryz.prog (V5 Xz):=
 okC Tryz.f42 (memC MZ zu)
theorem zhH:zf Tryz.prog (zix EJ):=
 okC Tryz.f79 (memC D6 zu) (cuts:=[(2,⟨[8],⟨[.int .i64],[]⟩,[0,1,7],[],[],0,[],⟨[],[]⟩,[]⟩)])
theorem zfC:zf Tryz.prog (zfZ qQ):=
 okC Tryz.f41 (memC zhH zu)
theorem zrX(qX:List zg->Option Int)(hs:zf Tryz.prog (aC qX)):zf Tryz.prog (aC (MC qX)):=
 okC Tryz.f44 (memC hs zu) (cuts:=[(3,⟨[3,14],⟨[.int .i64, .int .i64],[]⟩,[2,12,13],[],[],0,[3],⟨[.int .i64],[]⟩,[]⟩),(6,⟨[3,21],⟨[.int .i64, .int .i64],[]⟩,[14,19,20],[],[],2,[3],⟨[.int .i64],[]⟩,[]⟩),(9,⟨[3,28],⟨[.int .i64, .int .i64],[]⟩,[21,26,27],[],[],4,[3],⟨[.int .i64],[]⟩,[]⟩)]) (joins:=[(15,⟨[3,28],⟨[.int .i64, .int .i64],[]⟩,[],[],[],0,[],⟨[],[]⟩,[]⟩)])
theorem zrH:zf Tryz.prog (aC qX):=recC (aC qX) (MC) (fun S h=>zrX S h)
theorem OB:zf Tryz.prog (xW Bl):=
 okC Tryz.f76 zu (cuts:=[(3,⟨[10],⟨[.int .i64],[(0, .sl 5)]⟩,[2,3,8,9],[],[0],0,[],⟨[],[(0, .sl 5)]⟩,[0]⟩)]) (joins:=[(7,⟨[10],⟨[.int .i64],[(0, .sl 5)]⟩,[],[],[0],0,[],⟨[],[]⟩,[]⟩)])
theorem CQ:zf Tryz.prog (zt8 jq):=
 okC Tryz.f205 (memC UC (memC OB zu))
theorem zo5(zG:zg×zh×Bool->Option Bool)(h_seltext_whole:zf Tryz.prog (ZO zG)):zf Tryz.prog (zpw (DI zG)):=
 okC Tryz.f256 (memC h_seltext_whole zu) (p:=2)
theorem zfD(zG:zg×zh×Bool->Option Bool)(h_seltext_whole:zf Tryz.prog (ZO zG)):zf Tryz.prog (zf0 (QU zG)):=
 okC Tryz.f146 (memC (zo5 zG h_seltext_whole) zu) (p:=2) (cuts:=[(2,⟨[8],⟨[.int .i64],[]⟩,[0,1,7],[],[],0,[],⟨[],[]⟩,[]⟩)])
theorem zd0(zG:zg×zh×Bool->Option Bool)(h_seltext_whole:zf Tryz.prog (ZO zG)):zf Tryz.prog (zee (qw zG)):=
 okC Tryz.f83 (memC (zfD zG h_seltext_whole) zu) (p:=2)
theorem zrF(zG:zg×zh×Bool->Option Bool)(h_seltext_whole:zf Tryz.prog (ZO zG)):zf Tryz.prog (zsI (wu zG)):=
 okC Tryz.f206 (memC EQ (memC KD (memC (zd0 zG h_seltext_whole) (memC UC (memC CQ (memC oH (memC gG zu))))))) (joins:=[(8,⟨[],⟨[],[]⟩,[2],[0],[],0,[],⟨[],[]⟩,[]⟩),(15,⟨[89],⟨[.bool],[]⟩,[10,88],[],[],0,[],⟨[],[]⟩,[]⟩)])
theorem zo4(zG:zg×zh×Bool->Option Bool)(h_seltext_whole:zf Tryz.prog (ZO zG)):zf Tryz.prog (zpu (NC zG)):=
 okC Tryz.f149 (memC CQ (memC (zrF zG h_seltext_whole) zu)) (cuts:=[(4,⟨[30],⟨[.int .i64],[]⟩,[2,3,28,29],[0,1],[],0,[],⟨[],[]⟩,[]⟩)])
theorem zqq(zG:zg×zh×Bool->Option Bool)(h_seltext_whole:zf Tryz.prog (ZO zG)):zf Tryz.prog (zq9 (lH zG)):=
 okC Tryz.f148 (memC (zo4 zG h_seltext_whole) zu) (p:=1)
theorem zgl(zG:zg×zh×Bool->Option Bool)(h_seltext_whole:zf Tryz.prog (ZO zG)):zf Tryz.prog (zgN (AJ zG)):=
 okC Tryz.f204 (memC (zqq zG h_seltext_whole) zu) (p:=1) (cuts:=[(2,⟨[8],⟨[.int .i64],[]⟩,[0,1,7],[],[],0,[],⟨[],[]⟩,[]⟩)])
theorem zep(zG:zg×zh×Bool->Option Bool)(h_seltext_whole:zf Tryz.prog (ZO zG)):zf Tryz.prog (ze6 (qB zG)):=
 okC Tryz.f147 (memC (zgl zG h_seltext_whole) zu) (p:=1)
theorem G9(zG:zg×zh×Bool->Option Bool)(hs:zf Tryz.prog (ZO zG)):zf Tryz.prog (ZO (yB zG)):=
 okC Tryz.f85 (memC (zep zG hs) zu) (cuts:=[(4,⟨[38],⟨[.int .i64],[]⟩,[3,4,36,37],[0,1],[],0,[],⟨[],[]⟩,[]⟩)])
theorem W9:zf Tryz.prog (ZO zG):=recC (ZO zG) (yB) (fun S h=>G9 S h)
theorem zqo:zf Tryz.prog (zq7 mH):=
 okC Tryz.f84 (memC W9 zu)
theorem zhd:zf Tryz.prog (zhy wI):=
 okC Tryz.f146 (memC zqo zu) (cuts:=[(2,⟨[8],⟨[.int .i64],[]⟩,[0,1,7],[],[],0,[],⟨[],[]⟩,[]⟩)])
theorem zfe:zf Tryz.prog (zft qI):=
 okC Tryz.f83 (memC zhd zu)
theorem H9(Qv:List zg->Option Int)(hs:zf Tryz.prog (uB Qv)):zf Tryz.prog (uB (AC Qv)):=
 okC Tryz.f86 (memC hs zu) (cuts:=[(3,⟨[3,14],⟨[.int .i64, .int .i64],[]⟩,[2,12,13],[],[],0,[3],⟨[.int .i64],[]⟩,[]⟩),(6,⟨[3,21],⟨[.int .i64, .int .i64],[]⟩,[14,19,20],[],[],2,[3],⟨[.int .i64],[]⟩,[]⟩),(9,⟨[3,28],⟨[.int .i64, .int .i64],[]⟩,[21,26,27],[],[],4,[3],⟨[.int .i64],[]⟩,[]⟩)])
theorem X9:zf Tryz.prog (uB Qv):=recC (uB Qv) (AC) (fun S h=>H9 S h)
theorem zs9:zf Tryz.prog (zt2 XA):=
 okC Tryz.f45 (memC zfe (memC X9 zu))
theorem zD6(Ni:List ze×Int->Option zU)(hs:zf Tryz.prog (Vz Ni)):zf Tryz.prog (Vz (uy Ni)):=
 okC Tryz.f88 (memC fq (memC hs zu)) (cuts:=[(3,⟨[12],⟨[.int .i64],[(1, .row 155)]⟩,[1,4,5,10,11],[0],[1],0,[],⟨[],[(1, .row 155)]⟩,[1]⟩)]) (joins:=[(9,⟨[],⟨[],[(1, .row 155)]⟩,[7,8,12],[2],[1],0,[],⟨[],[]⟩,[]⟩),(12,⟨[12],⟨[.int .i64],[(1, .row 155)]⟩,[],[],[1],0,[],⟨[],[]⟩,[]⟩)]) (exS:=⟨[.optr 0],[(0, .row 155)]⟩)
theorem GN:zf Tryz.prog (Vz Ni):=recC (Vz Ni) (uy) (fun S h=>zD6 S h)
theorem OO:zf Tryz.prog (zCw Rt):=
 okC Tryz.f87 (memC GN zu)
theorem xG:zf Tryz.prog (zCx jk):=
 okC Tryz.f47 (memC OO (memC GN zu))
theorem TY(uj:List ze×List zk->Option (List zk))(hs:zf Tryz.prog (EB uj)):zf Tryz.prog (EB (nA uj)):=
 okC Tryz.f150 (memC fq (memC hs zu)) (fz:=[(4,[3]),(7,[6])]) (p:=1) (cuts:=[(2,⟨[0,10],⟨[.own 6923, .int .i64],[(6923, .sl 131)]⟩,[4,8,9],[],[],0,[0],⟨[.own 6923],[(6923, .sl 131)]⟩,[6923]⟩)]) (joins:=[(8,⟨[0,10],⟨[.own 7025, .int .i64],[(7025, .sl 131)]⟩,[],[],[],0,[],⟨[],[]⟩,[]⟩)])
theorem dY:zf Tryz.prog (EB uj):=recC (EB uj) (nA) (fun S h=>TY S h)
theorem eY:zf Tryz.prog (pW wy):=
 okC Tryz.f150 (memC fq (memC dY zu)) (fz:=[(4,[3]),(7,[6])]) (cuts:=[(2,⟨[0,10],⟨[.own 7027, .int .i64],[(7027, .sl 131)]⟩,[4,8,9],[],[],0,[0],⟨[.own 7027],[(7027, .sl 131)]⟩,[7027]⟩)]) (joins:=[(8,⟨[0,10],⟨[.own 7129, .int .i64],[(7129, .sl 131)]⟩,[],[],[],0,[],⟨[],[]⟩,[]⟩)])
theorem zDI:zf Tryz.prog (zEA Jy):=
 okC Tryz.f89 (memC OO (memC eY zu))
theorem zA7:zf Tryz.prog (zCo iy):=
 okC Tryz.f90 (memC Zy (memC Zx (memC OB zu)))
theorem iY:zf Tryz.prog (AX Bz):=
 okC Tryz.f211 (memC OB zu)
theorem zA9:zf Tryz.prog (zCv ay):=
 okC Tryz.f152 (memC bP (memC iY zu)) (joins:=[(11,⟨[5],⟨[.int .i64],[]⟩,[3],[0],[],0,[],⟨[],[]⟩,[]⟩)])
theorem zA8:zf Tryz.prog (zCp Ut):=
 okC Tryz.f91 (memC eG (memC zA9 zu)) (cuts:=[(4,⟨[10],⟨[.int .i64],[]⟩,[0,8,9],[],[],0,[],⟨[],[]⟩,[]⟩)])
theorem zry(Zn:List ze->Option Bool)(h_decl_closers:zf Tryz.prog (Xm Zn)):zf Tryz.prog (zsD (Dv Zn)):=
 okC Tryz.f153 (memC Sj (memC h_decl_closers zu))
theorem ziP(Zn:List ze->Option Bool)(h_decl_closers:zf Tryz.prog (Xm Zn)):zf Tryz.prog (zjc (lI Zn)):=
 okC Tryz.f137 (memC (zry Zn h_decl_closers) zu) (cuts:=[(2,⟨[8],⟨[.int .i64],[]⟩,[0,1,7],[],[],0,[],⟨[],[]⟩,[]⟩)])
theorem zgj(Zn:List ze->Option Bool)(h_decl_closers:zf Tryz.prog (Xm Zn)):zf Tryz.prog (zgL (BJ Zn)):=
 okC Tryz.f93 (memC (ziP Zn h_decl_closers) zu)
theorem N7(Zn:List ze->Option Bool)(hs:zf Tryz.prog (Xm Zn)):zf Tryz.prog (Xm (UB Zn)):=
 okC Tryz.f92 (memC (zgj Zn hs) zu)
theorem E9:zf Tryz.prog (Xm Zn):=recC (Xm Zn) (UB) (fun S h=>N7 S h)
theorem zhe:zf Tryz.prog (zhz IJ):=
 okC Tryz.f137 (memC jP zu) (cuts:=[(2,⟨[8],⟨[.int .i64],[]⟩,[0,1,7],[],[],0,[],⟨[],[]⟩,[]⟩)])
theorem zff:zf Tryz.prog (zfu qJ):=
 okC Tryz.f93 (memC zhe zu)
theorem VO:zf Tryz.prog (zCk nk):=
 okC Tryz.f48 (memC zDI (memC zA7 (memC zA8 (memC E9 (memC zff (memC Zx (memC Sj zu)))))))
theorem PY(Yj:zm->Option Int)(hs:zf Tryz.prog (CB Yj)):zf Tryz.prog (CB (xA Yj)):=
 okC Tryz.f49 (memC hs zu) (cuts:=[(5,⟨[3,17],⟨[.int .i64, .int .i64],[]⟩,[15,16],[],[],0,[3],⟨[.int .i64],[]⟩,[]⟩)]) (joins:=[(4,⟨[3],⟨[.int .i64],[]⟩,[1],[0],[],0,[],⟨[],[]⟩,[]⟩)])
theorem OZ:zf Tryz.prog (CB Yj):=recC (CB Yj) (xA) (fun S h=>PY S h)
theorem zlx:zf Tryz.prog (zlP slices_Index_string):=
 okC Tryz.f296 zu (cuts:=[(2,⟨[8],⟨[.int .i64],[]⟩,[0,1,7],[],[],0,[],⟨[],[]⟩,[]⟩)])
theorem ziM:zf Tryz.prog (zi9 slices_Contains_string):=
 okC Tryz.f262 (memC zlx zu)
theorem rY:zf Tryz.prog (OX Su):=
 okC Tryz.f212 (memC ziM (memC OB (memC Zy zu))) (fz:=[(1,[0])])
theorem kY:zf Tryz.prog (FX VG):=
 okC Tryz.f263 zu (cuts:=[(2,⟨[7],⟨[.int .i64],[]⟩,[5,6],[],[],0,[],⟨[],[]⟩,[]⟩)])
theorem lY:zf Tryz.prog (GX Nu):=
 okC Tryz.f213 (memC kY zu) (fz:=[(1,[1])])
theorem zA5:zf Tryz.prog (zCj Yt):=
 okC Tryz.f156 (memC Jl (memC rY (memC lY zu))) (cuts:=[(4,⟨[23],⟨[.int .i64],[]⟩,[21,22],[],[],0,[],⟨[],[]⟩,[]⟩)]) (joins:=[(17,⟨[57],⟨[.bool],[]⟩,[4,23],[1],[],0,[],⟨[],[]⟩,[]⟩),(19,⟨[23],⟨[.int .i64],[]⟩,[],[],[],0,[],⟨[],[]⟩,[]⟩)])
theorem zDD:zf Tryz.prog (zEr Ry):=
 okC Tryz.f100 (memC Jl (memC zA5 (memC WO zu)))
theorem znC:zf Tryz.prog (zoy tC):=
 okC Tryz.f99 (memC zDD zu)
theorem zjH:zf Tryz.prog (zj3 sI):=
 okC Tryz.f155 (memC znC zu) (cuts:=[(2,⟨[8],⟨[.int .i64],[]⟩,[0,1,7],[],[],0,[],⟨[],[]⟩,[]⟩)])
theorem zhc:zf Tryz.prog (zhx Qi):=
 okC Tryz.f98 (memC zjH zu)
theorem zpZ:zf Tryz.prog (zq2 jB):=
 okC Tryz.f50 (memC zhc (memC Jl zu))
theorem zBX(Oi:zm->Option Int)(hs:zf Tryz.prog (nz Oi)):zf Tryz.prog (nz (Iq Oi)):=
 okC Tryz.f51 (memC xG (memC hs zu)) (cuts:=[(9,⟨[5,27],⟨[.int .i64, .int .i64],[]⟩,[2,25,26],[],[],1,[5],⟨[.int .i64],[]⟩,[]⟩)]) (joins:=[(14,⟨[5,8],⟨[.int .i64, .int .i64],[]⟩,[27],[],[],0,[],⟨[],[]⟩,[]⟩)])
theorem zBr:zf Tryz.prog (nz Oi):=recC (nz Oi) (Iq) (fun S h=>zBX S h)
theorem zD5(Yh:zm×Int->Option ((Int×Bool)×Int))(hs:zf Tryz.prog (Wz Yh)):zf Tryz.prog (Wz (Gq Yh)):=
 okC Tryz.f102 (memC xG (memC VO (memC Jl (memC hs (memC fG zu))))) (p:=1) (cuts:=[(19,⟨[9,97],⟨[.int .i64, .int .i64],[(0, .row 3)]⟩,[1,95,96],[],[0],1,[9],⟨[.int .i64],[(0, .row 3)]⟩,[0]⟩)]) (joins:=[(15,⟨[69],⟨[.bool],[]⟩,[1,2,6],[0,1],[],0,[],⟨[],[]⟩,[]⟩),(26,⟨[9,12],⟨[.int .i64, .int .i64],[]⟩,[97],[0],[],0,[],⟨[],[]⟩,[]⟩)])
theorem zDE:zf Tryz.prog (Wz Yh):=recC (Wz Yh) (Gq) (fun S h=>zD5 S h)
theorem zme:zf Tryz.prog (znl lC):=
 okC Tryz.f52 (memC zDE zu)
theorem zBW(Pi:List zC->Option zq)(hs:zf Tryz.prog (oz Pi)):zf Tryz.prog (oz (Jq Pi)):=
 okC Tryz.f26 (memC hs (memC zfC (memC zrH (memC zs9 (memC pO (memC xG (memC VO (memC OZ (memC zpZ (memC zBr (memC zme zu))))))))))) (cuts:=[(3,⟨[18],⟨[.int .i64],[(1, .row 77)]⟩,[2,3,16,17],[0],[1],0,[],⟨[],[(1, .row 77)]⟩,[1]⟩),(17,⟨[10,87],⟨[.bool, .int .i64],[(3, .row 77)]⟩,[6,7,18,85,86],[1],[3],3,[10],⟨[.bool],[(3, .row 77)]⟩,[3]⟩)]) (joins:=[(35,⟨[7,10],⟨[.int .i64, .bool],[(1, .row 77),(3, .row 77)]⟩,[6,18],[],[1,3],0,[],⟨[],[]⟩,[]⟩)]) (exS:=⟨[.optr 0],[(0, .row 77)]⟩)
theorem zBq:zf Tryz.prog (oz Pi):=recC (oz Pi) (Jq) (fun S h=>zBW S h)
theorem rO:zf Tryz.prog (HY Fu):=
 okC Tryz.f27 (memC zBq zu)
theorem XH:zf Tryz.prog (JY Gl):=
 okC Tryz.f10 (memC rO zu)
theorem zqr:zf Tryz.prog (zra xB):=
 okC Tryz.f30 (memC rO zu) (fz:=[(1,[1])])
theorem znN:zf Tryz.prog (zoJ PI):=
 okC Tryz.f58 zu
theorem zky:zf Tryz.prog (zli WI):=
 okC Tryz.f116 zu
theorem zjF:zf Tryz.prog (zj1 uI):=
 okC Tryz.f117 zu
theorem zmB:zf Tryz.prog (znt UI):=
 okC Tryz.f118 zu
theorem zlt:zf Tryz.prog (zlM JD):=
 okC Tryz.f119 zu
theorem zqO(qi:List zg->Option (List zg))(hs:zf Tryz.prog (vC qi)):zf Tryz.prog (vC (yC qi)):=
 okC Tryz.f59 (memC zky (memC zjF (memC zmB (memC zlt (memC hs zu))))) (cuts:=[(3,⟨[12],⟨[.int .i64],[(0, .sl 68)]⟩,[0,2,11],[],[0],0,[],⟨[],[(0, .sl 68)]⟩,[0]⟩),(8,⟨[39],⟨[.int .i64],[(1, .sl 65)]⟩,[4,12,38],[0,2],[1],2,[],⟨[],[(1, .sl 65)]⟩,[1]⟩),(12,⟨[53],⟨[.int .i64],[(3, .sl 72)]⟩,[5,6,39,52],[1],[3],4,[],⟨[],[(3, .sl 72)]⟩,[3]⟩)])
theorem zqm:zf Tryz.prog (vC qi):=recC (vC qi) (yC) (fun S h=>zqO S h)
theorem znM:zf Tryz.prog (zoI RI):=
 okC Tryz.f120 zu
theorem zmA:zf Tryz.prog (zns VI):=
 okC Tryz.f170 zu
theorem A8(qO:List ze->Option (List ze))(hs:zf Tryz.prog (WB qO)):zf Tryz.prog (WB (eB qO)):=
 okC Tryz.f121 (memC zmA (memC hs zu)) (cuts:=[(3,⟨[8],⟨[.int .i64],[(0, .sl 135)]⟩,[0,2,7],[],[0],0,[],⟨[],[(0, .sl 135)]⟩,[0]⟩)])
theorem PP:zf Tryz.prog (WB qO):=recC (WB qO) (eB) (fun S h=>A8 S h)
theorem UZ:zf Tryz.prog (SX Hu):=
 okC Tryz.f60 (memC znM (memC PP zu)) (cuts:=[(3,⟨[8],⟨[.int .i64],[(0, .sl 33)]⟩,[0,2,7],[],[0],0,[],⟨[],[(0, .sl 33)]⟩,[0]⟩)])
theorem znL:zf Tryz.prog (zoH SI):=
 okC Tryz.f122 zu
theorem zqN(qh:zm->Option zm)(hs:zf Tryz.prog (wC qh)):zf Tryz.prog (wC (BD qh)):=
 okC Tryz.f61 (memC PP (memC znL (memC hs zu))) (cuts:=[(4,⟨[17],⟨[.int .i64],[(2, .sl 36)]⟩,[1,2,16],[0,1],[2],0,[],⟨[],[(2, .sl 36)]⟩,[2]⟩)]) (exS:=⟨[.optr 0],[(0, .row 36)]⟩)
theorem zql:zf Tryz.prog (wC qh):=recC (wC qh) (BD) (fun S h=>zqN S h)
theorem zlv:zf Tryz.prog (zlN slices_Clone_string):=
 okC Tryz.f62 zu
theorem zjG:zf Tryz.prog (zj2 GD):=
 okC Tryz.f63 zu
theorem zBV(Bi:List zC->Option (List zC))(hs:zf Tryz.prog (pz Bi)):zf Tryz.prog (pz (Yz Bi)):=
 okC Tryz.f31 (memC znN (memC zqm (memC UZ (memC zql (memC hs (memC zlv (memC zjG zu))))))) (cuts:=[(3,⟨[10],⟨[.int .i64],[(0, .sl 39)]⟩,[0,2,9],[],[0],0,[],⟨[],[(0, .sl 39)]⟩,[0]⟩),(9,⟨[61],⟨[.int .i64],[(1, .sl 59)]⟩,[4,10,60],[0],[1],2,[],⟨[],[(1, .sl 59)]⟩,[1]⟩)])
theorem dN:zf Tryz.prog (pz Bi):=recC (pz Bi) (Yz) (fun S h=>zBV S h)
theorem L6:zf Tryz.prog (O3 az):=
 okC Tryz.f16 (memC XH (memC zqr (memC dN zu))) (pre:=[(10,[(54,none)])]) (exS:=⟨[.optr 0, .int .i64],[(0, .row 25)]⟩)
theorem znH(ZM:List zg×List zg->Option Bool)(h_ref08_Same:zf Tryz.prog (Xq ZM)):zf Tryz.prog (zoD (nC ZM)):=
 okC Tryz.f123 (memC RP (memC h_ref08_Same zu)) (cuts:=[(4,⟨[5],⟨[.int .i64],[]⟩,[0,1],[],[],0,[],⟨[],[]⟩,[]⟩)])
theorem cZ(ZM:List zg×List zg->Option Bool)(h_ref08_Same:zf Tryz.prog (Xq ZM)):zf Tryz.prog (gX (Kz ZM)):=
 okC Tryz.f64 (memC (znH ZM h_ref08_Same) zu) (cuts:=[(4,⟨[5],⟨[.int .i64],[]⟩,[2,3],[0,1],[],0,[],⟨[],[]⟩,[]⟩)])
theorem zBO(ZM:List zg×List zg->Option Bool)(hs:zf Tryz.prog (Xq ZM)):zf Tryz.prog (Xq (KA ZM)):=
 okC Tryz.f32 (memC (cZ ZM hs) zu) (cuts:=[(4,⟨[5],⟨[.int .i64],[]⟩,[0,1],[],[],0,[],⟨[],[]⟩,[]⟩)])
theorem zBk:zf Tryz.prog (Xq ZM):=recC (Xq ZM) (KA) (fun S h=>zBO S h)
theorem zBi:zf Tryz.prog (zCH Bu):=
 okC Tryz.f33 (memC FP zu) (cuts:=[(4,⟨[5],⟨[.int .i64],[]⟩,[0,1],[],[],0,[],⟨[],[]⟩,[]⟩)])
theorem zqk:zf Tryz.prog (zq6 Ev):=
 okC Tryz.f35 zu (cuts:=[(4,⟨[5],⟨[.int .i64],[]⟩,[0,1],[],[],0,[],⟨[],[]⟩,[]⟩),(9,⟨[6],⟨[.int .i64],[]⟩,[5],[],[],2,[],⟨[],[]⟩,[]⟩)])
theorem gN(ZK:zC×zC->Option Bool)(h_ref11_Same1:zf Tryz.prog (ku ZK)):zf Tryz.prog (zCJ (Vj ZK)):=
 okC Tryz.f19 (memC h_ref11_Same1 zu) (cuts:=[(4,⟨[5],⟨[.int .i64],[]⟩,[0,1],[],[],0,[],⟨[],[]⟩,[]⟩)])
theorem RY(ZK:zC×zC->Option Bool)(hs:zf Tryz.prog (ku ZK)):zf Tryz.prog (ku (aA ZK)):=
 okC Tryz.f18 (memC zBk (memC zBi (memC jN (memC zqk (memC (gN ZK hs) zu)))))
theorem sO:zf Tryz.prog (ku ZK):=recC (ku ZK) (aA) (fun S h=>RY S h)
theorem M6:zf Tryz.prog (R3 bz):=
 okC Tryz.f20 (memC XH (memC dN zu)) (exS:=⟨[.optr 0, .int .i64],[(0, .row 25)]⟩)
theorem zp7:zf Tryz.prog (VQ LC):=
 okC Tryz.f4 (memC WZ (memC tO (memC zqi (memC (H7 1000) (memC L6 (memC rH (memC XH (memC sO (memC (gN ZK sO) (memC M6 zu)))))))))) (fz:=[(1,[5]),(4,[4])])
end Go.Lv.VT
