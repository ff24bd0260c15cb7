/- Contracts. -/
import Derived.Test.YtpodafkicdifmaaGreatDoorCoa
set_option linter.unusedSimpArgs false
set_option linter.unusedVariables false
namespace Go.Lv.VT
set_option maxRecDepth 100000
open Go.Proofs
variable [Fu]
theorem zrU:CO (zs8 yE):=
 okC Tryz.f287 (memC qb (memC nT (memC RL zF))) (exS:=⟨[.optr 0, .bool],[(0, .row 120)]⟩)
theorem zpV:CO (zqK dK):=
 okC Tryz.f311 (memC Vr zF)
theorem zfQ:CO (zgc Qy):=
 okC Tryz.f96 (memC zpV zF) (cuts:=[(2,⟨[8],⟨[.int .i64],[]⟩,[0,1,7],[],[],0,[],⟨[],[]⟩,[]⟩)])
theorem KU:CO (zlC qZ):=
 okC Tryz.f319 zF (p:=1) (cuts:=[(0,⟨[],⟨[],[(0, .row 349)]⟩,[0],[],[0],0,[],⟨[],[(0, .row 349)]⟩,[0]⟩)])
theorem wT:CO (zn4 Tv):=
 okC Tryz.f322 zF (p:=1) (exS:=⟨[.optr 1, .bool],[(0, .row 349),(1, .row 72)]⟩)
theorem CU:CO (zmA kz):=
 okC Tryz.f321 (memC wT zF) (p:=1)
theorem zhA:CO (zhZ stringslite_CutPrefix):=
 okC Tryz.f326 (memC gL zF)
theorem JU:CO (zlL strings_CutPrefix):=
 okC Tryz.f323 (memC zhA zF)
theorem yT:CO (zn3 dz):=
 okC Tryz.f325 (memC nC zF) (p:=1)
theorem zkP:CO (zlB xz):=
 okC Tryz.f324 (memC JU (memC zIQ (memC zDm (memC KU (memC yT (memC CU zF)))))) (p:=1) (joins:=[(15,⟨[9],⟨[.int .i64],[]⟩,[],[0],[],0,[],⟨[],[]⟩,[]⟩),(16,⟨[6],⟨[.int .i64],[(0, .row 349)]⟩,[0],[],[0],0,[],⟨[],[]⟩,[]⟩)])
theorem znn:CO (zn2 bG):=
 okC Tryz.f320 (memC CU (memC wT (memC qb (memC JU (memC zkP (memC yT zF)))))) (p:=1) (joins:=[(25,⟨[15,16],⟨[.str, .int .i64],[(0, .row 349),(1, .row 118)]⟩,[0,2],[],[0,1],0,[],⟨[],[]⟩,[]⟩)]) (exS:=⟨[.optr 1, .bool],[(0, .row 349),(1, .row 118)]⟩)
theorem zFY:CO (zHA bH):=
 okC Tryz.f312 (memC KU (memC znn (memC WR zF))) (exS:=⟨[.optr 0, .int .i64],[(0, .row 118)]⟩)
theorem ztM(zJ:List zb×zg×Bool×Bool->Option (List zm×Bool))(h_seltext_parts:CO (Qo zJ)):CO (zvE (Hr zJ)):=
 okC Tryz.f304 (memC zfQ (memC JL (memC h_seltext_parts (memC UR (memC zFY zF))))) (joins:=[(8,⟨[1],⟨[.sl 74],[(0, .row 120),(2, .cells 120 [.int .u8, .str, .int .u8, .str, .bool, .int .i64, .int .i64, .bool, .nilv])]⟩,[3,6],[],[0,2],0,[],⟨[],[]⟩,[]⟩)]) (exS:=⟨[.optr 0, .bool],[(0, .row 120)]⟩)
theorem zl8(zJ:List zb×zg×Bool×Bool->Option (List zm×Bool))(h_seltext_parts:CO (Qo zJ)):CO (zmH (QE zJ)):=
 okC Tryz.f288 (memC nT (memC qb (memC RL (memC (ztM zJ h_seltext_parts) (memC JL (memC h_seltext_parts zF)))))) (exS:=⟨[.optr 0, .bool],[(0, .row 120)]⟩)
theorem zg1(zJ:List zb×zg×Bool×Bool->Option (List zm×Bool))(h_seltext_parts:CO (Qo zJ)):CO (zhd (Z0 zJ)):=
 okC Tryz.f269 (memC qX (memC zja (memC zrT (memC zrU (memC (zl8 zJ h_seltext_parts) zF))))) (fz:=[(24,[2])]) (p:=1) (cuts:=[(2,⟨[6],⟨[.own 1323],[(0, .row 310),(1323, .sl 120)]⟩,[0,3],[1],[0],0,[],⟨[],[]⟩,[]⟩)]) (joins:=[(21,⟨[8],⟨[.bool],[(0, .row 310),(1324, .row 120)]⟩,[6,7],[1323],[0,1324],0,[],⟨[],[]⟩,[]⟩),(22,⟨[6,8],⟨[.own 1323, .bool],[(0, .row 310),(1323, .sl 120),(1324, .row 120)]⟩,[7],[],[0,1323,1324],0,[],⟨[],[]⟩,[]⟩)])
theorem zkW(zJ:List zb×zg×Bool×Bool->Option (List zm×Bool))(h_seltext_parts:CO (Qo zJ)):CO (zlJ (Qe zJ)):=
 okC Tryz.f233 (memC iL (memC zi9 (memC qX (memC qb (memC TL (memC (zg1 zJ h_seltext_parts) (memC (BU zy kT) (memC MU zF)))))))) (fz:=[(19,[3]),(27,[3])]) (cuts:=[(8,⟨[],⟨[],[(1, .cells 113 [.int .u8, .nilv, .nilv]),(2, .row 310),(3, .cells 113 [.int .u8, .own 1324, .own 1325]),(1324, .sl 116),(1325, .sl 5)]⟩,[],[],[1,2,3],0,[],⟨[],[(1, .cells 113 [.int .u8, .nilv, .nilv]),(2, .row 310),(3, .cells 113 [.int .u8, .own 1326, .own 1325]),(1326, .sl 116),(1325, .sl 5)]⟩,[1,2,3,1325]⟩)]) (joins:=[(8,⟨[],⟨[],[(1, .cells 113 [.int .u8, .nilv, .nilv]),(2, .row 310),(3, .cells 113 [.int .u8, .nilv, .nilv])]⟩,[4,6,8,9],[0],[1,2,3],0,[],⟨[],[]⟩,[]⟩),(15,⟨[],⟨[],[(1, .cells 113 [.int .u8, .nilv, .nilv]),(2, .row 310),(3, .cells 113 [.int .u8, .own 1324, .own 1325]),(1324, .sl 116),(1325, .sl 5),(1326, .cells 116 [.str, .nilv])]⟩,[10],[],[1,2,3,1324,1325,1326],0,[],⟨[],[]⟩,[]⟩),(27,⟨[14],⟨[.int .u8],[(1, .cells 113 [.int .u8, .nilv, .nilv]),(3, .cells 113 [.int .u8, .own 1328, .own 1325]),(1328, .sl 116),(1325, .sl 5)]⟩,[],[2,1326],[1,3,1325,1328],0,[],⟨[],[]⟩,[]⟩)]) (exS:=⟨[.optr 0, .bool],[(0, .row 113)]⟩)
theorem zp3(zJ:List zb×zg×Bool×Bool->Option (List zm×Bool))(hs:CO (Qo zJ)):CO (Qo (Q6 zJ)):=
 okC Tryz.f190 (memC (zkW zJ hs) zF) (fz:=[(9,[2])]) (cuts:=[(4,⟨[10,11,18],⟨[.own 1219, .int .i64, .int .i64],[(1219, .sl 113)]⟩,[0,2,3,5,17],[0],[],0,[10],⟨[.own 1219],[(1219, .sl 113)]⟩,[1219]⟩)]) (joins:=[(12,⟨[10],⟨[.own 1321],[(1321, .sl 113)]⟩,[12,18],[],[],0,[],⟨[],[]⟩,[]⟩),(13,⟨[10,11,18],⟨[.own 1322, .int .i64, .int .i64],[(1322, .sl 113)]⟩,[],[],[],0,[],⟨[],[]⟩,[]⟩)])
theorem zpW:CO (Qo zJ):=recC (Qo zJ) (Q6) (fun S h=>zp3 S h)
theorem L8:CO (U2 nD):=
 okC Tryz.f147 (memC Xr (memC zpW (memC tT zF)))
theorem zjQ:CO (LU dG):=ZR.le (show CO (LU (MV 80))from okC Tryz.f236 zF) (zHJ _)
theorem mZ(Gl:List zb->Option (List zb))(hs:CO (OE Gl)):CO (OE (xD Gl)):=
 okC Tryz.f192 (memC zjQ (memC hs zF)) (cuts:=[(3,⟨[8],⟨[.int .i64],[(0, .sl 74)]⟩,[0,2,7],[],[0],0,[],⟨[],[(0, .sl 74)]⟩,[0]⟩)])
theorem PR:CO (OE Gl):=recC (OE Gl) (xD) (fun S h=>mZ S h)
theorem WK:CO (L6 Cr):=
 okC Tryz.f149 (memC Xr (memC PR zF)) (fz:=[(12,[7]),(15,[5])]) (cuts:=[(9,⟨[7,8,24],⟨[.own 1328, .int .i64, .int .i64],[(1328, .sl 37)]⟩,[0,1,4,5,22,23],[],[],0,[7,8],⟨[.own 1328, .int .i64],[(1328, .sl 37)]⟩,[1328]⟩)]) (joins:=[(14,⟨[7,8,24],⟨[.own 1430, .int .i64, .int .i64],[(1430, .sl 37)]⟩,[],[],[],0,[],⟨[],[]⟩,[]⟩)])
theorem eZ:CO (xZ Ou):=
 okC Tryz.f235 (memC Ar zF) (cuts:=[(1,⟨[0],⟨[.sl 74],[]⟩,[2],[],[],0,[0],⟨[.sl 74],[]⟩,[]⟩)])
theorem l7:CO (P5 yo):=
 okC Tryz.f234 (memC Ar zF) (cuts:=[(1,⟨[0],⟨[.sl 74],[]⟩,[2],[],[],0,[0],⟨[.sl 74],[]⟩,[]⟩)])
theorem ztu:CO (P9 Az):=
 okC Tryz.f193 zF (p:=1)
theorem SK:CO (tZ Ju):=
 okC Tryz.f150 (memC Xr (memC ztu (memC PR zF))) (cuts:=[(6,⟨[6],⟨[.int .i64],[]⟩,[1,2,3,5,7],[0],[],0,[6],⟨[.int .i64],[]⟩,[]⟩),(8,⟨[7],⟨[.int .i64],[]⟩,[1,2,3,5,6],[0],[],2,[7],⟨[.int .i64],[]⟩,[]⟩)])
theorem BR:CO (zCJ Ux):=
 okC Tryz.f191 (memC eZ (memC l7 (memC Ar (memC qP (memC qb (memC Vr (memC VR (memC SK (memC YK zF))))))))) (joins:=[(7,⟨[0],⟨[.sl 74],[(0, .cells 39 [.str, .nilv, .bool]),(1, .cells 39 [.str, .nilv, .bool])]⟩,[2,4],[],[0,1],0,[],⟨[],[]⟩,[]⟩),(16,⟨[0],⟨[.sl 74],[(0, .cells 39 [.str, .nilv, .bool]),(1, .cells 39 [.str, .nilv, .bool])]⟩,[],[],[0,1],0,[],⟨[],[]⟩,[]⟩)]) (exS:=⟨[.optr 0, .bool],[(0, .row 39)]⟩)
theorem zDk:CO (zD8 UB):=
 okC Tryz.f148 (memC WK (memC BR zF)) (fz:=[(10,[2])]) (cuts:=[(6,⟨[6,21],⟨[.own 1432, .int .i64],[(1432, .sl 39)]⟩,[2,3,19,20],[],[],0,[6],⟨[.own 1432],[(1432, .sl 39)]⟩,[1432]⟩)]) (joins:=[(11,⟨[6,21],⟨[.own 1534, .int .i64],[(1534, .sl 39)]⟩,[],[],[],0,[],⟨[],[]⟩,[]⟩)])
theorem ztR:CO (r9 Dz):=
 okC Tryz.f99 (memC L8 (memC zDk zF)) (exS:=⟨[.optr 0, .bool],[(0, .row 45)]⟩)
theorem ze1:CO (zfn lL):=
 okC Tryz.f103 (memC jT zF) (p:=1) (cuts:=[(2,⟨[8],⟨[.int .i64],[]⟩,[0,1,7],[],[],0,[],⟨[],[]⟩,[]⟩)])
theorem zdM:CO (zeg qH):=
 okC Tryz.f57 (memC ze1 zF) (p:=1)
theorem zpX:CO (zqN SF):=
 okC Tryz.f28 (memC zdM zF) (p:=1)
theorem I8:CO (U1 mD):=
 okC Tryz.f151 (memC SK (memC zpX zF)) (fz:=[(14,[3])]) (cuts:=[(6,⟨[5,24],⟨[.own 1536, .int .i64],[(1536, .sl 9)]⟩,[22,23],[],[],0,[5],⟨[.own 1536],[(1536, .sl 9)]⟩,[1536]⟩)]) (joins:=[(15,⟨[5,24],⟨[.own 1638, .int .i64],[(1638, .sl 9)]⟩,[],[],[],0,[],⟨[],[]⟩,[]⟩)])
theorem YS:CO (zvJ ym):=
 okC Tryz.f100 (memC WK (memC SK (memC I8 zF))) (fz:=[(16,[3])]) (cuts:=[(11,⟨[42],⟨[.int .i64],[(0, .cells 45 [.int .u8, .nilv, .nilv, .int .u8, .str, .int .i64, .str, .nilv, .bool, .nilv, .nilv, .nilv]),(1, .cells 45 [.int .u8, .nilv, .nilv, .int .u8, .str, .int .i64, .str, .nilv, .bool, .nilv, .own 1639, .nilv]),(1639, .sl 51)]⟩,[40,41],[],[0,1],0,[],⟨[],[(0, .cells 45 [.int .u8, .nilv, .nilv, .int .u8, .str, .int .i64, .str, .nilv, .bool, .nilv, .nilv, .nilv]),(1, .cells 45 [.int .u8, .nilv, .nilv, .int .u8, .str, .int .i64, .str, .nilv, .bool, .nilv, .own 1639, .nilv]),(1639, .sl 51)]⟩,[0,1,1639]⟩)]) (joins:=[(10,⟨[],⟨[],[(0, .cells 45 [.int .u8, .nilv, .nilv, .int .u8, .str, .int .i64, .str, .nilv, .bool, .nilv, .nilv, .nilv]),(1, .cells 45 [.int .u8, .nilv, .nilv, .int .u8, .str, .int .i64, .str, .nilv, .bool, .nilv, .nilv, .nilv])]⟩,[1,4,6,8],[],[0,1],0,[],⟨[],[]⟩,[]⟩)]) (exS:=⟨[.optr 0, .bool],[(0, .row 45)]⟩)
theorem Q0:CO (zmB ZV):=
 okC Tryz.f194 zF (p:=1)
theorem Q3:CO (zmC ZW):=
 okC Tryz.f195 zF (p:=1) (exS:=⟨[.optr 1],[(0, .row 207),(1, .row 74)]⟩)
theorem rG:CO (zkH Zg):=
 okC Tryz.f152 (memC Q0 (memC Q3 zF)) (p:=1) (cuts:=[(2,⟨[],⟨[],[(0, .row 207)]⟩,[0,2,3],[],[0],0,[],⟨[],[(0, .row 207)]⟩,[0]⟩)])
theorem KL:CO (zmE qU):=
 okC Tryz.f196 (memC Q0 (memC Vr (memC Q3 zF))) (p:=1) (cuts:=[(2,⟨[9],⟨[.int .i64],[(0, .row 207)]⟩,[0,7,8],[],[0],0,[],⟨[],[(0, .row 207)]⟩,[0]⟩)])
theorem zi8:CO (zji QW):=
 okC Tryz.f197 (memC Q0 (memC Q3 (memC rG (memC KL (memC Vr (memC sS zF)))))) (fz:=[(6,[1])]) (p:=1) (joins:=[(11,⟨[],⟨[],[(1, .cells 42 [.int .u8, .str, .int .i64, .str, .nilv, .bool, .nilv]),(2, .row 207),(3, .cells 42 [.int .u8, .str, .int .i64, .str, .nilv, .bool, .nilv])]⟩,[2,4,5],[0],[1,2,3],0,[],⟨[],[]⟩,[]⟩)]) (exS:=⟨[.optr 1, .bool],[(0, .row 207),(1, .row 42)]⟩)
theorem zkR:CO (zlE kG):=
 okC Tryz.f153 (memC rG (memC KL (memC Q0 (memC Q3 (memC qb (memC uS (memC zi8 zF))))))) (fz:=[(3,[1]),(9,[4]),(13,[3]),(17,[1]),(23,[3]),(25,[1])]) (pre:=[(25,[(4,some 6)])]) (p:=1) (cuts:=[(15,⟨[],⟨[],[(0, .row 207),(1, .cells 42 [.int .u8, .str, .int .i64, .str, .nilv, .bool, .nilv]),(2, .cells 42 [.int .u8, .str, .int .i64, .str, .nilv, .bool, .own 1742]),(1742, .sl 42)]⟩,[],[],[0,1,2],0,[],⟨[],[(0, .row 207),(1, .cells 42 [.int .u8, .str, .int .i64, .str, .nilv, .bool, .nilv]),(2, .cells 42 [.int .u8, .str, .int .i64, .str, .nilv, .bool, .own 1742]),(1742, .sl 42)]⟩,[0,1,2,1742]⟩)]) (joins:=[(14,⟨[],⟨[],[(0, .row 207),(1, .cells 42 [.int .u8, .str, .int .i64, .str, .nilv, .bool, .nilv]),(2, .cells 42 [.int .u8, .str, .int .i64, .str, .nilv, .bool, .own 1640]),(1640, .sl 42)]⟩,[0,2,4,5],[],[0,1,2],0,[],⟨[],[]⟩,[]⟩),(26,⟨[],⟨[],[(1, .cells 42 [.int .u8, .str, .int .i64, .str, .nilv, .bool, .nilv]),(2, .cells 42 [.int .u8, .str, .int .i64, .str, .nilv, .bool, .sl 42])]⟩,[],[0],[1,2],0,[],⟨[],[]⟩,[]⟩)]) (exS:=⟨[.optr 1, .bool],[(0, .row 207),(1, .row 42)]⟩)
theorem pR:CO (Y5 tq):=
 okC Tryz.f101 (memC WK (memC rG (memC zkR zF))) (fz:=[(17,[1]),(18,[1]),(19,[3])]) (cuts:=[(13,⟨[44],⟨[.int .i64],[(1, .cells 42 [.int .u8, .str, .int .i64, .str, .nilv, .bool, .own 1743]),(1743, .sl 42)]⟩,[7,42,43],[0],[1],0,[],⟨[],[(1, .cells 42 [.int .u8, .str, .int .i64, .str, .nilv, .bool, .own 1743]),(1743, .sl 42)]⟩,[1,1743]⟩)]) (joins:=[(9,⟨[],⟨[],[(0, .cells 42 [.int .u8, .str, .int .i64, .str, .nilv, .bool, .nilv])]⟩,[2,4],[],[0],0,[],⟨[],[]⟩,[]⟩),(19,⟨[],⟨[],[(1, .cells 42 [.int .u8, .str, .int .i64, .str, .nilv, .bool, .own 1743]),(1743, .sl 42),(1745, .row 42)]⟩,[10,44],[],[1,1743,1745],0,[],⟨[],[]⟩,[]⟩)]) (exS:=⟨[.optr 0, .int .i64],[(0, .row 42)]⟩)
theorem zAO:CO (zCI YC):=
 okC Tryz.f237 (memC Xr (memC BR zF)) (exS:=⟨[.optr 0, .bool, .int .i64],[(0, .row 39)]⟩)
theorem zl4(Zm:zx->Option ((zw×Bool)×zx))(h_cond_reader_told:CO (vz Zm)):CO (zmD (qo Zm)):=
 okC Tryz.f198 (memC Q0 (memC Q3 (memC zAO (memC h_cond_reader_told zF)))) (p:=1) (exS:=⟨[.optr 1, .bool],[(0, .row 207),(1, .row 42)]⟩)
theorem zmk(Zm:zx->Option ((zw×Bool)×zx))(hs:CO (vz Zm)):CO (vz (qJ Zm)):=
 okC Tryz.f154 (memC rG (memC KL (memC (zl4 Zm hs) zF))) (fz:=[(2,[1]),(6,[1]),(15,[5]),(23,[3])]) (p:=1) (cuts:=[(14,⟨[9],⟨[.bool],[(0, .row 207),(1, .cells 42 [.int .u8, .str, .int .i64, .str, .nilv, .bool, .nilv]),(5, .cells 42 [.int .u8, .str, .int .i64, .str, .nilv, .bool, .own 1744]),(1744, .sl 42)]⟩,[0,2,10],[],[0,1,5],0,[],⟨[],[(0, .row 207),(1, .cells 42 [.int .u8, .str, .int .i64, .str, .nilv, .bool, .nilv]),(5, .cells 42 [.int .u8, .str, .int .i64, .str, .nilv, .bool, .own 1744]),(1744, .sl 42)]⟩,[0,1,5,1744]⟩)]) (exS:=⟨[.optr 1, .bool],[(0, .row 207),(1, .row 42)]⟩)
theorem zl5:CO (vz Zm):=recC (vz Zm) (qJ) (fun S h=>zmk S h)
theorem uT:CO (zqC Yr):=
 okC Tryz.f102 (memC Xr (memC zl5 (memC GU zF))) (exS:=⟨[.optr 0, .int .i64],[(0, .row 42)]⟩)
theorem zjb:CO (zjo Q8):=
 okC Tryz.f55 (memC YS (memC pR (memC uT zF))) (p:=1) (joins:=[(13,⟨[13],⟨[.bool],[(0, .row 79),(1, .cells 45 [.int .u8, .nilv, .nilv, .int .u8, .str, .int .i64, .str, .nilv, .bool, .nilv, .nilv, .nilv]),(2, .row 45)]⟩,[0,4,10,12],[],[0,1,2],0,[],⟨[],[]⟩,[]⟩)]) (exS:=⟨[.optr 1, .bool],[(0, .row 79),(1, .row 45)]⟩)
theorem zkX(Zc:(List zb×Bool)×zq->Option (List zM×zq))(h_sheet_parser_rules:CO (QH Zc)):CO (zlK (qB Zc)):=
 okC Tryz.f55 (memC ztR (memC YS (memC pR (memC uT (memC h_sheet_parser_rules zF))))) (p:=1) (joins:=[(13,⟨[13],⟨[.bool],[(0, .row 79),(1, .cells 45 [.int .u8, .nilv, .nilv, .int .u8, .str, .int .i64, .str, .nilv, .bool, .nilv, .nilv, .nilv]),(2, .row 45)]⟩,[0,4,10,12],[],[0,1,2],0,[],⟨[],[]⟩,[]⟩),(18,⟨[],⟨[],[(0, .row 79),(1, .cells 45 [.int .u8, .nilv, .nilv, .int .u8, .str, .int .i64, .str, .nilv, .bool, .nilv, .nilv, .nilv]),(2, .row 45)]⟩,[],[],[0,1,2],0,[],⟨[],[]⟩,[]⟩)]) (exS:=⟨[.optr 1, .bool],[(0, .row 79),(1, .row 45)]⟩)
theorem zj9(Zc:(List zb×Bool)×zq->Option (List zM×zq))(hs:CO (QH Zc)):CO (QH (qh Zc)):=
 okC Tryz.f25 (memC J8 (memC qb (memC ztS (memC (zkX Zc hs) (memC zjb zF))))) (fz:=[(10,[7]),(22,[2])]) (p:=1) (cuts:=[(2,⟨[1,7],⟨[.sl 74, .own 1745],[(0, .row 79),(1745, .sl 45)]⟩,[0,2,6],[],[0],0,[7],⟨[.own 1745],[(0, .row 79),(1745, .sl 45)]⟩,[0,1745]⟩)]) (joins:=[(8,⟨[1,7],⟨[.sl 74, .own 1745],[(0, .row 79),(1745, .sl 45)]⟩,[8],[],[0,1745],0,[],⟨[],[]⟩,[]⟩),(12,⟨[1,7,9,10],⟨[.sl 74, .own 1745, .str, .own 1848],[(0, .row 79),(1745, .sl 45),(1848, .sl 5)]⟩,[],[],[0,1745],0,[],⟨[],[]⟩,[]⟩),(19,⟨[1,7],⟨[.sl 74, .own 1745],[(0, .row 79),(1745, .sl 45)]⟩,[9,11,12],[],[0,1745],0,[],⟨[],[]⟩,[]⟩)])
theorem FU:CO (QH Zc):=recC (QH Zc) (qh) (fun S h=>zj9 S h)
theorem H8:CO (I1 bJ):=
 okC Tryz.f15 (memC rF (memC lC (memC FU zF)))
theorem K8:CO (J2 bu):=
 okC Tryz.f5 (memC H8 zF) (exS:=⟨[.optr 0, .int .i64],[(0, .row 25)]⟩)
theorem zrX:CO (ztd TK):=
 okC Tryz.f15 (memC rF (memC lC (memC FU zF)))
theorem zrV:CO (zta Fz):=
 okC Tryz.f5 (memC zrX zF) (exS:=⟨[.optr 0, .int .i64],[(0, .row 25)]⟩)
theorem yK:CO (ztb qA):=
 ZR.told (I:=I) (P:=Tryz.prog) (Fn:=fun b:Bool=>cond b bu Fz) true (fun b=>match b with|true=>K8|false=>zrV) (fun x y h=>by
  unfold qA at h;exact alt2 (A:=bu) (B:=Fz) h)
theorem zts:CO (zu9 xQ):=
 okC Tryz.f14 (memC yK (memC sK zF)) (cuts:=[(5,⟨[7],⟨[.int .i64],[]⟩,[1,5],[0],[],0,[],⟨[],[]⟩,[]⟩)])
theorem ztr:CO (zu8 Cm):=
 okC Tryz.f4 (memC yK (memC zts zF)) (fz:=[(3,[4])])
theorem ztN:CO (zvG Ez):=
 okC Tryz.f6 (memC vR (memC sK zF))
theorem zsq(QP:List zM->Option Int)(hs:CO (uF QP)):CO (uF (VF QP)):=
 okC Tryz.f9 (memC hs zF) (cuts:=[(3,⟨[3,4],⟨[.int .i64, .int .i64],[]⟩,[0,2],[],[],0,[3],⟨[.int .i64],[]⟩,[]⟩)])
theorem WT:CO (uF QP):=recC (uF QP) (VF) (fun S h=>zsq S h)
theorem dS:CO (O8 ry):=
 okC Tryz.f175 zF (cuts:=[(2,⟨[5],⟨[.int .i64],[]⟩,[0,1],[],[],0,[],⟨[],[]⟩,[]⟩)])
theorem tK:CO (V8 Ir):=
 okC Tryz.f127 (memC dS zF)
theorem lK:CO (K9 tu):=
 okC Tryz.f211 zF
theorem IG:CO (L9 QC):=
 okC Tryz.f167 (memC lK zF) (cuts:=[(3,⟨[4],⟨[.int .i64],[(0, .sl 5)]⟩,[2,3],[],[0],0,[],⟨[],[(0, .sl 5)]⟩,[0]⟩)])
theorem jS:CO (R8 uy):=
 okC Tryz.f241 (memC tK (memC IG zF))
theorem XT:CO (zsZ Gv):=
 okC Tryz.f189 zF (exS:=⟨[.optr 0],[(0, .row 241)]⟩)
theorem ztC:CO (l8 uD):=
 okC Tryz.f271 zF
theorem ztG:CO (P8 oD):=
 okC Tryz.f289 zF (exS:=⟨[.optr 0, .bool],[(0, .row 217)]⟩)
theorem zrN(Zv:zm×Zo×Bool->Option Bool)(h_ref08_whole:CO (jr Zv)):CO (zs1 (Fv Zv)):=
 okC Tryz.f272 (memC ztG (memC h_ref08_whole zF)) (cuts:=[(5,⟨[9],⟨[.int .i64],[]⟩,[0,2,7],[1],[],0,[],⟨[],[]⟩,[]⟩)])
theorem zrO(Zv:zm×Zo×Bool->Option Bool)(h_ref08_whole:CO (jr Zv)):CO (zs2 (Iz Zv)):=
 okC Tryz.f242 (memC XT (memC tK (memC jS (memC dS (memC ztC (memC (zrN Zv h_ref08_whole) zF)))))) (joins:=[(5,⟨[11],⟨[.bool],[]⟩,[2,3,5,10],[0,1,2],[],0,[],⟨[],[]⟩,[]⟩),(14,⟨[84],⟨[.bool],[]⟩,[],[],[],0,[],⟨[],[]⟩,[]⟩),(17,⟨[101],⟨[.bool],[]⟩,[],[],[],0,[],⟨[],[]⟩,[]⟩),(24,⟨[138],⟨[.bool],[]⟩,[],[],[],0,[],⟨[],[]⟩,[]⟩),(27,⟨[154],⟨[.bool],[]⟩,[],[],[],0,[],⟨[],[]⟩,[]⟩)])
theorem zoH(Zv:zm×Zo×Bool->Option Bool)(h_ref08_whole:CO (jr Zv)):CO (zpC (Xz Zv)):=
 okC Tryz.f210 (memC jS (memC (zrO Zv h_ref08_whole) zF)) (cuts:=[(4,⟨[5],⟨[.int .i64],[]⟩,[2,3],[0,1],[],0,[],⟨[],[]⟩,[]⟩)])
theorem zuf(Zv:zm×Zo×Bool->Option Bool)(hs:CO (jr Zv)):CO (jr (fF Zv)):=
 okC Tryz.f166 (memC (zoH Zv hs) zF) (cuts:=[(4,⟨[7],⟨[.int .i64],[]⟩,[3,4],[0,1],[],0,[],⟨[],[]⟩,[]⟩)])
theorem ztH:CO (jr Zv):=recC (jr Zv) (fF) (fun S h=>zuf S h)
theorem J7:CO (J3 VD):=
 okC Tryz.f118 (memC ztH zF) (cuts:=[(2,⟨[3],⟨[.int .i64],[]⟩,[0],[],[],0,[],⟨[],[]⟩,[]⟩)])
theorem zsp(Pn:List zm->Option Int)(hs:CO (vF Pn)):CO (vF (BG Pn)):=
 okC Tryz.f119 (memC hs zF) (cuts:=[(3,⟨[3,4],⟨[.int .i64, .int .i64],[]⟩,[0,2],[],[],0,[3],⟨[.int .i64],[]⟩,[]⟩),(6,⟨[3,5],⟨[.int .i64, .int .i64],[]⟩,[4],[],[],2,[3],⟨[.int .i64],[]⟩,[]⟩),(10,⟨[3,7],⟨[.int .i64, .int .i64],[]⟩,[5,6],[],[],4,[3],⟨[.int .i64],[]⟩,[]⟩)])
theorem zrM:CO (vF Pn):=recC (vF Pn) (BG) (fun S h=>zsp S h)
theorem ztD:CO (Y8 sD):=
 okC Tryz.f80 (memC J7 (memC zrM zF))
theorem D5(Xl:List zb×List zb->Option Bool)(hs:CO (rE Xl)):CO (rE (Jz Xl)):=
 okC Tryz.f145 (memC hs zF) (cuts:=[(4,⟨[5],⟨[.int .i64],[]⟩,[0,1],[],[],0,[],⟨[],[]⟩,[]⟩)])
theorem M7:CO (rE Xl):=recC (rE Xl) (Jz) (fun S h=>D5 S h)
theorem kS:CO (p8 Dp):=
 okC Tryz.f95 (memC M7 zF)
theorem V4(Pk:zw×zw->Option Bool)(hs:CO (nE Pk)):CO (nE (Hz Pk)):=
 okC Tryz.f50 (memC kS (memC hs zF)) (cuts:=[(4,⟨[5],⟨[.int .i64],[]⟩,[2,3],[0,1],[],0,[],⟨[],[]⟩,[]⟩)])
theorem jR:CO (nE Pk):=recC (nE Pk) (Hz) (fun S h=>V4 S h)
theorem M8:CO (Y2 cu):=
 okC Tryz.f81 (memC jR zF)
theorem ztB:CO (A9 vD):=
 okC Tryz.f120 (memC IG zF) (cuts:=[(4,⟨[3],⟨[.int .i64],[]⟩,[0],[],[],0,[],⟨[],[]⟩,[]⟩)])
theorem BL:CO (zsW Jv):=
 okC Tryz.f47 zF (joins:=[(6,⟨[6],⟨[.bool],[]⟩,[3],[],[],0,[],⟨[],[]⟩,[]⟩)])
theorem E5(Rk:List zb->Option Int)(hs:CO (uE Rk)):CO (uE (UE Rk)):=
 okC Tryz.f86 (memC BL (memC hs zF)) (cuts:=[(3,⟨[3,4],⟨[.int .i64, .int .i64],[]⟩,[0,2],[],[],0,[3],⟨[.int .i64],[]⟩,[]⟩)]) (joins:=[(4,⟨[3,4],⟨[.int .i64, .int .i64],[]⟩,[],[],[],0,[],⟨[],[]⟩,[]⟩)])
theorem VK:CO (uE Rk):=recC (uE Rk) (UE) (fun S h=>E5 S h)
theorem zsn(Qr:List zb->Option (List zf))(hs:CO (yF Qr)):CO (yF (EG Qr)):=
 okC Tryz.f23 (memC BL (memC hs zF)) (fz:=[(5,[6]),(9,[3])]) (cuts:=[(3,⟨[3,4],⟨[.own 1849, .int .i64],[(1849, .sl 72)]⟩,[0,2],[],[],0,[3],⟨[.own 1849],[(1849, .sl 72)]⟩,[1849]⟩)]) (joins:=[(4,⟨[3,4],⟨[.own 1951, .int .i64],[(1951, .sl 72)]⟩,[],[],[],0,[],⟨[],[]⟩,[]⟩)])
theorem AL:CO (yF Qr):=recC (yF Qr) (EG) (fun S h=>zsn S h)
theorem zso(Rn:List zb×Int->Option Bool)(hs:CO (wF Rn)):CO (wF (CG Rn)):=
 okC Tryz.f212 (memC BL (memC hs zF)) (cuts:=[(2,⟨[5],⟨[.int .i64],[]⟩,[0,1],[],[],0,[],⟨[],[]⟩,[]⟩)])
theorem zrJ:CO (wF Rn):=recC (wF Rn) (CG) (fun S h=>zso S h)
theorem ztA:CO (D9 wD):=
 okC Tryz.f168 (memC VK (memC AL (memC zrJ zF)))
theorem ztz:CO (E9 Kr):=
 okC Tryz.f243 zF (cuts:=[(2,⟨[3],⟨[.int .i64],[]⟩,[0],[],[],0,[],⟨[],[]⟩,[]⟩)])
theorem Ur:CO (J9 Qc):=
 okC Tryz.f273 zF
theorem O7:CO (G6 YD):=
 okC Tryz.f244 (memC Ur zF)
theorem GG:CO (H9 wy):=
 okC Tryz.f290 zF
theorem yl:CO (zCK qw):=
 okC Tryz.f305 zF
theorem CL:CO (zsV Rp):=
 okC Tryz.f291 (memC yl (memC GG zF)) (cuts:=[(1,⟨[1],⟨[.int .i64],[]⟩,[0,4],[],[],0,[1],⟨[.int .i64],[]⟩,[]⟩)])
theorem mR:CO (J6 jJ):=
 okC Tryz.f313 zF (fz:=[(1,[0])])
theorem aZ:CO (rZ DD):=
 okC Tryz.f314 (memC Ur (memC lK zF))
theorem U7:CO (K6 lQ):=
 okC Tryz.f315 (memC mR zF) (fz:=[(4,[2]),(6,[8]),(8,[13]),(9,[18])])
theorem RG:CO (zqD Gp):=
 okC Tryz.f306 (memC mR (memC aZ (memC yl (memC GG (memC U7 zF))))) (cuts:=[(7,⟨[6,7],⟨[.int .i64, .int .i64],[]⟩,[0,1,4,5],[],[],0,[6,7],⟨[.int .i64, .int .i64],[]⟩,[]⟩)]) (joins:=[(12,⟨[7],⟨[.int .i64],[]⟩,[6],[],[],0,[],⟨[],[]⟩,[]⟩)])
theorem zrI:CO (zsU Kz):=
 okC Tryz.f292 (memC RG zF) (cuts:=[(4,⟨[1],⟨[.int .i64],[(0, .row 72),(1, .row 72)]⟩,[0,4,6,7],[],[0,1],0,[1],⟨[.int .i64],[(0, .row 72),(1, .row 72)]⟩,[0,1]⟩)]) (exS:=⟨[.optr 0, .int .i64],[(0, .row 72)]⟩)
theorem YT:CO (zsR VE):=
 okC Tryz.f307 (memC lK zF)
theorem bT:CO (zsP NK):=
 okC Tryz.f293 (memC YT (memC Ur zF))
theorem cz:CO (zsO Nr):=
 okC Tryz.f294 (memC yl zF)
theorem kK:CO (I9 Ep):=
 okC Tryz.f295 (memC bT (memC cz (memC RG zF))) (cuts:=[(2,⟨[1,6],⟨[.int .i64, .str],[]⟩,[0],[],[],0,[],⟨[],[]⟩,[]⟩)])
theorem aT:CO (zsQ Nz):=
 okC Tryz.f296 (memC yl (memC YT (memC cz zF)))
theorem zoG:CO (zpB VS):=
 okC Tryz.f297 (memC yl (memC Ur zF)) (joins:=[(4,⟨[1],⟨[.int .i64],[]⟩,[0],[],[],0,[],⟨[],[]⟩,[]⟩),(6,⟨[1],⟨[.int .i64],[]⟩,[],[],[],0,[],⟨[],[]⟩,[]⟩)])
theorem zrH:CO (zsS Mr):=
 okC Tryz.f316 (memC yl (memC Ur zF)) (cuts:=[(1,⟨[1],⟨[.int .i64],[]⟩,[0,4],[],[],0,[1],⟨[.int .i64],[]⟩,[]⟩)])
theorem znt:CO (zn6 oz):=
 okC Tryz.f308 (memC yl (memC zrH (memC Ur zF))) (joins:=[(4,⟨[1],⟨[.int .i64],[]⟩,[0],[],[],0,[],⟨[],[]⟩,[]⟩),(9,⟨[1,7],⟨[.int .i64, .bool],[]⟩,[],[],[],0,[],⟨[],[]⟩,[]⟩),(15,⟨[1,7,9],⟨[.int .i64, .bool, .int .i64],[]⟩,[],[],[],0,[],⟨[],[]⟩,[]⟩),(18,⟨[1,7],⟨[.int .i64, .bool],[]⟩,[],[],[],0,[],⟨[],[]⟩,[]⟩)])
theorem zkS:CO (zlF wz):=
 okC Tryz.f309 (memC yl (memC Ur zF)) (cuts:=[(5,⟨[3,5],⟨[.str, .int .i64],[]⟩,[4],[],[],0,[3,5],⟨[.str, .int .i64],[]⟩,[]⟩),(10,⟨[3,4,5],⟨[.str, .int .i64, .int .i64],[]⟩,[],[],[],2,[3,4,5],⟨[.str, .int .i64, .int .i64],[]⟩,[]⟩),(20,⟨[5,8],⟨[.int .i64, .int .i64],[]⟩,[4],[],[],4,[8],⟨[.int .i64],[]⟩,[]⟩),(28,⟨[9,10],⟨[.int .i64, .int .i64],[]⟩,[4],[],[],6,[9],⟨[.int .i64],[]⟩,[]⟩),(31,⟨[4,9],⟨[.int .i64, .int .i64],[]⟩,[],[],[],8,[9],⟨[.int .i64],[]⟩,[]⟩)]) (joins:=[(5,⟨[3,4,5],⟨[.str, .int .i64, .int .i64],[]⟩,[0,6],[],[],0,[],⟨[],[]⟩,[]⟩),(14,⟨[3,4,5],⟨[.str, .int .i64, .int .i64],[]⟩,[],[],[],0,[],⟨[],[]⟩,[]⟩),(19,⟨[4,5],⟨[.int .i64, .int .i64],[]⟩,[3,7],[],[],0,[],⟨[],[]⟩,[]⟩),(25,⟨[4,8],⟨[.int .i64, .int .i64],[]⟩,[],[],[],0,[],⟨[],[]⟩,[]⟩),(26,⟨[4],⟨[.int .i64],[]⟩,[3],[],[],0,[],⟨[],[]⟩,[]⟩)])
theorem zpQ:CO (zqE Uz):=
 okC Tryz.f298 (memC znt (memC zkS (memC aT (memC kK (memC yl zF))))) (joins:=[(9,⟨[6],⟨[.int .i64],[(0, .row 72),(1, .row 72)]⟩,[4,8],[],[0,1],0,[],⟨[],[]⟩,[]⟩)]) (exS:=⟨[.optr 0, .int .i64],[(0, .row 72)]⟩)
theorem WZ:CO (zAc sI):=
 okC Tryz.f299 zF
theorem nS:CO (M9 ul):=
 okC Tryz.f214 (memC IG zF)
theorem XZ:CO (zAb Wu):=
 okC Tryz.f317 (memC cz (memC RG zF)) (cuts:=[(1,⟨[1],⟨[.int .i64],[]⟩,[0,4,5],[0],[],0,[1],⟨[.int .i64],[]⟩,[]⟩)]) (exS:=⟨[.optr 0, .int .i64],[(0, .row 72)]⟩)
theorem zkT:CO (zlG vT):=
 okC Tryz.f318 zF
theorem VZ:CO (zAd Oy):=
 okC Tryz.f310 (memC CL (memC GG (memC XZ (memC zkT (memC cz (memC RG zF)))))) (cuts:=[(3,⟨[1],⟨[.int .i64],[(0, .row 72),(1, .row 72)]⟩,[0,4,6],[],[0,1],0,[1],⟨[.int .i64],[(0, .row 72),(1, .row 72)]⟩,[0,1]⟩)]) (exS:=⟨[.optr 0, .int .i64],[(0, .row 72)]⟩)
theorem P7:CO (H6 ay):=
 okC Tryz.f300 (memC kK (memC yl (memC nS (memC CL (memC VZ zF))))) (joins:=[(8,⟨[],⟨[],[(0, .row 72)]⟩,[4,6,7],[],[0],0,[],⟨[],[]⟩,[]⟩)]) (exS:=⟨[.optr 0, .int .i64],[(0, .row 72)]⟩)
theorem R7:CO (I6 iJ):=
 okC Tryz.f301 zF
theorem YZ:CO (zAa Py):=
 okC Tryz.f274 (memC GG (memC CL (memC zrI (memC bT (memC cz (memC kK (memC aT (memC zoG (memC zpQ (memC WZ (memC P7 (memC R7 zF)))))))))))) (exS:=⟨[.optr 0, .int .i64],[(0, .row 72)]⟩)
theorem zty:CO (F9 QD):=
 okC Tryz.f245 (memC YZ zF) (fz:=[(1,[1])])
theorem N7:CO (M3 XD):=
 okC Tryz.f213 (memC ztz (memC O7 (memC zty zF))) (joins:=[(6,⟨[8],⟨[.bool],[(1, .row 72)]⟩,[1,3,7],[0],[1],0,[],⟨[],[]⟩,[]⟩),(13,⟨[56],⟨[.bool],[(1, .row 72)]⟩,[],[],[1],0,[],⟨[],[]⟩,[]⟩),(21,⟨[90],⟨[.bool],[(1, .row 72)]⟩,[],[],[1],0,[],⟨[],[]⟩,[]⟩),(26,⟨[148],⟨[.bool],[]⟩,[],[1],[],0,[],⟨[],[]⟩,[]⟩)])
theorem ztx:CO (G9 su):=
 okC Tryz.f169 (memC N7 (memC nS zF)) (cuts:=[(4,⟨[3],⟨[.int .i64],[]⟩,[0],[],[],0,[],⟨[],[]⟩,[]⟩)]) (joins:=[(12,⟨[4],⟨[.int .i64],[]⟩,[3],[],[],0,[],⟨[],[]⟩,[]⟩),(14,⟨[],⟨[],[]⟩,[3],[],[],0,[],⟨[],[]⟩,[]⟩)])
theorem zp1(QN:List zb->Option Bool)(hs:CO (aG QN)):CO (aG (oF QN)):=
 okC Tryz.f170 (memC hs zF) (cuts:=[(2,⟨[3],⟨[.int .i64],[]⟩,[0],[],[],0,[],⟨[],[]⟩,[]⟩)])
theorem zpS:CO (aG QN):=recC (aG QN) (oF) (fun S h=>zp1 S h)
theorem zpR:CO (zqF gF):=
 okC Tryz.f171 zF (cuts:=[(1,⟨[0],⟨[.sl 74],[]⟩,[2],[],[],0,[0],⟨[.sl 74],[]⟩,[]⟩),(3,⟨[0],⟨[.sl 74],[]⟩,[2],[],[],2,[0],⟨[.sl 74],[]⟩,[]⟩)])
theorem zrK:CO (zsX NF):=
 okC Tryz.f172 zF
theorem zrL:CO (zsY MF):=
 okC Tryz.f121 (memC ztA (memC AL (memC ztx (memC zpS (memC zpR (memC zrK zF)))))) (cuts:=[(6,⟨[5],⟨[.int .i64],[]⟩,[1],[],[],0,[],⟨[],[]⟩,[]⟩)])
theorem lS:CO (C9 Jr):=
 okC Tryz.f82 (memC ztB (memC zrL zF))
theorem bS:CO (N8 pu):=
 okC Tryz.f173 zF
theorem sF:CO (zs4 Nn):=
 okC Tryz.f122 (memC bS zF)
theorem zrQ:CO (zs5 Gz):=
 okC Tryz.f215 (memC IG zF) (cuts:=[(4,⟨[3],⟨[.int .i64],[]⟩,[0],[],[],0,[],⟨[],[]⟩,[]⟩)])
theorem zAP:CO (zCL Gx):=
 okC Tryz.f216 zF
theorem UZ:CO (zAe Ny):=
 okC Tryz.f174 (memC sF (memC bS (memC zrQ (memC zAP zF)))) (cuts:=[(4,⟨[4],⟨[.int .i64],[]⟩,[1],[0],[],0,[],⟨[],[]⟩,[]⟩)]) (joins:=[(5,⟨[4],⟨[.int .i64],[]⟩,[],[],[],0,[],⟨[],[]⟩,[]⟩)])
theorem ztI:CO (zvA ny):=
 okC Tryz.f123 (memC sF (memC UZ zF))
theorem zrP:CO (zs3 JF):=
 okC Tryz.f83 (memC sF (memC ztI zF)) (cuts:=[(8,⟨[3],⟨[.int .i64],[]⟩,[1],[0],[],0,[],⟨[],[]⟩,[]⟩)])
theorem U4(Nk:zw×Int->Option Int)(hs:CO (jE Nk)):CO (jE (Ev Nk)):=
 okC Tryz.f124 (memC hs zF) (cuts:=[(3,⟨[5,6],⟨[.int .i64, .int .i64],[]⟩,[1,2,4],[0],[],0,[5],⟨[.int .i64],[]⟩,[]⟩)])
theorem H7:CO (jE Nk):=recC (jE Nk) (Ev) (fun S h=>U4 S h)
theorem X4(Wl:zw->Option Int)(hs:CO (pE Wl)):CO (pE (KF Wl)):=
 okC Tryz.f125 (memC VK (memC hs zF)) (cuts:=[(7,⟨[3,4],⟨[.int .i64, .int .i64],[]⟩,[1,2],[0],[],0,[3],⟨[.int .i64],[]⟩,[]⟩)]) (joins:=[(13,⟨[3,6],⟨[.int .i64, .int .i64],[]⟩,[4],[],[],0,[],⟨[],[]⟩,[]⟩)])
theorem kR:CO (pE Wl):=recC (pE Wl) (KF) (fun S h=>X4 S h)
theorem znQ(qm:zw->Option Bool)(hs:CO (mG qm)):CO (mG (gG qm)):=
 okC Tryz.f126 (memC lS (memC sF (memC hs zF))) (cuts:=[(13,⟨[3],⟨[.int .i64],[]⟩,[],[],[],1,[],⟨[],[]⟩,[]⟩)]) (joins:=[(10,⟨[55],⟨[.bool],[]⟩,[1],[0],[],0,[],⟨[],[]⟩,[]⟩)])
theorem znx:CO (mG qm):=recC (mG qm) (gG) (fun S h=>znQ S h)
theorem zl7:CO (zmF PG):=
 okC Tryz.f84 (memC H7 (memC kR (memC znx zF)))
theorem zrR:CO (zs6 Dv):=
 okC Tryz.f85 (memC tK zF) (cuts:=[(4,⟨[3],⟨[.int .i64],[]⟩,[0],[],[],0,[],⟨[],[]⟩,[]⟩)])
theorem zsr(Kn:zM->Option Bool)(hs:CO (LG Kn)):CO (LG (UF Kn)):=
 okC Tryz.f38 (memC ztD (memC M8 (memC lS (memC zrP (memC zl7 (memC zrR (memC hs zF))))))) (cuts:=[(8,⟨[4],⟨[.int .i64],[]⟩,[1],[],[],1,[],⟨[],[]⟩,[]⟩),(26,⟨[5],⟨[.int .i64],[]⟩,[],[],[],3,[],⟨[],[]⟩,[]⟩),(31,⟨[6],⟨[.int .i64],[]⟩,[],[],[],5,[],⟨[],[]⟩,[]⟩)]) (joins:=[(25,⟨[],⟨[],[]⟩,[1],[0],[],0,[],⟨[],[]⟩,[]⟩)])
theorem zrS:CO (LG Kn):=recC (LG Kn) (UF) (fun S h=>zsr S h)
theorem ztE:CO (X8 vJ):=
 okC Tryz.f128 zF
theorem zo0(Qk:List zm->Option Int)(hs:CO (VG Qk)):CO (VG (OG Qk)):=
 okC Tryz.f87 (memC ztE (memC hs zF)) (cuts:=[(3,⟨[3,4],⟨[.int .i64, .int .i64],[]⟩,[0,2],[],[],0,[3],⟨[.int .i64],[]⟩,[]⟩),(6,⟨[3,5],⟨[.int .i64, .int .i64],[]⟩,[4],[],[],2,[3],⟨[.int .i64],[]⟩,[]⟩),(10,⟨[3,7],⟨[.int .i64, .int .i64],[]⟩,[5,6],[],[],4,[3],⟨[.int .i64],[]⟩,[]⟩)]) (joins:=[(11,⟨[3,7],⟨[.int .i64, .int .i64],[]⟩,[],[],[],0,[],⟨[],[]⟩,[]⟩)])
theorem zoI:CO (VG Qk):=recC (VG Qk) (OG) (fun S h=>zo0 S h)
theorem zkV:CO (zlI fG):=
 okC Tryz.f88 (memC kR zF) (cuts:=[(5,⟨[3,4],⟨[.int .i64, .int .i64],[]⟩,[1,2],[0],[],0,[3],⟨[.int .i64],[]⟩,[]⟩),(11,⟨[3,6],⟨[.int .i64, .int .i64],[]⟩,[],[1],[],2,[3],⟨[.int .i64],[]⟩,[]⟩)]) (joins:=[(10,⟨[3],⟨[.int .i64],[(1, .row 42)]⟩,[4,5],[],[1],0,[],⟨[],[]⟩,[]⟩),(12,⟨[3,6],⟨[.int .i64, .int .i64],[]⟩,[],[],[],0,[],⟨[],[]⟩,[]⟩)])
theorem R4(En:List zM->Option Int)(hs:CO (iE En)):CO (iE (DF En)):=
 okC Tryz.f39 (memC hs (memC VK (memC zoI (memC zkV zF)))) (cuts:=[(3,⟨[3,4],⟨[.int .i64, .int .i64],[]⟩,[0,2],[],[],0,[3],⟨[.int .i64],[]⟩,[]⟩),(8,⟨[5,6],⟨[.int .i64, .int .i64],[]⟩,[3,4],[],[],2,[5],⟨[.int .i64],[]⟩,[]⟩)]) (joins:=[(4,⟨[3,4],⟨[.int .i64, .int .i64],[]⟩,[],[],[],0,[],⟨[],[]⟩,[]⟩)])
theorem G7:CO (iE En):=recC (iE En) (DF) (fun S h=>R4 S h)
theorem ztL:CO (zvD ME):=
 okC Tryz.f18 (memC WT (memC zrS (memC G7 zF))) (cuts:=[(4,⟨[3],⟨[.int .i64],[]⟩,[0],[],[],0,[],⟨[],[]⟩,[]⟩)])
theorem ztJ:CO (zvB ky):=
 okC Tryz.f8 (memC ztL zF)
theorem znB:CO (zoa jF):=
 okC Tryz.f10 (memC aS zF) (fz:=[(1,[1])])
theorem znD:CO (zob iF):=
 okC Tryz.f44 zF (fz:=[(1,[4])]) (p:=2)
theorem zrZ:CO (zth JK):=
 okC Tryz.f42 (memC pI (memC NU (memC DU (memC znD zF)))) (p:=1) (cuts:=[(7,⟨[7],⟨[.int .i64],[(0, .cells 65 [.own 1952]),(1952, .sl 70),(1, .row 163)]⟩,[0,1,6],[],[0,1],0,[],⟨[],[(0, .cells 65 [.own 1952]),(1952, .sl 70),(1, .row 163)]⟩,[0,1,1952]⟩)])
theorem ztT:CO (l9 FE):=
 okC Tryz.f21 (memC zrZ zF)
theorem zrG:CO (zsN XE):=
 okC Tryz.f11 (memC pI (memC rF (memC ztT (memC lC (memC AL zF)))))
theorem ztt:CO (R9 EE):=
 okC Tryz.f12 (memC rF (memC lC zF)) (cuts:=[(4,⟨[7],⟨[.int .i64],[]⟩,[5],[],[],0,[],⟨[],[]⟩,[]⟩)])
theorem zkU(ZQ:List zm×List zm->Option Bool)(h_ref08_Same:CO (Nv ZQ)):CO (zlH (iG ZQ)):=
 okC Tryz.f144 (memC XT (memC h_ref08_Same zF)) (cuts:=[(4,⟨[5],⟨[.int .i64],[]⟩,[0,1],[],[],0,[],⟨[],[]⟩,[]⟩)])
theorem ztF(ZQ:List zm×List zm->Option Bool)(h_ref08_Same:CO (Nv ZQ)):CO (U8 (rD ZQ)):=
 okC Tryz.f94 (memC (zkU ZQ h_ref08_Same) zF) (cuts:=[(4,⟨[5],⟨[.int .i64],[]⟩,[2,3],[0,1],[],0,[],⟨[],[]⟩,[]⟩)])
theorem Y4(ZQ:List zm×List zm->Option Bool)(hs:CO (Nv ZQ)):CO (Nv (LF ZQ)):=
 okC Tryz.f48 (memC (ztF ZQ hs) zF) (cuts:=[(4,⟨[5],⟨[.int .i64],[]⟩,[0,1],[],[],0,[],⟨[],[]⟩,[]⟩)])
theorem I7:CO (Nv ZQ):=recC (Nv ZQ) (LF) (fun S h=>Y4 S h)
theorem K7:CO (K3 Yy):=
 okC Tryz.f49 (memC kS zF) (cuts:=[(4,⟨[5],⟨[.int .i64],[]⟩,[0,1],[],[],0,[],⟨[],[]⟩,[]⟩)])
theorem zny:CO (zn7 nz):=
 okC Tryz.f51 zF (cuts:=[(4,⟨[5],⟨[.int .i64],[]⟩,[0,1],[],[],0,[],⟨[],[]⟩,[]⟩),(9,⟨[6],⟨[.int .i64],[]⟩,[5],[],[],2,[],⟨[],[]⟩,[]⟩)])
theorem ztK(Qd:List zM×List zM->Option Bool)(h_ref11_Same:CO (Pz Qd)):CO (zvC (NE Qd)):=
 okC Tryz.f24 (memC I7 (memC K7 (memC jR (memC zny (memC h_ref11_Same zF)))))
theorem O4(Qd:List zM×List zM->Option Bool)(hs:CO (Pz Qd)):CO (Pz (CF Qd)):=
 okC Tryz.f13 (memC (ztK Qd hs) zF) (cuts:=[(4,⟨[5],⟨[.int .i64],[]⟩,[0,1],[],[],0,[],⟨[],[]⟩,[]⟩)])
theorem F7:CO (Pz Qd):=recC (Pz Qd) (CF) (fun S h=>O4 S h)
theorem zl6:CO (AU gz):=
 okC Tryz.f3 (memC (@ztr fuK) (memC yK (memC ztN (memC sK (memC ztJ (memC WT (memC znB (memC zrG (memC ztt (memC F7 zF)))))))))) (cuts:=[(10,⟨[7],⟨[.int .i64],[]⟩,[0,3,5],[0],[],0,[],⟨[],[]⟩,[]⟩),(23,⟨[12],⟨[.int .i64],[]⟩,[0,3,10],[0,1],[],2,[],⟨[],[]⟩,[]⟩)])
end Go.Lv.VT
