/- Contracts. -/
import Derived.Test.YtbgmaekmfjhfoaaGreatDoorCoa
set_option linter.unusedSimpArgs false
set_option linter.unusedVariables false
namespace Go.Lv.VT
set_option maxRecDepth 100000
open Go.Proofs
variable [Fu]
theorem U7:CO (K6 rA):=
 okC Tryz.f233 (memC Z4 (memC RQ (memC xH zF))) (exS:=⟨[.optr 0, .bool],[(0, .row 190)]⟩)
theorem P9:CO (R8 XH):=
 okC Tryz.f239 (memC QI zF)
theorem zdX:CO (zd9 qW):=
 okC Tryz.f61 (memC P9 zF) (cuts:=[(2,⟨[8],⟨[.int .i64],[]⟩,[0,1,7],[],[],0,[],⟨[],[]⟩,[]⟩)])
theorem pQ:CO (ziz qH):=
 okC Tryz.f241 zF (p:=1) (cuts:=[(0,⟨[],⟨[],[(0, .row 316)]⟩,[0],[],[0],0,[],⟨[],[(0, .row 316)]⟩,[0]⟩)])
theorem bQ:CO (zkE QT):=
 okC Tryz.f244 zF (p:=1) (exS:=⟨[.optr 1, .bool],[(0, .row 316),(1, .row 59)]⟩)
theorem iQ:CO (zjo fw):=
 okC Tryz.f243 (memC bQ zF) (p:=1)
theorem zfj:CO (zfH stringslite_CutPrefix):=
 okC Tryz.f248 (memC QX zF)
theorem oQ:CO (ziF strings_CutPrefix):=
 okC Tryz.f245 (memC zfj zF)
theorem dQ:CO (zkD dw):=
 okC Tryz.f247 (memC Yz zF) (p:=1)
theorem zh5:CO (ziy QS):=
 okC Tryz.f246 (memC oQ (memC zCm (memC sV (memC pQ (memC dQ (memC iQ zF)))))) (p:=1) (joins:=[(15,⟨[9],⟨[.int .i64],[]⟩,[],[0],[],0,[],⟨[],[]⟩,[]⟩),(16,⟨[6],⟨[.int .i64],[(0, .row 316)]⟩,[0],[],[0],0,[],⟨[],[]⟩,[]⟩)])
theorem zj8:CO (zkC AC):=
 okC Tryz.f242 (memC iQ (memC bQ (memC Z4 (memC oQ (memC zh5 (memC dQ zF)))))) (p:=1) (joins:=[(25,⟨[15,16],⟨[.str, .int .i64],[(0, .row 316),(1, .row 185)]⟩,[0,2],[],[0,1],0,[],⟨[],[]⟩,[]⟩)]) (exS:=⟨[.optr 1, .bool],[(0, .row 316),(1, .row 185)]⟩)
theorem fU:CO (zBg Ox):=
 okC Tryz.f240 (memC pQ (memC zj8 (memC dP zF))) (exS:=⟨[.optr 0, .int .i64],[(0, .row 185)]⟩)
theorem l6(zB:List za×zg×Bool×Bool->Option (List zu×Bool))(h_seltext_parts:CO (qQ zB)):CO (xZ (Ep zB)):=
 okC Tryz.f238 (memC zdX (memC rH (memC h_seltext_parts (memC aP (memC fU zF))))) (joins:=[(8,⟨[1],⟨[.sl 61],[(0, .row 190),(2, .cells 190 [.int .u8, .str, .int .u8, .str, .bool, .int .i64, .int .i64, .bool, .nilv])]⟩,[3,6],[],[0,2],0,[],⟨[],[]⟩,[]⟩)]) (exS:=⟨[.optr 0, .bool],[(0, .row 190)]⟩)
theorem ziX(zB:List za×zg×Bool×Bool->Option (List zu×Bool))(h_seltext_parts:CO (qQ zB)):CO (zjv (qY zB)):=
 okC Tryz.f234 (memC RQ (memC Z4 (memC xH (memC (l6 zB h_seltext_parts) (memC rH (memC h_seltext_parts zF)))))) (exS:=⟨[.optr 0, .bool],[(0, .row 190)]⟩)
theorem zeK(zB:List za×zg×Bool×Bool->Option (List zu×Bool))(h_seltext_parts:CO (qQ zB)):CO (zeW (ZR zB)):=
 okC Tryz.f217 (memC qF (memC zgH (memC V7 (memC U7 (memC (ziX zB h_seltext_parts) zF))))) (fz:=[(24,[2])]) (p:=1) (cuts:=[(2,⟨[6],⟨[.own 1323],[(0, .row 288),(1323, .sl 190)]⟩,[0,3],[1],[0],0,[],⟨[],[]⟩,[]⟩)]) (joins:=[(21,⟨[8],⟨[.bool],[(0, .row 288),(1324, .row 190)]⟩,[6,7],[1323],[0,1324],0,[],⟨[],[]⟩,[]⟩),(22,⟨[6,8],⟨[.own 1323, .bool],[(0, .row 288),(1323, .sl 190),(1324, .row 190)]⟩,[7],[],[0,1323,1324],0,[],⟨[],[]⟩,[]⟩)])
theorem zh9(zB:List za×zg×Bool×Bool->Option (List zu×Bool))(h_seltext_parts:CO (qQ zB)):CO (ziD (qL zB)):=
 okC Tryz.f189 (memC QW (memC zgG (memC qF (memC Z4 (memC yH (memC (zeK zB h_seltext_parts) (memC (gQ zx OQ) (memC vQ zF)))))))) (fz:=[(19,[3]),(27,[3])]) (cuts:=[(8,⟨[],⟨[],[(1, .cells 115 [.int .u8, .nilv, .nilv]),(2, .row 288),(3, .cells 115 [.int .u8, .own 1324, .own 1325]),(1324, .sl 138),(1325, .sl 5)]⟩,[],[],[1,2,3],0,[],⟨[],[(1, .cells 115 [.int .u8, .nilv, .nilv]),(2, .row 288),(3, .cells 115 [.int .u8, .own 1326, .own 1325]),(1326, .sl 138),(1325, .sl 5)]⟩,[1,2,3,1325]⟩)]) (joins:=[(8,⟨[],⟨[],[(1, .cells 115 [.int .u8, .nilv, .nilv]),(2, .row 288),(3, .cells 115 [.int .u8, .nilv, .nilv])]⟩,[4,6,8,9],[0],[1,2,3],0,[],⟨[],[]⟩,[]⟩),(15,⟨[],⟨[],[(1, .cells 115 [.int .u8, .nilv, .nilv]),(2, .row 288),(3, .cells 115 [.int .u8, .own 1324, .own 1325]),(1324, .sl 138),(1325, .sl 5),(1326, .cells 138 [.str, .nilv])]⟩,[10],[],[1,2,3,1324,1325,1326],0,[],⟨[],[]⟩,[]⟩),(27,⟨[14],⟨[.int .u8],[(1, .cells 115 [.int .u8, .nilv, .nilv]),(3, .cells 115 [.int .u8, .own 1328, .own 1325]),(1328, .sl 138),(1325, .sl 5)]⟩,[],[2,1326],[1,3,1325,1328],0,[],⟨[],[]⟩,[]⟩)]) (exS:=⟨[.optr 0, .bool],[(0, .row 115)]⟩)
theorem J8(zB:List za×zg×Bool×Bool->Option (List zu×Bool))(hs:CO (qQ zB)):CO (qQ (Qs zB)):=
 okC Tryz.f147 (memC (zh9 zB hs) zF) (fz:=[(9,[2])]) (cuts:=[(4,⟨[10,11,18],⟨[.own 1219, .int .i64, .int .i64],[(1219, .sl 115)]⟩,[0,2,3,5,17],[0],[],0,[10],⟨[.own 1219],[(1219, .sl 115)]⟩,[1219]⟩)]) (joins:=[(12,⟨[10],⟨[.own 1321],[(1321, .sl 115)]⟩,[12,18],[],[],0,[],⟨[],[]⟩,[]⟩),(13,⟨[10,11,18],⟨[.own 1322, .int .i64, .int .i64],[(1322, .sl 115)]⟩,[],[],[],0,[],⟨[],[]⟩,[]⟩)])
theorem O9:CO (qQ zB):=recC (qQ zB) (Qs) (fun S h=>J8 S h)
theorem HZ:CO (PY EA):=
 okC Tryz.f99 (memC Np (memC O9 (memC TQ zF)))
theorem zhb:CO (rQ DC):=ZP.le (show CO (rQ (rT 80))from okC Tryz.f192 zF) (zBp _)
theorem FY(Mj:List za->Option (List za))(hs:CO (bA Mj)):CO (bA (WA Mj)):=
 okC Tryz.f149 (memC zhb (memC hs zF)) (cuts:=[(3,⟨[8],⟨[.int .i64],[(0, .sl 61)]⟩,[0,2,7],[],[0],0,[],⟨[],[(0, .sl 61)]⟩,[0]⟩)])
theorem XP:CO (bA Mj):=recC (bA Mj) (WA) (fun S h=>FY S h)
theorem YH:CO (TY Ls):=
 okC Tryz.f101 (memC Np (memC XP zF)) (fz:=[(12,[7]),(15,[5])]) (cuts:=[(9,⟨[7,8,24],⟨[.own 1328, .int .i64, .int .i64],[(1328, .sl 37)]⟩,[0,1,4,5,22,23],[],[],0,[7,8],⟨[.own 1328, .int .i64],[(1328, .sl 37)]⟩,[1328]⟩)]) (joins:=[(14,⟨[7,8,24],⟨[.own 1430, .int .i64, .int .i64],[(1430, .sl 37)]⟩,[],[],[],0,[],⟨[],[]⟩,[]⟩)])
theorem wX:CO (XX Es):=
 okC Tryz.f191 (memC vo zF) (cuts:=[(1,⟨[0],⟨[.sl 61],[]⟩,[2],[],[],0,[0],⟨[.sl 61],[]⟩,[]⟩)])
theorem RZ:CO (bY lm):=
 okC Tryz.f190 (memC vo zF) (cuts:=[(1,⟨[0],⟨[.sl 61],[]⟩,[2],[],[],0,[0],⟨[.sl 61],[]⟩,[]⟩)])
theorem G7:CO (X0 Kw):=
 okC Tryz.f150 zF (p:=1)
theorem TH:CO (SX Xr):=
 okC Tryz.f102 (memC Np (memC G7 (memC XP zF))) (cuts:=[(6,⟨[6],⟨[.int .i64],[]⟩,[1,2,3,5,7],[0],[],0,[6],⟨[.int .i64],[]⟩,[]⟩),(8,⟨[7],⟨[.int .i64],[]⟩,[1,2,3,5,6],[0],[],2,[7],⟨[.int .i64],[]⟩,[]⟩)])
theorem wO:CO (sW Pv):=
 okC Tryz.f148 (memC wX (memC RZ (memC vo (memC qC (memC Z4 (memC QI (memC bP (memC TH (memC bH zF))))))))) (joins:=[(7,⟨[0],⟨[.sl 61],[(0, .cells 39 [.str, .nilv, .bool]),(1, .cells 39 [.str, .nilv, .bool])]⟩,[2,4],[],[0,1],0,[],⟨[],[]⟩,[]⟩),(16,⟨[0],⟨[.sl 61],[(0, .cells 39 [.str, .nilv, .bool]),(1, .cells 39 [.str, .nilv, .bool])]⟩,[],[],[0,1],0,[],⟨[],[]⟩,[]⟩)]) (exS:=⟨[.optr 0, .bool],[(0, .row 39)]⟩)
theorem wW:CO (wV Wy):=
 okC Tryz.f100 (memC YH (memC wO zF)) (fz:=[(10,[2])]) (cuts:=[(6,⟨[6,21],⟨[.own 1432, .int .i64],[(1432, .sl 39)]⟩,[2,3,19,20],[],[],0,[6],⟨[.own 1432],[(1432, .sl 39)]⟩,[1432]⟩)]) (joins:=[(11,⟨[6,21],⟨[.own 1534, .int .i64],[(1534, .sl 39)]⟩,[],[],[],0,[],⟨[],[]⟩,[]⟩)])
theorem M4:CO (rZ Pw):=
 okC Tryz.f64 (memC HZ (memC wW zF)) (exS:=⟨[.optr 0, .bool],[(0, .row 45)]⟩)
theorem zdg:CO (zdC QL):=
 okC Tryz.f157 (memC NQ zF) (p:=1) (cuts:=[(2,⟨[8],⟨[.int .i64],[]⟩,[0,1,7],[],[],0,[],⟨[],[]⟩,[]⟩)])
theorem zcl:CO (zcz Qf):=
 okC Tryz.f110 (memC zdg zF) (p:=1)
theorem N9:CO (N8 SB):=
 okC Tryz.f72 (memC zcl zF) (p:=1)
theorem DZ:CO (uY BA):=
 okC Tryz.f103 (memC TH (memC N9 zF)) (fz:=[(14,[3])]) (cuts:=[(6,⟨[5,24],⟨[.own 1536, .int .i64],[(1536, .sl 9)]⟩,[22,23],[],[],0,[5],⟨[.own 1536],[(1536, .sl 9)]⟩,[1536]⟩)]) (joins:=[(15,⟨[5,24],⟨[.own 1638, .int .i64],[(1638, .sl 9)]⟩,[],[],[],0,[],⟨[],[]⟩,[]⟩)])
theorem BQ:CO (tZ Dp):=
 okC Tryz.f65 (memC YH (memC TH (memC DZ zF))) (fz:=[(16,[3])]) (cuts:=[(11,⟨[42],⟨[.int .i64],[(0, .cells 45 [.int .u8, .nilv, .nilv, .int .u8, .str, .int .i64, .str, .nilv, .bool, .nilv, .nilv, .nilv]),(1, .cells 45 [.int .u8, .nilv, .nilv, .int .u8, .str, .int .i64, .str, .nilv, .bool, .nilv, .own 1639, .nilv]),(1639, .sl 46)]⟩,[40,41],[],[0,1],0,[],⟨[],[(0, .cells 45 [.int .u8, .nilv, .nilv, .int .u8, .str, .int .i64, .str, .nilv, .bool, .nilv, .nilv, .nilv]),(1, .cells 45 [.int .u8, .nilv, .nilv, .int .u8, .str, .int .i64, .str, .nilv, .bool, .nilv, .own 1639, .nilv]),(1639, .sl 46)]⟩,[0,1,1639]⟩)]) (joins:=[(10,⟨[],⟨[],[(0, .cells 45 [.int .u8, .nilv, .nilv, .int .u8, .str, .int .i64, .str, .nilv, .bool, .nilv, .nilv, .nilv]),(1, .cells 45 [.int .u8, .nilv, .nilv, .int .u8, .str, .int .i64, .str, .nilv, .bool, .nilv, .nilv, .nilv])]⟩,[1,4,6,8],[],[0,1],0,[],⟨[],[]⟩,[]⟩)]) (exS:=⟨[.optr 0, .bool],[(0, .row 45)]⟩)
theorem Qo:CO (zjq Zn):=
 okC Tryz.f151 zF (p:=1)
theorem Qp:CO (zjr Zr):=
 okC Tryz.f152 zF (p:=1) (exS:=⟨[.optr 1],[(0, .row 180),(1, .row 61)]⟩)
theorem QD:CO (zhW zM):=
 okC Tryz.f104 (memC Qo (memC Qp zF)) (p:=1) (cuts:=[(2,⟨[],⟨[],[(0, .row 180)]⟩,[0,2,3],[],[0],0,[],⟨[],[(0, .row 180)]⟩,[0]⟩)])
theorem sH:CO (zjt qc):=
 okC Tryz.f153 (memC Qo (memC QI (memC Qp zF))) (p:=1) (cuts:=[(2,⟨[9],⟨[.int .i64],[(0, .row 180)]⟩,[0,7,8],[],[0],0,[],⟨[],[(0, .row 180)]⟩,[0]⟩)])
theorem zgF:CO (zgM qJ):=
 okC Tryz.f155 (memC Qo (memC Qp (memC QD (memC sH (memC QI (memC EQ zF)))))) (fz:=[(6,[1])]) (p:=1) (joins:=[(11,⟨[],⟨[],[(1, .cells 42 [.int .u8, .str, .int .i64, .str, .nilv, .bool, .nilv]),(2, .row 180),(3, .cells 42 [.int .u8, .str, .int .i64, .str, .nilv, .bool, .nilv])]⟩,[2,4,5],[0],[1,2,3],0,[],⟨[],[]⟩,[]⟩)]) (exS:=⟨[.optr 1, .bool],[(0, .row 180),(1, .row 42)]⟩)
theorem zh7:CO (ziB QU):=
 okC Tryz.f105 (memC QD (memC sH (memC Qo (memC Qp (memC Z4 (memC FQ (memC zgF zF))))))) (fz:=[(3,[1]),(9,[4]),(13,[3]),(17,[1]),(23,[3]),(25,[1])]) (pre:=[(25,[(4,some 6)])]) (p:=1) (cuts:=[(15,⟨[],⟨[],[(0, .row 180),(1, .cells 42 [.int .u8, .str, .int .i64, .str, .nilv, .bool, .nilv]),(2, .cells 42 [.int .u8, .str, .int .i64, .str, .nilv, .bool, .own 1742]),(1742, .sl 42)]⟩,[],[],[0,1,2],0,[],⟨[],[(0, .row 180),(1, .cells 42 [.int .u8, .str, .int .i64, .str, .nilv, .bool, .nilv]),(2, .cells 42 [.int .u8, .str, .int .i64, .str, .nilv, .bool, .own 1742]),(1742, .sl 42)]⟩,[0,1,2,1742]⟩)]) (joins:=[(14,⟨[],⟨[],[(0, .row 180),(1, .cells 42 [.int .u8, .str, .int .i64, .str, .nilv, .bool, .nilv]),(2, .cells 42 [.int .u8, .str, .int .i64, .str, .nilv, .bool, .own 1640]),(1640, .sl 42)]⟩,[0,2,4,5],[],[0,1,2],0,[],⟨[],[]⟩,[]⟩),(26,⟨[],⟨[],[(1, .cells 42 [.int .u8, .str, .int .i64, .str, .nilv, .bool, .nilv]),(2, .cells 42 [.int .u8, .str, .int .i64, .str, .nilv, .bool, .sl 42])]⟩,[],[0],[1,2],0,[],⟨[],[]⟩,[]⟩)]) (exS:=⟨[.optr 1, .bool],[(0, .row 180),(1, .row 42)]⟩)
theorem mP:CO (jY Ap):=
 okC Tryz.f66 (memC YH (memC QD (memC zh7 zF))) (fz:=[(17,[1]),(18,[1]),(19,[3])]) (cuts:=[(13,⟨[44],⟨[.int .i64],[(1, .cells 42 [.int .u8, .str, .int .i64, .str, .nilv, .bool, .own 1743]),(1743, .sl 42)]⟩,[7,42,43],[0],[1],0,[],⟨[],[(1, .cells 42 [.int .u8, .str, .int .i64, .str, .nilv, .bool, .own 1743]),(1743, .sl 42)]⟩,[1,1743]⟩)]) (joins:=[(9,⟨[],⟨[],[(0, .cells 42 [.int .u8, .str, .int .i64, .str, .nilv, .bool, .nilv])]⟩,[2,4],[],[0],0,[],⟨[],[]⟩,[]⟩),(19,⟨[],⟨[],[(1, .cells 42 [.int .u8, .str, .int .i64, .str, .nilv, .bool, .own 1743]),(1743, .sl 42),(1745, .row 42)]⟩,[10,44],[],[1,1743,1745],0,[],⟨[],[]⟩,[]⟩)]) (exS:=⟨[.optr 0, .int .i64],[(0, .row 42)]⟩)
theorem aX:CO (uW Hz):=
 okC Tryz.f195 (memC Np (memC wO zF)) (exS:=⟨[.optr 0, .bool, .int .i64],[(0, .row 39)]⟩)
theorem ziV(z8:zh->Option ((zt×Bool)×zh))(h_cond_reader_told:CO (QB z8)):CO (zjs (qb z8)):=
 okC Tryz.f156 (memC Qo (memC Qp (memC aX (memC h_cond_reader_told zF)))) (p:=1) (exS:=⟨[.optr 1, .bool],[(0, .row 180),(1, .row 42)]⟩)
theorem zi7(z8:zh->Option ((zt×Bool)×zh))(hs:CO (QB z8)):CO (QB (qx z8)):=
 okC Tryz.f107 (memC QD (memC sH (memC (ziV z8 hs) zF))) (fz:=[(2,[1]),(6,[1]),(15,[5]),(23,[3])]) (p:=1) (cuts:=[(14,⟨[9],⟨[.bool],[(0, .row 180),(1, .cells 42 [.int .u8, .str, .int .i64, .str, .nilv, .bool, .nilv]),(5, .cells 42 [.int .u8, .str, .int .i64, .str, .nilv, .bool, .own 1744]),(1744, .sl 42)]⟩,[0,2,10],[],[0,1,5],0,[],⟨[],[(0, .row 180),(1, .cells 42 [.int .u8, .str, .int .i64, .str, .nilv, .bool, .nilv]),(5, .cells 42 [.int .u8, .str, .int .i64, .str, .nilv, .bool, .own 1744]),(1744, .sl 42)]⟩,[0,1,5,1744]⟩)]) (exS:=⟨[.optr 1, .bool],[(0, .row 180),(1, .row 42)]⟩)
theorem ziW:CO (QB z8):=recC (QB z8) (qx) (fun S h=>zi7 S h)
theorem UQ:CO (l8 Pp):=
 okC Tryz.f67 (memC Np (memC ziW (memC nQ zF))) (exS:=⟨[.optr 0, .int .i64],[(0, .row 42)]⟩)
theorem zgI:CO (zgS Qu):=
 okC Tryz.f40 (memC BQ (memC mP (memC UQ zF))) (p:=1) (joins:=[(13,⟨[13],⟨[.bool],[(0, .row 77),(1, .cells 45 [.int .u8, .nilv, .nilv, .int .u8, .str, .int .i64, .str, .nilv, .bool, .nilv, .nilv, .nilv]),(2, .row 45)]⟩,[0,4,10,12],[],[0,1,2],0,[],⟨[],[]⟩,[]⟩)]) (exS:=⟨[.optr 1, .bool],[(0, .row 77),(1, .row 45)]⟩)
theorem zia(zQ:(List za×Bool)×zo->Option (List zJ×zo))(h_sheet_parser_rules:CO (Qa zQ)):CO (ziE (ql zQ)):=
 okC Tryz.f40 (memC M4 (memC BQ (memC mP (memC UQ (memC h_sheet_parser_rules zF))))) (p:=1) (joins:=[(13,⟨[13],⟨[.bool],[(0, .row 77),(1, .cells 45 [.int .u8, .nilv, .nilv, .int .u8, .str, .int .i64, .str, .nilv, .bool, .nilv, .nilv, .nilv]),(2, .row 45)]⟩,[0,4,10,12],[],[0,1,2],0,[],⟨[],[]⟩,[]⟩),(18,⟨[],⟨[],[(0, .row 77),(1, .cells 45 [.int .u8, .nilv, .nilv, .int .u8, .str, .int .i64, .str, .nilv, .bool, .nilv, .nilv, .nilv]),(2, .row 45)]⟩,[],[],[0,1,2],0,[],⟨[],[]⟩,[]⟩)]) (exS:=⟨[.optr 1, .bool],[(0, .row 77),(1, .row 45)]⟩)
theorem zhr(zQ:(List za×Bool)×zo->Option (List zJ×zo))(hs:CO (Qa zQ)):CO (Qa (Z8 zQ)):=
 okC Tryz.f26 (memC FZ (memC Z4 (memC K4 (memC (zia zQ hs) (memC zgI zF))))) (fz:=[(10,[7]),(22,[2])]) (p:=1) (cuts:=[(2,⟨[1,7],⟨[.sl 61, .own 1745],[(0, .row 77),(1745, .sl 45)]⟩,[0,2,6],[],[0],0,[7],⟨[.own 1745],[(0, .row 77),(1745, .sl 45)]⟩,[0,1745]⟩)]) (joins:=[(8,⟨[1,7],⟨[.sl 61, .own 1745],[(0, .row 77),(1745, .sl 45)]⟩,[8],[],[0,1745],0,[],⟨[],[]⟩,[]⟩),(12,⟨[1,7,9,10],⟨[.sl 61, .own 1745, .str, .own 1848],[(0, .row 77),(1745, .sl 45),(1848, .sl 5)]⟩,[],[],[0,1745],0,[],⟨[],[]⟩,[]⟩),(19,⟨[1,7],⟨[.sl 61, .own 1745],[(0, .row 77),(1745, .sl 45)]⟩,[9,11,12],[],[0,1745],0,[],⟨[],[]⟩,[]⟩)])
theorem mQ:CO (Qa zQ):=recC (Qa zQ) (Z8) (fun S h=>zhr S h)
theorem CZ:CO (tY XG):=
 okC Tryz.f15 (memC gH (memC CG (memC mQ zF)))
theorem GZ:CO (wY Fs):=
 okC Tryz.f6 (memC CZ zF) (exS:=⟨[.optr 0, .int .i64],[(0, .row 27)]⟩)
theorem O7:CO (F6 KH):=
 okC Tryz.f15 (memC gH (memC CG (memC mQ zF)))
theorem R7:CO (I6 Rw):=
 okC Tryz.f6 (memC O7 zF) (exS:=⟨[.optr 0, .int .i64],[(0, .row 27)]⟩)
theorem iH:CO (H6 Z9):=
 ZP.told (I:=I) (P:=Tryz.prog) (Fn:=fun b:Bool=>cond b Fs Rw) true (fun b=>match b with|true=>GZ|false=>R7) (fun x y h=>by
  unfold Z9 at h;exact alt2 (A:=Fs) (B:=Rw) h)
theorem H7:CO (Y0 rO):=
 okC Tryz.f9 (memC iH (memC Y6 zF)) (cuts:=[(5,⟨[7],⟨[.int .i64],[]⟩,[1,5],[0],[],0,[],⟨[],[]⟩,[]⟩)])
theorem I7:CO (I1 um):=
 okC Tryz.f4 (memC iH (memC H7 zF)) (fz:=[(3,[4])])
theorem U9:CO (l9 BC):=
 okC Tryz.f22 zF (fz:=[(1,[4])]) (p:=2)
theorem M7:CO (X5 GH):=
 okC Tryz.f20 (memC EG (memC BR (memC kQ (memC U9 zF)))) (p:=1) (cuts:=[(7,⟨[7],⟨[.int .i64],[(0, .cells 52 [.own 1849]),(1849, .sl 57),(1, .row 104)]⟩,[0,1,6],[],[0,1],0,[],⟨[],[(0, .cells 52 [.own 1849]),(1849, .sl 57),(1, .row 104)]⟩,[0,1,1849]⟩)])
theorem J4:CO (nZ SA):=
 okC Tryz.f12 (memC M7 zF)
theorem A8:CO (R6 FB):=
 okC Tryz.f25 zF (joins:=[(6,⟨[6],⟨[.bool],[]⟩,[3],[],[],0,[],⟨[],[]⟩,[]⟩)])
theorem H5(QE:List za->Option (List zk))(hs:CO (aB QE)):CO (aB (XB QE)):=
 okC Tryz.f14 (memC A8 (memC hs zF)) (fz:=[(5,[6]),(9,[3])]) (cuts:=[(3,⟨[3,4],⟨[.own 1850, .int .i64],[(1850, .sl 59)]⟩,[0,2],[],[],0,[3],⟨[.own 1850],[(1850, .sl 59)]⟩,[1850]⟩)]) (joins:=[(4,⟨[3,4],⟨[.own 1952, .int .i64],[(1952, .sl 59)]⟩,[],[],[],0,[],⟨[],[]⟩,[]⟩)])
theorem u7:CO (aB QE):=recC (aB QE) (XB) (fun S h=>H5 S h)
theorem C8:CO (U6 Sw):=
 okC Tryz.f5 (memC EG (memC gH (memC J4 (memC CG (memC u7 zF)))))
theorem F9(qw:List zJ->Option Int)(hs:CO (iB qw)):CO (iB (eB qw)):=
 okC Tryz.f7 (memC hs zF) (cuts:=[(3,⟨[3,4],⟨[.int .i64, .int .i64],[]⟩,[0,2],[],[],0,[3],⟨[.int .i64],[]⟩,[]⟩)])
theorem aQ:CO (iB qw):=recC (iB qw) (eB) (fun S h=>F9 S h)
theorem Y7:CO (O6 yA):=
 okC Tryz.f7 (memC aQ zF) (p:=1) (cuts:=[(3,⟨[3,4],⟨[.int .i64, .int .i64],[]⟩,[0,2],[],[],0,[3],⟨[.int .i64],[]⟩,[]⟩)])
theorem l7:CO (P6 BB):=
 okC Tryz.f108 zF (exS:=⟨[.optr 0],[(0, .row 187)]⟩)
theorem zh8(ZO:List zu×List zu->Option Bool)(h_ref08_Same:CO (Ht ZO)):CO (ziC (IC ZO)):=
 okC Tryz.f68 (memC l7 (memC h_ref08_Same zF)) (cuts:=[(4,⟨[5],⟨[.int .i64],[]⟩,[0,1],[],[],0,[],⟨[],[]⟩,[]⟩)])
theorem A7(ZO:List zu×List zu->Option Bool)(h_ref08_Same:CO (Ht ZO)):CO (yZ (iA ZO)):=
 okC Tryz.f41 (memC (zh8 ZO h_ref08_Same) zF) (cuts:=[(4,⟨[5],⟨[.int .i64],[]⟩,[2,3],[0,1],[],0,[],⟨[],[]⟩,[]⟩)])
theorem bZ(ZO:List zu×List zu->Option Bool)(hs:CO (Ht ZO)):CO (Ht (CB ZO)):=
 okC Tryz.f27 (memC (A7 ZO hs) zF) (cuts:=[(4,⟨[5],⟨[.int .i64],[]⟩,[0,1],[],[],0,[],⟨[],[]⟩,[]⟩)])
theorem KZ:CO (Ht ZO):=recC (Ht ZO) (CB) (fun S h=>bZ S h)
theorem cZ(Rl:List za×List za->Option Bool)(hs:CO (RB Rl)):CO (RB (EB Rl)):=
 okC Tryz.f69 (memC hs zF) (cuts:=[(4,⟨[5],⟨[.int .i64],[]⟩,[0,1],[],[],0,[],⟨[],[]⟩,[]⟩)])
theorem MZ:CO (RB Rl):=recC (RB Rl) (EB) (fun S h=>cZ S h)
theorem CQ:CO (M0 Us):=
 okC Tryz.f42 (memC MZ zF)
theorem LZ:CO (SY Bw):=
 okC Tryz.f28 (memC CQ zF) (cuts:=[(4,⟨[5],⟨[.int .i64],[]⟩,[0,1],[],[],0,[],⟨[],[]⟩,[]⟩)])
theorem aZ(Yj:zt×zt->Option Bool)(hs:CO (OB Yj)):CO (OB (AB Yj)):=
 okC Tryz.f29 (memC CQ (memC hs zF)) (cuts:=[(4,⟨[5],⟨[.int .i64],[]⟩,[2,3],[0,1],[],0,[],⟨[],[]⟩,[]⟩)])
theorem JZ:CO (OB Yj):=recC (OB Yj) (AB) (fun S h=>aZ S h)
theorem X9:CO (zkG kw):=
 okC Tryz.f30 zF (cuts:=[(4,⟨[5],⟨[.int .i64],[]⟩,[0,1],[],[],0,[],⟨[],[]⟩,[]⟩),(9,⟨[6],⟨[.int .i64],[]⟩,[5],[],[],2,[],⟨[],[]⟩,[]⟩)])
theorem IZ(qg:zJ×zJ->Option Bool)(h_ref11_Same1:CO (Yw qg)):CO (RY (Aw qg)):=
 okC Tryz.f8 (memC h_ref11_Same1 zF) (cuts:=[(4,⟨[5],⟨[.int .i64],[]⟩,[0,1],[],[],0,[],⟨[],[]⟩,[]⟩)])
theorem Y3(qg:zJ×zJ->Option Bool)(hs:CO (Yw qg)):CO (Yw (VB qg)):=
 okC Tryz.f16 (memC KZ (memC LZ (memC JZ (memC X9 (memC (IZ qg hs) zF)))))
theorem u6:CO (Yw qg):=recC (Yw qg) (VB) (fun S h=>Y3 S h)
theorem X7:CO (M6 xA):=
 okC Tryz.f8 (memC u6 zF) (p:=1) (cuts:=[(4,⟨[5],⟨[.int .i64],[]⟩,[0,1],[],[],0,[],⟨[],[]⟩,[]⟩)])
theorem Y9:CO (eQ wB):=
 okC Tryz.f3 (memC (@I7 fuK) (memC C8 (memC iH (memC Y7 (memC aQ (memC X7 zF))))))
end Go.Lv.VT
