/- Contracts. -/
import Derived.Test.YtoiadnecjabbeaaGreatDoorCoa
set_option linter.unusedSimpArgs false
set_option linter.unusedVariables false
namespace Go.Lv.VT
set_option maxRecDepth 100000
open Go.Proofs
variable [Fu]
theorem X8:zw Tryz.prog (O7 LC):=
 okC Tryz.f232 (memC Z7 (memC lQ (memC nI zH))) (fl:=Fu.n) (exS:=⟨[.optr 0, .bool],[(0, .row 139)]⟩)
theorem zl5:zw Tryz.prog (P9 WI):=
 okC Tryz.f239 (memC QO zH) (fl:=Fu.n)
theorem zd1:zw Tryz.prog (zec Qa):=
 okC Tryz.f46 (memC zl5 zH) (cuts:=[(2,⟨[8],⟨[.int .i64],[]⟩,[0,1,7],[],[],0,[],⟨[],[]⟩,[]⟩)]) (fl:=Fu.n)
theorem JR:zw Tryz.prog (ziB qJ):=
 okC Tryz.f241 zH (p:=1) (cuts:=[(0,⟨[],⟨[],[(0, .row 316)]⟩,[0],[],[0],0,[],⟨[],[(0, .row 316)]⟩,[0]⟩)]) (fl:=Fu.n)
theorem wQ:zw Tryz.prog (zkE QY):=
 okC Tryz.f244 zH (p:=1) (fl:=Fu.n) (exS:=⟨[.optr 1, .bool],[(0, .row 316),(1, .row 70)]⟩)
theorem BR:zw Tryz.prog (zjr dx):=
 okC Tryz.f243 (memC wQ zH) (p:=1) (fl:=Fu.n)
theorem zfj:zw Tryz.prog (zfF stringslite_CutPrefix):=
 okC Tryz.f248 (memC Q3 zH) (fl:=Fu.n)
theorem IR:zw Tryz.prog (ziH strings_CutPrefix):=
 okC Tryz.f245 (memC zfj zH) (fl:=Fu.n)
theorem xQ:zw Tryz.prog (zkD Ay):=
 okC Tryz.f247 (memC xA zH) (p:=1) (fl:=Fu.n)
theorem zh6:zw Tryz.prog (ziA QX):=
 okC Tryz.f246 (memC IR (memC zC6 (memC IX (memC JR (memC xQ (memC BR zH)))))) (p:=1) (joins:=[(15,⟨[9],⟨[.int .i64],[]⟩,[],[0],[],0,[],⟨[],[]⟩,[]⟩),(16,⟨[6],⟨[.int .i64],[(0, .row 316)]⟩,[0],[],[0],0,[],⟨[],[]⟩,[]⟩)]) (fl:=Fu.n)
theorem zj9:zw Tryz.prog (zkC UD):=
 okC Tryz.f242 (memC BR (memC wQ (memC Z7 (memC IR (memC zh6 (memC xQ zH)))))) (p:=1) (joins:=[(25,⟨[15,16],⟨[.str, .int .i64],[(0, .row 316),(1, .row 134)]⟩,[0,2],[],[0,1],0,[],⟨[],[]⟩,[]⟩)]) (fl:=Fu.n) (exS:=⟨[.optr 1, .bool],[(0, .row 316),(1, .row 134)]⟩)
theorem zAr:zw Tryz.prog (zBY Hz):=
 okC Tryz.f240 (memC JR (memC zj9 (memC yP zH))) (fl:=Fu.n) (exS:=⟨[.optr 0, .int .i64],[(0, .row 134)]⟩)
theorem K6(zD:List za×zf×Bool×Bool->Option (List zq×Bool))(h_seltext_parts:zw Tryz.prog (qV zD)):zw Tryz.prog (G5 (Jp zD)):=
 okC Tryz.f238 (memC zd1 (memC iI (memC h_seltext_parts (memC wP (memC zAr zH))))) (joins:=[(8,⟨[1],⟨[.sl 72],[(0, .row 139),(2, .cells 139 [.int .u8, .str, .int .u8, .str, .bool, .int .i64, .int .i64, .bool, .nilv])]⟩,[3,6],[],[0,2],0,[],⟨[],[]⟩,[]⟩)]) (fl:=Fu.n) (exS:=⟨[.optr 0, .bool],[(0, .row 139)]⟩)
theorem ziZ(zD:List za×zf×Bool×Bool->Option (List zq×Bool))(h_seltext_parts:zw Tryz.prog (qV zD)):zw Tryz.prog (zjx (Qc zD)):=
 okC Tryz.f233 (memC lQ (memC Z7 (memC nI (memC (K6 zD h_seltext_parts) (memC iI (memC h_seltext_parts zH)))))) (fl:=Fu.n) (exS:=⟨[.optr 0, .bool],[(0, .row 139)]⟩)
theorem zeL(zD:List za×zf×Bool×Bool->Option (List zq×Bool))(h_seltext_parts:zw Tryz.prog (qV zD)):zw Tryz.prog (zeW (ZW zD)):=
 okC Tryz.f207 (memC qH (memC zgG (memC Y8 (memC X8 (memC (ziZ zD h_seltext_parts) zH))))) (fz:=[(24,[2])]) (p:=1) (cuts:=[(2,⟨[6],⟨[.own 1323],[(0, .row 281),(1323, .sl 139)]⟩,[0,3],[1],[0],0,[],⟨[],[]⟩,[]⟩)]) (joins:=[(21,⟨[8],⟨[.bool],[(0, .row 281),(1324, .row 139)]⟩,[6,7],[1323],[0,1324],0,[],⟨[],[]⟩,[]⟩),(22,⟨[6,8],⟨[.own 1323, .bool],[(0, .row 281),(1323, .sl 139),(1324, .row 139)]⟩,[7],[],[0,1323,1324],0,[],⟨[],[]⟩,[]⟩)]) (fl:=Fu.n)
theorem zia(zD:List za×zf×Bool×Bool->Option (List zq×Bool))(h_seltext_parts:zw Tryz.prog (qV zD)):zw Tryz.prog (ziF (qN zD)):=
 okC Tryz.f170 (memC Q0 (memC zgF (memC qH (memC Z7 (memC oI (memC (zeL zD h_seltext_parts) (memC (AR zB jQ) (memC UR zH)))))))) (fz:=[(19,[3]),(27,[3])]) (cuts:=[(8,⟨[],⟨[],[(1, .cells 80 [.int .u8, .nilv, .nilv]),(2, .row 281),(3, .cells 80 [.int .u8, .own 1324, .own 1325]),(1324, .sl 98),(1325, .sl 5)]⟩,[],[],[1,2,3],0,[],⟨[],[(1, .cells 80 [.int .u8, .nilv, .nilv]),(2, .row 281),(3, .cells 80 [.int .u8, .own 1326, .own 1325]),(1326, .sl 98),(1325, .sl 5)]⟩,[1,2,3,1325]⟩)]) (joins:=[(8,⟨[],⟨[],[(1, .cells 80 [.int .u8, .nilv, .nilv]),(2, .row 281),(3, .cells 80 [.int .u8, .nilv, .nilv])]⟩,[4,6,8,9],[0],[1,2,3],0,[],⟨[],[]⟩,[]⟩),(15,⟨[],⟨[],[(1, .cells 80 [.int .u8, .nilv, .nilv]),(2, .row 281),(3, .cells 80 [.int .u8, .own 1324, .own 1325]),(1324, .sl 98),(1325, .sl 5),(1326, .cells 98 [.str, .nilv])]⟩,[10],[],[1,2,3,1324,1325,1326],0,[],⟨[],[]⟩,[]⟩),(27,⟨[14],⟨[.int .u8],[(1, .cells 80 [.int .u8, .nilv, .nilv]),(3, .cells 80 [.int .u8, .own 1328, .own 1325]),(1328, .sl 98),(1325, .sl 5)]⟩,[],[2,1326],[1,3,1325,1328],0,[],⟨[],[]⟩,[]⟩)]) (fl:=Fu.n) (exS:=⟨[.optr 0, .bool],[(0, .row 80)]⟩)
theorem I9(zD:List za×zf×Bool×Bool->Option (List zq×Bool))(hs:zw Tryz.prog (qV zD)):zw Tryz.prog (qV (Qw zD)):=
 okC Tryz.f130 (memC (zia zD hs) zH) (fz:=[(9,[2])]) (cuts:=[(4,⟨[10,11,18],⟨[.own 1219, .int .i64, .int .i64],[(1219, .sl 80)]⟩,[0,2,3,5,17],[0],[],0,[10],⟨[.own 1219],[(1219, .sl 80)]⟩,[1219]⟩)]) (joins:=[(12,⟨[10],⟨[.own 1321],[(1321, .sl 80)]⟩,[12,18],[],[],0,[],⟨[],[]⟩,[]⟩),(13,⟨[10,11,18],⟨[.own 1322, .int .i64, .int .i64],[(1322, .sl 80)]⟩,[],[],[],0,[],⟨[],[]⟩,[]⟩)]) (fl:=Fu.n)
theorem zl6:zw Tryz.prog (qV zD):=recC (qV zD) (Qw) (fun S h=>I9 S h)
theorem tZ:zw Tryz.prog (LZ YB):=
 okC Tryz.f84 (memC Tp (memC zl6 (memC nQ zH))) (fl:=Fu.n)
theorem zhd:zw Tryz.prog (KR XD):=zw.le (show zw Tryz.prog (KR (uT 80))from okC Tryz.f173 zH (fl:=Fu.n)) (zB7 _)
theorem xX(Rj:List za->Option (List za))(hs:zw Tryz.prog (BC Rj)):zw Tryz.prog (BC (wB Rj)):=
 okC Tryz.f132 (memC zhd (memC hs zH)) (cuts:=[(3,⟨[8],⟨[.int .i64],[(0, .sl 72)]⟩,[0,2,7],[],[0],0,[],⟨[],[(0, .sl 72)]⟩,[0]⟩)]) (fl:=Fu.n)
theorem uP:zw Tryz.prog (BC Rj):=recC (BC Rj) (wB) (fun S h=>xX S h)
theorem PI:zw Tryz.prog (OZ Jt):=
 okC Tryz.f86 (memC Tp (memC uP zH)) (fz:=[(12,[7]),(15,[5])]) (cuts:=[(9,⟨[7,8,24],⟨[.own 1328, .int .i64, .int .i64],[(1328, .sl 25)]⟩,[0,1,4,5,22,23],[],[],0,[7,8],⟨[.own 1328, .int .i64],[(1328, .sl 25)]⟩,[1328]⟩)]) (joins:=[(14,⟨[7,8,24],⟨[.own 1430, .int .i64, .int .i64],[(1430, .sl 25)]⟩,[],[],[],0,[],⟨[],[]⟩,[]⟩)]) (fl:=Fu.n)
theorem pY:zw Tryz.prog (IY Gt):=
 okC Tryz.f172 (memC Bp zH) (cuts:=[(1,⟨[0],⟨[.sl 72],[]⟩,[2],[],[],0,[0],⟨[.sl 72],[]⟩,[]⟩)]) (fl:=Fu.n)
theorem X0:zw Tryz.prog (XZ gm):=
 okC Tryz.f171 (memC Bp zH) (cuts:=[(1,⟨[0],⟨[.sl 72],[]⟩,[2],[],[],0,[0],⟨[.sl 72],[]⟩,[]⟩)]) (fl:=Fu.n)
theorem R6:zw Tryz.prog (M5 Ex):=
 okC Tryz.f133 zH (p:=1) (fl:=Fu.n)
theorem KI:zw Tryz.prog (EY Us):=
 okC Tryz.f87 (memC Tp (memC R6 (memC uP zH))) (cuts:=[(6,⟨[6],⟨[.int .i64],[]⟩,[1,2,3,5,7],[0],[],0,[6],⟨[.int .i64],[]⟩,[]⟩),(8,⟨[7],⟨[.int .i64],[]⟩,[1,2,3,5,6],[0],[],2,[7],⟨[.int .i64],[]⟩,[]⟩)]) (fl:=Fu.n)
theorem KP:zw Tryz.prog (pW Ow):=
 okC Tryz.f131 (memC pY (memC X0 (memC Bp (memC qD (memC Z7 (memC QO (memC xP (memC KI (memC SI zH))))))))) (joins:=[(7,⟨[0],⟨[.sl 72],[(0, .cells 27 [.str, .nilv, .bool]),(1, .cells 27 [.str, .nilv, .bool])]⟩,[2,4],[],[0,1],0,[],⟨[],[]⟩,[]⟩),(16,⟨[0],⟨[.sl 72],[(0, .cells 27 [.str, .nilv, .bool]),(1, .cells 27 [.str, .nilv, .bool])]⟩,[],[],[0,1],0,[],⟨[],[]⟩,[]⟩)]) (fl:=Fu.n) (exS:=⟨[.optr 0, .bool],[(0, .row 27)]⟩)
theorem KX:zw Tryz.prog (JW AA):=
 okC Tryz.f85 (memC PI (memC KP zH)) (fz:=[(10,[2])]) (cuts:=[(6,⟨[6,21],⟨[.own 1432, .int .i64],[(1432, .sl 27)]⟩,[2,3,19,20],[],[],0,[6],⟨[.own 1432],[(1432, .sl 27)]⟩,[1432]⟩)]) (joins:=[(11,⟨[6,21],⟨[.own 1534, .int .i64],[(1534, .sl 27)]⟩,[],[],[],0,[],⟨[],[]⟩,[]⟩)]) (fl:=Fu.n)
theorem D6:zw Tryz.prog (U4 FC):=
 okC Tryz.f49 (memC tZ (memC KX zH)) (fl:=Fu.n) (exS:=⟨[.optr 0, .bool],[(0, .row 34)]⟩)
theorem zdk:zw Tryz.prog (zdG QR):=
 okC Tryz.f157 (memC iQ zH) (p:=1) (cuts:=[(2,⟨[8],⟨[.int .i64],[]⟩,[0,1,7],[],[],0,[],⟨[],[]⟩,[]⟩)]) (fl:=Fu.n)
theorem zck:zw Tryz.prog (zcz Qi):=
 okC Tryz.f110 (memC zdk zH) (p:=1) (fl:=Fu.n)
theorem zl7:zw Tryz.prog (M9 rC):=
 okC Tryz.f73 (memC zck zH) (p:=1) (fl:=Fu.n)
theorem mZ:zw Tryz.prog (HZ XB):=
 okC Tryz.f88 (memC KI (memC zl7 zH)) (fz:=[(14,[3])]) (cuts:=[(6,⟨[5,24],⟨[.own 1536, .int .i64],[(1536, .sl 9)]⟩,[22,23],[],[],0,[5],⟨[.own 1536],[(1536, .sl 9)]⟩,[1536]⟩)]) (joins:=[(15,⟨[5,24],⟨[.own 1638, .int .i64],[(1638, .sl 9)]⟩,[],[],[],0,[],⟨[],[]⟩,[]⟩)]) (fl:=Fu.n)
theorem UQ:zw Tryz.prog (X4 Mx):=
 okC Tryz.f50 (memC PI (memC KI (memC mZ zH))) (fz:=[(16,[3])]) (cuts:=[(11,⟨[42],⟨[.int .i64],[(0, .cells 34 [.int .u8, .nilv, .nilv, .int .u8, .str, .int .i64, .str, .nilv, .bool, .nilv, .nilv, .nilv]),(1, .cells 34 [.int .u8, .nilv, .nilv, .int .u8, .str, .int .i64, .str, .nilv, .bool, .nilv, .own 1639, .nilv]),(1639, .sl 47)]⟩,[40,41],[],[0,1],0,[],⟨[],[(0, .cells 34 [.int .u8, .nilv, .nilv, .int .u8, .str, .int .i64, .str, .nilv, .bool, .nilv, .nilv, .nilv]),(1, .cells 34 [.int .u8, .nilv, .nilv, .int .u8, .str, .int .i64, .str, .nilv, .bool, .nilv, .own 1639, .nilv]),(1639, .sl 47)]⟩,[0,1,1639]⟩)]) (joins:=[(10,⟨[],⟨[],[(0, .cells 34 [.int .u8, .nilv, .nilv, .int .u8, .str, .int .i64, .str, .nilv, .bool, .nilv, .nilv, .nilv]),(1, .cells 34 [.int .u8, .nilv, .nilv, .int .u8, .str, .int .i64, .str, .nilv, .bool, .nilv, .nilv, .nilv])]⟩,[1,4,6,8],[],[0,1],0,[],⟨[],[]⟩,[]⟩)]) (fl:=Fu.n) (exS:=⟨[.optr 0, .bool],[(0, .row 34)]⟩)
theorem Qs:zw Tryz.prog (zjs Zn):=
 okC Tryz.f134 zH (p:=1) (fl:=Fu.n)
theorem Qt:zw Tryz.prog (zjt Zt):=
 okC Tryz.f135 zH (p:=1) (fl:=Fu.n) (exS:=⟨[.optr 1],[(0, .row 171),(1, .row 72)]⟩)
theorem QI:zw Tryz.prog (zhX zQ):=
 okC Tryz.f89 (memC Qs (memC Qt zH)) (p:=1) (cuts:=[(2,⟨[],⟨[],[(0, .row 171)]⟩,[0,2,3],[],[0],0,[],⟨[],[(0, .row 171)]⟩,[0]⟩)]) (fl:=Fu.n)
theorem jI:zw Tryz.prog (zjv qi):=
 okC Tryz.f136 (memC Qs (memC QO (memC Qt zH))) (p:=1) (cuts:=[(2,⟨[9],⟨[.int .i64],[(0, .row 171)]⟩,[0,7,8],[],[0],0,[],⟨[],[(0, .row 171)]⟩,[0]⟩)]) (fl:=Fu.n)
theorem zgE:zw Tryz.prog (zgM qL):=
 okC Tryz.f138 (memC Qs (memC Qt (memC QI (memC jI (memC QO (memC WQ zH)))))) (fz:=[(6,[1])]) (p:=1) (joins:=[(11,⟨[],⟨[],[(1, .cells 30 [.int .u8, .str, .int .i64, .str, .nilv, .bool, .nilv]),(2, .row 171),(3, .cells 30 [.int .u8, .str, .int .i64, .str, .nilv, .bool, .nilv])]⟩,[2,4,5],[0],[1,2,3],0,[],⟨[],[]⟩,[]⟩)]) (fl:=Fu.n) (exS:=⟨[.optr 1, .bool],[(0, .row 171),(1, .row 30)]⟩)
theorem zh8:zw Tryz.prog (ziD QZ):=
 okC Tryz.f90 (memC QI (memC jI (memC Qs (memC Qt (memC Z7 (memC XQ (memC zgE zH))))))) (fz:=[(3,[1]),(9,[4]),(13,[3]),(17,[1]),(23,[3]),(25,[1])]) (pre:=[(25,[(4,some 6)])]) (p:=1) (cuts:=[(15,⟨[],⟨[],[(0, .row 171),(1, .cells 30 [.int .u8, .str, .int .i64, .str, .nilv, .bool, .nilv]),(2, .cells 30 [.int .u8, .str, .int .i64, .str, .nilv, .bool, .own 1742]),(1742, .sl 30)]⟩,[],[],[0,1,2],0,[],⟨[],[(0, .row 171),(1, .cells 30 [.int .u8, .str, .int .i64, .str, .nilv, .bool, .nilv]),(2, .cells 30 [.int .u8, .str, .int .i64, .str, .nilv, .bool, .own 1742]),(1742, .sl 30)]⟩,[0,1,2,1742]⟩)]) (joins:=[(14,⟨[],⟨[],[(0, .row 171),(1, .cells 30 [.int .u8, .str, .int .i64, .str, .nilv, .bool, .nilv]),(2, .cells 30 [.int .u8, .str, .int .i64, .str, .nilv, .bool, .own 1640]),(1640, .sl 30)]⟩,[0,2,4,5],[],[0,1,2],0,[],⟨[],[]⟩,[]⟩),(26,⟨[],⟨[],[(1, .cells 30 [.int .u8, .str, .int .i64, .str, .nilv, .bool, .nilv]),(2, .cells 30 [.int .u8, .str, .int .i64, .str, .nilv, .bool, .sl 30])]⟩,[],[0],[1,2],0,[],⟨[],[]⟩,[]⟩)]) (fl:=Fu.n) (exS:=⟨[.optr 1, .bool],[(0, .row 171),(1, .row 30)]⟩)
theorem IQ:zw Tryz.prog (dZ xw):=
 okC Tryz.f51 (memC PI (memC QI (memC zh8 zH))) (fz:=[(17,[1]),(18,[1]),(19,[3])]) (cuts:=[(13,⟨[44],⟨[.int .i64],[(1, .cells 30 [.int .u8, .str, .int .i64, .str, .nilv, .bool, .own 1743]),(1743, .sl 30)]⟩,[7,42,43],[0],[1],0,[],⟨[],[(1, .cells 30 [.int .u8, .str, .int .i64, .str, .nilv, .bool, .own 1743]),(1743, .sl 30)]⟩,[1,1743]⟩)]) (joins:=[(9,⟨[],⟨[],[(0, .cells 30 [.int .u8, .str, .int .i64, .str, .nilv, .bool, .nilv])]⟩,[2,4],[],[0],0,[],⟨[],[]⟩,[]⟩),(19,⟨[],⟨[],[(1, .cells 30 [.int .u8, .str, .int .i64, .str, .nilv, .bool, .own 1743]),(1743, .sl 30),(1745, .row 30)]⟩,[10,44],[],[1,1743,1745],0,[],⟨[],[]⟩,[]⟩)]) (fl:=Fu.n) (exS:=⟨[.optr 0, .int .i64],[(0, .row 30)]⟩)
theorem eX:zw Tryz.prog (rW WA):=
 okC Tryz.f176 (memC Tp (memC KP zH)) (fl:=Fu.n) (exS:=⟨[.optr 0, .bool, .int .i64],[(0, .row 27)]⟩)
theorem ziX(Ze:zh->Option ((zt×Bool)×zh))(h_cond_reader_told:zw Tryz.prog (QF Ze)):zw Tryz.prog (zju (qh Ze)):=
 okC Tryz.f139 (memC Qs (memC Qt (memC eX (memC h_cond_reader_told zH)))) (p:=1) (fl:=Fu.n) (exS:=⟨[.optr 1, .bool],[(0, .row 171),(1, .row 30)]⟩)
theorem zi9(Ze:zh->Option ((zt×Bool)×zh))(hs:zw Tryz.prog (QF Ze)):zw Tryz.prog (QF (qz Ze)):=
 okC Tryz.f92 (memC QI (memC jI (memC (ziX Ze hs) zH))) (fz:=[(2,[1]),(6,[1]),(15,[5]),(23,[3])]) (p:=1) (cuts:=[(14,⟨[9],⟨[.bool],[(0, .row 171),(1, .cells 30 [.int .u8, .str, .int .i64, .str, .nilv, .bool, .nilv]),(5, .cells 30 [.int .u8, .str, .int .i64, .str, .nilv, .bool, .own 1744]),(1744, .sl 30)]⟩,[0,2,10],[],[0,1,5],0,[],⟨[],[(0, .row 171),(1, .cells 30 [.int .u8, .str, .int .i64, .str, .nilv, .bool, .nilv]),(5, .cells 30 [.int .u8, .str, .int .i64, .str, .nilv, .bool, .own 1744]),(1744, .sl 30)]⟩,[0,1,5,1744]⟩)]) (fl:=Fu.n) (exS:=⟨[.optr 1, .bool],[(0, .row 171),(1, .row 30)]⟩)
theorem ziY:zw Tryz.prog (QF Ze):=recC (QF Ze) (qz) (fun S h=>zi9 S h)
theorem oQ:zw Tryz.prog (V9 Yx):=
 okC Tryz.f52 (memC Tp (memC ziY (memC GR zH))) (fl:=Fu.n) (exS:=⟨[.optr 0, .int .i64],[(0, .row 30)]⟩)
theorem zgH:zw Tryz.prog (zgS YD):=
 okC Tryz.f37 (memC UQ (memC IQ (memC oQ zH))) (p:=1) (joins:=[(13,⟨[13],⟨[.bool],[(0, .row 52),(1, .cells 34 [.int .u8, .nilv, .nilv, .int .u8, .str, .int .i64, .str, .nilv, .bool, .nilv, .nilv, .nilv]),(2, .row 34)]⟩,[0,4,10,12],[],[0,1,2],0,[],⟨[],[]⟩,[]⟩)]) (fl:=Fu.n) (exS:=⟨[.optr 1, .bool],[(0, .row 52),(1, .row 34)]⟩)
theorem zib(zY:(List za×Bool)×zx->Option (List z8×zx))(h_sheet_parser_rules:zw Tryz.prog (Qe zY)):zw Tryz.prog (ziG (qQ zY)):=
 okC Tryz.f37 (memC D6 (memC UQ (memC IQ (memC oQ (memC h_sheet_parser_rules zH))))) (p:=1) (joins:=[(13,⟨[13],⟨[.bool],[(0, .row 52),(1, .cells 34 [.int .u8, .nilv, .nilv, .int .u8, .str, .int .i64, .str, .nilv, .bool, .nilv, .nilv, .nilv]),(2, .row 34)]⟩,[0,4,10,12],[],[0,1,2],0,[],⟨[],[]⟩,[]⟩),(18,⟨[],⟨[],[(0, .row 52),(1, .cells 34 [.int .u8, .nilv, .nilv, .int .u8, .str, .int .i64, .str, .nilv, .bool, .nilv, .nilv, .nilv]),(2, .row 34)]⟩,[],[],[0,1,2],0,[],⟨[],[]⟩,[]⟩)]) (fl:=Fu.n) (exS:=⟨[.optr 1, .bool],[(0, .row 52),(1, .row 34)]⟩)
theorem zhr(zY:(List za×Bool)×zx->Option (List z8×zx))(hs:zw Tryz.prog (Qe zY)):zw Tryz.prog (Qe (qb zY)):=
 okC Tryz.f22 (memC oZ (memC Z7 (memC l5 (memC (zib zY hs) (memC zgH zH))))) (fz:=[(10,[7]),(22,[2])]) (p:=1) (cuts:=[(2,⟨[1,7],⟨[.sl 72, .own 1745],[(0, .row 52),(1745, .sl 34)]⟩,[0,2,6],[],[0],0,[7],⟨[.own 1745],[(0, .row 52),(1745, .sl 34)]⟩,[0,1745]⟩)]) (joins:=[(8,⟨[1,7],⟨[.sl 72, .own 1745],[(0, .row 52),(1745, .sl 34)]⟩,[8],[],[0,1745],0,[],⟨[],[]⟩,[]⟩),(12,⟨[1,7,9,10],⟨[.sl 72, .own 1745, .str, .own 1848],[(0, .row 52),(1745, .sl 34),(1848, .sl 5)]⟩,[],[],[0,1745],0,[],⟨[],[]⟩,[]⟩),(19,⟨[1,7],⟨[.sl 72, .own 1745],[(0, .row 52),(1745, .sl 34)]⟩,[9,11,12],[],[0,1745],0,[],⟨[],[]⟩,[]⟩)]) (fl:=Fu.n)
theorem FR:zw Tryz.prog (Qe zY):=recC (Qe zY) (qb) (fun S h=>zhr S h)
theorem FQ:zw Tryz.prog (GZ WB):=
 okC Tryz.f10 (memC dI (memC EH (memC FR zH))) (fl:=Fu.n)
theorem sZ:zw Tryz.prog (KZ Pt):=
 okC Tryz.f6 (memC FQ zH) (fl:=Fu.n) (exS:=⟨[.optr 0, .int .i64],[(0, .row 39)]⟩)
theorem fQ:zw Tryz.prog (G7 KC):=
 okC Tryz.f10 (memC dI (memC EH (memC FR zH))) (fl:=Fu.n)
theorem V8:zw Tryz.prog (M7 Rx):=
 okC Tryz.f6 (memC fQ zH) (fl:=Fu.n) (exS:=⟨[.optr 0, .int .i64],[(0, .row 39)]⟩)
theorem aI:zw Tryz.prog (K7 wm):=
 zw.told (I:=I) (P:=Tryz.prog) (Fn:=fun b:Bool=>cond b Pt Rx) true (fun b=>match b with|true=>sZ|false=>V8) (fun x y h=>by
  unfold wm at h;exact alt2 (A:=Pt) (B:=Rx) h)
theorem U6:zw Tryz.prog (J3 CP):=
 okC Tryz.f9 (memC aI (memC J6 zH)) (cuts:=[(5,⟨[7],⟨[.int .i64],[]⟩,[1,5],[0],[],0,[],⟨[],[]⟩,[]⟩)]) (fl:=Fu.n)
theorem V6:zw Tryz.prog (K3 Np):=
 okC Tryz.f4 (memC aI (memC U6 zH)) (fz:=[(3,[4])]) (fl:=Fu.n)
theorem rZ:zw Tryz.prog (JZ Ot):=
 okC Tryz.f5 (memC FQ zH) (fl:=Fu.n) (exS:=⟨[.optr 0, .int .i64],[(0, .row 34)]⟩)
theorem U8:zw Tryz.prog (J7 Px):=
 okC Tryz.f5 (memC fQ zH) (fl:=Fu.n) (exS:=⟨[.optr 0, .int .i64],[(0, .row 34)]⟩)
theorem R8:zw Tryz.prog (I7 qG):=
 zw.told (I:=I) (P:=Tryz.prog) (Fn:=fun b:Bool=>cond b Ot Px) true (fun b=>match b with|true=>rZ|false=>U8) (fun x y h=>by
  unfold qG at h;exact alt2 (A:=Ot) (B:=Px) h)
theorem l8:zw Tryz.prog (R7 OC):=
 okC Tryz.f53 zH (fl:=Fu.n) (exS:=⟨[.optr 0],[(0, .row 136)]⟩)
theorem zh9(ZP:List zq×List zq->Option Bool)(h_ref08_Same:zw Tryz.prog (yt ZP)):zw Tryz.prog (ziE (dD ZP)):=
 okC Tryz.f38 (memC l8 (memC h_ref08_Same zH)) (cuts:=[(4,⟨[5],⟨[.int .i64],[]⟩,[0,1],[],[],0,[],⟨[],[]⟩,[]⟩)]) (fl:=Fu.n)
theorem M6(ZP:List zq×List zq->Option Bool)(h_ref08_Same:zw Tryz.prog (yt ZP)):zw Tryz.prog (H5 (JC ZP)):=
 okC Tryz.f23 (memC (zh9 ZP h_ref08_Same) zH) (cuts:=[(4,⟨[5],⟨[.int .i64],[]⟩,[2,3],[0,1],[],0,[],⟨[],[]⟩,[]⟩)]) (fl:=Fu.n)
theorem EZ(ZP:List zq×List zq->Option Bool)(hs:zw Tryz.prog (yt ZP)):zw Tryz.prog (yt (SC ZP)):=
 okC Tryz.f11 (memC (M6 ZP hs) zH) (cuts:=[(4,⟨[5],⟨[.int .i64],[]⟩,[0,1],[],[],0,[],⟨[],[]⟩,[]⟩)]) (fl:=Fu.n)
theorem wZ:zw Tryz.prog (yt ZP):=recC (yt ZP) (SC) (fun S h=>EZ S h)
theorem FZ(Ul:List za×List za->Option Bool)(hs:zw Tryz.prog (lC Ul)):zw Tryz.prog (lC (UC Ul)):=
 okC Tryz.f39 (memC hs zH) (cuts:=[(4,⟨[5],⟨[.int .i64],[]⟩,[0,1],[],[],0,[],⟨[],[]⟩,[]⟩)]) (fl:=Fu.n)
theorem yZ:zw Tryz.prog (lC Ul):=recC (lC Ul) (UC) (fun S h=>FZ S h)
theorem VQ:zw Tryz.prog (I5 Ut):=
 okC Tryz.f24 (memC yZ zH) (fl:=Fu.n)
theorem xZ:zw Tryz.prog (NZ kw):=
 okC Tryz.f12 (memC VQ zH) (cuts:=[(4,⟨[5],⟨[.int .i64],[]⟩,[0,1],[],[],0,[],⟨[],[]⟩,[]⟩)]) (fl:=Fu.n)
theorem DZ(Ak:zt×zt->Option Bool)(hs:zw Tryz.prog (kC Ak)):zw Tryz.prog (kC (NC Ak)):=
 okC Tryz.f13 (memC VQ (memC hs zH)) (cuts:=[(4,⟨[5],⟨[.int .i64],[]⟩,[2,3],[0,1],[],0,[],⟨[],[]⟩,[]⟩)]) (fl:=Fu.n)
theorem vZ:zw Tryz.prog (kC Ak):=recC (kC Ak) (NC) (fun S h=>DZ S h)
theorem zke:zw Tryz.prog (zkG yx):=
 okC Tryz.f14 zH (cuts:=[(4,⟨[5],⟨[.int .i64],[]⟩,[0,1],[],[],0,[],⟨[],[]⟩,[]⟩),(9,⟨[6],⟨[.int .i64],[]⟩,[5],[],[],2,[],⟨[],[]⟩,[]⟩)]) (fl:=Fu.n)
theorem uZ(ZV:z8×z8->Option Bool)(h_ref11_Same1:zw Tryz.prog (ax ZV)):zw Tryz.prog (MZ (jw ZV)):=
 okC Tryz.f15 (memC h_ref11_Same1 zH) (cuts:=[(4,⟨[5],⟨[.int .i64],[]⟩,[0,1],[],[],0,[],⟨[],[]⟩,[]⟩)]) (fl:=Fu.n)
theorem V5(ZV:z8×z8->Option Bool)(hs:zw Tryz.prog (ax ZV)):zw Tryz.prog (ax (vC ZV)):=
 okC Tryz.f7 (memC wZ (memC xZ (memC vZ (memC zke (memC (uZ ZV hs) zH))))) (fl:=Fu.n)
theorem L6:zw Tryz.prog (ax ZV):=recC (ax ZV) (vC) (fun S h=>V5 S h)
theorem zki:zw Tryz.prog (zkJ VD):=
 okC Tryz.f29 zH (fz:=[(1,[4])]) (p:=2) (fl:=Fu.n)
theorem N8:zw Tryz.prog (u6 EI):=
 okC Tryz.f27 (memC FH (memC YR (memC DR (memC zki zH)))) (p:=1) (cuts:=[(7,⟨[7],⟨[.int .i64],[(0, .cells 63 [.own 1849]),(1849, .sl 68),(1, .row 121)]⟩,[0,1,6],[],[0,1],0,[],⟨[],[(0, .cells 63 [.own 1849]),(1849, .sl 68),(1, .row 121)]⟩,[0,1,1849]⟩)]) (fl:=Fu.n)
theorem Y5:zw Tryz.prog (O4 jB):=
 okC Tryz.f18 (memC N8 zH) (fl:=Fu.n)
theorem A9:zw Tryz.prog (U7 VC):=
 okC Tryz.f32 zH (joins:=[(6,⟨[6],⟨[.bool],[]⟩,[3],[],[],0,[],⟨[],[]⟩,[]⟩)]) (fl:=Fu.n)
theorem Y6(QJ:List za->Option (List zk))(hs:zw Tryz.prog (GD QJ)):zw Tryz.prog (GD (BD QJ)):=
 okC Tryz.f20 (memC A9 (memC hs zH)) (fz:=[(5,[6]),(9,[3])]) (cuts:=[(3,⟨[3,4],⟨[.own 1850, .int .i64],[(1850, .sl 70)]⟩,[0,2],[],[],0,[3],⟨[.own 1850],[(1850, .sl 70)]⟩,[1850]⟩)]) (joins:=[(4,⟨[3,4],⟨[.own 1952, .int .i64],[(1952, .sl 70)]⟩,[],[],[],0,[],⟨[],[]⟩,[]⟩)]) (fl:=Fu.n)
theorem p8:zw Tryz.prog (GD QJ):=recC (GD QJ) (BD) (fun S h=>Y6 S h)
theorem C9:zw Tryz.prog (V7 XC):=
 okC Tryz.f8 (memC FH (memC dI (memC Y5 (memC EH (memC p8 zH))))) (fl:=Fu.n)
theorem zk7:zw Tryz.prog (rQ DD):=
 okC Tryz.f3 (memC (@V6 fuK) (memC R8 (memC aI (memC L6 (memC C9 zH))))) (fl:=Fu.n)
end Go.Lv.VT
