/- Contracts. -/
import Derived.Test.YtagibnnojbolnaaGreatDoorCoa
set_option linter.unusedSimpArgs false
set_option linter.unusedVariables false
namespace Go.Lv.VT
set_option maxRecDepth 100000
open Go.Proofs
variable [Fu]
theorem KT:CO (zrC Tz):=
 okC Tryz.f323 zA (fz:=[(1,[0])])
theorem zsS:CO (zt6 yE):=
 okC Tryz.f298 (memC qc (memC KT (memC lL zA))) (exS:=⟨[.optr 0, .bool],[(0, .row 127)]⟩)
theorem zqK:CO (zrD xK):=
 okC Tryz.f338 (memC Ur zA)
theorem zgj:CO (zgF QG):=
 okC Tryz.f91 (memC zqK zA) (cuts:=[(2,⟨[8],⟨[.int .i64],[]⟩,[0,1,7],[],[],0,[],⟨[],[]⟩,[]⟩)])
theorem kT:CO (zmk Qg):=
 okC Tryz.f346 zA (p:=1) (cuts:=[(0,⟨[],⟨[],[(0, .row 376)]⟩,[0],[],[0],0,[],⟨[],[(0, .row 376)]⟩,[0]⟩)])
theorem gT:CO (zoK Vv):=
 okC Tryz.f349 zA (p:=1) (exS:=⟨[.optr 1, .bool],[(0, .row 376),(1, .row 102)]⟩)
theorem eT:CO (zne gz):=
 okC Tryz.f348 (memC gT zA) (p:=1)
theorem zh9:CO (ziF stringslite_CutPrefix):=
 okC Tryz.f353 (memC yL zA)
theorem jT:CO (zmt strings_CutPrefix):=
 okC Tryz.f350 (memC zh9 zA)
theorem iT:CO (zoJ rz):=
 okC Tryz.f352 (memC eD zA) (p:=1)
theorem zlw:CO (zmj AA):=
 okC Tryz.f351 (memC jT (memC zJ5 (memC zE8 (memC kT (memC iT (memC eT zA)))))) (p:=1) (joins:=[(15,⟨[9],⟨[.int .i64],[]⟩,[],[0],[],0,[],⟨[],[]⟩,[]⟩),(16,⟨[6],⟨[.int .i64],[(0, .row 376)]⟩,[0],[],[0],0,[],⟨[],[]⟩,[]⟩)])
theorem znZ:CO (zoI kG):=
 okC Tryz.f347 (memC eT (memC gT (memC qc (memC jT (memC zlw (memC iT zA)))))) (p:=1) (joins:=[(25,⟨[15,16],⟨[.str, .int .i64],[(0, .row 376),(1, .row 125)]⟩,[0,2],[],[0,1],0,[],⟨[],[]⟩,[]⟩)]) (exS:=⟨[.optr 1, .bool],[(0, .row 376),(1, .row 125)]⟩)
theorem zHv:CO (zIZ OI):=
 okC Tryz.f339 (memC kT (memC znZ (memC vQ zA))) (exS:=⟨[.optr 0, .int .i64],[(0, .row 125)]⟩)
theorem zuS(zK:List zb×zh×Bool×Bool->Option (List zm×Bool))(h_seltext_parts:CO (Qy zK)):CO (zw1 (Cr zK)):=
 okC Tryz.f324 (memC zgj (memC gL (memC h_seltext_parts (memC tQ (memC zHv zA))))) (joins:=[(8,⟨[1],⟨[.sl 106],[(0, .row 127),(2, .cells 127 [.int .u8, .str, .int .u8, .str, .bool, .int .i64, .int .i64, .bool, .nilv])]⟩,[3,6],[],[0,2],0,[],⟨[],[]⟩,[]⟩)]) (exS:=⟨[.optr 0, .bool],[(0, .row 127)]⟩)
theorem zmO(zK:List zb×zh×Bool×Bool->Option (List zm×Bool))(h_seltext_parts:CO (Qy zK)):CO (znl (QL zK)):=
 okC Tryz.f299 (memC KT (memC qc (memC lL (memC (zuS zK h_seltext_parts) (memC gL (memC h_seltext_parts zA)))))) (exS:=⟨[.optr 0, .bool],[(0, .row 127)]⟩)
theorem zhB(zK:List zb×zh×Bool×Bool->Option (List zm×Bool))(h_seltext_parts:CO (Qy zK)):CO (zhN (Z5 zK)):=
 okC Tryz.f278 (memC Qf (memC zjP (memC zsR (memC zsS (memC (zmO zK h_seltext_parts) zA))))) (fz:=[(24,[2])]) (p:=1) (cuts:=[(2,⟨[6],⟨[.own 1323],[(0, .row 311),(1323, .sl 127)]⟩,[0,3],[1],[0],0,[],⟨[],[]⟩,[]⟩)]) (joins:=[(21,⟨[8],⟨[.bool],[(0, .row 311),(1324, .row 127)]⟩,[6,7],[1323],[0,1324],0,[],⟨[],[]⟩,[]⟩),(22,⟨[6,8],⟨[.own 1323, .bool],[(0, .row 311),(1323, .sl 127),(1324, .row 127)]⟩,[7],[],[0,1323,1324],0,[],⟨[],[]⟩,[]⟩)])
theorem zlD(zK:List zb×zh×Bool×Bool->Option (List zm×Bool))(h_seltext_parts:CO (Qy zK)):CO (zmr (Ql zK)):=
 okC Tryz.f237 (memC BM (memC zjO (memC Qf (memC qc (memC nL (memC (zhB zK h_seltext_parts) (memC (bT zB yS) (memC AU zA)))))))) (fz:=[(19,[3]),(27,[3])]) (cuts:=[(8,⟨[],⟨[],[(1, .cells 118 [.int .u8, .nilv, .nilv]),(2, .row 311),(3, .cells 118 [.int .u8, .own 1324, .own 1325]),(1324, .sl 122),(1325, .sl 5)]⟩,[],[],[1,2,3],0,[],⟨[],[(1, .cells 118 [.int .u8, .nilv, .nilv]),(2, .row 311),(3, .cells 118 [.int .u8, .own 1326, .own 1325]),(1326, .sl 122),(1325, .sl 5)]⟩,[1,2,3,1325]⟩)]) (joins:=[(8,⟨[],⟨[],[(1, .cells 118 [.int .u8, .nilv, .nilv]),(2, .row 311),(3, .cells 118 [.int .u8, .nilv, .nilv])]⟩,[4,6,8,9],[0],[1,2,3],0,[],⟨[],[]⟩,[]⟩),(15,⟨[],⟨[],[(1, .cells 118 [.int .u8, .nilv, .nilv]),(2, .row 311),(3, .cells 118 [.int .u8, .own 1324, .own 1325]),(1324, .sl 122),(1325, .sl 5),(1326, .cells 122 [.str, .nilv])]⟩,[10],[],[1,2,3,1324,1325,1326],0,[],⟨[],[]⟩,[]⟩),(27,⟨[14],⟨[.int .u8],[(1, .cells 118 [.int .u8, .nilv, .nilv]),(3, .cells 118 [.int .u8, .own 1328, .own 1325]),(1328, .sl 122),(1325, .sl 5)]⟩,[],[2,1326],[1,3,1325,1328],0,[],⟨[],[]⟩,[]⟩)]) (exS:=⟨[.optr 0, .bool],[(0, .row 118)]⟩)
theorem zqV(zK:List zb×zh×Bool×Bool->Option (List zm×Bool))(hs:CO (Qy zK)):CO (Qy (Q9 zK)):=
 okC Tryz.f197 (memC (zlD zK hs) zA) (fz:=[(9,[2])]) (cuts:=[(4,⟨[10,11,18],⟨[.own 1219, .int .i64, .int .i64],[(1219, .sl 118)]⟩,[0,2,3,5,17],[0],[],0,[10],⟨[.own 1219],[(1219, .sl 118)]⟩,[1219]⟩)]) (joins:=[(12,⟨[10],⟨[.own 1321],[(1321, .sl 118)]⟩,[12,18],[],[],0,[],⟨[],[]⟩,[]⟩),(13,⟨[10,11,18],⟨[.own 1322, .int .i64, .int .i64],[(1322, .sl 118)]⟩,[],[],[],0,[],⟨[],[]⟩,[]⟩)])
theorem zqL:CO (Qy zK):=recC (Qy zK) (Q9) (fun S h=>zqV S h)
theorem K5:CO (I1 mD):=
 okC Tryz.f150 (memC Jr (memC zqL (memC OT zA)))
theorem zkt:CO (nT VH):=ZL.le (show CO (nT (Nw 80))from okC Tryz.f240 zA) (BD _)
theorem zBw(Hl:List zb->Option (List zb))(hs:CO (YE Hl)):CO (YE (VE Hl)):=
 okC Tryz.f199 (memC zkt (memC hs zA)) (cuts:=[(3,⟨[8],⟨[.int .i64],[(0, .sl 106)]⟩,[0,2,7],[],[0],0,[],⟨[],[(0, .sl 106)]⟩,[0]⟩)])
theorem rQ:CO (YE Hl):=recC (YE Hl) (VE) (fun S h=>zBw S h)
theorem DL:CO (V3 xq):=
 okC Tryz.f152 (memC Jr (memC rQ zA)) (fz:=[(12,[7]),(15,[5])]) (cuts:=[(9,⟨[7,8,24],⟨[.own 1328, .int .i64, .int .i64],[(1328, .sl 71)]⟩,[0,1,4,5,22,23],[],[],0,[7,8],⟨[.own 1328, .int .i64],[(1328, .sl 71)]⟩,[1328]⟩)]) (joins:=[(14,⟨[7,8,24],⟨[.own 1430, .int .i64, .int .i64],[(1430, .sl 71)]⟩,[],[],[],0,[],⟨[],[]⟩,[]⟩)])
theorem zA0:CO (zBQ Tu):=
 okC Tryz.f239 (memC tq zA) (cuts:=[(1,⟨[0],⟨[.sl 106],[]⟩,[2],[],[],0,[0],⟨[.sl 106],[]⟩,[]⟩)])
theorem Y8:CO (R4 mo):=
 okC Tryz.f238 (memC tq zA) (cuts:=[(1,⟨[0],⟨[.sl 106],[]⟩,[2],[],[],0,[0],⟨[.sl 106],[]⟩,[]⟩)])
theorem zuv:CO (L9 Bz):=
 okC Tryz.f200 zA (p:=1)
theorem nK:CO (zBV Xu):=
 okC Tryz.f153 (memC Jr (memC zuv (memC rQ zA))) (cuts:=[(6,⟨[6],⟨[.int .i64],[]⟩,[1,2,3,5,7],[0],[],0,[6],⟨[.int .i64],[]⟩,[]⟩),(8,⟨[7],⟨[.int .i64],[]⟩,[1,2,3,5,6],[0],[],2,[7],⟨[.int .i64],[]⟩,[]⟩)])
theorem WQ:CO (zEw Ex):=
 okC Tryz.f198 (memC zA0 (memC Y8 (memC tq (memC qY (memC qc (memC Ur (memC uQ (memC nK (memC GL zA))))))))) (joins:=[(7,⟨[0],⟨[.sl 106],[(0, .cells 80 [.str, .nilv, .bool]),(1, .cells 80 [.str, .nilv, .bool])]⟩,[2,4],[],[0,1],0,[],⟨[],[]⟩,[]⟩),(16,⟨[0],⟨[.sl 106],[(0, .cells 80 [.str, .nilv, .bool]),(1, .cells 80 [.str, .nilv, .bool])]⟩,[],[],[0,1],0,[],⟨[],[]⟩,[]⟩)]) (exS:=⟨[.optr 0, .bool],[(0, .row 80)]⟩)
theorem zE6:CO (zFH dB):=
 okC Tryz.f151 (memC DL (memC WQ zA)) (fz:=[(10,[2])]) (cuts:=[(6,⟨[6,21],⟨[.own 1432, .int .i64],[(1432, .sl 80)]⟩,[2,3,19,20],[],[],0,[6],⟨[.own 1432],[(1432, .sl 80)]⟩,[1432]⟩)]) (joins:=[(11,⟨[6,21],⟨[.own 1534, .int .i64],[(1534, .sl 80)]⟩,[],[],[],0,[],⟨[],[]⟩,[]⟩)])
theorem zuY:CO (zw7 ay):=
 okC Tryz.f94 (memC K5 (memC zE6 zA)) (exS:=⟨[.optr 0, .bool],[(0, .row 86)]⟩)
theorem zfx:CO (zfQ GM):=
 okC Tryz.f171 (memC xS zA) (p:=1) (cuts:=[(2,⟨[8],⟨[.int .i64],[]⟩,[0,1,7],[],[],0,[],⟨[],[]⟩,[]⟩)])
theorem zd9:CO (zeK qL):=
 okC Tryz.f112 (memC zfx zA) (p:=1)
theorem zqM:CO (zrG vF):=
 okC Tryz.f78 (memC zd9 zA) (p:=1)
theorem G5:CO (U0 lD):=
 okC Tryz.f154 (memC nK (memC zqM zA)) (fz:=[(14,[3])]) (cuts:=[(6,⟨[5,24],⟨[.own 1536, .int .i64],[(1536, .sl 9)]⟩,[22,23],[],[],0,[5],⟨[.own 1536],[(1536, .sl 9)]⟩,[1536]⟩)]) (joins:=[(15,⟨[5,24],⟨[.own 1638, .int .i64],[(1638, .sl 9)]⟩,[],[],[],0,[],⟨[],[]⟩,[]⟩)])
theorem VS:CO (zw5 Br):=
 okC Tryz.f95 (memC DL (memC nK (memC G5 zA))) (fz:=[(16,[3])]) (cuts:=[(11,⟨[42],⟨[.int .i64],[(0, .cells 86 [.int .u8, .nilv, .nilv, .int .u8, .str, .int .i64, .str, .nilv, .bool, .nilv, .nilv, .nilv]),(1, .cells 86 [.int .u8, .nilv, .nilv, .int .u8, .str, .int .i64, .str, .nilv, .bool, .nilv, .own 1639, .nilv]),(1639, .sl 90)]⟩,[40,41],[],[0,1],0,[],⟨[],[(0, .cells 86 [.int .u8, .nilv, .nilv, .int .u8, .str, .int .i64, .str, .nilv, .bool, .nilv, .nilv, .nilv]),(1, .cells 86 [.int .u8, .nilv, .nilv, .int .u8, .str, .int .i64, .str, .nilv, .bool, .nilv, .own 1639, .nilv]),(1639, .sl 90)]⟩,[0,1,1639]⟩)]) (joins:=[(10,⟨[],⟨[],[(0, .cells 86 [.int .u8, .nilv, .nilv, .int .u8, .str, .int .i64, .str, .nilv, .bool, .nilv, .nilv, .nilv]),(1, .cells 86 [.int .u8, .nilv, .nilv, .int .u8, .str, .int .i64, .str, .nilv, .bool, .nilv, .nilv, .nilv])]⟩,[1,4,6,8],[],[0,1],0,[],⟨[],[]⟩,[]⟩)]) (exS:=⟨[.optr 0, .bool],[(0, .row 86)]⟩)
theorem Q5:CO (znf ZY):=
 okC Tryz.f201 zA (p:=1)
theorem Q6:CO (zng ZZ):=
 okC Tryz.f202 zA (p:=1) (exS:=⟨[.optr 1],[(0, .row 205),(1, .row 106)]⟩)
theorem fH:CO (zlo Zg):=
 okC Tryz.f155 (memC Q5 (memC Q6 zA)) (p:=1) (cuts:=[(2,⟨[],⟨[],[(0, .row 205)]⟩,[0,2,3],[],[0],0,[],⟨[],[(0, .row 205)]⟩,[0]⟩)])
theorem iL:CO (zni Qc):=
 okC Tryz.f203 (memC Q5 (memC Ur (memC Q6 zA))) (p:=1) (cuts:=[(2,⟨[9],⟨[.int .i64],[(0, .row 205)]⟩,[0,7,8],[],[0],0,[],⟨[],[(0, .row 205)]⟩,[0]⟩)])
theorem zjN:CO (zjY Q0):=
 okC Tryz.f205 (memC Q5 (memC Q6 (memC fH (memC iL (memC Ur (memC rR zA)))))) (fz:=[(6,[1])]) (p:=1) (joins:=[(11,⟨[],⟨[],[(1, .cells 83 [.int .u8, .str, .int .i64, .str, .nilv, .bool, .nilv]),(2, .row 205),(3, .cells 83 [.int .u8, .str, .int .i64, .str, .nilv, .bool, .nilv])]⟩,[2,4,5],[0],[1,2,3],0,[],⟨[],[]⟩,[]⟩)]) (exS:=⟨[.optr 1, .bool],[(0, .row 205),(1, .row 83)]⟩)
theorem zly:CO (zmm PH):=
 okC Tryz.f156 (memC fH (memC iL (memC Q5 (memC Q6 (memC qc (memC uR (memC zjN zA))))))) (fz:=[(3,[1]),(9,[4]),(13,[3]),(17,[1]),(23,[3]),(25,[1])]) (pre:=[(25,[(4,some 6)])]) (p:=1) (cuts:=[(15,⟨[],⟨[],[(0, .row 205),(1, .cells 83 [.int .u8, .str, .int .i64, .str, .nilv, .bool, .nilv]),(2, .cells 83 [.int .u8, .str, .int .i64, .str, .nilv, .bool, .own 1742]),(1742, .sl 83)]⟩,[],[],[0,1,2],0,[],⟨[],[(0, .row 205),(1, .cells 83 [.int .u8, .str, .int .i64, .str, .nilv, .bool, .nilv]),(2, .cells 83 [.int .u8, .str, .int .i64, .str, .nilv, .bool, .own 1742]),(1742, .sl 83)]⟩,[0,1,2,1742]⟩)]) (joins:=[(14,⟨[],⟨[],[(0, .row 205),(1, .cells 83 [.int .u8, .str, .int .i64, .str, .nilv, .bool, .nilv]),(2, .cells 83 [.int .u8, .str, .int .i64, .str, .nilv, .bool, .own 1640]),(1640, .sl 83)]⟩,[0,2,4,5],[],[0,1,2],0,[],⟨[],[]⟩,[]⟩),(26,⟨[],⟨[],[(1, .cells 83 [.int .u8, .str, .int .i64, .str, .nilv, .bool, .nilv]),(2, .cells 83 [.int .u8, .str, .int .i64, .str, .nilv, .bool, .sl 83])]⟩,[],[0],[1,2],0,[],⟨[],[]⟩,[]⟩)]) (exS:=⟨[.optr 1, .bool],[(0, .row 205),(1, .row 83)]⟩)
theorem WR:CO (vZ rq):=
 okC Tryz.f96 (memC DL (memC fH (memC zly zA))) (fz:=[(17,[1]),(18,[1]),(19,[3])]) (cuts:=[(13,⟨[44],⟨[.int .i64],[(1, .cells 83 [.int .u8, .str, .int .i64, .str, .nilv, .bool, .own 1743]),(1743, .sl 83)]⟩,[7,42,43],[0],[1],0,[],⟨[],[(1, .cells 83 [.int .u8, .str, .int .i64, .str, .nilv, .bool, .own 1743]),(1743, .sl 83)]⟩,[1,1743]⟩)]) (joins:=[(9,⟨[],⟨[],[(0, .cells 83 [.int .u8, .str, .int .i64, .str, .nilv, .bool, .nilv])]⟩,[2,4],[],[0],0,[],⟨[],[]⟩,[]⟩),(19,⟨[],⟨[],[(1, .cells 83 [.int .u8, .str, .int .i64, .str, .nilv, .bool, .own 1743]),(1743, .sl 83),(1745, .row 83)]⟩,[10,44],[],[1,1743,1745],0,[],⟨[],[]⟩,[]⟩)]) (exS:=⟨[.optr 0, .int .i64],[(0, .row 83)]⟩)
theorem zCz:CO (zEv vC):=
 okC Tryz.f242 (memC Jr (memC WQ zA)) (exS:=⟨[.optr 0, .bool, .int .i64],[(0, .row 80)]⟩)
theorem zmL(Zl:zx->Option ((zu×Bool)×zx))(h_cond_reader_told:CO (vz Zl)):CO (znh (qz Zl)):=
 okC Tryz.f206 (memC Q5 (memC Q6 (memC zCz (memC h_cond_reader_told zA)))) (p:=1) (exS:=⟨[.optr 1, .bool],[(0, .row 205),(1, .row 83)]⟩)
theorem zmX(Zl:zx->Option ((zu×Bool)×zx))(hs:CO (vz Zl)):CO (vz (qO Zl)):=
 okC Tryz.f157 (memC fH (memC iL (memC (zmL Zl hs) zA))) (fz:=[(2,[1]),(6,[1]),(15,[5]),(23,[3])]) (p:=1) (cuts:=[(14,⟨[9],⟨[.bool],[(0, .row 205),(1, .cells 83 [.int .u8, .str, .int .i64, .str, .nilv, .bool, .nilv]),(5, .cells 83 [.int .u8, .str, .int .i64, .str, .nilv, .bool, .own 1744]),(1744, .sl 83)]⟩,[0,2,10],[],[0,1,5],0,[],⟨[],[(0, .row 205),(1, .cells 83 [.int .u8, .str, .int .i64, .str, .nilv, .bool, .nilv]),(5, .cells 83 [.int .u8, .str, .int .i64, .str, .nilv, .bool, .own 1744]),(1744, .sl 83)]⟩,[0,1,5,1744]⟩)]) (exS:=⟨[.optr 1, .bool],[(0, .row 205),(1, .row 83)]⟩)
theorem zmM:CO (vz Zl):=recC (vz Zl) (qO) (fun S h=>zmX S h)
theorem PT:CO (zru Kr):=
 okC Tryz.f97 (memC Jr (memC zmM (memC uT zA))) (exS:=⟨[.optr 0, .int .i64],[(0, .row 83)]⟩)
theorem zjQ:CO (zj4 wz):=
 okC Tryz.f55 (memC VS (memC WR (memC PT zA))) (p:=1) (joins:=[(13,⟨[13],⟨[.bool],[(0, .row 75),(1, .cells 86 [.int .u8, .nilv, .nilv, .int .u8, .str, .int .i64, .str, .nilv, .bool, .nilv, .nilv, .nilv]),(2, .row 86)]⟩,[0,4,10,12],[],[0,1,2],0,[],⟨[],[]⟩,[]⟩)]) (exS:=⟨[.optr 1, .bool],[(0, .row 75),(1, .row 86)]⟩)
theorem zlE(Ze:(List zb×Bool)×zt->Option (List zN×zt))(h_sheet_parser_rules:CO (QO Ze)):CO (zms (qG Ze)):=
 okC Tryz.f55 (memC zuY (memC VS (memC WR (memC PT (memC h_sheet_parser_rules zA))))) (p:=1) (joins:=[(13,⟨[13],⟨[.bool],[(0, .row 75),(1, .cells 86 [.int .u8, .nilv, .nilv, .int .u8, .str, .int .i64, .str, .nilv, .bool, .nilv, .nilv, .nilv]),(2, .row 86)]⟩,[0,4,10,12],[],[0,1,2],0,[],⟨[],[]⟩,[]⟩),(18,⟨[],⟨[],[(0, .row 75),(1, .cells 86 [.int .u8, .nilv, .nilv, .int .u8, .str, .int .i64, .str, .nilv, .bool, .nilv, .nilv, .nilv]),(2, .row 86)]⟩,[],[],[0,1,2],0,[],⟨[],[]⟩,[]⟩)]) (exS:=⟨[.optr 1, .bool],[(0, .row 75),(1, .row 86)]⟩)
theorem zkP(Ze:(List zb×Bool)×zt->Option (List zN×zt))(hs:CO (QO Ze)):CO (QO (ql Ze)):=
 okC Tryz.f36 (memC I5 (memC qc (memC zuZ (memC (zlE Ze hs) (memC zjQ zA))))) (fz:=[(10,[7]),(22,[2])]) (p:=1) (cuts:=[(2,⟨[1,7],⟨[.sl 106, .own 1745],[(0, .row 75),(1745, .sl 86)]⟩,[0,2,6],[],[0],0,[7],⟨[.own 1745],[(0, .row 75),(1745, .sl 86)]⟩,[0,1745]⟩)]) (joins:=[(8,⟨[1,7],⟨[.sl 106, .own 1745],[(0, .row 75),(1745, .sl 86)]⟩,[8],[],[0,1745],0,[],⟨[],[]⟩,[]⟩),(12,⟨[1,7,9,10],⟨[.sl 106, .own 1745, .str, .own 1848],[(0, .row 75),(1745, .sl 86),(1848, .sl 5)]⟩,[],[],[0,1745],0,[],⟨[],[]⟩,[]⟩),(19,⟨[1,7],⟨[.sl 106, .own 1745],[(0, .row 75),(1745, .sl 86)]⟩,[9,11,12],[],[0,1745],0,[],⟨[],[]⟩,[]⟩)])
theorem tT:CO (QO Ze):=recC (QO Ze) (ql) (fun S h=>zkP S h)
theorem E5:CO (O0 kD):=
 okC Tryz.f25 (memC YS (memC rZ (memC tT zA)))
theorem J5:CO (Y0 oq):=
 okC Tryz.f16 (memC E5 zA) (exS:=⟨[.optr 0, .int .i64],[(0, .row 35)]⟩)
theorem zsX:CO (zue wE):=
 okC Tryz.f25 (memC YS (memC rZ (memC tT zA)))
theorem zsU:CO (zt8 wu):=
 okC Tryz.f16 (memC zsX zA) (exS:=⟨[.optr 0, .int .i64],[(0, .row 35)]⟩)
theorem zsV:CO (zt9 qo):=
 ZL.told (I:=I) (P:=Tryz.prog) (Fn:=fun b:Bool=>cond b oq wu) true (fun b=>match b with|true=>J5|false=>zsU) (fun x y h=>by
  unfold qo at h;exact alt2 (A:=oq) (B:=wu) h)
theorem zku:CO (lT bL):=ZL.le (show CO (lT (Nw 1))from okC Tryz.f56 zA) (BD _)
theorem zjR:CO (yT dL):=ZL.le (show CO (yT (Nw 104))from okC Tryz.f57 zA) (BD _)
theorem zjV(ZM:List zm->Option (List zm))(hs:CO (gH ZM)):CO (gH (kH ZM)):=
 okC Tryz.f37 (memC zku (memC zjR (memC hs zA))) (fz:=[(16,[2]),(19,[2])]) (pre:=[(16,[(8,some 1)]),(19,[(55,none),(5,some 2)])]) (cuts:=[(3,⟨[3,12],⟨[.own 1850, .int .i64],[(1850, .sl 118)]⟩,[2,10,11],[],[],0,[3],⟨[.own 1850],[(1850, .sl 118)]⟩,[1850]⟩),(8,⟨[6,23],⟨[.own 1849, .int .i64],[(1849, .sl 122)]⟩,[3,5,12,21,22],[1850,1851,1852],[],2,[6],⟨[.own 1849],[(1849, .sl 122)]⟩,[1849]⟩),(12,⟨[34],⟨[.int .i64],[(1854, .sl 127)]⟩,[6,8,23,33],[1849,1853],[1854],4,[],⟨[],[(1854, .sl 127)]⟩,[1854]⟩)])
theorem zjT:CO (gH ZM):=recC (gH ZM) (kH) (fun S h=>zjV S h)
theorem zmY(ZN:List zb->Option (List zb))(hs:CO (OH ZN)):CO (OH (UH ZN)):=
 okC Tryz.f58 (memC hs zA) (fz:=[(6,[2])]) (cuts:=[(3,⟨[3,8],⟨[.own 1851, .int .i64],[(1851, .sl 106)]⟩,[2,6,7],[],[],0,[3],⟨[.own 1851],[(1851, .sl 106)]⟩,[1851]⟩)])
theorem aT:CO (OH ZN):=recC (OH ZN) (UH) (fun S h=>zmY S h)
theorem zog:CO (zoQ kz):=
 okC Tryz.f38 (memC aT zA) (fz:=[(6,[2])]) (cuts:=[(3,⟨[3,8],⟨[.own 1852, .int .i64],[(1852, .sl 80)]⟩,[2,6,7],[],[],0,[3],⟨[.own 1852],[(1852, .sl 80)]⟩,[1852]⟩)])
theorem zpJ(qN:zu->Option zu)(hs:CO (MH qN)):CO (MH (yG qN)):=
 okC Tryz.f39 (memC aT (memC hs zA)) (fz:=[(6,[3])]) (cuts:=[(4,⟨[3,15],⟨[.own 1853, .int .i64],[(1853, .sl 83)]⟩,[1,2,13,14],[0,1],[],0,[3],⟨[.own 1853],[(1853, .sl 83)]⟩,[1853]⟩)]) (exS:=⟨[.optr 0],[(0, .row 83)]⟩)
theorem zpt:CO (MH qN):=recC (MH qN) (yG) (fun S h=>zpJ S h)
theorem zjS:CO (wT slices_Clone_string):=ZL.le (show CO (wT (Nw 16))from okC Tryz.f40 zA) (BD _)
theorem ziY:CO (zjG slices_Clone_string):=zFY ipOK (by kernel_rfl) zjS
theorem zov(qx:List zN->Option (List zN))(hs:CO (SH qx)):CO (SH (wG qx)):=
 okC Tryz.f26 (memC zjT (memC zog (memC zpt (memC ziY (memC hs zA))))) (fz:=[(12,[3]),(16,[2])]) (pre:=[(16,[(40,none)])]) (cuts:=[(3,⟨[3,11],⟨[.own 1855, .int .i64],[(1855, .sl 86)]⟩,[2,9,10],[],[],0,[3],⟨[.own 1855],[(1855, .sl 86)]⟩,[1855]⟩),(10,⟨[6,30],⟨[.own 1854, .int .i64],[(1854, .sl 90)]⟩,[3,5,11,28,29],[1855,1856],[],2,[6],⟨[.own 1854],[(1854, .sl 90)]⟩,[1854]⟩)])
theorem fT:CO (SH qx):=recC (SH qx) (wG) (fun S h=>zov S h)
theorem BR:CO (V4 Iy):=
 okC Tryz.f17 (memC fT zA) (fz:=[(6,[2])]) (cuts:=[(3,⟨[3,9],⟨[.own 1856, .int .i64],[(1856, .sl 37)]⟩,[1,2,7,8],[0,1],[],0,[3],⟨[.own 1856],[(1856, .sl 37)]⟩,[1856]⟩)]) (exS:=⟨[.optr 0],[(0, .row 24)]⟩)
theorem mK:CO (zB3 si):=
 okC Tryz.f7 (memC TS (memC zsV (memC BR zA))) (fz:=[(13,[11])]) (exS:=⟨[.optr 0, .int .i64, .int .i64],[(0, .row 24)]⟩)
theorem M6:CO (I4 uP):=
 okC Tryz.f11 (memC mK zA) (exS:=⟨[.optr 0, .bool],[(0, .row 24)]⟩)
theorem N7:CO (X4 EK):=
 okC Tryz.f28 zA (p:=1)
theorem zh8:CO (ziE dH):=
 okC Tryz.f27 (memC N7 zA) (p:=1) (cuts:=[(2,⟨[8],⟨[.int .i64],[]⟩,[0,1,7],[],[],0,[],⟨[],[]⟩,[]⟩)])
theorem VQ:CO (zEz lw):=
 okC Tryz.f18 (memC TS (memC zh8 zA))
theorem zsZ:CO (zuf vE):=
 okC Tryz.f17 (memC fT zA) (fz:=[(6,[2])]) (cuts:=[(3,⟨[3,9],⟨[.own 1857, .int .i64],[(1857, .sl 37)]⟩,[1,2,7,8],[0,1],[],0,[3],⟨[.own 1857],[(1857, .sl 37)]⟩,[1857]⟩)]) (exS:=⟨[.optr 1],[(1, .cells 24 [.own 0, .int .i64]),(0, .sl 37)]⟩)
theorem CR:CO (Y4 Jy):=
 okC Tryz.f8 (memC VQ (memC zsZ (memC zMw zA))) (exS:=⟨[.optr 0, .int .i64],[(0, .row 24)]⟩)
theorem nQ:CO (zB4 dx):=
 okC Tryz.f9 (memC VQ (memC BR zA)) (exS:=⟨[.optr 0, .int .i64],[(0, .row 37)]⟩)
theorem zqD:CO (zrv IL):=
 okC Tryz.f12 zA (cuts:=[(4,⟨[5],⟨[.int .i64],[]⟩,[1,2],[0],[],0,[],⟨[],[]⟩,[]⟩)])
theorem zuu:CO (M9 fK):=
 okC Tryz.f4 (memC M6 (memC CR (memC mK (memC nQ (memC zqD zA))))) (fz:=[(5,[3,25])])
theorem V6(Jl:List zm×Int->Option Int)(hs:CO (eF Jl)):CO (eF (Cv Jl)):=
 okC Tryz.f63 (memC hs zA) (cuts:=[(3,⟨[5,6],⟨[.int .i64, .int .i64],[]⟩,[0,1,4],[],[],0,[5],⟨[.int .i64],[]⟩,[]⟩),(7,⟨[5,7],⟨[.int .i64, .int .i64],[]⟩,[6],[],[],2,[5],⟨[.int .i64],[]⟩,[]⟩),(12,⟨[5,9],⟨[.int .i64, .int .i64],[]⟩,[7,8],[],[],4,[5],⟨[.int .i64],[]⟩,[]⟩)])
theorem X5:CO (eF Jl):=recC (eF Jl) (Cv) (fun S h=>V6 S h)
theorem zuG:CO (zwM fE):=
 okC Tryz.f42 (memC X5 zA)
theorem Y6(Kl:List zb×Int->Option Int)(hs:CO (fF Kl)):CO (fF (Nv Kl)):=
 okC Tryz.f64 (memC hs zA) (cuts:=[(3,⟨[5,6],⟨[.int .i64, .int .i64],[]⟩,[0,1,4],[],[],0,[5],⟨[.int .i64],[]⟩,[]⟩)])
theorem F6:CO (fF Kl):=recC (fF Kl) (Nv) (fun S h=>Y6 S h)
theorem UL:CO (ztV Ov):=
 okC Tryz.f100 zA (joins:=[(6,⟨[6],⟨[.bool],[]⟩,[3],[],[],0,[],⟨[],[]⟩,[]⟩)])
theorem A7(QC:List zb->Option Int)(hs:CO (iF QC)):CO (iF (kF QC)):=
 okC Tryz.f65 (memC UL (memC hs zA)) (cuts:=[(3,⟨[3,4],⟨[.int .i64, .int .i64],[]⟩,[0,2],[],[],0,[3],⟨[.int .i64],[]⟩,[]⟩)]) (joins:=[(4,⟨[3,4],⟨[.int .i64, .int .i64],[]⟩,[],[],[],0,[],⟨[],[]⟩,[]⟩)])
theorem pF:CO (iF QC):=recC (iF QC) (kF) (fun S h=>A7 S h)
theorem mR:CO (zwG nu):=
 okC Tryz.f43 (memC F6 (memC pF zA)) (cuts:=[(5,⟨[3,4],⟨[.int .i64, .int .i64],[]⟩,[0],[],[],0,[],⟨[],[]⟩,[]⟩)])
theorem P6(QD:zu×Int->Option Int)(hs:CO (YF QD)):CO (YF (Bv QD)):=
 okC Tryz.f66 (memC hs zA) (cuts:=[(3,⟨[5,6],⟨[.int .i64, .int .i64],[]⟩,[1,2,4],[0],[],0,[5],⟨[.int .i64],[]⟩,[]⟩)])
theorem NR:CO (YF QD):=recC (YF QD) (Bv) (fun S h=>P6 S h)
theorem A8(Ll:zu->Option Bool)(hs:CO (XF Ll)):CO (XF (Av Ll)):=
 okC Tryz.f67 (memC mR (memC hs zA)) (fz:=[(1,[2])]) (cuts:=[(4,⟨[3],⟨[.int .i64],[]⟩,[1],[0],[],0,[],⟨[],[]⟩,[]⟩)])
theorem V5:CO (XF Ll):=recC (XF Ll) (Av) (fun S h=>A8 S h)
theorem zuK:CO (p9 SE):=
 okC Tryz.f44 (memC NR (memC V5 zA))
theorem zqT(qR:List zN×Int->Option Bool)(hs:CO (iG qR)):CO (iG (Wv qR)):=
 okC Tryz.f30 (memC zuG (memC mR (memC zuK (memC hs zA)))) (cuts:=[(4,⟨[5],⟨[.int .i64],[]⟩,[0,1],[],[],0,[],⟨[],[]⟩,[]⟩),(10,⟨[7],⟨[.int .i64],[]⟩,[5,6],[0],[],2,[],⟨[],[]⟩,[]⟩)])
theorem zqH:CO (iG qR):=recC (iG qR) (Wv) (fun S h=>zqT S h)
theorem ztr(QV:List zN->Option Int)(hs:CO (SG QV)):CO (SG (aG QV)):=
 okC Tryz.f31 (memC hs zA) (cuts:=[(3,⟨[3,4],⟨[.int .i64, .int .i64],[]⟩,[0,2],[],[],0,[3],⟨[.int .i64],[]⟩,[]⟩)])
theorem bS:CO (SG QV):=recC (SG QV) (aG) (fun S h=>ztr S h)
theorem zuN:CO (X9 Dr):=
 okC Tryz.f21 (memC zqH (memC bS zA))
theorem zuR:CO (zw0 ME):=
 okC Tryz.f13 (memC zuN zA) (cuts:=[(4,⟨[3],⟨[.int .i64],[]⟩,[1],[0],[],0,[],⟨[],[]⟩,[]⟩)])
theorem M5:CO (U1 JK):=
 okC Tryz.f22 zA
theorem iR:CO (r9 ky):=
 okC Tryz.f170 zA (cuts:=[(2,⟨[5],⟨[.int .i64],[]⟩,[0,1],[],[],0,[],⟨[],[]⟩,[]⟩)])
theorem PL:CO (zwN Er):=
 okC Tryz.f109 (memC iR zA)
theorem KL:CO (G9 pu):=
 okC Tryz.f209 zA
theorem MG:CO (H9 QJ):=
 okC Tryz.f161 (memC KL zA) (cuts:=[(3,⟨[4],⟨[.int .i64],[(0, .sl 5)]⟩,[2,3],[],[0],0,[],⟨[],[(0, .sl 5)]⟩,[0]⟩)])
theorem jR:CO (zwP ny):=
 okC Tryz.f243 (memC PL (memC MG zA))
theorem dS:CO (ztY Mv):=
 okC Tryz.f207 zA (exS:=⟨[.optr 0],[(0, .row 255)]⟩)
theorem zuD:CO (zwJ jE):=
 okC Tryz.f281 zA
theorem zuI:CO (zwQ bE):=
 okC Tryz.f300 zA (exS:=⟨[.optr 0, .bool],[(0, .row 212)]⟩)
theorem zsL(Zx:zm×Zq×Bool->Option Bool)(h_ref08_whole:CO (Lr Zx)):CO (ztZ (Kv Zx)):=
 okC Tryz.f282 (memC zuI (memC h_ref08_whole zA)) (cuts:=[(5,⟨[9],⟨[.int .i64],[]⟩,[0,2,7],[1],[],0,[],⟨[],[]⟩,[]⟩)])
theorem zsM(Zx:zm×Zq×Bool->Option Bool)(h_ref08_whole:CO (Lr Zx)):CO (zt0 (Nz Zx)):=
 okC Tryz.f244 (memC dS (memC PL (memC jR (memC iR (memC zuD (memC (zsL Zx h_ref08_whole) zA)))))) (joins:=[(5,⟨[11],⟨[.bool],[]⟩,[2,3,5,10],[0,1,2],[],0,[],⟨[],[]⟩,[]⟩),(14,⟨[84],⟨[.bool],[]⟩,[],[],[],0,[],⟨[],[]⟩,[]⟩),(17,⟨[101],⟨[.bool],[]⟩,[],[],[],0,[],⟨[],[]⟩,[]⟩),(24,⟨[138],⟨[.bool],[]⟩,[],[],[],0,[],⟨[],[]⟩,[]⟩),(27,⟨[154],⟨[.bool],[]⟩,[],[],[],0,[],⟨[],[]⟩,[]⟩)])
theorem zpn(Zx:zm×Zq×Bool->Option Bool)(h_ref08_whole:CO (Lr Zx)):CO (zqo (Yz Zx)):=
 okC Tryz.f208 (memC jR (memC (zsM Zx h_ref08_whole) zA)) (cuts:=[(4,⟨[5],⟨[.int .i64],[]⟩,[2,3],[0,1],[],0,[],⟨[],[]⟩,[]⟩)])
theorem zvp(Zx:zm×Zq×Bool->Option Bool)(hs:CO (Lr Zx)):CO (Lr (EG Zx)):=
 okC Tryz.f160 (memC (zpn Zx hs) zA) (cuts:=[(4,⟨[7],⟨[.int .i64],[]⟩,[3,4],[0,1],[],0,[],⟨[],[]⟩,[]⟩)])
theorem zuJ:CO (Lr Zx):=recC (Lr Zx) (EG) (fun S h=>zvp S h)
theorem l5:CO (U2 nD):=
 okC Tryz.f101 (memC zuJ zA) (cuts:=[(2,⟨[3],⟨[.int .i64],[]⟩,[0],[],[],0,[],⟨[],[]⟩,[]⟩)])
theorem ztq(Rn:List zm->Option Int)(hs:CO (TG Rn)):CO (TG (IG Rn)):=
 okC Tryz.f102 (memC hs zA) (cuts:=[(3,⟨[3,4],⟨[.int .i64, .int .i64],[]⟩,[0,2],[],[],0,[3],⟨[.int .i64],[]⟩,[]⟩),(6,⟨[3,5],⟨[.int .i64, .int .i64],[]⟩,[4],[],[],2,[3],⟨[.int .i64],[]⟩,[]⟩),(10,⟨[3,7],⟨[.int .i64, .int .i64],[]⟩,[5,6],[],[],4,[3],⟨[.int .i64],[]⟩,[]⟩)])
theorem zsK:CO (TG Rn):=recC (TG Rn) (IG) (fun S h=>ztq S h)
theorem zuE:CO (zwK iE):=
 okC Tryz.f68 (memC l5 (memC zsK zA))
theorem l6(Am:List zb×List zb->Option Bool)(hs:CO (gF Am)):CO (gF (Ez Am)):=
 okC Tryz.f159 (memC hs zA) (cuts:=[(4,⟨[5],⟨[.int .i64],[]⟩,[0,1],[],[],0,[],⟨[],[]⟩,[]⟩)])
theorem G6:CO (gF Am):=recC (gF Am) (Ez) (fun S h=>l6 S h)
theorem kR:CO (zwI oo):=
 okC Tryz.f99 (memC G6 zA)
theorem R6(Sk:zu×zu->Option Bool)(hs:CO (aF Sk)):CO (aF (Kz Sk)):=
 okC Tryz.f61 (memC kR (memC hs zA)) (cuts:=[(4,⟨[5],⟨[.int .i64],[]⟩,[2,3],[0,1],[],0,[],⟨[],[]⟩,[]⟩)])
theorem PR:CO (aF Sk):=recC (aF Sk) (Kz) (fun S h=>R6 S h)
theorem P5:CO (J2 au):=
 okC Tryz.f69 (memC PR zA)
theorem zuC:CO (zwH nE):=
 okC Tryz.f103 (memC MG zA) (cuts:=[(4,⟨[3],⟨[.int .i64],[]⟩,[0],[],[],0,[],⟨[],[]⟩,[]⟩)])
theorem zto(QU:List zb->Option (List zg))(hs:CO (VG QU)):CO (VG (KG QU)):=
 okC Tryz.f164 (memC UL (memC hs zA)) (fz:=[(5,[6]),(9,[3])]) (cuts:=[(3,⟨[3,4],⟨[.own 1858, .int .i64],[(1858, .sl 102)]⟩,[0,2],[],[],0,[3],⟨[.own 1858],[(1858, .sl 102)]⟩,[1858]⟩)]) (joins:=[(4,⟨[3,4],⟨[.own 1960, .int .i64],[(1960, .sl 102)]⟩,[],[],[],0,[],⟨[],[]⟩,[]⟩)])
theorem jS:CO (VG QU):=recC (VG QU) (KG) (fun S h=>zto S h)
theorem ztp(Sn:List zb×Int->Option Bool)(hs:CO (UG Sn)):CO (UG (JG Sn)):=
 okC Tryz.f210 (memC UL (memC hs zA)) (cuts:=[(2,⟨[5],⟨[.int .i64],[]⟩,[0,1],[],[],0,[],⟨[],[]⟩,[]⟩)])
theorem zsH:CO (UG Sn):=recC (UG Sn) (JG) (fun S h=>ztp S h)
theorem zuB:CO (zwE pE):=
 okC Tryz.f162 (memC pF (memC jS (memC zsH zA)))
theorem zuA:CO (zwD Ir):=
 okC Tryz.f245 zA (cuts:=[(2,⟨[3],⟨[.int .i64],[]⟩,[0],[],[],0,[],⟨[],[]⟩,[]⟩)])
theorem Sr:CO (F9 Qj):=
 okC Tryz.f283 zA
theorem I6:CO (K3 rD):=
 okC Tryz.f246 (memC Sr zA)
theorem LG:CO (zwA ry):=
 okC Tryz.f301 zA
theorem Im:CO (zEx qB):=
 okC Tryz.f325 zA
theorem WL:CO (ztU Ap):=
 okC Tryz.f302 (memC Im (memC LG zA)) (cuts:=[(1,⟨[1],⟨[.int .i64],[]⟩,[0,4],[],[],0,[1],⟨[.int .i64],[]⟩,[]⟩)])
theorem UR:CO (R3 sJ):=
 okC Tryz.f340 zA (fz:=[(1,[0])])
theorem zA6:CO (zBX FD):=
 okC Tryz.f341 (memC Sr (memC KL zA))
theorem L6:CO (U3 gP):=
 okC Tryz.f342 (memC UR zA) (fz:=[(4,[2]),(6,[8]),(8,[13]),(9,[18])])
theorem GH:CO (zrw wo):=
 okC Tryz.f326 (memC UR (memC zA6 (memC Im (memC LG (memC L6 zA))))) (cuts:=[(7,⟨[6,7],⟨[.int .i64, .int .i64],[]⟩,[0,1,4,5],[],[],0,[6,7],⟨[.int .i64, .int .i64],[]⟩,[]⟩)]) (joins:=[(12,⟨[7],⟨[.int .i64],[]⟩,[6],[],[],0,[],⟨[],[]⟩,[]⟩)])
theorem zsG:CO (ztT Fz):=
 okC Tryz.f303 (memC GH zA) (cuts:=[(4,⟨[1],⟨[.int .i64],[(0, .row 102),(1, .row 102)]⟩,[0,4,6,7],[],[0,1],0,[1],⟨[.int .i64],[(0, .row 102),(1, .row 102)]⟩,[0,1]⟩)]) (exS:=⟨[.optr 0, .int .i64],[(0, .row 102)]⟩)
theorem kS:CO (ztR lF):=
 okC Tryz.f327 (memC KL zA)
theorem nS:CO (ztP sK):=
 okC Tryz.f304 (memC kS (memC Sr zA))
theorem pz:CO (ztO Nr):=
 okC Tryz.f305 (memC Im zA)
theorem JL:CO (E9 uo):=
 okC Tryz.f306 (memC nS (memC pz (memC GH zA))) (cuts:=[(2,⟨[1,6],⟨[.int .i64, .str],[]⟩,[0],[],[],0,[],⟨[],[]⟩,[]⟩)])
theorem lS:CO (ztQ Gz):=
 okC Tryz.f307 (memC Im (memC kS (memC pz zA)))
theorem zpm:CO (zqn RS):=
 okC Tryz.f308 (memC Im (memC Sr zA)) (joins:=[(4,⟨[1],⟨[.int .i64],[]⟩,[0],[],[],0,[],⟨[],[]⟩,[]⟩),(6,⟨[1],⟨[.int .i64],[]⟩,[],[],[],0,[],⟨[],[]⟩,[]⟩)])
theorem zsF:CO (ztS Mr):=
 okC Tryz.f343 (memC Im (memC Sr zA)) (cuts:=[(1,⟨[1],⟨[.int .i64],[]⟩,[0,4],[],[],0,[1],⟨[.int .i64],[]⟩,[]⟩)])
theorem zn5:CO (zoM oz):=
 okC Tryz.f328 (memC Im (memC zsF (memC Sr zA))) (joins:=[(4,⟨[1],⟨[.int .i64],[]⟩,[0],[],[],0,[],⟨[],[]⟩,[]⟩),(9,⟨[1,7],⟨[.int .i64, .bool],[]⟩,[],[],[],0,[],⟨[],[]⟩,[]⟩),(15,⟨[1,7,9],⟨[.int .i64, .bool, .int .i64],[]⟩,[],[],[],0,[],⟨[],[]⟩,[]⟩),(18,⟨[1,7],⟨[.int .i64, .bool],[]⟩,[],[],[],0,[],⟨[],[]⟩,[]⟩)])
theorem zlz:CO (zmn yz):=
 okC Tryz.f329 (memC Im (memC Sr zA)) (cuts:=[(5,⟨[3,5],⟨[.str, .int .i64],[]⟩,[4],[],[],0,[3,5],⟨[.str, .int .i64],[]⟩,[]⟩),(10,⟨[3,4,5],⟨[.str, .int .i64, .int .i64],[]⟩,[],[],[],2,[3,4,5],⟨[.str, .int .i64, .int .i64],[]⟩,[]⟩),(20,⟨[5,8],⟨[.int .i64, .int .i64],[]⟩,[4],[],[],4,[8],⟨[.int .i64],[]⟩,[]⟩),(28,⟨[9,10],⟨[.int .i64, .int .i64],[]⟩,[4],[],[],6,[9],⟨[.int .i64],[]⟩,[]⟩),(31,⟨[4,9],⟨[.int .i64, .int .i64],[]⟩,[],[],[],8,[9],⟨[.int .i64],[]⟩,[]⟩)]) (joins:=[(5,⟨[3,4,5],⟨[.str, .int .i64, .int .i64],[]⟩,[0,6],[],[],0,[],⟨[],[]⟩,[]⟩),(14,⟨[3,4,5],⟨[.str, .int .i64, .int .i64],[]⟩,[],[],[],0,[],⟨[],[]⟩,[]⟩),(19,⟨[4,5],⟨[.int .i64, .int .i64],[]⟩,[3,7],[],[],0,[],⟨[],[]⟩,[]⟩),(25,⟨[4,8],⟨[.int .i64, .int .i64],[]⟩,[],[],[],0,[],⟨[],[]⟩,[]⟩),(26,⟨[4],⟨[.int .i64],[]⟩,[3],[],[],0,[],⟨[],[]⟩,[]⟩)])
theorem zqE:CO (zrx Uz):=
 okC Tryz.f309 (memC zn5 (memC zlz (memC lS (memC JL (memC Im zA))))) (joins:=[(9,⟨[6],⟨[.int .i64],[(0, .row 102),(1, .row 102)]⟩,[4,8],[],[0,1],0,[],⟨[],[]⟩,[]⟩)]) (exS:=⟨[.optr 0, .int .i64],[(0, .row 102)]⟩)
theorem zA9:CO (zB0 JJ):=
 okC Tryz.f310 zA
theorem pR:CO (I9 Hm):=
 okC Tryz.f212 (memC MG zA)
theorem zA8:CO (zBZ Nu):=
 okC Tryz.f344 (memC pz (memC GH zA)) (cuts:=[(1,⟨[1],⟨[.int .i64],[]⟩,[0,4,5],[0],[],0,[1],⟨[.int .i64],[]⟩,[]⟩)]) (exS:=⟨[.optr 0, .int .i64],[(0, .row 102)]⟩)
theorem zlA:CO (zmo XT):=
 okC Tryz.f345 zA
theorem zBa:CO (zB1 Dy):=
 okC Tryz.f330 (memC WL (memC LG (memC zA8 (memC zlA (memC pz (memC GH zA)))))) (cuts:=[(3,⟨[1],⟨[.int .i64],[(0, .row 102),(1, .row 102)]⟩,[0,4,6],[],[0,1],0,[1],⟨[.int .i64],[(0, .row 102),(1, .row 102)]⟩,[0,1]⟩)]) (exS:=⟨[.optr 0, .int .i64],[(0, .row 102)]⟩)
theorem J6:CO (M3 Oy):=
 okC Tryz.f311 (memC JL (memC Im (memC pR (memC WL (memC zBa zA))))) (joins:=[(8,⟨[],⟨[],[(0, .row 102)]⟩,[4,6,7],[],[0],0,[],⟨[],[]⟩,[]⟩)]) (exS:=⟨[.optr 0, .int .i64],[(0, .row 102)]⟩)
theorem K6:CO (O3 rJ):=
 okC Tryz.f312 zA
theorem zA7:CO (zBY Ey):=
 okC Tryz.f284 (memC LG (memC WL (memC zsG (memC nS (memC pz (memC JL (memC lS (memC zpm (memC zqE (memC zA9 (memC J6 (memC K6 zA)))))))))))) (exS:=⟨[.optr 0, .int .i64],[(0, .row 102)]⟩)
theorem zuz:CO (zwC QK):=
 okC Tryz.f247 (memC zA7 zA) (fz:=[(1,[1])])
theorem H6:CO (J3 oD):=
 okC Tryz.f211 (memC zuA (memC I6 (memC zuz zA))) (joins:=[(6,⟨[8],⟨[.bool],[(1, .row 102)]⟩,[1,3,7],[0],[1],0,[],⟨[],[]⟩,[]⟩),(13,⟨[56],⟨[.bool],[(1, .row 102)]⟩,[],[],[1],0,[],⟨[],[]⟩,[]⟩),(21,⟨[90],⟨[.bool],[(1, .row 102)]⟩,[],[],[1],0,[],⟨[],[]⟩,[]⟩),(26,⟨[148],⟨[.bool],[]⟩,[],[1],[],0,[],⟨[],[]⟩,[]⟩)])
theorem zuy:CO (zwB ou):=
 okC Tryz.f163 (memC H6 (memC pR zA)) (cuts:=[(4,⟨[3],⟨[.int .i64],[]⟩,[0],[],[],0,[],⟨[],[]⟩,[]⟩)]) (joins:=[(12,⟨[4],⟨[.int .i64],[]⟩,[3],[],[],0,[],⟨[],[]⟩,[]⟩),(14,⟨[],⟨[],[]⟩,[3],[],[],0,[],⟨[],[]⟩,[]⟩)])
theorem zqS(QS:List zb->Option Bool)(hs:CO (jG QS)):CO (jG (nG QS)):=
 okC Tryz.f165 (memC hs zA) (cuts:=[(2,⟨[3],⟨[.int .i64],[]⟩,[0],[],[],0,[],⟨[],[]⟩,[]⟩)])
theorem zqG:CO (jG QS):=recC (jG QS) (nG) (fun S h=>zqS S h)
theorem zqF:CO (zry GG):=
 okC Tryz.f166 zA (cuts:=[(1,⟨[0],⟨[.sl 106],[]⟩,[2],[],[],0,[0],⟨[.sl 106],[]⟩,[]⟩),(3,⟨[0],⟨[.sl 106],[]⟩,[2],[],[],2,[0],⟨[.sl 106],[]⟩,[]⟩)])
theorem zsI:CO (ztW jF):=
 okC Tryz.f167 zA
theorem zsJ:CO (ztX MF):=
 okC Tryz.f104 (memC zuB (memC jS (memC zuy (memC zqG (memC zqF (memC zsI zA)))))) (cuts:=[(6,⟨[5],⟨[.int .i64],[]⟩,[1],[],[],0,[],⟨[],[]⟩,[]⟩)])
theorem nR:CO (zwF Hr):=
 okC Tryz.f70 (memC zuC (memC zsJ zA))
theorem dR:CO (l9 lu):=
 okC Tryz.f168 zA
theorem pG:CO (zt2 Pn):=
 okC Tryz.f105 (memC dR zA)
theorem zsO:CO (zt3 Jz):=
 okC Tryz.f213 (memC MG zA) (cuts:=[(4,⟨[3],⟨[.int .i64],[]⟩,[0],[],[],0,[],⟨[],[]⟩,[]⟩)])
theorem zCA:CO (zEy ww):=
 okC Tryz.f214 zA
theorem zBb:CO (zB2 Cy):=
 okC Tryz.f169 (memC pG (memC dR (memC zsO (memC zCA zA)))) (cuts:=[(4,⟨[4],⟨[.int .i64],[]⟩,[1],[0],[],0,[],⟨[],[]⟩,[]⟩)]) (joins:=[(5,⟨[4],⟨[.int .i64],[]⟩,[],[],[],0,[],⟨[],[]⟩,[]⟩)])
theorem zuL:CO (d9 jy):=
 okC Tryz.f106 (memC pG (memC zBb zA))
theorem zsN:CO (zt1 JF):=
 okC Tryz.f71 (memC pG (memC zuL zA)) (cuts:=[(8,⟨[3],⟨[.int .i64],[]⟩,[1],[0],[],0,[],⟨[],[]⟩,[]⟩)])
theorem U6(yl:zu->Option Int)(hs:CO (bF yl)):CO (bF (KF yl)):=
 okC Tryz.f107 (memC pF (memC hs zA)) (cuts:=[(7,⟨[3,4],⟨[.int .i64, .int .i64],[]⟩,[1,2],[0],[],0,[3],⟨[.int .i64],[]⟩,[]⟩)]) (joins:=[(13,⟨[3,6],⟨[.int .i64, .int .i64],[]⟩,[4],[],[],0,[],⟨[],[]⟩,[]⟩)])
theorem TR:CO (bF yl):=recC (bF yl) (KF) (fun S h=>U6 S h)
theorem zou(qw:zu->Option Bool)(hs:CO (TH qw)):CO (TH (XH qw)):=
 okC Tryz.f108 (memC nR (memC pG (memC hs zA))) (cuts:=[(13,⟨[3],⟨[.int .i64],[]⟩,[],[],[],1,[],⟨[],[]⟩,[]⟩)]) (joins:=[(10,⟨[55],⟨[.bool],[]⟩,[1],[0],[],0,[],⟨[],[]⟩,[]⟩)])
theorem zoa:CO (TH qw):=recC (TH qw) (XH) (fun S h=>zou S h)
theorem zmN:CO (znj FH):=
 okC Tryz.f72 (memC NR (memC TR (memC zoa zA)))
theorem zsP:CO (zt4 yu):=
 okC Tryz.f73 (memC PL zA) (cuts:=[(4,⟨[3],⟨[.int .i64],[]⟩,[0],[],[],0,[],⟨[],[]⟩,[]⟩)])
theorem zts(Nn:zN->Option Bool)(hs:CO (RG Nn)):CO (RG (YG Nn)):=
 okC Tryz.f45 (memC zuE (memC P5 (memC nR (memC zsN (memC zmN (memC zsP (memC hs zA))))))) (cuts:=[(8,⟨[4],⟨[.int .i64],[]⟩,[1],[],[],1,[],⟨[],[]⟩,[]⟩),(26,⟨[5],⟨[.int .i64],[]⟩,[],[],[],3,[],⟨[],[]⟩,[]⟩),(31,⟨[6],⟨[.int .i64],[]⟩,[],[],[],5,[],⟨[],[]⟩,[]⟩)]) (joins:=[(25,⟨[],⟨[],[]⟩,[1],[0],[],0,[],⟨[],[]⟩,[]⟩)])
theorem zsQ:CO (RG Nn):=recC (RG Nn) (YG) (fun S h=>zts S h)
theorem zuF:CO (zwL bK):=
 okC Tryz.f110 zA
theorem zpH(Qt:List zm->Option Int)(hs:CO (sG Qt)):CO (sG (EH Qt)):=
 okC Tryz.f74 (memC zuF (memC hs zA)) (cuts:=[(3,⟨[3,4],⟨[.int .i64, .int .i64],[]⟩,[0,2],[],[],0,[3],⟨[.int .i64],[]⟩,[]⟩),(6,⟨[3,5],⟨[.int .i64, .int .i64],[]⟩,[4],[],[],2,[3],⟨[.int .i64],[]⟩,[]⟩),(10,⟨[3,7],⟨[.int .i64, .int .i64],[]⟩,[5,6],[],[],4,[3],⟨[.int .i64],[]⟩,[]⟩)]) (joins:=[(11,⟨[3,7],⟨[.int .i64, .int .i64],[]⟩,[],[],[],0,[],⟨[],[]⟩,[]⟩)])
theorem zpo:CO (sG Qt):=recC (sG Qt) (EH) (fun S h=>zpH S h)
theorem zlC:CO (zmq WH):=
 okC Tryz.f75 (memC TR zA) (cuts:=[(5,⟨[3,4],⟨[.int .i64, .int .i64],[]⟩,[1,2],[0],[],0,[3],⟨[.int .i64],[]⟩,[]⟩),(11,⟨[3,6],⟨[.int .i64, .int .i64],[]⟩,[],[1],[],2,[3],⟨[.int .i64],[]⟩,[]⟩)]) (joins:=[(10,⟨[3],⟨[.int .i64],[(1, .row 83)]⟩,[4,5],[],[1],0,[],⟨[],[]⟩,[]⟩),(12,⟨[3,6],⟨[.int .i64, .int .i64],[]⟩,[],[],[],0,[],⟨[],[]⟩,[]⟩)])
theorem l7(Jn:List zN->Option Int)(hs:CO (VF Jn)):CO (VF (DF Jn)):=
 okC Tryz.f46 (memC hs (memC pF (memC zpo (memC zlC zA)))) (cuts:=[(3,⟨[3,4],⟨[.int .i64, .int .i64],[]⟩,[0,2],[],[],0,[3],⟨[.int .i64],[]⟩,[]⟩),(8,⟨[5,6],⟨[.int .i64, .int .i64],[]⟩,[3,4],[],[],2,[5],⟨[.int .i64],[]⟩,[]⟩)]) (joins:=[(4,⟨[3,4],⟨[.int .i64, .int .i64],[]⟩,[],[],[],0,[],⟨[],[]⟩,[]⟩)])
theorem U5:CO (VF Jn):=recC (VF Jn) (DF) (fun S h=>l7 S h)
theorem zuP:CO (V9 OE):=
 okC Tryz.f32 (memC bS (memC zsQ (memC U5 zA))) (cuts:=[(4,⟨[3],⟨[.int .i64],[]⟩,[0],[],[],0,[],⟨[],[]⟩,[]⟩)])
theorem zuM:CO (Y9 iy):=
 okC Tryz.f23 (memC zuP zA)
theorem zuQ:CO (U9 NE):=
 okC Tryz.f14 (memC M5 (memC zuM zA)) (cuts:=[(5,⟨[3,4],⟨[.int .i64, .int .i64],[]⟩,[1],[0],[],0,[],⟨[],[]⟩,[]⟩)])
theorem zA3:CO (zBT XD):=
 okC Tryz.f5 (memC zuR (memC zuQ zA))
theorem O5:CO (Y1 LK):=
 okC Tryz.f6 zA
theorem zlB(ZV:List zm×List zm->Option Bool)(h_ref08_Same:CO (Rv ZV)):CO (zmp (YH ZV)):=
 okC Tryz.f158 (memC dS (memC h_ref08_Same zA)) (cuts:=[(4,⟨[5],⟨[.int .i64],[]⟩,[0,1],[],[],0,[],⟨[],[]⟩,[]⟩)])
theorem zuH(ZV:List zm×List zm->Option Bool)(h_ref08_Same:CO (Rv ZV)):CO (zwO (dE ZV)):=
 okC Tryz.f98 (memC (zlB ZV h_ref08_Same) zA) (cuts:=[(4,⟨[5],⟨[.int .i64],[]⟩,[2,3],[0,1],[],0,[],⟨[],[]⟩,[]⟩)])
theorem X6(ZV:List zm×List zm->Option Bool)(hs:CO (Rv ZV)):CO (Rv (LF ZV)):=
 okC Tryz.f59 (memC (zuH ZV hs) zA) (cuts:=[(4,⟨[5],⟨[.int .i64],[]⟩,[0,1],[],[],0,[],⟨[],[]⟩,[]⟩)])
theorem Y5:CO (Rv ZV):=recC (Rv ZV) (LF) (fun S h=>X6 S h)
theorem D6:CO (Y2 Ny):=
 okC Tryz.f60 (memC kR zA) (cuts:=[(4,⟨[5],⟨[.int .i64],[]⟩,[0,1],[],[],0,[],⟨[],[]⟩,[]⟩)])
theorem zob:CO (zoN nz):=
 okC Tryz.f62 zA (cuts:=[(4,⟨[5],⟨[.int .i64],[]⟩,[0,1],[],[],0,[],⟨[],[]⟩,[]⟩),(9,⟨[6],⟨[.int .i64],[]⟩,[5],[],[],2,[],⟨[],[]⟩,[]⟩)])
theorem zuO(Qk:List zN×List zN->Option Bool)(h_ref11_Same:CO (Iz Qk)):CO (W9 (PE Qk)):=
 okC Tryz.f41 (memC Y5 (memC D6 (memC PR (memC zob (memC h_ref11_Same zA)))))
theorem Y7(Qk:List zN×List zN->Option Bool)(hs:CO (Iz Qk)):CO (Iz (CF Qk)):=
 okC Tryz.f29 (memC (zuO Qk hs) zA) (cuts:=[(4,⟨[5],⟨[.int .i64],[]⟩,[0,1],[],[],0,[],⟨[],[]⟩,[]⟩)])
theorem R5:CO (Iz Qk):=recC (Iz Qk) (CF) (fun S h=>Y7 S h)
theorem zpp:CO (zqp XG):=
 okC Tryz.f20 (memC R5 zA)
theorem zpq:CO (zqq WG):=
 okC Tryz.f10 (memC zpp zA) (cuts:=[(4,⟨[5],⟨[.int .i64],[]⟩,[0,1],[],[],0,[],⟨[],[]⟩,[]⟩)])
theorem zn4:CO (YT bG):=
 okC Tryz.f3 (memC (@zuu fuK) (memC zA3 (memC O5 (memC mK (memC CR (memC nQ (memC zpq zA)))))))
end Go.Lv.VT
