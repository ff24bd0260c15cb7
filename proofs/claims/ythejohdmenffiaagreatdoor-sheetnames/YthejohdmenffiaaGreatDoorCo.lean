/- Contracts. -/
import Derived.Test.YthejohdmenffiaaGreatDoorCoa
set_option linter.unusedSimpArgs false
set_option linter.unusedVariables false
namespace Go.Lv.VT
set_option maxRecDepth 100000
open Go.Proofs
theorem bR:zx Tryz.prog (JH dm):=
 okC (A:=⟨[Qs zJ,Ir Zt,Qj zN,Qk zO,Z0 Za,Sy Fh,fH qL],[(3,[1]),(9,[4]),(13,[3]),(17,[1]),(23,[3]),(25,[1])],[(25,[(4,some 6)])],1,[(15,⟨[],⟨[],[(0, .row 251),(1, .cells 36 [.int .u8, .str, .int .i64, .str, .nilv, .bool, .nilv]),(2, .cells 36 [.int .u8, .str, .int .i64, .str, .nilv, .bool, .own 1742]),(1742, .sl 36)]⟩,[],[],[0,1,2],0,[],⟨[],[(0, .row 251),(1, .cells 36 [.int .u8, .str, .int .i64, .str, .nilv, .bool, .nilv]),(2, .cells 36 [.int .u8, .str, .int .i64, .str, .nilv, .bool, .own 1742]),(1742, .sl 36)]⟩,[0,1,2,1742]⟩)],[(14,⟨[],⟨[],[(0, .row 251),(1, .cells 36 [.int .u8, .str, .int .i64, .str, .nilv, .bool, .nilv]),(2, .cells 36 [.int .u8, .str, .int .i64, .str, .nilv, .bool, .own 1640]),(1640, .sl 36)]⟩,[0,2,4,5],[],[0,1,2],0,[],⟨[],[]⟩,[]⟩),(26,⟨[],⟨[],[(1, .cells 36 [.int .u8, .str, .int .i64, .str, .nilv, .bool, .nilv]),(2, .cells 36 [.int .u8, .str, .int .i64, .str, .nilv, .bool, .sl 36])]⟩,[],[0],[1,2],0,[],⟨[],[]⟩,[]⟩)],[]⟩) (exS:=⟨[.optr 1, .bool],[(0, .row 251),(1, .row 36)]⟩) Tryz.f199 (memC Nr (memC Nz (memC QI (memC QJ (memC ZT (memC fF (memC xR zI))))))) (by kernel_rfl) (by kernel_rfl) fun x=>by kernel_rfl
theorem NF:zx Tryz.prog (Ux xg):=
 okC (A:=⟨[Mq Uf,Qs zJ,JH dm],[(17,[1]),(18,[1]),(19,[3])],[],0,[(13,⟨[44],⟨[.int .i64],[(1, .cells 36 [.int .u8, .str, .int .i64, .str, .nilv, .bool, .own 1743]),(1743, .sl 36)]⟩,[7,42,43],[0],[1],0,[],⟨[],[(1, .cells 36 [.int .u8, .str, .int .i64, .str, .nilv, .bool, .own 1743]),(1743, .sl 36)]⟩,[1,1743]⟩)],[(9,⟨[],⟨[],[(0, .cells 36 [.int .u8, .str, .int .i64, .str, .nilv, .bool, .nilv])]⟩,[2,4],[],[0],0,[],⟨[],[]⟩,[]⟩),(19,⟨[],⟨[],[(1, .cells 36 [.int .u8, .str, .int .i64, .str, .nilv, .bool, .own 1743]),(1743, .sl 36),(1745, .row 36)]⟩,[10,44],[],[1,1743,1745],0,[],⟨[],[]⟩,[]⟩)],[]⟩) (exS:=⟨[.optr 0, .int .i64],[(0, .row 36)]⟩) Tryz.f138 (memC jw (memC Nr (memC bR zI))) (by kernel_rfl) (by kernel_rfl) fun x=>by kernel_rfl
theorem FN:zx Tryz.prog (aD sj):=
 okC (A:=⟨[Lg qc,bv kg],[],[],0,[],[],[]⟩) (exS:=⟨[.optr 0, .bool, .int .i64],[(0, .row 33)]⟩) Tryz.f308 (memC Oh (memC CE zI)) (by kernel_rfl) (by kernel_rfl) fun x=>by kernel_rfl
theorem uQ(zG:zm->Option ((zt×Bool)×zm))(h_cond_reader_told:zx Tryz.prog (Ql zG)):zx Tryz.prog (uG (Qo zG)):=
 okC (A:=⟨[Qj zN,Qk zO,aD sj,Ql zG],[],[],1,[],[],[]⟩) (exS:=⟨[.optr 1, .bool],[(0, .row 251),(1, .row 36)]⟩) Tryz.f252 (memC QI (memC QJ (memC FN (memC h_cond_reader_told zI)))) (by kernel_rfl) (by kernel_rfl) fun x=>by kernel_rfl
theorem DR(zG:zm->Option ((zt×Bool)×zm))(hs:zx Tryz.prog (Ql zG)):zx Tryz.prog (Ql (Q8 zG)):=
 okC (A:=⟨[Qs zJ,Ir Zt,uG (Qo zG)],[(2,[1]),(6,[1]),(15,[5]),(23,[3])],[],1,[(14,⟨[9],⟨[.bool],[(0, .row 251),(1, .cells 36 [.int .u8, .str, .int .i64, .str, .nilv, .bool, .nilv]),(5, .cells 36 [.int .u8, .str, .int .i64, .str, .nilv, .bool, .own 1744]),(1744, .sl 36)]⟩,[0,2,10],[],[0,1,5],0,[],⟨[],[(0, .row 251),(1, .cells 36 [.int .u8, .str, .int .i64, .str, .nilv, .bool, .nilv]),(5, .cells 36 [.int .u8, .str, .int .i64, .str, .nilv, .bool, .own 1744]),(1744, .sl 36)]⟩,[0,1,5,1744]⟩)],[],[]⟩) (exS:=⟨[.optr 1, .bool],[(0, .row 251),(1, .row 36)]⟩) Tryz.f200 (memC Nr (memC Nz (memC (uQ zG hs) zI))) (by kernel_rfl) (by kernel_rfl) fun x=>by kernel_rfl
theorem tQ:zx Tryz.prog (Ql zG):=
 zx.recE (I:=I) (P:=Tryz.prog) (f:=200) (inS:=⟨[.optr 0],[(0, .row 251)]⟩) (cst:=[]) (outS:=⟨[.val 36, .bool],[(0, .row 251)]⟩) (k:=0) (Q8) (by kernel_rfl) (fun S h=>DR S h)
theorem kw:zx Tryz.prog (Nq Vf):=
 okC (A:=⟨[Lg qc,Xi qX],[],[],0,[],[],[]⟩) (exS:=⟨[.int .i64, .int .i64],[]⟩) Tryz.f49 (memC Oh (memC TE zI)) (by kernel_rfl) (by kernel_rfl) fun x=>by kernel_rfl
theorem Tq:zx Tryz.prog (Rl qW):=
 okC (A:=⟨[],[],[],0,[],[],[]⟩) (exS:=⟨[.bool],[]⟩) Tryz.f103 zI (by kernel_rfl) (by kernel_rfl) fun x=>by kernel_rfl
theorem kN:zx Tryz.prog (uD Rp):=
 okC (A:=⟨[],[],[],0,[],[],[]⟩) (exS:=⟨[.bool],[]⟩) Tryz.f154 zI (by kernel_rfl) (by kernel_rfl) fun x=>by kernel_rfl
theorem sM(QF:zt×Int->Option ((Int×Bool)×Int))(hs:zx Tryz.prog (Ol QF)):zx Tryz.prog (Ol (Sl QF)):=
 okC (A:=⟨[Nq Vf,Oq Yf,Rl qW,Ol QF,uD Rp],[],[],1,[(19,⟨[9,97],⟨[.int .i64, .int .i64],[(0, .row 3)]⟩,[1,95,96],[],[0],1,[9],⟨[.int .i64],[(0, .row 3)]⟩,[0]⟩)],[(15,⟨[69],⟨[.bool],[]⟩,[1,2,6],[0,1],[],0,[],⟨[],[]⟩,[]⟩),(26,⟨[9,12],⟨[.int .i64, .int .i64],[]⟩,[97],[0],[],0,[],⟨[],[]⟩,[]⟩)],[]⟩) (exS:=⟨[.int .i64, .bool],[(0, .row 3)]⟩) Tryz.f104 (memC kw (memC lw (memC Tq (memC hs (memC kN zI))))) (by kernel_rfl) (by kernel_rfl) fun x=>by kernel_rfl
theorem BN:zx Tryz.prog (Ol QF):=
 zx.recE (I:=I) (P:=Tryz.prog) (f:=104) (inS:=⟨[.val 36, .optr 0],[(0, .row 3)]⟩) (cst:=[]) (outS:=⟨[.int .i64, .bool],[(0, .row 3)]⟩) (k:=0) (Sl) (by kernel_rfl) (fun S h=>sM S h)
theorem jH:zx Tryz.prog (nz qp):=
 okC (A:=⟨[Ol QF],[],[],0,[],[],[]⟩) (exS:=⟨[.int .i64],[]⟩) Tryz.f54 (memC BN zI) (by kernel_rfl) (by kernel_rfl) fun x=>by kernel_rfl
theorem UG:zx Tryz.prog (wy Rh):=
 okC (A:=⟨[Lg qc,Ql zG,nz qp],[],[],0,[],[],[]⟩) (exS:=⟨[.optr 0, .int .i64],[(0, .row 36)]⟩) Tryz.f139 (memC Oh (memC tQ (memC jH zI))) (by kernel_rfl) (by kernel_rfl) fun x=>by kernel_rfl
theorem uR:zx Tryz.prog (bH QK):=
 okC (A:=⟨[Oy Dh,Ux xg,wy Rh],[],[],1,[],[(13,⟨[13],⟨[.bool],[(0, .row 72),(1, .cells 39 [.int .u8, .nilv, .nilv, .int .u8, .str, .int .i64, .str, .nilv, .bool, .nilv, .nilv, .nilv]),(2, .row 39)]⟩,[0,4,10,12],[],[0,1,2],0,[],⟨[],[]⟩,[]⟩)],[]⟩) (exS:=⟨[.optr 1, .bool],[(0, .row 72),(1, .row 39)]⟩) Tryz.f80 (memC aF (memC NF (memC UG zI))) (by kernel_rfl) (by kernel_rfl) fun x=>by kernel_rfl
theorem YR(zF:(List ze×Bool)×zo->Option (List zL×zo))(h_sheet_parser_rules:zx Tryz.prog (ZN zF)):zx Tryz.prog (RH (ym zF)):=
 okC (A:=⟨[rE Gl,Oy Dh,Ux xg,wy Rh,ZN zF],[],[],1,[],[(13,⟨[13],⟨[.bool],[(0, .row 72),(1, .cells 39 [.int .u8, .nilv, .nilv, .int .u8, .str, .int .i64, .str, .nilv, .bool, .nilv, .nilv, .nilv]),(2, .row 39)]⟩,[0,4,10,12],[],[0,1,2],0,[],⟨[],[]⟩,[]⟩),(18,⟨[],⟨[],[(0, .row 72),(1, .cells 39 [.int .u8, .nilv, .nilv, .int .u8, .str, .int .i64, .str, .nilv, .bool, .nilv, .nilv, .nilv]),(2, .row 39)]⟩,[],[],[0,1,2],0,[],⟨[],[]⟩,[]⟩)],[]⟩) (exS:=⟨[.optr 1, .bool],[(0, .row 72),(1, .row 39)]⟩) Tryz.f80 (memC xO (memC aF (memC NF (memC UG (memC h_sheet_parser_rules zI))))) (by kernel_rfl) (by kernel_rfl) fun x=>by kernel_rfl
theorem NR(zF:(List ze×Bool)×zo->Option (List zL×zo))(hs:zx Tryz.prog (ZN zF)):zx Tryz.prog (ZN (Qt zF)):=
 okC (A:=⟨[bE Ri,Z0 Za,pE El,RH (ym zF),bH QK],[(10,[7]),(22,[2])],[],1,[(2,⟨[1,7],⟨[.sl 132, .own 1745],[(0, .row 72),(1745, .sl 39)]⟩,[0,2,6],[],[0],0,[7],⟨[.own 1745],[(0, .row 72),(1745, .sl 39)]⟩,[0,1745]⟩)],[(8,⟨[1,7],⟨[.sl 132, .own 1745],[(0, .row 72),(1745, .sl 39)]⟩,[8],[],[0,1745],0,[],⟨[],[]⟩,[]⟩),(12,⟨[1,7,9,10],⟨[.sl 132, .own 1745, .str, .own 1848],[(0, .row 72),(1745, .sl 39),(1848, .sl 5)]⟩,[],[],[0,1745],0,[],⟨[],[]⟩,[]⟩),(19,⟨[1,7],⟨[.sl 132, .own 1745],[(0, .row 72),(1745, .sl 39)]⟩,[9,11,12],[],[0,1745],0,[],⟨[],[]⟩,[]⟩)],[]⟩) (exS:=⟨[.sl 39],[(0, .row 72)]⟩) Tryz.f42 (memC WN (memC ZT (memC wO (memC (YR zF hs) (memC uR zI))))) (by kernel_rfl) (by kernel_rfl) fun x=>by kernel_rfl
theorem iH:zx Tryz.prog (ZN zF):=
 zx.recE (I:=I) (P:=Tryz.prog) (f:=42) (inS:=⟨[.optr 0, .sl 132, .bool],[(0, .row 72)]⟩) (cst:=[]) (outS:=⟨[.sl 39],[(0, .row 72)]⟩) (k:=0) (Qt) (by kernel_rfl) (fun S h=>NR S h)
theorem KF:zx Tryz.prog (Uw yg):=
 okC (A:=⟨[Hy af,Wu parseF,ZN zF],[],[],0,[],[],[]⟩) (exS:=⟨[.sl 39, .nilp, .int .i64],[]⟩) Tryz.f22 (memC LG (memC VC (memC iH zI))) (by kernel_rfl) (by kernel_rfl) fun x=>by kernel_rfl
theorem YN:zx Tryz.prog (jN Bh):=
 okC (A:=⟨[Uw yg],[],[],0,[],[],[]⟩) (exS:=⟨[.optr 0, .int .i64],[(0, .row 25)]⟩) Tryz.f7 (memC KF zI) (by kernel_rfl) (by kernel_rfl) fun x=>by kernel_rfl
theorem CG:zx Tryz.prog (Iy Ih):=
 okC (A:=⟨[Hy af,Wu parseF,ZN zF],[],[],0,[],[],[]⟩) (exS:=⟨[.sl 39, .optr 0, .int .i64],[(0, .row 72)]⟩) Tryz.f22 (memC LG (memC VC (memC iH zI))) (by kernel_rfl) (by kernel_rfl) fun x=>by kernel_rfl
theorem mP:zx Tryz.prog (oO ji):=
 okC (A:=⟨[Iy Ih],[],[],0,[],[],[]⟩) (exS:=⟨[.optr 0, .int .i64],[(0, .row 25)]⟩) Tryz.f7 (memC CG zI) (by kernel_rfl) (by kernel_rfl) fun x=>by kernel_rfl
theorem Ty:zx Tryz.prog (rq Zx):=
 zx.told (I:=I) (P:=Tryz.prog) (Fn:=fun b:Bool=>cond b Bh ji) true (fun b=>match b with|true=>YN|false=>mP) (fun x y h=>by
  unfold Zx at h;exact alt2 (A:=Bh) (B:=ji) h)
theorem iT:zx Tryz.prog (DI ZY):=
 okC (A:=⟨[xy Uh],[],[],0,[(2,⟨[8],⟨[.int .i64],[]⟩,[0,1,7],[],[],0,[],⟨[],[]⟩,[]⟩)],[],[]⟩) (exS:=⟨[.int .i64],[]⟩) Tryz.f140 (memC NG zI) (by kernel_rfl) (by kernel_rfl) fun x=>by kernel_rfl
theorem vT:zx Tryz.prog (VI ZB):=
 okC (A:=⟨[DI ZY],[],[],0,[],[],[]⟩) (exS:=⟨[.bool],[]⟩) Tryz.f82 (memC iT zI) (by kernel_rfl) (by kernel_rfl) fun x=>by kernel_rfl
theorem OQ:zx Tryz.prog (dG Lm):=
 okC (A:=⟨[VI ZB],[],[],0,[],[],[]⟩) (exS:=⟨[.bool],[]⟩) Tryz.f45 (memC vT zI) (by kernel_rfl) (by kernel_rfl) fun x=>by kernel_rfl
theorem tO:zx Tryz.prog (pF Nl):=
 okC (A:=⟨[dG Lm],[],[],0,[],[],[]⟩) (exS:=⟨[.bool],[]⟩) Tryz.f44 (memC OQ zI) (by kernel_rfl) (by kernel_rfl) fun x=>by kernel_rfl
theorem jT:zx Tryz.prog (EI ZX):=
 okC (A:=⟨[pF Nl],[],[],0,[(2,⟨[8],⟨[.int .i64],[]⟩,[0,1,7],[],[],0,[],⟨[],[]⟩,[]⟩)],[],[]⟩) (exS:=⟨[.int .i64],[]⟩) Tryz.f81 (memC tO zI) (by kernel_rfl) (by kernel_rfl) fun x=>by kernel_rfl
theorem wT:zx Tryz.prog (WI ZA):=
 okC (A:=⟨[EI ZX],[],[],0,[],[],[]⟩) (exS:=⟨[.bool],[]⟩) Tryz.f43 (memC jT zI) (by kernel_rfl) (by kernel_rfl) fun x=>by kernel_rfl
theorem vP(Zn:List zw->Option Int)(hs:zx Tryz.prog (En Zn)):zx Tryz.prog (En (Sm Zn)):=
 okC (A:=⟨[En Zn],[],[],0,[(3,⟨[3,14],⟨[.int .i64, .int .i64],[]⟩,[2,12,13],[],[],0,[3],⟨[.int .i64],[]⟩,[]⟩),(6,⟨[3,21],⟨[.int .i64, .int .i64],[]⟩,[14,19,20],[],[],2,[3],⟨[.int .i64],[]⟩,[]⟩),(9,⟨[3,28],⟨[.int .i64, .int .i64],[]⟩,[21,26,27],[],[],4,[3],⟨[.int .i64],[]⟩,[]⟩)],[(15,⟨[3,28],⟨[.int .i64, .int .i64],[]⟩,[],[],[],0,[],⟨[],[]⟩,[]⟩)],[]⟩) (exS:=⟨[.int .i64],[]⟩) Tryz.f46 (memC hs zI) (by kernel_rfl) (by kernel_rfl) fun x=>by kernel_rfl
theorem wP:zx Tryz.prog (En Zn):=
 zx.recE (I:=I) (P:=Tryz.prog) (f:=46) (inS:=⟨[.sl 146],[]⟩) (cst:=[]) (outS:=⟨[.int .i64],[]⟩) (k:=0) (Sm) (by kernel_rfl) (fun S h=>vP S h)
theorem fQ:zx Tryz.prog (kG Xm):=
 okC (A:=⟨[Az (Kh zg)],[],[],0,[],[],[]⟩) (exS:=⟨[.bool],[]⟩) Tryz.f86 (memC (OG zg mG) zI) (by kernel_rfl) (by kernel_rfl) fun x=>by kernel_rfl
theorem YT:zx Tryz.prog (II ZL):=
 okC (A:=⟨[kG Xm],[],[],0,[(2,⟨[8],⟨[.int .i64],[]⟩,[0,1,7],[],[],0,[],⟨[],[]⟩,[]⟩)],[],[]⟩) (exS:=⟨[.int .i64],[]⟩) Tryz.f142 (memC fQ zI) (by kernel_rfl) (by kernel_rfl) fun x=>by kernel_rfl
theorem DU:zx Tryz.prog (UI Zv):=
 okC (A:=⟨[II ZL],[],[],0,[],[],[]⟩) (exS:=⟨[.bool],[]⟩) Tryz.f85 (memC YT zI) (by kernel_rfl) (by kernel_rfl) fun x=>by kernel_rfl
theorem TQ:zx Tryz.prog (gG Gm):=
 okC (A:=⟨[UI Zv,Aj Zl],[],[],0,[],[],[]⟩) (exS:=⟨[.int .i64],[]⟩) Tryz.f47 (memC DU (memC TG zI)) (by kernel_rfl) (by kernel_rfl) fun x=>by kernel_rfl
theorem AP:zx Tryz.prog (vE Ig):=
 okC (A:=⟨[],[],[],0,[],[],[]⟩) (exS:=⟨[.bool],[]⟩) Tryz.f48 zI (by kernel_rfl) (by kernel_rfl) fun x=>by kernel_rfl
theorem uO(Z8:zt->Option Int)(hs:zx Tryz.prog (Jm Z8)):zx Tryz.prog (Jm (Mm Z8)):=
 okC (A:=⟨[Jm Z8],[],[],0,[(5,⟨[3,17],⟨[.int .i64, .int .i64],[]⟩,[15,16],[],[],0,[3],⟨[.int .i64],[]⟩,[]⟩)],[(4,⟨[3],⟨[.int .i64],[]⟩,[1],[0],[],0,[],⟨[],[]⟩,[]⟩)],[]⟩) (exS:=⟨[.int .i64],[]⟩) Tryz.f51 (memC hs zI) (by kernel_rfl) (by kernel_rfl) fun x=>by kernel_rfl
theorem CP:zx Tryz.prog (Jm Z8):=
 zx.recE (I:=I) (P:=Tryz.prog) (f:=51) (inS:=⟨[.val 36],[]⟩) (cst:=[]) (outS:=⟨[.int .i64],[]⟩) (k:=0) (Mm) (by kernel_rfl) (fun S h=>uO S h)
theorem UO:zx Tryz.prog (JE Ti):=
 okC (A:=⟨[Rl qW,Sy Fh,Ry Eh],[],[],0,[(4,⟨[23],⟨[.int .i64],[]⟩,[21,22],[],[],0,[],⟨[],[]⟩,[]⟩)],[(17,⟨[57],⟨[.bool],[]⟩,[4,23],[1],[],0,[],⟨[],[]⟩,[]⟩),(19,⟨[23],⟨[.int .i64],[]⟩,[],[],[],0,[],⟨[],[]⟩,[]⟩)],[]⟩) (exS:=⟨[.bool],[]⟩) Tryz.f152 (memC Tq (memC fF (memC eF zI))) (by kernel_rfl) (by kernel_rfl) fun x=>by kernel_rfl
theorem VO:zx Tryz.prog (KE Dq):=
 okC (A:=⟨[],[],[],0,[],[],[]⟩) (exS:=⟨[.bool],[]⟩) Tryz.f153 zI (by kernel_rfl) (by kernel_rfl) fun x=>by kernel_rfl
theorem lN:zx Tryz.prog (vD Mk):=
 okC (A:=⟨[Rl qW,JE Ti,KE Dq],[],[],0,[],[],[]⟩) (exS:=⟨[.bool],[]⟩) Tryz.f102 (memC Tq (memC UO (memC VO zI))) (by kernel_rfl) (by kernel_rfl) fun x=>by kernel_rfl
theorem dR:zx Tryz.prog (KH gm):=
 okC (A:=⟨[vD Mk],[],[],0,[],[],[]⟩) (exS:=⟨[.bool],[]⟩) Tryz.f101 (memC lN zI) (by kernel_rfl) (by kernel_rfl) fun x=>by kernel_rfl
theorem bS:zx Tryz.prog (sH Qd):=
 okC (A:=⟨[KH gm],[],[],0,[(2,⟨[8],⟨[.int .i64],[]⟩,[0,1,7],[],[],0,[],⟨[],[]⟩,[]⟩)],[],[]⟩) (exS:=⟨[.int .i64],[]⟩) Tryz.f151 (memC dR zI) (by kernel_rfl) (by kernel_rfl) fun x=>by kernel_rfl
theorem yS:zx Tryz.prog (PI qf):=
 okC (A:=⟨[sH Qd],[],[],0,[],[],[]⟩) (exS:=⟨[.bool],[]⟩) Tryz.f100 (memC bS zI) (by kernel_rfl) (by kernel_rfl) fun x=>by kernel_rfl
theorem gQ:zx Tryz.prog (lG Rm):=
 okC (A:=⟨[PI qf,Rl qW],[],[],0,[],[],[]⟩) (exS:=⟨[.int .i64],[]⟩) Tryz.f52 (memC yS (memC Tq zI)) (by kernel_rfl) (by kernel_rfl) fun x=>by kernel_rfl
theorem PN(qP:zt->Option Int)(hs:zx Tryz.prog (Yl qP)):zx Tryz.prog (Yl (Ll qP)):=
 okC (A:=⟨[Nq Vf,Yl qP],[],[],0,[(9,⟨[5,27],⟨[.int .i64, .int .i64],[]⟩,[2,25,26],[],[],1,[5],⟨[.int .i64],[]⟩,[]⟩)],[(14,⟨[5,8],⟨[.int .i64, .int .i64],[]⟩,[27],[],[],0,[],⟨[],[]⟩,[]⟩)],[]⟩) (exS:=⟨[.int .i64],[]⟩) Tryz.f53 (memC kw (memC hs zI)) (by kernel_rfl) (by kernel_rfl) fun x=>by kernel_rfl
theorem UN:zx Tryz.prog (Yl qP):=
 zx.recE (I:=I) (P:=Tryz.prog) (f:=53) (inS:=⟨[.val 36],[]⟩) (cst:=[]) (outS:=⟨[.int .i64],[]⟩) (k:=0) (Ll) (by kernel_rfl) (fun S h=>PN S h)
theorem RN(qd:List zL->Option zB)(hs:zx Tryz.prog (bi qd)):zx Tryz.prog (bi (Ml qd)):=
 okC (A:=⟨[bi qd,WI ZA,En Zn,gG Gm,vE Ig,Nq Vf,Oq Yf,Jm Z8,lG Rm,Yl qP,nz qp],[],[],0,[(3,⟨[18],⟨[.int .i64],[(1, .row 69)]⟩,[2,3,16,17],[0],[1],0,[],⟨[],[(1, .row 69)]⟩,[1]⟩),(17,⟨[10,87],⟨[.bool, .int .i64],[(3, .row 69)]⟩,[6,7,18,85,86],[1],[3],3,[10],⟨[.bool],[(3, .row 69)]⟩,[3]⟩)],[(35,⟨[7,10],⟨[.int .i64, .bool],[(1, .row 69),(3, .row 69)]⟩,[6,18],[],[1,3],0,[],⟨[],[]⟩,[]⟩)],[]⟩) (exS:=⟨[.optr 0],[(0, .row 69)]⟩) Tryz.f23 (memC hs (memC wT (memC wP (memC TQ (memC AP (memC kw (memC lw (memC CP (memC gQ (memC UN (memC jH zI))))))))))) (by kernel_rfl) (by kernel_rfl) fun x=>by kernel_rfl
theorem LF:zx Tryz.prog (bi qd):=
 zx.recE (I:=I) (P:=Tryz.prog) (f:=23) (inS:=⟨[.sl 39],[]⟩) (cst:=[]) (outS:=⟨[.val 69],[]⟩) (k:=0) (Ml) (by kernel_rfl) (fun S h=>RN S h)
theorem BP:zx Tryz.prog (wE Il):=
 okC (A:=⟨[bi qd],[],[],0,[],[],[]⟩) (exS:=⟨[.int .i64],[]⟩) Tryz.f24 (memC LF zI) (by kernel_rfl) (by kernel_rfl) fun x=>by kernel_rfl
theorem Cy:zx Tryz.prog (fq df):=
 okC (A:=⟨[wE Il],[],[],0,[],[],[]⟩) (exS:=⟨[.int .i64],[]⟩) Tryz.f10 (memC BP zI) (by kernel_rfl) (by kernel_rfl) fun x=>by kernel_rfl
theorem bF:zx Tryz.prog (Py Zg):=
 okC (A:=⟨[rq Zx,fq df],[],[],0,[(5,⟨[7],⟨[.int .i64],[]⟩,[1,5],[0],[],0,[],⟨[],[]⟩,[]⟩)],[],[]⟩) (exS:=⟨[.bool],[]⟩) Tryz.f6 (memC Ty (memC Cy zI)) (by kernel_rfl) (by kernel_rfl) fun x=>by kernel_rfl
theorem EP:zx Tryz.prog (xE ai):=
 okC (A:=⟨[bi qd,fq df],[],[],0,[],[],[]⟩) (exS:=⟨[.int .i64, .int .i64],[]⟩) Tryz.f8 (memC LF (memC Cy zI)) (by kernel_rfl) (by kernel_rfl) fun x=>by kernel_rfl
theorem XN:zx Tryz.prog (iN Ah):=
 okC (A:=⟨[Uw yg],[],[],0,[],[],[]⟩) (exS:=⟨[.optr 0, .int .i64],[(0, .row 39)]⟩) Tryz.f9 (memC KF zI) (by kernel_rfl) (by kernel_rfl) fun x=>by kernel_rfl
theorem kP:zx Tryz.prog (nO di):=
 okC (A:=⟨[Iy Ih],[],[],0,[],[],[]⟩) (exS:=⟨[.optr 0, .int .i64],[(0, .row 39)]⟩) Tryz.f9 (memC CG zI) (by kernel_rfl) (by kernel_rfl) fun x=>by kernel_rfl
theorem jP:zx Tryz.prog (rF qY):=
 zx.told (I:=I) (P:=Tryz.prog) (Fn:=fun b:Bool=>cond b Ah di) true (fun b=>match b with|true=>XN|false=>kP) (fun x y h=>by
  unfold qY at h;exact alt2 (A:=Ah) (B:=di) h)
theorem LP:zx Tryz.prog (DF uk):=
 okC (A:=⟨[rq Zx,Py Zg],[(3,[4])],[],0,[],[],[]⟩) (exS:=⟨[.bool],[]⟩) Tryz.f11 (memC Ty (memC bF zI)) (by kernel_rfl) (by kernel_rfl) fun x=>by kernel_rfl
theorem sQ:zx Tryz.prog (BR uq):=
 okC (A:=⟨[Py Zg,rq Zx,xE ai,rF qY,fq df,DF uk],[(1,[2,6,10,14]),(2,[23,27,31,35,39])],[(29,[(234,none)])],0,[(9,⟨[7,8,9],⟨[.str, .str, .int .i64],[]⟩,[0,1,2],[],[],0,[7,8],⟨[.str, .str],[]⟩,[]⟩)],[],[]⟩) (exS:=⟨[.bool],[]⟩) Tryz.f3 (memC bF (memC Ty (memC EP (memC jP (memC Cy (memC LP zI)))))) (by kernel_rfl) (by kernel_rfl) fun x=>by kernel_rfl
end Go.Lv.VT
