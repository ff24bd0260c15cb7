/- Contracts. -/
import Derived.Test.YtkecjfeffabgiaaGreatDoorCoa
set_option linter.unusedSimpArgs false
set_option linter.unusedVariables false
namespace Go.Lv.VT
set_option maxRecDepth 100000
open Go.Proofs
theorem UK(zQ:zh->Option Str)(h_cond_media:zm Tryz.prog (Q3 zQ)):zm Tryz.prog (XB (Bi zQ)):=
 okC (A:=⟨[Q3 zQ,Ir ve],[(5,[4])],[(7,[(7,none)])],0,[(3,⟨[7,12],⟨[.own 1417, .int .i64],[(1417, .sl 9)]⟩,[1,2,6,10,11],[],[],0,[7],⟨[.own 1417],[(1417, .sl 9)]⟩,[1417]⟩)],[],[]⟩) (exS:=⟨[.str],[]⟩) Tryz.f68 (memC h_cond_media (memC gy zK)) (by kernel_rfl) (by kernel_rfl) fun x=>by kernel_rfl
theorem vJ(zQ:zh->Option Str)(hs:zm Tryz.prog (Q3 zQ)):zm Tryz.prog (Q3 (El zQ)):=
 okC (A:=⟨[Vu ig,Q3 zQ,XB (Bi zQ),FD Tk],[],[],0,[],[],[]⟩) (exS:=⟨[.str],[]⟩) Tryz.f41 (memC JB (memC hs (memC (UK zQ hs) (memC WL zK)))) (by kernel_rfl) (by kernel_rfl) fun x=>by kernel_rfl
theorem pK:zm Tryz.prog (Q3 zQ):=
 zm.recE (I:=I) (P:=Tryz.prog) (f:=41) (inS:=⟨[.val 27],[]⟩) (cst:=[]) (outS:=⟨[.str],[]⟩) (k:=0) (El) (by kernel_rfl) (fun S h=>vJ S h)
theorem TL:zm Tryz.prog (DD Qn):=
 okC (A:=⟨[Xo Uf,Xi qx,Gp Zf],[(6,[2])],[],1,[(2,⟨[0,11],⟨[.own 1419, .int .i64],[(1419, .sl 5)]⟩,[1,2,6,10],[],[],0,[0],⟨[.own 1419],[(1419, .sl 5)]⟩,[1419]⟩)],[(8,⟨[0,11],⟨[.own 1521, .int .i64],[(1521, .sl 5)]⟩,[],[],[],0,[],⟨[],[]⟩,[]⟩)],[]⟩) (exS:=⟨[.own 1],[(1, .sl 5)]⟩) Tryz.f110 (memC Yv (memC nk (memC Tw zK))) (by kernel_rfl) (by kernel_rfl) fun x=>by kernel_rfl
theorem EK:zm Tryz.prog (OC dn):=
 okC (A:=⟨[],[],[],0,[],[],[]⟩) (exS:=⟨[.optr 0],[(0, .row 230)]⟩) Tryz.f221 zK (by kernel_rfl) (by kernel_rfl) fun x=>by kernel_rfl
theorem tL:zm Tryz.prog (mD Qd):=
 okC (A:=⟨[dA Nn,NA gm,Fz Mh],[(2,[1]),(6,[1])],[],1,[],[(3,⟨[0,1],⟨[.own 2043, .int .i64],[(2043, .sl 5)]⟩,[2],[],[],0,[],⟨[],[]⟩,[]⟩),(9,⟨[0],⟨[.own 2146],[(2146, .sl 5)]⟩,[],[],[],0,[],⟨[],[]⟩,[]⟩)],[]⟩) (exS:=⟨[.own 1],[(1, .sl 5)]⟩) Tryz.f220 (memC fJ (memC yI (memC KH zK))) (by kernel_rfl) (by kernel_rfl) fun x=>by kernel_rfl
theorem RL:zm Tryz.prog (BD Pk):=
 okC (A:=⟨[Aw ZV,DD Qn,Zv strings_IndexByte,Gp Zf,mD Qd,Gw Ui,Zb strings_HasPrefix,OC dn],[(5,[7]),(7,[1]),(12,[1]),(14,[1]),(20,[2]),(22,[1]),(30,[2]),(32,[1]),(38,[4])],[],1,[(16,⟨[0,67],⟨[.own 1836, .int .i64],[(1836, .sl 5)]⟩,[3,4,65,66],[1,4],[],1,[0],⟨[.own 1836],[(1836, .sl 5)]⟩,[1836]⟩),(26,⟨[0,93],⟨[.own 1940, .int .i64],[(1940, .sl 5)]⟩,[3,4,91,92],[1,3],[],3,[0],⟨[.own 1940],[(1940, .sl 5)]⟩,[1940]⟩)],[(12,⟨[5],⟨[.int .i64],[(0, .sl 5)]⟩,[0,3],[1],[0],0,[],⟨[],[]⟩,[]⟩),(21,⟨[0,67],⟨[.own 1938, .int .i64],[(1938, .sl 5)]⟩,[],[],[],0,[],⟨[],[]⟩,[]⟩),(31,⟨[0,93],⟨[.own 2042, .int .i64],[(2042, .sl 5)]⟩,[],[],[],0,[],⟨[],[]⟩,[]⟩)],[]⟩) (exS:=⟨[.own 1],[(1, .sl 5)]⟩) Tryz.f194 (memC eB (memC TL (memC ZN (memC Tw (memC tL (memC ND (memC Ze (memC EK zK)))))))) (by kernel_rfl) (by kernel_rfl) fun x=>by kernel_rfl
theorem PN:zm Tryz.prog (xE Zp):=
 okC (A:=⟨[Zb strings_HasPrefix,Rs Og],[],[],1,[(0,⟨[],⟨[],[(0, .row 121)]⟩,[0],[],[0],0,[],⟨[],[(0, .row 121)]⟩,[0]⟩)],[],[]⟩) (exS:=⟨[],[(0, .row 121)]⟩) Tryz.f95 (memC Ze (memC kz zK)) (by kernel_rfl) (by kernel_rfl) fun x=>by kernel_rfl
theorem zI:zm Tryz.prog (zG ze):=
 okC (A:=⟨[],[],[],1,[],[],[]⟩) (exS:=⟨[.int .i64],[]⟩) Tryz.f138 zK (by kernel_rfl) (by kernel_rfl) fun x=>by kernel_rfl
theorem Ll:zm Tryz.prog (Pi Zn):=
 okC (A:=⟨[],[],[],0,[],[],[]⟩) (exS:=⟨[.bool],[]⟩) Tryz.f139 zK (by kernel_rfl) (by kernel_rfl) fun x=>by kernel_rfl
theorem QT:zm Tryz.prog (qW zZ):=
 okC (A:=⟨[zG ze,Pi Zn],[],[],1,[(0,⟨[],⟨[],[(0, .row 121)]⟩,[0,1],[],[0],0,[],⟨[],[(0, .row 121)]⟩,[0]⟩)],[],[]⟩) (exS:=⟨[],[(0, .row 121)]⟩) Tryz.f140 (memC zI (memC Ll zK)) (by kernel_rfl) (by kernel_rfl) fun x=>by kernel_rfl
theorem dN:zm Tryz.prog (Q5 Qr):=
 okC (A:=⟨[],[(2,[1]),(4,[9]),(7,[14]),(9,[19])],[],0,[],[(7,⟨[25],⟨[.bool],[]⟩,[0,1,5],[],[],0,[],⟨[],[]⟩,[]⟩)],[]⟩) (exS:=⟨[.own 0],[(0, .sl 5)]⟩) Tryz.f244 zK (by kernel_rfl) (by kernel_rfl) fun x=>by kernel_rfl
theorem wM:zm Tryz.prog (OE qy):=
 okC (A:=⟨[Q5 Qr],[(2,[3])],[],0,[],[],[]⟩) (exS:=⟨[.own 0],[(0, .sl 5)]⟩) Tryz.f210 (memC dN zK) (by kernel_rfl) (by kernel_rfl) fun x=>by kernel_rfl
theorem Dp:zm Tryz.prog (Wl qw):=
 okC (A:=⟨[],[],[],0,[],[],[]⟩) (exS:=⟨[.bool],[]⟩) Tryz.f212 zK (by kernel_rfl) (by kernel_rfl) fun x=>by kernel_rfl
theorem Ml:zm Tryz.prog (Ri Zx):=
 okC (A:=⟨[Wl qw],[],[],0,[],[],[]⟩) (exS:=⟨[.bool],[]⟩) Tryz.f182 (memC Dp zK) (by kernel_rfl) (by kernel_rfl) fun x=>by kernel_rfl
theorem CB:zm Tryz.prog (Tu Ye):=
 okC (A:=⟨[Ri Zx,Wl qw],[],[],0,[],[],[]⟩) (exS:=⟨[.int .i64],[]⟩) Tryz.f211 (memC Ml (memC Dp zK)) (by kernel_rfl) (by kernel_rfl) fun x=>by kernel_rfl
theorem lN:zm Tryz.prog (wE ZL):=
 okC (A:=⟨[zG ze,OE qy,Tu Ye,Pi Zn],[(7,[3])],[],1,[(10,⟨[6,36],⟨[.int .i64, .int .i64],[(0, .row 121)]⟩,[0,1,4],[],[0],0,[6],⟨[.int .i64],[(0, .row 121)]⟩,[0]⟩)],[(17,⟨[6],⟨[.int .i64],[(0, .row 121)]⟩,[1],[],[0],0,[],⟨[],[]⟩,[]⟩),(19,⟨[6],⟨[.int .i64],[]⟩,[],[0],[],0,[],⟨[],[]⟩,[]⟩)],[]⟩) (exS:=⟨[.own 1],[(0, .row 121),(1, .sl 5)]⟩) Tryz.f180 (memC zI (memC wM (memC CB (memC Ll zK)))) (by kernel_rfl) (by kernel_rfl) fun x=>by kernel_rfl
theorem bN:zm Tryz.prog (Q6 Qs):=
 okC (A:=⟨[],[(2,[1]),(4,[9]),(7,[14]),(9,[19])],[],1,[],[(7,⟨[25],⟨[.bool],[(0, .sl 5)]⟩,[0,1,5],[],[0],0,[],⟨[],[]⟩,[]⟩)],[]⟩) (exS:=⟨[.own 1],[(1, .sl 5)]⟩) Tryz.f244 zK (by kernel_rfl) (by kernel_rfl) fun x=>by kernel_rfl
theorem vM:zm Tryz.prog (NE qz):=
 okC (A:=⟨[Q6 Qs],[(2,[3])],[],1,[],[],[]⟩) (exS:=⟨[.own 1],[(1, .sl 5)]⟩) Tryz.f210 (memC bN zK) (by kernel_rfl) (by kernel_rfl) fun x=>by kernel_rfl
theorem qP:zm Tryz.prog (ZY zV):=
 okC (A:=⟨[zG ze,NE qz,Tu Ye,Pi Zn],[(7,[3])],[],2,[(10,⟨[6,36],⟨[.int .i64, .int .i64],[(0, .row 121)]⟩,[0,1,4],[1],[0],0,[6],⟨[.int .i64],[(0, .row 121)]⟩,[0]⟩)],[(17,⟨[6],⟨[.int .i64],[(0, .row 121),(1, .sl 5)]⟩,[1],[],[0,1],0,[],⟨[],[]⟩,[]⟩),(19,⟨[6],⟨[.int .i64],[(1, .sl 5)]⟩,[],[0],[1],0,[],⟨[],[]⟩,[]⟩)],[]⟩) (exS:=⟨[.own 2],[(0, .row 121),(2, .sl 5)]⟩) Tryz.f180 (memC zI (memC vM (memC CB (memC Ll zK)))) (by kernel_rfl) (by kernel_rfl) fun x=>by kernel_rfl
theorem GN:zm Tryz.prog (WE qm):=
 okC (A:=⟨[zG ze,ZY zV],[(5,[3])],[],1,[(4,⟨[4],⟨[.own 2148],[(0, .row 121),(1, .row 57),(2148, .sl 5)]⟩,[0,2,3],[],[0,1],0,[4],⟨[.own 2148],[(0, .row 121),(1, .row 57),(2148, .sl 5)]⟩,[0,1,2148]⟩)],[],[]⟩) (exS:=⟨[.optr 1],[(0, .row 121),(1, .row 57)]⟩) Tryz.f141 (memC zI (memC qP zK)) (by kernel_rfl) (by kernel_rfl) fun x=>by kernel_rfl
theorem XC:zm Tryz.prog (Nv Mi):=
 okC (A:=⟨[Wl qw],[],[],0,[],[],[]⟩) (exS:=⟨[.bool],[]⟩) Tryz.f181 (memC Dp zK) (by kernel_rfl) (by kernel_rfl) fun x=>by kernel_rfl
theorem TD:zm Tryz.prog (Ew vg):=
 okC (A:=⟨[Nv Mi,Ri Zx],[],[],0,[],[],[]⟩) (exS:=⟨[.bool],[]⟩) Tryz.f142 (memC XC (memC Ml zK)) (by kernel_rfl) (by kernel_rfl) fun x=>by kernel_rfl
theorem ZK:zm Tryz.prog (Zo zH):=
 okC (A:=⟨[zG ze],[],[],1,[],[],[]⟩) (exS:=⟨[.bool],[]⟩) Tryz.f143 (memC zI zK) (by kernel_rfl) (by kernel_rfl) fun x=>by kernel_rfl
theorem pE:zm Tryz.prog (fw zX):=
 okC (A:=⟨[zG ze,Nv Mi,Zo zH],[],[],1,[],[],[]⟩) (exS:=⟨[.bool],[]⟩) Tryz.f144 (memC zI (memC XC (memC ZK zK))) (by kernel_rfl) (by kernel_rfl) fun x=>by kernel_rfl
theorem kw:zm Tryz.prog (Qt Za):=
 okC (A:=⟨[zG ze,Ew vg,Zo zH,ZY zV],[(5,[3])],[],1,[(2,⟨[3],⟨[.own 2149],[(0, .row 121),(2149, .sl 5)]⟩,[0],[],[0],0,[],⟨[],[]⟩,[]⟩)],[],[]⟩) (exS:=⟨[.str],[(0, .row 121)]⟩) Tryz.f145 (memC zI (memC TD (memC ZK (memC qP zK)))) (by kernel_rfl) (by kernel_rfl) fun x=>by kernel_rfl
theorem JN:zm Tryz.prog (XE Qu):=
 okC (A:=⟨[zG ze,Ri Zx],[],[],1,[],[(5,⟨[3],⟨[.int .i64],[]⟩,[0],[],[],0,[],⟨[],[]⟩,[]⟩),(7,⟨[3],⟨[.int .i64],[]⟩,[],[],[],0,[],⟨[],[]⟩,[]⟩)],[]⟩) (exS:=⟨[.bool],[]⟩) Tryz.f146 (memC zI (memC Ml zK)) (by kernel_rfl) (by kernel_rfl) fun x=>by kernel_rfl
theorem WN:zm Tryz.prog (YE Zj):=
 okC (A:=⟨[zG ze,Ri Zx],[],[],1,[(0,⟨[],⟨[],[(0, .row 121)]⟩,[0,1],[],[0],0,[],⟨[],[(0, .row 121)]⟩,[0]⟩)],[],[]⟩) (exS:=⟨[],[(0, .row 121)]⟩) Tryz.f140 (memC zI (memC Ml zK)) (by kernel_rfl) (by kernel_rfl) fun x=>by kernel_rfl
theorem YN:zm Tryz.prog (dE Z8):=
 okC (A:=⟨[zG ze,YE Zj,Ri Zx],[],[],1,[],[(4,⟨[],⟨[],[(0, .row 121)]⟩,[0],[],[0],0,[],⟨[],[]⟩,[]⟩),(10,⟨[4],⟨[.bool],[(0, .row 121)]⟩,[],[],[0],0,[],⟨[],[]⟩,[]⟩),(15,⟨[4,5],⟨[.bool, .int .i64],[(0, .row 121)]⟩,[],[],[0],0,[],⟨[],[]⟩,[]⟩),(19,⟨[4],⟨[.bool],[(0, .row 121)]⟩,[],[],[0],0,[],⟨[],[]⟩,[]⟩)],[]⟩) (exS:=⟨[.bool],[(0, .row 121)]⟩) Tryz.f183 (memC zI (memC WN (memC Ml zK))) (by kernel_rfl) (by kernel_rfl) fun x=>by kernel_rfl
theorem iM:zm Tryz.prog (PE QD):=
 okC (A:=⟨[Gz Kg,TB Vj,ax cutF],[],[],0,[(8,⟨[6,31],⟨[.int .i64, .int .i64],[]⟩,[0,2,3,4,5,29,30],[0],[],0,[6],⟨[.int .i64],[]⟩,[]⟩),(22,⟨[12,81],⟨[.int .i64, .int .i64],[]⟩,[4,79,80],[0],[],2,[12],⟨[.int .i64],[]⟩,[]⟩),(26,⟨[4,12],⟨[.int .i64, .int .i64],[]⟩,[],[],[],4,[12],⟨[.int .i64],[]⟩,[]⟩)],[(14,⟨[0,4,6],⟨[.str, .int .i64, .int .i64],[]⟩,[3,5],[],[],0,[],⟨[],[]⟩,[]⟩),(15,⟨[0,4],⟨[.str, .int .i64],[]⟩,[3],[],[],0,[],⟨[],[]⟩,[]⟩),(20,⟨[0,4],⟨[.str, .int .i64],[]⟩,[],[],[],0,[],⟨[],[]⟩,[]⟩),(31,⟨[12],⟨[.int .i64],[]⟩,[],[],[],0,[],⟨[],[]⟩,[]⟩)],[]⟩) (exS:=⟨[.int .i64],[]⟩) Tryz.f184 (memC LH (memC WJ (memC eF zK))) (by kernel_rfl) (by kernel_rfl) fun x=>by kernel_rfl
theorem XN:zm Tryz.prog (bE Z9):=
 okC (A:=⟨[dE Z8,PE QD,fw zX,Qt Za,zG ze],[],[],1,[],[(9,⟨[],⟨[],[(0, .row 121),(1, .row 57),(2, .row 57)]⟩,[2,5],[],[0,1,2],0,[],⟨[],[]⟩,[]⟩)],[]⟩) (exS:=⟨[.optr 1],[(0, .row 121),(1, .row 57)]⟩) Tryz.f147 (memC YN (memC iM (memC pE (memC kw (memC zI zK))))) (by kernel_rfl) (by kernel_rfl) fun x=>by kernel_rfl
theorem kM:zm Tryz.prog (TE ZX):=
 okC (A:=⟨[zG ze,Zo zH,wE ZL],[],[],1,[(1,⟨[],⟨[],[(0, .row 121),(1, .row 57)]⟩,[0,2],[],[0,1],0,[],⟨[],[]⟩,[]⟩)],[],[]⟩) (exS:=⟨[.optr 1],[(0, .row 121),(1, .row 57)]⟩) Tryz.f216 (memC zI (memC ZK (memC lN zK))) (by kernel_rfl) (by kernel_rfl) fun x=>by kernel_rfl
theorem jM:zm Tryz.prog (SE QC):=
 okC (A:=⟨[qW zZ,zG ze,Pi Zn,TE ZX,Wl qw,Zo zH,ZY zV],[(18,[3])],[],1,[(3,⟨[3],⟨[.own 2150],[(0, .row 121),(1, .row 57),(2150, .sl 5)]⟩,[0,2],[],[0,1],0,[],⟨[],[]⟩,[]⟩)],[(10,⟨[3,4],⟨[.own 2150, .int .i64],[(0, .row 121),(1, .row 57),(2150, .sl 5)]⟩,[],[],[0,1,2150],0,[],⟨[],[]⟩,[]⟩)],[]⟩) (exS:=⟨[.optr 1],[(0, .row 121),(1, .row 57)]⟩) Tryz.f185 (memC QT (memC zI (memC Ll (memC kM (memC Dp (memC ZK (memC qP zK))))))) (by kernel_rfl) (by kernel_rfl) fun x=>by kernel_rfl
theorem yM:zm Tryz.prog (jE qL):=
 okC (A:=⟨[Qt Za,zG ze,Ti ZW,qW zZ,SE QC],[],[],1,[],[(11,⟨[],⟨[],[(0, .row 121),(1, .row 57)]⟩,[2,3],[],[0,1],0,[],⟨[],[]⟩,[]⟩)],[]⟩) (exS:=⟨[.optr 1],[(0, .row 121),(1, .row 57)]⟩) Tryz.f148 (memC kw (memC zI (memC Ol (memC QT (memC jM zK))))) (by kernel_rfl) (by kernel_rfl) fun x=>by kernel_rfl
theorem uM:zm Tryz.prog (IE Ql):=
 okC (A:=⟨[zG ze,Pi Zn,qW zZ,WE qm,Ew vg,Zo zH,fw zX,Qt Za,XE Qu,bE Z9,Zb strings_HasPrefix,jE qL,Zv strings_IndexByte],[],[],1,[],[],[]⟩) (exS:=⟨[.optr 1],[(0, .row 121),(1, .row 57)]⟩) Tryz.f96 (memC zI (memC Ll (memC QT (memC GN (memC TD (memC ZK (memC pE (memC kw (memC JN (memC XN (memC Ze (memC yM (memC ZN zK))))))))))))) (by kernel_rfl) (by kernel_rfl) fun x=>by kernel_rfl
theorem PM:zm Tryz.prog (vD Wp):=
 okC (A:=⟨[],[(1,[2])],[],2,[],[],[]⟩) (exS:=⟨[],[(0, .cells 62 [.own 2]),(2, .sl 57)]⟩) Tryz.f56 zK (by kernel_rfl) (by kernel_rfl) fun x=>by kernel_rfl
theorem vK:zm Tryz.prog (XD Kl):=
 okC (A:=⟨[Jz Xh,xE Zp,IE Ql,vD Wp],[],[],1,[(7,⟨[7],⟨[.int .i64],[(0, .cells 62 [.own 2151]),(2151, .sl 57),(1, .row 121)]⟩,[0,1,6],[],[0,1],0,[],⟨[],[(0, .cells 62 [.own 2151]),(2151, .sl 57),(1, .row 121)]⟩,[0,1,2151]⟩)],[],[]⟩) (exS:=⟨[.int .i64],[(0, .cells 62 [.own 1]),(1, .sl 57)]⟩) Tryz.f55 (memC OH (memC PN (memC uM (memC PM zK)))) (by kernel_rfl) (by kernel_rfl) fun x=>by kernel_rfl
theorem LD:zm Tryz.prog (Fw xg):=
 okC (A:=⟨[XD Kl],[],[],0,[],[],[]⟩) (exS:=⟨[.sl 57, .int .i64],[]⟩) Tryz.f27 (memC vK zK) (by kernel_rfl) (by kernel_rfl) fun x=>by kernel_rfl
theorem aM:zm Tryz.prog (KE Qk):=
 okC (A:=⟨[],[],[],0,[(4,⟨[13],⟨[.int .i64],[]⟩,[0,1,12],[],[],0,[],⟨[],[]⟩,[]⟩)],[],[]⟩) (exS:=⟨[.bool],[]⟩) Tryz.f195 zK (by kernel_rfl) (by kernel_rfl) fun x=>by kernel_rfl
theorem GK:zm Tryz.prog (SC Ck):=
 okC (A:=⟨[Bw pg,vv og,BD Pk,Fw xg,KE Qk],[(24,[5])],[],0,[(7,⟨[5,6,7],⟨[.own 2253, .own 2254, .int .i64],[(2253, .sl 5),(2254, .sl 211)]⟩,[0],[],[],0,[5],⟨[.own 2253],[(2253, .sl 5)]⟩,[2253]⟩),(11,⟨[9,36],⟨[.own 1834, .int .i64],[(1834, .sl 5)]⟩,[5,6,7,8,34,35],[2253,2254],[],2,[9],⟨[.own 1834],[(1834, .sl 5)]⟩,[1834]⟩)],[(17,⟨[5,6,7,9],⟨[.own 2253, .own 2254, .int .i64, .own 2356],[(2253, .sl 5),(2254, .sl 211),(2356, .sl 5)]⟩,[8],[],[2253,2254],0,[],⟨[],[]⟩,[]⟩),(21,⟨[5,6,7],⟨[.own 2253, .own 2254, .int .i64],[(2253, .sl 5),(2254, .sl 211),(2357, .row 211)]⟩,[9,12],[2356],[2253,2254,2357],0,[],⟨[],[]⟩,[]⟩),(24,⟨[5,6,7],⟨[.own 2461, .own 2254, .int .i64],[(2254, .sl 211),(2461, .sl 5)]⟩,[],[2357],[2254],0,[],⟨[],[]⟩,[]⟩)],[]⟩) (exS:=⟨[.str, .int .i64],[]⟩) Tryz.f163 (memC fB (memC dB (memC RL (memC LD (memC aM zK))))) (by kernel_rfl) (by kernel_rfl) fun x=>by kernel_rfl
theorem UJ:zm Tryz.prog (RB Sj):=
 okC (A:=⟨[QE ZA,YD Q9,SC Ck],[],[],0,[],[],[]⟩) (exS:=⟨[.str, .int .i64],[]⟩) Tryz.f115 (memC QK (memC wK (memC GK zK))) (by kernel_rfl) (by kernel_rfl) fun x=>by kernel_rfl
theorem SK:zm Tryz.prog (WB aj):=
 okC (A:=⟨[Yo Vf,Vu ig,RB Sj],[],[],0,[],[(13,⟨[8],⟨[.str],[]⟩,[],[],[],0,[],⟨[],[]⟩,[]⟩)],[]⟩) (exS:=⟨[.str, .int .i64],[]⟩) Tryz.f72 (memC av (memC JB (memC UJ zK))) (by kernel_rfl) (by kernel_rfl) fun x=>by kernel_rfl
theorem nD(zq:zh×Bool->Option (Str×Bool))(h_cond_supports:zm Tryz.prog (qB zq)):zm Tryz.prog (Rw (qE zq)):=
 okC (A:=⟨[qB zq,Xu kg],[],[],2,[],[],[]⟩) (exS:=⟨[.str],[(1, .row 4)]⟩) Tryz.f70 (memC h_cond_supports (memC MB zK)) (by kernel_rfl) (by kernel_rfl) fun x=>by kernel_rfl
theorem XL(zq:zh×Bool->Option (Str×Bool))(h_cond_supports:zm Tryz.prog (qB zq)):zm Tryz.prog (GD (Ji zq)):=
 okC (A:=⟨[Rw (qE zq),Ir ve],[(5,[4])],[(7,[(7,none)])],2,[(3,⟨[7,12],⟨[.own 2462, .int .i64],[(1, .row 4),(2462, .sl 9)]⟩,[1,2,6,10,11],[],[1],0,[7],⟨[.own 2462],[(1, .row 4),(2462, .sl 9)]⟩,[1,2462]⟩)],[],[]⟩) (exS:=⟨[.str],[(1, .row 4)]⟩) Tryz.f68 (memC (nD zq h_cond_supports) (memC gy zK)) (by kernel_rfl) (by kernel_rfl) fun x=>by kernel_rfl
theorem EM(zq:zh×Bool->Option (Str×Bool))(hs:zm Tryz.prog (qB zq)):zm Tryz.prog (qB (Q8 zq)):=
 okC (A:=⟨[WB aj,Rw (qE zq),GD (Ji zq)],[],[],1,[],[],[]⟩) (exS:=⟨[.str],[(0, .row 4)]⟩) Tryz.f42 (memC SK (memC (nD zq hs) (memC (XL zq hs) zK))) (by kernel_rfl) (by kernel_rfl) fun x=>by kernel_rfl
theorem vL:zm Tryz.prog (qB zq):=
 zm.recE (I:=I) (P:=Tryz.prog) (f:=42) (inS:=⟨[.val 27, .optr 0],[(0, .row 4)]⟩) (cst:=[]) (outS:=⟨[.str],[(0, .row 4)]⟩) (k:=0) (Q8) (by kernel_rfl) (fun S h=>EM S h)
theorem lu:zm Tryz.prog (Io Rf):=
 okC (A:=⟨[jo Xf,Sw qC,Q3 zQ,qB zq],[],[],0,[],[(8,⟨[5],⟨[.str],[(1, .row 4)]⟩,[6],[],[1],0,[],⟨[],[]⟩,[]⟩)],[]⟩) (exS:=⟨[.str, .int .i64],[]⟩) Tryz.f14 (memC jv (memC oD (memC pK (memC vL zK)))) (by kernel_rfl) (by kernel_rfl) fun x=>by kernel_rfl
theorem Ow:zm Tryz.prog (Rp Zz):=
 okC (A:=⟨[Fw xg,Iz parseF],[],[],0,[],[],[]⟩) (exS:=⟨[.sl 59],[]⟩) Tryz.f24 (memC LD (memC NH zK)) (by kernel_rfl) (by kernel_rfl) fun x=>by kernel_rfl
theorem CK:zm Tryz.prog (MC Kk):=
 okC (A:=⟨[QE ZA,Ki ZQ],[(12,[7]),(15,[5])],[],0,[(9,⟨[7,8,24],⟨[.own 2466, .int .i64, .int .i64],[(2466, .sl 22)]⟩,[0,1,4,5,22,23],[],[],0,[7,8],⟨[.own 2466, .int .i64],[(2466, .sl 22)]⟩,[2466]⟩)],[(14,⟨[7,8,24],⟨[.own 2568, .int .i64, .int .i64],[(2568, .sl 22)]⟩,[],[],[],0,[],⟨[],[]⟩,[]⟩)],[]⟩) (exS:=⟨[.sl 22, .int .i64],[]⟩) Tryz.f52 (memC QK (memC EB zK)) (by kernel_rfl) (by kernel_rfl) fun x=>by kernel_rfl
theorem qH:zm Tryz.prog (qb zB):=
 okC (A:=⟨[],[],[],1,[],[],[]⟩) (exS:=⟨[.int .u8],[]⟩) Tryz.f89 zK (by kernel_rfl) (by kernel_rfl) fun x=>by kernel_rfl
theorem qI:zm Tryz.prog (qc zC):=
 okC (A:=⟨[],[],[],1,[],[],[]⟩) (exS:=⟨[.optr 1],[(0, .row 85),(1, .row 59)]⟩) Tryz.f90 zK (by kernel_rfl) (by kernel_rfl) fun x=>by kernel_rfl
theorem Qj:zm Tryz.prog (ql zw):=
 okC (A:=⟨[qb zB,qc zC],[],[],1,[(2,⟨[],⟨[],[(0, .row 85)]⟩,[0,2,3],[],[0],0,[],⟨[],[(0, .row 85)]⟩,[0]⟩)],[],[]⟩) (exS:=⟨[.bool],[(0, .row 85)]⟩) Tryz.f53 (memC qH (memC qI zK)) (by kernel_rfl) (by kernel_rfl) fun x=>by kernel_rfl
theorem lw:zm Tryz.prog (QV Zc):=
 okC (A:=⟨[qb zB,Ti ZW,qc zC],[],[],1,[(2,⟨[9],⟨[.int .i64],[(0, .row 85)]⟩,[0,7,8],[],[0],0,[],⟨[],[(0, .row 85)]⟩,[0]⟩)],[],[]⟩) (exS:=⟨[.str],[(0, .row 85)]⟩) Tryz.f86 (memC qH (memC Ol (memC qI zK))) (by kernel_rfl) (by kernel_rfl) fun x=>by kernel_rfl
theorem DN:zm Tryz.prog (nE ZU):=
 okC (A:=⟨[qb zB,qc zC,ql zw,QV Zc,Ti ZW,Sv Ah],[(6,[1])],[],1,[],[(11,⟨[],⟨[],[(1, .cells 27 [.int .u8, .str, .int .i64, .str, .nilv, .bool, .nilv]),(2, .row 85),(3, .cells 27 [.int .u8, .str, .int .i64, .str, .nilv, .bool, .nilv])]⟩,[2,4,5],[0],[1,2,3],0,[],⟨[],[]⟩,[]⟩)],[]⟩) (exS:=⟨[.optr 1, .bool],[(0, .row 85),(1, .row 27)]⟩) Tryz.f93 (memC qH (memC qI (memC Qj (memC lw (memC Ol (memC kC zK)))))) (by kernel_rfl) (by kernel_rfl) fun x=>by kernel_rfl
theorem lM:zm Tryz.prog (UE Qx):=
 okC (A:=⟨[ql zw,QV Zc,qb zB,qc zC,Si ZJ,Tv Bh,nE ZU],[(3,[1]),(9,[4]),(13,[3]),(17,[1]),(23,[3]),(25,[1])],[(25,[(4,some 6)])],1,[(15,⟨[],⟨[],[(0, .row 85),(1, .cells 27 [.int .u8, .str, .int .i64, .str, .nilv, .bool, .nilv]),(2, .cells 27 [.int .u8, .str, .int .i64, .str, .nilv, .bool, .own 2671]),(2671, .sl 27)]⟩,[],[],[0,1,2],0,[],⟨[],[(0, .row 85),(1, .cells 27 [.int .u8, .str, .int .i64, .str, .nilv, .bool, .nilv]),(2, .cells 27 [.int .u8, .str, .int .i64, .str, .nilv, .bool, .own 2671]),(2671, .sl 27)]⟩,[0,1,2,2671]⟩)],[(14,⟨[],⟨[],[(0, .row 85),(1, .cells 27 [.int .u8, .str, .int .i64, .str, .nilv, .bool, .nilv]),(2, .cells 27 [.int .u8, .str, .int .i64, .str, .nilv, .bool, .own 2569]),(2569, .sl 27)]⟩,[0,2,4,5],[],[0,1,2],0,[],⟨[],[]⟩,[]⟩),(26,⟨[],⟨[],[(1, .cells 27 [.int .u8, .str, .int .i64, .str, .nilv, .bool, .nilv]),(2, .cells 27 [.int .u8, .str, .int .i64, .str, .nilv, .bool, .sl 27])]⟩,[],[0],[1,2],0,[],⟨[],[]⟩,[]⟩)],[]⟩) (exS:=⟨[.optr 1, .bool],[(0, .row 85),(1, .row 27)]⟩) Tryz.f54 (memC Qj (memC lw (memC qH (memC qI (memC Nl (memC lC (memC DN zK))))))) (by kernel_rfl) (by kernel_rfl) fun x=>by kernel_rfl
theorem gB:zm Tryz.prog (Uv Yf):=
 okC (A:=⟨[MC Kk,ql zw,UE Qx],[(17,[1]),(18,[1]),(19,[3])],[],0,[(13,⟨[44],⟨[.int .i64],[(1, .cells 27 [.int .u8, .str, .int .i64, .str, .nilv, .bool, .own 2672]),(2672, .sl 27)]⟩,[7,42,43],[0],[1],0,[],⟨[],[(1, .cells 27 [.int .u8, .str, .int .i64, .str, .nilv, .bool, .own 2672]),(2672, .sl 27)]⟩,[1,2672]⟩)],[(9,⟨[],⟨[],[(0, .cells 27 [.int .u8, .str, .int .i64, .str, .nilv, .bool, .nilv])]⟩,[2,4],[],[0],0,[],⟨[],[]⟩,[]⟩),(19,⟨[],⟨[],[(1, .cells 27 [.int .u8, .str, .int .i64, .str, .nilv, .bool, .own 2672]),(2672, .sl 27),(2674, .row 27)]⟩,[10,44],[],[1,2672,2674],0,[],⟨[],[]⟩,[]⟩)],[]⟩) (exS:=⟨[.optr 0, .int .i64],[(0, .row 27)]⟩) Tryz.f25 (memC CK (memC Qj (memC lM zK))) (by kernel_rfl) (by kernel_rfl) fun x=>by kernel_rfl
theorem aC:zm Tryz.prog (Ov zU):=
 okC (A:=⟨[Rp Zz,Uv Yf,Io Rf,Vv qU],[],[],0,[(6,⟨[13],⟨[.int .i64],[]⟩,[2,3,9],[0],[],0,[],⟨[],[]⟩,[]⟩)],[],[]⟩) (exS:=⟨[.bool],[]⟩) Tryz.f21 (memC Ow (memC gB (memC lu (memC iB zK)))) (by kernel_rfl) (by kernel_rfl) fun x=>by kernel_rfl
theorem YJ:zm Tryz.prog (VB jg):=
 okC (A:=⟨[Fg ZG],[],[],0,[(1,⟨[0],⟨[.sl 59],[]⟩,[2],[],[],0,[0],⟨[.sl 59],[]⟩,[]⟩)],[],[]⟩) (exS:=⟨[.sl 59],[]⟩) Tryz.f203 (memC ng zK) (by kernel_rfl) (by kernel_rfl) fun x=>by kernel_rfl
theorem IK:zm Tryz.prog (UC ug):=
 okC (A:=⟨[Fg ZG],[],[],0,[(1,⟨[0],⟨[.sl 59],[]⟩,[2],[],[],0,[0],⟨[.sl 59],[]⟩,[]⟩)],[],[]⟩) (exS:=⟨[.sl 59],[]⟩) Tryz.f202 (memC ng zK) (by kernel_rfl) (by kernel_rfl) fun x=>by kernel_rfl
theorem aJ:zm Tryz.prog (yA Pj):=
 okC (A:=⟨[VB jg,UC ug,Fg ZG,Zb strings_HasPrefix,Si ZJ,Ti ZW,Wu Ai,Uu ag,Yo Vf],[],[],0,[],[(7,⟨[0],⟨[.sl 59],[(0, .cells 24 [.str, .nilv, .bool]),(1, .cells 24 [.str, .nilv, .bool])]⟩,[2,4],[],[0,1],0,[],⟨[],[]⟩,[]⟩),(16,⟨[0],⟨[.sl 59],[(0, .cells 24 [.str, .nilv, .bool]),(1, .cells 24 [.str, .nilv, .bool])]⟩,[],[],[0,1],0,[],⟨[],[]⟩,[]⟩)],[]⟩) (exS:=⟨[.optr 0, .bool],[(0, .row 24)]⟩) Tryz.f174 (memC YJ (memC IK (memC ng (memC Ze (memC Nl (memC Ol (memC LB (memC IB (memC av zK))))))))) (by kernel_rfl) (by kernel_rfl) fun x=>by kernel_rfl
theorem bJ:zm Tryz.prog (AB Rj):=
 okC (A:=⟨[QE ZA,yA Pj],[],[],0,[],[],[]⟩) (exS:=⟨[.optr 0, .bool, .int .i64],[(0, .row 24)]⟩) Tryz.f132 (memC QK (memC aJ zK)) (by kernel_rfl) (by kernel_rfl) fun x=>by kernel_rfl
theorem VM(zu:zf->Option ((zh×Bool)×zf))(h_cond_reader_told:zm Tryz.prog (qd zu)):zm Tryz.prog (xD (qg zu)):=
 okC (A:=⟨[qb zB,qc zC,AB Rj,qd zu],[],[],1,[],[],[]⟩) (exS:=⟨[.optr 1, .bool],[(0, .row 85),(1, .row 27)]⟩) Tryz.f87 (memC qH (memC qI (memC bJ (memC h_cond_reader_told zK)))) (by kernel_rfl) (by kernel_rfl) fun x=>by kernel_rfl
theorem OM(zu:zf->Option ((zh×Bool)×zf))(hs:zm Tryz.prog (qd zu)):zm Tryz.prog (qd (Qb zu)):=
 okC (A:=⟨[ql zw,QV Zc,xD (qg zu)],[(2,[1]),(6,[1]),(15,[5]),(23,[3])],[],1,[(14,⟨[9],⟨[.bool],[(0, .row 85),(1, .cells 27 [.int .u8, .str, .int .i64, .str, .nilv, .bool, .nilv]),(5, .cells 27 [.int .u8, .str, .int .i64, .str, .nilv, .bool, .own 2673]),(2673, .sl 27)]⟩,[0,2,10],[],[0,1,5],0,[],⟨[],[(0, .row 85),(1, .cells 27 [.int .u8, .str, .int .i64, .str, .nilv, .bool, .nilv]),(5, .cells 27 [.int .u8, .str, .int .i64, .str, .nilv, .bool, .own 2673]),(2673, .sl 27)]⟩,[0,1,5,2673]⟩)],[],[]⟩) (exS:=⟨[.optr 1, .bool],[(0, .row 85),(1, .row 27)]⟩) Tryz.f51 (memC Qj (memC lw (memC (VM zu hs) zK))) (by kernel_rfl) (by kernel_rfl) fun x=>by kernel_rfl
theorem UM:zm Tryz.prog (qd zu):=
 zm.recE (I:=I) (P:=Tryz.prog) (f:=51) (inS:=⟨[.optr 0],[(0, .row 85)]⟩) (cst:=[]) (outS:=⟨[.val 27, .bool],[(0, .row 85)]⟩) (k:=0) (Qb) (by kernel_rfl) (fun S h=>OM S h)
theorem iD:zm Tryz.prog (Mw qY):=
 okC (A:=⟨[QE ZA,qd zu,qj zW],[],[],0,[],[],[]⟩) (exS:=⟨[.optr 0, .int .i64],[(0, .row 27)]⟩) Tryz.f23 (memC QK (memC UM (memC Qi zK))) (by kernel_rfl) (by kernel_rfl) fun x=>by kernel_rfl
theorem KM:zm Tryz.prog (kD Pp):=
 okC (A:=⟨[],[],[],3,[],[],[]⟩) (exS:=⟨[.bool],[(0, .row 3)]⟩) Tryz.f38 zK (by kernel_rfl) (by kernel_rfl) fun x=>by kernel_rfl
theorem uK(Zg:(zh×Int)×Int×List Bool->Option (Bool×Int))(hs:zm Tryz.prog (Xl Zg)):zm Tryz.prog (Xl (Vl Zg)):=
 okC (A:=⟨[kD Pp,Xl Zg],[],[],3,[(14,⟨[7,8,45],⟨[.bool, .bool, .int .i64],[(0, .row 3)]⟩,[1,2,3,6,43,44],[3],[0],1,[7,8],⟨[.bool, .bool],[(0, .row 3)]⟩,[0]⟩)],[],[]⟩) (exS:=⟨[.bool],[(0, .row 3)]⟩) Tryz.f37 (memC KM (memC hs zK)) (by kernel_rfl) (by kernel_rfl) fun x=>by kernel_rfl
theorem BL:zm Tryz.prog (Xl Zg):=
 zm.recE (I:=I) (P:=Tryz.prog) (f:=37) (inS:=⟨[.val 27, .int .i64, .clo 38 [0,1]],[(0, .row 3),(1, .cells 30 [.own 2]),(2, .sl 4)]⟩) (cst:=[1,2]) (outS:=⟨[.bool],[(0, .row 3)]⟩) (k:=0) (Vl) (by kernel_rfl) (fun S h=>uK S h)
theorem CL:zm Tryz.prog (dD Wi):=
 okC (A:=⟨[jo Xf,Q0 Zk,Xl Zg],[],[],1,[],[],[]⟩) (exS:=⟨[.bool, .int .i64],[]⟩) Tryz.f12 (memC jv (memC bv (memC BL zK))) (by kernel_rfl) (by kernel_rfl) fun x=>by kernel_rfl
theorem CE:zm Tryz.prog (dw zY):=
 okC (A:=⟨[Rp Zz,Mw qY,Io Rf,Wv mg,dD Wi],[],[],0,[(9,⟨[18],⟨[.int .i64],[(1, .sl 4)]⟩,[2,3,8,9,15,16,17],[0],[1],0,[],⟨[],[(1, .sl 4)]⟩,[1]⟩)],[],[]⟩) (exS:=⟨[.bool],[]⟩) Tryz.f22 (memC Ow (memC iD (memC lu (memC jB (memC CL zK))))) (by kernel_rfl) (by kernel_rfl) fun x=>by kernel_rfl
theorem PL:zm Tryz.prog (yC Nk):=
 okC (A:=⟨[Ov zU,dw zY],[],[],0,[],[],[]⟩) (exS:=⟨[.bool],[]⟩) Tryz.f26 (memC aC (memC CE zK)) (by kernel_rfl) (by kernel_rfl) fun x=>by kernel_rfl
theorem GM:zm Tryz.prog (NM Ep):=
 okC (A:=⟨[Ov zU,dw zY,Rp Zz,Mw qY,Uv Yf,Vv qU,Io Rf,Wv mg,qj zW,yC Nk],[(3,[0]),(17,[3]),(22,[2]),(23,[2]),(24,[2]),(28,[2]),(33,[1]),(34,[1]),(35,[1,3])],[],0,[(5,⟨[4],⟨[.int .i64],[]⟩,[1,2,3],[],[],0,[],⟨[],[]⟩,[]⟩),(12,⟨[7,8],⟨[.str, .int .i64],[]⟩,[1,2],[],[],2,[7],⟨[.str],[]⟩,[]⟩),(31,⟨[36],⟨[.int .i64],[(11, .row 27)]⟩,[1,2,10,11,12,15,17,20,22,24,26,28,30,32,33,34,35],[2],[11],4,[],⟨[],[(11, .row 27)]⟩,[11]⟩)],[],[]⟩) (exS:=⟨[.bool],[]⟩) Tryz.f4 (memC aC (memC CE (memC Ow (memC iD (memC gB (memC iB (memC lu (memC jB (memC Qi (memC PL zK)))))))))) (by kernel_rfl) (by kernel_rfl) fun x=>by kernel_rfl
end Go.Lv.VT
