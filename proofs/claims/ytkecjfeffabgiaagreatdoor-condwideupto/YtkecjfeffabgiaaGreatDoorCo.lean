/- Contracts. -/
import Derived.Test.YtkecjfeffabgiaaGreatDoorCoa
set_option linter.unusedSimpArgs false
set_option linter.unusedVariables false
namespace Go.Lv.VT
set_option maxRecDepth 100000
open Go.Proofs
theorem PX(zU:zg->Option Str)(h_cond_media:zm Tryz.prog (uk zU)):zm Tryz.prog (CK (Pn zU)):=
 okC (A:=⟨[uk zU,VA Kh],[(5,[4])],[(7,[(7,none)])],0,[(3,⟨[7,12],⟨[.own 1417, .int .i64],[(1417, .sl 9)]⟩,[1,2,6,10,11],[],[],0,[7],⟨[.own 1417],[(1417, .sl 9)]⟩,[1417]⟩)],[],[]⟩) (exS:=⟨[.str],[]⟩) Tryz.f68 (memC h_cond_media (memC lH zC)) (by kernel_rfl) (by kernel_rfl) fun x=>by kernel_rfl
theorem YX(zU:zg->Option Str)(hs:zm Tryz.prog (uk zU)):zm Tryz.prog (uk (Us zU)):=
 okC (A:=⟨[LD Dk,uk zU,CK (Pn zU),kL kr],[],[],0,[],[],[]⟩) (exS:=⟨[.str],[]⟩) Tryz.f41 (memC UK (memC hs (memC (PX zU hs) (memC LZ zC)))) (by kernel_rfl) (by kernel_rfl) fun x=>by kernel_rfl
theorem eY:zm Tryz.prog (uk zU):=
 zm.recE (I:=I) (P:=Tryz.prog) (f:=41) (inS:=⟨[.val 27],[]⟩) (cst:=[]) (outS:=⟨[.str],[]⟩) (k:=0) (Us) (by kernel_rfl) (fun S h=>YX S h)
theorem JZ:zm Tryz.prog (iL QI):=
 okC (A:=⟨[Ex QW,Oo Z8,Hy Zk],[(6,[2])],[],1,[(2,⟨[0,11],⟨[.own 1419, .int .i64],[(1419, .sl 5)]⟩,[1,2,6,10],[],[],0,[0],⟨[.own 1419],[(1419, .sl 5)]⟩,[1419]⟩)],[(8,⟨[0,11],⟨[.own 1521, .int .i64],[(1521, .sl 5)]⟩,[],[],[],0,[],⟨[],[]⟩,[]⟩)],[]⟩) (exS:=⟨[.own 1],[(1, .sl 5)]⟩) Tryz.f110 (memC xD (memC Wt (memC wE zC))) (by kernel_rfl) (by kernel_rfl) fun x=>by kernel_rfl
theorem WY:zm Tryz.prog (mK Xw):=
 okC (A:=⟨[],[],[],0,[],[],[]⟩) (exS:=⟨[.optr 0],[(0, .row 230)]⟩) Tryz.f221 zC (by kernel_rfl) (by kernel_rfl) fun x=>by kernel_rfl
theorem K3:zm Tryz.prog (kM Qu):=
 okC (A:=⟨[dJ Vv,yI xu,UH Em],[(2,[1]),(6,[1])],[],1,[],[(3,⟨[0,1],⟨[.own 2043, .int .i64],[(2043, .sl 5)]⟩,[2],[],[],0,[],⟨[],[]⟩,[]⟩),(9,⟨[0],⟨[.own 2146],[(2146, .sl 5)]⟩,[],[],[],0,[],⟨[],[]⟩,[]⟩)],[]⟩) (exS:=⟨[.own 1],[(1, .sl 5)]⟩) Tryz.f220 (memC OW (memC iV (memC PT zC))) (by kernel_rfl) (by kernel_rfl) fun x=>by kernel_rfl
theorem IZ:zm Tryz.prog (gL Xr):=
 okC (A:=⟨[bD qg,iL QI,ZI strings_IndexByte,Hy Zk,kM Qu,jE Aj,Ze strings_HasPrefix,mK Xw],[(5,[7]),(7,[1]),(12,[1]),(14,[1]),(20,[2]),(22,[1]),(30,[2]),(32,[1]),(38,[4])],[],1,[(16,⟨[0,67],⟨[.own 1836, .int .i64],[(1836, .sl 5)]⟩,[3,4,65,66],[1,4],[],1,[0],⟨[.own 1836],[(1836, .sl 5)]⟩,[1836]⟩),(26,⟨[0,93],⟨[.own 1940, .int .i64],[(1940, .sl 5)]⟩,[3,4,91,92],[1,3],[],3,[0],⟨[.own 1940],[(1940, .sl 5)]⟩,[1940]⟩)],[(12,⟨[5],⟨[.int .i64],[(0, .sl 5)]⟩,[0,3],[1],[0],0,[],⟨[],[]⟩,[]⟩),(21,⟨[0,67],⟨[.own 1938, .int .i64],[(1938, .sl 5)]⟩,[],[],[],0,[],⟨[],[]⟩,[]⟩),(31,⟨[0,93],⟨[.own 2042, .int .i64],[(2042, .sl 5)]⟩,[],[],[],0,[],⟨[],[]⟩,[]⟩)],[]⟩) (exS:=⟨[.own 1],[(1, .sl 5)]⟩) Tryz.f194 (memC yK (memC JZ (memC Z9 (memC wE (memC K3 (memC sM (memC Zi (memC WY zC)))))))) (by kernel_rfl) (by kernel_rfl) fun x=>by kernel_rfl
theorem O7:zm Tryz.prog (AO ZE):=
 okC (A:=⟨[Ze strings_HasPrefix,jB Si],[],[],1,[(0,⟨[],⟨[],[(0, .row 121)]⟩,[0],[],[0],0,[],⟨[],[(0, .row 121)]⟩,[0]⟩)],[],[]⟩) (exS:=⟨[],[(0, .row 121)]⟩) Tryz.f95 (memC Zi (memC gI zC)) (by kernel_rfl) (by kernel_rfl) fun x=>by kernel_rfl
theorem zM:zm Tryz.prog (zJ zf):=
 okC (A:=⟨[],[],[],1,[],[],[]⟩) (exS:=⟨[.int .i64],[]⟩) Tryz.f138 zC (by kernel_rfl) (by kernel_rfl) fun x=>by kernel_rfl
theorem Jt:zm Tryz.prog (Yo Zz):=
 okC (A:=⟨[],[],[],0,[],[],[]⟩) (exS:=⟨[.bool],[]⟩) Tryz.f139 zC (by kernel_rfl) (by kernel_rfl) fun x=>by kernel_rfl
theorem XF:zm Tryz.prog (Qp Za):=
 okC (A:=⟨[zJ zf,Yo Zz],[],[],1,[(0,⟨[],⟨[],[(0, .row 121)]⟩,[0,1],[],[0],0,[],⟨[],[(0, .row 121)]⟩,[0]⟩)],[],[]⟩) (exS:=⟨[],[(0, .row 121)]⟩) Tryz.f140 (memC zM (memC Jt zC)) (by kernel_rfl) (by kernel_rfl) fun x=>by kernel_rfl
theorem A8:zm Tryz.prog (UO QM):=
 okC (A:=⟨[],[(2,[1]),(4,[9]),(7,[14]),(9,[19])],[],0,[],[(7,⟨[25],⟨[.bool],[]⟩,[0,1,5],[],[],0,[],⟨[],[]⟩,[]⟩)],[]⟩) (exS:=⟨[.own 0],[(0, .sl 5)]⟩) Tryz.f244 zC (by kernel_rfl) (by kernel_rfl) fun x=>by kernel_rfl
theorem R5:zm Tryz.prog (XN qV):=
 okC (A:=⟨[UO QM],[(2,[3])],[],0,[],[],[]⟩) (exS:=⟨[.own 0],[(0, .sl 5)]⟩) Tryz.f210 (memC A8 zC) (by kernel_rfl) (by kernel_rfl) fun x=>by kernel_rfl
theorem Iy:zm Tryz.prog (Tt qQ):=
 okC (A:=⟨[],[],[],0,[],[],[]⟩) (exS:=⟨[.bool],[]⟩) Tryz.f212 zC (by kernel_rfl) (by kernel_rfl) fun x=>by kernel_rfl
theorem Lt:zm Tryz.prog (jo ZL):=
 okC (A:=⟨[Tt qQ],[],[],0,[],[],[]⟩) (exS:=⟨[.bool],[]⟩) Tryz.f182 (memC Iy zC) (by kernel_rfl) (by kernel_rfl) fun x=>by kernel_rfl
theorem vK:zm Tryz.prog (JD Ih):=
 okC (A:=⟨[jo ZL,Tt qQ],[],[],0,[],[],[]⟩) (exS:=⟨[.int .i64],[]⟩) Tryz.f211 (memC Lt (memC Iy zC)) (by kernel_rfl) (by kernel_rfl) fun x=>by kernel_rfl
theorem M7:zm Tryz.prog (tN Z0):=
 okC (A:=⟨[zJ zf,XN qV,JD Ih,Yo Zz],[(7,[3])],[],1,[(10,⟨[6,36],⟨[.int .i64, .int .i64],[(0, .row 121)]⟩,[0,1,4],[],[0],0,[6],⟨[.int .i64],[(0, .row 121)]⟩,[0]⟩)],[(17,⟨[6],⟨[.int .i64],[(0, .row 121)]⟩,[1],[],[0],0,[],⟨[],[]⟩,[]⟩),(19,⟨[6],⟨[.int .i64],[]⟩,[],[0],[],0,[],⟨[],[]⟩,[]⟩)],[]⟩) (exS:=⟨[.own 1],[(0, .row 121),(1, .sl 5)]⟩) Tryz.f180 (memC zM (memC R5 (memC vK (memC Jt zC)))) (by kernel_rfl) (by kernel_rfl) fun x=>by kernel_rfl
theorem u7:zm Tryz.prog (RO QN):=
 okC (A:=⟨[],[(2,[1]),(4,[9]),(7,[14]),(9,[19])],[],1,[],[(7,⟨[25],⟨[.bool],[(0, .sl 5)]⟩,[0,1,5],[],[0],0,[],⟨[],[]⟩,[]⟩)],[]⟩) (exS:=⟨[.own 1],[(1, .sl 5)]⟩) Tryz.f244 zC (by kernel_rfl) (by kernel_rfl) fun x=>by kernel_rfl
theorem P5:zm Tryz.prog (WN qW):=
 okC (A:=⟨[RO QN],[(2,[3])],[],1,[],[],[]⟩) (exS:=⟨[.own 1],[(1, .sl 5)]⟩) Tryz.f210 (memC u7 zC) (by kernel_rfl) (by kernel_rfl) fun x=>by kernel_rfl
theorem Qk:zm Tryz.prog (qi zV):=
 okC (A:=⟨[zJ zf,WN qW,JD Ih,Yo Zz],[(7,[3])],[],2,[(10,⟨[6,36],⟨[.int .i64, .int .i64],[(0, .row 121)]⟩,[0,1,4],[1],[0],0,[6],⟨[.int .i64],[(0, .row 121)]⟩,[0]⟩)],[(17,⟨[6],⟨[.int .i64],[(0, .row 121),(1, .sl 5)]⟩,[1],[],[0,1],0,[],⟨[],[]⟩,[]⟩),(19,⟨[6],⟨[.int .i64],[(1, .sl 5)]⟩,[],[0],[1],0,[],⟨[],[]⟩,[]⟩)],[]⟩) (exS:=⟨[.own 2],[(0, .row 121),(2, .sl 5)]⟩) Tryz.f180 (memC zM (memC P5 (memC vK (memC Jt zC)))) (by kernel_rfl) (by kernel_rfl) fun x=>by kernel_rfl
theorem D7:zm Tryz.prog (JO qM):=
 okC (A:=⟨[zJ zf,qi zV],[(5,[3])],[],1,[(4,⟨[4],⟨[.own 2148],[(0, .row 121),(1, .row 57),(2148, .sl 5)]⟩,[0,2,3],[],[0,1],0,[4],⟨[.own 2148],[(0, .row 121),(1, .row 57),(2148, .sl 5)]⟩,[0,1,2148]⟩)],[],[]⟩) (exS:=⟨[.optr 1],[(0, .row 121),(1, .row 57)]⟩) Tryz.f141 (memC zM (memC Qk zC)) (by kernel_rfl) (by kernel_rfl) fun x=>by kernel_rfl
theorem FM:zm Tryz.prog (nD Un):=
 okC (A:=⟨[Tt qQ],[],[],0,[],[],[]⟩) (exS:=⟨[.bool],[]⟩) Tryz.f181 (memC Iy zC) (by kernel_rfl) (by kernel_rfl) fun x=>by kernel_rfl
theorem oM:zm Tryz.prog (dE ik):=
 okC (A:=⟨[nD Un,jo ZL],[],[],0,[],[],[]⟩) (exS:=⟨[.bool],[]⟩) Tryz.f142 (memC FM (memC Lt zC)) (by kernel_rfl) (by kernel_rfl) fun x=>by kernel_rfl
theorem ZZ:zm Tryz.prog (ZB zK):=
 okC (A:=⟨[zJ zf],[],[],1,[],[],[]⟩) (exS:=⟨[.bool],[]⟩) Tryz.f143 (memC zM zC) (by kernel_rfl) (by kernel_rfl) fun x=>by kernel_rfl
theorem iN:zm Tryz.prog (RF z8):=
 okC (A:=⟨[zJ zf,nD Un,ZB zK],[],[],1,[],[],[]⟩) (exS:=⟨[.bool],[]⟩) Tryz.f144 (memC zM (memC FM (memC ZZ zC))) (by kernel_rfl) (by kernel_rfl) fun x=>by kernel_rfl
theorem iF:zm Tryz.prog (QQ Zd):=
 okC (A:=⟨[zJ zf,dE ik,ZB zK,qi zV],[(5,[3])],[],1,[(2,⟨[3],⟨[.own 2149],[(0, .row 121),(2149, .sl 5)]⟩,[0],[],[0],0,[],⟨[],[]⟩,[]⟩)],[],[]⟩) (exS:=⟨[.str],[(0, .row 121)]⟩) Tryz.f145 (memC zM (memC oM (memC ZZ (memC Qk zC)))) (by kernel_rfl) (by kernel_rfl) fun x=>by kernel_rfl
theorem F7:zm Tryz.prog (KO QR):=
 okC (A:=⟨[zJ zf,jo ZL],[],[],1,[],[(5,⟨[3],⟨[.int .i64],[]⟩,[0],[],[],0,[],⟨[],[]⟩,[]⟩),(7,⟨[3],⟨[.int .i64],[]⟩,[],[],[],0,[],⟨[],[]⟩,[]⟩)],[]⟩) (exS:=⟨[.bool],[]⟩) Tryz.f146 (memC zM (memC Lt zC)) (by kernel_rfl) (by kernel_rfl) fun x=>by kernel_rfl
theorem X6:zm Tryz.prog (MO Zt):=
 okC (A:=⟨[zJ zf,jo ZL],[],[],1,[(0,⟨[],⟨[],[(0, .row 121)]⟩,[0,1],[],[0],0,[],⟨[],[(0, .row 121)]⟩,[0]⟩)],[],[]⟩) (exS:=⟨[],[(0, .row 121)]⟩) Tryz.f140 (memC zM (memC Lt zC)) (by kernel_rfl) (by kernel_rfl) fun x=>by kernel_rfl
theorem l6:zm Tryz.prog (wN qo):=
 okC (A:=⟨[zJ zf,MO Zt,jo ZL],[],[],1,[],[(4,⟨[],⟨[],[(0, .row 121)]⟩,[0],[],[0],0,[],⟨[],[]⟩,[]⟩),(10,⟨[4],⟨[.bool],[(0, .row 121)]⟩,[],[],[0],0,[],⟨[],[]⟩,[]⟩),(15,⟨[4,5],⟨[.bool, .int .i64],[(0, .row 121)]⟩,[],[],[0],0,[],⟨[],[]⟩,[]⟩),(19,⟨[4],⟨[.bool],[(0, .row 121)]⟩,[],[],[0],0,[],⟨[],[]⟩,[]⟩)],[]⟩) (exS:=⟨[.bool],[(0, .row 121)]⟩) Tryz.f183 (memC zM (memC X6 (memC Lt zC))) (by kernel_rfl) (by kernel_rfl) fun x=>by kernel_rfl
theorem U5:zm Tryz.prog (YN Q7):=
 okC (A:=⟨[VH Oj,wJ oq,MG cutF],[],[],0,[(8,⟨[6,31],⟨[.int .i64, .int .i64],[]⟩,[0,2,3,4,5,29,30],[0],[],0,[6],⟨[.int .i64],[]⟩,[]⟩),(22,⟨[12,81],⟨[.int .i64, .int .i64],[]⟩,[4,79,80],[0],[],2,[12],⟨[.int .i64],[]⟩,[]⟩),(26,⟨[4,12],⟨[.int .i64, .int .i64],[]⟩,[],[],[],4,[12],⟨[.int .i64],[]⟩,[]⟩)],[(14,⟨[0,4,6],⟨[.str, .int .i64, .int .i64],[]⟩,[3,5],[],[],0,[],⟨[],[]⟩,[]⟩),(15,⟨[0,4],⟨[.str, .int .i64],[]⟩,[3],[],[],0,[],⟨[],[]⟩,[]⟩),(20,⟨[0,4],⟨[.str, .int .i64],[]⟩,[],[],[],0,[],⟨[],[]⟩,[]⟩),(31,⟨[12],⟨[.int .i64],[]⟩,[],[],[],0,[],⟨[],[]⟩,[]⟩)],[]⟩) (exS:=⟨[.int .i64],[]⟩) Tryz.f184 (memC UT (memC IX (memC YQ zC))) (by kernel_rfl) (by kernel_rfl) fun x=>by kernel_rfl
theorem Y6:zm Tryz.prog (OO qp):=
 okC (A:=⟨[wN qo,YN Q7,RF z8,QQ Zd,zJ zf],[],[],1,[],[(9,⟨[],⟨[],[(0, .row 121),(1, .row 57),(2, .row 57)]⟩,[2,5],[],[0,1,2],0,[],⟨[],[]⟩,[]⟩)],[]⟩) (exS:=⟨[.optr 1],[(0, .row 121),(1, .row 57)]⟩) Tryz.f147 (memC l6 (memC U5 (memC iN (memC iF (memC zM zC))))) (by kernel_rfl) (by kernel_rfl) fun x=>by kernel_rfl
theorem X5:zm Tryz.prog (bN qh):=
 okC (A:=⟨[zJ zf,ZB zK,tN Z0],[],[],1,[(1,⟨[],⟨[],[(0, .row 121),(1, .row 57)]⟩,[0,2],[],[0,1],0,[],⟨[],[]⟩,[]⟩)],[],[]⟩) (exS:=⟨[.optr 1],[(0, .row 121),(1, .row 57)]⟩) Tryz.f216 (memC zM (memC ZZ (memC M7 zC))) (by kernel_rfl) (by kernel_rfl) fun x=>by kernel_rfl
theorem V5:zm Tryz.prog (aN Q6):=
 okC (A:=⟨[Qp Za,zJ zf,Yo Zz,bN qh,Tt qQ,ZB zK,qi zV],[(18,[3])],[],1,[(3,⟨[3],⟨[.own 2150],[(0, .row 121),(1, .row 57),(2150, .sl 5)]⟩,[0,2],[],[0,1],0,[],⟨[],[]⟩,[]⟩)],[(10,⟨[3,4],⟨[.own 2150, .int .i64],[(0, .row 121),(1, .row 57),(2150, .sl 5)]⟩,[],[],[0,1,2150],0,[],⟨[],[]⟩,[]⟩)],[]⟩) (exS:=⟨[.optr 1],[(0, .row 121),(1, .row 57)]⟩) Tryz.f185 (memC XF (memC zM (memC Jt (memC X5 (memC Iy (memC ZZ (memC Qk zC))))))) (by kernel_rfl) (by kernel_rfl) fun x=>by kernel_rfl
theorem K6:zm Tryz.prog (jN Qg):=
 okC (A:=⟨[QQ Zd,zJ zf,Wo ZJ,Qp Za,aN Q6],[],[],1,[],[(11,⟨[],⟨[],[(0, .row 121),(1, .row 57)]⟩,[2,3],[],[0,1],0,[],⟨[],[]⟩,[]⟩)],[]⟩) (exS:=⟨[.optr 1],[(0, .row 121),(1, .row 57)]⟩) Tryz.f148 (memC iF (memC zM (memC Nt (memC XF (memC V5 zC))))) (by kernel_rfl) (by kernel_rfl) fun x=>by kernel_rfl
theorem L6:zm Tryz.prog (UN QE):=
 okC (A:=⟨[zJ zf,Yo Zz,Qp Za,JO qM,dE ik,ZB zK,RF z8,QQ Zd,KO QR,OO qp,Ze strings_HasPrefix,jN Qg,ZI strings_IndexByte],[],[],1,[],[],[]⟩) (exS:=⟨[.optr 1],[(0, .row 121),(1, .row 57)]⟩) Tryz.f96 (memC zM (memC Jt (memC XF (memC D7 (memC oM (memC ZZ (memC iN (memC iF (memC F7 (memC Y6 (memC Zi (memC K6 (memC Z9 zC))))))))))))) (by kernel_rfl) (by kernel_rfl) fun x=>by kernel_rfl
theorem D5:zm Tryz.prog (KN Gy):=
 okC (A:=⟨[],[(1,[2])],[],2,[],[],[]⟩) (exS:=⟨[],[(0, .cells 62 [.own 2]),(2, .sl 57)]⟩) Tryz.f56 zC (by kernel_rfl) (by kernel_rfl) fun x=>by kernel_rfl
theorem BZ:zm Tryz.prog (aM Ls):=
 okC (A:=⟨[YH Vl,AO ZE,UN QE,KN Gy],[],[],1,[(7,⟨[7],⟨[.int .i64],[(0, .cells 62 [.own 2151]),(2151, .sl 57),(1, .row 121)]⟩,[0,1,6],[],[0,1],0,[],⟨[],[(0, .cells 62 [.own 2151]),(2151, .sl 57),(1, .row 121)]⟩,[0,1,2151]⟩)],[],[]⟩) (exS:=⟨[.int .i64],[(0, .cells 62 [.own 1]),(1, .sl 57)]⟩) Tryz.f55 (memC YT (memC O7 (memC L6 (memC D5 zC)))) (by kernel_rfl) (by kernel_rfl) fun x=>by kernel_rfl
theorem pM:zm Tryz.prog (fE jk):=
 okC (A:=⟨[aM Ls],[],[],0,[],[],[]⟩) (exS:=⟨[.sl 57, .int .i64],[]⟩) Tryz.f27 (memC BZ zC) (by kernel_rfl) (by kernel_rfl) fun x=>by kernel_rfl
theorem O6:zm Tryz.prog (nN QD):=
 okC (A:=⟨[],[],[],0,[(4,⟨[13],⟨[.int .i64],[]⟩,[0,1,12],[],[],0,[],⟨[],[]⟩,[]⟩)],[],[]⟩) (exS:=⟨[.bool],[]⟩) Tryz.f195 zC (by kernel_rfl) (by kernel_rfl) fun x=>by kernel_rfl
theorem XY:zm Tryz.prog (nK Nr):=
 okC (A:=⟨[dD Qo,aD Ii,gL Xr,fE jk,nN QD],[(24,[5])],[],0,[(7,⟨[5,6,7],⟨[.own 2253, .own 2254, .int .i64],[(2253, .sl 5),(2254, .sl 211)]⟩,[0],[],[],0,[5],⟨[.own 2253],[(2253, .sl 5)]⟩,[2253]⟩),(11,⟨[9,36],⟨[.own 1834, .int .i64],[(1834, .sl 5)]⟩,[5,6,7,8,34,35],[2253,2254],[],2,[9],⟨[.own 1834],[(1834, .sl 5)]⟩,[1834]⟩)],[(17,⟨[5,6,7,9],⟨[.own 2253, .own 2254, .int .i64, .own 2356],[(2253, .sl 5),(2254, .sl 211),(2356, .sl 5)]⟩,[8],[],[2253,2254],0,[],⟨[],[]⟩,[]⟩),(21,⟨[5,6,7],⟨[.own 2253, .own 2254, .int .i64],[(2253, .sl 5),(2254, .sl 211),(2357, .row 211)]⟩,[9,12],[2356],[2253,2254,2357],0,[],⟨[],[]⟩,[]⟩),(24,⟨[5,6,7],⟨[.own 2461, .own 2254, .int .i64],[(2254, .sl 211),(2461, .sl 5)]⟩,[],[2357],[2254],0,[],⟨[],[]⟩,[]⟩)],[]⟩) (exS:=⟨[.str, .int .i64],[]⟩) Tryz.f163 (memC AL (memC xK (memC IZ (memC pM (memC O6 zC))))) (by kernel_rfl) (by kernel_rfl) fun x=>by kernel_rfl
theorem FX:zm Tryz.prog (uJ Br):=
 okC (A:=⟨[Q9 Zv,gM QJ,nK Nr],[],[],0,[],[],[]⟩) (exS:=⟨[.str, .int .i64],[]⟩) Tryz.f115 (memC Yk (memC FZ (memC XY zC))) (by kernel_rfl) (by kernel_rfl) fun x=>by kernel_rfl
theorem MX:zm Tryz.prog (BK rq):=
 okC (A:=⟨[Fx Qn,LD Dk,uJ Br],[],[],0,[],[(13,⟨[8],⟨[.str],[]⟩,[],[],[],0,[],⟨[],[]⟩,[]⟩)],[]⟩) (exS:=⟨[.str, .int .i64],[]⟩) Tryz.f72 (memC yD (memC UK (memC FX zC))) (by kernel_rfl) (by kernel_rfl) fun x=>by kernel_rfl
theorem RN(zt:zg×Bool->Option (Str×Bool))(h_cond_supports:zm Tryz.prog (qX zt)):zm Tryz.prog (uE (qZ zt)):=
 okC (A:=⟨[qX zt,OD Di],[],[],2,[],[],[]⟩) (exS:=⟨[.str],[(1, .row 4)]⟩) Tryz.f70 (memC h_cond_supports (memC WK zC)) (by kernel_rfl) (by kernel_rfl) fun x=>by kernel_rfl
theorem MZ(zt:zg×Bool->Option (Str×Bool))(h_cond_supports:zm Tryz.prog (qX zt)):zm Tryz.prog (lL (dn zt)):=
 okC (A:=⟨[uE (qZ zt),VA Kh],[(5,[4])],[(7,[(7,none)])],2,[(3,⟨[7,12],⟨[.own 2462, .int .i64],[(1, .row 4),(2462, .sl 9)]⟩,[1,2,6,10,11],[],[1],0,[7],⟨[.own 2462],[(1, .row 4),(2462, .sl 9)]⟩,[1,2462]⟩)],[],[]⟩) (exS:=⟨[.str],[(1, .row 4)]⟩) Tryz.f68 (memC (RN zt h_cond_supports) (memC lH zC)) (by kernel_rfl) (by kernel_rfl) fun x=>by kernel_rfl
theorem J3(zt:zg×Bool->Option (Str×Bool))(hs:zm Tryz.prog (qX zt)):zm Tryz.prog (qX (yt zt)):=
 okC (A:=⟨[BK rq,uE (qZ zt),lL (dn zt)],[],[],1,[],[],[]⟩) (exS:=⟨[.str],[(0, .row 4)]⟩) Tryz.f42 (memC MX (memC (RN zt hs) (memC (MZ zt hs) zC))) (by kernel_rfl) (by kernel_rfl) fun x=>by kernel_rfl
theorem O3:zm Tryz.prog (qX zt):=
 zm.recE (I:=I) (P:=Tryz.prog) (f:=42) (inS:=⟨[.val 27, .optr 0],[(0, .row 4)]⟩) (cst:=[]) (outS:=⟨[.str],[(0, .row 4)]⟩) (k:=0) (yt) (by kernel_rfl) (fun S h=>J3 S h)
theorem XK:zm Tryz.prog (PD Mk):=
 okC (A:=⟨[Gx QT,vE ZV,uk zU,qX zt],[],[],0,[],[(8,⟨[5],⟨[.str],[(1, .row 4)]⟩,[6],[],[1],0,[],⟨[],[]⟩,[]⟩)],[]⟩) (exS:=⟨[.str, .int .i64],[]⟩) Tryz.f14 (memC EE (memC EN (memC eY (memC O3 zC)))) (by kernel_rfl) (by kernel_rfl) fun x=>by kernel_rfl
theorem G5:zm Tryz.prog (NN Yt):=
 okC (A:=⟨[dM Ms],[],[],0,[],[],[]⟩) (exS:=⟨[.int .i64],[]⟩) Tryz.f17 (memC DZ zC) (by kernel_rfl) (by kernel_rfl) fun x=>by kernel_rfl
theorem rM:zm Tryz.prog (iE nk):=
 okC (A:=⟨[fE jk,XH parseF],[],[],0,[],[],[]⟩) (exS:=⟨[.sl 59],[]⟩) Tryz.f24 (memC pM (memC XT zC)) (by kernel_rfl) (by kernel_rfl) fun x=>by kernel_rfl
theorem lX:zm Tryz.prog (kK Er):=
 okC (A:=⟨[Q9 Zv,yn ZY],[(12,[7]),(15,[5])],[],0,[(9,⟨[7,8,24],⟨[.own 2466, .int .i64, .int .i64],[(2466, .sl 22)]⟩,[0,1,4,5,22,23],[],[],0,[7,8],⟨[.own 2466, .int .i64],[(2466, .sl 22)]⟩,[2466]⟩)],[(14,⟨[7,8,24],⟨[.own 2568, .int .i64, .int .i64],[(2568, .sl 22)]⟩,[],[],[],0,[],⟨[],[]⟩,[]⟩)],[]⟩) (exS:=⟨[.sl 22, .int .i64],[]⟩) Tryz.f52 (memC Yk (memC PK zC)) (by kernel_rfl) (by kernel_rfl) fun x=>by kernel_rfl
theorem Qc:zm Tryz.prog (qx zH):=
 okC (A:=⟨[],[],[],1,[],[],[]⟩) (exS:=⟨[.int .u8],[]⟩) Tryz.f89 zC (by kernel_rfl) (by kernel_rfl) fun x=>by kernel_rfl
theorem Qd:zm Tryz.prog (qy zI):=
 okC (A:=⟨[],[],[],1,[],[],[]⟩) (exS:=⟨[.optr 1],[(0, .row 85),(1, .row 59)]⟩) Tryz.f90 zC (by kernel_rfl) (by kernel_rfl) fun x=>by kernel_rfl
theorem QA:zm Tryz.prog (qK zx):=
 okC (A:=⟨[qx zH,qy zI],[],[],1,[(2,⟨[],⟨[],[(0, .row 85)]⟩,[0,2,3],[],[0],0,[],⟨[],[(0, .row 85)]⟩,[0]⟩)],[],[]⟩) (exS:=⟨[.bool],[(0, .row 85)]⟩) Tryz.f53 (memC Qc (memC Qd zC)) (by kernel_rfl) (by kernel_rfl) fun x=>by kernel_rfl
theorem UF:zm Tryz.prog (Jy Zf):=
 okC (A:=⟨[qx zH,Wo ZJ,qy zI],[],[],1,[(2,⟨[9],⟨[.int .i64],[(0, .row 85)]⟩,[0,7,8],[],[0],0,[],⟨[],[(0, .row 85)]⟩,[0]⟩)],[],[]⟩) (exS:=⟨[.str],[(0, .row 85)]⟩) Tryz.f86 (memC Qc (memC Nt (memC Qd zC))) (by kernel_rfl) (by kernel_rfl) fun x=>by kernel_rfl
theorem I7:zm Tryz.prog (lN qf):=
 okC (A:=⟨[qx zH,qy zI,qK zx,Jy Zf,Wo ZJ,uD QH],[(6,[1])],[],1,[],[(11,⟨[],⟨[],[(1, .cells 27 [.int .u8, .str, .int .i64, .str, .nilv, .bool, .nilv]),(2, .row 85),(3, .cells 27 [.int .u8, .str, .int .i64, .str, .nilv, .bool, .nilv])]⟩,[2,4,5],[0],[1,2,3],0,[],⟨[],[]⟩,[]⟩)],[]⟩) (exS:=⟨[.optr 1, .bool],[(0, .row 85),(1, .row 27)]⟩) Tryz.f93 (memC Qc (memC Qd (memC QA (memC UF (memC Nt (memC LM zC)))))) (by kernel_rfl) (by kernel_rfl) fun x=>by kernel_rfl
theorem Y5:zm Tryz.prog (dN QU):=
 okC (A:=⟨[qK zx,Jy Zf,qx zH,qy zI,Vo Zx,vD QF,lN qf],[(3,[1]),(9,[4]),(13,[3]),(17,[1]),(23,[3]),(25,[1])],[(25,[(4,some 6)])],1,[(15,⟨[],⟨[],[(0, .row 85),(1, .cells 27 [.int .u8, .str, .int .i64, .str, .nilv, .bool, .nilv]),(2, .cells 27 [.int .u8, .str, .int .i64, .str, .nilv, .bool, .own 2671]),(2671, .sl 27)]⟩,[],[],[0,1,2],0,[],⟨[],[(0, .row 85),(1, .cells 27 [.int .u8, .str, .int .i64, .str, .nilv, .bool, .nilv]),(2, .cells 27 [.int .u8, .str, .int .i64, .str, .nilv, .bool, .own 2671]),(2671, .sl 27)]⟩,[0,1,2,2671]⟩)],[(14,⟨[],⟨[],[(0, .row 85),(1, .cells 27 [.int .u8, .str, .int .i64, .str, .nilv, .bool, .nilv]),(2, .cells 27 [.int .u8, .str, .int .i64, .str, .nilv, .bool, .own 2569]),(2569, .sl 27)]⟩,[0,2,4,5],[],[0,1,2],0,[],⟨[],[]⟩,[]⟩),(26,⟨[],⟨[],[(1, .cells 27 [.int .u8, .str, .int .i64, .str, .nilv, .bool, .nilv]),(2, .cells 27 [.int .u8, .str, .int .i64, .str, .nilv, .bool, .sl 27])]⟩,[],[0],[1,2],0,[],⟨[],[]⟩,[]⟩)],[]⟩) (exS:=⟨[.optr 1, .bool],[(0, .row 85),(1, .row 27)]⟩) Tryz.f54 (memC QA (memC UF (memC Qc (memC Qd (memC Mt (memC MM (memC I7 zC))))))) (by kernel_rfl) (by kernel_rfl) fun x=>by kernel_rfl
theorem iY:zm Tryz.prog (FL Ur):=
 okC (A:=⟨[kK Er,qK zx,dN QU],[(17,[1]),(18,[1]),(19,[3])],[],0,[(13,⟨[44],⟨[.int .i64],[(1, .cells 27 [.int .u8, .str, .int .i64, .str, .nilv, .bool, .own 2672]),(2672, .sl 27)]⟩,[7,42,43],[0],[1],0,[],⟨[],[(1, .cells 27 [.int .u8, .str, .int .i64, .str, .nilv, .bool, .own 2672]),(2672, .sl 27)]⟩,[1,2672]⟩)],[(9,⟨[],⟨[],[(0, .cells 27 [.int .u8, .str, .int .i64, .str, .nilv, .bool, .nilv])]⟩,[2,4],[],[0],0,[],⟨[],[]⟩,[]⟩),(19,⟨[],⟨[],[(1, .cells 27 [.int .u8, .str, .int .i64, .str, .nilv, .bool, .own 2672]),(2672, .sl 27),(2674, .row 27)]⟩,[10,44],[],[1,2672,2674],0,[],⟨[],[]⟩,[]⟩)],[]⟩) (exS:=⟨[.optr 0, .int .i64],[(0, .row 27)]⟩) Tryz.f25 (memC lX (memC QA (memC Y5 zC))) (by kernel_rfl) (by kernel_rfl) fun x=>by kernel_rfl
theorem uZ:zm Tryz.prog (bL Vr):=
 okC (A:=⟨[iE nk,FL Ur,PD Mk,eD Z6],[],[],0,[(6,⟨[13],⟨[.int .i64],[]⟩,[2,3,9],[0],[],0,[],⟨[],[]⟩,[]⟩)],[],[]⟩) (exS:=⟨[.bool],[]⟩) Tryz.f21 (memC rM (memC iY (memC XK (memC BL zC)))) (by kernel_rfl) (by kernel_rfl) fun x=>by kernel_rfl
theorem KX:zm Tryz.prog (yJ Ik):=
 okC (A:=⟨[ni Zq],[],[],0,[(1,⟨[0],⟨[.sl 59],[]⟩,[2],[],[],0,[0],⟨[.sl 59],[]⟩,[]⟩)],[],[]⟩) (exS:=⟨[.sl 59],[]⟩) Tryz.f203 (memC Sk zC) (by kernel_rfl) (by kernel_rfl) fun x=>by kernel_rfl
theorem YY:zm Tryz.prog (oK Uk):=
 okC (A:=⟨[ni Zq],[],[],0,[(1,⟨[0],⟨[.sl 59],[]⟩,[2],[],[],0,[0],⟨[.sl 59],[]⟩,[]⟩)],[],[]⟩) (exS:=⟨[.sl 59],[]⟩) Tryz.f202 (memC Sk zC) (by kernel_rfl) (by kernel_rfl) fun x=>by kernel_rfl
theorem LW:zm Tryz.prog (YJ iq):=
 okC (A:=⟨[yJ Ik,oK Uk,ni Zq,Ze strings_HasPrefix,Vo Zx,Wo ZJ,ND Jk,KD QZ,Fx Qn],[],[],0,[],[(7,⟨[0],⟨[.sl 59],[(0, .cells 24 [.str, .nilv, .bool]),(1, .cells 24 [.str, .nilv, .bool])]⟩,[2,4],[],[0,1],0,[],⟨[],[]⟩,[]⟩),(16,⟨[0],⟨[.sl 59],[(0, .cells 24 [.str, .nilv, .bool]),(1, .cells 24 [.str, .nilv, .bool])]⟩,[],[],[0,1],0,[],⟨[],[]⟩,[]⟩)],[]⟩) (exS:=⟨[.optr 0, .bool],[(0, .row 24)]⟩) Tryz.f174 (memC KX (memC YY (memC Sk (memC Zi (memC Mt (memC Nt (memC VK (memC TK (memC yD zC))))))))) (by kernel_rfl) (by kernel_rfl) fun x=>by kernel_rfl
theorem MW:zm Tryz.prog (aJ jq):=
 okC (A:=⟨[Q9 Zv,YJ iq],[],[],0,[],[],[]⟩) (exS:=⟨[.optr 0, .bool, .int .i64],[(0, .row 24)]⟩) Tryz.f132 (memC Yk (memC LW zC)) (by kernel_rfl) (by kernel_rfl) fun x=>by kernel_rfl
theorem I5(zu:zh->Option ((zg×Bool)×zh))(h_cond_reader_told:zm Tryz.prog (qz zu)):zm Tryz.prog (PN (qE zu)):=
 okC (A:=⟨[qx zH,qy zI,aJ jq,qz zu],[],[],1,[],[],[]⟩) (exS:=⟨[.optr 1, .bool],[(0, .row 85),(1, .row 27)]⟩) Tryz.f87 (memC Qc (memC Qd (memC MW (memC h_cond_reader_told zC)))) (by kernel_rfl) (by kernel_rfl) fun x=>by kernel_rfl
theorem X4(zu:zh->Option ((zg×Bool)×zh))(hs:zm Tryz.prog (qz zu)):zm Tryz.prog (qz (Qs zu)):=
 okC (A:=⟨[qK zx,Jy Zf,PN (qE zu)],[(2,[1]),(6,[1]),(15,[5]),(23,[3])],[],1,[(14,⟨[9],⟨[.bool],[(0, .row 85),(1, .cells 27 [.int .u8, .str, .int .i64, .str, .nilv, .bool, .nilv]),(5, .cells 27 [.int .u8, .str, .int .i64, .str, .nilv, .bool, .own 2673]),(2673, .sl 27)]⟩,[0,2,10],[],[0,1,5],0,[],⟨[],[(0, .row 85),(1, .cells 27 [.int .u8, .str, .int .i64, .str, .nilv, .bool, .nilv]),(5, .cells 27 [.int .u8, .str, .int .i64, .str, .nilv, .bool, .own 2673]),(2673, .sl 27)]⟩,[0,1,5,2673]⟩)],[],[]⟩) (exS:=⟨[.optr 1, .bool],[(0, .row 85),(1, .row 27)]⟩) Tryz.f51 (memC QA (memC UF (memC (I5 zu hs) zC))) (by kernel_rfl) (by kernel_rfl) fun x=>by kernel_rfl
theorem H5:zm Tryz.prog (qz zu):=
 zm.recE (I:=I) (P:=Tryz.prog) (f:=51) (inS:=⟨[.optr 0],[(0, .row 85)]⟩) (cst:=[]) (outS:=⟨[.val 27, .bool],[(0, .row 85)]⟩) (k:=0) (Qs) (by kernel_rfl) (fun S h=>X4 S h)
theorem R3:zm Tryz.prog (mM Xt):=
 okC (A:=⟨[Q9 Zv,qz zu,QP zZ],[],[],0,[],[],[]⟩) (exS:=⟨[.optr 0, .int .i64],[(0, .row 27)]⟩) Tryz.f23 (memC Yk (memC H5 (memC jF zC))) (by kernel_rfl) (by kernel_rfl) fun x=>by kernel_rfl
theorem O4:zm Tryz.prog (DN Ay):=
 okC (A:=⟨[],[],[],3,[],[],[]⟩) (exS:=⟨[.bool],[(0, .row 3)]⟩) Tryz.f38 zC (by kernel_rfl) (by kernel_rfl) fun x=>by kernel_rfl
theorem wY(Zp:(zg×Int)×Int×List Bool->Option (Bool×Int))(hs:zm Tryz.prog (Ut Zp)):zm Tryz.prog (Ut (Rt Zp)):=
 okC (A:=⟨[DN Ay,Ut Zp],[],[],3,[(14,⟨[7,8,45],⟨[.bool, .bool, .int .i64],[(0, .row 3)]⟩,[1,2,3,6,43,44],[3],[0],1,[7,8],⟨[.bool, .bool],[(0, .row 3)]⟩,[0]⟩)],[],[]⟩) (exS:=⟨[.bool],[(0, .row 3)]⟩) Tryz.f37 (memC O4 (memC hs zC)) (by kernel_rfl) (by kernel_rfl) fun x=>by kernel_rfl
theorem U1:zm Tryz.prog (Ut Zp):=
 zm.recE (I:=I) (P:=Tryz.prog) (f:=37) (inS:=⟨[.val 27, .int .i64, .clo 38 [0,1]],[(0, .row 3),(1, .cells 30 [.own 2]),(2, .sl 4)]⟩) (cst:=[1,2]) (outS:=⟨[.bool],[(0, .row 3)]⟩) (k:=0) (Rt) (by kernel_rfl) (fun S h=>wY S h)
theorem Y1:zm Tryz.prog (wL Mo):=
 okC (A:=⟨[Gx QT,Al Zl,Ut Zp],[],[],1,[],[],[]⟩) (exS:=⟨[.bool, .int .i64],[]⟩) Tryz.f12 (memC EE (memC CE (memC U1 zC))) (by kernel_rfl) (by kernel_rfl) fun x=>by kernel_rfl
theorem J4:zm Tryz.prog (xM Pt):=
 okC (A:=⟨[iE nk,mM Xt,PD Mk,GL Kr,wL Mo],[],[],0,[(9,⟨[18],⟨[.int .i64],[(1, .sl 4)]⟩,[2,3,8,9,15,16,17],[0],[1],0,[],⟨[],[(1, .sl 4)]⟩,[1]⟩)],[],[]⟩) (exS:=⟨[.bool],[]⟩) Tryz.f22 (memC rM (memC R3 (memC XK (memC jY (memC Y1 zC))))) (by kernel_rfl) (by kernel_rfl) fun x=>by kernel_rfl
theorem HZ:zm Tryz.prog (dL Xk):=
 okC (A:=⟨[bL Vr,xM Pt],[],[],0,[],[],[]⟩) (exS:=⟨[.bool],[]⟩) Tryz.f26 (memC uZ (memC J4 zC)) (by kernel_rfl) (by kernel_rfl) fun x=>by kernel_rfl
theorem K4:zm Tryz.prog (yM ax):=
 okC (A:=⟨[TL Ir,NN Yt,dL Xk,eD Z6],[(18,[1,3])],[],0,[(6,⟨[9,10],⟨[.bool, .int .i64],[]⟩,[1,2,3,7,8],[0],[],0,[9],⟨[.bool],[]⟩,[]⟩),(14,⟨[13],⟨[.int .i64],[]⟩,[9,10,11],[],[],2,[],⟨[],[]⟩,[]⟩)],[(7,⟨[9,10],⟨[.bool, .int .i64],[]⟩,[],[],[],0,[],⟨[],[]⟩,[]⟩),(15,⟨[13],⟨[.int .i64],[]⟩,[],[],[],0,[],⟨[],[]⟩,[]⟩)],[]⟩) (exS:=⟨[.bool],[]⟩) Tryz.f7 (memC mZ (memC G5 (memC HZ (memC BL zC)))) (by kernel_rfl) (by kernel_rfl) fun x=>by kernel_rfl
end Go.Lv.VT
