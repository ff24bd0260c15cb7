/- Contracts. -/
import Derived.Test.YtkecjfeffabgiaaGreatDoorCoa
set_option linter.unusedSimpArgs false
set_option linter.unusedVariables false
namespace Go.Lv.VT
set_option maxRecDepth 100000
open Go.Proofs
theorem SX(zX:zh->Option Str)(h_cond_media:zm Tryz.prog (ul zX)):zm Tryz.prog (NM (Vo zX)):=
 okC (A:=⟨[ul zX,jC wh],[(5,[4])],[(7,[(7,none)])],0,[(3,⟨[7,12],⟨[.own 1417, .int .i64],[(1417, .sl 9)]⟩,[1,2,6,10,11],[],[],0,[7],⟨[.own 1417],[(1417, .sl 9)]⟩,[1417]⟩)],[],[]⟩) (exS:=⟨[.str],[]⟩) Tryz.f68 (memC h_cond_media (memC bJ zx)) (by kernel_rfl) (by kernel_rfl) fun x=>by kernel_rfl
theorem HY(zX:zh->Option Str)(hs:zm Tryz.prog (ul zX)):zm Tryz.prog (ul (Tu zX)):=
 okC (A:=⟨[WE Ml,ul zX,NM (Vo zX),dN Fu],[],[],0,[],[],[]⟩) (exS:=⟨[.str],[]⟩) Tryz.f41 (memC EN (memC hs (memC (SX zX hs) (memC vZ zx)))) (by kernel_rfl) (by kernel_rfl) fun x=>by kernel_rfl
theorem GZ:zm Tryz.prog (ul zX):=
 zm.recE (I:=I) (P:=Tryz.prog) (f:=41) (inS:=⟨[.val 27],[]⟩) (cst:=[]) (outS:=⟨[.str],[]⟩) (k:=0) (Tu) (by kernel_rfl) (fun S h=>HY S h)
theorem tZ:zm Tryz.prog (aN Q6):=
 okC (A:=⟨[Kz lh,Tp qh,IA Zv],[(6,[2])],[],1,[(2,⟨[0,11],⟨[.own 1419, .int .i64],[(1419, .sl 5)]⟩,[1,2,6,10],[],[],0,[0],⟨[.own 1419],[(1419, .sl 5)]⟩,[1419]⟩)],[(8,⟨[0,11],⟨[.own 1521, .int .i64],[(1521, .sl 5)]⟩,[],[],[],0,[],⟨[],[]⟩,[]⟩)],[]⟩) (exS:=⟨[.own 1],[(1, .sl 5)]⟩) Tryz.f110 (memC NF (memC Bv (memC nG zx))) (by kernel_rfl) (by kernel_rfl) fun x=>by kernel_rfl
theorem AZ:zm Tryz.prog (mM gy):=
 okC (A:=⟨[],[],[],0,[],[],[]⟩) (exS:=⟨[.optr 0],[(0, .row 230)]⟩) Tryz.f221 zx (by kernel_rfl) (by kernel_rfl) fun x=>by kernel_rfl
theorem M7:zm Tryz.prog (gP QQ):=
 okC (A:=⟨[TL Gy,XK yw,GJ Bn],[(2,[1]),(6,[1])],[],1,[],[(3,⟨[0,1],⟨[.own 2043, .int .i64],[(2043, .sl 5)]⟩,[2],[],[],0,[],⟨[],[]⟩,[]⟩),(9,⟨[0],⟨[.own 2146],[(2146, .sl 5)]⟩,[],[],[],0,[],⟨[],[]⟩,[]⟩)],[]⟩) (exS:=⟨[.own 1],[(1, .sl 5)]⟩) Tryz.f220 (memC BX (memC IW (memC AU zx))) (by kernel_rfl) (by kernel_rfl) fun x=>by kernel_rfl
theorem sZ:zm Tryz.prog (YN Lu):=
 okC (A:=⟨[jF qy,aN Q6,ZV strings_IndexByte,IA Zv,gP QQ,VG aj,Zl strings_HasPrefix,mM gy],[(5,[7]),(7,[1]),(12,[1]),(14,[1]),(20,[2]),(22,[1]),(30,[2]),(32,[1]),(38,[4])],[],1,[(16,⟨[0,67],⟨[.own 1836, .int .i64],[(1836, .sl 5)]⟩,[3,4,65,66],[1,4],[],1,[0],⟨[.own 1836],[(1836, .sl 5)]⟩,[1836]⟩),(26,⟨[0,93],⟨[.own 1940, .int .i64],[(1940, .sl 5)]⟩,[3,4,91,92],[1,3],[],3,[0],⟨[.own 1940],[(1940, .sl 5)]⟩,[1940]⟩)],[(12,⟨[5],⟨[.int .i64],[(0, .sl 5)]⟩,[0,3],[1],[0],0,[],⟨[],[]⟩,[]⟩),(21,⟨[0,67],⟨[.own 1938, .int .i64],[(1938, .sl 5)]⟩,[],[],[],0,[],⟨[],[]⟩,[]⟩),(31,⟨[0,93],⟨[.own 2042, .int .i64],[(2042, .sl 5)]⟩,[],[],[],0,[],⟨[],[]⟩,[]⟩)],[]⟩) (exS:=⟨[.own 1],[(1, .sl 5)]⟩) Tryz.f194 (memC FO (memC tZ (memC qi (memC nG (memC M7 (memC NP (memC Zr (memC AZ zx)))))))) (by kernel_rfl) (by kernel_rfl) fun x=>by kernel_rfl
theorem zgg:zm Tryz.prog (lQ ZQ):=
 okC (A:=⟨[Zl strings_HasPrefix,RD Dj],[],[],1,[(0,⟨[],⟨[],[(0, .row 121)]⟩,[0],[],[0],0,[],⟨[],[(0, .row 121)]⟩,[0]⟩)],[],[]⟩) (exS:=⟨[],[(0, .row 121)]⟩) Tryz.f95 (memC Zr (memC yJ zx)) (by kernel_rfl) (by kernel_rfl) fun x=>by kernel_rfl
theorem zN:zm Tryz.prog (zK zg):=
 okC (A:=⟨[],[],[],1,[],[],[]⟩) (exS:=⟨[.int .i64],[]⟩) Tryz.f138 zx (by kernel_rfl) (by kernel_rfl) fun x=>by kernel_rfl
theorem gu:zm Tryz.prog (Dq ZM):=
 okC (A:=⟨[],[],[],0,[],[],[]⟩) (exS:=⟨[.bool],[]⟩) Tryz.f139 zx (by kernel_rfl) (by kernel_rfl) fun x=>by kernel_rfl
theorem fH:zm Tryz.prog (QL Zg):=
 okC (A:=⟨[zK zg,Dq ZM],[],[],1,[(0,⟨[],⟨[],[(0, .row 121)]⟩,[0,1],[],[0],0,[],⟨[],[(0, .row 121)]⟩,[0]⟩)],[],[]⟩) (exS:=⟨[],[(0, .row 121)]⟩) Tryz.f140 (memC zN (memC gu zx)) (by kernel_rfl) (by kernel_rfl) fun x=>by kernel_rfl
theorem zew:zm Tryz.prog (tQ UH):=
 okC (A:=⟨[],[(2,[1]),(4,[9]),(7,[14]),(9,[19])],[],0,[],[(7,⟨[25],⟨[.bool],[]⟩,[0,1,5],[],[],0,[],⟨[],[]⟩,[]⟩)],[]⟩) (exS:=⟨[.own 0],[(0, .sl 5)]⟩) Tryz.f244 zx (by kernel_rfl) (by kernel_rfl) fun x=>by kernel_rfl
theorem U8:zm Tryz.prog (NQ Qm):=
 okC (A:=⟨[tQ UH],[(2,[3])],[],0,[],[],[]⟩) (exS:=⟨[.own 0],[(0, .sl 5)]⟩) Tryz.f210 (memC zew zx) (by kernel_rfl) (by kernel_rfl) fun x=>by kernel_rfl
theorem KA:zm Tryz.prog (su Qj):=
 okC (A:=⟨[],[],[],0,[],[],[]⟩) (exS:=⟨[.bool],[]⟩) Tryz.f212 zx (by kernel_rfl) (by kernel_rfl) fun x=>by kernel_rfl
theorem ku:zm Tryz.prog (Fq ZX):=
 okC (A:=⟨[su Qj],[],[],0,[],[],[]⟩) (exS:=⟨[.bool],[]⟩) Tryz.f182 (memC KA zx) (by kernel_rfl) (by kernel_rfl) fun x=>by kernel_rfl
theorem xM:zm Tryz.prog (UE dh):=
 okC (A:=⟨[Fq ZX,su Qj],[],[],0,[],[],[]⟩) (exS:=⟨[.int .i64],[]⟩) Tryz.f211 (memC ku (memC KA zx)) (by kernel_rfl) (by kernel_rfl) fun x=>by kernel_rfl
theorem zfx:zm Tryz.prog (xQ qf):=
 okC (A:=⟨[zK zg,NQ Qm,UE dh,Dq ZM],[(7,[3])],[],1,[(10,⟨[6,36],⟨[.int .i64, .int .i64],[(0, .row 121)]⟩,[0,1,4],[],[0],0,[6],⟨[.int .i64],[(0, .row 121)]⟩,[0]⟩)],[(17,⟨[6],⟨[.int .i64],[(0, .row 121)]⟩,[1],[],[0],0,[],⟨[],[]⟩,[]⟩),(19,⟨[6],⟨[.int .i64],[]⟩,[],[0],[],0,[],⟨[],[]⟩,[]⟩)],[]⟩) (exS:=⟨[.own 1],[(0, .row 121),(1, .sl 5)]⟩) Tryz.f180 (memC zN (memC U8 (memC xM (memC gu zx)))) (by kernel_rfl) (by kernel_rfl) fun x=>by kernel_rfl
theorem zex:zm Tryz.prog (sQ TH):=
 okC (A:=⟨[],[(2,[1]),(4,[9]),(7,[14]),(9,[19])],[],1,[],[(7,⟨[25],⟨[.bool],[(0, .sl 5)]⟩,[0,1,5],[],[0],0,[],⟨[],[]⟩,[]⟩)],[]⟩) (exS:=⟨[.own 1],[(1, .sl 5)]⟩) Tryz.f244 zx (by kernel_rfl) (by kernel_rfl) fun x=>by kernel_rfl
theorem R8:zm Tryz.prog (MQ Qn):=
 okC (A:=⟨[sQ TH],[(2,[3])],[],1,[],[],[]⟩) (exS:=⟨[.own 1],[(1, .sl 5)]⟩) Tryz.f210 (memC zex zx) (by kernel_rfl) (by kernel_rfl) fun x=>by kernel_rfl
theorem QF:zm Tryz.prog (qB z8):=
 okC (A:=⟨[zK zg,MQ Qn,UE dh,Dq ZM],[(7,[3])],[],2,[(10,⟨[6,36],⟨[.int .i64, .int .i64],[(0, .row 121)]⟩,[0,1,4],[1],[0],0,[6],⟨[.int .i64],[(0, .row 121)]⟩,[0]⟩)],[(17,⟨[6],⟨[.int .i64],[(0, .row 121),(1, .sl 5)]⟩,[1],[],[0,1],0,[],⟨[],[]⟩,[]⟩),(19,⟨[6],⟨[.int .i64],[(1, .sl 5)]⟩,[],[0],[1],0,[],⟨[],[]⟩,[]⟩)],[]⟩) (exS:=⟨[.own 2],[(0, .row 121),(2, .sl 5)]⟩) Tryz.f180 (memC zN (memC R8 (memC xM (memC gu zx)))) (by kernel_rfl) (by kernel_rfl) fun x=>by kernel_rfl
theorem U9:zm Tryz.prog (pQ Qb):=
 okC (A:=⟨[zK zg,qB z8],[(5,[3])],[],1,[(4,⟨[4],⟨[.own 2148],[(0, .row 121),(1, .row 57),(2148, .sl 5)]⟩,[0,2,3],[],[0,1],0,[4],⟨[.own 2148],[(0, .row 121),(1, .row 57),(2148, .sl 5)]⟩,[0,1,2148]⟩)],[],[]⟩) (exS:=⟨[.optr 1],[(0, .row 121),(1, .row 57)]⟩) Tryz.f141 (memC zN (memC QF zx)) (by kernel_rfl) (by kernel_rfl) fun x=>by kernel_rfl
theorem uO:zm Tryz.prog (vF wo):=
 okC (A:=⟨[su Qj],[],[],0,[],[],[]⟩) (exS:=⟨[.bool],[]⟩) Tryz.f181 (memC KA zx) (by kernel_rfl) (by kernel_rfl) fun x=>by kernel_rfl
theorem YP:zm Tryz.prog (dG Am):=
 okC (A:=⟨[vF wo,Fq ZX],[],[],0,[],[],[]⟩) (exS:=⟨[.bool],[]⟩) Tryz.f142 (memC uO (memC ku zx)) (by kernel_rfl) (by kernel_rfl) fun x=>by kernel_rfl
theorem qc:zm Tryz.prog (ZO zM):=
 okC (A:=⟨[zK zg],[],[],1,[],[],[]⟩) (exS:=⟨[.bool],[]⟩) Tryz.f143 (memC zN zx) (by kernel_rfl) (by kernel_rfl) fun x=>by kernel_rfl
theorem WQ:zm Tryz.prog (RH Zf):=
 okC (A:=⟨[zK zg,vF wo,ZO zM],[],[],1,[],[],[]⟩) (exS:=⟨[.bool],[]⟩) Tryz.f144 (memC zN (memC uO (memC qc zx))) (by kernel_rfl) (by kernel_rfl) fun x=>by kernel_rfl
theorem FH:zm Tryz.prog (UA Zk):=
 okC (A:=⟨[zK zg,dG Am,ZO zM,qB z8],[(5,[3])],[],1,[(2,⟨[3],⟨[.own 2149],[(0, .row 121),(2149, .sl 5)]⟩,[0],[],[0],0,[],⟨[],[]⟩,[]⟩)],[],[]⟩) (exS:=⟨[.str],[(0, .row 121)]⟩) Tryz.f145 (memC zN (memC YP (memC qc (memC QF zx)))) (by kernel_rfl) (by kernel_rfl) fun x=>by kernel_rfl
theorem V9:zm Tryz.prog (rQ TA):=
 okC (A:=⟨[zK zg,Fq ZX],[],[],1,[],[(5,⟨[3],⟨[.int .i64],[]⟩,[0],[],[],0,[],⟨[],[]⟩,[]⟩),(7,⟨[3],⟨[.int .i64],[]⟩,[],[],[],0,[],⟨[],[]⟩,[]⟩)],[]⟩) (exS:=⟨[.bool],[]⟩) Tryz.f146 (memC zN (memC ku zx)) (by kernel_rfl) (by kernel_rfl) fun x=>by kernel_rfl
theorem zgF:zm Tryz.prog (fQ ZE):=
 okC (A:=⟨[zK zg,Fq ZX],[],[],1,[(0,⟨[],⟨[],[(0, .row 121)]⟩,[0,1],[],[0],0,[],⟨[],[(0, .row 121)]⟩,[0]⟩)],[],[]⟩) (exS:=⟨[],[(0, .row 121)]⟩) Tryz.f140 (memC zN (memC ku zx)) (by kernel_rfl) (by kernel_rfl) fun x=>by kernel_rfl
theorem zgD:zm Tryz.prog (iQ qI):=
 okC (A:=⟨[zK zg,fQ ZE,Fq ZX],[],[],1,[],[(4,⟨[],⟨[],[(0, .row 121)]⟩,[0],[],[0],0,[],⟨[],[]⟩,[]⟩),(10,⟨[4],⟨[.bool],[(0, .row 121)]⟩,[],[],[0],0,[],⟨[],[]⟩,[]⟩),(15,⟨[4,5],⟨[.bool, .int .i64],[(0, .row 121)]⟩,[],[],[0],0,[],⟨[],[]⟩,[]⟩),(19,⟨[4],⟨[.bool],[(0, .row 121)]⟩,[],[],[0],0,[],⟨[],[]⟩,[]⟩)],[]⟩) (exS:=⟨[.bool],[(0, .row 121)]⟩) Tryz.f183 (memC zN (memC zgF (memC ku zx))) (by kernel_rfl) (by kernel_rfl) fun x=>by kernel_rfl
theorem V8:zm Tryz.prog (OQ Rv):=
 okC (A:=⟨[IJ Rk,JM Vs,YR cutF],[],[],0,[(8,⟨[6,31],⟨[.int .i64, .int .i64],[]⟩,[0,2,3,4,5,29,30],[0],[],0,[6],⟨[.int .i64],[]⟩,[]⟩),(22,⟨[12,81],⟨[.int .i64, .int .i64],[]⟩,[4,79,80],[0],[],2,[12],⟨[.int .i64],[]⟩,[]⟩),(26,⟨[4,12],⟨[.int .i64, .int .i64],[]⟩,[],[],[],4,[12],⟨[.int .i64],[]⟩,[]⟩)],[(14,⟨[0,4,6],⟨[.str, .int .i64, .int .i64],[]⟩,[3,5],[],[],0,[],⟨[],[]⟩,[]⟩),(15,⟨[0,4],⟨[.str, .int .i64],[]⟩,[3],[],[],0,[],⟨[],[]⟩,[]⟩),(20,⟨[0,4],⟨[.str, .int .i64],[]⟩,[],[],[],0,[],⟨[],[]⟩,[]⟩),(31,⟨[12],⟨[.int .i64],[]⟩,[],[],[],0,[],⟨[],[]⟩,[]⟩)],[]⟩) (exS:=⟨[.int .i64],[]⟩) Tryz.f184 (memC BU (memC KX (memC zBL zx))) (by kernel_rfl) (by kernel_rfl) fun x=>by kernel_rfl
theorem zgE:zm Tryz.prog (gQ qJ):=
 okC (A:=⟨[iQ qI,OQ Rv,RH Zf,UA Zk,zK zg],[],[],1,[],[(9,⟨[],⟨[],[(0, .row 121),(1, .row 57),(2, .row 57)]⟩,[2,5],[],[0,1,2],0,[],⟨[],[]⟩,[]⟩)],[]⟩) (exS:=⟨[.optr 1],[(0, .row 121),(1, .row 57)]⟩) Tryz.f147 (memC zgD (memC V8 (memC WQ (memC FH (memC zN zx))))) (by kernel_rfl) (by kernel_rfl) fun x=>by kernel_rfl
theorem Y8:zm Tryz.prog (RQ qA):=
 okC (A:=⟨[zK zg,ZO zM,xQ qf],[],[],1,[(1,⟨[],⟨[],[(0, .row 121),(1, .row 57)]⟩,[0,2],[],[0,1],0,[],⟨[],[]⟩,[]⟩)],[],[]⟩) (exS:=⟨[.optr 1],[(0, .row 121),(1, .row 57)]⟩) Tryz.f216 (memC zN (memC qc (memC zfx zx))) (by kernel_rfl) (by kernel_rfl) fun x=>by kernel_rfl
theorem X8:zm Tryz.prog (PQ Sv):=
 okC (A:=⟨[QL Zg,zK zg,Dq ZM,RQ qA,su Qj,ZO zM,qB z8],[(18,[3])],[],1,[(3,⟨[3],⟨[.own 2150],[(0, .row 121),(1, .row 57),(2150, .sl 5)]⟩,[0,2],[],[0,1],0,[],⟨[],[]⟩,[]⟩)],[(10,⟨[3,4],⟨[.own 2150, .int .i64],[(0, .row 121),(1, .row 57),(2150, .sl 5)]⟩,[],[],[0,1,2150],0,[],⟨[],[]⟩,[]⟩)],[]⟩) (exS:=⟨[.optr 1],[(0, .row 121),(1, .row 57)]⟩) Tryz.f185 (memC fH (memC zN (memC gu (memC Y8 (memC KA (memC qc (memC QF zx))))))) (by kernel_rfl) (by kernel_rfl) fun x=>by kernel_rfl
theorem Y9:zm Tryz.prog (XQ QA):=
 okC (A:=⟨[UA Zk,zK zg,Hq ZW,QL Zg,PQ Sv],[],[],1,[],[(11,⟨[],⟨[],[(0, .row 121),(1, .row 57)]⟩,[2,3],[],[0,1],0,[],⟨[],[]⟩,[]⟩)],[]⟩) (exS:=⟨[.optr 1],[(0, .row 121),(1, .row 57)]⟩) Tryz.f148 (memC FH (memC zN (memC nu (memC fH (memC X8 zx))))) (by kernel_rfl) (by kernel_rfl) fun x=>by kernel_rfl
theorem H9:zm Tryz.prog (IQ QZ):=
 okC (A:=⟨[zK zg,Dq ZM,QL Zg,pQ Qb,dG Am,ZO zM,RH Zf,UA Zk,rQ TA,gQ qJ,Zl strings_HasPrefix,XQ QA,ZV strings_IndexByte],[],[],1,[],[],[]⟩) (exS:=⟨[.optr 1],[(0, .row 121),(1, .row 57)]⟩) Tryz.f96 (memC zN (memC gu (memC fH (memC U9 (memC YP (memC qc (memC WQ (memC FH (memC V9 (memC zgE (memC Zr (memC Y9 (memC qi zx))))))))))))) (by kernel_rfl) (by kernel_rfl) fun x=>by kernel_rfl
theorem I8:zm Tryz.prog (CQ AA):=
 okC (A:=⟨[],[(1,[2])],[],2,[],[],[]⟩) (exS:=⟨[],[(0, .cells 62 [.own 2]),(2, .sl 57)]⟩) Tryz.f56 zx (by kernel_rfl) (by kernel_rfl) fun x=>by kernel_rfl
theorem l5:zm Tryz.prog (bO au):=
 okC (A:=⟨[LJ Nn,lQ ZQ,IQ QZ,CQ AA],[],[],1,[(7,⟨[7],⟨[.int .i64],[(0, .cells 62 [.own 2151]),(2151, .sl 57),(1, .row 121)]⟩,[0,1,6],[],[0,1],0,[],⟨[],[(0, .cells 62 [.own 2151]),(2151, .sl 57),(1, .row 121)]⟩,[0,1,2151]⟩)],[],[]⟩) (exS:=⟨[.int .i64],[(0, .cells 62 [.own 1]),(1, .sl 57)]⟩) Tryz.f55 (memC EU (memC zgg (memC H9 (memC I8 zx)))) (by kernel_rfl) (by kernel_rfl) fun x=>by kernel_rfl
theorem aP:zm Tryz.prog (eG Cm):=
 okC (A:=⟨[bO au],[],[],0,[],[],[]⟩) (exS:=⟨[.sl 57, .int .i64],[]⟩) Tryz.f27 (memC l5 zx) (by kernel_rfl) (by kernel_rfl) fun x=>by kernel_rfl
theorem J9:zm Tryz.prog (KQ QY):=
 okC (A:=⟨[],[],[],0,[(4,⟨[13],⟨[.int .i64],[]⟩,[0,1,12],[],[],0,[],⟨[],[]⟩,[]⟩)],[],[]⟩) (exS:=⟨[.bool],[]⟩) Tryz.f195 zx (by kernel_rfl) (by kernel_rfl) fun x=>by kernel_rfl
theorem BZ:zm Tryz.prog (nM Ot):=
 okC (A:=⟨[kF QJ,iF bi,YN Lu,eG Cm,KQ QY],[(24,[5])],[],0,[(7,⟨[5,6,7],⟨[.own 2253, .own 2254, .int .i64],[(2253, .sl 5),(2254, .sl 211)]⟩,[0],[],[],0,[5],⟨[.own 2253],[(2253, .sl 5)]⟩,[2253]⟩),(11,⟨[9,36],⟨[.own 1834, .int .i64],[(1834, .sl 5)]⟩,[5,6,7,8,34,35],[2253,2254],[],2,[9],⟨[.own 1834],[(1834, .sl 5)]⟩,[1834]⟩)],[(17,⟨[5,6,7,9],⟨[.own 2253, .own 2254, .int .i64, .own 2356],[(2253, .sl 5),(2254, .sl 211),(2356, .sl 5)]⟩,[8],[],[2253,2254],0,[],⟨[],[]⟩,[]⟩),(21,⟨[5,6,7],⟨[.own 2253, .own 2254, .int .i64],[(2253, .sl 5),(2254, .sl 211),(2357, .row 211)]⟩,[9,12],[2356],[2253,2254,2357],0,[],⟨[],[]⟩,[]⟩),(24,⟨[5,6,7],⟨[.own 2461, .own 2254, .int .i64],[(2254, .sl 211),(2461, .sl 5)]⟩,[],[2357],[2254],0,[],⟨[],[]⟩,[]⟩)],[]⟩) (exS:=⟨[.str, .int .i64],[]⟩) Tryz.f163 (memC JO (memC CO (memC sZ (memC aP (memC J9 zx))))) (by kernel_rfl) (by kernel_rfl) fun x=>by kernel_rfl
theorem IX:zm Tryz.prog (GM Ps):=
 okC (A:=⟨[uj ZG,jO Q7,nM Ot],[],[],0,[],[],[]⟩) (exS:=⟨[.str, .int .i64],[]⟩) Tryz.f115 (memC Em (memC R4 (memC BZ zx))) (by kernel_rfl) (by kernel_rfl) fun x=>by kernel_rfl
theorem PX:zm Tryz.prog (MM Ht):=
 okC (A:=⟨[Nz QI,WE Ml,GM Ps],[],[],0,[],[(13,⟨[8],⟨[.str],[]⟩,[],[],[],0,[],⟨[],[]⟩,[]⟩)],[]⟩) (exS:=⟨[.str, .int .i64],[]⟩) Tryz.f72 (memC RF (memC EN (memC IX zx))) (by kernel_rfl) (by kernel_rfl) fun x=>by kernel_rfl
theorem wP(zu:zh×Bool->Option (Str×Bool))(h_cond_supports:zm Tryz.prog (Qo zu)):zm Tryz.prog (lG (Qp zu)):=
 okC (A:=⟨[Qo zu,YE Xi],[],[],2,[],[],[]⟩) (exS:=⟨[.str],[(1, .row 4)]⟩) Tryz.f70 (memC h_cond_supports (memC GN zx)) (by kernel_rfl) (by kernel_rfl) fun x=>by kernel_rfl
theorem wZ(zu:zh×Bool->Option (Str×Bool))(h_cond_supports:zm Tryz.prog (Qo zu)):zm Tryz.prog (gN (Lp zu)):=
 okC (A:=⟨[lG (Qp zu),jC wh],[(5,[4])],[(7,[(7,none)])],2,[(3,⟨[7,12],⟨[.own 2462, .int .i64],[(1, .row 4),(2462, .sl 9)]⟩,[1,2,6,10,11],[],[1],0,[7],⟨[.own 2462],[(1, .row 4),(2462, .sl 9)]⟩,[1,2462]⟩)],[],[]⟩) (exS:=⟨[.str],[(1, .row 4)]⟩) Tryz.f68 (memC (wP zu h_cond_supports) (memC bJ zx)) (by kernel_rfl) (by kernel_rfl) fun x=>by kernel_rfl
theorem U6(zu:zh×Bool->Option (Str×Bool))(hs:zm Tryz.prog (Qo zu)):zm Tryz.prog (Qo (Ev zu)):=
 okC (A:=⟨[MM Ht,lG (Qp zu),gN (Lp zu)],[],[],1,[],[],[]⟩) (exS:=⟨[.str],[(0, .row 4)]⟩) Tryz.f42 (memC PX (memC (wP zu hs) (memC (wZ zu hs) zx))) (by kernel_rfl) (by kernel_rfl) fun x=>by kernel_rfl
theorem O7:zm Tryz.prog (Qo zu):=
 zm.recE (I:=I) (P:=Tryz.prog) (f:=42) (inS:=⟨[.val 27, .optr 0],[(0, .row 4)]⟩) (cst:=[]) (outS:=⟨[.str],[(0, .row 4)]⟩) (k:=0) (Ev) (by kernel_rfl) (fun S h=>U6 S h)
theorem JN:zm Tryz.prog (bE Kl):=
 okC (A:=⟨[Bz mh,mG Z8,ul zX,Qo zu],[],[],0,[],[(8,⟨[5],⟨[.str],[(1, .row 4)]⟩,[6],[],[1],0,[],⟨[],[]⟩,[]⟩)],[]⟩) (exS:=⟨[.str, .int .i64],[]⟩) Tryz.f14 (memC TF (memC xP (memC GZ (memC O7 zx)))) (by kernel_rfl) (by kernel_rfl) fun x=>by kernel_rfl
theorem l9:zm Tryz.prog (aQ ZB):=
 okC (A:=⟨[FQ Pv],[],[],0,[],[],[]⟩) (exS:=⟨[.int .i64],[]⟩) Tryz.f19 (memC K8 zx) (by kernel_rfl) (by kernel_rfl) fun x=>by kernel_rfl
theorem MP:zm Tryz.prog (UG il):=
 okC (A:=⟨[eG Cm,KJ parseF],[],[],0,[],[],[]⟩) (exS:=⟨[.sl 59],[]⟩) Tryz.f24 (memC aP (memC DU zx)) (by kernel_rfl) (by kernel_rfl) fun x=>by kernel_rfl
theorem xY:zm Tryz.prog (kM ut):=
 okC (A:=⟨[uj ZG,Np qb],[(12,[7]),(15,[5])],[],0,[(9,⟨[7,8,24],⟨[.own 2466, .int .i64, .int .i64],[(2466, .sl 22)]⟩,[0,1,4,5,22,23],[],[],0,[7,8],⟨[.own 2466, .int .i64],[(2466, .sl 22)]⟩,[2466]⟩)],[(14,⟨[7,8,24],⟨[.own 2568, .int .i64, .int .i64],[(2568, .sl 22)]⟩,[],[],[],0,[],⟨[],[]⟩,[]⟩)],[]⟩) (exS:=⟨[.sl 22, .int .i64],[]⟩) Tryz.f52 (memC Em (memC yM zx)) (by kernel_rfl) (by kernel_rfl) fun x=>by kernel_rfl
theorem Qt:zm Tryz.prog (qL zI):=
 okC (A:=⟨[],[],[],1,[],[],[]⟩) (exS:=⟨[.int .u8],[]⟩) Tryz.f89 zx (by kernel_rfl) (by kernel_rfl) fun x=>by kernel_rfl
theorem Qu:zm Tryz.prog (qM zJ):=
 okC (A:=⟨[],[],[],1,[],[],[]⟩) (exS:=⟨[.optr 1],[(0, .row 85),(1, .row 59)]⟩) Tryz.f90 zx (by kernel_rfl) (by kernel_rfl) fun x=>by kernel_rfl
theorem QV:zm Tryz.prog (qY zy):=
 okC (A:=⟨[qL zI,qM zJ],[],[],1,[(2,⟨[],⟨[],[(0, .row 85)]⟩,[0,2,3],[],[0],0,[],⟨[],[(0, .row 85)]⟩,[0]⟩)],[],[]⟩) (exS:=⟨[.bool],[(0, .row 85)]⟩) Tryz.f53 (memC Qt (memC Qu zx)) (by kernel_rfl) (by kernel_rfl) fun x=>by kernel_rfl
theorem xG:zm Tryz.prog (WA Zn):=
 okC (A:=⟨[qL zI,Hq ZW,qM zJ],[],[],1,[(2,⟨[9],⟨[.int .i64],[(0, .row 85)]⟩,[0,7,8],[],[0],0,[],⟨[],[(0, .row 85)]⟩,[0]⟩)],[],[]⟩) (exS:=⟨[.str],[(0, .row 85)]⟩) Tryz.f86 (memC Qt (memC nu (memC Qu zx))) (by kernel_rfl) (by kernel_rfl) fun x=>by kernel_rfl
theorem p9:zm Tryz.prog (bQ qx):=
 okC (A:=⟨[qL zI,qM zJ,qY zy,WA Zn,Hq ZW,EG Q5],[(6,[1])],[],1,[],[(11,⟨[],⟨[],[(1, .cells 27 [.int .u8, .str, .int .i64, .str, .nilv, .bool, .nilv]),(2, .row 85),(3, .cells 27 [.int .u8, .str, .int .i64, .str, .nilv, .bool, .nilv])]⟩,[2,4,5],[0],[1,2,3],0,[],⟨[],[]⟩,[]⟩)],[]⟩) (exS:=⟨[.optr 1, .bool],[(0, .row 85),(1, .row 27)]⟩) Tryz.f93 (memC Qt (memC Qu (memC QV (memC xG (memC nu (memC BP zx)))))) (by kernel_rfl) (by kernel_rfl) fun x=>by kernel_rfl
theorem L9:zm Tryz.prog (UQ Nv):=
 okC (A:=⟨[qY zy,WA Zn,qL zI,qM zJ,Gq ZJ,GG Q3,bQ qx],[(3,[1]),(9,[4]),(13,[3]),(17,[1]),(23,[3]),(25,[1])],[(25,[(4,some 6)])],1,[(15,⟨[],⟨[],[(0, .row 85),(1, .cells 27 [.int .u8, .str, .int .i64, .str, .nilv, .bool, .nilv]),(2, .cells 27 [.int .u8, .str, .int .i64, .str, .nilv, .bool, .own 2671]),(2671, .sl 27)]⟩,[],[],[0,1,2],0,[],⟨[],[(0, .row 85),(1, .cells 27 [.int .u8, .str, .int .i64, .str, .nilv, .bool, .nilv]),(2, .cells 27 [.int .u8, .str, .int .i64, .str, .nilv, .bool, .own 2671]),(2671, .sl 27)]⟩,[0,1,2,2671]⟩)],[(14,⟨[],⟨[],[(0, .row 85),(1, .cells 27 [.int .u8, .str, .int .i64, .str, .nilv, .bool, .nilv]),(2, .cells 27 [.int .u8, .str, .int .i64, .str, .nilv, .bool, .own 2569]),(2569, .sl 27)]⟩,[0,2,4,5],[],[0,1,2],0,[],⟨[],[]⟩,[]⟩),(26,⟨[],⟨[],[(1, .cells 27 [.int .u8, .str, .int .i64, .str, .nilv, .bool, .nilv]),(2, .cells 27 [.int .u8, .str, .int .i64, .str, .nilv, .bool, .sl 27])]⟩,[],[0],[1,2],0,[],⟨[],[]⟩,[]⟩)],[]⟩) (exS:=⟨[.optr 1, .bool],[(0, .row 85),(1, .row 27)]⟩) Tryz.f54 (memC QV (memC xG (memC Qt (memC Qu (memC lu (memC CP (memC p9 zx))))))) (by kernel_rfl) (by kernel_rfl) fun x=>by kernel_rfl
theorem IZ:zm Tryz.prog (uM Rt):=
 okC (A:=⟨[kM ut,qY zy,UQ Nv],[(17,[1]),(18,[1]),(19,[3])],[],0,[(13,⟨[44],⟨[.int .i64],[(1, .cells 27 [.int .u8, .str, .int .i64, .str, .nilv, .bool, .own 2672]),(2672, .sl 27)]⟩,[7,42,43],[0],[1],0,[],⟨[],[(1, .cells 27 [.int .u8, .str, .int .i64, .str, .nilv, .bool, .own 2672]),(2672, .sl 27)]⟩,[1,2672]⟩)],[(9,⟨[],⟨[],[(0, .cells 27 [.int .u8, .str, .int .i64, .str, .nilv, .bool, .nilv])]⟩,[2,4],[],[0],0,[],⟨[],[]⟩,[]⟩),(19,⟨[],⟨[],[(1, .cells 27 [.int .u8, .str, .int .i64, .str, .nilv, .bool, .own 2672]),(2672, .sl 27),(2674, .row 27)]⟩,[10,44],[],[1,2672,2674],0,[],⟨[],[]⟩,[]⟩)],[]⟩) (exS:=⟨[.optr 0, .int .i64],[(0, .row 27)]⟩) Tryz.f25 (memC xY (memC QV (memC L9 zx))) (by kernel_rfl) (by kernel_rfl) fun x=>by kernel_rfl
theorem oZ:zm Tryz.prog (WN Ku):=
 okC (A:=⟨[UG il,uM Rt,bE Kl,lF Qk],[],[],0,[(6,⟨[13],⟨[.int .i64],[]⟩,[2,3,9],[0],[],0,[],⟨[],[]⟩,[]⟩)],[],[]⟩) (exS:=⟨[.bool],[]⟩) Tryz.f21 (memC MP (memC IZ (memC JN (memC KO zx)))) (by kernel_rfl) (by kernel_rfl) fun x=>by kernel_rfl
theorem OX:zm Tryz.prog (LM Hl):=
 okC (A:=⟨[Pj Zz],[],[],0,[(1,⟨[0],⟨[.sl 59],[]⟩,[2],[],[],0,[0],⟨[.sl 59],[]⟩,[]⟩)],[],[]⟩) (exS:=⟨[.sl 59],[]⟩) Tryz.f203 (memC Ol zx) (by kernel_rfl) (by kernel_rfl) fun x=>by kernel_rfl
theorem CZ:zm Tryz.prog (oM Ul):=
 okC (A:=⟨[Pj Zz],[],[],0,[(1,⟨[0],⟨[.sl 59],[]⟩,[2],[],[],0,[0],⟨[.sl 59],[]⟩,[]⟩)],[],[]⟩) (exS:=⟨[.sl 59],[]⟩) Tryz.f202 (memC Ol zx) (by kernel_rfl) (by kernel_rfl) fun x=>by kernel_rfl
theorem wW:zm Tryz.prog (NL Ms):=
 okC (A:=⟨[LM Hl,oM Ul,Pj Zz,Zl strings_HasPrefix,Gq ZJ,Hq ZW,XE Il,VE lg,Nz QI],[],[],0,[],[(7,⟨[0],⟨[.sl 59],[(0, .cells 24 [.str, .nilv, .bool]),(1, .cells 24 [.str, .nilv, .bool])]⟩,[2,4],[],[0,1],0,[],⟨[],[]⟩,[]⟩),(16,⟨[0],⟨[.sl 59],[(0, .cells 24 [.str, .nilv, .bool]),(1, .cells 24 [.str, .nilv, .bool])]⟩,[],[],[0,1],0,[],⟨[],[]⟩,[]⟩)],[]⟩) (exS:=⟨[.optr 0, .bool],[(0, .row 24)]⟩) Tryz.f174 (memC OX (memC CZ (memC Ol (memC Zr (memC lu (memC nu (memC FN (memC DN (memC RF zx))))))))) (by kernel_rfl) (by kernel_rfl) fun x=>by kernel_rfl
theorem xW:zm Tryz.prog (PL Ns):=
 okC (A:=⟨[uj ZG,NL Ms],[],[],0,[],[],[]⟩) (exS:=⟨[.optr 0, .bool, .int .i64],[(0, .row 24)]⟩) Tryz.f132 (memC Em (memC wW zx)) (by kernel_rfl) (by kernel_rfl) fun x=>by kernel_rfl
theorem A9(zw:zk->Option ((zh×Bool)×zk))(h_cond_reader_told:zm Tryz.prog (qN zw)):zm Tryz.prog (vP (qU zw)):=
 okC (A:=⟨[qL zI,qM zJ,PL Ns,qN zw],[],[],1,[],[],[]⟩) (exS:=⟨[.optr 1, .bool],[(0, .row 85),(1, .row 27)]⟩) Tryz.f87 (memC Qt (memC Qu (memC xW (memC h_cond_reader_told zx)))) (by kernel_rfl) (by kernel_rfl) fun x=>by kernel_rfl
theorem G8(zw:zk->Option ((zh×Bool)×zk))(hs:zm Tryz.prog (qN zw)):zm Tryz.prog (qN (QO zw)):=
 okC (A:=⟨[qY zy,WA Zn,vP (qU zw)],[(2,[1]),(6,[1]),(15,[5]),(23,[3])],[],1,[(14,⟨[9],⟨[.bool],[(0, .row 85),(1, .cells 27 [.int .u8, .str, .int .i64, .str, .nilv, .bool, .nilv]),(5, .cells 27 [.int .u8, .str, .int .i64, .str, .nilv, .bool, .own 2673]),(2673, .sl 27)]⟩,[0,2,10],[],[0,1,5],0,[],⟨[],[(0, .row 85),(1, .cells 27 [.int .u8, .str, .int .i64, .str, .nilv, .bool, .nilv]),(5, .cells 27 [.int .u8, .str, .int .i64, .str, .nilv, .bool, .own 2673]),(2673, .sl 27)]⟩,[0,1,5,2673]⟩)],[],[]⟩) (exS:=⟨[.optr 1, .bool],[(0, .row 85),(1, .row 27)]⟩) Tryz.f51 (memC QV (memC xG (memC (A9 zw hs) zx))) (by kernel_rfl) (by kernel_rfl) fun x=>by kernel_rfl
theorem p8:zm Tryz.prog (qN zw):=
 zm.recE (I:=I) (P:=Tryz.prog) (f:=51) (inS:=⟨[.optr 0],[(0, .row 85)]⟩) (cst:=[]) (outS:=⟨[.val 27, .bool],[(0, .row 85)]⟩) (k:=0) (QO) (by kernel_rfl) (fun S h=>G8 S h)
theorem P7:zm Tryz.prog (jP tu):=
 okC (A:=⟨[uj ZG,qN zw,VA Ze],[],[],0,[],[],[]⟩) (exS:=⟨[.optr 0, .int .i64],[(0, .row 27)]⟩) Tryz.f23 (memC Em (memC p8 (memC GH zx))) (by kernel_rfl) (by kernel_rfl) fun x=>by kernel_rfl
theorem C8:zm Tryz.prog (dP Kq):=
 okC (A:=⟨[],[],[],3,[],[],[]⟩) (exS:=⟨[.bool],[(0, .row 3)]⟩) Tryz.f38 zx (by kernel_rfl) (by kernel_rfl) fun x=>by kernel_rfl
theorem V5(Zq:(zh×Int)×Int×List Bool->Option (Bool×Int))(hs:zm Tryz.prog (Kv Zq)):zm Tryz.prog (Kv (Q0 Zq)):=
 okC (A:=⟨[dP Kq,Kv Zq],[],[],3,[(14,⟨[7,8,45],⟨[.bool, .bool, .int .i64],[(0, .row 3)]⟩,[1,2,3,6,43,44],[3],[0],1,[7,8],⟨[.bool, .bool],[(0, .row 3)]⟩,[0]⟩)],[],[]⟩) (exS:=⟨[.bool],[(0, .row 3)]⟩) Tryz.f37 (memC C8 (memC hs zx)) (by kernel_rfl) (by kernel_rfl) fun x=>by kernel_rfl
theorem Y4:zm Tryz.prog (Kv Zq):=
 zm.recE (I:=I) (P:=Tryz.prog) (f:=37) (inS:=⟨[.val 27, .int .i64, .clo 38 [0,1]],[(0, .row 3),(1, .cells 30 [.own 2]),(2, .sl 4)]⟩) (cst:=[1,2]) (outS:=⟨[.bool],[(0, .row 3)]⟩) (k:=0) (Q0) (by kernel_rfl) (fun S h=>V5 S h)
theorem OP:zm Tryz.prog (WG qF):=
 okC (A:=⟨[Bz mh,yl Zx,Kv Zq],[],[],1,[],[],[]⟩) (exS:=⟨[.bool, .int .i64],[]⟩) Tryz.f12 (memC TF (memC SF (memC Y4 zx))) (by kernel_rfl) (by kernel_rfl) fun x=>by kernel_rfl
theorem u7:zm Tryz.prog (nP pu):=
 okC (A:=⟨[UG il,jP tu,bE Kl,vM Tt,WG qF],[],[],0,[(9,⟨[18],⟨[.int .i64],[(1, .sl 4)]⟩,[2,3,8,9,15,16,17],[0],[1],0,[],⟨[],[(1, .sl 4)]⟩,[1]⟩)],[],[]⟩) (exS:=⟨[.bool],[]⟩) Tryz.f22 (memC MP (memC P7 (memC JN (memC JZ (memC OP zx))))) (by kernel_rfl) (by kernel_rfl) fun x=>by kernel_rfl
theorem rZ:zm Tryz.prog (XN di):=
 okC (A:=⟨[WN Ku,nP pu],[],[],0,[],[],[]⟩) (exS:=⟨[.bool],[]⟩) Tryz.f26 (memC oZ (memC u7 zx)) (by kernel_rfl) (by kernel_rfl) fun x=>by kernel_rfl
theorem O8:zm Tryz.prog (uP GA):=
 okC (A:=⟨[uN Bp,aQ ZB,XN di,lF Qk,WG qF],[(9,[1]),(10,[2]),(11,[2])],[],0,[],[],[]⟩) (exS:=⟨[.bool],[]⟩) Tryz.f5 (memC Y3 (memC l9 (memC rZ (memC KO (memC OP zx))))) (by kernel_rfl) (by kernel_rfl) fun x=>by kernel_rfl
end Go.Lv.VT
