/- Contracts. -/
import Derived.Test.YtkecjfeffabgiaaGreatDoorCoa
set_option linter.unusedSimpArgs false
set_option linter.unusedVariables false
namespace Go.Lv.VT
set_option maxRecDepth 100000
open Go.Proofs
theorem zvL(ZK:zg->Option Str)(h_cond_media:zm Tryz.prog (Fs ZK)):zm Tryz.prog (gU (Kv ZK)):=
 okC (A:=⟨[Fs ZK,mI Bl],[(5,[4])],[(7,[(7,none)])],0,[(3,⟨[7,12],⟨[.own 1417, .int .i64],[(1417, .sl 9)]⟩,[1,2,6,10,11],[],[],0,[7],⟨[.own 1417],[(1417, .sl 9)]⟩,[1417]⟩)],[],[]⟩) (exS:=⟨[.str],[]⟩) Tryz.f68 (memC h_cond_media (memC UQ zw)) (by kernel_rfl) (by kernel_rfl) fun x=>by kernel_rfl
theorem zt9(ZK:zg->Option Str)(hs:zm Tryz.prog (Fs ZK)):zm Tryz.prog (Fs (uF ZK)):=
 okC (A:=⟨[kL uq,Fs ZK,gU (Kv ZK),pW uz],[],[],0,[],[],[]⟩) (exS:=⟨[.str],[]⟩) Tryz.f41 (memC FV (memC hs (memC (zvL ZK hs) (memC zqG zw)))) (by kernel_rfl) (by kernel_rfl) fun x=>by kernel_rfl
theorem ztf:zm Tryz.prog (Fs ZK):=
 zm.recE (I:=I) (P:=Tryz.prog) (f:=41) (inS:=⟨[.val 27],[]⟩) (cst:=[]) (outS:=⟨[.str],[]⟩) (k:=0) (uF) (by kernel_rfl) (fun S h=>zt9 S h)
theorem zqI:zm Tryz.prog (nW QD):=
 okC (A:=⟨[BG il,Bw qI,xG Z9],[(6,[2])],[],1,[(2,⟨[0,11],⟨[.own 1419, .int .i64],[(1419, .sl 5)]⟩,[1,2,6,10],[],[],0,[0],⟨[.own 1419],[(1419, .sl 5)]⟩,[1419]⟩)],[(8,⟨[0,11],⟨[.own 1521, .int .i64],[(1521, .sl 5)]⟩,[],[],[],0,[],⟨[],[]⟩,[]⟩)],[]⟩) (exS:=⟨[.own 1],[(1, .sl 5)]⟩) Tryz.f110 (memC xL (memC yA (memC vM zw))) (by kernel_rfl) (by kernel_rfl) fun x=>by kernel_rfl
theorem ztk:zm Tryz.prog (UV cz):=
 okC (A:=⟨[],[],[],0,[],[],[]⟩) (exS:=⟨[.optr 0],[(0, .row 230)]⟩) Tryz.f221 zw (by kernel_rfl) (by kernel_rfl) fun x=>by kernel_rfl
theorem znF:zm Tryz.prog (FY Js):=
 okC (A:=⟨[CU mq,KT Uq,FR yn],[(2,[1]),(6,[1])],[],1,[],[(3,⟨[0,1],⟨[.own 2043, .int .i64],[(2043, .sl 5)]⟩,[2],[],[],0,[],⟨[],[]⟩,[]⟩),(9,⟨[0],⟨[.own 2146],[(2146, .sl 5)]⟩,[],[],[],0,[],⟨[],[]⟩,[]⟩)],[]⟩) (exS:=⟨[.own 1],[(1, .sl 5)]⟩) Tryz.f220 (memC zxo (memC zz6 (memC zCC zw))) (by kernel_rfl) (by kernel_rfl) fun x=>by kernel_rfl
theorem zqJ:zm Tryz.prog (mW Uv):=
 okC (A:=⟨[IM Al,nW QD,qc strings_IndexByte,xG Z9,FY Js,uM Cs,ZM strings_HasPrefix,UV cz],[(5,[7]),(7,[1]),(12,[1]),(14,[1]),(20,[2]),(22,[1]),(30,[2]),(32,[1]),(38,[4])],[],1,[(16,⟨[0,67],⟨[.own 1836, .int .i64],[(1836, .sl 5)]⟩,[3,4,65,66],[1,4],[],1,[0],⟨[.own 1836],[(1836, .sl 5)]⟩,[1836]⟩),(26,⟨[0,93],⟨[.own 1940, .int .i64],[(1940, .sl 5)]⟩,[3,4,91,92],[1,3],[],3,[0],⟨[.own 1940],[(1940, .sl 5)]⟩,[1940]⟩)],[(12,⟨[5],⟨[.int .i64],[(0, .sl 5)]⟩,[0,3],[1],[0],0,[],⟨[],[]⟩,[]⟩),(21,⟨[0,67],⟨[.own 1938, .int .i64],[(1938, .sl 5)]⟩,[],[],[],0,[],⟨[],[]⟩,[]⟩),(31,⟨[0,93],⟨[.own 2042, .int .i64],[(2042, .sl 5)]⟩,[],[],[],0,[],⟨[],[]⟩,[]⟩)],[]⟩) (exS:=⟨[.own 1],[(1, .sl 5)]⟩) Tryz.f194 (memC DW (memC zqI (memC qC (memC vM (memC znF (memC xX (memC ZY (memC ztk zw)))))))) (by kernel_rfl) (by kernel_rfl) fun x=>by kernel_rfl
theorem zgr:zm Tryz.prog (wY ZG):=
 okC (A:=⟨[ZM strings_HasPrefix,EK Km],[],[],1,[(0,⟨[],⟨[],[(0, .row 121)]⟩,[0],[],[0],0,[],⟨[],[(0, .row 121)]⟩,[0]⟩)],[],[]⟩) (exS:=⟨[],[(0, .row 121)]⟩) Tryz.f95 (memC ZY (memC NS zw)) (by kernel_rfl) (by kernel_rfl) fun x=>by kernel_rfl
theorem zK:zm Tryz.prog (zH zf):=
 okC (A:=⟨[],[],[],1,[],[],[]⟩) (exS:=⟨[.int .i64],[]⟩) Tryz.f138 zw (by kernel_rfl) (by kernel_rfl) fun x=>by kernel_rfl
theorem OB:zm Tryz.prog (Kw Ql):=
 okC (A:=⟨[],[],[],0,[],[],[]⟩) (exS:=⟨[.bool],[]⟩) Tryz.f139 zw (by kernel_rfl) (by kernel_rfl) fun x=>by kernel_rfl
theorem PN:zm Tryz.prog (QU Zp):=
 okC (A:=⟨[zH zf,Kw Ql],[],[],1,[(0,⟨[],⟨[],[(0, .row 121)]⟩,[0,1],[],[0],0,[],⟨[],[(0, .row 121)]⟩,[0]⟩)],[],[]⟩) (exS:=⟨[],[(0, .row 121)]⟩) Tryz.f140 (memC zK (memC OB zw)) (by kernel_rfl) (by kernel_rfl) fun x=>by kernel_rfl
theorem zeM:zm Tryz.prog (GZ qW):=
 okC (A:=⟨[],[(2,[1]),(4,[9]),(7,[14]),(9,[19])],[],0,[],[(7,⟨[25],⟨[.bool],[]⟩,[0,1,5],[],[],0,[],⟨[],[]⟩,[]⟩)],[]⟩) (exS:=⟨[.own 0],[(0, .sl 5)]⟩) Tryz.f244 zw (by kernel_rfl) (by kernel_rfl) fun x=>by kernel_rfl
theorem zjn:zm Tryz.prog (eY qO):=
 okC (A:=⟨[GZ qW],[(2,[3])],[],0,[],[],[]⟩) (exS:=⟨[.own 0],[(0, .sl 5)]⟩) Tryz.f210 (memC zeM zw) (by kernel_rfl) (by kernel_rfl) fun x=>by kernel_rfl
theorem BH:zm Tryz.prog (EB qH):=
 okC (A:=⟨[],[],[],0,[],[],[]⟩) (exS:=⟨[.bool],[]⟩) Tryz.f212 zw (by kernel_rfl) (by kernel_rfl) fun x=>by kernel_rfl
theorem RB:zm Tryz.prog (Mw ZZ):=
 okC (A:=⟨[EB qH],[],[],0,[],[],[]⟩) (exS:=⟨[.bool],[]⟩) Tryz.f182 (memC BH zw) (by kernel_rfl) (by kernel_rfl) fun x=>by kernel_rfl
theorem yU:zm Tryz.prog (dL Yo):=
 okC (A:=⟨[Mw ZZ,EB qH],[],[],0,[],[],[]⟩) (exS:=⟨[.int .i64],[]⟩) Tryz.f211 (memC RB (memC BH zw)) (by kernel_rfl) (by kernel_rfl) fun x=>by kernel_rfl
theorem zfL:zm Tryz.prog (IZ qB):=
 okC (A:=⟨[zH zf,eY qO,dL Yo,Kw Ql],[(7,[3])],[],1,[(10,⟨[6,36],⟨[.int .i64, .int .i64],[(0, .row 121)]⟩,[0,1,4],[],[0],0,[6],⟨[.int .i64],[(0, .row 121)]⟩,[0]⟩)],[(17,⟨[6],⟨[.int .i64],[(0, .row 121)]⟩,[1],[],[0],0,[],⟨[],[]⟩,[]⟩),(19,⟨[6],⟨[.int .i64],[]⟩,[],[0],[],0,[],⟨[],[]⟩,[]⟩)],[]⟩) (exS:=⟨[.own 1],[(0, .row 121),(1, .sl 5)]⟩) Tryz.f180 (memC zK (memC zjn (memC yU (memC OB zw)))) (by kernel_rfl) (by kernel_rfl) fun x=>by kernel_rfl
theorem zeN:zm Tryz.prog (FZ qX):=
 okC (A:=⟨[],[(2,[1]),(4,[9]),(7,[14]),(9,[19])],[],1,[],[(7,⟨[25],⟨[.bool],[(0, .sl 5)]⟩,[0,1,5],[],[0],0,[],⟨[],[]⟩,[]⟩)],[]⟩) (exS:=⟨[.own 1],[(1, .sl 5)]⟩) Tryz.f244 zw (by kernel_rfl) (by kernel_rfl) fun x=>by kernel_rfl
theorem zjo:zm Tryz.prog (SY qP):=
 okC (A:=⟨[FZ qX],[(2,[3])],[],1,[],[],[]⟩) (exS:=⟨[.own 1],[(1, .sl 5)]⟩) Tryz.f210 (memC zeN zw) (by kernel_rfl) (by kernel_rfl) fun x=>by kernel_rfl
theorem QN:zm Tryz.prog (qR Zl):=
 okC (A:=⟨[zH zf,SY qP,dL Yo,Kw Ql],[(7,[3])],[],2,[(10,⟨[6,36],⟨[.int .i64, .int .i64],[(0, .row 121)]⟩,[0,1,4],[1],[0],0,[6],⟨[.int .i64],[(0, .row 121)]⟩,[0]⟩)],[(17,⟨[6],⟨[.int .i64],[(0, .row 121),(1, .sl 5)]⟩,[1],[],[0,1],0,[],⟨[],[]⟩,[]⟩),(19,⟨[6],⟨[.int .i64],[(1, .sl 5)]⟩,[],[0],[1],0,[],⟨[],[]⟩,[]⟩)],[]⟩) (exS:=⟨[.own 2],[(0, .row 121),(2, .sl 5)]⟩) Tryz.f180 (memC zK (memC zjo (memC yU (memC OB zw)))) (by kernel_rfl) (by kernel_rfl) fun x=>by kernel_rfl
theorem zhv:zm Tryz.prog (nY Qn):=
 okC (A:=⟨[zH zf,qR Zl],[(5,[3])],[],1,[(4,⟨[4],⟨[.own 2148],[(0, .row 121),(1, .row 57),(2148, .sl 5)]⟩,[0,2,3],[],[0,1],0,[4],⟨[.own 2148],[(0, .row 121),(1, .row 57),(2148, .sl 5)]⟩,[0,1,2148]⟩)],[],[]⟩) (exS:=⟨[.optr 1],[(0, .row 121),(1, .row 57)]⟩) Tryz.f141 (memC zK (memC QN zw)) (by kernel_rfl) (by kernel_rfl) fun x=>by kernel_rfl
theorem VX:zm Tryz.prog (BM Nr):=
 okC (A:=⟨[EB qH],[],[],0,[],[],[]⟩) (exS:=⟨[.bool],[]⟩) Tryz.f181 (memC BH zw) (by kernel_rfl) (by kernel_rfl) fun x=>by kernel_rfl
theorem tX:zm Tryz.prog (YM Dw):=
 okC (A:=⟨[BM Nr,Mw ZZ],[],[],0,[],[],[]⟩) (exS:=⟨[.bool],[]⟩) Tryz.f142 (memC VX (memC RB zw)) (by kernel_rfl) (by kernel_rfl) fun x=>by kernel_rfl
theorem qz:zm Tryz.prog (Z5 zD):=
 okC (A:=⟨[zH zf],[],[],1,[],[],[]⟩) (exS:=⟨[.bool],[]⟩) Tryz.f143 (memC zK zw) (by kernel_rfl) (by kernel_rfl) fun x=>by kernel_rfl
theorem dY:zm Tryz.prog (MN zW):=
 okC (A:=⟨[zH zf,BM Nr,Z5 zD],[],[],1,[],[],[]⟩) (exS:=⟨[.bool],[]⟩) Tryz.f144 (memC zK (memC VX (memC qz zw))) (by kernel_rfl) (by kernel_rfl) fun x=>by kernel_rfl
theorem GN:zm Tryz.prog (KH Zh):=
 okC (A:=⟨[zH zf,YM Dw,Z5 zD,qR Zl],[(5,[3])],[],1,[(2,⟨[3],⟨[.own 2149],[(0, .row 121),(2149, .sl 5)]⟩,[0],[],[0],0,[],⟨[],[]⟩,[]⟩)],[],[]⟩) (exS:=⟨[.str],[(0, .row 121)]⟩) Tryz.f145 (memC zK (memC tX (memC qz (memC QN zw)))) (by kernel_rfl) (by kernel_rfl) fun x=>by kernel_rfl
theorem zhu:zm Tryz.prog (pY Z0):=
 okC (A:=⟨[zH zf,Mw ZZ],[],[],1,[],[(5,⟨[3],⟨[.int .i64],[]⟩,[0],[],[],0,[],⟨[],[]⟩,[]⟩),(7,⟨[3],⟨[.int .i64],[]⟩,[],[],[],0,[],⟨[],[]⟩,[]⟩)],[]⟩) (exS:=⟨[.bool],[]⟩) Tryz.f146 (memC zK (memC RB zw)) (by kernel_rfl) (by kernel_rfl) fun x=>by kernel_rfl
theorem zgR:zm Tryz.prog (BZ Zn):=
 okC (A:=⟨[zH zf,Mw ZZ],[],[],1,[(0,⟨[],⟨[],[(0, .row 121)]⟩,[0,1],[],[0],0,[],⟨[],[(0, .row 121)]⟩,[0]⟩)],[],[]⟩) (exS:=⟨[],[(0, .row 121)]⟩) Tryz.f140 (memC zK (memC RB zw)) (by kernel_rfl) (by kernel_rfl) fun x=>by kernel_rfl
theorem zgP:zm Tryz.prog (DZ Qb):=
 okC (A:=⟨[zH zf,BZ Zn,Mw ZZ],[],[],1,[],[(4,⟨[],⟨[],[(0, .row 121)]⟩,[0],[],[0],0,[],⟨[],[]⟩,[]⟩),(10,⟨[4],⟨[.bool],[(0, .row 121)]⟩,[],[],[0],0,[],⟨[],[]⟩,[]⟩),(15,⟨[4,5],⟨[.bool, .int .i64],[(0, .row 121)]⟩,[],[],[0],0,[],⟨[],[]⟩,[]⟩),(19,⟨[4],⟨[.bool],[(0, .row 121)]⟩,[],[],[0],0,[],⟨[],[]⟩,[]⟩)],[]⟩) (exS:=⟨[.bool],[(0, .row 121)]⟩) Tryz.f183 (memC zK (memC zgR (memC RB zw))) (by kernel_rfl) (by kernel_rfl) fun x=>by kernel_rfl
theorem zjm:zm Tryz.prog (gY qN):=
 okC (A:=⟨[GR Nk,bU ek,H6 cutF],[],[],0,[(8,⟨[6,31],⟨[.int .i64, .int .i64],[]⟩,[0,2,3,4,5,29,30],[0],[],0,[6],⟨[.int .i64],[]⟩,[]⟩),(22,⟨[12,81],⟨[.int .i64, .int .i64],[]⟩,[4,79,80],[0],[],2,[12],⟨[.int .i64],[]⟩,[]⟩),(26,⟨[4,12],⟨[.int .i64, .int .i64],[]⟩,[],[],[],4,[12],⟨[.int .i64],[]⟩,[]⟩)],[(14,⟨[0,4,6],⟨[.str, .int .i64, .int .i64],[]⟩,[3,5],[],[],0,[],⟨[],[]⟩,[]⟩),(15,⟨[0,4],⟨[.str, .int .i64],[]⟩,[3],[],[],0,[],⟨[],[]⟩,[]⟩),(20,⟨[0,4],⟨[.str, .int .i64],[]⟩,[],[],[],0,[],⟨[],[]⟩,[]⟩),(31,⟨[12],⟨[.int .i64],[]⟩,[],[],[],0,[],⟨[],[]⟩,[]⟩)],[]⟩) (exS:=⟨[.int .i64],[]⟩) Tryz.f184 (memC zCB (memC zvQ (memC zH1 zw))) (by kernel_rfl) (by kernel_rfl) fun x=>by kernel_rfl
theorem zgQ:zm Tryz.prog (CZ qj):=
 okC (A:=⟨[DZ Qb,gY qN,MN zW,KH Zh,zH zf],[],[],1,[],[(9,⟨[],⟨[],[(0, .row 121),(1, .row 57),(2, .row 57)]⟩,[2,5],[],[0,1,2],0,[],⟨[],[]⟩,[]⟩)],[]⟩) (exS:=⟨[.optr 1],[(0, .row 121),(1, .row 57)]⟩) Tryz.f147 (memC zgP (memC zjm (memC dY (memC GN (memC zK zw))))) (by kernel_rfl) (by kernel_rfl) fun x=>by kernel_rfl
theorem zjk:zm Tryz.prog (jY qM):=
 okC (A:=⟨[zH zf,Z5 zD,IZ qB],[],[],1,[(1,⟨[],⟨[],[(0, .row 121),(1, .row 57)]⟩,[0,2],[],[0,1],0,[],⟨[],[]⟩,[]⟩)],[],[]⟩) (exS:=⟨[.optr 1],[(0, .row 121),(1, .row 57)]⟩) Tryz.f216 (memC zK (memC qz (memC zfL zw))) (by kernel_rfl) (by kernel_rfl) fun x=>by kernel_rfl
theorem zjl:zm Tryz.prog (iY TB):=
 okC (A:=⟨[QU Zp,zH zf,Kw Ql,jY qM,EB qH,Z5 zD,qR Zl],[(18,[3])],[],1,[(3,⟨[3],⟨[.own 2150],[(0, .row 121),(1, .row 57),(2150, .sl 5)]⟩,[0,2],[],[0,1],0,[],⟨[],[]⟩,[]⟩)],[(10,⟨[3,4],⟨[.own 2150, .int .i64],[(0, .row 121),(1, .row 57),(2150, .sl 5)]⟩,[],[],[0,1,2150],0,[],⟨[],[]⟩,[]⟩)],[]⟩) (exS:=⟨[.optr 1],[(0, .row 121),(1, .row 57)]⟩) Tryz.f185 (memC PN (memC zK (memC OB (memC zjk (memC BH (memC qz (memC QN zw))))))) (by kernel_rfl) (by kernel_rfl) fun x=>by kernel_rfl
theorem zhJ:zm Tryz.prog (rY qf):=
 okC (A:=⟨[KH Zh,zH zf,gM Kn,QU Zp,iY TB],[],[],1,[],[(11,⟨[],⟨[],[(0, .row 121),(1, .row 57)]⟩,[2,3],[],[0,1],0,[],⟨[],[]⟩,[]⟩)],[]⟩) (exS:=⟨[.optr 1],[(0, .row 121),(1, .row 57)]⟩) Tryz.f148 (memC GN (memC zK (memC aX (memC PN (memC zjl zw))))) (by kernel_rfl) (by kernel_rfl) fun x=>by kernel_rfl
theorem ziv:zm Tryz.prog (XY Qg):=
 okC (A:=⟨[zH zf,Kw Ql,QU Zp,nY Qn,YM Dw,Z5 zD,MN zW,KH Zh,pY Z0,CZ qj,ZM strings_HasPrefix,rY qf,qc strings_IndexByte],[],[],1,[],[],[]⟩) (exS:=⟨[.optr 1],[(0, .row 121),(1, .row 57)]⟩) Tryz.f96 (memC zK (memC OB (memC PN (memC zhv (memC tX (memC qz (memC dY (memC GN (memC zhu (memC zgQ (memC ZY (memC zhJ (memC qC zw))))))))))))) (by kernel_rfl) (by kernel_rfl) fun x=>by kernel_rfl
theorem zkg:zm Tryz.prog (TY WB):=
 okC (A:=⟨[],[(1,[2])],[],2,[],[],[]⟩) (exS:=⟨[],[(0, .cells 62 [.own 2]),(2, .sl 57)]⟩) Tryz.f56 zw (by kernel_rfl) (by kernel_rfl) fun x=>by kernel_rfl
theorem zpI:zm Tryz.prog (lX KA):=
 okC (A:=⟨[IR Rm,wY ZG,XY Qg,TY WB],[],[],1,[(7,⟨[7],⟨[.int .i64],[(0, .cells 62 [.own 2151]),(2151, .sl 57),(1, .row 121)]⟩,[0,1,6],[],[0,1],0,[],⟨[],[(0, .cells 62 [.own 2151]),(2151, .sl 57),(1, .row 121)]⟩,[0,1,2151]⟩)],[],[]⟩) (exS:=⟨[.int .i64],[(0, .cells 62 [.own 1]),(1, .sl 57)]⟩) Tryz.f55 (memC zCA (memC zgr (memC ziv (memC zkg zw)))) (by kernel_rfl) (by kernel_rfl) fun x=>by kernel_rfl
theorem zpH:zm Tryz.prog (mX LA):=
 okC (A:=⟨[lX KA],[],[],0,[],[],[]⟩) (exS:=⟨[.sl 57, .int .i64],[]⟩) Tryz.f27 (memC zpI zw) (by kernel_rfl) (by kernel_rfl) fun x=>by kernel_rfl
theorem zis:zm Tryz.prog (aY Qe):=
 okC (A:=⟨[],[],[],0,[(4,⟨[13],⟨[.int .i64],[]⟩,[0,1,12],[],[],0,[],⟨[],[]⟩,[]⟩)],[],[]⟩) (exS:=⟨[.bool],[]⟩) Tryz.f195 zw (by kernel_rfl) (by kernel_rfl) fun x=>by kernel_rfl
theorem ztj:zm Tryz.prog (VV dz):=
 okC (A:=⟨[JM QR,GM QS,mW Uv,mX LA,aY Qe],[(24,[5])],[],0,[(7,⟨[5,6,7],⟨[.own 2253, .own 2254, .int .i64],[(2253, .sl 5),(2254, .sl 211)]⟩,[0],[],[],0,[5],⟨[.own 2253],[(2253, .sl 5)]⟩,[2253]⟩),(11,⟨[9,36],⟨[.own 1834, .int .i64],[(1834, .sl 5)]⟩,[5,6,7,8,34,35],[2253,2254],[],2,[9],⟨[.own 1834],[(1834, .sl 5)]⟩,[1834]⟩)],[(17,⟨[5,6,7,9],⟨[.own 2253, .own 2254, .int .i64, .own 2356],[(2253, .sl 5),(2254, .sl 211),(2356, .sl 5)]⟩,[8],[],[2253,2254],0,[],⟨[],[]⟩,[]⟩),(21,⟨[5,6,7],⟨[.own 2253, .own 2254, .int .i64],[(2253, .sl 5),(2254, .sl 211),(2357, .row 211)]⟩,[9,12],[2356],[2253,2254,2357],0,[],⟨[],[]⟩,[]⟩),(24,⟨[5,6,7],⟨[.own 2461, .own 2254, .int .i64],[(2254, .sl 211),(2461, .sl 5)]⟩,[],[2357],[2254],0,[],⟨[],[]⟩,[]⟩)],[]⟩) (exS:=⟨[.str, .int .i64],[]⟩) Tryz.f163 (memC EW (memC CW (memC zqJ (memC zpH (memC zis zw))))) (by kernel_rfl) (by kernel_rfl) fun x=>by kernel_rfl
theorem zvT:zm Tryz.prog (YU Cz):=
 okC (A:=⟨[VA uk,GX Ep,VV dz],[],[],0,[],[],[]⟩) (exS:=⟨[.str, .int .i64],[]⟩) Tryz.f115 (memC RG (memC zpu (memC ztj zw))) (by kernel_rfl) (by kernel_rfl) fun x=>by kernel_rfl
theorem zvN:zm Tryz.prog (fU Kz):=
 okC (A:=⟨[KM wo,kL uq,YU Cz],[],[],0,[],[(13,⟨[8],⟨[.str],[]⟩,[],[],[],0,[],⟨[],[]⟩,[]⟩)],[]⟩) (exS:=⟨[.str, .int .i64],[]⟩) Tryz.f72 (memC FW (memC FV (memC zvT zw))) (by kernel_rfl) (by kernel_rfl) fun x=>by kernel_rfl
theorem WY(zG:zg×Bool->Option (Str×Bool))(h_cond_supports:zm Tryz.prog (QB zG)):zm Tryz.prog (yM (QC zG)):=
 okC (A:=⟨[QB zG,lL Cr],[],[],2,[],[],[]⟩) (exS:=⟨[.str],[(1, .row 4)]⟩) Tryz.f70 (memC h_cond_supports (memC GV zw)) (by kernel_rfl) (by kernel_rfl) fun x=>by kernel_rfl
theorem zqD(zG:zg×Bool->Option (Str×Bool))(h_cond_supports:zm Tryz.prog (QB zG)):zm Tryz.prog (uW (Yv zG)):=
 okC (A:=⟨[yM (QC zG),mI Bl],[(5,[4])],[(7,[(7,none)])],2,[(3,⟨[7,12],⟨[.own 2462, .int .i64],[(1, .row 4),(2462, .sl 9)]⟩,[1,2,6,10,11],[],[1],0,[7],⟨[.own 2462],[(1, .row 4),(2462, .sl 9)]⟩,[1,2462]⟩)],[],[]⟩) (exS:=⟨[.str],[(1, .row 4)]⟩) Tryz.f68 (memC (WY zG h_cond_supports) (memC UQ zw)) (by kernel_rfl) (by kernel_rfl) fun x=>by kernel_rfl
theorem znN(zG:zg×Bool->Option (Str×Bool))(hs:zm Tryz.prog (QB zG)):zm Tryz.prog (QB (wG zG)):=
 okC (A:=⟨[fU Kz,yM (QC zG),uW (Yv zG)],[],[],1,[],[],[]⟩) (exS:=⟨[.str],[(0, .row 4)]⟩) Tryz.f42 (memC zvN (memC (WY zG hs) (memC (zqD zG hs) zw))) (by kernel_rfl) (by kernel_rfl) fun x=>by kernel_rfl
theorem znD:zm Tryz.prog (QB zG):=
 zm.recE (I:=I) (P:=Tryz.prog) (f:=42) (inS:=⟨[.val 27, .optr 0],[(0, .row 4)]⟩) (cst:=[]) (outS:=⟨[.str],[(0, .row 4)]⟩) (k:=0) (wG) (by kernel_rfl) (fun S h=>znN S h)
theorem zvJ:zm Tryz.prog (jU Pz):=
 okC (A:=⟨[LM Ir,JH qy,Fs ZK,QB zG],[],[],0,[],[(8,⟨[5],⟨[.str],[(1, .row 4)]⟩,[6],[],[1],0,[],⟨[],[]⟩,[]⟩)],[]⟩) (exS:=⟨[.str, .int .i64],[]⟩) Tryz.f14 (memC rV (memC FN (memC ztf (memC znD zw)))) (by kernel_rfl) (by kernel_rfl) fun x=>by kernel_rfl
theorem oM:zm Tryz.prog (nG Qu):=
 okC (A:=⟨[Nw qd,qp zC],[(3,[1])],[],0,[],[(7,⟨[4],⟨[.str],[]⟩,[],[],[],0,[],⟨[],[]⟩,[]⟩)],[]⟩) (exS:=⟨[.str],[]⟩) Tryz.f118 (memC SB (memC qo zw)) (by kernel_rfl) (by kernel_rfl) fun x=>by kernel_rfl
theorem fG:zm Tryz.prog (jA ZQ):=
 okC (A:=⟨[NB ZP,qp zC,nG Qu],[],[],0,[(3,⟨[5,6],⟨[.str, .int .i64],[]⟩,[0,1,4],[],[],0,[5],⟨[.str],[]⟩,[]⟩)],[(4,⟨[5,6],⟨[.str, .int .i64],[]⟩,[],[],[],0,[],⟨[],[]⟩,[]⟩),(10,⟨[5,9],⟨[.str, .bool],[]⟩,[6,7],[],[],0,[],⟨[],[]⟩,[]⟩)],[]⟩) (exS:=⟨[.str],[]⟩) Tryz.f73 (memC FH (memC qo (memC oM zw))) (by kernel_rfl) (by kernel_rfl) fun x=>by kernel_rfl
theorem zp4(qG:Int->Option Str)(hs:zm Tryz.prog (IB qG)):zm Tryz.prog (IB (YG qG)):=
 okC (A:=⟨[IB qG],[(1,[4])],[],0,[],[],[]⟩) (exS:=⟨[.str],[]⟩) Tryz.f119 (memC hs zw) (by kernel_rfl) (by kernel_rfl) fun x=>by kernel_rfl
theorem zpD:zm Tryz.prog (IB qG):=
 zm.recE (I:=I) (P:=Tryz.prog) (f:=119) (inS:=⟨[.int .i64],[]⟩) (cst:=[]) (outS:=⟨[.str],[]⟩) (k:=0) (YG) (by kernel_rfl) (fun S h=>zp4 S h)
theorem zug(nk:Int->Option Str)(hs:zm Tryz.prog (dA nk)):zm Tryz.prog (dA (GG nk)):=
 okC (A:=⟨[dA nk,IB qG],[],[],0,[(9,⟨[3,4,5],⟨[.str, .int .i64, .int .i64],[]⟩,[2],[],[],0,[3],⟨[.str],[]⟩,[]⟩)],[],[]⟩) (exS:=⟨[.str],[]⟩) Tryz.f74 (memC hs (memC zpD zw)) (by kernel_rfl) (by kernel_rfl) fun x=>by kernel_rfl
theorem zty:zm Tryz.prog (dA nk):=
 zm.recE (I:=I) (P:=Tryz.prog) (f:=74) (inS:=⟨[.int .i64],[]⟩) (cst:=[]) (outS:=⟨[.str],[]⟩) (k:=0) (GG) (by kernel_rfl) (fun S h=>zug S h)
theorem zpz:zm Tryz.prog (DX vv):=
 okC (A:=⟨[nG Qu],[],[],0,[(3,⟨[5,6],⟨[.str, .int .i64],[]⟩,[0,1,4],[],[],0,[5],⟨[.str],[]⟩,[]⟩)],[(4,⟨[5,6],⟨[.str, .int .i64],[]⟩,[],[],[],0,[],⟨[],[]⟩,[]⟩),(9,⟨[5,8],⟨[.str, .bool],[]⟩,[6,7],[],[],0,[],⟨[],[]⟩,[]⟩)],[]⟩) (exS:=⟨[.str],[]⟩) Tryz.f222 (memC oM zw) (by kernel_rfl) (by kernel_rfl) fun x=>by kernel_rfl
theorem zp0(Qa:Int->Option Str)(hs:zm Tryz.prog (MB Qa)):zm Tryz.prog (MB (eG Qa)):=
 okC (A:=⟨[MB Qa],[],[],0,[],[],[]⟩) (exS:=⟨[.str],[]⟩) Tryz.f260 (memC hs zw) (by kernel_rfl) (by kernel_rfl) fun x=>by kernel_rfl
theorem zpx:zm Tryz.prog (MB Qa):=
 zm.recE (I:=I) (P:=Tryz.prog) (f:=260) (inS:=⟨[.int .i64],[]⟩) (cst:=[]) (outS:=⟨[.str],[]⟩) (k:=0) (eG) (by kernel_rfl) (fun S h=>zp0 S h)
theorem zp1(qF:Int×Bool->Option Str)(hs:zm Tryz.prog (LB qF)):zm Tryz.prog (LB (dG qF)):=
 okC (A:=⟨[LB qF,MB Qa],[],[],0,[(10,⟨[7],⟨[.str],[]⟩,[4,5],[],[],0,[7],⟨[.str],[]⟩,[]⟩)],[],[]⟩) (exS:=⟨[.str],[]⟩) Tryz.f223 (memC hs (memC zpx zw)) (by kernel_rfl) (by kernel_rfl) fun x=>by kernel_rfl
theorem zpy:zm Tryz.prog (LB qF):=
 zm.recE (I:=I) (P:=Tryz.prog) (f:=223) (inS:=⟨[.int .i64, .bool],[]⟩) (cst:=[]) (outS:=⟨[.str],[]⟩) (k:=0) (dG) (by kernel_rfl) (fun S h=>zp1 S h)
theorem ztu:zm Tryz.prog (jV Vz):=
 okC (A:=⟨[Nw qd,QP zB,qp zC,nG Qu,NB ZP,jA ZQ],[],[],0,[(4,⟨[3,4],⟨[.str, .int .i64],[]⟩,[0,2],[],[],0,[3],⟨[.str],[]⟩,[]⟩)],[(5,⟨[3,4],⟨[.str, .int .i64],[]⟩,[],[],[],0,[],⟨[],[]⟩,[]⟩)],[]⟩) (exS:=⟨[.str],[]⟩) Tryz.f224 (memC SB (memC QG (memC qo (memC oM (memC FH (memC fG zw)))))) (by kernel_rfl) (by kernel_rfl) fun x=>by kernel_rfl
theorem ztt:zm Tryz.prog (kV Kr):=
 okC (A:=⟨[jA ZQ,DX vv,LB qF,jV Vz],[(22,[0])],[],0,[],[],[]⟩) (exS:=⟨[.str],[]⟩) Tryz.f196 (memC fG (memC zpz (memC zpy (memC ztu zw)))) (by kernel_rfl) (by kernel_rfl) fun x=>by kernel_rfl
theorem zqO:zm Tryz.prog (gW JA):=
 okC (A:=⟨[LG qJ,kV Kr],[],[],0,[(6,⟨[5,6],⟨[.int .i64, .str],[]⟩,[0,2,3],[],[],0,[5,6],⟨[.int .i64, .str],[]⟩,[]⟩)],[],[]⟩) (exS:=⟨[.int .i64, .str],[]⟩) Tryz.f166 (memC UM (memC ztt zw)) (by kernel_rfl) (by kernel_rfl) fun x=>by kernel_rfl
theorem ztm:zm Tryz.prog (SV Er):=
 okC (A:=⟨[iL aj],[],[],0,[(1,⟨[1],⟨[.int .i64],[]⟩,[0,4],[],[],0,[1],⟨[.int .i64],[]⟩,[]⟩),(3,⟨[1],⟨[.int .i64],[]⟩,[],[],[],2,[1],⟨[.int .i64],[]⟩,[]⟩)],[],[]⟩) (exS:=⟨[.int .i64],[]⟩) Tryz.f197 (memC BV zw) (by kernel_rfl) (by kernel_rfl) fun x=>by kernel_rfl
theorem zvW:zm Tryz.prog (WU Bz):=
 okC (A:=⟨[SV Er,jL Rl],[(6,[2,8])],[],0,[(4,⟨[4,5,6],⟨[.own 2463, .own 2464, .int .i64],[(2463, .sl 57),(2464, .sl 216)]⟩,[0,2,3],[],[],0,[4,5],⟨[.own 2463, .own 2464],[(2463, .sl 57),(2464, .sl 216)]⟩,[2463,2464]⟩)],[],[]⟩) (exS:=⟨[.sl 57, .sl 216],[]⟩) Tryz.f167 (memC ztm (memC CV zw)) (by kernel_rfl) (by kernel_rfl) fun x=>by kernel_rfl
theorem ztn:zm Tryz.prog (RV Yz):=
 okC (A:=⟨[],[],[],0,[(4,⟨[5],⟨[.int .i64],[]⟩,[0,1],[],[],0,[],⟨[],[]⟩,[]⟩)],[],[]⟩) (exS:=⟨[.bool],[]⟩) Tryz.f168 zw (by kernel_rfl) (by kernel_rfl) fun x=>by kernel_rfl
theorem znH:zm Tryz.prog (DY Iw):=
 okC (A:=⟨[gW JA,WU Bz,RV Yz],[],[],0,[(3,⟨[3,4],⟨[.str, .int .i64],[]⟩,[0,2],[],[],0,[3],⟨[.str],[]⟩,[]⟩)],[(8,⟨[3,4],⟨[.str, .int .i64],[]⟩,[5,6],[],[],0,[],⟨[],[]⟩,[]⟩)],[]⟩) (exS:=⟨[.str],[]⟩) Tryz.f120 (memC zqO (memC zvW (memC ztn zw))) (by kernel_rfl) (by kernel_rfl) fun x=>by kernel_rfl
theorem znJ:zm Tryz.prog (OY uA):=
 okC (A:=⟨[jA ZQ,Q8 Z4,DY Iw],[],[],0,[],[(4,⟨[3],⟨[.str],[]⟩,[],[],[],0,[],⟨[],[]⟩,[]⟩)],[]⟩) (exS:=⟨[.str],[]⟩) Tryz.f75 (memC fG (memC mM (memC znH zw))) (by kernel_rfl) (by kernel_rfl) fun x=>by kernel_rfl
theorem zpF:zm Tryz.prog (pX Xr):=
 okC (A:=⟨[gL jo],[],[],0,[],[],[]⟩) (exS:=⟨[.bool],[]⟩) Tryz.f76 (memC AV zw) (by kernel_rfl) (by kernel_rfl) fun x=>by kernel_rfl
theorem uX(zy:zg->Option Str)(h_ref10_Written:zm Tryz.prog (qw zy)):zm Tryz.prog (aM (Vr zy)):=
 okC (A:=⟨[qw zy],[],[],0,[],[],[]⟩) (exS:=⟨[.str],[]⟩) Tryz.f77 (memC h_ref10_Written zw) (by kernel_rfl) (by kernel_rfl) fun x=>by kernel_rfl
theorem zpE(zy:zg->Option Str)(h_ref10_Written:zm Tryz.prog (qw zy)):zm Tryz.prog (rX (Yr zy)):=
 okC (A:=⟨[aM (Vr zy),qw zy],[],[],0,[(3,⟨[7,8],⟨[.str, .int .i64],[]⟩,[0,1,2,6],[],[],0,[7],⟨[.str],[]⟩,[]⟩)],[(4,⟨[7,8],⟨[.str, .int .i64],[]⟩,[],[],[],0,[],⟨[],[]⟩,[]⟩),(7,⟨[7],⟨[.str],[]⟩,[8],[],[],0,[],⟨[],[]⟩,[]⟩)],[]⟩) (exS:=⟨[.str],[]⟩) Tryz.f78 (memC (uX zy h_ref10_Written) (memC h_ref10_Written zw)) (by kernel_rfl) (by kernel_rfl) fun x=>by kernel_rfl
theorem znP(zy:zg->Option Str)(hs:zm Tryz.prog (qw zy)):zm Tryz.prog (qw (WG zy)):=
 okC (A:=⟨[jA ZQ,dA nk,OY uA,pX Xr,qw zy,aM (Vr zy),EM QK,rX (Yr zy)],[],[],0,[],[],[]⟩) (exS:=⟨[.str],[]⟩) Tryz.f43 (memC fG (memC zty (memC znJ (memC zpF (memC hs (memC (uX zy hs) (memC WX (memC (zpE zy hs) zw)))))))) (by kernel_rfl) (by kernel_rfl) fun x=>by kernel_rfl
theorem znL:zm Tryz.prog (qw zy):=
 zm.recE (I:=I) (P:=Tryz.prog) (f:=43) (inS:=⟨[.val 27],[]⟩) (cst:=[]) (outS:=⟨[.str],[]⟩) (k:=0) (WG) (by kernel_rfl) (fun S h=>znP S h)
theorem ztA:zm Tryz.prog (gV Uz):=
 okC (A:=⟨[lG Q4,QT ZF,qw zy],[],[],0,[],[],[]⟩) (exS:=⟨[.str, .int .i64],[]⟩) Tryz.f15 (memC lM (memC NH (memC znL zw))) (by kernel_rfl) (by kernel_rfl) fun x=>by kernel_rfl
theorem zke:zm Tryz.prog (VY XB):=
 okC (A:=⟨[lG Q4],[],[],0,[],[],[]⟩) (exS:=⟨[.int .i64],[]⟩) Tryz.f17 (memC lM zw) (by kernel_rfl) (by kernel_rfl) fun x=>by kernel_rfl
theorem zhH:zm Tryz.prog (uY QJ):=
 okC (A:=⟨[QT ZF],[],[],0,[],[],[]⟩) (exS:=⟨[.int .i64],[]⟩) Tryz.f19 (memC NH zw) (by kernel_rfl) (by kernel_rfl) fun x=>by kernel_rfl
theorem zue(ol:List zh×List zh->Option Bool)(hs:zm Tryz.prog (UA ol)):zm Tryz.prog (UA (IG ol)):=
 okC (A:=⟨[UA ol],[],[],0,[(4,⟨[5],⟨[.int .i64],[]⟩,[0,1],[],[],0,[],⟨[],[]⟩,[]⟩)],[],[]⟩) (exS:=⟨[.bool],[]⟩) Tryz.f84 (memC hs zw) (by kernel_rfl) (by kernel_rfl) fun x=>by kernel_rfl
theorem ztv:zm Tryz.prog (UA ol):=
 zm.recE (I:=I) (P:=Tryz.prog) (f:=84) (inS:=⟨[.sl 59, .sl 59],[]⟩) (cst:=[]) (outS:=⟨[.bool],[]⟩) (k:=0) (IG) (by kernel_rfl) (fun S h=>zue S h)
theorem zqU:zm Tryz.prog (WW BA):=
 okC (A:=⟨[UA ol],[],[],0,[],[],[]⟩) (exS:=⟨[.bool],[]⟩) Tryz.f49 (memC ztv zw) (by kernel_rfl) (by kernel_rfl) fun x=>by kernel_rfl
theorem ztx:zm Tryz.prog (iV Jr):=
 okC (A:=⟨[WW BA],[],[],0,[(4,⟨[5],⟨[.int .i64],[]⟩,[0,1],[],[],0,[],⟨[],[]⟩,[]⟩)],[],[]⟩) (exS:=⟨[.bool],[]⟩) Tryz.f20 (memC zqU zw) (by kernel_rfl) (by kernel_rfl) fun x=>by kernel_rfl
theorem zlF:zm Tryz.prog (RY vG):=
 okC (A:=⟨[UW yz,bV Sz,VW AA,aV oz,PW xz,jU Pz,gV Uz,JH qy,VY XB,LH ZH,uY QJ,iV Jr],[],[],0,[],[],[]⟩) (exS:=⟨[.bool],[]⟩) Tryz.f3 (memC zqW (memC ztc (memC zqV (memC ztd (memC zqX (memC zvJ (memC ztA (memC FN (memC zke (memC JN (memC zhH (memC ztx zw)))))))))))) (by kernel_rfl) (by kernel_rfl) fun x=>by kernel_rfl
end Go.Lv.VT
