/- Contracts. -/
import Derived.Test.YtkecjfeffabgiaaGreatDoorCoa
set_option linter.unusedSimpArgs false
set_option linter.unusedVariables false
namespace Go.Lv.VT
set_option maxRecDepth 100000
open Go.Proofs
theorem zvM(ZK:zg->Option Str)(h_cond_media:zm Tryz.prog (Js ZK)):zm Tryz.prog (gU (Nv ZK)):=
 okC (A:=⟨[Js ZK,oI Dl],[(5,[4])],[(7,[(7,none)])],0,[(3,⟨[7,12],⟨[.own 1417, .int .i64],[(1417, .sl 9)]⟩,[1,2,6,10,11],[],[],0,[7],⟨[.own 1417],[(1417, .sl 9)]⟩,[1417]⟩)],[],[]⟩) (exS:=⟨[.str],[]⟩) Tryz.f68 (memC h_cond_media (memC VQ zw)) (by kernel_rfl) (by kernel_rfl) fun x=>by kernel_rfl
theorem zua(ZK:zg->Option Str)(hs:zm Tryz.prog (Js ZK)):zm Tryz.prog (Js (vF ZK)):=
 okC (A:=⟨[lL uq,Js ZK,gU (Nv ZK),pW vz],[],[],0,[],[],[]⟩) (exS:=⟨[.str],[]⟩) Tryz.f41 (memC FV (memC hs (memC (zvM ZK hs) (memC zqH zw)))) (by kernel_rfl) (by kernel_rfl) fun x=>by kernel_rfl
theorem ztg:zm Tryz.prog (Js ZK):=
 zm.recE (I:=I) (P:=Tryz.prog) (f:=41) (inS:=⟨[.val 27],[]⟩) (cst:=[]) (outS:=⟨[.str],[]⟩) (k:=0) (vF) (by kernel_rfl) (fun S h=>zua S h)
theorem zqJ:zm Tryz.prog (nW QD):=
 okC (A:=⟨[CG jl,Dw qI,BH Z9],[(6,[2])],[],1,[(2,⟨[0,11],⟨[.own 1419, .int .i64],[(1419, .sl 5)]⟩,[1,2,6,10],[],[],0,[0],⟨[.own 1419],[(1419, .sl 5)]⟩,[1419]⟩)],[(8,⟨[0,11],⟨[.own 1521, .int .i64],[(1521, .sl 5)]⟩,[],[],[],0,[],⟨[],[]⟩,[]⟩)],[]⟩) (exS:=⟨[.own 1],[(1, .sl 5)]⟩) Tryz.f110 (memC BM (memC AB (memC xM zw))) (by kernel_rfl) (by kernel_rfl) fun x=>by kernel_rfl
theorem ztl:zm Tryz.prog (UV dz):=
 okC (A:=⟨[],[],[],0,[],[],[]⟩) (exS:=⟨[.optr 0],[(0, .row 230)]⟩) Tryz.f221 zw (by kernel_rfl) (by kernel_rfl) fun x=>by kernel_rfl
theorem znF:zm Tryz.prog (FY Ms):=
 okC (A:=⟨[BU oq,KT Vq,GR Ao],[(2,[1]),(6,[1])],[],1,[],[(3,⟨[0,1],⟨[.own 2043, .int .i64],[(2043, .sl 5)]⟩,[2],[],[],0,[],⟨[],[]⟩,[]⟩),(9,⟨[0],⟨[.own 2146],[(2146, .sl 5)]⟩,[],[],[],0,[],⟨[],[]⟩,[]⟩)],[]⟩) (exS:=⟨[.own 1],[(1, .sl 5)]⟩) Tryz.f220 (memC zxo (memC zz6 (memC zCC zw))) (by kernel_rfl) (by kernel_rfl) fun x=>by kernel_rfl
theorem zqK:zm Tryz.prog (mW Wv):=
 okC (A:=⟨[KM Bl,nW QD,qc strings_IndexByte,BH Z9,FY Ms,iM Fs,ZM strings_HasPrefix,UV dz],[(5,[7]),(7,[1]),(12,[1]),(14,[1]),(20,[2]),(22,[1]),(30,[2]),(32,[1]),(38,[4])],[],1,[(16,⟨[0,67],⟨[.own 1836, .int .i64],[(1836, .sl 5)]⟩,[3,4,65,66],[1,4],[],1,[0],⟨[.own 1836],[(1836, .sl 5)]⟩,[1836]⟩),(26,⟨[0,93],⟨[.own 1940, .int .i64],[(1940, .sl 5)]⟩,[3,4,91,92],[1,3],[],3,[0],⟨[.own 1940],[(1940, .sl 5)]⟩,[1940]⟩)],[(12,⟨[5],⟨[.int .i64],[(0, .sl 5)]⟩,[0,3],[1],[0],0,[],⟨[],[]⟩,[]⟩),(21,⟨[0,67],⟨[.own 1938, .int .i64],[(1938, .sl 5)]⟩,[],[],[],0,[],⟨[],[]⟩,[]⟩),(31,⟨[0,93],⟨[.own 2042, .int .i64],[(2042, .sl 5)]⟩,[],[],[],0,[],⟨[],[]⟩,[]⟩)],[]⟩) (exS:=⟨[.own 1],[(1, .sl 5)]⟩) Tryz.f194 (memC DW (memC zqJ (memC qC (memC xM (memC znF (memC xX (memC ZY (memC ztl zw)))))))) (by kernel_rfl) (by kernel_rfl) fun x=>by kernel_rfl
theorem zgs:zm Tryz.prog (wY ZH):=
 okC (A:=⟨[ZM strings_HasPrefix,IK Lm],[],[],1,[(0,⟨[],⟨[],[(0, .row 121)]⟩,[0],[],[0],0,[],⟨[],[(0, .row 121)]⟩,[0]⟩)],[],[]⟩) (exS:=⟨[],[(0, .row 121)]⟩) Tryz.f95 (memC ZY (memC PS zw)) (by kernel_rfl) (by kernel_rfl) fun x=>by kernel_rfl
theorem zK:zm Tryz.prog (zH zf):=
 okC (A:=⟨[],[],[],1,[],[],[]⟩) (exS:=⟨[.int .i64],[]⟩) Tryz.f138 zw (by kernel_rfl) (by kernel_rfl) fun x=>by kernel_rfl
theorem RB:zm Tryz.prog (Nw Ql):=
 okC (A:=⟨[],[],[],0,[],[],[]⟩) (exS:=⟨[.bool],[]⟩) Tryz.f139 zw (by kernel_rfl) (by kernel_rfl) fun x=>by kernel_rfl
theorem RN:zm Tryz.prog (QU Zp):=
 okC (A:=⟨[zH zf,Nw Ql],[],[],1,[(0,⟨[],⟨[],[(0, .row 121)]⟩,[0,1],[],[0],0,[],⟨[],[(0, .row 121)]⟩,[0]⟩)],[],[]⟩) (exS:=⟨[],[(0, .row 121)]⟩) Tryz.f140 (memC zK (memC RB zw)) (by kernel_rfl) (by kernel_rfl) fun x=>by kernel_rfl
theorem zeN:zm Tryz.prog (GZ qW):=
 okC (A:=⟨[],[(2,[1]),(4,[9]),(7,[14]),(9,[19])],[],0,[],[(7,⟨[25],⟨[.bool],[]⟩,[0,1,5],[],[],0,[],⟨[],[]⟩,[]⟩)],[]⟩) (exS:=⟨[.own 0],[(0, .sl 5)]⟩) Tryz.f244 zw (by kernel_rfl) (by kernel_rfl) fun x=>by kernel_rfl
theorem zjo:zm Tryz.prog (TY qO):=
 okC (A:=⟨[GZ qW],[(2,[3])],[],0,[],[],[]⟩) (exS:=⟨[.own 0],[(0, .sl 5)]⟩) Tryz.f210 (memC zeN zw) (by kernel_rfl) (by kernel_rfl) fun x=>by kernel_rfl
theorem FH:zm Tryz.prog (FB qH):=
 okC (A:=⟨[],[],[],0,[],[],[]⟩) (exS:=⟨[.bool],[]⟩) Tryz.f212 zw (by kernel_rfl) (by kernel_rfl) fun x=>by kernel_rfl
theorem SB:zm Tryz.prog (Ow ZZ):=
 okC (A:=⟨[FB qH],[],[],0,[],[],[]⟩) (exS:=⟨[.bool],[]⟩) Tryz.f182 (memC FH zw) (by kernel_rfl) (by kernel_rfl) fun x=>by kernel_rfl
theorem yU:zm Tryz.prog (gL jo):=
 okC (A:=⟨[Ow ZZ,FB qH],[],[],0,[],[],[]⟩) (exS:=⟨[.int .i64],[]⟩) Tryz.f211 (memC SB (memC FH zw)) (by kernel_rfl) (by kernel_rfl) fun x=>by kernel_rfl
theorem zfM:zm Tryz.prog (IZ qB):=
 okC (A:=⟨[zH zf,TY qO,gL jo,Nw Ql],[(7,[3])],[],1,[(10,⟨[6,36],⟨[.int .i64, .int .i64],[(0, .row 121)]⟩,[0,1,4],[],[0],0,[6],⟨[.int .i64],[(0, .row 121)]⟩,[0]⟩)],[(17,⟨[6],⟨[.int .i64],[(0, .row 121)]⟩,[1],[],[0],0,[],⟨[],[]⟩,[]⟩),(19,⟨[6],⟨[.int .i64],[]⟩,[],[0],[],0,[],⟨[],[]⟩,[]⟩)],[]⟩) (exS:=⟨[.own 1],[(0, .row 121),(1, .sl 5)]⟩) Tryz.f180 (memC zK (memC zjo (memC yU (memC RB zw)))) (by kernel_rfl) (by kernel_rfl) fun x=>by kernel_rfl
theorem zeO:zm Tryz.prog (FZ qX):=
 okC (A:=⟨[],[(2,[1]),(4,[9]),(7,[14]),(9,[19])],[],1,[],[(7,⟨[25],⟨[.bool],[(0, .sl 5)]⟩,[0,1,5],[],[0],0,[],⟨[],[]⟩,[]⟩)],[]⟩) (exS:=⟨[.own 1],[(1, .sl 5)]⟩) Tryz.f244 zw (by kernel_rfl) (by kernel_rfl) fun x=>by kernel_rfl
theorem zjq:zm Tryz.prog (SY qP):=
 okC (A:=⟨[FZ qX],[(2,[3])],[],1,[],[],[]⟩) (exS:=⟨[.own 1],[(1, .sl 5)]⟩) Tryz.f210 (memC zeO zw) (by kernel_rfl) (by kernel_rfl) fun x=>by kernel_rfl
theorem QN:zm Tryz.prog (qR Zl):=
 okC (A:=⟨[zH zf,SY qP,gL jo,Nw Ql],[(7,[3])],[],2,[(10,⟨[6,36],⟨[.int .i64, .int .i64],[(0, .row 121)]⟩,[0,1,4],[1],[0],0,[6],⟨[.int .i64],[(0, .row 121)]⟩,[0]⟩)],[(17,⟨[6],⟨[.int .i64],[(0, .row 121),(1, .sl 5)]⟩,[1],[],[0,1],0,[],⟨[],[]⟩,[]⟩),(19,⟨[6],⟨[.int .i64],[(1, .sl 5)]⟩,[],[0],[1],0,[],⟨[],[]⟩,[]⟩)],[]⟩) (exS:=⟨[.own 2],[(0, .row 121),(2, .sl 5)]⟩) Tryz.f180 (memC zK (memC zjq (memC yU (memC RB zw)))) (by kernel_rfl) (by kernel_rfl) fun x=>by kernel_rfl
theorem zhw:zm Tryz.prog (nY Qn):=
 okC (A:=⟨[zH zf,qR Zl],[(5,[3])],[],1,[(4,⟨[4],⟨[.own 2148],[(0, .row 121),(1, .row 57),(2148, .sl 5)]⟩,[0,2,3],[],[0,1],0,[4],⟨[.own 2148],[(0, .row 121),(1, .row 57),(2148, .sl 5)]⟩,[0,1,2148]⟩)],[],[]⟩) (exS:=⟨[.optr 1],[(0, .row 121),(1, .row 57)]⟩) Tryz.f141 (memC zK (memC QN zw)) (by kernel_rfl) (by kernel_rfl) fun x=>by kernel_rfl
theorem UX:zm Tryz.prog (FM Ur):=
 okC (A:=⟨[FB qH],[],[],0,[],[],[]⟩) (exS:=⟨[.bool],[]⟩) Tryz.f181 (memC FH zw) (by kernel_rfl) (by kernel_rfl) fun x=>by kernel_rfl
theorem tX:zm Tryz.prog (bM Fw):=
 okC (A:=⟨[FM Ur,Ow ZZ],[],[],0,[],[],[]⟩) (exS:=⟨[.bool],[]⟩) Tryz.f142 (memC UX (memC SB zw)) (by kernel_rfl) (by kernel_rfl) fun x=>by kernel_rfl
theorem qz:zm Tryz.prog (Z5 zD):=
 okC (A:=⟨[zH zf],[],[],1,[],[],[]⟩) (exS:=⟨[.bool],[]⟩) Tryz.f143 (memC zK zw) (by kernel_rfl) (by kernel_rfl) fun x=>by kernel_rfl
theorem eY:zm Tryz.prog (NN zW):=
 okC (A:=⟨[zH zf,FM Ur,Z5 zD],[],[],1,[],[],[]⟩) (exS:=⟨[.bool],[]⟩) Tryz.f144 (memC zK (memC UX (memC qz zw))) (by kernel_rfl) (by kernel_rfl) fun x=>by kernel_rfl
theorem KN:zm Tryz.prog (MH Zh):=
 okC (A:=⟨[zH zf,bM Fw,Z5 zD,qR Zl],[(5,[3])],[],1,[(2,⟨[3],⟨[.own 2149],[(0, .row 121),(2149, .sl 5)]⟩,[0],[],[0],0,[],⟨[],[]⟩,[]⟩)],[],[]⟩) (exS:=⟨[.str],[(0, .row 121)]⟩) Tryz.f145 (memC zK (memC tX (memC qz (memC QN zw)))) (by kernel_rfl) (by kernel_rfl) fun x=>by kernel_rfl
theorem zhv:zm Tryz.prog (pY Z0):=
 okC (A:=⟨[zH zf,Ow ZZ],[],[],1,[],[(5,⟨[3],⟨[.int .i64],[]⟩,[0],[],[],0,[],⟨[],[]⟩,[]⟩),(7,⟨[3],⟨[.int .i64],[]⟩,[],[],[],0,[],⟨[],[]⟩,[]⟩)],[]⟩) (exS:=⟨[.bool],[]⟩) Tryz.f146 (memC zK (memC SB zw)) (by kernel_rfl) (by kernel_rfl) fun x=>by kernel_rfl
theorem zgS:zm Tryz.prog (BZ Zn):=
 okC (A:=⟨[zH zf,Ow ZZ],[],[],1,[(0,⟨[],⟨[],[(0, .row 121)]⟩,[0,1],[],[0],0,[],⟨[],[(0, .row 121)]⟩,[0]⟩)],[],[]⟩) (exS:=⟨[],[(0, .row 121)]⟩) Tryz.f140 (memC zK (memC SB zw)) (by kernel_rfl) (by kernel_rfl) fun x=>by kernel_rfl
theorem zgQ:zm Tryz.prog (DZ Qb):=
 okC (A:=⟨[zH zf,BZ Zn,Ow ZZ],[],[],1,[],[(4,⟨[],⟨[],[(0, .row 121)]⟩,[0],[],[0],0,[],⟨[],[]⟩,[]⟩),(10,⟨[4],⟨[.bool],[(0, .row 121)]⟩,[],[],[0],0,[],⟨[],[]⟩,[]⟩),(15,⟨[4,5],⟨[.bool, .int .i64],[(0, .row 121)]⟩,[],[],[0],0,[],⟨[],[]⟩,[]⟩),(19,⟨[4],⟨[.bool],[(0, .row 121)]⟩,[],[],[0],0,[],⟨[],[]⟩,[]⟩)],[]⟩) (exS:=⟨[.bool],[(0, .row 121)]⟩) Tryz.f183 (memC zK (memC zgS (memC SB zw))) (by kernel_rfl) (by kernel_rfl) fun x=>by kernel_rfl
theorem zjn:zm Tryz.prog (gY qN):=
 okC (A:=⟨[IR Pk,bU ik,G6 cutF],[],[],0,[(8,⟨[6,31],⟨[.int .i64, .int .i64],[]⟩,[0,2,3,4,5,29,30],[0],[],0,[6],⟨[.int .i64],[]⟩,[]⟩),(22,⟨[12,81],⟨[.int .i64, .int .i64],[]⟩,[4,79,80],[0],[],2,[12],⟨[.int .i64],[]⟩,[]⟩),(26,⟨[4,12],⟨[.int .i64, .int .i64],[]⟩,[],[],[],4,[12],⟨[.int .i64],[]⟩,[]⟩)],[(14,⟨[0,4,6],⟨[.str, .int .i64, .int .i64],[]⟩,[3,5],[],[],0,[],⟨[],[]⟩,[]⟩),(15,⟨[0,4],⟨[.str, .int .i64],[]⟩,[3],[],[],0,[],⟨[],[]⟩,[]⟩),(20,⟨[0,4],⟨[.str, .int .i64],[]⟩,[],[],[],0,[],⟨[],[]⟩,[]⟩),(31,⟨[12],⟨[.int .i64],[]⟩,[],[],[],0,[],⟨[],[]⟩,[]⟩)],[]⟩) (exS:=⟨[.int .i64],[]⟩) Tryz.f184 (memC zCB (memC zvR (memC zH2 zw))) (by kernel_rfl) (by kernel_rfl) fun x=>by kernel_rfl
theorem zgR:zm Tryz.prog (CZ qj):=
 okC (A:=⟨[DZ Qb,gY qN,NN zW,MH Zh,zH zf],[],[],1,[],[(9,⟨[],⟨[],[(0, .row 121),(1, .row 57),(2, .row 57)]⟩,[2,5],[],[0,1,2],0,[],⟨[],[]⟩,[]⟩)],[]⟩) (exS:=⟨[.optr 1],[(0, .row 121),(1, .row 57)]⟩) Tryz.f147 (memC zgQ (memC zjn (memC eY (memC KN (memC zK zw))))) (by kernel_rfl) (by kernel_rfl) fun x=>by kernel_rfl
theorem zjl:zm Tryz.prog (jY qM):=
 okC (A:=⟨[zH zf,Z5 zD,IZ qB],[],[],1,[(1,⟨[],⟨[],[(0, .row 121),(1, .row 57)]⟩,[0,2],[],[0,1],0,[],⟨[],[]⟩,[]⟩)],[],[]⟩) (exS:=⟨[.optr 1],[(0, .row 121),(1, .row 57)]⟩) Tryz.f216 (memC zK (memC qz (memC zfM zw))) (by kernel_rfl) (by kernel_rfl) fun x=>by kernel_rfl
theorem zjm:zm Tryz.prog (iY UB):=
 okC (A:=⟨[QU Zp,zH zf,Nw Ql,jY qM,FB qH,Z5 zD,qR Zl],[(18,[3])],[],1,[(3,⟨[3],⟨[.own 2150],[(0, .row 121),(1, .row 57),(2150, .sl 5)]⟩,[0,2],[],[0,1],0,[],⟨[],[]⟩,[]⟩)],[(10,⟨[3,4],⟨[.own 2150, .int .i64],[(0, .row 121),(1, .row 57),(2150, .sl 5)]⟩,[],[],[0,1,2150],0,[],⟨[],[]⟩,[]⟩)],[]⟩) (exS:=⟨[.optr 1],[(0, .row 121),(1, .row 57)]⟩) Tryz.f185 (memC RN (memC zK (memC RB (memC zjl (memC FH (memC qz (memC QN zw))))))) (by kernel_rfl) (by kernel_rfl) fun x=>by kernel_rfl
theorem zhK:zm Tryz.prog (rY qf):=
 okC (A:=⟨[MH Zh,zH zf,kM Nn,QU Zp,iY UB],[],[],1,[],[(11,⟨[],⟨[],[(0, .row 121),(1, .row 57)]⟩,[2,3],[],[0,1],0,[],⟨[],[]⟩,[]⟩)],[]⟩) (exS:=⟨[.optr 1],[(0, .row 121),(1, .row 57)]⟩) Tryz.f148 (memC KN (memC zK (memC YX (memC RN (memC zjm zw))))) (by kernel_rfl) (by kernel_rfl) fun x=>by kernel_rfl
theorem ziw:zm Tryz.prog (YY Qg):=
 okC (A:=⟨[zH zf,Nw Ql,QU Zp,nY Qn,bM Fw,Z5 zD,NN zW,MH Zh,pY Z0,CZ qj,ZM strings_HasPrefix,rY qf,qc strings_IndexByte],[],[],1,[],[],[]⟩) (exS:=⟨[.optr 1],[(0, .row 121),(1, .row 57)]⟩) Tryz.f96 (memC zK (memC RB (memC RN (memC zhw (memC tX (memC qz (memC eY (memC KN (memC zhv (memC zgR (memC ZY (memC zhK (memC qC zw))))))))))))) (by kernel_rfl) (by kernel_rfl) fun x=>by kernel_rfl
theorem zkg:zm Tryz.prog (UY XB):=
 okC (A:=⟨[],[(1,[2])],[],2,[],[],[]⟩) (exS:=⟨[],[(0, .cells 62 [.own 2]),(2, .sl 57)]⟩) Tryz.f56 zw (by kernel_rfl) (by kernel_rfl) fun x=>by kernel_rfl
theorem zpI:zm Tryz.prog (kX LA):=
 okC (A:=⟨[JR Sm,wY ZH,YY Qg,UY XB],[],[],1,[(7,⟨[7],⟨[.int .i64],[(0, .cells 62 [.own 2151]),(2151, .sl 57),(1, .row 121)]⟩,[0,1,6],[],[0,1],0,[],⟨[],[(0, .cells 62 [.own 2151]),(2151, .sl 57),(1, .row 121)]⟩,[0,1,2151]⟩)],[],[]⟩) (exS:=⟨[.int .i64],[(0, .cells 62 [.own 1]),(1, .sl 57)]⟩) Tryz.f55 (memC zCA (memC zgs (memC ziw (memC zkg zw)))) (by kernel_rfl) (by kernel_rfl) fun x=>by kernel_rfl
theorem zpH:zm Tryz.prog (lX NA):=
 okC (A:=⟨[kX LA],[],[],0,[],[],[]⟩) (exS:=⟨[.sl 57, .int .i64],[]⟩) Tryz.f27 (memC zpI zw) (by kernel_rfl) (by kernel_rfl) fun x=>by kernel_rfl
theorem zit:zm Tryz.prog (bY Qe):=
 okC (A:=⟨[],[],[],0,[(4,⟨[13],⟨[.int .i64],[]⟩,[0,1,12],[],[],0,[],⟨[],[]⟩,[]⟩)],[],[]⟩) (exS:=⟨[.bool],[]⟩) Tryz.f195 zw (by kernel_rfl) (by kernel_rfl) fun x=>by kernel_rfl
theorem ztk:zm Tryz.prog (VV gz):=
 okC (A:=⟨[LM QR,JM QS,mW Wv,lX NA,bY Qe],[(24,[5])],[],0,[(7,⟨[5,6,7],⟨[.own 2253, .own 2254, .int .i64],[(2253, .sl 5),(2254, .sl 211)]⟩,[0],[],[],0,[5],⟨[.own 2253],[(2253, .sl 5)]⟩,[2253]⟩),(11,⟨[9,36],⟨[.own 1834, .int .i64],[(1834, .sl 5)]⟩,[5,6,7,8,34,35],[2253,2254],[],2,[9],⟨[.own 1834],[(1834, .sl 5)]⟩,[1834]⟩)],[(17,⟨[5,6,7,9],⟨[.own 2253, .own 2254, .int .i64, .own 2356],[(2253, .sl 5),(2254, .sl 211),(2356, .sl 5)]⟩,[8],[],[2253,2254],0,[],⟨[],[]⟩,[]⟩),(21,⟨[5,6,7],⟨[.own 2253, .own 2254, .int .i64],[(2253, .sl 5),(2254, .sl 211),(2357, .row 211)]⟩,[9,12],[2356],[2253,2254,2357],0,[],⟨[],[]⟩,[]⟩),(24,⟨[5,6,7],⟨[.own 2461, .own 2254, .int .i64],[(2254, .sl 211),(2461, .sl 5)]⟩,[],[2357],[2254],0,[],⟨[],[]⟩,[]⟩)],[]⟩) (exS:=⟨[.str, .int .i64],[]⟩) Tryz.f163 (memC EW (memC CW (memC zqK (memC zpH (memC zit zw))))) (by kernel_rfl) (by kernel_rfl) fun x=>by kernel_rfl
theorem zvU:zm Tryz.prog (YU Ez):=
 okC (A:=⟨[WA Al,FX Gp,VV gz],[],[],0,[],[],[]⟩) (exS:=⟨[.str, .int .i64],[]⟩) Tryz.f115 (memC SG (memC zpu (memC ztk zw))) (by kernel_rfl) (by kernel_rfl) fun x=>by kernel_rfl
theorem zvO:zm Tryz.prog (fU Oz):=
 okC (A:=⟨[MM yo,lL uq,YU Ez],[],[],0,[],[(13,⟨[8],⟨[.str],[]⟩,[],[],[],0,[],⟨[],[]⟩,[]⟩)],[]⟩) (exS:=⟨[.str, .int .i64],[]⟩) Tryz.f72 (memC FW (memC FV (memC zvU zw))) (by kernel_rfl) (by kernel_rfl) fun x=>by kernel_rfl
theorem XY(zG:zg×Bool->Option (Str×Bool))(h_cond_supports:zm Tryz.prog (QB zG)):zm Tryz.prog (DN (QC zG)):=
 okC (A:=⟨[QB zG,nL Cr],[],[],2,[],[],[]⟩) (exS:=⟨[.str],[(1, .row 4)]⟩) Tryz.f70 (memC h_cond_supports (memC GV zw)) (by kernel_rfl) (by kernel_rfl) fun x=>by kernel_rfl
theorem zqE(zG:zg×Bool->Option (Str×Bool))(h_cond_supports:zm Tryz.prog (QB zG)):zm Tryz.prog (uW (bv zG)):=
 okC (A:=⟨[DN (QC zG),oI Dl],[(5,[4])],[(7,[(7,none)])],2,[(3,⟨[7,12],⟨[.own 2462, .int .i64],[(1, .row 4),(2462, .sl 9)]⟩,[1,2,6,10,11],[],[1],0,[7],⟨[.own 2462],[(1, .row 4),(2462, .sl 9)]⟩,[1,2462]⟩)],[],[]⟩) (exS:=⟨[.str],[(1, .row 4)]⟩) Tryz.f68 (memC (XY zG h_cond_supports) (memC VQ zw)) (by kernel_rfl) (by kernel_rfl) fun x=>by kernel_rfl
theorem znN(zG:zg×Bool->Option (Str×Bool))(hs:zm Tryz.prog (QB zG)):zm Tryz.prog (QB (yG zG)):=
 okC (A:=⟨[fU Oz,DN (QC zG),uW (bv zG)],[],[],1,[],[],[]⟩) (exS:=⟨[.str],[(0, .row 4)]⟩) Tryz.f42 (memC zvO (memC (XY zG hs) (memC (zqE zG hs) zw))) (by kernel_rfl) (by kernel_rfl) fun x=>by kernel_rfl
theorem znD:zm Tryz.prog (QB zG):=
 zm.recE (I:=I) (P:=Tryz.prog) (f:=42) (inS:=⟨[.val 27, .optr 0],[(0, .row 4)]⟩) (cst:=[]) (outS:=⟨[.str],[(0, .row 4)]⟩) (k:=0) (yG) (by kernel_rfl) (fun S h=>znN S h)
theorem zvK:zm Tryz.prog (jU Tz):=
 okC (A:=⟨[NM Jr,LH qy,Js ZK,QB zG],[],[],0,[],[(8,⟨[5],⟨[.str],[(1, .row 4)]⟩,[6],[],[1],0,[],⟨[],[]⟩,[]⟩)],[]⟩) (exS:=⟨[.str, .int .i64],[]⟩) Tryz.f14 (memC rV (memC JN (memC ztg (memC znD zw)))) (by kernel_rfl) (by kernel_rfl) fun x=>by kernel_rfl
theorem sM:zm Tryz.prog (pG Qu):=
 okC (A:=⟨[Pw qd,qp zC],[(3,[1])],[],0,[],[(7,⟨[4],⟨[.str],[]⟩,[],[],[],0,[],⟨[],[]⟩,[]⟩)],[]⟩) (exS:=⟨[.str],[]⟩) Tryz.f118 (memC TB (memC qo zw)) (by kernel_rfl) (by kernel_rfl) fun x=>by kernel_rfl
theorem iG:zm Tryz.prog (nA ZQ):=
 okC (A:=⟨[OB ZP,qp zC,pG Qu],[],[],0,[(3,⟨[5,6],⟨[.str, .int .i64],[]⟩,[0,1,4],[],[],0,[5],⟨[.str],[]⟩,[]⟩)],[(4,⟨[5,6],⟨[.str, .int .i64],[]⟩,[],[],[],0,[],⟨[],[]⟩,[]⟩),(10,⟨[5,9],⟨[.str, .bool],[]⟩,[6,7],[],[],0,[],⟨[],[]⟩,[]⟩)],[]⟩) (exS:=⟨[.str],[]⟩) Tryz.f73 (memC JH (memC qo (memC sM zw))) (by kernel_rfl) (by kernel_rfl) fun x=>by kernel_rfl
theorem zp4(qG:Int->Option Str)(hs:zm Tryz.prog (JB qG)):zm Tryz.prog (JB (bG qG)):=
 okC (A:=⟨[JB qG],[(1,[4])],[],0,[],[],[]⟩) (exS:=⟨[.str],[]⟩) Tryz.f119 (memC hs zw) (by kernel_rfl) (by kernel_rfl) fun x=>by kernel_rfl
theorem zpD:zm Tryz.prog (JB qG):=
 zm.recE (I:=I) (P:=Tryz.prog) (f:=119) (inS:=⟨[.int .i64],[]⟩) (cst:=[]) (outS:=⟨[.str],[]⟩) (k:=0) (bG) (by kernel_rfl) (fun S h=>zp4 S h)
theorem zuh(uk:Int->Option Str)(hs:zm Tryz.prog (dA uk)):zm Tryz.prog (dA (IG uk)):=
 okC (A:=⟨[dA uk,JB qG],[],[],0,[(9,⟨[3,4,5],⟨[.str, .int .i64, .int .i64],[]⟩,[2],[],[],0,[3],⟨[.str],[]⟩,[]⟩)],[],[]⟩) (exS:=⟨[.str],[]⟩) Tryz.f74 (memC hs (memC zpD zw)) (by kernel_rfl) (by kernel_rfl) fun x=>by kernel_rfl
theorem ztz:zm Tryz.prog (dA uk):=
 zm.recE (I:=I) (P:=Tryz.prog) (f:=74) (inS:=⟨[.int .i64],[]⟩) (cst:=[]) (outS:=⟨[.str],[]⟩) (k:=0) (IG) (by kernel_rfl) (fun S h=>zuh S h)
theorem zpz:zm Tryz.prog (CX Bw):=
 okC (A:=⟨[pG Qu],[],[],0,[(3,⟨[5,6],⟨[.str, .int .i64],[]⟩,[0,1,4],[],[],0,[5],⟨[.str],[]⟩,[]⟩)],[(4,⟨[5,6],⟨[.str, .int .i64],[]⟩,[],[],[],0,[],⟨[],[]⟩,[]⟩),(9,⟨[5,8],⟨[.str, .bool],[]⟩,[6,7],[],[],0,[],⟨[],[]⟩,[]⟩)],[]⟩) (exS:=⟨[.str],[]⟩) Tryz.f222 (memC sM zw) (by kernel_rfl) (by kernel_rfl) fun x=>by kernel_rfl
theorem zp0(Qa:Int->Option Str)(hs:zm Tryz.prog (NB Qa)):zm Tryz.prog (NB (gG Qa)):=
 okC (A:=⟨[NB Qa],[],[],0,[],[],[]⟩) (exS:=⟨[.str],[]⟩) Tryz.f260 (memC hs zw) (by kernel_rfl) (by kernel_rfl) fun x=>by kernel_rfl
theorem zpx:zm Tryz.prog (NB Qa):=
 zm.recE (I:=I) (P:=Tryz.prog) (f:=260) (inS:=⟨[.int .i64],[]⟩) (cst:=[]) (outS:=⟨[.str],[]⟩) (k:=0) (gG) (by kernel_rfl) (fun S h=>zp0 S h)
theorem zp1(qF:Int×Bool->Option Str)(hs:zm Tryz.prog (MB qF)):zm Tryz.prog (MB (fG qF)):=
 okC (A:=⟨[MB qF,NB Qa],[],[],0,[(10,⟨[7],⟨[.str],[]⟩,[4,5],[],[],0,[7],⟨[.str],[]⟩,[]⟩)],[],[]⟩) (exS:=⟨[.str],[]⟩) Tryz.f223 (memC hs (memC zpx zw)) (by kernel_rfl) (by kernel_rfl) fun x=>by kernel_rfl
theorem zpy:zm Tryz.prog (MB qF):=
 zm.recE (I:=I) (P:=Tryz.prog) (f:=223) (inS:=⟨[.int .i64, .bool],[]⟩) (cst:=[]) (outS:=⟨[.str],[]⟩) (k:=0) (fG) (by kernel_rfl) (fun S h=>zp1 S h)
theorem ztv:zm Tryz.prog (jV Wz):=
 okC (A:=⟨[Pw qd,QP zB,qp zC,pG Qu,OB ZP,nA ZQ],[],[],0,[(4,⟨[3,4],⟨[.str, .int .i64],[]⟩,[0,2],[],[],0,[3],⟨[.str],[]⟩,[]⟩)],[(5,⟨[3,4],⟨[.str, .int .i64],[]⟩,[],[],[],0,[],⟨[],[]⟩,[]⟩)],[]⟩) (exS:=⟨[.str],[]⟩) Tryz.f224 (memC TB (memC QG (memC qo (memC sM (memC JH (memC iG zw)))))) (by kernel_rfl) (by kernel_rfl) fun x=>by kernel_rfl
theorem ztu:zm Tryz.prog (kV Mr):=
 okC (A:=⟨[nA ZQ,CX Bw,MB qF,jV Wz],[(22,[0])],[],0,[],[],[]⟩) (exS:=⟨[.str],[]⟩) Tryz.f196 (memC iG (memC zpz (memC zpy (memC ztv zw)))) (by kernel_rfl) (by kernel_rfl) fun x=>by kernel_rfl
theorem zqP:zm Tryz.prog (gW KA):=
 okC (A:=⟨[MG qJ,kV Mr],[],[],0,[(6,⟨[5,6],⟨[.int .i64, .str],[]⟩,[0,2,3],[],[],0,[5,6],⟨[.int .i64, .str],[]⟩,[]⟩)],[],[]⟩) (exS:=⟨[.int .i64, .str],[]⟩) Tryz.f166 (memC WM (memC ztu zw)) (by kernel_rfl) (by kernel_rfl) fun x=>by kernel_rfl
theorem ztn:zm Tryz.prog (SV Hr):=
 okC (A:=⟨[jL sj],[],[],0,[(1,⟨[1],⟨[.int .i64],[]⟩,[0,4],[],[],0,[1],⟨[.int .i64],[]⟩,[]⟩),(3,⟨[1],⟨[.int .i64],[]⟩,[],[],[],2,[1],⟨[.int .i64],[]⟩,[]⟩)],[],[]⟩) (exS:=⟨[.int .i64],[]⟩) Tryz.f197 (memC BV zw) (by kernel_rfl) (by kernel_rfl) fun x=>by kernel_rfl
theorem zvX:zm Tryz.prog (WU Dz):=
 okC (A:=⟨[SV Hr,kL Sl],[(6,[2,8])],[],0,[(4,⟨[4,5,6],⟨[.own 2463, .own 2464, .int .i64],[(2463, .sl 57),(2464, .sl 216)]⟩,[0,2,3],[],[],0,[4,5],⟨[.own 2463, .own 2464],[(2463, .sl 57),(2464, .sl 216)]⟩,[2463,2464]⟩)],[],[]⟩) (exS:=⟨[.sl 57, .sl 216],[]⟩) Tryz.f167 (memC ztn (memC CV zw)) (by kernel_rfl) (by kernel_rfl) fun x=>by kernel_rfl
theorem zto:zm Tryz.prog (RV az):=
 okC (A:=⟨[],[],[],0,[(4,⟨[5],⟨[.int .i64],[]⟩,[0,1],[],[],0,[],⟨[],[]⟩,[]⟩)],[],[]⟩) (exS:=⟨[.bool],[]⟩) Tryz.f168 zw (by kernel_rfl) (by kernel_rfl) fun x=>by kernel_rfl
theorem znH:zm Tryz.prog (DY Kw):=
 okC (A:=⟨[gW KA,WU Dz,RV az],[],[],0,[(3,⟨[3,4],⟨[.str, .int .i64],[]⟩,[0,2],[],[],0,[3],⟨[.str],[]⟩,[]⟩)],[(8,⟨[3,4],⟨[.str, .int .i64],[]⟩,[5,6],[],[],0,[],⟨[],[]⟩,[]⟩)],[]⟩) (exS:=⟨[.str],[]⟩) Tryz.f120 (memC zqP (memC zvX (memC zto zw))) (by kernel_rfl) (by kernel_rfl) fun x=>by kernel_rfl
theorem znJ:zm Tryz.prog (NY xA):=
 okC (A:=⟨[nA ZQ,Q9 Z4,DY Kw],[],[],0,[],[(4,⟨[3],⟨[.str],[]⟩,[],[],[],0,[],⟨[],[]⟩,[]⟩)],[]⟩) (exS:=⟨[.str],[]⟩) Tryz.f75 (memC iG (memC pM (memC znH zw))) (by kernel_rfl) (by kernel_rfl) fun x=>by kernel_rfl
theorem zpF:zm Tryz.prog (nX jr):=
 okC (A:=⟨[iL ko],[],[],0,[],[],[]⟩) (exS:=⟨[.bool],[]⟩) Tryz.f76 (memC AV zw) (by kernel_rfl) (by kernel_rfl) fun x=>by kernel_rfl
theorem uX(zy:zg->Option Str)(h_ref10_Written:zm Tryz.prog (qw zy)):zm Tryz.prog (dM (Yr zy)):=
 okC (A:=⟨[qw zy],[],[],0,[],[],[]⟩) (exS:=⟨[.str],[]⟩) Tryz.f77 (memC h_ref10_Written zw) (by kernel_rfl) (by kernel_rfl) fun x=>by kernel_rfl
theorem zpE(zy:zg->Option Str)(h_ref10_Written:zm Tryz.prog (qw zy)):zm Tryz.prog (pX (kr zy)):=
 okC (A:=⟨[dM (Yr zy),qw zy],[],[],0,[(3,⟨[7,8],⟨[.str, .int .i64],[]⟩,[0,1,2,6],[],[],0,[7],⟨[.str],[]⟩,[]⟩)],[(4,⟨[7,8],⟨[.str, .int .i64],[]⟩,[],[],[],0,[],⟨[],[]⟩,[]⟩),(7,⟨[7],⟨[.str],[]⟩,[8],[],[],0,[],⟨[],[]⟩,[]⟩)],[]⟩) (exS:=⟨[.str],[]⟩) Tryz.f78 (memC (uX zy h_ref10_Written) (memC h_ref10_Written zw)) (by kernel_rfl) (by kernel_rfl) fun x=>by kernel_rfl
theorem znP(zy:zg->Option Str)(hs:zm Tryz.prog (qw zy)):zm Tryz.prog (qw (YG zy)):=
 okC (A:=⟨[nA ZQ,dA uk,NY xA,nX jr,qw zy,dM (Yr zy),GM QK,pX (kr zy)],[],[],0,[],[],[]⟩) (exS:=⟨[.str],[]⟩) Tryz.f43 (memC iG (memC ztz (memC znJ (memC zpF (memC hs (memC (uX zy hs) (memC VX (memC (zpE zy hs) zw)))))))) (by kernel_rfl) (by kernel_rfl) fun x=>by kernel_rfl
theorem znL:zm Tryz.prog (qw zy):=
 zm.recE (I:=I) (P:=Tryz.prog) (f:=43) (inS:=⟨[.val 27],[]⟩) (cst:=[]) (outS:=⟨[.str],[]⟩) (k:=0) (YG) (by kernel_rfl) (fun S h=>znP S h)
theorem ztB:zm Tryz.prog (gV Vz):=
 okC (A:=⟨[nG Q5,QT ZG,qw zy],[],[],0,[],[],[]⟩) (exS:=⟨[.str, .int .i64],[]⟩) Tryz.f15 (memC oM (memC PH (memC znL zw))) (by kernel_rfl) (by kernel_rfl) fun x=>by kernel_rfl
theorem zke:zm Tryz.prog (WY YB):=
 okC (A:=⟨[nG Q5],[],[],0,[],[],[]⟩) (exS:=⟨[.int .i64],[]⟩) Tryz.f17 (memC oM zw) (by kernel_rfl) (by kernel_rfl) fun x=>by kernel_rfl
theorem zhI:zm Tryz.prog (uY QJ):=
 okC (A:=⟨[QT ZG],[],[],0,[],[],[]⟩) (exS:=⟨[.int .i64],[]⟩) Tryz.f19 (memC PH zw) (by kernel_rfl) (by kernel_rfl) fun x=>by kernel_rfl
theorem zuf(yl:List zh×List zh->Option Bool)(hs:zm Tryz.prog (iA yl)):zm Tryz.prog (iA (JG yl)):=
 okC (A:=⟨[iA yl],[],[],0,[(4,⟨[5],⟨[.int .i64],[]⟩,[0,1],[],[],0,[],⟨[],[]⟩,[]⟩)],[],[]⟩) (exS:=⟨[.bool],[]⟩) Tryz.f84 (memC hs zw) (by kernel_rfl) (by kernel_rfl) fun x=>by kernel_rfl
theorem ztw:zm Tryz.prog (iA yl):=
 zm.recE (I:=I) (P:=Tryz.prog) (f:=84) (inS:=⟨[.sl 59, .sl 59],[]⟩) (cst:=[]) (outS:=⟨[.bool],[]⟩) (k:=0) (JG) (by kernel_rfl) (fun S h=>zuf S h)
theorem zqV:zm Tryz.prog (WW EA):=
 okC (A:=⟨[iA yl],[],[],0,[],[],[]⟩) (exS:=⟨[.bool],[]⟩) Tryz.f49 (memC ztw zw) (by kernel_rfl) (by kernel_rfl) fun x=>by kernel_rfl
theorem zty:zm Tryz.prog (iV Lr):=
 okC (A:=⟨[WW EA],[],[],0,[(4,⟨[5],⟨[.int .i64],[]⟩,[0,1],[],[],0,[],⟨[],[]⟩,[]⟩)],[],[]⟩) (exS:=⟨[.bool],[]⟩) Tryz.f20 (memC zqV zw) (by kernel_rfl) (by kernel_rfl) fun x=>by kernel_rfl
theorem zlF:zm Tryz.prog (RY xG):=
 okC (A:=⟨[UW AA,bV rz,VW BA,aV pz,PW yz,jU Tz,gV Vz,LH qy,WY YB,NH Zy,uY QJ,iV Lr],[],[],0,[],[],[]⟩) (exS:=⟨[.bool],[]⟩) Tryz.f3 (memC zqX (memC ztd (memC zqW (memC zte (memC zqY (memC zvK (memC ztB (memC JN (memC zke (memC MN (memC zhI (memC zty zw)))))))))))) (by kernel_rfl) (by kernel_rfl) fun x=>by kernel_rfl
end Go.Lv.VT
