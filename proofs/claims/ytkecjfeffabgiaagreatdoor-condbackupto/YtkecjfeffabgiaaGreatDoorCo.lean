/- Contracts. -/
import Derived.Test.YtkecjfeffabgiaaGreatDoorCoa
set_option linter.unusedSimpArgs false
set_option linter.unusedVariables false
namespace Go.Lv.VT
set_option maxRecDepth 100000
open Go.Proofs
theorem ztR(ZJ:zf->Option Str)(h_cond_media:zt Tryz.prog (Ku ZJ)):zt Tryz.prog (uV (kw ZJ)):=
 okC (A:=⟨[Ku ZJ,DJ jl],[(5,[4])],[(7,[(7,none)])],0,[(3,⟨[7,12],⟨[.own 1417, .int .i64],[(1417, .sl 9)]⟩,[1,2,6,10,11],[],[],0,[7],⟨[.own 1417],[(1417, .sl 9)]⟩,[1417]⟩)],[],[]⟩) (exS:=⟨[.str],[]⟩) Tryz.f68 (memC h_cond_media (memC CQ zG)) (by kernel_rfl) (by kernel_rfl) fun x=>by kernel_rfl
theorem zr6(ZJ:zf->Option Str)(hs:zt Tryz.prog (Ku ZJ)):zt Tryz.prog (Ku (eG ZJ)):=
 okC (A:=⟨[EM Tt,Ku ZJ,uV (kw ZJ),DX WB],[],[],0,[],[],[]⟩) (exS:=⟨[.str],[]⟩) Tryz.f41 (memC WW (memC hs (memC (ztR ZJ hs) (memC zoZ zG)))) (by kernel_rfl) (by kernel_rfl) fun x=>by kernel_rfl
theorem zrt:zt Tryz.prog (Ku ZJ):=
 zt.recE (I:=I) (P:=Tryz.prog) (f:=41) (inS:=⟨[.val 27],[]⟩) (cst:=[]) (outS:=⟨[.str],[]⟩) (k:=0) (eG) (by kernel_rfl) (fun S h=>zr6 S h)
theorem zo1:zt Tryz.prog (BX Qu):=
 okC (A:=⟨[iG Om,Hy qz,vG Z4],[(6,[2])],[],1,[(2,⟨[0,11],⟨[.own 1419, .int .i64],[(1419, .sl 5)]⟩,[1,2,6,10],[],[],0,[0],⟨[.own 1419],[(1419, .sl 5)]⟩,[1419]⟩)],[(8,⟨[0,11],⟨[.own 1521, .int .i64],[(1521, .sl 5)]⟩,[],[],[],0,[],⟨[],[]⟩,[]⟩)],[]⟩) (exS:=⟨[.own 1],[(1, .sl 5)]⟩) Tryz.f110 (memC UM (memC yB (memC BN zG))) (by kernel_rfl) (by kernel_rfl) fun x=>by kernel_rfl
theorem zrz:zt Tryz.prog (nW OB):=
 okC (A:=⟨[],[],[],0,[],[],[]⟩) (exS:=⟨[.optr 0],[(0, .row 230)]⟩) Tryz.f221 zG (by kernel_rfl) (by kernel_rfl) fun x=>by kernel_rfl
theorem zmh:zt Tryz.prog (SY Hu):=
 okC (A:=⟨[wU Lt,eU Rs,yR Xp],[(2,[1]),(6,[1])],[],1,[],[(3,⟨[0,1],⟨[.own 2043, .int .i64],[(2043, .sl 5)]⟩,[2],[],[],0,[],⟨[],[]⟩,[]⟩),(9,⟨[0],⟨[.own 2146],[(2146, .sl 5)]⟩,[],[],[],0,[],⟨[],[]⟩,[]⟩)],[]⟩) (exS:=⟨[.own 1],[(1, .sl 5)]⟩) Tryz.f220 (memC zvJ (memC zyV (memC zBP zG))) (by kernel_rfl) (by kernel_rfl) fun x=>by kernel_rfl
theorem zo2:zt Tryz.prog (AX Vx):=
 okC (A:=⟨[bM Rl,BX Qu,Z6 strings_IndexByte,vG Z4,SY Hu,yM Ju,ZA strings_HasPrefix,nW OB],[(5,[7]),(7,[1]),(12,[1]),(14,[1]),(20,[2]),(22,[1]),(30,[2]),(32,[1]),(38,[4])],[],1,[(16,⟨[0,67],⟨[.own 1836, .int .i64],[(1836, .sl 5)]⟩,[3,4,65,66],[1,4],[],1,[0],⟨[.own 1836],[(1836, .sl 5)]⟩,[1836]⟩),(26,⟨[0,93],⟨[.own 1940, .int .i64],[(1940, .sl 5)]⟩,[3,4,91,92],[1,3],[],3,[0],⟨[.own 1940],[(1940, .sl 5)]⟩,[1940]⟩)],[(12,⟨[5],⟨[.int .i64],[(0, .sl 5)]⟩,[0,3],[1],[0],0,[],⟨[],[]⟩,[]⟩),(21,⟨[0,67],⟨[.own 1938, .int .i64],[(1938, .sl 5)]⟩,[],[],[],0,[],⟨[],[]⟩,[]⟩),(31,⟨[0,93],⟨[.own 2042, .int .i64],[(2042, .sl 5)]⟩,[],[],[],0,[],⟨[],[]⟩,[]⟩)],[]⟩) (exS:=⟨[.own 1],[(1, .sl 5)]⟩) Tryz.f194 (memC sW (memC zo1 (memC qm (memC BN (memC zmh (memC NY (memC ZE (memC zrz zG)))))))) (by kernel_rfl) (by kernel_rfl) fun x=>by kernel_rfl
theorem zfk:zt Tryz.prog (PZ ZG):=
 okC (A:=⟨[ZA strings_HasPrefix,uJ Bn],[],[],1,[(0,⟨[],⟨[],[(0, .row 121)]⟩,[0],[],[0],0,[],⟨[],[(0, .row 121)]⟩,[0]⟩)],[],[]⟩) (exS:=⟨[],[(0, .row 121)]⟩) Tryz.f95 (memC ZE (memC rT zG)) (by kernel_rfl) (by kernel_rfl) fun x=>by kernel_rfl
theorem zP:zt Tryz.prog (zN zh):=
 okC (A:=⟨[],[],[],1,[],[],[]⟩) (exS:=⟨[.int .i64],[]⟩) Tryz.f138 zG (by kernel_rfl) (by kernel_rfl) fun x=>by kernel_rfl
theorem EC:zt Tryz.prog (Ay qZ):=
 okC (A:=⟨[],[],[],0,[],[],[]⟩) (exS:=⟨[.bool],[]⟩) Tryz.f139 zG (by kernel_rfl) (by kernel_rfl) fun x=>by kernel_rfl
theorem NN:zt Tryz.prog (QI Zm):=
 okC (A:=⟨[zN zh,Ay qZ],[],[],1,[(0,⟨[],⟨[],[(0, .row 121)]⟩,[0,1],[],[0],0,[],⟨[],[(0, .row 121)]⟩,[0]⟩)],[],[]⟩) (exS:=⟨[],[(0, .row 121)]⟩) Tryz.f140 (memC zP (memC EC zG)) (by kernel_rfl) (by kernel_rfl) fun x=>by kernel_rfl
theorem zdQ:zt Tryz.prog (YZ qH):=
 okC (A:=⟨[],[(2,[1]),(4,[9]),(7,[14]),(9,[19])],[],0,[],[(7,⟨[25],⟨[.bool],[]⟩,[0,1,5],[],[],0,[],⟨[],[]⟩,[]⟩)],[]⟩) (exS:=⟨[.own 0],[(0, .sl 5)]⟩) Tryz.f244 zG (by kernel_rfl) (by kernel_rfl) fun x=>by kernel_rfl
theorem zil:zt Tryz.prog (eY qD):=
 okC (A:=⟨[YZ qH],[(2,[3])],[],0,[],[],[]⟩) (exS:=⟨[.own 0],[(0, .sl 5)]⟩) Tryz.f210 (memC zdQ zG) (by kernel_rfl) (by kernel_rfl) fun x=>by kernel_rfl
theorem sG:zt Tryz.prog (NC qo):=
 okC (A:=⟨[],[],[],0,[],[],[]⟩) (exS:=⟨[.bool],[]⟩) Tryz.f212 zG (by kernel_rfl) (by kernel_rfl) fun x=>by kernel_rfl
theorem FC:zt Tryz.prog (Cy ZU):=
 okC (A:=⟨[NC qo],[],[],0,[],[],[]⟩) (exS:=⟨[.bool],[]⟩) Tryz.f182 (memC sG zG) (by kernel_rfl) (by kernel_rfl) fun x=>by kernel_rfl
theorem OW:zt Tryz.prog (yL Vq):=
 okC (A:=⟨[Cy ZU,NC qo],[],[],0,[],[],[]⟩) (exS:=⟨[.int .i64],[]⟩) Tryz.f211 (memC FC (memC sG zG)) (by kernel_rfl) (by kernel_rfl) fun x=>by kernel_rfl
theorem zeI:zt Tryz.prog (MZ ql):=
 okC (A:=⟨[zN zh,eY qD,yL Vq,Ay qZ],[(7,[3])],[],1,[(10,⟨[6,36],⟨[.int .i64, .int .i64],[(0, .row 121)]⟩,[0,1,4],[],[0],0,[6],⟨[.int .i64],[(0, .row 121)]⟩,[0]⟩)],[(17,⟨[6],⟨[.int .i64],[(0, .row 121)]⟩,[1],[],[0],0,[],⟨[],[]⟩,[]⟩),(19,⟨[6],⟨[.int .i64],[]⟩,[],[0],[],0,[],⟨[],[]⟩,[]⟩)],[]⟩) (exS:=⟨[.own 1],[(0, .row 121),(1, .sl 5)]⟩) Tryz.f180 (memC zP (memC zil (memC OW (memC EC zG)))) (by kernel_rfl) (by kernel_rfl) fun x=>by kernel_rfl
theorem zdR:zt Tryz.prog (XZ qI):=
 okC (A:=⟨[],[(2,[1]),(4,[9]),(7,[14]),(9,[19])],[],1,[],[(7,⟨[25],⟨[.bool],[(0, .sl 5)]⟩,[0,1,5],[],[0],0,[],⟨[],[]⟩,[]⟩)],[]⟩) (exS:=⟨[.own 1],[(1, .sl 5)]⟩) Tryz.f244 zG (by kernel_rfl) (by kernel_rfl) fun x=>by kernel_rfl
theorem zim:zt Tryz.prog (dY qE):=
 okC (A:=⟨[XZ qI],[(2,[3])],[],1,[],[],[]⟩) (exS:=⟨[.own 1],[(1, .sl 5)]⟩) Tryz.f210 (memC zdR zG) (by kernel_rfl) (by kernel_rfl) fun x=>by kernel_rfl
theorem QC:zt Tryz.prog (qF Zh):=
 okC (A:=⟨[zN zh,dY qE,yL Vq,Ay qZ],[(7,[3])],[],2,[(10,⟨[6,36],⟨[.int .i64, .int .i64],[(0, .row 121)]⟩,[0,1,4],[1],[0],0,[6],⟨[.int .i64],[(0, .row 121)]⟩,[0]⟩)],[(17,⟨[6],⟨[.int .i64],[(0, .row 121),(1, .sl 5)]⟩,[1],[],[0,1],0,[],⟨[],[]⟩,[]⟩),(19,⟨[6],⟨[.int .i64],[(1, .sl 5)]⟩,[],[0],[1],0,[],⟨[],[]⟩,[]⟩)],[]⟩) (exS:=⟨[.own 2],[(0, .row 121),(2, .sl 5)]⟩) Tryz.f180 (memC zP (memC zim (memC OW (memC EC zG)))) (by kernel_rfl) (by kernel_rfl) fun x=>by kernel_rfl
theorem zgr:zt Tryz.prog (KZ Qb):=
 okC (A:=⟨[zN zh,qF Zh],[(5,[3])],[],1,[(4,⟨[4],⟨[.own 2148],[(0, .row 121),(1, .row 57),(2148, .sl 5)]⟩,[0,2,3],[],[0,1],0,[4],⟨[.own 2148],[(0, .row 121),(1, .row 57),(2148, .sl 5)]⟩,[0,1,2148]⟩)],[],[]⟩) (exS:=⟨[.optr 1],[(0, .row 121),(1, .row 57)]⟩) Tryz.f141 (memC zP (memC QC zG)) (by kernel_rfl) (by kernel_rfl) fun x=>by kernel_rfl
theorem CY:zt Tryz.prog (nM Du):=
 okC (A:=⟨[NC qo],[],[],0,[],[],[]⟩) (exS:=⟨[.bool],[]⟩) Tryz.f181 (memC sG zG) (by kernel_rfl) (by kernel_rfl) fun x=>by kernel_rfl
theorem KY:zt Tryz.prog (wM Iy):=
 okC (A:=⟨[nM Du,Cy ZU],[],[],0,[],[],[]⟩) (exS:=⟨[.bool],[]⟩) Tryz.f142 (memC CY (memC FC zG)) (by kernel_rfl) (by kernel_rfl) fun x=>by kernel_rfl
theorem qj:zt Tryz.prog (ZY zI):=
 okC (A:=⟨[zN zh],[],[],1,[],[],[]⟩) (exS:=⟨[.bool],[]⟩) Tryz.f143 (memC zP zG) (by kernel_rfl) (by kernel_rfl) fun x=>by kernel_rfl
theorem vY:zt Tryz.prog (GN z8):=
 okC (A:=⟨[zN zh,nM Du,ZY zI],[],[],1,[],[],[]⟩) (exS:=⟨[.bool],[]⟩) Tryz.f144 (memC zP (memC CY (memC qj zG))) (by kernel_rfl) (by kernel_rfl) fun x=>by kernel_rfl
theorem PN:zt Tryz.prog (Q3 Ze):=
 okC (A:=⟨[zN zh,wM Iy,ZY zI,qF Zh],[(5,[3])],[],1,[(2,⟨[3],⟨[.own 2149],[(0, .row 121),(2149, .sl 5)]⟩,[0],[],[0],0,[],⟨[],[]⟩,[]⟩)],[],[]⟩) (exS:=⟨[.str],[(0, .row 121)]⟩) Tryz.f145 (memC zP (memC KY (memC qj (memC QC zG)))) (by kernel_rfl) (by kernel_rfl) fun x=>by kernel_rfl
theorem zgq:zt Tryz.prog (LZ ZV):=
 okC (A:=⟨[zN zh,Cy ZU],[],[],1,[],[(5,⟨[3],⟨[.int .i64],[]⟩,[0],[],[],0,[],⟨[],[]⟩,[]⟩),(7,⟨[3],⟨[.int .i64],[]⟩,[],[],[],0,[],⟨[],[]⟩,[]⟩)],[]⟩) (exS:=⟨[.bool],[]⟩) Tryz.f146 (memC zP (memC FC zG)) (by kernel_rfl) (by kernel_rfl) fun x=>by kernel_rfl
theorem zfL:zt Tryz.prog (GZ Zi):=
 okC (A:=⟨[zN zh,Cy ZU],[],[],1,[(0,⟨[],⟨[],[(0, .row 121)]⟩,[0,1],[],[0],0,[],⟨[],[(0, .row 121)]⟩,[0]⟩)],[],[]⟩) (exS:=⟨[],[(0, .row 121)]⟩) Tryz.f140 (memC zP (memC FC zG)) (by kernel_rfl) (by kernel_rfl) fun x=>by kernel_rfl
theorem zfJ:zt Tryz.prog (IZ qM):=
 okC (A:=⟨[zN zh,GZ Zi,Cy ZU],[],[],1,[],[(4,⟨[],⟨[],[(0, .row 121)]⟩,[0],[],[0],0,[],⟨[],[]⟩,[]⟩),(10,⟨[4],⟨[.bool],[(0, .row 121)]⟩,[],[],[0],0,[],⟨[],[]⟩,[]⟩),(15,⟨[4,5],⟨[.bool, .int .i64],[(0, .row 121)]⟩,[],[],[0],0,[],⟨[],[]⟩,[]⟩),(19,⟨[4],⟨[.bool],[(0, .row 121)]⟩,[],[],[0],0,[],⟨[],[]⟩,[]⟩)],[]⟩) (exS:=⟨[.bool],[(0, .row 121)]⟩) Tryz.f183 (memC zP (memC zfL (memC FC zG))) (by kernel_rfl) (by kernel_rfl) fun x=>by kernel_rfl
theorem zik:zt Tryz.prog (gY qC):=
 okC (A:=⟨[ER Gl,pV Sl,u6 cutF],[],[],0,[(8,⟨[6,31],⟨[.int .i64, .int .i64],[]⟩,[0,2,3,4,5,29,30],[0],[],0,[6],⟨[.int .i64],[]⟩,[]⟩),(22,⟨[12,81],⟨[.int .i64, .int .i64],[]⟩,[4,79,80],[0],[],2,[12],⟨[.int .i64],[]⟩,[]⟩),(26,⟨[4,12],⟨[.int .i64, .int .i64],[]⟩,[],[],[],4,[12],⟨[.int .i64],[]⟩,[]⟩)],[(14,⟨[0,4,6],⟨[.str, .int .i64, .int .i64],[]⟩,[3,5],[],[],0,[],⟨[],[]⟩,[]⟩),(15,⟨[0,4],⟨[.str, .int .i64],[]⟩,[3],[],[],0,[],⟨[],[]⟩,[]⟩),(20,⟨[0,4],⟨[.str, .int .i64],[]⟩,[],[],[],0,[],⟨[],[]⟩,[]⟩),(31,⟨[12],⟨[.int .i64],[]⟩,[],[],[],0,[],⟨[],[]⟩,[]⟩)],[]⟩) (exS:=⟨[.int .i64],[]⟩) Tryz.f184 (memC zBO (memC ztW (memC zH5 zG))) (by kernel_rfl) (by kernel_rfl) fun x=>by kernel_rfl
theorem zfK:zt Tryz.prog (HZ qf):=
 okC (A:=⟨[IZ qM,gY qC,GN z8,Q3 Ze,zN zh],[],[],1,[],[(9,⟨[],⟨[],[(0, .row 121),(1, .row 57),(2, .row 57)]⟩,[2,5],[],[0,1,2],0,[],⟨[],[]⟩,[]⟩)],[]⟩) (exS:=⟨[.optr 1],[(0, .row 121),(1, .row 57)]⟩) Tryz.f147 (memC zfJ (memC zik (memC vY (memC PN (memC zP zG))))) (by kernel_rfl) (by kernel_rfl) fun x=>by kernel_rfl
theorem zii:zt Tryz.prog (jY qB):=
 okC (A:=⟨[zN zh,ZY zI,MZ ql],[],[],1,[(1,⟨[],⟨[],[(0, .row 121),(1, .row 57)]⟩,[0,2],[],[0,1],0,[],⟨[],[]⟩,[]⟩)],[],[]⟩) (exS:=⟨[.optr 1],[(0, .row 121),(1, .row 57)]⟩) Tryz.f216 (memC zP (memC qj (memC zeI zG))) (by kernel_rfl) (by kernel_rfl) fun x=>by kernel_rfl
theorem zij:zt Tryz.prog (iY OC):=
 okC (A:=⟨[QI Zm,zN zh,Ay qZ,jY qB,NC qo,ZY zI,qF Zh],[(18,[3])],[],1,[(3,⟨[3],⟨[.own 2150],[(0, .row 121),(1, .row 57),(2150, .sl 5)]⟩,[0,2],[],[0,1],0,[],⟨[],[]⟩,[]⟩)],[(10,⟨[3,4],⟨[.own 2150, .int .i64],[(0, .row 121),(1, .row 57),(2150, .sl 5)]⟩,[],[],[0,1,2150],0,[],⟨[],[]⟩,[]⟩)],[]⟩) (exS:=⟨[.optr 1],[(0, .row 121),(1, .row 57)]⟩) Tryz.f185 (memC NN (memC zP (memC EC (memC zii (memC sG (memC qj (memC QC zG))))))) (by kernel_rfl) (by kernel_rfl) fun x=>by kernel_rfl
theorem zgL:zt Tryz.prog (wY Z8):=
 okC (A:=⟨[Q3 Ze,zN zh,Ey Zt,QI Zm,iY OC],[],[],1,[],[(11,⟨[],⟨[],[(0, .row 121),(1, .row 57)]⟩,[2,3],[],[0,1],0,[],⟨[],[]⟩,[]⟩)],[]⟩) (exS:=⟨[.optr 1],[(0, .row 121),(1, .row 57)]⟩) Tryz.f148 (memC PN (memC zP (memC JC (memC NN (memC zij zG))))) (by kernel_rfl) (by kernel_rfl) fun x=>by kernel_rfl
theorem zhv:zt Tryz.prog (AZ qW):=
 okC (A:=⟨[zN zh,Ay qZ,QI Zm,KZ Qb,wM Iy,ZY zI,GN z8,Q3 Ze,LZ ZV,HZ qf,ZA strings_HasPrefix,wY Z8,Z6 strings_IndexByte],[],[],1,[],[],[]⟩) (exS:=⟨[.optr 1],[(0, .row 121),(1, .row 57)]⟩) Tryz.f96 (memC zP (memC EC (memC NN (memC zgr (memC KY (memC qj (memC vY (memC PN (memC zgq (memC zfK (memC ZE (memC zgL (memC qm zG))))))))))))) (by kernel_rfl) (by kernel_rfl) fun x=>by kernel_rfl
theorem zi8:zt Tryz.prog (nY SC):=
 okC (A:=⟨[],[(1,[2])],[],2,[],[],[]⟩) (exS:=⟨[],[(0, .cells 62 [.own 2]),(2, .sl 57)]⟩) Tryz.f56 zG (by kernel_rfl) (by kernel_rfl) fun x=>by kernel_rfl
theorem zoa:zt Tryz.prog (lX aB):=
 okC (A:=⟨[GR wm,PZ ZG,AZ qW,nY SC],[],[],1,[(7,⟨[7],⟨[.int .i64],[(0, .cells 62 [.own 2151]),(2151, .sl 57),(1, .row 121)]⟩,[0,1,6],[],[0,1],0,[],⟨[],[(0, .cells 62 [.own 2151]),(2151, .sl 57),(1, .row 121)]⟩,[0,1,2151]⟩)],[],[]⟩) (exS:=⟨[.int .i64],[(0, .cells 62 [.own 1]),(1, .sl 57)]⟩) Tryz.f55 (memC zBM (memC zfk (memC zhv (memC zi8 zG)))) (by kernel_rfl) (by kernel_rfl) fun x=>by kernel_rfl
theorem uM:zt Tryz.prog (EH QT):=
 okC (A:=⟨[lX aB],[],[],0,[],[],[]⟩) (exS:=⟨[.sl 57, .int .i64],[]⟩) Tryz.f27 (memC zoa zG) (by kernel_rfl) (by kernel_rfl) fun x=>by kernel_rfl
theorem zhs:zt Tryz.prog (CZ qU):=
 okC (A:=⟨[],[],[],0,[(4,⟨[13],⟨[.int .i64],[]⟩,[0,1,12],[],[],0,[],⟨[],[]⟩,[]⟩)],[],[]⟩) (exS:=⟨[.bool],[]⟩) Tryz.f195 zG (by kernel_rfl) (by kernel_rfl) fun x=>by kernel_rfl
theorem zry:zt Tryz.prog (xV BB):=
 okC (A:=⟨[dM QE,aM QF,AX Vx,EH QT,CZ qU],[(24,[5])],[],0,[(7,⟨[5,6,7],⟨[.own 2253, .own 2254, .int .i64],[(2253, .sl 5),(2254, .sl 211)]⟩,[0],[],[],0,[5],⟨[.own 2253],[(2253, .sl 5)]⟩,[2253]⟩),(11,⟨[9,36],⟨[.own 1834, .int .i64],[(1834, .sl 5)]⟩,[5,6,7,8,34,35],[2253,2254],[],2,[9],⟨[.own 1834],[(1834, .sl 5)]⟩,[1834]⟩)],[(17,⟨[5,6,7,9],⟨[.own 2253, .own 2254, .int .i64, .own 2356],[(2253, .sl 5),(2254, .sl 211),(2356, .sl 5)]⟩,[8],[],[2253,2254],0,[],⟨[],[]⟩,[]⟩),(21,⟨[5,6,7],⟨[.own 2253, .own 2254, .int .i64],[(2253, .sl 5),(2254, .sl 211),(2357, .row 211)]⟩,[9,12],[2356],[2253,2254,2357],0,[],⟨[],[]⟩,[]⟩),(24,⟨[5,6,7],⟨[.own 2461, .own 2254, .int .i64],[(2254, .sl 211),(2461, .sl 5)]⟩,[],[2357],[2254],0,[],⟨[],[]⟩,[]⟩)],[]⟩) (exS:=⟨[.str, .int .i64],[]⟩) Tryz.f163 (memC uW (memC rW (memC zo2 (memC uM (memC zhs zG))))) (by kernel_rfl) (by kernel_rfl) fun x=>by kernel_rfl
theorem ztZ:zt Tryz.prog (gV SA):=
 okC (A:=⟨[lq qb,rX pq,xV BB],[],[],0,[],[],[]⟩) (exS:=⟨[.str, .int .i64],[]⟩) Tryz.f115 (memC Gu (memC zn6 (memC zry zG))) (by kernel_rfl) (by kernel_rfl) fun x=>by kernel_rfl
theorem ztT:zt Tryz.prog (tV xA):=
 okC (A:=⟨[jG Pm,EM Tt,gV SA],[],[],0,[],[(13,⟨[8],⟨[.str],[]⟩,[],[],[],0,[],⟨[],[]⟩,[]⟩)],[]⟩) (exS:=⟨[.str, .int .i64],[]⟩) Tryz.f72 (memC VM (memC WW (memC ztZ zG))) (by kernel_rfl) (by kernel_rfl) fun x=>by kernel_rfl
theorem kY(zM:zf×Bool->Option (Str×Bool))(h_cond_supports:zt Tryz.prog (Qp zM)):zt Tryz.prog (EN (Qr zM)):=
 okC (A:=⟨[Qp zM,GM Wt],[],[],2,[],[],[]⟩) (exS:=⟨[.str],[(1, .row 4)]⟩) Tryz.f70 (memC h_cond_supports (memC YW zG)) (by kernel_rfl) (by kernel_rfl) fun x=>by kernel_rfl
theorem zoY(zM:zf×Bool->Option (Str×Bool))(h_cond_supports:zt Tryz.prog (Qp zM)):zt Tryz.prog (EX (Yx zM)):=
 okC (A:=⟨[EN (Qr zM),DJ jl],[(5,[4])],[(7,[(7,none)])],2,[(3,⟨[7,12],⟨[.own 2462, .int .i64],[(1, .row 4),(2462, .sl 9)]⟩,[1,2,6,10,11],[],[1],0,[7],⟨[.own 2462],[(1, .row 4),(2462, .sl 9)]⟩,[1,2462]⟩)],[],[]⟩) (exS:=⟨[.str],[(1, .row 4)]⟩) Tryz.f68 (memC (kY zM h_cond_supports) (memC CQ zG)) (by kernel_rfl) (by kernel_rfl) fun x=>by kernel_rfl
theorem zmj(zM:zf×Bool->Option (Str×Bool))(hs:zt Tryz.prog (Qp zM)):zt Tryz.prog (Qp (uG zM)):=
 okC (A:=⟨[tV xA,EN (Qr zM),EX (Yx zM)],[],[],1,[],[],[]⟩) (exS:=⟨[.str],[(0, .row 4)]⟩) Tryz.f42 (memC ztT (memC (kY zM hs) (memC (zoY zM hs) zG))) (by kernel_rfl) (by kernel_rfl) fun x=>by kernel_rfl
theorem zmf:zt Tryz.prog (Qp zM):=
 zt.recE (I:=I) (P:=Tryz.prog) (f:=42) (inS:=⟨[.val 27, .optr 0],[(0, .row 4)]⟩) (cst:=[]) (outS:=⟨[.str],[(0, .row 4)]⟩) (k:=0) (uG) (by kernel_rfl) (fun S h=>zmj S h)
theorem NM:zt Tryz.prog (bG Jm):=
 okC (A:=⟨[kG Oo,FN Qq,Ku ZJ,Qp zM],[],[],0,[],[(8,⟨[5],⟨[.str],[(1, .row 4)]⟩,[6],[],[1],0,[],⟨[],[]⟩,[]⟩)],[]⟩) (exS:=⟨[.str, .int .i64],[]⟩) Tryz.f14 (memC XM (memC lY (memC zrt (memC zmf zG)))) (by kernel_rfl) (by kernel_rfl) fun x=>by kernel_rfl
theorem zi6:zt Tryz.prog (rY qY):=
 okC (A:=⟨[nX bB],[],[],0,[],[],[]⟩) (exS:=⟨[.int .i64],[]⟩) Tryz.f17 (memC zn8 zG) (by kernel_rfl) (by kernel_rfl) fun x=>by kernel_rfl
theorem zr9(QG:List zb×List zb->Option Bool)(hs:zt Tryz.prog (jB QG)):zt Tryz.prog (jB (Cu QG)):=
 okC (A:=⟨[jB QG],[],[],0,[(4,⟨[5],⟨[.int .i64],[]⟩,[0,1],[],[],0,[],⟨[],[]⟩,[]⟩)],[],[]⟩) (exS:=⟨[.bool],[]⟩) Tryz.f84 (memC hs zG) (by kernel_rfl) (by kernel_rfl) fun x=>by kernel_rfl
theorem zrD:zt Tryz.prog (jB QG):=
 zt.recE (I:=I) (P:=Tryz.prog) (f:=84) (inS:=⟨[.sl 59, .sl 59],[]⟩) (cst:=[]) (outS:=⟨[.bool],[]⟩) (k:=0) (Cu) (by kernel_rfl) (fun S h=>zr9 S h)
theorem zpa:zt Tryz.prog (UX Eu):=
 okC (A:=⟨[jB QG],[],[],0,[],[],[]⟩) (exS:=⟨[.bool],[]⟩) Tryz.f49 (memC zrD zG) (by kernel_rfl) (by kernel_rfl) fun x=>by kernel_rfl
theorem LY:zt Tryz.prog (xM Nu):=
 okC (A:=⟨[EH QT,tJ parseF],[],[],0,[],[],[]⟩) (exS:=⟨[.sl 59],[]⟩) Tryz.f24 (memC uM (memC GU zG)) (by kernel_rfl) (by kernel_rfl) fun x=>by kernel_rfl
theorem zrB:zt Tryz.prog (lW LB):=
 okC (A:=⟨[lq qb,ax uj],[(12,[7]),(15,[5])],[],0,[(9,⟨[7,8,24],⟨[.own 2466, .int .i64, .int .i64],[(2466, .sl 22)]⟩,[0,1,4,5,22,23],[],[],0,[7,8],⟨[.own 2466, .int .i64],[(2466, .sl 22)]⟩,[2466]⟩)],[(14,⟨[7,8,24],⟨[.own 2568, .int .i64, .int .i64],[(2568, .sl 22)]⟩,[],[],[],0,[],⟨[],[]⟩,[]⟩)],[]⟩) (exS:=⟨[.sl 22, .int .i64],[]⟩) Tryz.f52 (memC Gu (memC PW zG)) (by kernel_rfl) (by kernel_rfl) fun x=>by kernel_rfl
theorem Qv:zt Tryz.prog (qO zQ):=
 okC (A:=⟨[],[],[],1,[],[],[]⟩) (exS:=⟨[.int .u8],[]⟩) Tryz.f89 zG (by kernel_rfl) (by kernel_rfl) fun x=>by kernel_rfl
theorem Qw:zt Tryz.prog (qP zT):=
 okC (A:=⟨[],[],[],1,[],[],[]⟩) (exS:=⟨[.optr 1],[(0, .row 85),(1, .row 59)]⟩) Tryz.f90 zG (by kernel_rfl) (by kernel_rfl) fun x=>by kernel_rfl
theorem QN:zt Tryz.prog (Qa zw):=
 okC (A:=⟨[qO zQ,qP zT],[],[],1,[(2,⟨[],⟨[],[(0, .row 85)]⟩,[0,2,3],[],[0],0,[],⟨[],[(0, .row 85)]⟩,[0]⟩)],[],[]⟩) (exS:=⟨[.bool],[(0, .row 85)]⟩) Tryz.f53 (memC Qv (memC Qw zG)) (by kernel_rfl) (by kernel_rfl) fun x=>by kernel_rfl
theorem JN:zt Tryz.prog (GH Zv):=
 okC (A:=⟨[qO zQ,Ey Zt,qP zT],[],[],1,[(2,⟨[9],⟨[.int .i64],[(0, .row 85)]⟩,[0,7,8],[],[0],0,[],⟨[],[(0, .row 85)]⟩,[0]⟩)],[],[]⟩) (exS:=⟨[.str],[(0, .row 85)]⟩) Tryz.f86 (memC Qv (memC JC (memC Qw zG))) (by kernel_rfl) (by kernel_rfl) fun x=>by kernel_rfl
theorem zgJ:zt Tryz.prog (yY Z7):=
 okC (A:=⟨[qO zQ,qP zT,Qa zw,GH Zv,Ey Zt,sM Qt],[(6,[1])],[],1,[],[(11,⟨[],⟨[],[(1, .cells 27 [.int .u8, .str, .int .i64, .str, .nilv, .bool, .nilv]),(2, .row 85),(3, .cells 27 [.int .u8, .str, .int .i64, .str, .nilv, .bool, .nilv])]⟩,[2,4,5],[0],[1,2,3],0,[],⟨[],[]⟩,[]⟩)],[]⟩) (exS:=⟨[.optr 1, .bool],[(0, .row 85),(1, .row 27)]⟩) Tryz.f93 (memC Qv (memC Qw (memC QN (memC JN (memC JC (memC HY zG)))))) (by kernel_rfl) (by kernel_rfl) fun x=>by kernel_rfl
theorem zih:zt Tryz.prog (EZ Qj):=
 okC (A:=⟨[Qa zw,GH Zv,qO zQ,qP zT,Dy ZL,kM oq,yY Z7],[(3,[1]),(9,[4]),(13,[3]),(17,[1]),(23,[3]),(25,[1])],[(25,[(4,some 6)])],1,[(15,⟨[],⟨[],[(0, .row 85),(1, .cells 27 [.int .u8, .str, .int .i64, .str, .nilv, .bool, .nilv]),(2, .cells 27 [.int .u8, .str, .int .i64, .str, .nilv, .bool, .own 2671]),(2671, .sl 27)]⟩,[],[],[0,1,2],0,[],⟨[],[(0, .row 85),(1, .cells 27 [.int .u8, .str, .int .i64, .str, .nilv, .bool, .nilv]),(2, .cells 27 [.int .u8, .str, .int .i64, .str, .nilv, .bool, .own 2671]),(2671, .sl 27)]⟩,[0,1,2,2671]⟩)],[(14,⟨[],⟨[],[(0, .row 85),(1, .cells 27 [.int .u8, .str, .int .i64, .str, .nilv, .bool, .nilv]),(2, .cells 27 [.int .u8, .str, .int .i64, .str, .nilv, .bool, .own 2569]),(2569, .sl 27)]⟩,[0,2,4,5],[],[0,1,2],0,[],⟨[],[]⟩,[]⟩),(26,⟨[],⟨[],[(1, .cells 27 [.int .u8, .str, .int .i64, .str, .nilv, .bool, .nilv]),(2, .cells 27 [.int .u8, .str, .int .i64, .str, .nilv, .bool, .sl 27])]⟩,[],[0],[1,2],0,[],⟨[],[]⟩,[]⟩)],[]⟩) (exS:=⟨[.optr 1, .bool],[(0, .row 85),(1, .row 27)]⟩) Tryz.f54 (memC QN (memC JN (memC Qv (memC Qw (memC IC (memC IY (memC zgJ zG))))))) (by kernel_rfl) (by kernel_rfl) fun x=>by kernel_rfl
theorem vW:zt Tryz.prog (fM yt):=
 okC (A:=⟨[lW LB,Qa zw,EZ Qj],[(17,[1]),(18,[1]),(19,[3])],[],0,[(13,⟨[44],⟨[.int .i64],[(1, .cells 27 [.int .u8, .str, .int .i64, .str, .nilv, .bool, .own 2672]),(2672, .sl 27)]⟩,[7,42,43],[0],[1],0,[],⟨[],[(1, .cells 27 [.int .u8, .str, .int .i64, .str, .nilv, .bool, .own 2672]),(2672, .sl 27)]⟩,[1,2672]⟩)],[(9,⟨[],⟨[],[(0, .cells 27 [.int .u8, .str, .int .i64, .str, .nilv, .bool, .nilv])]⟩,[2,4],[],[0],0,[],⟨[],[]⟩,[]⟩),(19,⟨[],⟨[],[(1, .cells 27 [.int .u8, .str, .int .i64, .str, .nilv, .bool, .own 2672]),(2672, .sl 27),(2674, .row 27)]⟩,[10,44],[],[1,2672,2674],0,[],⟨[],[]⟩,[]⟩)],[]⟩) (exS:=⟨[.optr 0, .int .i64],[(0, .row 27)]⟩) Tryz.f25 (memC zrB (memC QN (memC zih zG))) (by kernel_rfl) (by kernel_rfl) fun x=>by kernel_rfl
theorem zo4:zt Tryz.prog (bX UB):=
 okC (A:=⟨[xM Nu,fM yt,bG Jm,FW Au],[],[],0,[(6,⟨[13],⟨[.int .i64],[]⟩,[2,3,9],[0],[],0,[],⟨[],[]⟩,[]⟩)],[],[]⟩) (exS:=⟨[.bool],[]⟩) Tryz.f21 (memC LY (memC vW (memC NM (memC zrr zG)))) (by kernel_rfl) (by kernel_rfl) fun x=>by kernel_rfl
theorem ztU:zt Tryz.prog (sV Vt):=
 okC (A:=⟨[Yq ZZ],[],[],0,[(1,⟨[0],⟨[.sl 59],[]⟩,[2],[],[],0,[0],⟨[.sl 59],[]⟩,[]⟩)],[],[]⟩) (exS:=⟨[.sl 59],[]⟩) Tryz.f203 (memC Xt zG) (by kernel_rfl) (by kernel_rfl) fun x=>by kernel_rfl
theorem zrx:zt Tryz.prog (yV Mo):=
 okC (A:=⟨[Yq ZZ],[],[],0,[(1,⟨[0],⟨[.sl 59],[]⟩,[2],[],[],0,[0],⟨[.sl 59],[]⟩,[]⟩)],[],[]⟩) (exS:=⟨[.sl 59],[]⟩) Tryz.f202 (memC Xt zG) (by kernel_rfl) (by kernel_rfl) fun x=>by kernel_rfl
theorem zvM:zt Tryz.prog (sU KA):=
 okC (A:=⟨[sV Vt,yV Mo,Yq ZZ,ZA strings_HasPrefix,Dy ZL,Ey Zt,FM Ho,BM Vl,jG Pm],[],[],0,[],[(7,⟨[0],⟨[.sl 59],[(0, .cells 24 [.str, .nilv, .bool]),(1, .cells 24 [.str, .nilv, .bool])]⟩,[2,4],[],[0,1],0,[],⟨[],[]⟩,[]⟩),(16,⟨[0],⟨[.sl 59],[(0, .cells 24 [.str, .nilv, .bool]),(1, .cells 24 [.str, .nilv, .bool])]⟩,[],[],[0,1],0,[],⟨[],[]⟩,[]⟩)],[]⟩) (exS:=⟨[.optr 0, .bool],[(0, .row 24)]⟩) Tryz.f174 (memC ztU (memC zrx (memC Xt (memC ZE (memC IC (memC JC (memC XW (memC VW (memC VM zG))))))))) (by kernel_rfl) (by kernel_rfl) fun x=>by kernel_rfl
theorem zvL:zt Tryz.prog (uU LA):=
 okC (A:=⟨[lq qb,sU KA],[],[],0,[],[],[]⟩) (exS:=⟨[.optr 0, .bool, .int .i64],[(0, .row 24)]⟩) Tryz.f132 (memC Gu (memC zvM zG)) (by kernel_rfl) (by kernel_rfl) fun x=>by kernel_rfl
theorem zi4(zH:zk->Option ((zf×Bool)×zk))(h_cond_reader_told:zt Tryz.prog (qQ zH)):zt Tryz.prog (tY (ZO zH)):=
 okC (A:=⟨[qO zQ,qP zT,uU LA,qQ zH],[],[],1,[],[],[]⟩) (exS:=⟨[.optr 1, .bool],[(0, .row 85),(1, .row 27)]⟩) Tryz.f87 (memC Qv (memC Qw (memC zvL (memC h_cond_reader_told zG)))) (by kernel_rfl) (by kernel_rfl) fun x=>by kernel_rfl
theorem zjf(zH:zk->Option ((zf×Bool)×zk))(hs:zt Tryz.prog (qQ zH)):zt Tryz.prog (qQ (qi zH)):=
 okC (A:=⟨[Qa zw,GH Zv,tY (ZO zH)],[(2,[1]),(6,[1]),(15,[5]),(23,[3])],[],1,[(14,⟨[9],⟨[.bool],[(0, .row 85),(1, .cells 27 [.int .u8, .str, .int .i64, .str, .nilv, .bool, .nilv]),(5, .cells 27 [.int .u8, .str, .int .i64, .str, .nilv, .bool, .own 2673]),(2673, .sl 27)]⟩,[0,2,10],[],[0,1,5],0,[],⟨[],[(0, .row 85),(1, .cells 27 [.int .u8, .str, .int .i64, .str, .nilv, .bool, .nilv]),(5, .cells 27 [.int .u8, .str, .int .i64, .str, .nilv, .bool, .own 2673]),(2673, .sl 27)]⟩,[0,1,5,2673]⟩)],[],[]⟩) (exS:=⟨[.optr 1, .bool],[(0, .row 85),(1, .row 27)]⟩) Tryz.f51 (memC QN (memC JN (memC (zi4 zH hs) zG))) (by kernel_rfl) (by kernel_rfl) fun x=>by kernel_rfl
theorem zi5:zt Tryz.prog (qQ zH):=
 zt.recE (I:=I) (P:=Tryz.prog) (f:=51) (inS:=⟨[.optr 0],[(0, .row 85)]⟩) (cst:=[]) (outS:=⟨[.val 27, .bool],[(0, .row 85)]⟩) (k:=0) (qi) (by kernel_rfl) (fun S h=>zjf S h)
theorem VY:zt Tryz.prog (DN Iu):=
 okC (A:=⟨[lq qb,qQ zH,Q0 ZI],[],[],0,[],[],[]⟩) (exS:=⟨[.optr 0, .int .i64],[(0, .row 27)]⟩) Tryz.f23 (memC Gu (memC zi5 (memC RN zG))) (by kernel_rfl) (by kernel_rfl) fun x=>by kernel_rfl
theorem zk4:zt Tryz.prog (aY MC):=
 okC (A:=⟨[],[],[],3,[],[],[]⟩) (exS:=⟨[.bool],[(0, .row 3)]⟩) Tryz.f38 zG (by kernel_rfl) (by kernel_rfl) fun x=>by kernel_rfl
theorem zon(Qh:(zf×Int)×Int×List Bool->Option (Bool×Int))(hs:zt Tryz.prog (BC Qh)):zt Tryz.prog (BC (LC Qh)):=
 okC (A:=⟨[aY MC,BC Qh],[],[],3,[(14,⟨[7,8,45],⟨[.bool, .bool, .int .i64],[(0, .row 3)]⟩,[1,2,3,6,43,44],[3],[0],1,[7,8],⟨[.bool, .bool],[(0, .row 3)]⟩,[0]⟩)],[],[]⟩) (exS:=⟨[.bool],[(0, .row 3)]⟩) Tryz.f37 (memC zk4 (memC hs zG)) (by kernel_rfl) (by kernel_rfl) fun x=>by kernel_rfl
theorem zn2:zt Tryz.prog (BC Qh):=
 zt.recE (I:=I) (P:=Tryz.prog) (f:=37) (inS:=⟨[.val 27, .int .i64, .clo 38 [0,1]],[(0, .row 3),(1, .cells 30 [.own 2]),(2, .sl 4)]⟩) (cst:=[1,2]) (outS:=⟨[.bool],[(0, .row 3)]⟩) (k:=0) (LC) (by kernel_rfl) (fun S h=>zon S h)
theorem zn1:zt Tryz.prog (vX Fy):=
 okC (A:=⟨[kG Oo,Lu qR,BC Qh],[],[],1,[],[],[]⟩) (exS:=⟨[.bool, .int .i64],[]⟩) Tryz.f12 (memC XM (memC WM (memC zn2 zG))) (by kernel_rfl) (by kernel_rfl) fun x=>by kernel_rfl
theorem zk7:zt Tryz.prog (WY KC):=
 okC (A:=⟨[xM Nu,DN Iu,bG Jm,IW Ex,vX Fy],[],[],0,[(9,⟨[18],⟨[.int .i64],[(1, .sl 4)]⟩,[2,3,8,9,15,16,17],[0],[1],0,[],⟨[],[(1, .sl 4)]⟩,[1]⟩)],[],[]⟩) (exS:=⟨[.bool],[]⟩) Tryz.f22 (memC LY (memC VY (memC NM (memC zrq (memC zn1 zG))))) (by kernel_rfl) (by kernel_rfl) fun x=>by kernel_rfl
theorem zo3:zt Tryz.prog (xW rq):=
 okC (A:=⟨[bX UB,WY KC],[],[],0,[],[],[]⟩) (exS:=⟨[.bool],[]⟩) Tryz.f26 (memC zo4 (memC zk7 zG)) (by kernel_rfl) (by kernel_rfl) fun x=>by kernel_rfl
theorem zsb(Qn:zf×zf->Option Bool)(hs:zt Tryz.prog (gB Qn)):zt Tryz.prog (gB (Bu Qn)):=
 okC (A:=⟨[UX Eu,gB Qn],[],[],0,[(4,⟨[5],⟨[.int .i64],[]⟩,[2,3],[0,1],[],0,[],⟨[],[]⟩,[]⟩)],[],[]⟩) (exS:=⟨[.bool],[]⟩) Tryz.f29 (memC zpa (memC hs zG)) (by kernel_rfl) (by kernel_rfl) fun x=>by kernel_rfl
theorem zrF:zt Tryz.prog (gB Qn):=
 zt.recE (I:=I) (P:=Tryz.prog) (f:=29) (inS:=⟨[.val 27, .val 27],[]⟩) (cst:=[]) (outS:=⟨[.bool],[]⟩) (k:=0) (Bu) (by kernel_rfl) (fun S h=>zsb S h)
theorem zk6:zt Tryz.prog (XY xG):=
 okC (A:=⟨[SX Tx,xW rq,bG Jm,EH QT,tJ parseF,DN Iu,rY qY,fM yt,gB Qn],[],[],0,[],[(14,⟨[14],⟨[.int .i64],[(2, .row 27)]⟩,[2,3,5,7,13],[0,1],[2],0,[],⟨[],[]⟩,[]⟩)],[]⟩) (exS:=⟨[.bool],[]⟩) Tryz.f6 (memC zpb (memC zo3 (memC NM (memC uM (memC GU (memC VY (memC zi6 (memC vW (memC zrF zG))))))))) (by kernel_rfl) (by kernel_rfl) fun x=>by kernel_rfl
end Go.Lv.VT
