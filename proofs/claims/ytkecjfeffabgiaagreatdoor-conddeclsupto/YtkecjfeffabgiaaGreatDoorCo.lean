/- Contracts. -/
import Derived.Test.YtkecjfeffabgiaaGreatDoorCoa
set_option linter.unusedSimpArgs false
set_option linter.unusedVariables false
namespace Go.Lv.VT
set_option maxRecDepth 100000
open Go.Proofs
theorem pX(zW:zh->Option Str)(h_cond_media:zm Tryz.prog (Cm zW)):zm Tryz.prog (LM (Vo zW)):=
 okC (A:=⟨[Cm zW,JC lh],[(5,[4])],[(7,[(7,none)])],0,[(3,⟨[7,12],⟨[.own 1417, .int .i64],[(1417, .sl 9)]⟩,[1,2,6,10,11],[],[],0,[7],⟨[.own 1417],[(1417, .sl 9)]⟩,[1417]⟩)],[],[]⟩) (exS:=⟨[.str],[]⟩) Tryz.f68 (memC h_cond_media (memC xJ zx)) (by kernel_rfl) (by kernel_rfl) fun x=>by kernel_rfl
theorem GY(zW:zh->Option Str)(hs:zm Tryz.prog (Cm zW)):zm Tryz.prog (Cm (Uu zW)):=
 okC (A:=⟨[bE Kl,Cm zW,LM (Vo zW),gN Ru],[],[],0,[],[],[]⟩) (exS:=⟨[.str],[]⟩) Tryz.f41 (memC xM (memC hs (memC (pX zW hs) (memC lZ zx)))) (by kernel_rfl) (by kernel_rfl) fun x=>by kernel_rfl
theorem DZ:zm Tryz.prog (Cm zW):=
 zm.recE (I:=I) (P:=Tryz.prog) (f:=41) (inS:=⟨[.val 27],[]⟩) (cst:=[]) (outS:=⟨[.str],[]⟩) (k:=0) (Uu) (by kernel_rfl) (fun S h=>GY S h)
theorem jZ:zm Tryz.prog (bN QZ):=
 okC (A:=⟨[Nz Yh,Tp qf,LA Zv],[(6,[2])],[],1,[(2,⟨[0,11],⟨[.own 1419, .int .i64],[(1419, .sl 5)]⟩,[1,2,6,10],[],[],0,[0],⟨[.own 1419],[(1419, .sl 5)]⟩,[1419]⟩)],[(8,⟨[0,11],⟨[.own 1521, .int .i64],[(1521, .sl 5)]⟩,[],[],[],0,[],⟨[],[]⟩,[]⟩)],[]⟩) (exS:=⟨[.own 1],[(1, .sl 5)]⟩) Tryz.f110 (memC VF (memC tu (memC rG zx))) (by kernel_rfl) (by kernel_rfl) fun x=>by kernel_rfl
theorem wY:zm Tryz.prog (iM ay):=
 okC (A:=⟨[],[],[],0,[],[],[]⟩) (exS:=⟨[.optr 0],[(0, .row 230)]⟩) Tryz.f221 zx (by kernel_rfl) (by kernel_rfl) fun x=>by kernel_rfl
theorem D7:zm Tryz.prog (kP QN):=
 okC (A:=⟨[TL Fy,mK fw,IJ Ym],[(2,[1]),(6,[1])],[],1,[],[(3,⟨[0,1],⟨[.own 2043, .int .i64],[(2043, .sl 5)]⟩,[2],[],[],0,[],⟨[],[]⟩,[]⟩),(9,⟨[0],⟨[.own 2146],[(2146, .sl 5)]⟩,[],[],[],0,[],⟨[],[]⟩,[]⟩)],[]⟩) (exS:=⟨[.own 1],[(1, .sl 5)]⟩) Tryz.f220 (memC mW (memC vV (memC TU zx))) (by kernel_rfl) (by kernel_rfl) fun x=>by kernel_rfl
theorem iZ:zm Tryz.prog (aN Lu):=
 okC (A:=⟨[oF qx,bN QZ,ZT strings_IndexByte,LA Zv,kP QN,dG Yj,Zk strings_HasPrefix,iM ay],[(5,[7]),(7,[1]),(12,[1]),(14,[1]),(20,[2]),(22,[1]),(30,[2]),(32,[1]),(38,[4])],[],1,[(16,⟨[0,67],⟨[.own 1836, .int .i64],[(1836, .sl 5)]⟩,[3,4,65,66],[1,4],[],1,[0],⟨[.own 1836],[(1836, .sl 5)]⟩,[1836]⟩),(26,⟨[0,93],⟨[.own 1940, .int .i64],[(1940, .sl 5)]⟩,[3,4,91,92],[1,3],[],3,[0],⟨[.own 1940],[(1940, .sl 5)]⟩,[1940]⟩)],[(12,⟨[5],⟨[.int .i64],[(0, .sl 5)]⟩,[0,3],[1],[0],0,[],⟨[],[]⟩,[]⟩),(21,⟨[0,67],⟨[.own 1938, .int .i64],[(1938, .sl 5)]⟩,[],[],[],0,[],⟨[],[]⟩,[]⟩),(31,⟨[0,93],⟨[.own 2042, .int .i64],[(2042, .sl 5)]⟩,[],[],[],0,[],⟨[],[]⟩,[]⟩)],[]⟩) (exS:=⟨[.own 1],[(1, .sl 5)]⟩) Tryz.f194 (memC TN (memC jZ (memC qg (memC rG (memC D7 (memC WP (memC Zr (memC wY zx)))))))) (by kernel_rfl) (by kernel_rfl) fun x=>by kernel_rfl
theorem zgg:zm Tryz.prog (jQ ZO):=
 okC (A:=⟨[Zk strings_HasPrefix,XD Ej],[],[],1,[(0,⟨[],⟨[],[(0, .row 121)]⟩,[0],[],[0],0,[],⟨[],[(0, .row 121)]⟩,[0]⟩)],[],[]⟩) (exS:=⟨[],[(0, .row 121)]⟩) Tryz.f95 (memC Zr (memC UK zx)) (by kernel_rfl) (by kernel_rfl) fun x=>by kernel_rfl
theorem zN:zm Tryz.prog (zK zg):=
 okC (A:=⟨[],[],[],1,[],[],[]⟩) (exS:=⟨[.int .i64],[]⟩) Tryz.f138 zx (by kernel_rfl) (by kernel_rfl) fun x=>by kernel_rfl
theorem nu:zm Tryz.prog (Fq ZK):=
 okC (A:=⟨[],[],[],0,[],[],[]⟩) (exS:=⟨[.bool],[]⟩) Tryz.f139 zx (by kernel_rfl) (by kernel_rfl) fun x=>by kernel_rfl
theorem eH:zm Tryz.prog (QH Zg):=
 okC (A:=⟨[zK zg,Fq ZK],[],[],1,[(0,⟨[],⟨[],[(0, .row 121)]⟩,[0,1],[],[0],0,[],⟨[],[(0, .row 121)]⟩,[0]⟩)],[],[]⟩) (exS:=⟨[],[(0, .row 121)]⟩) Tryz.f140 (memC zN (memC nu zx)) (by kernel_rfl) (by kernel_rfl) fun x=>by kernel_rfl
theorem zey:zm Tryz.prog (xQ Q9):=
 okC (A:=⟨[],[(2,[1]),(4,[9]),(7,[14]),(9,[19])],[],0,[],[(7,⟨[25],⟨[.bool],[]⟩,[0,1,5],[],[],0,[],⟨[],[]⟩,[]⟩)],[]⟩) (exS:=⟨[.own 0],[(0, .sl 5)]⟩) Tryz.f244 zx (by kernel_rfl) (by kernel_rfl) fun x=>by kernel_rfl
theorem X8:zm Tryz.prog (SQ Qj):=
 okC (A:=⟨[xQ Q9],[(2,[3])],[],0,[],[],[]⟩) (exS:=⟨[.own 0],[(0, .sl 5)]⟩) Tryz.f210 (memC zey zx) (by kernel_rfl) (by kernel_rfl) fun x=>by kernel_rfl
theorem IA:zm Tryz.prog (Jv Qh):=
 okC (A:=⟨[],[],[],0,[],[],[]⟩) (exS:=⟨[.bool],[]⟩) Tryz.f212 zx (by kernel_rfl) (by kernel_rfl) fun x=>by kernel_rfl
theorem ou:zm Tryz.prog (Gq ZV):=
 okC (A:=⟨[Jv Qh],[],[],0,[],[],[]⟩) (exS:=⟨[.bool],[]⟩) Tryz.f182 (memC IA zx) (by kernel_rfl) (by kernel_rfl) fun x=>by kernel_rfl
theorem sM:zm Tryz.prog (xE Vh):=
 okC (A:=⟨[Gq ZV,Jv Qh],[],[],0,[],[],[]⟩) (exS:=⟨[.int .i64],[]⟩) Tryz.f211 (memC ou (memC IA zx)) (by kernel_rfl) (by kernel_rfl) fun x=>by kernel_rfl
theorem zfw:zm Tryz.prog (CR qb):=
 okC (A:=⟨[zK zg,SQ Qj,xE Vh,Fq ZK],[(7,[3])],[],1,[(10,⟨[6,36],⟨[.int .i64, .int .i64],[(0, .row 121)]⟩,[0,1,4],[],[0],0,[6],⟨[.int .i64],[(0, .row 121)]⟩,[0]⟩)],[(17,⟨[6],⟨[.int .i64],[(0, .row 121)]⟩,[1],[],[0],0,[],⟨[],[]⟩,[]⟩),(19,⟨[6],⟨[.int .i64],[]⟩,[],[0],[],0,[],⟨[],[]⟩,[]⟩)],[]⟩) (exS:=⟨[.own 1],[(0, .row 121),(1, .sl 5)]⟩) Tryz.f180 (memC zN (memC X8 (memC sM (memC nu zx)))) (by kernel_rfl) (by kernel_rfl) fun x=>by kernel_rfl
theorem zez:zm Tryz.prog (wQ bH):=
 okC (A:=⟨[],[(2,[1]),(4,[9]),(7,[14]),(9,[19])],[],1,[],[(7,⟨[25],⟨[.bool],[(0, .sl 5)]⟩,[0,1,5],[],[0],0,[],⟨[],[]⟩,[]⟩)],[]⟩) (exS:=⟨[.own 1],[(1, .sl 5)]⟩) Tryz.f244 zx (by kernel_rfl) (by kernel_rfl) fun x=>by kernel_rfl
theorem V8:zm Tryz.prog (RQ Qk):=
 okC (A:=⟨[wQ bH],[(2,[3])],[],1,[],[],[]⟩) (exS:=⟨[.own 1],[(1, .sl 5)]⟩) Tryz.f210 (memC zez zx) (by kernel_rfl) (by kernel_rfl) fun x=>by kernel_rfl
theorem QB:zm Tryz.prog (qA z8):=
 okC (A:=⟨[zK zg,RQ Qk,xE Vh,Fq ZK],[(7,[3])],[],2,[(10,⟨[6,36],⟨[.int .i64, .int .i64],[(0, .row 121)]⟩,[0,1,4],[1],[0],0,[6],⟨[.int .i64],[(0, .row 121)]⟩,[0]⟩)],[(17,⟨[6],⟨[.int .i64],[(0, .row 121),(1, .sl 5)]⟩,[1],[],[0,1],0,[],⟨[],[]⟩,[]⟩),(19,⟨[6],⟨[.int .i64],[(1, .sl 5)]⟩,[],[0],[1],0,[],⟨[],[]⟩,[]⟩)],[]⟩) (exS:=⟨[.own 2],[(0, .row 121),(2, .sl 5)]⟩) Tryz.f180 (memC zN (memC V8 (memC sM (memC nu zx)))) (by kernel_rfl) (by kernel_rfl) fun x=>by kernel_rfl
theorem U9:zm Tryz.prog (uQ Qa):=
 okC (A:=⟨[zK zg,qA z8],[(5,[3])],[],1,[(4,⟨[4],⟨[.own 2148],[(0, .row 121),(1, .row 57),(2148, .sl 5)]⟩,[0,2,3],[],[0,1],0,[4],⟨[.own 2148],[(0, .row 121),(1, .row 57),(2148, .sl 5)]⟩,[0,1,2148]⟩)],[],[]⟩) (exS:=⟨[.optr 1],[(0, .row 121),(1, .row 57)]⟩) Tryz.f141 (memC zN (memC QB zx)) (by kernel_rfl) (by kernel_rfl) fun x=>by kernel_rfl
theorem tO:zm Tryz.prog (GG yo):=
 okC (A:=⟨[Jv Qh],[],[],0,[],[],[]⟩) (exS:=⟨[.bool],[]⟩) Tryz.f181 (memC IA zx) (by kernel_rfl) (by kernel_rfl) fun x=>by kernel_rfl
theorem eP:zm Tryz.prog (jG Vl):=
 okC (A:=⟨[GG yo,Gq ZV],[],[],0,[],[],[]⟩) (exS:=⟨[.bool],[]⟩) Tryz.f142 (memC tO (memC ou zx)) (by kernel_rfl) (by kernel_rfl) fun x=>by kernel_rfl
theorem Z9:zm Tryz.prog (ZM zM):=
 okC (A:=⟨[zK zg],[],[],1,[],[],[]⟩) (exS:=⟨[.bool],[]⟩) Tryz.f143 (memC zN zx) (by kernel_rfl) (by kernel_rfl) fun x=>by kernel_rfl
theorem bQ:zm Tryz.prog (UH Zf):=
 okC (A:=⟨[zK zg,GG yo,ZM zM],[],[],1,[],[],[]⟩) (exS:=⟨[.bool],[]⟩) Tryz.f144 (memC zN (memC tO (memC Z9 zx))) (by kernel_rfl) (by kernel_rfl) fun x=>by kernel_rfl
theorem NH:zm Tryz.prog (VA Zj):=
 okC (A:=⟨[zK zg,jG Vl,ZM zM,qA z8],[(5,[3])],[],1,[(2,⟨[3],⟨[.own 2149],[(0, .row 121),(2149, .sl 5)]⟩,[0],[],[0],0,[],⟨[],[]⟩,[]⟩)],[],[]⟩) (exS:=⟨[.str],[(0, .row 121)]⟩) Tryz.f145 (memC zN (memC eP (memC Z9 (memC QB zx)))) (by kernel_rfl) (by kernel_rfl) fun x=>by kernel_rfl
theorem V9:zm Tryz.prog (vQ UA):=
 okC (A:=⟨[zK zg,Gq ZV],[],[],1,[],[(5,⟨[3],⟨[.int .i64],[]⟩,[0],[],[],0,[],⟨[],[]⟩,[]⟩),(7,⟨[3],⟨[.int .i64],[]⟩,[],[],[],0,[],⟨[],[]⟩,[]⟩)],[]⟩) (exS:=⟨[.bool],[]⟩) Tryz.f146 (memC zN (memC ou zx)) (by kernel_rfl) (by kernel_rfl) fun x=>by kernel_rfl
theorem zgE:zm Tryz.prog (nQ ZE):=
 okC (A:=⟨[zK zg,Gq ZV],[],[],1,[(0,⟨[],⟨[],[(0, .row 121)]⟩,[0,1],[],[0],0,[],⟨[],[(0, .row 121)]⟩,[0]⟩)],[],[]⟩) (exS:=⟨[],[(0, .row 121)]⟩) Tryz.f140 (memC zN (memC ou zx)) (by kernel_rfl) (by kernel_rfl) fun x=>by kernel_rfl
theorem zgC:zm Tryz.prog (pQ qH):=
 okC (A:=⟨[zK zg,nQ ZE,Gq ZV],[],[],1,[],[(4,⟨[],⟨[],[(0, .row 121)]⟩,[0],[],[0],0,[],⟨[],[]⟩,[]⟩),(10,⟨[4],⟨[.bool],[(0, .row 121)]⟩,[],[],[0],0,[],⟨[],[]⟩,[]⟩),(15,⟨[4,5],⟨[.bool, .int .i64],[(0, .row 121)]⟩,[],[],[0],0,[],⟨[],[]⟩,[]⟩),(19,⟨[4],⟨[.bool],[(0, .row 121)]⟩,[],[],[0],0,[],⟨[],[]⟩,[]⟩)],[]⟩) (exS:=⟨[.bool],[(0, .row 121)]⟩) Tryz.f183 (memC zN (memC zgE (memC ou zx))) (by kernel_rfl) (by kernel_rfl) fun x=>by kernel_rfl
theorem Y8:zm Tryz.prog (TQ Nv):=
 okC (A:=⟨[JJ Tk,GM Ws,MS cutF],[],[],0,[(8,⟨[6,31],⟨[.int .i64, .int .i64],[]⟩,[0,2,3,4,5,29,30],[0],[],0,[6],⟨[.int .i64],[]⟩,[]⟩),(22,⟨[12,81],⟨[.int .i64, .int .i64],[]⟩,[4,79,80],[0],[],2,[12],⟨[.int .i64],[]⟩,[]⟩),(26,⟨[4,12],⟨[.int .i64, .int .i64],[]⟩,[],[],[],4,[12],⟨[.int .i64],[]⟩,[]⟩)],[(14,⟨[0,4,6],⟨[.str, .int .i64, .int .i64],[]⟩,[3,5],[],[],0,[],⟨[],[]⟩,[]⟩),(15,⟨[0,4],⟨[.str, .int .i64],[]⟩,[3],[],[],0,[],⟨[],[]⟩,[]⟩),(20,⟨[0,4],⟨[.str, .int .i64],[]⟩,[],[],[],0,[],⟨[],[]⟩,[]⟩),(31,⟨[12],⟨[.int .i64],[]⟩,[],[],[],0,[],⟨[],[]⟩,[]⟩)],[]⟩) (exS:=⟨[.int .i64],[]⟩) Tryz.f184 (memC UU (memC jX (memC zBT zx))) (by kernel_rfl) (by kernel_rfl) fun x=>by kernel_rfl
theorem zgD:zm Tryz.prog (oQ qI):=
 okC (A:=⟨[pQ qH,TQ Nv,UH Zf,VA Zj,zK zg],[],[],1,[],[(9,⟨[],⟨[],[(0, .row 121),(1, .row 57),(2, .row 57)]⟩,[2,5],[],[0,1,2],0,[],⟨[],[]⟩,[]⟩)],[]⟩) (exS:=⟨[.optr 1],[(0, .row 121),(1, .row 57)]⟩) Tryz.f147 (memC zgC (memC Y8 (memC bQ (memC NH (memC zN zx))))) (by kernel_rfl) (by kernel_rfl) fun x=>by kernel_rfl
theorem p8:zm Tryz.prog (VQ qz):=
 okC (A:=⟨[zK zg,ZM zM,CR qb],[],[],1,[(1,⟨[],⟨[],[(0, .row 121),(1, .row 57)]⟩,[0,2],[],[0,1],0,[],⟨[],[]⟩,[]⟩)],[],[]⟩) (exS:=⟨[.optr 1],[(0, .row 121),(1, .row 57)]⟩) Tryz.f216 (memC zN (memC Z9 (memC zfw zx))) (by kernel_rfl) (by kernel_rfl) fun x=>by kernel_rfl
theorem l8:zm Tryz.prog (UQ Ov):=
 okC (A:=⟨[QH Zg,zK zg,Fq ZK,VQ qz,Jv Qh,ZM zM,qA z8],[(18,[3])],[],1,[(3,⟨[3],⟨[.own 2150],[(0, .row 121),(1, .row 57),(2150, .sl 5)]⟩,[0,2],[],[0,1],0,[],⟨[],[]⟩,[]⟩)],[(10,⟨[3,4],⟨[.own 2150, .int .i64],[(0, .row 121),(1, .row 57),(2150, .sl 5)]⟩,[],[],[0,1,2150],0,[],⟨[],[]⟩,[]⟩)],[]⟩) (exS:=⟨[.optr 1],[(0, .row 121),(1, .row 57)]⟩) Tryz.f185 (memC eH (memC zN (memC nu (memC p8 (memC IA (memC Z9 (memC QB zx))))))) (by kernel_rfl) (by kernel_rfl) fun x=>by kernel_rfl
theorem Y9:zm Tryz.prog (eQ Qx):=
 okC (A:=⟨[VA Zj,zK zg,Iq ZU,QH Zg,UQ Ov],[],[],1,[],[(11,⟨[],⟨[],[(0, .row 121),(1, .row 57)]⟩,[2,3],[],[0,1],0,[],⟨[],[]⟩,[]⟩)],[]⟩) (exS:=⟨[.optr 1],[(0, .row 121),(1, .row 57)]⟩) Tryz.f148 (memC NH (memC zN (memC su (memC eH (memC l8 zx))))) (by kernel_rfl) (by kernel_rfl) fun x=>by kernel_rfl
theorem I9:zm Tryz.prog (MQ QV):=
 okC (A:=⟨[zK zg,Fq ZK,QH Zg,uQ Qa,jG Vl,ZM zM,UH Zf,VA Zj,vQ UA,oQ qI,Zk strings_HasPrefix,eQ Qx,ZT strings_IndexByte],[],[],1,[],[],[]⟩) (exS:=⟨[.optr 1],[(0, .row 121),(1, .row 57)]⟩) Tryz.f96 (memC zN (memC nu (memC eH (memC U9 (memC eP (memC Z9 (memC bQ (memC NH (memC V9 (memC zgD (memC Zr (memC Y9 (memC qg zx))))))))))))) (by kernel_rfl) (by kernel_rfl) fun x=>by kernel_rfl
theorem J8:zm Tryz.prog (IQ BA):=
 okC (A:=⟨[],[(1,[2])],[],2,[],[],[]⟩) (exS:=⟨[],[(0, .cells 62 [.own 2]),(2, .sl 57)]⟩) Tryz.f56 zx (by kernel_rfl) (by kernel_rfl) fun x=>by kernel_rfl
theorem D6:zm Tryz.prog (YO eu):=
 okC (A:=⟨[MJ Pn,jQ ZO,MQ QV,IQ BA],[],[],1,[(7,⟨[7],⟨[.int .i64],[(0, .cells 62 [.own 2151]),(2151, .sl 57),(1, .row 121)]⟩,[0,1,6],[],[0,1],0,[],⟨[],[(0, .cells 62 [.own 2151]),(2151, .sl 57),(1, .row 121)]⟩,[0,1,2151]⟩)],[],[]⟩) (exS:=⟨[.int .i64],[(0, .cells 62 [.own 1]),(1, .sl 57)]⟩) Tryz.f55 (memC XU (memC zgg (memC I9 (memC J8 zx)))) (by kernel_rfl) (by kernel_rfl) fun x=>by kernel_rfl
theorem fP:zm Tryz.prog (kG Wl):=
 okC (A:=⟨[YO eu],[],[],0,[],[],[]⟩) (exS:=⟨[.sl 57, .int .i64],[]⟩) Tryz.f27 (memC D6 zx) (by kernel_rfl) (by kernel_rfl) fun x=>by kernel_rfl
theorem K9:zm Tryz.prog (OQ QU):=
 okC (A:=⟨[],[],[],0,[(4,⟨[13],⟨[.int .i64],[]⟩,[0,1,12],[],[],0,[],⟨[],[]⟩,[]⟩)],[],[]⟩) (exS:=⟨[.bool],[]⟩) Tryz.f195 zx (by kernel_rfl) (by kernel_rfl) fun x=>by kernel_rfl
theorem xY:zm Tryz.prog (jM Pt):=
 okC (A:=⟨[pF QF,mF Xi,aN Lu,kG Wl,OQ QU],[(24,[5])],[],0,[(7,⟨[5,6,7],⟨[.own 2253, .own 2254, .int .i64],[(2253, .sl 5),(2254, .sl 211)]⟩,[0],[],[],0,[5],⟨[.own 2253],[(2253, .sl 5)]⟩,[2253]⟩),(11,⟨[9,36],⟨[.own 1834, .int .i64],[(1834, .sl 5)]⟩,[5,6,7,8,34,35],[2253,2254],[],2,[9],⟨[.own 1834],[(1834, .sl 5)]⟩,[1834]⟩)],[(17,⟨[5,6,7,9],⟨[.own 2253, .own 2254, .int .i64, .own 2356],[(2253, .sl 5),(2254, .sl 211),(2356, .sl 5)]⟩,[8],[],[2253,2254],0,[],⟨[],[]⟩,[]⟩),(21,⟨[5,6,7],⟨[.own 2253, .own 2254, .int .i64],[(2253, .sl 5),(2254, .sl 211),(2357, .row 211)]⟩,[9,12],[2356],[2253,2254,2357],0,[],⟨[],[]⟩,[]⟩),(24,⟨[5,6,7],⟨[.own 2461, .own 2254, .int .i64],[(2254, .sl 211),(2461, .sl 5)]⟩,[],[2357],[2254],0,[],⟨[],[]⟩,[]⟩)],[]⟩) (exS:=⟨[.str, .int .i64],[]⟩) Tryz.f163 (memC UN (memC SN (memC iZ (memC fP (memC K9 zx))))) (by kernel_rfl) (by kernel_rfl) fun x=>by kernel_rfl
theorem gX:zm Tryz.prog (EM Rs):=
 okC (A:=⟨[aj ZF,fO Q0,jM Pt],[],[],0,[],[],[]⟩) (exS:=⟨[.str, .int .i64],[]⟩) Tryz.f115 (memC ol (memC L6 (memC xY zx))) (by kernel_rfl) (by kernel_rfl) fun x=>by kernel_rfl
theorem mX:zm Tryz.prog (KM Jt):=
 okC (A:=⟨[Az QE,bE Kl,EM Rs],[],[],0,[],[(13,⟨[8],⟨[.str],[]⟩,[],[],[],0,[],⟨[],[]⟩,[]⟩)],[]⟩) (exS:=⟨[.str, .int .i64],[]⟩) Tryz.f72 (memC WF (memC xM (memC gX zx))) (by kernel_rfl) (by kernel_rfl) fun x=>by kernel_rfl
theorem BQ(zu:zh×Bool->Option (Str×Bool))(h_cond_supports:zm Tryz.prog (Ql zu)):zm Tryz.prog (KH (Qm zu)):=
 okC (A:=⟨[Ql zu,fE Vi],[],[],2,[],[],[]⟩) (exS:=⟨[.str],[(1, .row 4)]⟩) Tryz.f70 (memC h_cond_supports (memC BN zx)) (by kernel_rfl) (by kernel_rfl) fun x=>by kernel_rfl
theorem mZ(zu:zh×Bool->Option (Str×Bool))(h_cond_supports:zm Tryz.prog (Ql zu)):zm Tryz.prog (iN (Jp zu)):=
 okC (A:=⟨[KH (Qm zu),JC lh],[(5,[4])],[(7,[(7,none)])],2,[(3,⟨[7,12],⟨[.own 2462, .int .i64],[(1, .row 4),(2462, .sl 9)]⟩,[1,2,6,10,11],[],[1],0,[7],⟨[.own 2462],[(1, .row 4),(2462, .sl 9)]⟩,[1,2462]⟩)],[],[]⟩) (exS:=⟨[.str],[(1, .row 4)]⟩) Tryz.f68 (memC (BQ zu h_cond_supports) (memC xJ zx)) (by kernel_rfl) (by kernel_rfl) fun x=>by kernel_rfl
theorem X6(zu:zh×Bool->Option (Str×Bool))(hs:zm Tryz.prog (Ql zu)):zm Tryz.prog (Ql (Dv zu)):=
 okC (A:=⟨[KM Jt,KH (Qm zu),iN (Jp zu)],[],[],1,[],[],[]⟩) (exS:=⟨[.str],[(0, .row 4)]⟩) Tryz.f42 (memC mX (memC (BQ zu hs) (memC (mZ zu hs) zx))) (by kernel_rfl) (by kernel_rfl) fun x=>by kernel_rfl
theorem J7:zm Tryz.prog (Ql zu):=
 zm.recE (I:=I) (P:=Tryz.prog) (f:=42) (inS:=⟨[.val 27, .optr 0],[(0, .row 4)]⟩) (cst:=[]) (outS:=⟨[.str],[(0, .row 4)]⟩) (k:=0) (Dv) (by kernel_rfl) (fun S h=>X6 S h)
theorem DN:zm Tryz.prog (iE Jl):=
 okC (A:=⟨[Bz ah,LH Z5,Cm zW,Ql zu],[],[],0,[],[(8,⟨[5],⟨[.str],[(1, .row 4)]⟩,[6],[],[1],0,[],⟨[],[]⟩,[]⟩)],[]⟩) (exS:=⟨[.str, .int .i64],[]⟩) Tryz.f14 (memC YF (memC CQ (memC DZ (memC J7 zx)))) (by kernel_rfl) (by kernel_rfl) fun x=>by kernel_rfl
theorem l9:zm Tryz.prog (gQ Qu):=
 okC (A:=⟨[KQ Tv],[],[],0,[],[],[]⟩) (exS:=⟨[.int .i64],[]⟩) Tryz.f19 (memC L8 zx) (by kernel_rfl) (by kernel_rfl) fun x=>by kernel_rfl
theorem EY(Bi:List ze×List ze->Option Bool)(hs:zm Tryz.prog (bu Bi)):zm Tryz.prog (bu (Dz Bi)):=
 okC (A:=⟨[bu Bi],[],[],0,[(4,⟨[5],⟨[.int .i64],[]⟩,[0,1],[],[],0,[],⟨[],[]⟩,[]⟩)],[],[]⟩) (exS:=⟨[.bool],[]⟩) Tryz.f84 (memC hs zx) (by kernel_rfl) (by kernel_rfl) fun x=>by kernel_rfl
theorem MZ:zm Tryz.prog (bu Bi):=
 zm.recE (I:=I) (P:=Tryz.prog) (f:=84) (inS:=⟨[.sl 59, .sl 59],[]⟩) (cst:=[]) (outS:=⟨[.bool],[]⟩) (k:=0) (Dz) (by kernel_rfl) (fun S h=>EY S h)
theorem Y3:zm Tryz.prog (vN Cu):=
 okC (A:=⟨[bu Bi],[],[],0,[],[],[]⟩) (exS:=⟨[.bool],[]⟩) Tryz.f49 (memC MZ zx) (by kernel_rfl) (by kernel_rfl) fun x=>by kernel_rfl
theorem KZ:zm Tryz.prog (WM mo):=
 okC (A:=⟨[vN Cu],[],[],0,[(4,⟨[5],⟨[.int .i64],[]⟩,[0,1],[],[],0,[],⟨[],[]⟩,[]⟩)],[],[]⟩) (exS:=⟨[.bool],[]⟩) Tryz.f20 (memC Y3 zx) (by kernel_rfl) (by kernel_rfl) fun x=>by kernel_rfl
theorem VP:zm Tryz.prog (bG jl):=
 okC (A:=⟨[kG Wl,LJ parseF],[],[],0,[],[],[]⟩) (exS:=⟨[.sl 59],[]⟩) Tryz.f24 (memC fP (memC WU zx)) (by kernel_rfl) (by kernel_rfl) fun x=>by kernel_rfl
theorem uY:zm Tryz.prog (fM Nt):=
 okC (A:=⟨[aj ZF,Lp Z8],[(12,[7]),(15,[5])],[],0,[(9,⟨[7,8,24],⟨[.own 2466, .int .i64, .int .i64],[(2466, .sl 22)]⟩,[0,1,4,5,22,23],[],[],0,[7,8],⟨[.own 2466, .int .i64],[(2466, .sl 22)]⟩,[2466]⟩)],[(14,⟨[7,8,24],⟨[.own 2568, .int .i64, .int .i64],[(2568, .sl 22)]⟩,[],[],[],0,[],⟨[],[]⟩,[]⟩)],[]⟩) (exS:=⟨[.sl 22, .int .i64],[]⟩) Tryz.f52 (memC ol (memC uM zx)) (by kernel_rfl) (by kernel_rfl) fun x=>by kernel_rfl
theorem Qp:zm Tryz.prog (qL zH):=
 okC (A:=⟨[],[],[],1,[],[],[]⟩) (exS:=⟨[.int .u8],[]⟩) Tryz.f89 zx (by kernel_rfl) (by kernel_rfl) fun x=>by kernel_rfl
theorem Qq:zm Tryz.prog (qM zI):=
 okC (A:=⟨[],[],[],1,[],[],[]⟩) (exS:=⟨[.optr 1],[(0, .row 85),(1, .row 59)]⟩) Tryz.f90 zx (by kernel_rfl) (by kernel_rfl) fun x=>by kernel_rfl
theorem QS:zm Tryz.prog (qX zy):=
 okC (A:=⟨[qL zH,qM zI],[],[],1,[(2,⟨[],⟨[],[(0, .row 85)]⟩,[0,2,3],[],[0],0,[],⟨[],[(0, .row 85)]⟩,[0]⟩)],[],[]⟩) (exS:=⟨[.bool],[(0, .row 85)]⟩) Tryz.f53 (memC Qp (memC Qq zx)) (by kernel_rfl) (by kernel_rfl) fun x=>by kernel_rfl
theorem EH:zm Tryz.prog (XA Zn):=
 okC (A:=⟨[qL zH,Iq ZU,qM zI],[],[],1,[(2,⟨[9],⟨[.int .i64],[(0, .row 85)]⟩,[0,7,8],[],[0],0,[],⟨[],[(0, .row 85)]⟩,[0]⟩)],[],[]⟩) (exS:=⟨[.str],[(0, .row 85)]⟩) Tryz.f86 (memC Qp (memC su (memC Qq zx))) (by kernel_rfl) (by kernel_rfl) fun x=>by kernel_rfl
theorem p9:zm Tryz.prog (iQ qw):=
 okC (A:=⟨[qL zH,qM zI,qX zy,XA Zn,Iq ZU,NG QY],[(6,[1])],[],1,[],[(11,⟨[],⟨[],[(1, .cells 27 [.int .u8, .str, .int .i64, .str, .nilv, .bool, .nilv]),(2, .row 85),(3, .cells 27 [.int .u8, .str, .int .i64, .str, .nilv, .bool, .nilv])]⟩,[2,4,5],[0],[1,2,3],0,[],⟨[],[]⟩,[]⟩)],[]⟩) (exS:=⟨[.optr 1, .bool],[(0, .row 85),(1, .row 27)]⟩) Tryz.f93 (memC Qp (memC Qq (memC QS (memC EH (memC su (memC BP zx)))))) (by kernel_rfl) (by kernel_rfl) fun x=>by kernel_rfl
theorem D9:zm Tryz.prog (YQ Rv):=
 okC (A:=⟨[qX zy,XA Zn,qL zH,qM zI,Hq ZH,OG QW,iQ qw],[(3,[1]),(9,[4]),(13,[3]),(17,[1]),(23,[3]),(25,[1])],[(25,[(4,some 6)])],1,[(15,⟨[],⟨[],[(0, .row 85),(1, .cells 27 [.int .u8, .str, .int .i64, .str, .nilv, .bool, .nilv]),(2, .cells 27 [.int .u8, .str, .int .i64, .str, .nilv, .bool, .own 2671]),(2671, .sl 27)]⟩,[],[],[0,1,2],0,[],⟨[],[(0, .row 85),(1, .cells 27 [.int .u8, .str, .int .i64, .str, .nilv, .bool, .nilv]),(2, .cells 27 [.int .u8, .str, .int .i64, .str, .nilv, .bool, .own 2671]),(2671, .sl 27)]⟩,[0,1,2,2671]⟩)],[(14,⟨[],⟨[],[(0, .row 85),(1, .cells 27 [.int .u8, .str, .int .i64, .str, .nilv, .bool, .nilv]),(2, .cells 27 [.int .u8, .str, .int .i64, .str, .nilv, .bool, .own 2569]),(2569, .sl 27)]⟩,[0,2,4,5],[],[0,1,2],0,[],⟨[],[]⟩,[]⟩),(26,⟨[],⟨[],[(1, .cells 27 [.int .u8, .str, .int .i64, .str, .nilv, .bool, .nilv]),(2, .cells 27 [.int .u8, .str, .int .i64, .str, .nilv, .bool, .sl 27])]⟩,[],[0],[1,2],0,[],⟨[],[]⟩,[]⟩)],[]⟩) (exS:=⟨[.optr 1, .bool],[(0, .row 85),(1, .row 27)]⟩) Tryz.f54 (memC QS (memC EH (memC Qp (memC Qq (memC pu (memC CP (memC p9 zx))))))) (by kernel_rfl) (by kernel_rfl) fun x=>by kernel_rfl
theorem FZ:zm Tryz.prog (oM Tt):=
 okC (A:=⟨[fM Nt,qX zy,YQ Rv],[(17,[1]),(18,[1]),(19,[3])],[],0,[(13,⟨[44],⟨[.int .i64],[(1, .cells 27 [.int .u8, .str, .int .i64, .str, .nilv, .bool, .own 2672]),(2672, .sl 27)]⟩,[7,42,43],[0],[1],0,[],⟨[],[(1, .cells 27 [.int .u8, .str, .int .i64, .str, .nilv, .bool, .own 2672]),(2672, .sl 27)]⟩,[1,2672]⟩)],[(9,⟨[],⟨[],[(0, .cells 27 [.int .u8, .str, .int .i64, .str, .nilv, .bool, .nilv])]⟩,[2,4],[],[0],0,[],⟨[],[]⟩,[]⟩),(19,⟨[],⟨[],[(1, .cells 27 [.int .u8, .str, .int .i64, .str, .nilv, .bool, .own 2672]),(2672, .sl 27),(2674, .row 27)]⟩,[10,44],[],[1,2672,2674],0,[],⟨[],[]⟩,[]⟩)],[]⟩) (exS:=⟨[.optr 0, .int .i64],[(0, .row 27)]⟩) Tryz.f25 (memC uY (memC QS (memC D9 zx))) (by kernel_rfl) (by kernel_rfl) fun x=>by kernel_rfl
theorem X4:zm Tryz.prog (KO Ku):=
 okC (A:=⟨[bG jl,oM Tt,iE Jl,rF Yi],[],[],0,[(6,⟨[13],⟨[.int .i64],[]⟩,[2,3,9],[0],[],0,[],⟨[],[]⟩,[]⟩)],[],[]⟩) (exS:=⟨[.bool],[]⟩) Tryz.f21 (memC VP (memC FZ (memC DN (memC VN zx)))) (by kernel_rfl) (by kernel_rfl) fun x=>by kernel_rfl
theorem lX:zm Tryz.prog (JM Gl):=
 okC (A:=⟨[Mj ZA],[],[],0,[(1,⟨[0],⟨[.sl 59],[]⟩,[2],[],[],0,[0],⟨[.sl 59],[]⟩,[]⟩)],[],[]⟩) (exS:=⟨[.sl 59],[]⟩) Tryz.f203 (memC Ll zx) (by kernel_rfl) (by kernel_rfl) fun x=>by kernel_rfl
theorem yY:zm Tryz.prog (kM Ol):=
 okC (A:=⟨[Mj ZA],[],[],0,[(1,⟨[0],⟨[.sl 59],[]⟩,[2],[],[],0,[0],⟨[.sl 59],[]⟩,[]⟩)],[],[]⟩) (exS:=⟨[.sl 59],[]⟩) Tryz.f202 (memC Ll zx) (by kernel_rfl) (by kernel_rfl) fun x=>by kernel_rfl
theorem jW:zm Tryz.prog (gL Js):=
 okC (A:=⟨[JM Gl,kM Ol,Mj ZA,Zk strings_HasPrefix,Hq ZH,Iq ZU,dE Hl,yE og,Az QE],[],[],0,[],[(7,⟨[0],⟨[.sl 59],[(0, .cells 24 [.str, .nilv, .bool]),(1, .cells 24 [.str, .nilv, .bool])]⟩,[2,4],[],[0,1],0,[],⟨[],[]⟩,[]⟩),(16,⟨[0],⟨[.sl 59],[(0, .cells 24 [.str, .nilv, .bool]),(1, .cells 24 [.str, .nilv, .bool])]⟩,[],[],[0,1],0,[],⟨[],[]⟩,[]⟩)],[]⟩) (exS:=⟨[.optr 0, .bool],[(0, .row 24)]⟩) Tryz.f174 (memC lX (memC yY (memC Ll (memC Zr (memC pu (memC su (memC yM (memC wM (memC WF zx))))))))) (by kernel_rfl) (by kernel_rfl) fun x=>by kernel_rfl
theorem kW:zm Tryz.prog (iL Ls):=
 okC (A:=⟨[aj ZF,gL Js],[],[],0,[],[],[]⟩) (exS:=⟨[.optr 0, .bool, .int .i64],[(0, .row 24)]⟩) Tryz.f132 (memC ol (memC jW zx)) (by kernel_rfl) (by kernel_rfl) fun x=>by kernel_rfl
theorem N8(zw:zk->Option ((zh×Bool)×zk))(h_cond_reader_told:zm Tryz.prog (qN zw)):zm Tryz.prog (AQ (qR zw)):=
 okC (A:=⟨[qL zH,qM zI,iL Ls,qN zw],[],[],1,[],[],[]⟩) (exS:=⟨[.optr 1, .bool],[(0, .row 85),(1, .row 27)]⟩) Tryz.f87 (memC Qp (memC Qq (memC kW (memC h_cond_reader_told zx)))) (by kernel_rfl) (by kernel_rfl) fun x=>by kernel_rfl
theorem H8(zw:zk->Option ((zh×Bool)×zk))(hs:zm Tryz.prog (qN zw)):zm Tryz.prog (qN (QK zw)):=
 okC (A:=⟨[qX zy,XA Zn,AQ (qR zw)],[(2,[1]),(6,[1]),(15,[5]),(23,[3])],[],1,[(14,⟨[9],⟨[.bool],[(0, .row 85),(1, .cells 27 [.int .u8, .str, .int .i64, .str, .nilv, .bool, .nilv]),(5, .cells 27 [.int .u8, .str, .int .i64, .str, .nilv, .bool, .own 2673]),(2673, .sl 27)]⟩,[0,2,10],[],[0,1,5],0,[],⟨[],[(0, .row 85),(1, .cells 27 [.int .u8, .str, .int .i64, .str, .nilv, .bool, .nilv]),(5, .cells 27 [.int .u8, .str, .int .i64, .str, .nilv, .bool, .own 2673]),(2673, .sl 27)]⟩,[0,1,5,2673]⟩)],[],[]⟩) (exS:=⟨[.optr 1, .bool],[(0, .row 85),(1, .row 27)]⟩) Tryz.f51 (memC QS (memC EH (memC (N8 zw hs) zx))) (by kernel_rfl) (by kernel_rfl) fun x=>by kernel_rfl
theorem M8:zm Tryz.prog (qN zw):=
 zm.recE (I:=I) (P:=Tryz.prog) (f:=51) (inS:=⟨[.optr 0],[(0, .row 85)]⟩) (cst:=[]) (outS:=⟨[.val 27, .bool],[(0, .row 85)]⟩) (k:=0) (QK) (by kernel_rfl) (fun S h=>H8 S h)
theorem K7:zm Tryz.prog (nP uu):=
 okC (A:=⟨[aj ZF,qN zw,WA Ze],[],[],0,[],[],[]⟩) (exS:=⟨[.optr 0, .int .i64],[(0, .row 27)]⟩) Tryz.f23 (memC ol (memC M8 (memC OH zx))) (by kernel_rfl) (by kernel_rfl) fun x=>by kernel_rfl
theorem A8:zm Tryz.prog (gP oz):=
 okC (A:=⟨[],[],[],3,[],[],[]⟩) (exS:=⟨[.bool],[(0, .row 3)]⟩) Tryz.f38 zx (by kernel_rfl) (by kernel_rfl) fun x=>by kernel_rfl
theorem X5(Zz:(zh×Int)×Int×List Bool->Option (Bool×Int))(hs:zm Tryz.prog (Mv Zz)):zm Tryz.prog (Mv (Gv Zz)):=
 okC (A:=⟨[gP oz,Mv Zz],[],[],3,[(14,⟨[7,8,45],⟨[.bool, .bool, .int .i64],[(0, .row 3)]⟩,[1,2,3,6,43,44],[3],[0],1,[7,8],⟨[.bool, .bool],[(0, .row 3)]⟩,[0]⟩)],[],[]⟩) (exS:=⟨[.bool],[(0, .row 3)]⟩) Tryz.f37 (memC A8 (memC hs zx)) (by kernel_rfl) (by kernel_rfl) fun x=>by kernel_rfl
theorem R6:zm Tryz.prog (Mv Zz):=
 zm.recE (I:=I) (P:=Tryz.prog) (f:=37) (inS:=⟨[.val 27, .int .i64, .clo 38 [0,1]],[(0, .row 3),(1, .cells 30 [.own 2]),(2, .sl 4)]⟩) (cst:=[1,2]) (outS:=⟨[.bool],[(0, .row 3)]⟩) (k:=0) (Gv) (by kernel_rfl) (fun S h=>X5 S h)
theorem Y4:zm Tryz.prog (mO Pp):=
 okC (A:=⟨[Bz ah,Dm Zw,Mv Zz],[],[],1,[],[],[]⟩) (exS:=⟨[.bool, .int .i64],[]⟩) Tryz.f12 (memC YF (memC XF (memC R6 zx))) (by kernel_rfl) (by kernel_rfl) fun x=>by kernel_rfl
theorem G8:zm Tryz.prog (sP Fv):=
 okC (A:=⟨[bG jl,nP uu,iE Jl,sF dh,mO Pp],[],[],0,[(9,⟨[18],⟨[.int .i64],[(1, .sl 4)]⟩,[2,3,8,9,15,16,17],[0],[1],0,[],⟨[],[(1, .sl 4)]⟩,[1]⟩)],[],[]⟩) (exS:=⟨[.bool],[]⟩) Tryz.f22 (memC VP (memC K7 (memC DN (memC WN (memC Y4 zx))))) (by kernel_rfl) (by kernel_rfl) fun x=>by kernel_rfl
theorem gZ:zm Tryz.prog (MO Ul):=
 okC (A:=⟨[KO Ku,sP Fv],[],[],0,[],[],[]⟩) (exS:=⟨[.bool],[]⟩) Tryz.f26 (memC X4 (memC G8 zx)) (by kernel_rfl) (by kernel_rfl) fun x=>by kernel_rfl
theorem l7:zm Tryz.prog (yP KA):=
 okC (A:=⟨[uN Bu,gQ Qu,MO Ul,sF dh,IG Sj,rF Yi,WM mo],[(15,[2])],[],0,[(8,⟨[5,6],⟨[.own 2674, .int .i64],[(2674, .sl 24)]⟩,[1,3],[0],[],0,[5],⟨[.own 2674],[(2674, .sl 24)]⟩,[2674]⟩),(17,⟨[9],⟨[.int .i64],[]⟩,[5],[],[],2,[],⟨[],[]⟩,[]⟩)],[(16,⟨[5],⟨[.sl 24],[]⟩,[1,3],[0],[],0,[],⟨[],[]⟩,[]⟩)],[]⟩) (exS:=⟨[.bool],[]⟩) Tryz.f8 (memC X3 (memC l9 (memC gZ (memC WN (memC uO (memC VN (memC KZ zx))))))) (by kernel_rfl) (by kernel_rfl) fun x=>by kernel_rfl
end Go.Lv.VT
