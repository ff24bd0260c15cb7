/- Contracts. -/
import Derived.Test.YtjjdimihokbknaaGreatDoorCoa
set_option linter.unusedSimpArgs false
set_option linter.unusedVariables false
namespace Go.Lv.VT
set_option maxRecDepth 100000
open Go.Proofs
theorem zAF(Ai:zo->Option Bool)(hs:zh Tryz.prog (xz Ai)):zh Tryz.prog (xz (gp Ai)):=
 okC Tryz.f49 (memC KN (memC hs zu)) (fz:=[(1,[2])]) (cuts:=[(4,⟨[3],⟨[.int .i64],[]⟩,[1],[0],[],0,[],⟨[],[]⟩,[]⟩)])
theorem mV:zh Tryz.prog (xz Ai):=recC (xz Ai) (gp) (fun S h=>zAF S h)
theorem RY:zh Tryz.prog (vV Ez):=
 okC Tryz.f33 (memC kM (memC mV zu))
theorem Y7(qw:List zK×Int->Option Bool)(hs:zh Tryz.prog (vB qw)):zh Tryz.prog (vB (Gq qw)):=
 okC Tryz.f18 (memC O0 (memC KN (memC RY (memC hs zu)))) (cuts:=[(4,⟨[5],⟨[.int .i64],[]⟩,[0,1],[],[],0,[],⟨[],[]⟩,[]⟩),(10,⟨[7],⟨[.int .i64],[]⟩,[5,6],[0],[],2,[],⟨[],[]⟩,[]⟩)])
theorem K9:zh Tryz.prog (vB qw):=recC (vB qw) (Gq) (fun S h=>Y7 S h)
theorem M3(Qm:List zK->Option Int)(hs:zh Tryz.prog (RB Qm)):zh Tryz.prog (RB (YB Qm)):=
 okC Tryz.f19 (memC hs zu) (cuts:=[(3,⟨[3,4],⟨[.int .i64, .int .i64],[]⟩,[0,2],[],[],0,[3],⟨[.int .i64],[]⟩,[]⟩)])
theorem lN:zh Tryz.prog (RB Qm):=recC (RB Qm) (YB) (fun S h=>M3 S h)
theorem iN:zh Tryz.prog (rV Uk):=
 okC Tryz.f6 (memC K9 (memC lN zu))
theorem KY:zh Tryz.prog (CX Az):=
 okC Tryz.f16 (memC iN zu) (cuts:=[(4,⟨[3],⟨[.int .i64],[]⟩,[1],[0],[],0,[],⟨[],[]⟩,[]⟩)])
theorem gV:zh Tryz.prog (zBr UF):=
 okC Tryz.f30 zu
theorem FN:zh Tryz.prog (wV Gu):=
 okC Tryz.f112 zu (cuts:=[(2,⟨[5],⟨[.int .i64],[]⟩,[0,1],[],[],0,[],⟨[],[]⟩,[]⟩)])
theorem JH:zh Tryz.prog (DW ul):=
 okC Tryz.f78 (memC FN zu)
theorem vG:zh Tryz.prog (aW Dm):=
 okC Tryz.f150 zu
theorem EB:zh Tryz.prog (bX Qy):=
 okC Tryz.f103 (memC vG zu) (cuts:=[(3,⟨[4],⟨[.int .i64],[(0, .sl 5)]⟩,[2,3],[],[0],0,[],⟨[],[(0, .sl 5)]⟩,[0]⟩)])
theorem GN:zh Tryz.prog (yV Hu):=
 okC Tryz.f195 (memC JH (memC EB zu))
theorem nN:zh Tryz.prog (JZ Np):=
 okC Tryz.f171 zu (exS:=⟨[.optr 0],[(0, .row 211)]⟩)
theorem Y0:zh Tryz.prog (JW Jz):=
 okC Tryz.f230 zu
theorem TY:zh Tryz.prog (xV Fz):=
 okC Tryz.f263 zu (exS:=⟨[.optr 0, .bool],[(0, .row 155)]⟩)
theorem P6(Zl:zf×zV×Bool->Option Bool)(h_ref08_whole:zh Tryz.prog (Hm Zl)):zh Tryz.prog (IZ (Lp Zl)):=
 okC Tryz.f231 (memC TY (memC h_ref08_whole zu)) (cuts:=[(5,⟨[9],⟨[.int .i64],[]⟩,[0,2,7],[1],[],0,[],⟨[],[]⟩,[]⟩)])
theorem O6(Zl:zf×zV×Bool->Option Bool)(h_ref08_whole:zh Tryz.prog (Hm Zl)):zh Tryz.prog (HZ (Ku Zl)):=
 okC Tryz.f196 (memC nN (memC JH (memC GN (memC FN (memC Y0 (memC (P6 Zl h_ref08_whole) zu)))))) (joins:=[(5,⟨[11],⟨[.bool],[]⟩,[2,3,5,10],[0,1,2],[],0,[],⟨[],[]⟩,[]⟩),(14,⟨[84],⟨[.bool],[]⟩,[],[],[],0,[],⟨[],[]⟩,[]⟩),(17,⟨[101],⟨[.bool],[]⟩,[],[],[],0,[],⟨[],[]⟩,[]⟩),(24,⟨[138],⟨[.bool],[]⟩,[],[],[],0,[],⟨[],[]⟩,[]⟩),(27,⟨[154],⟨[.bool],[]⟩,[],[],[],0,[],⟨[],[]⟩,[]⟩)])
theorem zqi(Zl:zf×zV×Bool->Option Bool)(h_ref08_whole:zh Tryz.prog (Hm Zl)):zh Tryz.prog (X8 (eu Zl)):=
 okC Tryz.f149 (memC GN (memC (O6 Zl h_ref08_whole) zu)) (cuts:=[(4,⟨[5],⟨[.int .i64],[]⟩,[2,3],[0,1],[],0,[],⟨[],[]⟩,[]⟩)])
theorem bY(Zl:zf×zV×Bool->Option Bool)(hs:zh Tryz.prog (Hm Zl)):zh Tryz.prog (Hm (XA Zl)):=
 okC Tryz.f102 (memC (zqi Zl hs) zu) (cuts:=[(4,⟨[7],⟨[.int .i64],[]⟩,[3,4],[0,1],[],0,[],⟨[],[]⟩,[]⟩)])
theorem SY:zh Tryz.prog (Hm Zl):=recC (Hm Zl) (XA) (fun S h=>bY S h)
theorem pV:zh Tryz.prog (zBo Jy):=
 okC Tryz.f70 (memC SY zu) (cuts:=[(2,⟨[3],⟨[.int .i64],[]⟩,[0],[],[],0,[],⟨[],[]⟩,[]⟩)])
theorem O3(QR:List zf->Option Int)(hs:zh Tryz.prog (SB QR)):zh Tryz.prog (SB (aB QR)):=
 okC Tryz.f71 (memC hs zu) (cuts:=[(3,⟨[3,4],⟨[.int .i64, .int .i64],[]⟩,[0,2],[],[],0,[3],⟨[.int .i64],[]⟩,[]⟩),(6,⟨[3,5],⟨[.int .i64, .int .i64],[]⟩,[4],[],[],2,[3],⟨[.int .i64],[]⟩,[]⟩),(10,⟨[3,7],⟨[.int .i64, .int .i64],[]⟩,[5,6],[],[],4,[3],⟨[.int .i64],[]⟩,[]⟩)])
theorem R6:zh Tryz.prog (SB QR):=recC (SB QR) (aB) (fun S h=>O3 S h)
theorem X0:zh Tryz.prog (IW Iz):=
 okC Tryz.f50 (memC pV (memC R6 zu))
theorem zAy(Pi:List ze×List ze->Option Bool)(hs:zh Tryz.prog (IA Pi)):zh Tryz.prog (IA (Lu Pi)):=
 okC Tryz.f138 (memC hs zu) (cuts:=[(4,⟨[5],⟨[.int .i64],[]⟩,[0,1],[],[],0,[],⟨[],[]⟩,[]⟩)])
theorem KV:zh Tryz.prog (IA Pi):=recC (IA Pi) (Lu) (fun S h=>zAy S h)
theorem JN:zh Tryz.prog (KW Vk):=
 okC Tryz.f93 (memC KV zu)
theorem zAD(QJ:zo×zo->Option Bool)(hs:zh Tryz.prog (AA QJ)):zh Tryz.prog (AA (Ju QJ)):=
 okC Tryz.f64 (memC JN (memC hs zu)) (cuts:=[(4,⟨[5],⟨[.int .i64],[]⟩,[2,3],[0,1],[],0,[],⟨[],[]⟩,[]⟩)])
theorem lM:zh Tryz.prog (AA QJ):=recC (AA QJ) (Ju) (fun S h=>zAD S h)
theorem jV:zh Tryz.prog (zBp mo):=
 okC Tryz.f51 (memC lM zu)
theorem I1:zh Tryz.prog (LW Kz):=
 okC Tryz.f72 (memC EB zu) (cuts:=[(4,⟨[3],⟨[.int .i64],[]⟩,[0],[],[],0,[],⟨[],[]⟩,[]⟩)])
theorem U3(Ql:List ze->Option (List zk))(hs:zh Tryz.prog (UB Ql)):zh Tryz.prog (UB (BB Ql)):=
 okC Tryz.f106 (memC LH (memC hs zu)) (fz:=[(5,[6]),(9,[3])]) (cuts:=[(3,⟨[3,4],⟨[.own 1858, .int .i64],[(1858, .sl 129)]⟩,[0,2],[],[],0,[3],⟨[.own 1858],[(1858, .sl 129)]⟩,[1858]⟩)]) (joins:=[(4,⟨[3,4],⟨[.own 1960, .int .i64],[(1960, .sl 129)]⟩,[],[],[],0,[],⟨[],[]⟩,[]⟩)])
theorem oN:zh Tryz.prog (UB Ql):=recC (UB Ql) (BB) (fun S h=>U3 S h)
theorem R3(QQ:List ze×Int->Option Bool)(hs:zh Tryz.prog (TB QQ)):zh Tryz.prog (TB (AB QQ)):=
 okC Tryz.f151 (memC LH (memC hs zu)) (cuts:=[(2,⟨[5],⟨[.int .i64],[]⟩,[0,1],[],[],0,[],⟨[],[]⟩,[]⟩)])
theorem X6:zh Tryz.prog (TB QQ):=recC (TB QQ) (AB) (fun S h=>R3 S h)
theorem U1:zh Tryz.prog (OW Nz):=
 okC Tryz.f104 (memC dA (memC oN (memC X6 zu)))
theorem Y1:zh Tryz.prog (PW Am):=
 okC Tryz.f197 zu (cuts:=[(2,⟨[3],⟨[.int .i64],[]⟩,[0],[],[],0,[],⟨[],[]⟩,[]⟩)])
theorem Q3:zh Tryz.prog (YW ZQ):=
 okC Tryz.f232 zu
theorem MV:zh Tryz.prog (zBl Ny):=
 okC Tryz.f198 (memC Q3 zu)
theorem CB:zh Tryz.prog (WW Tj):=
 okC Tryz.f264 zu
theorem Q0:zh Tryz.prog (zFe Zt):=
 okC Tryz.f301 zu
theorem MH:zh Tryz.prog (NZ Gm):=
 okC Tryz.f265 (memC Q0 (memC CB zu)) (cuts:=[(1,⟨[1],⟨[.int .i64],[]⟩,[0,4],[],[],0,[1],⟨[.int .i64],[]⟩,[]⟩)])
theorem nM:zh Tryz.prog (zBi Py):=
 okC Tryz.f320 zu (fz:=[(1,[0])])
theorem zCu:zh Tryz.prog (zDk il):=
 okC Tryz.f321 (memC Q3 (memC vG zu))
theorem RV:zh Tryz.prog (zBh VF):=
 okC Tryz.f322 (memC nM zu) (fz:=[(4,[2]),(6,[8]),(8,[13]),(9,[18])])
theorem FC:zh Tryz.prog (U7 Im):=
 okC Tryz.f302 (memC nM (memC zCu (memC Q0 (memC CB (memC RV zu))))) (cuts:=[(7,⟨[6,7],⟨[.int .i64, .int .i64],[]⟩,[0,1,4,5],[],[],0,[6,7],⟨[.int .i64, .int .i64],[]⟩,[]⟩)]) (joins:=[(12,⟨[7],⟨[.int .i64],[]⟩,[6],[],[],0,[],⟨[],[]⟩,[]⟩)])
theorem Y6:zh Tryz.prog (OZ kz):=
 okC Tryz.f266 (memC FC zu) (cuts:=[(4,⟨[1],⟨[.int .i64],[(0, .row 129),(1, .row 129)]⟩,[0,4,6,7],[],[0,1],0,[1],⟨[.int .i64],[(0, .row 129),(1, .row 129)]⟩,[0,1]⟩)]) (exS:=⟨[.optr 0, .int .i64],[(0, .row 129)]⟩)
theorem sN:zh Tryz.prog (RZ nz):=
 okC Tryz.f303 (memC vG zu)
theorem uN:zh Tryz.prog (UZ Nu):=
 okC Tryz.f267 (memC sN (memC Q3 zu))
theorem cu:zh Tryz.prog (VZ qQ):=
 okC Tryz.f268 (memC Q0 zu)
theorem uG:zh Tryz.prog (XW Cm):=
 okC Tryz.f269 (memC uN (memC cu (memC FC zu))) (cuts:=[(2,⟨[1,6],⟨[.int .i64, .str],[]⟩,[0],[],[],0,[],⟨[],[]⟩,[]⟩)])
theorem tN:zh Tryz.prog (TZ QP):=
 okC Tryz.f270 (memC Q0 (memC sN (memC cu zu)))
theorem zqh:zh Tryz.prog (Y8 sG):=
 okC Tryz.f271 (memC Q0 (memC Q3 zu)) (joins:=[(4,⟨[1],⟨[.int .i64],[]⟩,[0],[],[],0,[],⟨[],[]⟩,[]⟩),(6,⟨[1],⟨[.int .i64],[]⟩,[],[],[],0,[],⟨[],[]⟩,[]⟩)])
theorem l6:zh Tryz.prog (PZ Tp):=
 okC Tryz.f323 (memC Q0 (memC Q3 zu)) (cuts:=[(1,⟨[1],⟨[.int .i64],[]⟩,[0,4],[],[],0,[1],⟨[.int .i64],[]⟩,[]⟩)])
theorem zoZ:zh Tryz.prog (zpR eB):=
 okC Tryz.f304 (memC Q0 (memC l6 (memC Q3 zu))) (joins:=[(4,⟨[1],⟨[.int .i64],[]⟩,[0],[],[],0,[],⟨[],[]⟩,[]⟩),(9,⟨[1,7],⟨[.int .i64, .bool],[]⟩,[],[],[],0,[],⟨[],[]⟩,[]⟩),(15,⟨[1,7,9],⟨[.int .i64, .bool, .int .i64],[]⟩,[],[],[],0,[],⟨[],[]⟩,[]⟩),(18,⟨[1,7],⟨[.int .i64, .bool],[]⟩,[],[],[],0,[],⟨[],[]⟩,[]⟩)])
theorem zmC:zh Tryz.prog (zns jC):=
 okC Tryz.f305 (memC Q0 (memC Q3 zu)) (cuts:=[(5,⟨[3,5],⟨[.str, .int .i64],[]⟩,[4],[],[],0,[3,5],⟨[.str, .int .i64],[]⟩,[]⟩),(10,⟨[3,4,5],⟨[.str, .int .i64, .int .i64],[]⟩,[],[],[],2,[3,4,5],⟨[.str, .int .i64, .int .i64],[]⟩,[]⟩),(20,⟨[5,8],⟨[.int .i64, .int .i64],[]⟩,[4],[],[],4,[8],⟨[.int .i64],[]⟩,[]⟩),(28,⟨[9,10],⟨[.int .i64, .int .i64],[]⟩,[4],[],[],6,[9],⟨[.int .i64],[]⟩,[]⟩),(31,⟨[4,9],⟨[.int .i64, .int .i64],[]⟩,[],[],[],8,[9],⟨[.int .i64],[]⟩,[]⟩)]) (joins:=[(5,⟨[3,4,5],⟨[.str, .int .i64, .int .i64],[]⟩,[0,6],[],[],0,[],⟨[],[]⟩,[]⟩),(14,⟨[3,4,5],⟨[.str, .int .i64, .int .i64],[]⟩,[],[],[],0,[],⟨[],[]⟩,[]⟩),(19,⟨[4,5],⟨[.int .i64, .int .i64],[]⟩,[3,7],[],[],0,[],⟨[],[]⟩,[]⟩),(25,⟨[4,8],⟨[.int .i64, .int .i64],[]⟩,[],[],[],0,[],⟨[],[]⟩,[]⟩),(26,⟨[4],⟨[.int .i64],[]⟩,[3],[],[],0,[],⟨[],[]⟩,[]⟩)])
theorem N9:zh Tryz.prog (R7 aA):=
 okC Tryz.f272 (memC zoZ (memC zmC (memC tN (memC uG (memC Q0 zu))))) (joins:=[(9,⟨[6],⟨[.int .i64],[(0, .row 129),(1, .row 129)]⟩,[4,8],[],[0,1],0,[],⟨[],[]⟩,[]⟩)]) (exS:=⟨[.optr 0, .int .i64],[(0, .row 129)]⟩)
theorem zCx:zh Tryz.prog (zDn Et):=
 okC Tryz.f273 zu
theorem NN:zh Tryz.prog (dX Uj):=
 okC Tryz.f153 (memC EB zu)
theorem zCw:zh Tryz.prog (zDm Gt):=
 okC Tryz.f324 (memC cu (memC FC zu)) (cuts:=[(1,⟨[1],⟨[.int .i64],[]⟩,[0,4,5],[0],[],0,[1],⟨[.int .i64],[]⟩,[]⟩)]) (exS:=⟨[.optr 0, .int .i64],[(0, .row 129)]⟩)
theorem zmD:zh Tryz.prog (znt jH):=
 okC Tryz.f325 zu
theorem zCy:zh Tryz.prog (zDo Fx):=
 okC Tryz.f306 (memC MH (memC CB (memC zCw (memC zmD (memC cu (memC FC zu)))))) (cuts:=[(3,⟨[1],⟨[.int .i64],[(0, .row 129),(1, .row 129)]⟩,[0,4,6],[],[0,1],0,[1],⟨[.int .i64],[(0, .row 129),(1, .row 129)]⟩,[0,1]⟩)]) (exS:=⟨[.optr 0, .int .i64],[(0, .row 129)]⟩)
theorem NV:zh Tryz.prog (zBk Oy):=
 okC Tryz.f274 (memC uG (memC Q0 (memC NN (memC MH (memC zCy zu))))) (joins:=[(8,⟨[],⟨[],[(0, .row 129)]⟩,[4,6,7],[],[0],0,[],⟨[],[]⟩,[]⟩)]) (exS:=⟨[.optr 0, .int .i64],[(0, .row 129)]⟩)
theorem OV:zh Tryz.prog (zBj Yt):=
 okC Tryz.f275 zu
theorem zCv:zh Tryz.prog (zDl Gx):=
 okC Tryz.f233 (memC CB (memC MH (memC Y6 (memC uN (memC cu (memC uG (memC tN (memC zqh (memC N9 (memC zCx (memC NV (memC OV zu)))))))))))) (exS:=⟨[.optr 0, .int .i64],[(0, .row 129)]⟩)
theorem J2:zh Tryz.prog (UW Q5):=
 okC Tryz.f199 (memC zCv zu) (fz:=[(1,[1])])
theorem LV:zh Tryz.prog (zBm Ky):=
 okC Tryz.f152 (memC Y1 (memC MV (memC J2 zu))) (joins:=[(6,⟨[8],⟨[.bool],[(1, .row 129)]⟩,[1,3,7],[0],[1],0,[],⟨[],[]⟩,[]⟩),(13,⟨[56],⟨[.bool],[(1, .row 129)]⟩,[],[],[1],0,[],⟨[],[]⟩,[]⟩),(21,⟨[90],⟨[.bool],[(1, .row 129)]⟩,[],[],[1],0,[],⟨[],[]⟩,[]⟩),(26,⟨[148],⟨[.bool],[]⟩,[],[1],[],0,[],⟨[],[]⟩,[]⟩)])
theorem U2:zh Tryz.prog (VW Jp):=
 okC Tryz.f105 (memC LV (memC NN zu)) (cuts:=[(4,⟨[3],⟨[.int .i64],[]⟩,[0],[],[],0,[],⟨[],[]⟩,[]⟩)]) (joins:=[(12,⟨[4],⟨[.int .i64],[]⟩,[3],[],[],0,[],⟨[],[]⟩,[]⟩),(14,⟨[],⟨[],[]⟩,[3],[],[],0,[],⟨[],[]⟩,[]⟩)])
theorem Y9(Qi:List ze->Option Bool)(hs:zh Tryz.prog (wB Qi)):zh Tryz.prog (wB (dB Qi)):=
 okC Tryz.f107 (memC hs zu) (cuts:=[(2,⟨[3],⟨[.int .i64],[]⟩,[0],[],[],0,[],⟨[],[]⟩,[]⟩)])
theorem L9:zh Tryz.prog (wB Qi):=recC (wB Qi) (dB) (fun S h=>Y9 S h)
theorem M9:zh Tryz.prog (P7 YA):=
 okC Tryz.f108 zu (cuts:=[(1,⟨[0],⟨[.sl 131],[]⟩,[2],[],[],0,[0],⟨[.sl 131],[]⟩,[]⟩),(3,⟨[0],⟨[.sl 131],[]⟩,[2],[],[],2,[0],⟨[.sl 131],[]⟩,[]⟩)])
theorem V6:zh Tryz.prog (LZ dz):=
 okC Tryz.f109 zu
theorem U6:zh Tryz.prog (KZ cz):=
 okC Tryz.f73 (memC U1 (memC oN (memC U2 (memC L9 (memC M9 (memC V6 zu)))))) (cuts:=[(6,⟨[5],⟨[.int .i64],[]⟩,[1],[],[],0,[],⟨[],[]⟩,[]⟩)])
theorem MN:zh Tryz.prog (NW yl):=
 okC Tryz.f52 (memC I1 (memC U6 zu))
theorem EN:zh Tryz.prog (uV Ep):=
 okC Tryz.f110 zu
theorem gB:zh Tryz.prog (FZ QS):=
 okC Tryz.f74 (memC EN zu)
theorem L6:zh Tryz.prog (EZ Iu):=
 okC Tryz.f154 (memC EB zu) (cuts:=[(4,⟨[3],⟨[.int .i64],[]⟩,[0],[],[],0,[],⟨[],[]⟩,[]⟩)])
theorem zDU:zh Tryz.prog (zFf Es):=
 okC Tryz.f155 zu
theorem zCz:zh Tryz.prog (zDp Dt):=
 okC Tryz.f111 (memC gB (memC EN (memC L6 (memC zDU zu)))) (cuts:=[(4,⟨[4],⟨[.int .i64],[]⟩,[1],[0],[],0,[],⟨[],[]⟩,[]⟩)]) (joins:=[(5,⟨[4],⟨[.int .i64],[]⟩,[],[],[],0,[],⟨[],[]⟩,[]⟩)])
theorem PY:zh Tryz.prog (tV Fu):=
 okC Tryz.f75 (memC gB (memC zCz zu))
theorem M6:zh Tryz.prog (GZ Yz):=
 okC Tryz.f53 (memC gB (memC PY zu)) (cuts:=[(8,⟨[3],⟨[.int .i64],[]⟩,[1],[0],[],0,[],⟨[],[]⟩,[]⟩)])
theorem zAC(Oi:zo->Option Int)(hs:zh Tryz.prog (BA Oi)):zh Tryz.prog (BA (az Oi)):=
 okC Tryz.f76 (memC dA (memC hs zu)) (cuts:=[(7,⟨[3,4],⟨[.int .i64, .int .i64],[]⟩,[1,2],[0],[],0,[3],⟨[.int .i64],[]⟩,[]⟩)]) (joins:=[(13,⟨[3,6],⟨[.int .i64, .int .i64],[]⟩,[4],[],[],0,[],⟨[],[]⟩,[]⟩)])
theorem mM:zh Tryz.prog (BA Oi):=recC (BA Oi) (az) (fun S h=>zAC S h)
theorem zpw(Z9:zo->Option Bool)(hs:zh Tryz.prog (VC Z9)):zh Tryz.prog (VC (aC Z9)):=
 okC Tryz.f77 (memC MN (memC gB (memC hs zu))) (cuts:=[(13,⟨[3],⟨[.int .i64],[]⟩,[],[],[],1,[],⟨[],[]⟩,[]⟩)]) (joins:=[(10,⟨[55],⟨[.bool],[]⟩,[1],[0],[],0,[],⟨[],[]⟩,[]⟩)])
theorem zo4:zh Tryz.prog (VC Z9):=recC (VC Z9) (aC) (fun S h=>zpw S h)
theorem znO:zh Tryz.prog (zog DC):=
 okC Tryz.f54 (memC kM (memC mM (memC zo4 zu)))
theorem K6:zh Tryz.prog (DZ Yp):=
 okC Tryz.f55 (memC JH zu) (cuts:=[(4,⟨[3],⟨[.int .i64],[]⟩,[0],[],[],0,[],⟨[],[]⟩,[]⟩)])
theorem K3(QT:zK->Option Bool)(hs:zh Tryz.prog (OB QT)):zh Tryz.prog (OB (XB QT)):=
 okC Tryz.f34 (memC X0 (memC jV (memC MN (memC M6 (memC znO (memC K6 (memC hs zu))))))) (cuts:=[(8,⟨[4],⟨[.int .i64],[]⟩,[1],[],[],1,[],⟨[],[]⟩,[]⟩),(26,⟨[5],⟨[.int .i64],[]⟩,[],[],[],3,[],⟨[],[]⟩,[]⟩),(31,⟨[6],⟨[.int .i64],[]⟩,[],[],[],5,[],⟨[],[]⟩,[]⟩)]) (joins:=[(25,⟨[],⟨[],[]⟩,[1],[0],[],0,[],⟨[],[]⟩,[]⟩)])
theorem J6:zh Tryz.prog (OB QT):=recC (OB QT) (XB) (fun S h=>K3 S h)
theorem U0:zh Tryz.prog (FW sF):=
 okC Tryz.f79 zu
theorem zqD(qK:List zf->Option Int)(hs:zh Tryz.prog (MC qK)):zh Tryz.prog (MC (BC qK)):=
 okC Tryz.f56 (memC U0 (memC hs zu)) (cuts:=[(3,⟨[3,4],⟨[.int .i64, .int .i64],[]⟩,[0,2],[],[],0,[3],⟨[.int .i64],[]⟩,[]⟩),(6,⟨[3,5],⟨[.int .i64, .int .i64],[]⟩,[4],[],[],2,[3],⟨[.int .i64],[]⟩,[]⟩),(10,⟨[3,7],⟨[.int .i64, .int .i64],[]⟩,[5,6],[],[],4,[3],⟨[.int .i64],[]⟩,[]⟩)]) (joins:=[(11,⟨[3,7],⟨[.int .i64, .int .i64],[]⟩,[],[],[],0,[],⟨[],[]⟩,[]⟩)])
theorem zqj:zh Tryz.prog (MC qK):=recC (MC qK) (BC) (fun S h=>zqD S h)
theorem zmF:zh Tryz.prog (znv YC):=
 okC Tryz.f57 (memC mM zu) (cuts:=[(5,⟨[3,4],⟨[.int .i64, .int .i64],[]⟩,[1,2],[0],[],0,[3],⟨[.int .i64],[]⟩,[]⟩),(11,⟨[3,6],⟨[.int .i64, .int .i64],[]⟩,[],[1],[],2,[3],⟨[.int .i64],[]⟩,[]⟩)]) (joins:=[(10,⟨[3],⟨[.int .i64],[(1, .row 71)]⟩,[4,5],[],[1],0,[],⟨[],[]⟩,[]⟩),(12,⟨[3,6],⟨[.int .i64, .int .i64],[]⟩,[],[],[],0,[],⟨[],[]⟩,[]⟩)])
theorem zAG(Kj:List zK->Option Int)(hs:zh Tryz.prog (wz Kj)):zh Tryz.prog (wz (Xz Kj)):=
 okC Tryz.f35 (memC hs (memC dA (memC zqj (memC zmF zu)))) (cuts:=[(3,⟨[3,4],⟨[.int .i64, .int .i64],[]⟩,[0,2],[],[],0,[3],⟨[.int .i64],[]⟩,[]⟩),(8,⟨[5,6],⟨[.int .i64, .int .i64],[]⟩,[3,4],[],[],2,[5],⟨[.int .i64],[]⟩,[]⟩)]) (joins:=[(4,⟨[3,4],⟨[.int .i64, .int .i64],[]⟩,[],[],[],0,[],⟨[],[]⟩,[]⟩)])
theorem lV:zh Tryz.prog (wz Kj):=recC (wz Kj) (Xz) (fun S h=>zAG S h)
theorem NY:zh Tryz.prog (EX Cz):=
 okC Tryz.f20 (memC lN (memC J6 (memC lV zu))) (cuts:=[(4,⟨[3],⟨[.int .i64],[]⟩,[0],[],[],0,[],⟨[],[]⟩,[]⟩)])
theorem jN:zh Tryz.prog (sV Dp):=
 okC Tryz.f7 (memC NY zu)
theorem LY:zh Tryz.prog (DX Bz):=
 okC Tryz.f17 (memC gV (memC jN zu)) (cuts:=[(5,⟨[3,4],⟨[.int .i64, .int .i64],[]⟩,[1],[0],[],0,[],⟨[],[]⟩,[]⟩)])
theorem zCq:zh Tryz.prog (zDh Ay):=
 okC Tryz.f5 (memC KY (memC LY zu))
theorem zfT:zh Tryz.prog (zgh qN):=
 okC Tryz.f156 (memC eH zu) (cuts:=[(2,⟨[8],⟨[.int .i64],[]⟩,[0,1,7],[],[],0,[],⟨[],[]⟩,[]⟩)])
theorem zd3:zh Tryz.prog (zeK qm):=
 okC Tryz.f114 (memC zfT zu)
theorem EY:zh Tryz.prog (uW Sz):=
 okC Tryz.f82 (memC zd3 zu)
theorem N7:zh Tryz.prog (wY KA):=
 okC Tryz.f81 (memC EY zu)
theorem zg2:zh Tryz.prog (zhO NI):=
 okC Tryz.f113 (memC N7 zu) (cuts:=[(2,⟨[8],⟨[.int .i64],[]⟩,[0,1,7],[],[],0,[],⟨[],[]⟩,[]⟩)])
theorem zfb:zh Tryz.prog (zfy qH):=
 okC Tryz.f80 (memC zg2 zu)
theorem zqH(qM:List zf->Option Int)(hs:zh Tryz.prog (KC qM)):zh Tryz.prog (KC (yB qM)):=
 okC Tryz.f83 (memC hs zu) (cuts:=[(3,⟨[3,14],⟨[.int .i64, .int .i64],[]⟩,[2,12,13],[],[],0,[3],⟨[.int .i64],[]⟩,[]⟩),(6,⟨[3,21],⟨[.int .i64, .int .i64],[]⟩,[14,19,20],[],[],2,[3],⟨[.int .i64],[]⟩,[]⟩),(9,⟨[3,28],⟨[.int .i64, .int .i64],[]⟩,[21,26,27],[],[],4,[3],⟨[.int .i64],[]⟩,[]⟩)]) (joins:=[(15,⟨[3,28],⟨[.int .i64, .int .i64],[]⟩,[],[],[],0,[],⟨[],[]⟩,[]⟩)])
theorem zqq:zh Tryz.prog (KC qM):=recC (KC qM) (yB) (fun S h=>zqH S h)
theorem FB:zh Tryz.prog (nX Yk):=
 okC Tryz.f99 zu (cuts:=[(3,⟨[10],⟨[.int .i64],[(0, .sl 5)]⟩,[2,3,8,9],[],[0],0,[],⟨[],[(0, .sl 5)]⟩,[0]⟩)]) (joins:=[(7,⟨[10],⟨[.int .i64],[(0, .sl 5)]⟩,[],[],[0],0,[],⟨[],[]⟩,[]⟩)])
theorem XO:zh Tryz.prog (I8 Dq):=
 okC Tryz.f202 (memC EC (memC FB zu))
theorem znR(zC:zf×zg×Bool->Option Bool)(h_seltext_whole:zh Tryz.prog (ZJ zC)):zh Tryz.prog (zol (UH zC)):=
 okC Tryz.f237 (memC h_seltext_whole zu) (p:=2)
theorem zfc(zC:zf×zg×Bool->Option Bool)(h_seltext_whole:zh Tryz.prog (ZJ zC)):zh Tryz.prog (zfz (QI zC)):=
 okC Tryz.f158 (memC (znR zC h_seltext_whole) zu) (p:=2) (cuts:=[(2,⟨[8],⟨[.int .i64],[]⟩,[0,1,7],[],[],0,[],⟨[],[]⟩,[]⟩)])
theorem zdC(zC:zf×zg×Bool->Option Bool)(h_seltext_whole:zh Tryz.prog (ZJ zC)):zh Tryz.prog (zdT (qd zC)):=
 okC Tryz.f117 (memC (zfc zC h_seltext_whole) zu) (p:=2)
theorem zqo(zC:zf×zg×Bool->Option Bool)(h_seltext_whole:zh Tryz.prog (ZJ zC)):zh Tryz.prog (O8 (Yu zC)):=
 okC Tryz.f203 (memC aO (memC lC (memC (zdC zC h_seltext_whole) (memC EC (memC XO (memC KH (memC xL zu))))))) (joins:=[(8,⟨[],⟨[],[]⟩,[2],[0],[],0,[],⟨[],[]⟩,[]⟩),(15,⟨[89],⟨[.bool],[]⟩,[10,88],[],[],0,[],⟨[],[]⟩,[]⟩)])
theorem znQ(zC:zf×zg×Bool->Option Bool)(h_seltext_whole:zh Tryz.prog (ZJ zC)):zh Tryz.prog (zoi (AC zC)):=
 okC Tryz.f161 (memC XO (memC (zqo zC h_seltext_whole) zu)) (cuts:=[(4,⟨[30],⟨[.int .i64],[]⟩,[2,3,28,29],[0,1],[],0,[],⟨[],[]⟩,[]⟩)])
theorem zo8(zC:zf×zg×Bool->Option Bool)(h_seltext_whole:zh Tryz.prog (ZJ zC)):zh Tryz.prog (zpV (PH zC)):=
 okC Tryz.f160 (memC (znQ zC h_seltext_whole) zu) (p:=1)
theorem zfP(zC:zf×zg×Bool->Option Bool)(h_seltext_whole:zh Tryz.prog (ZJ zC)):zh Tryz.prog (zgd (Q8 zC)):=
 okC Tryz.f201 (memC (zo8 zC h_seltext_whole) zu) (p:=1) (cuts:=[(2,⟨[8],⟨[.int .i64],[]⟩,[0,1,7],[],[],0,[],⟨[],[]⟩,[]⟩)])
theorem zd1(zC:zf×zg×Bool->Option Bool)(h_seltext_whole:zh Tryz.prog (ZJ zC)):zh Tryz.prog (zeI (ql zC)):=
 okC Tryz.f159 (memC (zfP zC h_seltext_whole) zu) (p:=1)
theorem V7(zC:zf×zg×Bool->Option Bool)(hs:zh Tryz.prog (ZJ zC)):zh Tryz.prog (ZJ (bB zC)):=
 okC Tryz.f119 (memC (zd1 zC hs) zu) (cuts:=[(4,⟨[38],⟨[.int .i64],[]⟩,[3,4,36,37],[0,1],[],0,[],⟨[],[]⟩,[]⟩)])
theorem G9:zh Tryz.prog (ZJ zC):=recC (ZJ zC) (bB) (fun S h=>V7 S h)
theorem zo6:zh Tryz.prog (zpT RH):=
 okC Tryz.f118 (memC G9 zu)
theorem zgB:zh Tryz.prog (zgT II):=
 okC Tryz.f158 (memC zo6 zu) (cuts:=[(2,⟨[8],⟨[.int .i64],[]⟩,[0,1,7],[],[],0,[],⟨[],[]⟩,[]⟩)])
theorem zeP:zh Tryz.prog (ze5 qx):=
 okC Tryz.f117 (memC zgB zu)
theorem X7(Qj:List zf->Option Int)(hs:zh Tryz.prog (uB Qj)):zh Tryz.prog (uB (cB Qj)):=
 okC Tryz.f120 (memC hs zu) (cuts:=[(3,⟨[3,14],⟨[.int .i64, .int .i64],[]⟩,[2,12,13],[],[],0,[3],⟨[.int .i64],[]⟩,[]⟩),(6,⟨[3,21],⟨[.int .i64, .int .i64],[]⟩,[14,19,20],[],[],2,[3],⟨[.int .i64],[]⟩,[]⟩),(9,⟨[3,28],⟨[.int .i64, .int .i64],[]⟩,[21,26,27],[],[],4,[3],⟨[.int .i64],[]⟩,[]⟩)])
theorem H9:zh Tryz.prog (uB Qj):=recC (uB Qj) (cB) (fun S h=>X7 S h)
theorem J9:zh Tryz.prog (O7 xA):=
 okC Tryz.f84 (memC zeP (memC H9 zu))
theorem zCO(Li:List ze×Int->Option zS)(hs:zh Tryz.prog (Vz Li)):zh Tryz.prog (Vz (iy Li)):=
 okC Tryz.f122 (memC Mq (memC hs zu)) (cuts:=[(3,⟨[12],⟨[.int .i64],[(1, .row 173)]⟩,[1,4,5,10,11],[0],[1],0,[],⟨[],[(1, .row 173)]⟩,[1]⟩)]) (joins:=[(9,⟨[],⟨[],[(1, .row 173)]⟩,[7,8,12],[2],[1],0,[],⟨[],[]⟩,[]⟩),(12,⟨[12],⟨[.int .i64],[(1, .row 173)]⟩,[],[],[1],0,[],⟨[],[]⟩,[]⟩)]) (exS:=⟨[.optr 0],[(0, .row 173)]⟩)
theorem iL:zh Tryz.prog (Vz Li):=recC (Vz Li) (iy) (fun S h=>zCO S h)
theorem fM:zh Tryz.prog (zBd Pt):=
 okC Tryz.f121 (memC iL zu)
theorem eG:zh Tryz.prog (zBe Nk):=
 okC Tryz.f86 (memC fM (memC iL zu))
theorem dY(Oj:List ze×List zk->Option (List zk))(hs:zh Tryz.prog (WA Oj)):zh Tryz.prog (WA (fA Oj)):=
 okC Tryz.f162 (memC Mq (memC hs zu)) (fz:=[(4,[3]),(7,[6])]) (p:=1) (cuts:=[(2,⟨[0,10],⟨[.own 1961, .int .i64],[(1961, .sl 129)]⟩,[4,8,9],[],[],0,[0],⟨[.own 1961],[(1961, .sl 129)]⟩,[1961]⟩)]) (joins:=[(8,⟨[0,10],⟨[.own 2063, .int .i64],[(2063, .sl 129)]⟩,[],[],[],0,[],⟨[],[]⟩,[]⟩)])
theorem Y2:zh Tryz.prog (WA Oj):=recC (WA Oj) (fA) (fun S h=>dY S h)
theorem WZ:zh Tryz.prog (eX jy):=
 okC Tryz.f162 (memC Mq (memC Y2 zu)) (fz:=[(4,[3]),(7,[6])]) (cuts:=[(2,⟨[0,10],⟨[.own 2065, .int .i64],[(2065, .sl 129)]⟩,[4,8,9],[],[],0,[0],⟨[.own 2065],[(2065, .sl 129)]⟩,[2065]⟩)]) (joins:=[(8,⟨[0,10],⟨[.own 2167, .int .i64],[(2167, .sl 129)]⟩,[],[],[],0,[],⟨[],[]⟩,[]⟩)])
theorem zCr:zh Tryz.prog (zDi dx):=
 okC Tryz.f123 (memC fM (memC WZ zu))
theorem VV:zh Tryz.prog (zA8 Uy):=
 okC Tryz.f124 (memC ZO (memC ZN (memC FB zu)))
theorem aZ:zh Tryz.prog (KX ry):=
 okC Tryz.f208 (memC FB zu)
theorem SV:zh Tryz.prog (zBc Sy):=
 okC Tryz.f164 (memC vN (memC aZ zu)) (joins:=[(11,⟨[5],⟨[.int .i64],[]⟩,[3],[0],[],0,[],⟨[],[]⟩,[]⟩)])
theorem UV:zh Tryz.prog (zA9 Tt):=
 okC Tryz.f125 (memC jL (memC SV zu)) (cuts:=[(4,⟨[10],⟨[.int .i64],[]⟩,[0,8,9],[],[],0,[],⟨[],[]⟩,[]⟩)])
theorem zqe(Zi:List ze->Option Bool)(h_decl_closers:zh Tryz.prog (QY Zi)):zh Tryz.prog (p8 (ou Zi)):=
 okC Tryz.f165 (memC Mj (memC h_decl_closers zu))
theorem zh5(Zi:List ze->Option Bool)(h_decl_closers:zh Tryz.prog (QY Zi)):zh Tryz.prog (zir (PI Zi)):=
 okC Tryz.f142 (memC (zqe Zi h_decl_closers) zu) (cuts:=[(2,⟨[8],⟨[.int .i64],[]⟩,[0,1,7],[],[],0,[],⟨[],[]⟩,[]⟩)])
theorem zfN(Zi:List ze->Option Bool)(h_decl_closers:zh Tryz.prog (QY Zi)):zh Tryz.prog (zgb (Q7 Zi)):=
 okC Tryz.f127 (memC (zh5 Zi h_decl_closers) zu)
theorem X3(Zi:List ze->Option Bool)(hs:zh Tryz.prog (QY Zi)):zh Tryz.prog (QY (MB Zi)):=
 okC Tryz.f126 (memC (zfN Zi hs) zu)
theorem H7:zh Tryz.prog (QY Zi):=recC (QY Zi) (MB) (fun S h=>X3 S h)
theorem zgC:zh Tryz.prog (zgU GI):=
 okC Tryz.f142 (memC xN zu) (cuts:=[(2,⟨[8],⟨[.int .i64],[]⟩,[0,1,7],[],[],0,[],⟨[],[]⟩,[]⟩)])
theorem zeQ:zh Tryz.prog (ze6 qy):=
 okC Tryz.f127 (memC zgC zu)
theorem iM:zh Tryz.prog (zA6 Pk):=
 okC Tryz.f87 (memC zCr (memC VV (memC UV (memC H7 (memC zeQ (memC ZN (memC Mj zu)))))))
theorem aY(Sj:zo->Option Int)(hs:zh Tryz.prog (VA Sj)):zh Tryz.prog (VA (rA Sj)):=
 okC Tryz.f88 (memC hs zu) (cuts:=[(5,⟨[3,17],⟨[.int .i64, .int .i64],[]⟩,[15,16],[],[],0,[3],⟨[.int .i64],[]⟩,[]⟩)]) (joins:=[(4,⟨[3],⟨[.int .i64],[]⟩,[1],[0],[],0,[],⟨[],[]⟩,[]⟩)])
theorem HY:zh Tryz.prog (VA Sj):=recC (VA Sj) (rA) (fun S h=>aY S h)
theorem zkL:zh Tryz.prog (zk1 slices_Index_string):=
 okC Tryz.f278 zu (cuts:=[(2,⟨[8],⟨[.int .i64],[]⟩,[0,1,7],[],[],0,[],⟨[],[]⟩,[]⟩)])
theorem zh1:zh Tryz.prog (zim slices_Contains_string):=
 okC Tryz.f243 (memC zkL zu)
theorem kZ:zh Tryz.prog (YX Cu):=
 okC Tryz.f209 (memC zh1 (memC FB (memC ZO zu))) (fz:=[(1,[0])])
theorem eZ:zh Tryz.prog (RX BG):=
 okC Tryz.f244 zu (cuts:=[(2,⟨[7],⟨[.int .i64],[]⟩,[5,6],[],[],0,[],⟨[],[]⟩,[]⟩)])
theorem fZ:zh Tryz.prog (SX Au):=
 okC Tryz.f210 (memC eZ zu) (fz:=[(1,[1])])
theorem XV:zh Tryz.prog (zA5 Lt):=
 okC Tryz.f168 (memC ek (memC kZ (memC fZ zu))) (cuts:=[(4,⟨[23],⟨[.int .i64],[]⟩,[21,22],[],[],0,[],⟨[],[]⟩,[]⟩)]) (joins:=[(17,⟨[57],⟨[.bool],[]⟩,[4,23],[1],[],0,[],⟨[],[]⟩,[]⟩),(19,⟨[23],⟨[.int .i64],[]⟩,[],[],[],0,[],⟨[],[]⟩,[]⟩)])
theorem zCm:zh Tryz.prog (zC9 Vx):=
 okC Tryz.f134 (memC ek (memC XV (memC jM zu)))
theorem zmz:zh Tryz.prog (znp NC):=
 okC Tryz.f133 (memC zCm zu)
theorem ziR:zh Tryz.prog (zjb vH):=
 okC Tryz.f167 (memC zmz zu) (cuts:=[(2,⟨[8],⟨[.int .i64],[]⟩,[0,1,7],[],[],0,[],⟨[],[]⟩,[]⟩)])
theorem zgA:zh Tryz.prog (zgS qX):=
 okC Tryz.f132 (memC ziR zu)
theorem zoQ:zh Tryz.prog (zpP jB):=
 okC Tryz.f89 (memC zgA (memC ek zu))
theorem zAJ(Mi:zo->Option Int)(hs:zh Tryz.prog (uz Mi)):zh Tryz.prog (uz (Wp Mi)):=
 okC Tryz.f90 (memC eG (memC hs zu)) (cuts:=[(9,⟨[5,27],⟨[.int .i64, .int .i64],[]⟩,[2,25,26],[],[],1,[5],⟨[.int .i64],[]⟩,[]⟩)]) (joins:=[(14,⟨[5,8],⟨[.int .i64, .int .i64],[]⟩,[27],[],[],0,[],⟨[],[]⟩,[]⟩)])
theorem zAb:zh Tryz.prog (uz Mi):=recC (uz Mi) (Wp) (fun S h=>zAJ S h)
theorem zCN(Uh:zo×Int->Option ((Int×Bool)×Int))(hs:zh Tryz.prog (Wz Uh)):zh Tryz.prog (Wz (Bp Uh)):=
 okC Tryz.f136 (memC eG (memC iM (memC ek (memC hs (memC wL zu))))) (p:=1) (cuts:=[(19,⟨[9,97],⟨[.int .i64, .int .i64],[(0, .row 3)]⟩,[1,95,96],[],[0],1,[9],⟨[.int .i64],[(0, .row 3)]⟩,[0]⟩)]) (joins:=[(15,⟨[69],⟨[.bool],[]⟩,[1,2,6],[0,1],[],0,[],⟨[],[]⟩,[]⟩),(26,⟨[9,12],⟨[.int .i64, .int .i64],[]⟩,[97],[0],[],0,[],⟨[],[]⟩,[]⟩)])
theorem zCn:zh Tryz.prog (Wz Uh):=recC (Wz Uh) (Bp) (fun S h=>zCN S h)
theorem zlk:zh Tryz.prog (zmn uC):=
 okC Tryz.f91 (memC zCn zu)
theorem zAI(Ni:List zK->Option zq)(hs:zh Tryz.prog (vz Ni)):zh Tryz.prog (vz (Xp Ni)):=
 okC Tryz.f58 (memC hs (memC zfb (memC zqq (memC J9 (memC dN (memC eG (memC iM (memC HY (memC zoQ (memC zAb (memC zlk zu))))))))))) (cuts:=[(3,⟨[18],⟨[.int .i64],[(1, .row 100)]⟩,[2,3,16,17],[0],[1],0,[],⟨[],[(1, .row 100)]⟩,[1]⟩),(17,⟨[10,87],⟨[.bool, .int .i64],[(3, .row 100)]⟩,[6,7,18,85,86],[1],[3],3,[10],⟨[.bool],[(3, .row 100)]⟩,[3]⟩)]) (joins:=[(35,⟨[7,10],⟨[.int .i64, .bool],[(1, .row 100),(3, .row 100)]⟩,[6,18],[],[1,3],0,[],⟨[],[]⟩,[]⟩)]) (exS:=⟨[.optr 0],[(0, .row 100)]⟩)
theorem zAa:zh Tryz.prog (vz Ni):=recC (vz Ni) (Xp) (fun S h=>zAI S h)
theorem GY:zh Tryz.prog (wW Tz):=
 okC Tryz.f38 (memC zAa zu)
theorem gN:zh Tryz.prog (AX ol):=
 okC Tryz.f22 (memC GY zu)
theorem yX:zh Tryz.prog (pW Pz):=
 okC Tryz.f28 (memC gN zu) (cuts:=[(5,⟨[3,23],⟨[.int .i64, .int .i64],[]⟩,[1,21,22],[0],[],0,[],⟨[],[]⟩,[]⟩)])
theorem ziS:zh Tryz.prog (zjc QV):=
 okC Tryz.f36 (memC MM zu) (p:=1) (cuts:=[(2,⟨[8],⟨[.int .i64],[]⟩,[0,1,7],[],[],0,[],⟨[],[]⟩,[]⟩)])
theorem IL:zh Tryz.prog (zFg Js):=
 okC Tryz.f21 (memC yX (memC ziS zu))
theorem zlz:zh Tryz.prog (zmr gH):=
 okC Tryz.f59 zu
theorem zkH:zh Tryz.prog (zkZ sH):=
 okC Tryz.f60 zu
theorem zkQ(Zz:List zf->Option (List zf))(hs:zh Tryz.prog (QK Zz)):zh Tryz.prog (QK (QW Zz)):=
 okC Tryz.f39 (memC zlz (memC zkH (memC hs zu))) (fz:=[(16,[2]),(19,[2])]) (pre:=[(16,[(8,some 1)]),(19,[(55,none),(5,some 2)])]) (cuts:=[(3,⟨[3,12],⟨[.own 2169, .int .i64],[(2169, .sl 105)]⟩,[2,10,11],[],[],0,[3],⟨[.own 2169],[(2169, .sl 105)]⟩,[2169]⟩),(8,⟨[6,23],⟨[.own 2168, .int .i64],[(2168, .sl 109)]⟩,[3,5,12,21,22],[2169,2170,2171],[],2,[6],⟨[.own 2168],[(2168, .sl 109)]⟩,[2168]⟩),(12,⟨[34],⟨[.int .i64],[(2173, .sl 114)]⟩,[6,8,23,33],[2168,2172],[2173],4,[],⟨[],[(2173, .sl 114)]⟩,[2173]⟩)])
theorem zkN:zh Tryz.prog (QK Zz):=recC (QK Zz) (QW) (fun S h=>zkQ S h)
theorem zn4(ZC:List ze->Option (List ze))(hs:zh Tryz.prog (vC ZC)):zh Tryz.prog (vC (tC ZC)):=
 okC Tryz.f61 (memC hs zu) (fz:=[(6,[2])]) (cuts:=[(3,⟨[3,8],⟨[.own 2170, .int .i64],[(2170, .sl 131)]⟩,[2,6,7],[],[],0,[3],⟨[.own 2170],[(2170, .sl 131)]⟩,[2170]⟩)])
theorem AP:zh Tryz.prog (vC ZC):=recC (vC ZC) (tC) (fun S h=>zn4 S h)
theorem zpd:zh Tryz.prog (zpW au):=
 okC Tryz.f40 (memC AP zu) (fz:=[(6,[2])]) (cuts:=[(3,⟨[3,8],⟨[.own 2171, .int .i64],[(2171, .sl 68)]⟩,[2,6,7],[],[],0,[3],⟨[.own 2171],[(2171, .sl 68)]⟩,[2171]⟩)])
theorem zqI(qo:zo->Option zo)(hs:zh Tryz.prog (JC qo)):zh Tryz.prog (JC (xB qo)):=
 okC Tryz.f41 (memC AP (memC hs zu)) (fz:=[(6,[3])]) (cuts:=[(4,⟨[3,15],⟨[.own 2172, .int .i64],[(2172, .sl 71)]⟩,[1,2,13,14],[0,1],[],0,[3],⟨[.own 2172],[(2172, .sl 71)]⟩,[2172]⟩)]) (exS:=⟨[.optr 0],[(0, .row 71)]⟩)
theorem zqs:zh Tryz.prog (JC qo):=recC (JC qo) (xB) (fun S h=>zqI S h)
theorem zkJ:zh Tryz.prog (zk0 slices_Clone_string):=
 okC Tryz.f42 zu
theorem zjC:zh Tryz.prog (zkw slices_Clone_string):=kU ipOK (by kernel_rfl) zkJ
theorem zpz(ZW:List zK->Option (List zK))(hs:zh Tryz.prog (OC ZW)):zh Tryz.prog (OC (XC ZW)):=
 okC Tryz.f24 (memC zkN (memC zpd (memC zqs (memC zjC (memC hs zu))))) (fz:=[(12,[3]),(16,[2])]) (pre:=[(16,[(40,none)])]) (cuts:=[(3,⟨[3,11],⟨[.own 2174, .int .i64],[(2174, .sl 74)]⟩,[2,9,10],[],[],0,[3],⟨[.own 2174],[(2174, .sl 74)]⟩,[2174]⟩),(10,⟨[6,30],⟨[.own 2173, .int .i64],[(2173, .sl 78)]⟩,[3,5,11,28,29],[2174,2175],[],2,[6],⟨[.own 2173],[(2173, .sl 78)]⟩,[2173]⟩)])
theorem iH:zh Tryz.prog (OC ZW):=recC (OC ZW) (XC) (fun S h=>zpz S h)
theorem zAd:zh Tryz.prog (zBw Fy):=
 okC Tryz.f23 (memC iH zu) (fz:=[(6,[2])]) (cuts:=[(3,⟨[3,9],⟨[.own 2175, .int .i64],[(2175, .sl 33)]⟩,[1,2,7,8],[0,1],[],0,[3],⟨[.own 2175],[(2175, .sl 33)]⟩,[2175]⟩)]) (exS:=⟨[.optr 1],[(1, .cells 24 [.own 0, .int .i64]),(0, .sl 33)]⟩)
theorem zCB:zh Tryz.prog (zDr Vs):=
 okC Tryz.f8 (memC IL (memC gN (memC zAd (memC iH zu)))) (exS:=⟨[.optr 0, .int .i64],[(0, .row 24)]⟩)
theorem I7:zh Tryz.prog (yZ JA):=
 okC Tryz.f23 (memC iH zu) (fz:=[(6,[2])]) (cuts:=[(3,⟨[3,9],⟨[.own 2176, .int .i64],[(2176, .sl 33)]⟩,[1,2,7,8],[0,1],[],0,[3],⟨[.own 2176],[(2176, .sl 33)]⟩,[2176]⟩)]) (exS:=⟨[.optr 0],[(0, .row 24)]⟩)
theorem zCA:zh Tryz.prog (zDq Rx):=
 okC Tryz.f9 (memC IL (memC I7 zu)) (exS:=⟨[.optr 0, .int .i64],[(0, .row 33)]⟩)
theorem zmE(ZG:List zf×List zf->Option Bool)(h_ref08_Same:zh Tryz.prog (Vp ZG)):zh Tryz.prog (znu (iC ZG)):=
 okC Tryz.f137 (memC nN (memC h_ref08_Same zu)) (cuts:=[(4,⟨[5],⟨[.int .i64],[]⟩,[0,1],[],[],0,[],⟨[],[]⟩,[]⟩)])
theorem UY(ZG:List zf×List zf->Option Bool)(h_ref08_Same:zh Tryz.prog (Vp ZG)):zh Tryz.prog (CW (Gz ZG)):=
 okC Tryz.f92 (memC (zmE ZG h_ref08_Same) zu) (cuts:=[(4,⟨[5],⟨[.int .i64],[]⟩,[2,3],[0,1],[],0,[],⟨[],[]⟩,[]⟩)])
theorem zAA(ZG:List zf×List zf->Option Bool)(hs:zh Tryz.prog (Vp ZG)):zh Tryz.prog (Vp (bz ZG)):=
 okC Tryz.f62 (memC (UY ZG hs) zu) (cuts:=[(4,⟨[5],⟨[.int .i64],[]⟩,[0,1],[],[],0,[],⟨[],[]⟩,[]⟩)])
theorem oV:zh Tryz.prog (Vp ZG):=recC (Vp ZG) (bz) (fun S h=>zAA S h)
theorem IV:zh Tryz.prog (zBn Xt):=
 okC Tryz.f63 (memC JN zu) (cuts:=[(4,⟨[5],⟨[.int .i64],[]⟩,[0,1],[],[],0,[],⟨[],[]⟩,[]⟩)])
theorem zo5:zh Tryz.prog (zpS bu):=
 okC Tryz.f65 zu (cuts:=[(4,⟨[5],⟨[.int .i64],[]⟩,[0,1],[],[],0,[],⟨[],[]⟩,[]⟩),(9,⟨[6],⟨[.int .i64],[]⟩,[5],[],[],2,[],⟨[],[]⟩,[]⟩)])
theorem OY(qJ:List zK×List zK->Option Bool)(h_ref11_Same:zh Tryz.prog (Tu qJ)):zh Tryz.prog (FX (Dz qJ)):=
 okC Tryz.f43 (memC oV (memC IV (memC lM (memC zo5 (memC h_ref11_Same zu)))))
theorem zAH(qJ:List zK×List zK->Option Bool)(hs:zh Tryz.prog (Tu qJ)):zh Tryz.prog (Tu (LA qJ)):=
 okC Tryz.f26 (memC (OY qJ hs) zu) (cuts:=[(4,⟨[5],⟨[.int .i64],[]⟩,[0,1],[],[],0,[],⟨[],[]⟩,[]⟩)])
theorem kV:zh Tryz.prog (Tu qJ):=recC (Tu qJ) (LA) (fun S h=>zAH S h)
theorem mO:zh Tryz.prog (V8 Jq):=
 okC Tryz.f11 (memC kV zu)
theorem zqk:zh Tryz.prog (U8 WB):=
 okC Tryz.f25 (memC mO zu) (cuts:=[(4,⟨[5],⟨[.int .i64],[]⟩,[0,1],[],[],0,[],⟨[],[]⟩,[]⟩)])
theorem iV:zh Tryz.prog (zBq Iy):=
 okC Tryz.f10 (memC zqk zu)
theorem zqf:zh Tryz.prog (dO JB):=
 okC Tryz.f3 (memC (D7 1000) (memC zCq (memC iN (memC jN (memC zCB (memC zCA (memC iV (memC mO zu)))))))) (cuts:=[(11,⟨[15],⟨[.int .i64],[]⟩,[1,3,5,7,9,11],[0,1,2,3],[],0,[],⟨[],[]⟩,[]⟩)])
end Go.Lv.VT
