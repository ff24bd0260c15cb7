import Derived.Test.YtiidaccdmolmkaaGreatDoorCoa
set_option linter.all false
namespace Go.Lv.VT
set_option maxRecDepth 100000
open Go.Proofs
variable [Fu]
def RP:CO (zki qb):=
 cw Tryz.f296 (ci zZ (ci dB zt)) (p:=1) (cuts:=[(0,⟨[],⟨[],[(0, .row 270)]⟩,[0,1],[],[0],0,[],⟨[],[(0, .row 270)]⟩,[0]⟩)])
def zfP:CO (zgl gP):=
 cw Tryz.f342 zt (fz:=[(2,[1]),(4,[9]),(7,[14]),(9,[19])]) (joins:=[(7,dc [25] [.bool] [0,1,5] 0)])
def zmi:CO (znb Q0):=
 cw Tryz.f327 (ci zfP zt) (fz:=[(2,[3])])
def mJ:CO (zvg xq):=
 cw Tryz.f329 zt
def eB:CO (zxR Q9):=
 cw Tryz.f317 (ci mJ zt)
def MV:CO (zDz Rw):=
 cw Tryz.f328 (ci eB (ci mJ zt))
def zhb:CO (zhM QO):=
 cw Tryz.f315 (ci zZ (ci zmi (ci MV (ci dB zt)))) (fz:=[(7,[3])]) (p:=1) (cuts:=[(10,⟨[6,36],⟨[.int .i64, .int .i64],[(0, .row 270)]⟩,[0,1,4],[],[0],0,[6],⟨[.int .i64],[(0, .row 270)]⟩,[0]⟩)]) (joins:=[(17,⟨[6],⟨[.int .i64],[(0, .row 270)]⟩,[1],[],[0],0,[],⟨[],[]⟩,[]⟩),(19,⟨[6],⟨[.int .i64],[]⟩,[],[0],[],0,[],⟨[],[]⟩,[]⟩)])
def zfQ:CO (zgm eP):=
 cw Tryz.f342 zt (fz:=[(2,[1]),(4,[9]),(7,[14]),(9,[19])]) (p:=1) (joins:=[(7,⟨[25],⟨[.bool],[(0, .sl 5)]⟩,[0,1,5],[],[0],0,[],⟨[],[]⟩,[]⟩)])
def zmj:CO (znc Q3):=
 cw Tryz.f327 (ci zfQ zt) (fz:=[(2,[3])]) (p:=1)
def aP:CO (zhN qg):=
 cw Tryz.f315 (ci zZ (ci zmj (ci MV (ci dB zt)))) (fz:=[(7,[3])]) (p:=2) (cuts:=[(10,⟨[6,36],⟨[.int .i64, .int .i64],[(0, .row 270)]⟩,[0,1,4],[1],[0],0,[6],⟨[.int .i64],[(0, .row 270)]⟩,[0]⟩)]) (joins:=[(17,⟨[6],⟨[.int .i64],[(0, .row 270),(1, .sl 5)]⟩,[1],[],[0,1],0,[],⟨[],[]⟩,[]⟩),(19,⟨[6],⟨[.int .i64],[(1, .sl 5)]⟩,[],[0],[1],0,[],⟨[],[]⟩,[]⟩)])
def zjq:CO (zj1 WK):=
 cw Tryz.f297 (ci zZ (ci aP zt)) (fz:=[(5,[3])]) (p:=1) (cuts:=[(4,⟨[4],⟨[.own 5440],[(0, .row 270),(1, .row 116),(5440, .sl 5)]⟩,[0,2,3],[],[0,1],0,[4],⟨[.own 5440],[(0, .row 270),(1, .row 116),(5440, .sl 5)]⟩,[0,1,5440]⟩)]) (exS:=⟨[.optr 1],[(0, .row 270),(1, .row 116)]⟩)
def UW:CO (zxS CB):=
 cw Tryz.f316 (ci mJ zt)
def uW:CO (zve GI):=
 cw Tryz.f298 (ci UW (ci eB zt))
def qN:CO (zjZ Zr):=
 cw Tryz.f299 (ci zZ zt) (p:=1)
def VX:CO (zl3 Zw):=
 cw Tryz.f300 (ci zZ (ci UW (ci qN zt))) (p:=1)
def WP:CO (zl6 ZW):=
 cw Tryz.f301 (ci zZ (ci uW (ci qN (ci aP zt)))) (fz:=[(5,[3])]) (p:=1) (cuts:=[(2,⟨[3],⟨[.own 5441],[(0, .row 270),(5441, .sl 5)]⟩,[0],[],[0],0,[],⟨[],[]⟩,[]⟩)])
def zjo:CO (zj0 qV):=
 cw Tryz.f302 (ci zZ (ci eB zt)) (p:=1) (joins:=[(5,dc [3] [.int .i64] [0] 0),(7,dc [3] [.int .i64] [] 0)])
def ziz:CO (zi0 ZN):=
 cw Tryz.f296 (ci zZ (ci eB zt)) (p:=1) (cuts:=[(0,⟨[],⟨[],[(0, .row 270)]⟩,[0,1],[],[0],0,[],⟨[],[(0, .row 270)]⟩,[0]⟩)])
def zix:CO (ziY VK):=
 cw Tryz.f318 (ci zZ (ci ziz (ci eB zt))) (p:=1) (joins:=[(4,⟨[],⟨[],[(0, .row 270)]⟩,[0],[],[0],0,[],⟨[],[]⟩,[]⟩),(10,⟨[4],⟨[.bool],[(0, .row 270)]⟩,[],[],[0],0,[],⟨[],[]⟩,[]⟩),(15,⟨[4,5],⟨[.bool, .int .i64],[(0, .row 270)]⟩,[],[],[0],0,[],⟨[],[]⟩,[]⟩),(19,⟨[4],⟨[.bool],[(0, .row 270)]⟩,[],[],[0],0,[],⟨[],[]⟩,[]⟩)])
def zmh:CO (zna QZ):=
 cw Tryz.f319 (ci zKj (ci zCg (ci zQJ zt))) (cuts:=[(8,⟨[6,31],⟨[.int .i64, .int .i64],[]⟩,[0,2,3,4,5,29,30],[0],[],0,[6],⟨[.int .i64],[]⟩,[]⟩),(22,⟨[12,81],⟨[.int .i64, .int .i64],[]⟩,[4,79,80],[0],[],2,[12],⟨[.int .i64],[]⟩,[]⟩),(26,fS [4,12] [.int .i64, .int .i64] [] 4 [12] [.int .i64])]) (joins:=[(14,dc [0,4,6] [.str, .int .i64, .int .i64] [3,5] 0),(15,dc [0,4] [.str, .int .i64] [3] 0),(20,dc [0,4] [.str, .int .i64] [] 0),(31,dc [12] [.int .i64] [] 0)])
def ziy:CO (ziZ Qt):=
 cw Tryz.f303 (ci zix (ci zmh (ci VX (ci WP (ci zZ zt))))) (p:=1) (joins:=[(9,⟨[],⟨[],[(0, .row 270),(1, .row 116),(2, .row 116)]⟩,[2,5],[],[0,1,2],0,[],⟨[],[]⟩,[]⟩)]) (exS:=⟨[.optr 1],[(0, .row 270),(1, .row 116)]⟩)
def zmf:CO (zm8 QY):=
 cw Tryz.f333 (ci zZ (ci qN (ci zhb zt))) (p:=1) (cuts:=[(1,⟨[],⟨[],[(0, .row 270),(1, .row 116)]⟩,[0,2],[],[0,1],0,[],⟨[],[]⟩,[]⟩)]) (exS:=⟨[.optr 1],[(0, .row 270),(1, .row 116)]⟩)
def zmg:CO (zm9 pJ):=
 cw Tryz.f320 (ci RP (ci zZ (ci dB (ci zmf (ci mJ (ci qN (ci aP zt))))))) (fz:=[(18,[3])]) (p:=1) (cuts:=[(3,⟨[3],⟨[.own 5442],[(0, .row 270),(1, .row 116),(5442, .sl 5)]⟩,[0,2],[],[0,1],0,[],⟨[],[]⟩,[]⟩)]) (joins:=[(10,⟨[3,4],⟨[.own 5442, .int .i64],[(0, .row 270),(1, .row 116),(5442, .sl 5)]⟩,[],[],[0,1,5442],0,[],⟨[],[]⟩,[]⟩)]) (exS:=⟨[.optr 1],[(0, .row 270),(1, .row 116)]⟩)
def zj8:CO (zkh Qd):=
 cw Tryz.f304 (ci WP (ci zZ (ci kW (ci RP (ci zmg zt))))) (p:=1) (joins:=[(11,⟨[],⟨[],[(0, .row 270),(1, .row 116)]⟩,[2,3],[],[0,1],0,[],⟨[],[]⟩,[]⟩)]) (exS:=⟨[.optr 1],[(0, .row 270),(1, .row 116)]⟩)
def zkQ:CO (zl4 AC):=
 cw Tryz.f269 (ci zZ (ci dB (ci RP (ci zjq (ci uW (ci qN (ci VX (ci WP (ci zjo (ci ziy (ci Z6 (ci zj8 (ci ZR zt))))))))))))) (p:=1) (exS:=⟨[.optr 1],[(0, .row 270),(1, .row 116)]⟩)
def znu:CO (znV tJ):=
 cw Tryz.f246 zt (fz:=[(1,[2])]) (p:=2)
def ztM:CO (zvf FI):=
 cw Tryz.f245 (ci zKg (ci zh2 (ci zkQ (ci znu zt)))) (p:=1) (cuts:=[(7,⟨[7],⟨[.int .i64],[(0, .cells 140 [.own 5443]),(5443, .sl 116),(1, .row 270)]⟩,[0,1,6],[],[0,1],0,[],⟨[],[(0, .cells 140 [.own 5443]),(5443, .sl 116),(1, .row 270)]⟩,[0,1,5443]⟩)])
def ztL:CO (zvd II):=
 cw Tryz.f211 (ci ztM zt)
def zkM:CO (zl0 BC):=
 cw Tryz.f212 zt (cuts:=[(4,dc [13] [.int .i64] [0,1,12] 0)])
def zyZ:CO (zAK dG):=
 cw Tryz.f176 (ci UV (ci iV (ci zvx (ci ztL (ci zkM zt))))) (fz:=[(24,[5])]) (cuts:=[(7,⟨[5,6,7],⟨[.own 5545, .own 5546, .int .i64],[(5545, .sl 5),(5546, .sl 236)]⟩,[0],[],[],0,[5],⟨[.own 5545],[(5545, .sl 5)]⟩,[5545]⟩),(11,⟨[9,36],⟨[.own 5126, .int .i64],[(5126, .sl 5)]⟩,[5,6,7,8,34,35],[5545,5546],[],2,[9],⟨[.own 5126],[(5126, .sl 5)]⟩,[5126]⟩)]) (joins:=[(17,⟨[5,6,7,9],⟨[.own 5545, .own 5546, .int .i64, .own 5648],[(5545, .sl 5),(5546, .sl 236),(5648, .sl 5)]⟩,[8],[],[5545,5546],0,[],⟨[],[]⟩,[]⟩),(21,⟨[5,6,7],⟨[.own 5545, .own 5546, .int .i64],[(5545, .sl 5),(5546, .sl 236),(5649, .row 236)]⟩,[9,12],[5648],[5545,5546,5649],0,[],⟨[],[]⟩,[]⟩),(24,⟨[5,6,7],⟨[.own 5753, .own 5546, .int .i64],[(5546, .sl 236),(5753, .sl 5)]⟩,[],[5649],[5546],0,[],⟨[],[]⟩,[]⟩)])
def zCj:CO (zDq vF):=
 cw Tryz.f130 (ci iO (ci ztp (ci zyZ zt)))
def pU:CO (zDk AA):=
 cw Tryz.f77 (ci nO (ci dO (ci zCj zt))) (joins:=[(13,dc [8] [.str] [] 0)])
def rU:CO (zDj Xt):=
 cw Tryz.f46 (ci pU (ci UF zt)) (fz:=[(12,[2])]) (pre:=[(14,[(4,none)])]) (cuts:=[(6,⟨[4,5,16],⟨[.own 5754, .bool, .int .i64],[(5754, .sl 9)]⟩,[14,15],[],[],0,[4,5],⟨[.own 5754, .bool],[(5754, .sl 9)]⟩,[5754]⟩)])
def zyU:CO (zAE gG):=
 cw Tryz.f78 (ci OP (ci WX zt))
def zq3:CO (zr8 qL):=
 cw Tryz.f178 zt (p:=2)
def zvv:CO (zw3 dH):=
 cw Tryz.f132 (ci vV (ci zq3 zt)) (fz:=[(1,[1]),(7,[200000])]) (cuts:=[(12,⟨[9,26],⟨[.int .i64, .int .i64],[(1, .sl 5),(2, .row 3)]⟩,[0,6,7,8],[],[1,2],0,[],⟨[],[(1, .sl 5),(2, .row 3)]⟩,[1,2]⟩),(23,⟨[0],⟨[.int .i64],[(1, .sl 5),(2, .row 3)]⟩,[6,7,8],[],[1,2],2,[],⟨[],[(1, .sl 5),(2, .row 3)]⟩,[1,2]⟩)]) (joins:=[(7,dc [0] [.int .i64] [5] 0),(17,⟨[9],⟨[.int .i64],[(1, .sl 5),(2, .row 3)]⟩,[10,26],[],[1,2],0,[],⟨[],[]⟩,[]⟩),(20,⟨[9,26],⟨[.int .i64, .int .i64],[(1, .sl 5),(2, .row 3)]⟩,[],[],[1,2],0,[],⟨[],[]⟩,[]⟩),(27,⟨[],⟨[],[(1, .sl 5),(2, .row 3)]⟩,[6,7],[],[1,2],0,[],⟨[],[]⟩,[]⟩)])
def zCd(qB:zh->Option aE)(a:CO (SB qB)):CO (zDh (GA qB)):=
 cw Tryz.f131 (ci a (ci UF zt)) (fz:=[(5,[4])]) (pre:=[(7,[(7,none)])]) (cuts:=[(3,⟨[7,12],⟨[.own 5755, .int .i64],[(5755, .sl 9)]⟩,[1,2,6,10,11],[],[],0,[7],⟨[.own 5755],[(5755, .sl 9)]⟩,[5755]⟩)])
def zz1(qB:zh->Option aE)(hs:CO (SB qB)):CO (SB (nH qB)):=
 cw Tryz.f79 (ci dO (ci hs (ci (zCd qB hs) (ci zvv zt))))
def zyV:CO (SB qB):=d5 (SB qB) (nH) (λS h=>zz1 S h)
def PX(Zk:zh×Bool->Option (aE×Bool))(a:CO (Ry Zk)):CO (zpj (wB Zk)):=
 cw Tryz.f133 (ci a (ci sU zt)) (p:=2)
def zvs(Zk:zh×Bool->Option (aE×Bool))(a:CO (Ry Zk)):CO (zw0 (jA Zk)):=
 cw Tryz.f131 (ci (PX Zk a) (ci UF zt)) (fz:=[(5,[4])]) (pre:=[(7,[(7,none)])]) (p:=2) (cuts:=[(3,⟨[7,12],⟨[.own 5756, .int .i64],[(1, .row 4),(5756, .sl 9)]⟩,[1,2,6,10,11],[],[1],0,[7],⟨[.own 5756],[(1, .row 4),(5756, .sl 9)]⟩,[1,5756]⟩)])
def zrn(Zk:zh×Bool->Option (aE×Bool))(hs:CO (Ry Zk)):CO (Ry (VJ Zk)):=
 cw Tryz.f80 (ci pU (ci (PX Zk hs) (ci (zvs Zk hs) zt))) (p:=1)
def zq2:CO (Ry Zk):=d5 (Ry Zk) (VJ) (λS h=>zrn S h)
def uU:CO (zDe Yq):=
 cw Tryz.f47 (ci zyU (ci OP (ci zyV (ci zq2 zt)))) (joins:=[(8,⟨[5],⟨[.str],[(1, .row 4)]⟩,[6],[],[1],0,[],⟨[],[]⟩,[]⟩)])
def bX:CO (ziR ZC):=
 cw Tryz.f43 (ci Qo zt) (p:=3)
def SX:CO (zm4 Qc):=
 cw Tryz.f49 (ci Qo (ci dO zt)) (p:=2) (cuts:=[(1,⟨[8],⟨[.int .i64],[(0, .cells 69 [.nop 0 69 3, .own 5759, .bool]),(5759, .sl 5)]⟩,[0,6,7],[],[0],0,[],⟨[],[(0, .cells 69 [.nop 0 69 3, .own 5759, .bool]),(5759, .sl 5)]⟩,[0,5759]⟩)]) (joins:=[(5,⟨[],⟨[],[(0, .cells 69 [.nop 0 69 3, .own 5861, .bool]),(5861, .sl 5)]⟩,[5,8],[],[0],0,[],⟨[],[]⟩,[]⟩)])
def zj4(zS:List zP×Bool×List UInt8->Option (Bool×List UInt8))(a:CO (QE zS)):CO (zkd (qa zS)):=
 cw Tryz.f26 (ci wW (ci Qo (ci rU (ci uU (ci bX (ci a (ci SX zt))))))) (p:=2) (cuts:=[(24,⟨[75],⟨[.int .i64],[(0, .cells 69 [.nop 0 69 3, .own 5968, .bool]),(5968, .sl 5)]⟩,[73,74],[],[0],1,[],⟨[],[(0, .cells 69 [.nop 0 69 3, .own 5968, .bool]),(5968, .sl 5)]⟩,[0,5968]⟩),(33,⟨[96],⟨[.int .i64],[(0, .cells 69 [.nop 0 69 3, .own 5970, .bool]),(5970, .sl 5)]⟩,[94,95],[],[0],3,[],⟨[],[(0, .cells 69 [.nop 0 69 3, .own 5970, .bool]),(5970, .sl 5)]⟩,[0,5970]⟩)]) (joins:=[(12,⟨[41],⟨[.bool],[(0, .cells 69 [.nop 0 69 3, .own 1, .bool]),(1, .sl 5)]⟩,[2,3,4,14],[2,3],[0,1],0,[],⟨[],[]⟩,[]⟩),(15,⟨[5],⟨[.str],[(0, .cells 69 [.nop 0 69 3, .own 1, .bool]),(1, .sl 5)]⟩,[],[],[0,1],0,[],⟨[],[]⟩,[]⟩),(18,⟨[6],⟨[.str],[(0, .cells 69 [.nop 0 69 3, .own 1, .bool]),(1, .sl 5)]⟩,[5,7],[],[0,1],0,[],⟨[],[]⟩,[]⟩),(37,⟨[],⟨[],[(0, .cells 69 [.nop 0 69 3, .own 6072, .bool]),(6072, .sl 5)]⟩,[11,96],[],[0],0,[],⟨[],[]⟩,[]⟩)])
def zk5(zS:List zP×Bool×List UInt8->Option (Bool×List UInt8))(hs:CO (QE zS)):CO (QE (ZK zS)):=
 cw Tryz.f48 (ci Qo (ci (zj4 zS hs) zt)) (p:=2) (cuts:=[(4,⟨[15],⟨[.int .i64],[(0, .cells 69 [.nop 0 69 3, .own 5967, .bool]),(5967, .sl 5)]⟩,[0,13,14],[],[0],0,[],⟨[],[(0, .cells 69 [.nop 0 69 3, .own 5967, .bool]),(5967, .sl 5)]⟩,[0,5967]⟩)])
def zkJ:CO (QE zS):=d5 (QE zS) (ZK) (λS h=>zk5 S h)
def zme:CO (zm5 rJ):=
 cw Tryz.f26 (ci wW (ci znp (ci Qo (ci rU (ci uU (ci bX (ci zkJ (ci SX zt)))))))) (p:=1) (cuts:=[(24,⟨[75],⟨[.int .i64],[(0, .cells 69 [.nop 0 69 3, .own 6073, .bool]),(6073, .sl 5)]⟩,[73,74],[],[0],1,[],⟨[],[(0, .cells 69 [.nop 0 69 3, .own 6073, .bool]),(6073, .sl 5)]⟩,[0,6073]⟩),(33,⟨[96],⟨[.int .i64],[(0, .cells 69 [.nop 0 69 3, .own 6075, .bool]),(6075, .sl 5)]⟩,[94,95],[],[0],3,[],⟨[],[(0, .cells 69 [.nop 0 69 3, .own 6075, .bool]),(6075, .sl 5)]⟩,[0,6075]⟩)]) (joins:=[(12,⟨[41],⟨[.bool],[(0, .cells 69 [.nop 0 69 3, .own 5757, .bool]),(5757, .sl 5)]⟩,[2,3,4,14],[1,2],[0],0,[],⟨[],[]⟩,[]⟩),(15,⟨[5],⟨[.str],[(0, .cells 69 [.nop 0 69 3, .own 5757, .bool]),(5757, .sl 5)]⟩,[],[],[0,5757],0,[],⟨[],[]⟩,[]⟩),(18,⟨[6],⟨[.str],[(0, .cells 69 [.nop 0 69 3, .own 5757, .bool]),(5757, .sl 5)]⟩,[5,7],[],[0,5757],0,[],⟨[],[]⟩,[]⟩),(37,⟨[],⟨[],[(0, .cells 69 [.nop 0 69 3, .own 6177, .bool]),(6177, .sl 5)]⟩,[11,96],[],[0],0,[],⟨[],[]⟩,[]⟩)])
def aV:CO (zA9 Bu):=
 cw Tryz.f15 (ci zme (ci aX (ci zQM zt))) (fz:=[(1,[400000])])
def zzm:CO (zA8 nG):=
 cw Tryz.f5 (ci zoM (ci aV zt))
def aW:CO (zxB uA):=
 cw Tryz.f196 zt (cuts:=[(2,dc [5] [.int .i64] [0,1] 0)])
def tO:CO (zxy Hu):=
 cw Tryz.f155 (ci aW zt)
def fB:CO (zxg uo):=
 cw Tryz.f138 zt
def BJ:CO (zxf QB):=
 cw Tryz.f188 (ci fB zt) (cuts:=[(3,⟨[4],⟨[.int .i64],[(0, .sl 5)]⟩,[2,3],[],[0],0,[],⟨[],[(0, .sl 5)]⟩,[0]⟩)])
def bW:CO (zxz xA):=
 cw Tryz.f252 (ci tO (ci BJ zt))
def ztB:CO (zuZ cO):=
 cw Tryz.f276 zt (exS:=⟨[.optr 0],[(0, .row 274)]⟩)
def zvG:CO (zxu GH):=
 cw Tryz.f277 zt
def zvJ:CO (zxA VH):=
 cw Tryz.f305 zt (exS:=⟨[.optr 0, .bool],[(0, .row 222)]⟩)
def ztC(Zn:zm×Zg×Bool->Option Bool)(a:CO (Vu Zn)):CO (zu0 (Fy Zn)):=
 cw Tryz.f278 (ci zvJ (ci a zt)) (cuts:=[(5,⟨[9],⟨[.int .i64],[]⟩,[0,2,7],[1],[],0,[],⟨[],[]⟩,[]⟩)])
def ztD(Zn:zm×Zg×Bool->Option Bool)(a:CO (Vu Zn)):CO (zu1 (MB Zn)):=
 cw Tryz.f253 (ci ztB (ci tO (ci bW (ci aW (ci zvG (ci (ztC Zn a) zt)))))) (joins:=[(5,⟨[11],⟨[.bool],[]⟩,[2,3,5,10],[0,1,2],[],0,[],⟨[],[]⟩,[]⟩),(14,dc [84] [.bool] [] 0),(17,dc [101] [.bool] [] 0),(24,dc [138] [.bool] [] 0),(27,dc [154] [.bool] [] 0)])
def zpP(Zn:zm×Zg×Bool->Option Bool)(a:CO (Vu Zn)):CO (zqQ (cB Zn)):=
 cw Tryz.f228 (ci bW (ci (ztD Zn a) zt)) (cuts:=[(4,⟨[5],⟨[.int .i64],[]⟩,[2,3],[0,1],[],0,[],⟨[],[]⟩,[]⟩)])
def zwg(Zn:zm×Zg×Bool->Option Bool)(hs:CO (Vu Zn)):CO (Vu (aI Zn)):=
 cw Tryz.f189 (ci (zpP Zn hs) zt) (cuts:=[(4,⟨[7],⟨[.int .i64],[]⟩,[3,4],[0,1],[],0,[],⟨[],[]⟩,[]⟩)])
def zvK:CO (Vu Zn):=d5 (Vu Zn) (aI) (λS h=>zwg S h)
def zzd:CO (zA3 pG):=
 cw Tryz.f148 (ci zvK zt) (cuts:=[(2,dc [3] [.int .i64] [0] 0)])
def zuk(Lp:List zm->Option Int)(hs:CO (JJ Lp)):CO (JJ (oI Lp)):=
 cw Tryz.f149 (ci hs zt) (cuts:=[(3,fS [3,4] [.int .i64, .int .i64] [0,2] 0 [3] [.int .i64]),(6,fS [3,5] [.int .i64, .int .i64] [4] 2 [3] [.int .i64]),(10,fS [3,7] [.int .i64, .int .i64] [5,6] 4 [3] [.int .i64])])
def ztA:CO (JJ Lp):=d5 (JJ Lp) (oI) (λS h=>zuk S h)
def zvH:CO (zxv FH):=
 cw Tryz.f93 (ci zzd (ci ztA zt))
def zz4(Dp:List zo×List zo->Option Bool)(hs:CO (DI Dp)):CO (DI (jH Dp)):=
 cw Tryz.f229 (ci hs zt) (cuts:=[(4,dc [5] [.int .i64] [0,1] 0)])
def zy9:CO (DI Dp):=d5 (DI Dp) (jH) (λS h=>zz4 S h)
def zvF:CO (zxt JH):=
 cw Tryz.f190 (ci zy9 zt)
def zz9(Bp:zh×zh->Option Bool)(hs:CO (vH Bp)):CO (vH (MI Bp)):=
 cw Tryz.f150 (ci zvF (ci hs zt)) (cuts:=[(4,⟨[5],⟨[.int .i64],[]⟩,[2,3],[0,1],[],0,[],⟨[],[]⟩,[]⟩)])
def zzg:CO (vH Bp):=d5 (vH Bp) (MI) (λS h=>zz9 S h)
def zzj:CO (zA5 fw):=
 cw Tryz.f94 (ci zzg zt)
def zvE:CO (zxs KH):=
 cw Tryz.f151 (ci BJ zt) (cuts:=[(4,dc [3] [.int .i64] [0] 0)])
def zug(Qq:List zo->Option (List ze))(hs:CO (NJ Qq)):CO (NJ (vI Qq)):=
 cw Tryz.f89 (ci EP (ci hs zt)) (fz:=[(5,[6]),(9,[3])]) (cuts:=[(3,⟨[3,4],⟨[.own 6178, .int .i64],[(6178, .sl 116)]⟩,[0,2],[],[],0,[3],⟨[.own 6178],[(6178, .sl 116)]⟩,[6178]⟩)]) (joins:=[(4,⟨[3,4],⟨[.own 6280, .int .i64],[(6280, .sl 116)]⟩,[],[],[],0,[],⟨[],[]⟩,[]⟩)])
def CP:CO (NJ Qq):=d5 (NJ Qq) (vI) (λS h=>zug S h)
def zuh(Np:List zo×Int->Option Bool)(hs:CO (MJ Np)):CO (MJ (uI Np)):=
 cw Tryz.f230 (ci EP (ci hs zt)) (cuts:=[(2,dc [5] [.int .i64] [0,1] 0)])
def ztv:CO (MJ Np):=d5 (MJ Np) (uI) (λS h=>zuh S h)
def zvD:CO (zxp LH):=
 cw Tryz.f191 (ci fI (ci CP (ci ztv zt)))
def zvC:CO (zxo Ju):=
 cw Tryz.f254 zt (cuts:=[(2,dc [3] [.int .i64] [0] 0)])
def qI:CO (zxh ZG):=
 cw Tryz.f83 zt
def zy6:CO (zAY uG):=
 cw Tryz.f255 (ci qI zt)
def AJ:CO (zxj Mx):=
 cw Tryz.f218 zt
def Q5:CO (zGK Zz):=
 cw Tryz.f216 zt
def IP:CO (zuS QT):=
 cw Tryz.f219 (ci Q5 (ci AJ zt)) (cuts:=[(1,fS [1] [.int .i64] [0,4] 0 [1] [.int .i64])])
def gV:CO (zAV YA):=
 cw Tryz.f270 zt (fz:=[(1,[0])])
def zCl:CO (zDs KA):=
 cw Tryz.f271 (ci qI (ci fB zt))
def zy3:CO (zAU wG):=
 cw Tryz.f272 (ci gV zt) (fz:=[(4,[2]),(6,[8]),(8,[13]),(9,[18])])
def CK:CO (zsc qw):=
 cw Tryz.f248 (ci gV (ci zCl (ci Q5 (ci AJ (ci zy3 zt))))) (cuts:=[(7,fS [6,7] [.int .i64, .int .i64] [0,1,4,5] 0 [6,7] [.int .i64, .int .i64])]) (joins:=[(12,dc [7] [.int .i64] [6] 0)])
def ztr:CO (zuR Su):=
 cw Tryz.f220 (ci CK zt) (cuts:=[(4,⟨[1],⟨[.int .i64],[(0, .row 116),(1, .row 116)]⟩,[0,4,6,7],[],[0,1],0,[1],⟨[.int .i64],[(0, .row 116),(1, .row 116)]⟩,[0,1]⟩)]) (exS:=⟨[.optr 0, .int .i64],[(0, .row 116)]⟩)
def CX:CO (zuP OB):=
 cw Tryz.f137 (ci fB zt)
def oJ:CO (zuN Pp):=
 cw Tryz.f82 (ci CX (ci qI zt))
def uB:CO (zuM qX):=
 cw Tryz.f221 (ci Q5 zt)
def uO:CO (zxi Kn):=
 cw Tryz.f222 (ci oJ (ci uB (ci CK zt))) (cuts:=[(2,dc [1,6] [.int .i64, .str] [0] 0)])
def DX:CO (zuO Tu):=
 cw Tryz.f223 (ci Q5 (ci CX (ci uB zt)))
def zpN:CO (zqO yI):=
 cw Tryz.f224 (ci Q5 (ci qI zt)) (joins:=[(4,dc [1] [.int .i64] [0] 0),(6,dc [1] [.int .i64] [] 0)])
def ztq:CO (zuQ QS):=
 cw Tryz.f273 (ci Q5 (ci qI zt)) (cuts:=[(1,fS [1] [.int .i64] [0,4] 0 [1] [.int .i64])])
def zoB:CO (zpk Q7):=
 cw Tryz.f249 (ci Q5 (ci ztq (ci qI zt))) (joins:=[(4,dc [1] [.int .i64] [0] 0),(9,dc [1,7] [.int .i64, .bool] [] 0),(15,dc [1,7,9] [.int .i64, .bool, .int .i64] [] 0),(18,dc [1,7] [.int .i64, .bool] [] 0)])
def zmb:CO (zm1 Qb):=
 cw Tryz.f250 (ci Q5 (ci qI zt)) (cuts:=[(5,fS [3,5] [.str, .int .i64] [4] 0 [3,5] [.str, .int .i64]),(10,fS [3,4,5] [.str, .int .i64, .int .i64] [] 2 [3,4,5] [.str, .int .i64, .int .i64]),(20,fS [5,8] [.int .i64, .int .i64] [4] 4 [8] [.int .i64]),(28,fS [9,10] [.int .i64, .int .i64] [4] 6 [9] [.int .i64]),(31,fS [4,9] [.int .i64, .int .i64] [] 8 [9] [.int .i64])]) (joins:=[(5,dc [3,4,5] [.str, .int .i64, .int .i64] [0,6] 0),(14,dc [3,4,5] [.str, .int .i64, .int .i64] [] 0),(19,dc [4,5] [.int .i64, .int .i64] [3,7] 0),(25,dc [4,8] [.int .i64, .int .i64] [] 0),(26,dc [4] [.int .i64] [3] 0)])
def zq6:CO (zsd Nu):=
 cw Tryz.f225 (ci zoB (ci zmb (ci DX (ci uO (ci Q5 zt))))) (joins:=[(9,⟨[6],⟨[.int .i64],[(0, .row 116),(1, .row 116)]⟩,[4,8],[],[0,1],0,[],⟨[],[]⟩,[]⟩)]) (exS:=⟨[.optr 0, .int .i64],[(0, .row 116)]⟩)
def OV:CO (zDv Wq):=
 cw Tryz.f217 zt
def vO:CO (zxe Q6):=
 cw Tryz.f185 (ci BJ zt)
def zCm:CO (zDu dm):=
 cw Tryz.f274 (ci uB (ci CK zt)) (cuts:=[(1,⟨[1],⟨[.int .i64],[]⟩,[0,4,5],[0],[],0,[1],⟨[.int .i64],[]⟩,[]⟩)]) (exS:=⟨[.optr 0, .int .i64],[(0, .row 116)]⟩)
def zmc:CO (zm2 SK):=
 cw Tryz.f275 zt
def zCn:CO (zDw Yt):=
 cw Tryz.f251 (ci IP (ci AJ (ci zCm (ci zmc (ci uB (ci CK zt)))))) (cuts:=[(3,⟨[1],⟨[.int .i64],[(0, .row 116),(1, .row 116)]⟩,[0,4,6],[],[0,1],0,[1],⟨[.int .i64],[(0, .row 116),(1, .row 116)]⟩,[0,1]⟩)]) (exS:=⟨[.optr 0, .int .i64],[(0, .row 116)]⟩)
def zy5:CO (zAX Cu):=
 cw Tryz.f226 (ci uO (ci Q5 (ci vO (ci IP (ci zCn zt))))) (joins:=[(8,⟨[],⟨[],[(0, .row 116)]⟩,[4,6,7],[],[0],0,[],⟨[],[]⟩,[]⟩)]) (exS:=⟨[.optr 0, .int .i64],[(0, .row 116)]⟩)
def zy4:CO (zAW vG):=
 cw Tryz.f227 zt
def mU:CO (zDt Yo):=
 cw Tryz.f187 (ci AJ (ci IP (ci ztr (ci oJ (ci uB (ci uO (ci DX (ci zpN (ci zq6 (ci OV (ci zy5 (ci zy4 zt)))))))))))) (exS:=⟨[.optr 0, .int .i64],[(0, .row 116)]⟩)
def zvA:CO (zxl QC):=
 cw Tryz.f256 (ci mU zt) (fz:=[(1,[1])])
def zy7:CO (zAZ sG):=
 cw Tryz.f231 (ci zvC (ci zy6 (ci zvA zt))) (joins:=[(6,⟨[8],⟨[.bool],[(1, .row 116)]⟩,[1,3,7],[0],[1],0,[],⟨[],[]⟩,[]⟩),(13,⟨[56],⟨[.bool],[(1, .row 116)]⟩,[],[],[1],0,[],⟨[],[]⟩,[]⟩),(21,⟨[90],⟨[.bool],[(1, .row 116)]⟩,[],[],[1],0,[],⟨[],[]⟩,[]⟩),(26,⟨[148],⟨[.bool],[]⟩,[],[1],[],0,[],⟨[],[]⟩,[]⟩)])
def zvz:CO (zxk Lx):=
 cw Tryz.f192 (ci zy7 (ci vO zt)) (cuts:=[(4,dc [3] [.int .i64] [0] 0)]) (joins:=[(12,dc [4] [.int .i64] [3] 0),(14,dc [] [] [3] 0)])
def zro(QM:List zo->Option Bool)(hs:CO (YJ QM)):CO (YJ (lJ QM)):=
 cw Tryz.f193 (ci hs zt) (cuts:=[(2,dc [3] [.int .i64] [0] 0)])
def zq9:CO (YJ QM):=d5 (YJ QM) (lJ) (λS h=>zro S h)
def zq8:CO (zsf dI):=
 cw Tryz.f194 zt (cuts:=[(1,fS [0] [.sl 118] [2] 0 [0] [.sl 118]),(3,fS [0] [.sl 118] [2] 2 [0] [.sl 118])])
def ztw:CO (zuW iH):=
 cw Tryz.f195 zt
def ztx:CO (zuX gH):=
 cw Tryz.f152 (ci zvD (ci CP (ci zvz (ci zq9 (ci zq8 (ci ztw zt)))))) (cuts:=[(6,dc [5] [.int .i64] [1] 0)])
def iW:CO (zxq Iu):=
 cw Tryz.f95 (ci zvE (ci ztx zt))
def YW:CO (zxD Gx):=
 cw Tryz.f145 zt
def nJ:CO (zu5 Jp):=
 cw Tryz.f92 (ci YW zt)
def ztH:CO (zu7 LB):=
 cw Tryz.f146 (ci BJ zt) (cuts:=[(4,dc [3] [.int .i64] [0] 0)])
def zEi:CO (zGL az):=
 cw Tryz.f147 zt
def NV:CO (zDx Tw):=
 cw Tryz.f91 (ci nJ (ci YW (ci ztH (ci zEi zt)))) (cuts:=[(4,⟨[4],⟨[.int .i64],[]⟩,[1],[0],[],0,[],⟨[],[]⟩,[]⟩)]) (joins:=[(5,dc [4] [.int .i64] [] 0)])
def XW:CO (zxE oo):=
 cw Tryz.f57 (ci nJ (ci NV zt))
def ztE:CO (zu3 NI):=
 cw Tryz.f96 (ci nJ (ci XW zt)) (cuts:=[(8,⟨[3],⟨[.int .i64],[]⟩,[1],[0],[],0,[],⟨[],[]⟩,[]⟩)])
def zz8(Dn:zh->Option Int)(hs:CO (wH Dn)):CO (wH (OI Dn)):=
 cw Tryz.f153 (ci fI (ci hs zt)) (cuts:=[(7,⟨[3,4],⟨[.int .i64, .int .i64],[]⟩,[1,2],[0],[],0,[3],⟨[.int .i64],[]⟩,[]⟩)]) (joins:=[(13,dc [3,6] [.int .i64, .int .i64] [4] 0)])
def dV:CO (wH Dn):=d5 (wH Dn) (OI) (λS h=>zz8 S h)
def zo3(qo:zh->Option Bool)(hs:CO (NK qo)):CO (NK (PK qo)):=
 cw Tryz.f154 (ci iW (ci nJ (ci hs zt))) (cuts:=[(13,dc [3] [.int .i64] [] 1)]) (joins:=[(10,⟨[55],⟨[.bool],[]⟩,[1],[0],[],0,[],⟨[],[]⟩,[]⟩)])
def zoG:CO (NK qo):=d5 (NK qo) (PK) (λS h=>zo3 S h)
def zno:CO (znP yJ):=
 cw Tryz.f97 (ci bV (ci dV (ci zoG zt)))
def ztI:CO (zu9 Xx):=
 cw Tryz.f98 (ci tO zt) (cuts:=[(4,dc [3] [.int .i64] [0] 0)])
def zum(Gp:zP->Option Bool)(hs:CO (GJ Gp)):CO (GJ (lI Gp)):=
 cw Tryz.f59 (ci zvH (ci zzj (ci iW (ci ztE (ci zno (ci ztI (ci hs zt))))))) (cuts:=[(8,dc [4] [.int .i64] [1] 1),(26,dc [5] [.int .i64] [] 3),(31,dc [6] [.int .i64] [] 5)]) (joins:=[(25,⟨[],⟨[],[]⟩,[1],[0],[],0,[],⟨[],[]⟩,[]⟩)])
def ztJ:CO (GJ Gp):=d5 (GJ Gp) (lI) (λS h=>zum S h)
def dW:CO (zxw EH):=
 cw Tryz.f86 zt
def zp5(Qi:List zm->Option Int)(hs:CO (JK Qi)):CO (JK (xJ Qi)):=
 cw Tryz.f99 (ci dW (ci hs zt)) (cuts:=[(3,fS [3,4] [.int .i64, .int .i64] [0,2] 0 [3] [.int .i64]),(6,fS [3,5] [.int .i64, .int .i64] [4] 2 [3] [.int .i64]),(10,fS [3,7] [.int .i64, .int .i64] [5,6] 4 [3] [.int .i64])]) (joins:=[(11,dc [3,7] [.int .i64, .int .i64] [] 0)])
def zpQ:CO (JK Qi):=d5 (JK Qi) (xJ) (λS h=>zp5 S h)
def zmd:CO (zm3 sJ):=
 cw Tryz.f100 (ci dV zt) (cuts:=[(5,⟨[3,4],⟨[.int .i64, .int .i64],[]⟩,[1,2],[0],[],0,[3],⟨[.int .i64],[]⟩,[]⟩),(11,⟨[3,6],⟨[.int .i64, .int .i64],[]⟩,[],[1],[],2,[3],⟨[.int .i64],[]⟩,[]⟩)]) (joins:=[(10,⟨[3],⟨[.int .i64],[(1, .row 29)]⟩,[4,5],[],[1],0,[],⟨[],[]⟩,[]⟩),(12,dc [3,6] [.int .i64, .int .i64] [] 0)])
def zAc(ko:List zP->Option Int)(hs:CO (sH ko)):CO (sH (KI ko)):=
 cw Tryz.f60 (ci hs (ci fI (ci zpQ (ci zmd zt)))) (cuts:=[(3,fS [3,4] [.int .i64, .int .i64] [0,2] 0 [3] [.int .i64]),(8,fS [5,6] [.int .i64, .int .i64] [3,4] 2 [5] [.int .i64])]) (joins:=[(4,dc [3,4] [.int .i64, .int .i64] [] 0)])
def zzi:CO (sH ko):=d5 (sH ko) (KI) (λS h=>zAc S h)
def zvN:CO (zxH TH):=
 cw Tryz.f34 (ci xW (ci ztJ (ci zzi zt))) (cuts:=[(4,dc [3] [.int .i64] [0] 0)])
def sO:CO (zxF Fx):=
 cw Tryz.f19 (ci zvN zt)
def zoH:CO (zpl iJ):=
 cw Tryz.f16 (ci sO zt) (fz:=[(1,[1])])
def zze:CO (zA4 iw):=
 cw Tryz.f50 zt (fz:=[(1,[0])])
def FP:CO (zuT Ru):=
 cw Tryz.f84 (ci fB (ci qI zt)) (fz:=[(3,[1])]) (joins:=[(7,dc [4] [.str] [] 0)])
def QR:CO (zxm ZV):=
 cw Tryz.f51 (ci oJ (ci qI (ci FP zt))) (cuts:=[(3,fS [5,6] [.str, .int .i64] [0,1,4] 0 [5] [.str])]) (joins:=[(4,dc [5,6] [.str, .int .i64] [] 0),(10,dc [5,9] [.str, .bool] [6,7] 0)])
def ztu:CO (zuU NB):=
 cw Tryz.f182 (ci FP zt) (cuts:=[(3,fS [5,6] [.str, .int .i64] [0,1,4] 0 [5] [.str])]) (joins:=[(4,dc [5,6] [.str, .int .i64] [] 0),(9,dc [5,8] [.str, .bool] [6,7] 0)])
def zue(QU:Int->Option aE)(hs:CO (kI QU)):CO (kI (xI QU)):=
 cw Tryz.f215 (ci hs zt)
def zts:CO (kI QU):=d5 (kI QU) (xI) (λS h=>zue S h)
def zuf(Qp:Int×Bool->Option aE)(hs:CO (OJ Qp)):CO (OJ (wI Qp)):=
 cw Tryz.f183 (ci hs (ci zts zt)) (cuts:=[(10,fS [7] [.str] [4,5] 0 [7] [.str])])
def ztt:CO (OJ Qp):=d5 (OJ Qp) (wI) (λS h=>zuf S h)
def zy8:CO (zA1 rG):=
 cw Tryz.f184 (ci fB (ci Q5 (ci qI (ci FP (ci oJ (ci QR zt)))))) (cuts:=[(4,fS [3,4] [.str, .int .i64] [0,2] 0 [3] [.str])]) (joins:=[(5,dc [3,4] [.str, .int .i64] [] 0)])
def fV:CO (zA0 Ep):=
 cw Tryz.f139 (ci QR (ci ztu (ci ztt (ci zy8 zt)))) (fz:=[(22,[0])])
def zpO:CO (zqP nI):=
 cw Tryz.f85 (ci QR (ci fV zt)) (fz:=[(3,[1])]) (joins:=[(4,⟨[3],⟨[.str],[]⟩,[1],[0],[],0,[],⟨[],[]⟩,[]⟩),(6,dc [3] [.str] [] 0)])
def zuj(qY:Int->Option aE)(hs:CO (KJ qY)):CO (KJ (pI qY)):=
 cw Tryz.f141 (ci hs zt) (fz:=[(1,[4])])
def BX:CO (KJ qY):=d5 (KJ qY) (pI) (λS h=>zuj S h)
def ztz:CO (zuY Gy):=
 cw Tryz.f140 (ci BX zt)
def zra:CO (zsh bI):=
 cw Tryz.f87 (ci ztz (ci BX zt)) (joins:=[(6,⟨[3],⟨[.str],[]⟩,[1],[0],[],0,[],⟨[],[]⟩,[]⟩),(8,dc [3] [.str] [] 0)])
def znn(ZY:List zm->Option aE)(a:CO (yB ZY)):CO (znO (BK ZY)):=
 cw Tryz.f52 (ci QR (ci zpO (ci dW (ci zra (ci a zt))))) (fz:=[(9,[0]),(10,[0])]) (joins:=[(17,⟨[3],⟨[.str],[]⟩,[1],[0],[],0,[],⟨[],[]⟩,[]⟩)])
def zrp(ZY:List zm->Option aE)(hs:CO (yB ZY)):CO (yB (kJ ZY)):=
 cw Tryz.f29 (ci zze (ci QR (ci (znn ZY hs) zt))) (cuts:=[(3,fS [3,4] [.str, .int .i64] [0,2] 0 [3] [.str]),(10,fS [3,5] [.str, .int .i64] [] 2 [3] [.str]),(19,fS [3,7] [.str, .int .i64] [] 4 [3] [.str])]) (joins:=[(7,dc [3] [.str] [4] 0),(9,dc [3] [.str] [] 0),(14,dc [3] [.str] [5] 0),(18,⟨[3],⟨[.str],[]⟩,[6],[0],[],0,[],⟨[],[]⟩,[]⟩)])
def zrb:CO (yB ZY):=d5 (yB ZY) (kJ) (λS h=>zrp S h)
def zvB:CO (zxn MH):=
 cw Tryz.f142 (ci vO (ci fV zt)) (cuts:=[(6,fS [5,6] [.int .i64, .str] [0,2,3] 0 [5,6] [.int .i64, .str])])
def zy1:CO (zAS jw):=
 cw Tryz.f186 (ci OV zt) (cuts:=[(1,fS [1] [.int .i64] [0,4] 0 [1] [.int .i64]),(3,fS [1] [.int .i64] [] 2 [1] [.int .i64])])
def zCk:CO (zDr KG):=
 cw Tryz.f143 (ci zy1 (ci mU zt)) (fz:=[(6,[2,8])]) (cuts:=[(4,⟨[4,5,6],⟨[.own 6281, .own 6282, .int .i64],[(6281, .sl 116),(6282, .sl 219)]⟩,[0,2,3],[],[],0,[4,5],⟨[.own 6281, .own 6282],[(6281, .sl 116),(6282, .sl 219)]⟩,[6281,6282]⟩)])
def zy2:CO (zAT xG):=
 cw Tryz.f144 zt (cuts:=[(4,dc [5] [.int .i64] [0,1] 0)])
def zq7:CO (zse YB):=
 cw Tryz.f88 (ci zvB (ci zCk (ci zy2 zt))) (cuts:=[(3,fS [3,4] [.str, .int .i64] [0,2] 0 [3] [.str])]) (joins:=[(8,dc [3,4] [.str, .int .i64] [5,6] 0)])
def OX:CO (zsg XB):=
 cw Tryz.f53 (ci QR (ci CP (ci zq7 zt))) (joins:=[(4,dc [3] [.str] [] 0)])
def zzb:CO (zA2 XA):=
 cw Tryz.f30 (ci OX zt) (cuts:=[(3,fS [3,4] [.str, .int .i64] [0,2] 0 [3] [.str])]) (joins:=[(7,dc [3] [.str] [4] 0)])
def zui(Qr:Int->Option aE)(hs:CO (LJ Qr)):CO (LJ (sI Qr)):=
 cw Tryz.f90 (ci hs zt) (fz:=[(1,[4])])
def zty:CO (LJ Qr):=d5 (LJ Qr) (sI) (λS h=>zui S h)
def zz6(En:Int->Option aE)(hs:CO (yH En)):CO (yH (PI En)):=
 cw Tryz.f54 (ci hs (ci zty zt)) (cuts:=[(9,fS [3,4,5] [.str, .int .i64, .int .i64] [2] 0 [3] [.str])])
def zzc:CO (yH En):=d5 (yH En) (PI) (λS h=>zz6 S h)
def ztG:CO (zu6 Yx):=
 cw Tryz.f55 (ci NV zt)
def AX(zV:zh->Option aE)(a:CO (Py zV)):CO (zu8 (JB zV)):=
 cw Tryz.f56 (ci a zt)
def ztF(zV:zh->Option aE)(a:CO (Py zV)):CO (zu4 (dx zV)):=
 cw Tryz.f58 (ci (AX zV a) (ci a zt)) (cuts:=[(3,fS [7,8] [.str, .int .i64] [0,1,2,6] 0 [7] [.str])]) (joins:=[(4,dc [7,8] [.str, .int .i64] [] 0),(7,dc [7] [.str] [8] 0)])
def zrq(zV:zh->Option aE)(hs:CO (Py zV)):CO (Py (jJ zV)):=
 cw Tryz.f31 (ci QR (ci zzc (ci OX (ci ztG (ci hs (ci (AX zV hs) (ci XW (ci (ztF zV hs) zt))))))))
def zrc:CO (Py zV):=d5 (Py zV) (jJ) (λS h=>zrq S h)
def zzl:CO (zA7 WA):=
 cw Tryz.f33 (ci QR zt) (cuts:=[(3,fS [3,4] [.str, .int .i64] [0,2] 0 [3] [.str])]) (joins:=[(7,dc [3] [.str] [4] 0)])
def zvQ(ZI:zP->Option aE)(a:CO (xB ZI)):CO (zxK (Ex ZI)):=
 cw Tryz.f32 (ci a zt) (cuts:=[(5,fS [3,4] [.str, .int .i64] [0,2] 0 [3] [.str])])
def zrs(ZI:zP->Option aE)(hs:CO (xB ZI)):CO (xB (fJ ZI)):=
 cw Tryz.f17 (ci zrb (ci zzb (ci zrc (ci (zvQ ZI hs) (ci zzl zt))))) (cuts:=[(23,⟨[7,8],⟨[.str, .int .i64],[]⟩,[1],[0],[],1,[7],⟨[.str],[]⟩,[]⟩)]) (joins:=[(9,⟨[29],⟨[.bool],[]⟩,[1,10],[0],[],0,[],⟨[],[]⟩,[]⟩),(12,dc [4] [.str] [] 0),(15,dc [5] [.str] [4] 0),(20,dc [6] [.str] [] 0),(27,dc [7] [.str] [8] 0)])
def MP:CO (xB ZI):=d5 (xB ZI) (fJ) (λS h=>zrs S h)
def zzk:CO (zA6 oG):=
 cw Tryz.f6 (ci zoH (ci MP zt))
def zvS:CO (zxN IB):=
 cw Tryz.f18 (ci VW zt)
def WW:CO (zxM rq):=
 cw Tryz.f7 (ci zvS (ci aV zt)) (fz:=[(11,[2])]) (cuts:=[(6,⟨[5,18],⟨[.own 6283, .int .i64],[(6283, .sl 9)]⟩,[16,17],[],[],0,[5],⟨[.own 6283],[(6283, .sl 9)]⟩,[6283]⟩)])
def zvP:CO (zxJ nA):=
 cw Tryz.f8 (ci sO (ci MP zt)) (fz:=[(11,[2])]) (cuts:=[(6,⟨[5,6],⟨[.own 6284, .int .i64],[(6284, .sl 9)]⟩,[1],[0],[],0,[5],⟨[.own 6284],[(6284, .sl 9)]⟩,[6284]⟩)])
def zvR:CO (zxL RH):=
 cw Tryz.f9 (ci WW (ci UF zt))
def zCo:CO (zDy JG):=
 cw Tryz.f21 (ci MP zt) (cuts:=[(3,fS [3,4] [.str, .int .i64] [0,2] 0 [3] [.str])]) (joins:=[(7,dc [3] [.str] [4] 0)])
def zvO:CO (zxI SH):=
 cw Tryz.f10 (ci sO (ci zCo zt))
def zoI:CO (zpm gJ):=
 cw Tryz.f11 zt (cuts:=[(4,dc [5] [.int .i64] [0,1] 0)])
def zma:CO (RX TK):=
 cw Tryz.f3 (ci zvM (ci zzm (ci zzk (ci WW (ci zvP (ci zvR (ci zvO (ci zoI zt)))))))) (fz:=[(1,[1])])
end Go.Lv.VT
