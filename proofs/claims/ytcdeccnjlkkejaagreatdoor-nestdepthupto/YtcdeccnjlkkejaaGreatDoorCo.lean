/- Contracts. -/
import Derived.Test.YtcdeccnjlkkejaaGreatDoorTx
import Derived.Test.YtcdeccnjlkkejaaGreatDoorIp
import Derived.Test.YtcdeccnjlkkejaaGreatDoorLf
import Derived.Test.YtcdeccnjlkkejaaGreatDoorPa
noncomputable section
set_option linter.unusedSimpArgs false
set_option linter.unusedVariables false
namespace Go.Lv.VT
set_option maxRecDepth 100000
open Go.Proofs
theorem okC{con:Con I}{A:Env0 I}{exS:StSh}(f:Go.Func)(hS: ∀c∈A.S,zt Tryz.prog c)(hf:Tryz.prog.funcs[con.f]? =some f)(h:chk con A f=true)(he: ∀x,evF2 A T FK f.ntmps (rsl f) (body f) con exS x=con.F x):zt Tryz.prog con:=
 okC0 mixed ipOK tok rfl rfl hS hf h he
def jH(F:Int->Option Int):Con I:=⟨25,⟨[.int .u8],[]⟩,[],⟨[.int .u8],[]⟩,0,F⟩
def qM(F:Str×Str->Option Bool):Con I:=⟨130,⟨[.str, .str],[]⟩,[],⟨[.bool],[]⟩,0,F⟩
def Zu(F:Str×Str->Option Bool):Con I:=⟨93,⟨[.str, .str],[]⟩,[],⟨[.bool],[]⟩,0,F⟩
def QQ(F:za->Option za):Con I:=⟨100,⟨[.optr 0],[(0, .row 133)]⟩,[],⟨[],[(0, .row 133)]⟩,0,F⟩
def zn(F:Int×za->Option Int):Con I:=⟨137,⟨[.optr 0, .int .i64],[(0, .row 133)]⟩,[0],⟨[.int .i64],[]⟩,0,F⟩
def Qm(F:Int->Option Bool):Con I:=⟨138,⟨[.int .i64],[]⟩,[],⟨[.bool],[]⟩,0,F⟩
def qa(F:za->Option za):Con I:=⟨139,⟨[.optr 0, .clo 138 []],[(0, .row 133)]⟩,[],⟨[],[(0, .row 133)]⟩,0,F⟩
def Qc(F:Int->Option (List UInt8)):Con I:=⟨237,⟨[.nilv, .int .i32],[]⟩,[],⟨[.own 0],[(0, .sl 5)]⟩,1,F⟩
def wH(F:Int->Option (List UInt8)):Con I:=⟨210,⟨[.nilv, .int .i32],[]⟩,[],⟨[.own 0],[(0, .sl 5)]⟩,1,F⟩
def QB(F:Int×Int×Int->Option Bool):Con I:=⟨212,⟨[.int .i64, .int .i64, .int .i64],[]⟩,[],⟨[.bool],[]⟩,0,F⟩
def Ql(F:Int->Option Bool):Con I:=⟨174,⟨[.int .i64],[]⟩,[],⟨[.bool],[]⟩,0,F⟩
def yz(F:Int->Option Int):Con I:=⟨211,⟨[.int .i64],[]⟩,[],⟨[.int .i64],[]⟩,0,F⟩
def QA(F:za->Option (za×List UInt8)):Con I:=⟨172,⟨[.optr 0, .nilv],[(0, .row 133)]⟩,[],⟨[.own 1],[(0, .row 133),(1, .sl 5)]⟩,1,F⟩
def Qd(F:Int×List UInt8->Option (List UInt8)):Con I:=⟨237,⟨[.own 0, .int .i32],[(0, .sl 5)]⟩,[],⟨[.own 1],[(1, .sl 5)]⟩,1,F⟩
def vH(F:Int×List UInt8->Option (List UInt8)):Con I:=⟨210,⟨[.own 0, .int .i32],[(0, .sl 5)]⟩,[],⟨[.own 1],[(1, .sl 5)]⟩,1,F⟩
def Zx(F:za×List UInt8->Option (za×List UInt8)):Con I:=⟨172,⟨[.optr 0, .own 1],[(0, .row 133),(1, .sl 5)]⟩,[],⟨[.own 2],[(0, .row 133),(2, .sl 5)]⟩,1,F⟩
def EI(F:za->Option (ze×za)):Con I:=⟨140,⟨[.optr 0],[(0, .row 133)]⟩,[],⟨[.val 44],[(0, .row 133)]⟩,0,F⟩
def IA(F:Int->Option Bool):Con I:=⟨173,⟨[.int .i64],[]⟩,[],⟨[.bool],[]⟩,0,F⟩
def rA(F:Int->Option Bool):Con I:=⟨141,⟨[.int .i64],[]⟩,[],⟨[.bool],[]⟩,0,F⟩
def Zc(F:Int×za->Option Bool):Con I:=⟨142,⟨[.optr 0, .int .i64],[(0, .row 133)]⟩,[0],⟨[.bool],[]⟩,0,F⟩
def Qt(F:Int×za->Option Bool):Con I:=⟨143,⟨[.optr 0, .int .i64],[(0, .row 133)]⟩,[0],⟨[.bool],[]⟩,0,F⟩
def qx(F:za->Option (Str×za)):Con I:=⟨144,⟨[.optr 0],[(0, .row 133)]⟩,[],⟨[.str],[(0, .row 133)]⟩,0,F⟩
def FI(F:za->Option Bool):Con I:=⟨145,⟨[.optr 0],[(0, .row 133)]⟩,[0],⟨[.bool],[]⟩,0,F⟩
def QY(F:za->Option za):Con I:=⟨139,⟨[.optr 0, .clo 174 []],[(0, .row 133)]⟩,[],⟨[],[(0, .row 133)]⟩,0,F⟩
def QW(F:za->Option (Bool×za)):Con I:=⟨175,⟨[.optr 0],[(0, .row 133)]⟩,[],⟨[.bool],[(0, .row 133)]⟩,0,F⟩
def xH(F:Str->Option Int):Con I:=⟨176,⟨[.str],[]⟩,[],⟨[.int .i64],[]⟩,0,F⟩
def QX(F:za->Option (ze×za)):Con I:=⟨146,⟨[.optr 0],[(0, .row 133)]⟩,[],⟨[.val 44],[(0, .row 133)]⟩,0,F⟩
def wG(F:Str->Option Str):Con I:=⟨108,⟨[.str],[]⟩,[],⟨[.str],[]⟩,0,F⟩
def JA(F:Str×Str->Option Bool):Con I:=⟨109,⟨[.str, .str],[]⟩,[],⟨[.bool],[]⟩,0,F⟩
def BI(F:za->Option (ze×za)):Con I:=⟨216,⟨[.optr 0],[(0, .row 133)]⟩,[],⟨[.val 44],[(0, .row 133)]⟩,0,F⟩
def yH(F:za->Option (ze×za)):Con I:=⟨177,⟨[.optr 0],[(0, .row 133)]⟩,[],⟨[.val 44],[(0, .row 133)]⟩,0,F⟩
def NI(F:za->Option (ze×za)):Con I:=⟨147,⟨[.optr 0],[(0, .row 133)]⟩,[],⟨[.val 44],[(0, .row 133)]⟩,0,F⟩
def qL(F:Str×Int->Option Int):Con I:=⟨119,⟨[.str, .int .u8],[]⟩,[],⟨[.int .i64],[]⟩,0,F⟩
def II(F:za->Option (ze×za)):Con I:=⟨101,⟨[.optr 0],[(0, .row 133)]⟩,[],⟨[.val 44],[(0, .row 133)]⟩,0,F⟩
def tH(F:(ze×Int×Int)×List ze->Option (List ze)):Con I:=⟨70,⟨[.val 44, .int .i64, .int .i64, .optr 0],[(0, .cells 22 [.own 1]),(1, .sl 44)]⟩,[],⟨[],[(0, .cells 22 [.own 2]),(2, .sl 44)]⟩,1,F⟩
def iH(F:Str->Option (Int×List ze)):Con I:=⟨69,⟨[.str, .clo 70 [0]],[(0, .cells 22 [.nilv])]⟩,[],⟨[.int .i64],[(0, .cells 22 [.own 1]),(1, .sl 44)]⟩,1,F⟩
def Ev(F:Str->Option (List ze×Int)):Con I:=⟨33,⟨[.str],[]⟩,[],⟨[.sl 44, .int .i64],[]⟩,0,F⟩
def Qk(F:Int->Option Int):Con I:=⟨61,⟨[.int .u8],[]⟩,[],⟨[.int .u8],[]⟩,0,F⟩
def Om(F:List zg×Int->Option zm):Con I:=⟨65,⟨[.sl 49, .int .u8],[]⟩,[],⟨[.val 101],[]⟩,0,F⟩
def UA(F:List zg->Option Int):Con I:=⟨32,⟨[.sl 49],[]⟩,[],⟨[.int .i64],[]⟩,0,F⟩
def QV(F:List zg×List ze->Option (List ze)):Con I:=⟨63,⟨[.own 0, .sl 49],[(0, .sl 44)]⟩,[],⟨[.own 1],[(1, .sl 44)]⟩,1,F⟩
def MR(F:List zg->Option (List ze)):Con I:=⟨63,⟨[.nilv, .sl 49],[]⟩,[],⟨[.own 0],[(0, .sl 44)]⟩,1,F⟩
def QP(F:Str×Str->Option Str):Con I:=⟨197,⟨[.str, .str],[]⟩,[],⟨[.str],[]⟩,0,F⟩
def JI(F:Str×Str->Option Str):Con I:=⟨162,⟨[.str, .str],[]⟩,[],⟨[.str],[]⟩,0,F⟩
def jq(F:Int->Option Bool):Con I:=⟨155,⟨[.int .u8],[]⟩,[],⟨[.bool],[]⟩,0,F⟩
def uA(F:Str->Option Bool):Con I:=⟨122,⟨[.str],[]⟩,[],⟨[.bool],[]⟩,0,F⟩
def KA(F:Int->Option Bool):Con I:=⟨157,⟨[.int .u8],[]⟩,[],⟨[.bool],[]⟩,0,F⟩
def WA(F:Int->Option Bool):Con I:=⟨153,⟨[.int .u8],[]⟩,[],⟨[.bool],[]⟩,0,F⟩
def uH(F:Str×Str->Option Bool):Con I:=⟨154,⟨[.str, .str],[]⟩,[],⟨[.bool],[]⟩,0,F⟩
def UG(F:ze->Option Bool):Con I:=⟨115,⟨[.val 44],[]⟩,[],⟨[.bool],[]⟩,0,F⟩
def lH(F:(Int×Int)×List ze->Option Bool):Con I:=⟨116,⟨[.int .i64, .int .u8, .optr 0],[(0, .row 22)]⟩,[0],⟨[.bool],[]⟩,0,F⟩
def VA(F:List ze->Option Int):Con I:=⟨80,⟨[.sl 44],[]⟩,[],⟨[.int .i64],[]⟩,0,F⟩
def mG(F:List ze->Option Int):Con I:=⟨79,⟨[.sl 44],[]⟩,[],⟨[.int .i64],[]⟩,0,F⟩
def kG(F:Str->Option Int):Con I:=⟨118,⟨[.str],[]⟩,[],⟨[.int .i64],[]⟩,0,F⟩
def dA(F:Int×List UInt8->Option (List UInt8)):Con I:=⟨120,⟨[.own 0, .int .u8],[(0, .sl 5)]⟩,[],⟨[.own 1],[(1, .sl 5)]⟩,1,F⟩
def yG(F:(Str×Int)×List UInt8->Option (List UInt8)):Con I:=⟨117,⟨[.own 0, .str, .int .i64],[(0, .sl 5)]⟩,[],⟨[.own 1],[(1, .sl 5)]⟩,1,F⟩
def jG(F:Unit->Option qV):Con I:=⟨123,⟨[],[]⟩,[],⟨[.val 149],[]⟩,0,F⟩
def oH(F:(Int×Bool)×List UInt8->Option (List UInt8)):Con I:=⟨121,⟨[.own 0, .int .i64, .bool],[(0, .sl 5)]⟩,[],⟨[.own 1],[(1, .sl 5)]⟩,1,F⟩
def xG(F:ze×List UInt8->Option (List UInt8)):Con I:=⟨81,⟨[.own 0, .val 44],[(0, .sl 5)]⟩,[],⟨[.own 1],[(1, .sl 5)]⟩,1,F⟩
def KI(F:List ze×List ze->Option Bool):Con I:=⟨82,⟨[.sl 44, .sl 44],[]⟩,[],⟨[.bool],[]⟩,0,F⟩
def lG(F:List ze->Option (Str×Int)):Con I:=⟨46,⟨[.sl 44],[]⟩,[],⟨[.str, .int .i64],[]⟩,0,F⟩
def SG(F:List zg->Option (Str×Int)):Con I:=⟨20,⟨[.sl 49],[]⟩,[],⟨[.str, .int .i64],[]⟩,0,F⟩
def TA(F:List zg->Option (Int×Int)):Con I:=⟨26,⟨[.sl 49],[]⟩,[],⟨[.int .i64, .int .i64],[]⟩,0,F⟩
def uG(F:Str->Option (Str×Int×Bool)):Con I:=⟨31,⟨[.str],[]⟩,[],⟨[.str, .int .i64, .bool],[]⟩,0,F⟩
def vG(F:Unit->Option Bool):Con I:=⟨24,⟨[],[]⟩,[],⟨[.bool],[]⟩,0,F⟩
def DI(F:List ze->Option Bool):Con I:=⟨4,⟨[.sl 44],[]⟩,[],⟨[.bool],[]⟩,0,F⟩
def kH(F:List zg->Option (List ze)):Con I:=⟨63,⟨[.nilv, .sl 49],[]⟩,[],⟨[.sl 44],[]⟩,0,F⟩
def nD(F:Str->Option (Str×Int)):Con I:=⟨99,⟨[.str],[]⟩,[],⟨[.str, .int .i64],[]⟩,0,F⟩
theorem vN:zt Tryz.prog (nD Hl):=sM
def MF(F:Str×Int->Option Int):Con I:=⟨156,⟨[.str, .int .u8],[]⟩,[],⟨[.int .i64],[]⟩,0,F⟩
theorem PO:zt Tryz.prog (MF uo):=gP
def Wx(F:Str×Str->Option Int):Con I:=⟨136,⟨[.str, .str],[]⟩,[],⟨[.int .i64],[]⟩,0,F⟩
theorem yD:zt Tryz.prog (Wx Lj):=oN
def eD(F:Str×Str->Option Str):Con I:=⟨213,⟨[.str, .str],[]⟩,[],⟨[.str],[]⟩,0,F⟩
theorem tN:zt Tryz.prog (eD Cj):=lN
def dD(F:Str×Str->Option Str):Con I:=⟨160,⟨[.str, .str],[]⟩,[],⟨[.str],[]⟩,0,F⟩
theorem sN:zt Tryz.prog (dD xk):=kN
def TG(F:Str×Str->Option Int):Con I:=⟨214,⟨[.str, .str],[]⟩,[],⟨[.int .i64],[]⟩,0,F⟩
theorem iQ:zt Tryz.prog (TG Aq):=DR
def wB(F:Str×Str->Option (Str×Str×Bool)):Con I:=⟨215,⟨[.str, .str],[]⟩,[],⟨[.str, .str, .bool],[]⟩,0,F⟩
theorem BK:zt Tryz.prog (wB cutF):=JK
def bE(F:Int×Int->Option Str):Con I:=⟨161,⟨[.int .i64, .int .i64],[]⟩,[],⟨[.str],[]⟩,0,F⟩
theorem UO:zt Tryz.prog (bE Ws):=iP
def mF(F:(Int×Int)×List UInt8->Option (List UInt8)):Con I:=⟨158,⟨[.own 0, .int .u64, .int .i64],[(0, .sl 5)]⟩,[],⟨[.own 1],[(1, .sl 5)]⟩,1,F⟩
theorem VQ:zt Tryz.prog (mF Du):=yP
def oF(F:(Int×Int)×List UInt8->Option (List UInt8)):Con I:=⟨159,⟨[.own 0, .int .i64, .int .i64],[(0, .sl 5)]⟩,[],⟨[.own 1],[(1, .sl 5)]⟩,1,F⟩
theorem WQ:zt Tryz.prog (oF Eu):=AQ
def ut(F:List ze->Option (List zg×Int)):Con I:=⟨16,⟨[.sl 44],[]⟩,[],⟨[.sl 49, .int .i64],[]⟩,0,F⟩
theorem gy:zt Tryz.prog (ut parseF):=nN
theorem wS:zt Tryz.prog (jH gq):=
 okC (A:=⟨[],[],[],0,[],[(6,⟨[6],⟨[.bool],[]⟩,[3],[],[],0,[],⟨[],[]⟩,[]⟩)],[]⟩) (exS:=⟨[.int .u8],[]⟩) Tryz.f25 zZ (by kernel_rfl) (by kernel_rfl) fun x=>by kernel_rfl
theorem QS:zt Tryz.prog (qM stringslite_HasPrefix):=
 okC (A:=⟨[],[],[],0,[],[],[]⟩) (exS:=⟨[.bool],[]⟩) Tryz.f130 zZ (by kernel_rfl) (by kernel_rfl) fun x=>by kernel_rfl
theorem ZK:zt Tryz.prog (Zu strings_HasPrefix):=
 okC (A:=⟨[qM stringslite_HasPrefix],[],[],0,[],[],[]⟩) (exS:=⟨[.bool],[]⟩) Tryz.f93 (memC QS zZ) (by kernel_rfl) (by kernel_rfl) fun x=>by kernel_rfl
theorem FU:zt Tryz.prog (QQ Ze):=
 okC (A:=⟨[Zu strings_HasPrefix,Wx Lj],[],[],1,[(0,⟨[],⟨[],[(0, .row 133)]⟩,[0],[],[0],0,[],⟨[],[(0, .row 133)]⟩,[0]⟩)],[],[]⟩) (exS:=⟨[],[(0, .row 133)]⟩) Tryz.f100 (memC ZK (memC yD zZ)) (by kernel_rfl) (by kernel_rfl) fun x=>by kernel_rfl
theorem zq:zt Tryz.prog (zn zb):=
 okC (A:=⟨[],[],[],1,[],[],[]⟩) (exS:=⟨[.int .i64],[]⟩) Tryz.f137 zZ (by kernel_rfl) (by kernel_rfl) fun x=>by kernel_rfl
theorem QG:zt Tryz.prog (Qm Za):=
 okC (A:=⟨[],[],[],0,[],[],[]⟩) (exS:=⟨[.bool],[]⟩) Tryz.f138 zZ (by kernel_rfl) (by kernel_rfl) fun x=>by kernel_rfl
theorem qZ:zt Tryz.prog (qa zG):=
 okC (A:=⟨[zn zb,Qm Za],[],[],1,[(0,⟨[],⟨[],[(0, .row 133)]⟩,[0,1],[],[0],0,[],⟨[],[(0, .row 133)]⟩,[0]⟩)],[],[]⟩) (exS:=⟨[],[(0, .row 133)]⟩) Tryz.f139 (memC zq (memC QG zZ)) (by kernel_rfl) (by kernel_rfl) fun x=>by kernel_rfl
theorem NU:zt Tryz.prog (Qc qp):=
 okC (A:=⟨[],[(2,[1]),(4,[9]),(7,[14]),(9,[19])],[],0,[],[(7,⟨[25],⟨[.bool],[]⟩,[0,1,5],[],[],0,[],⟨[],[]⟩,[]⟩)],[]⟩) (exS:=⟨[.own 0],[(0, .sl 5)]⟩) Tryz.f237 zZ (by kernel_rfl) (by kernel_rfl) fun x=>by kernel_rfl
theorem gT:zt Tryz.prog (wH ZR):=
 okC (A:=⟨[Qc qp],[(2,[3])],[],0,[],[],[]⟩) (exS:=⟨[.own 0],[(0, .sl 5)]⟩) Tryz.f210 (memC NU zZ) (by kernel_rfl) (by kernel_rfl) fun x=>by kernel_rfl
theorem Q8:zt Tryz.prog (QB ZO):=
 okC (A:=⟨[],[],[],0,[],[],[]⟩) (exS:=⟨[.bool],[]⟩) Tryz.f212 zZ (by kernel_rfl) (by kernel_rfl) fun x=>by kernel_rfl
theorem QF:zt Tryz.prog (Ql Zj):=
 okC (A:=⟨[QB ZO],[],[],0,[],[],[]⟩) (exS:=⟨[.bool],[]⟩) Tryz.f174 (memC Q8 zZ) (by kernel_rfl) (by kernel_rfl) fun x=>by kernel_rfl
theorem pG:zt Tryz.prog (yz Qh):=
 okC (A:=⟨[Ql Zj,QB ZO],[],[],0,[],[],[]⟩) (exS:=⟨[.int .i64],[]⟩) Tryz.f211 (memC QF (memC Q8 zZ)) (by kernel_rfl) (by kernel_rfl) fun x=>by kernel_rfl
theorem CU:zt Tryz.prog (QA Zo):=
 okC (A:=⟨[zn zb,wH ZR,yz Qh,Qm Za],[(7,[3])],[],1,[(10,⟨[6,36],⟨[.int .i64, .int .i64],[(0, .row 133)]⟩,[0,1,4],[],[0],0,[6],⟨[.int .i64],[(0, .row 133)]⟩,[0]⟩)],[(17,⟨[6],⟨[.int .i64],[(0, .row 133)]⟩,[1],[],[0],0,[],⟨[],[]⟩,[]⟩),(19,⟨[6],⟨[.int .i64],[]⟩,[],[0],[],0,[],⟨[],[]⟩,[]⟩)],[]⟩) (exS:=⟨[.own 1],[(0, .row 133),(1, .sl 5)]⟩) Tryz.f172 (memC zq (memC gT (memC pG (memC QG zZ)))) (by kernel_rfl) (by kernel_rfl) fun x=>by kernel_rfl
theorem MU:zt Tryz.prog (Qd qw):=
 okC (A:=⟨[],[(2,[1]),(4,[9]),(7,[14]),(9,[19])],[],1,[],[(7,⟨[25],⟨[.bool],[(0, .sl 5)]⟩,[0,1,5],[],[0],0,[],⟨[],[]⟩,[]⟩)],[]⟩) (exS:=⟨[.own 1],[(1, .sl 5)]⟩) Tryz.f237 zZ (by kernel_rfl) (by kernel_rfl) fun x=>by kernel_rfl
theorem fT:zt Tryz.prog (vH ZT):=
 okC (A:=⟨[Qd qw],[(2,[3])],[],1,[],[],[]⟩) (exS:=⟨[.own 1],[(1, .sl 5)]⟩) Tryz.f210 (memC MU zZ) (by kernel_rfl) (by kernel_rfl) fun x=>by kernel_rfl
theorem Z8:zt Tryz.prog (Zx zA):=
 okC (A:=⟨[zn zb,vH ZT,yz Qh,Qm Za],[(7,[3])],[],2,[(10,⟨[6,36],⟨[.int .i64, .int .i64],[(0, .row 133)]⟩,[0,1,4],[1],[0],0,[6],⟨[.int .i64],[(0, .row 133)]⟩,[0]⟩)],[(17,⟨[6],⟨[.int .i64],[(0, .row 133),(1, .sl 5)]⟩,[1],[],[0,1],0,[],⟨[],[]⟩,[]⟩),(19,⟨[6],⟨[.int .i64],[(1, .sl 5)]⟩,[],[0],[1],0,[],⟨[],[]⟩,[]⟩)],[]⟩) (exS:=⟨[.own 2],[(0, .row 133),(2, .sl 5)]⟩) Tryz.f172 (memC zq (memC fT (memC pG (memC QG zZ)))) (by kernel_rfl) (by kernel_rfl) fun x=>by kernel_rfl
theorem lT:zt Tryz.prog (EI ZM):=
 okC (A:=⟨[zn zb,Zx zA],[(5,[3])],[],1,[(4,⟨[4],⟨[.own 1104],[(0, .row 133),(1, .row 44),(1104, .sl 5)]⟩,[0,2,3],[],[0,1],0,[4],⟨[.own 1104],[(0, .row 133),(1, .row 44),(1104, .sl 5)]⟩,[0,1,1104]⟩)],[],[]⟩) (exS:=⟨[.optr 1],[(0, .row 133),(1, .row 44)]⟩) Tryz.f140 (memC zq (memC Z8 zZ)) (by kernel_rfl) (by kernel_rfl) fun x=>by kernel_rfl
theorem WH:zt Tryz.prog (IA Im):=
 okC (A:=⟨[QB ZO],[],[],0,[],[],[]⟩) (exS:=⟨[.bool],[]⟩) Tryz.f173 (memC Q8 zZ) (by kernel_rfl) (by kernel_rfl) fun x=>by kernel_rfl
theorem rH:zt Tryz.prog (rA Qi):=
 okC (A:=⟨[IA Im,Ql Zj],[],[],0,[],[],[]⟩) (exS:=⟨[.bool],[]⟩) Tryz.f141 (memC WH (memC QF zZ)) (by kernel_rfl) (by kernel_rfl) fun x=>by kernel_rfl
theorem Zn:zt Tryz.prog (Zc zo):=
 okC (A:=⟨[zn zb],[],[],1,[],[],[]⟩) (exS:=⟨[.bool],[]⟩) Tryz.f142 (memC zq zZ) (by kernel_rfl) (by kernel_rfl) fun x=>by kernel_rfl
theorem MI:zt Tryz.prog (Qt zF):=
 okC (A:=⟨[zn zb,IA Im,Zc zo],[],[],1,[],[],[]⟩) (exS:=⟨[.bool],[]⟩) Tryz.f143 (memC zq (memC WH (memC Zn zZ))) (by kernel_rfl) (by kernel_rfl) fun x=>by kernel_rfl
theorem Qg:zt Tryz.prog (qx zI):=
 okC (A:=⟨[zn zb,rA Qi,Zc zo,Zx zA],[(5,[3])],[],1,[(2,⟨[3],⟨[.own 1105],[(0, .row 133),(1105, .sl 5)]⟩,[0],[],[0],0,[],⟨[],[]⟩,[]⟩)],[],[]⟩) (exS:=⟨[.str],[(0, .row 133)]⟩) Tryz.f144 (memC zq (memC rH (memC Zn (memC Z8 zZ)))) (by kernel_rfl) (by kernel_rfl) fun x=>by kernel_rfl
theorem nT:zt Tryz.prog (FI qy):=
 okC (A:=⟨[zn zb,Ql Zj],[],[],1,[],[(5,⟨[3],⟨[.int .i64],[]⟩,[0],[],[],0,[],⟨[],[]⟩,[]⟩),(7,⟨[3],⟨[.int .i64],[]⟩,[],[],[],0,[],⟨[],[]⟩,[]⟩)],[]⟩) (exS:=⟨[.bool],[]⟩) Tryz.f145 (memC zq (memC QF zZ)) (by kernel_rfl) (by kernel_rfl) fun x=>by kernel_rfl
theorem IU:zt Tryz.prog (QY zV):=
 okC (A:=⟨[zn zb,Ql Zj],[],[],1,[(0,⟨[],⟨[],[(0, .row 133)]⟩,[0,1],[],[0],0,[],⟨[],[(0, .row 133)]⟩,[0]⟩)],[],[]⟩) (exS:=⟨[],[(0, .row 133)]⟩) Tryz.f139 (memC zq (memC QF zZ)) (by kernel_rfl) (by kernel_rfl) fun x=>by kernel_rfl
theorem KU:zt Tryz.prog (QW ZB):=
 okC (A:=⟨[zn zb,QY zV,Ql Zj],[],[],1,[],[(4,⟨[],⟨[],[(0, .row 133)]⟩,[0],[],[0],0,[],⟨[],[]⟩,[]⟩),(10,⟨[4],⟨[.bool],[(0, .row 133)]⟩,[],[],[0],0,[],⟨[],[]⟩,[]⟩),(15,⟨[4,5],⟨[.bool, .int .i64],[(0, .row 133)]⟩,[],[],[0],0,[],⟨[],[]⟩,[]⟩),(19,⟨[4],⟨[.bool],[(0, .row 133)]⟩,[],[],[0],0,[],⟨[],[]⟩,[]⟩)],[]⟩) (exS:=⟨[.bool],[(0, .row 133)]⟩) Tryz.f175 (memC zq (memC IU (memC QF zZ))) (by kernel_rfl) (by kernel_rfl) fun x=>by kernel_rfl
theorem iT:zt Tryz.prog (xH qG):=
 okC (A:=⟨[eD Cj,TG Aq,wB cutF],[],[],0,[(8,⟨[6,31],⟨[.int .i64, .int .i64],[]⟩,[0,2,3,4,5,29,30],[0],[],0,[6],⟨[.int .i64],[]⟩,[]⟩),(22,⟨[12,81],⟨[.int .i64, .int .i64],[]⟩,[4,79,80],[0],[],2,[12],⟨[.int .i64],[]⟩,[]⟩),(26,⟨[4,12],⟨[.int .i64, .int .i64],[]⟩,[],[],[],4,[12],⟨[.int .i64],[]⟩,[]⟩)],[(14,⟨[0,4,6],⟨[.str, .int .i64, .int .i64],[]⟩,[3,5],[],[],0,[],⟨[],[]⟩,[]⟩),(15,⟨[0,4],⟨[.str, .int .i64],[]⟩,[3],[],[],0,[],⟨[],[]⟩,[]⟩),(20,⟨[0,4],⟨[.str, .int .i64],[]⟩,[],[],[],0,[],⟨[],[]⟩,[]⟩),(31,⟨[12],⟨[.int .i64],[]⟩,[],[],[],0,[],⟨[],[]⟩,[]⟩)],[]⟩) (exS:=⟨[.int .i64],[]⟩) Tryz.f176 (memC tN (memC iQ (memC BK zZ))) (by kernel_rfl) (by kernel_rfl) fun x=>by kernel_rfl
theorem JU:zt Tryz.prog (QX ZC):=
 okC (A:=⟨[QW ZB,xH qG,Qt zF,qx zI,zn zb],[],[],1,[],[(9,⟨[],⟨[],[(0, .row 133),(1, .row 44),(2, .row 44)]⟩,[2,5],[],[0,1,2],0,[],⟨[],[]⟩,[]⟩)],[]⟩) (exS:=⟨[.optr 1],[(0, .row 133),(1, .row 44)]⟩) Tryz.f146 (memC KU (memC iT (memC MI (memC Qg (memC zq zZ))))) (by kernel_rfl) (by kernel_rfl) fun x=>by kernel_rfl
theorem yR:zt Tryz.prog (wG Lm):=
 okC (A:=⟨[],[],[],0,[(3,⟨[10],⟨[.int .i64],[(0, .sl 5)]⟩,[2,3,8,9],[],[0],0,[],⟨[],[(0, .sl 5)]⟩,[0]⟩)],[(7,⟨[10],⟨[.int .i64],[(0, .sl 5)]⟩,[],[],[0],0,[],⟨[],[]⟩,[]⟩)],[]⟩) (exS:=⟨[.str],[]⟩) Tryz.f108 zZ (by kernel_rfl) (by kernel_rfl) fun x=>by kernel_rfl
theorem XH:zt Tryz.prog (JA QL):=
 okC (A:=⟨[wG Lm],[],[],0,[],[],[]⟩) (exS:=⟨[.bool],[]⟩) Tryz.f109 (memC yR zZ) (by kernel_rfl) (by kernel_rfl) fun x=>by kernel_rfl
theorem kT:zt Tryz.prog (BI Zw):=
 okC (A:=⟨[zn zb,Zc zo,QA Zo],[],[],1,[(1,⟨[],⟨[],[(0, .row 133),(1, .row 44)]⟩,[0,2],[],[0,1],0,[],⟨[],[]⟩,[]⟩)],[],[]⟩) (exS:=⟨[.optr 1],[(0, .row 133),(1, .row 44)]⟩) Tryz.f216 (memC zq (memC Zn (memC CU zZ))) (by kernel_rfl) (by kernel_rfl) fun x=>by kernel_rfl
theorem jT:zt Tryz.prog (yH qF):=
 okC (A:=⟨[qa zG,zn zb,Qm Za,BI Zw,QB ZO,Zc zo,Zx zA],[(18,[3])],[],1,[(3,⟨[3],⟨[.own 1106],[(0, .row 133),(1, .row 44),(1106, .sl 5)]⟩,[0,2],[],[0,1],0,[],⟨[],[]⟩,[]⟩)],[(10,⟨[3,4],⟨[.own 1106, .int .i64],[(0, .row 133),(1, .row 44),(1106, .sl 5)]⟩,[],[],[0,1,1106],0,[],⟨[],[]⟩,[]⟩)],[]⟩) (exS:=⟨[.optr 1],[(0, .row 133),(1, .row 44)]⟩) Tryz.f177 (memC qZ (memC zq (memC QG (memC kT (memC Q8 (memC Zn (memC Z8 zZ))))))) (by kernel_rfl) (by kernel_rfl) fun x=>by kernel_rfl
theorem vT:zt Tryz.prog (NI ZZ):=
 okC (A:=⟨[qx zI,zn zb,JA QL,qa zG,yH qF],[],[],1,[],[(11,⟨[],⟨[],[(0, .row 133),(1, .row 44)]⟩,[2,3],[],[0,1],0,[],⟨[],[]⟩,[]⟩)],[]⟩) (exS:=⟨[.optr 1],[(0, .row 133),(1, .row 44)]⟩) Tryz.f147 (memC Qg (memC zq (memC XH (memC qZ (memC jT zZ))))) (by kernel_rfl) (by kernel_rfl) fun x=>by kernel_rfl
theorem Qw:zt Tryz.prog (qL strings_IndexByte):=
 okC (A:=⟨[MF uo],[],[],0,[],[],[]⟩) (exS:=⟨[.int .i64],[]⟩) Tryz.f119 (memC PO zZ) (by kernel_rfl) (by kernel_rfl) fun x=>by kernel_rfl
theorem yT:zt Tryz.prog (II qi):=
 okC (A:=⟨[zn zb,Qm Za,qa zG,EI ZM,rA Qi,Zc zo,Qt zF,qx zI,FI qy,QX ZC,Zu strings_HasPrefix,NI ZZ,qL strings_IndexByte],[],[],1,[],[],[]⟩) (exS:=⟨[.optr 1],[(0, .row 133),(1, .row 44)]⟩) Tryz.f101 (memC zq (memC QG (memC qZ (memC lT (memC rH (memC Zn (memC MI (memC Qg (memC nT (memC JU (memC ZK (memC vT (memC Qw zZ))))))))))))) (by kernel_rfl) (by kernel_rfl) fun x=>by kernel_rfl
theorem UT:zt Tryz.prog (tH QK):=
 okC (A:=⟨[],[(1,[2])],[],2,[],[],[]⟩) (exS:=⟨[],[(0, .cells 22 [.own 2]),(2, .sl 44)]⟩) Tryz.f70 zZ (by kernel_rfl) (by kernel_rfl) fun x=>by kernel_rfl
theorem vS:zt Tryz.prog (iH Yq):=
 okC (A:=⟨[nD Hl,QQ Ze,II qi,tH QK],[],[],1,[(7,⟨[7],⟨[.int .i64],[(0, .cells 22 [.own 1107]),(1107, .sl 44),(1, .row 133)]⟩,[0,1,6],[],[0,1],0,[],⟨[],[(0, .cells 22 [.own 1107]),(1107, .sl 44),(1, .row 133)]⟩,[0,1,1107]⟩)],[],[]⟩) (exS:=⟨[.int .i64],[(0, .cells 22 [.own 1]),(1, .sl 44)]⟩) Tryz.f69 (memC vN (memC FU (memC yT (memC UT zZ)))) (by kernel_rfl) (by kernel_rfl) fun x=>by kernel_rfl
theorem YA:zt Tryz.prog (Ev qh):=
 okC (A:=⟨[iH Yq],[],[],0,[],[],[]⟩) (exS:=⟨[.sl 44, .int .i64],[]⟩) Tryz.f33 (memC vS zZ) (by kernel_rfl) (by kernel_rfl) fun x=>by kernel_rfl
theorem QE:zt Tryz.prog (Qk Zh):=
 okC (A:=⟨[],[],[],0,[],[(7,⟨[6],⟨[.bool],[]⟩,[0],[],[],0,[],⟨[],[]⟩,[]⟩)],[]⟩) (exS:=⟨[.int .u8],[]⟩) Tryz.f61 zZ (by kernel_rfl) (by kernel_rfl) fun x=>by kernel_rfl
theorem nQ(Zt:List zg×Int->Option zm)(hs:zt Tryz.prog (Om Zt)):zt Tryz.prog (Om (Jm Zt)):=
 okC (A:=⟨[Qk Zh,Om Zt],[],[],0,[(3,⟨[12],⟨[.int .i64],[(1, .row 101)]⟩,[1,4,5,10,11],[0],[1],0,[],⟨[],[(1, .row 101)]⟩,[1]⟩)],[(9,⟨[],⟨[],[(1, .row 101)]⟩,[7,8,12],[2],[1],0,[],⟨[],[]⟩,[]⟩),(12,⟨[12],⟨[.int .i64],[(1, .row 101)]⟩,[],[],[1],0,[],⟨[],[]⟩,[]⟩)],[]⟩) (exS:=⟨[.optr 0],[(0, .row 101)]⟩) Tryz.f65 (memC QE (memC hs zZ)) (by kernel_rfl) (by kernel_rfl) fun x=>by kernel_rfl
theorem rG:zt Tryz.prog (Om Zt):=
 zt.recE (I:=I) (P:=Tryz.prog) (f:=65) (inS:=⟨[.sl 49, .int .u8],[]⟩) (cst:=[]) (outS:=⟨[.val 101],[]⟩) (k:=0) (Jm) (by kernel_rfl) (fun S h=>nQ S h)
theorem FH:zt Tryz.prog (UA Qn):=
 okC (A:=⟨[Om Zt],[],[],0,[],[],[]⟩) (exS:=⟨[.int .i64],[]⟩) Tryz.f32 (memC rG zZ) (by kernel_rfl) (by kernel_rfl) fun x=>by kernel_rfl
theorem rR(Zi:List zg×List ze->Option (List ze))(hs:zt Tryz.prog (QV Zi)):zt Tryz.prog (QV (Q6 Zi)):=
 okC (A:=⟨[Qk Zh,QV Zi],[(4,[3]),(7,[6])],[],1,[(2,⟨[0,10],⟨[.own 1108, .int .i64],[(1108, .sl 44)]⟩,[4,8,9],[],[],0,[0],⟨[.own 1108],[(1108, .sl 44)]⟩,[1108]⟩)],[(8,⟨[0,10],⟨[.own 1210, .int .i64],[(1210, .sl 44)]⟩,[],[],[],0,[],⟨[],[]⟩,[]⟩)],[]⟩) (exS:=⟨[.own 1],[(1, .sl 44)]⟩) Tryz.f63 (memC QE (memC hs zZ)) (by kernel_rfl) (by kernel_rfl) fun x=>by kernel_rfl
theorem uR:zt Tryz.prog (QV Zi):=
 zt.recE (I:=I) (P:=Tryz.prog) (f:=63) (inS:=⟨[.own 0, .sl 49],[(0, .sl 44)]⟩) (cst:=[]) (outS:=⟨[.own 1],[(1, .sl 44)]⟩) (k:=1) (Q6) (by kernel_rfl) (fun S h=>rR S h)
theorem vR:zt Tryz.prog (MR Km):=
 okC (A:=⟨[Qk Zh,QV Zi],[(4,[3]),(7,[6])],[],0,[(2,⟨[0,10],⟨[.own 1212, .int .i64],[(1212, .sl 44)]⟩,[4,8,9],[],[],0,[0],⟨[.own 1212],[(1212, .sl 44)]⟩,[1212]⟩)],[(8,⟨[0,10],⟨[.own 1314, .int .i64],[(1314, .sl 44)]⟩,[],[],[],0,[],⟨[],[]⟩,[]⟩)],[]⟩) (exS:=⟨[.own 0],[(0, .sl 44)]⟩) Tryz.f63 (memC QE (memC uR zZ)) (by kernel_rfl) (by kernel_rfl) fun x=>by kernel_rfl
theorem lS:zt Tryz.prog (kH Km):=JP ipOK (by kernel_rfl) vR
theorem GU:zt Tryz.prog (QP stringslite_TrimPrefix):=
 okC (A:=⟨[qM stringslite_HasPrefix],[],[],0,[],[],[]⟩) (exS:=⟨[.str],[]⟩) Tryz.f197 (memC QS zZ) (by kernel_rfl) (by kernel_rfl) fun x=>by kernel_rfl
theorem AU:zt Tryz.prog (JI strings_TrimPrefix):=
 okC (A:=⟨[QP stringslite_TrimPrefix],[],[],0,[],[],[]⟩) (exS:=⟨[.str],[]⟩) Tryz.f162 (memC GU zZ) (by kernel_rfl) (by kernel_rfl) fun x=>by kernel_rfl
theorem Fv:zt Tryz.prog (jq qW):=
 okC (A:=⟨[],[],[],0,[],[],[]⟩) (exS:=⟨[.bool],[]⟩) Tryz.f155 zZ (by kernel_rfl) (by kernel_rfl) fun x=>by kernel_rfl
theorem sH:zt Tryz.prog (uA QR):=
 okC (A:=⟨[JI strings_TrimPrefix,jq qW],[],[],0,[],[],[]⟩) (exS:=⟨[.bool],[]⟩) Tryz.f122 (memC AU (memC Fv zZ)) (by kernel_rfl) (by kernel_rfl) fun x=>by kernel_rfl
theorem YH:zt Tryz.prog (KA Mq):=
 okC (A:=⟨[],[],[],0,[],[],[]⟩) (exS:=⟨[.bool],[]⟩) Tryz.f157 zZ (by kernel_rfl) (by kernel_rfl) fun x=>by kernel_rfl
theorem JH:zt Tryz.prog (WA Sm):=
 okC (A:=⟨[KA Mq,jq qW],[],[],0,[],[],[]⟩) (exS:=⟨[.bool],[]⟩) Tryz.f153 (memC YH (memC Fv zZ)) (by kernel_rfl) (by kernel_rfl) fun x=>by kernel_rfl
theorem WT:zt Tryz.prog (uH strings_Contains):=
 okC (A:=⟨[Wx Lj],[],[],0,[],[],[]⟩) (exS:=⟨[.bool],[]⟩) Tryz.f154 (memC yD zZ) (by kernel_rfl) (by kernel_rfl) fun x=>by kernel_rfl
theorem jQ:zt Tryz.prog (UG Uu):=
 okC (A:=⟨[qL strings_IndexByte,uA QR,Zu strings_HasPrefix,WA Sm,uH strings_Contains],[],[],0,[],[(8,⟨[3,4,5,6,7,25],⟨[.bool, .bool, .bool, .bool, .bool, .bool],[]⟩,[1,16],[],[],0,[],⟨[],[]⟩,[]⟩),(14,⟨[3,4,5,6,7,63],⟨[.bool, .bool, .bool, .bool, .bool, .bool],[]⟩,[],[],[],0,[],⟨[],[]⟩,[]⟩),(22,⟨[4,5,6,7,94],⟨[.bool, .bool, .bool, .bool, .bool],[]⟩,[3],[],[],0,[],⟨[],[]⟩,[]⟩),(24,⟨[3,4,5,6,7],⟨[.bool, .bool, .bool, .bool, .bool],[]⟩,[1],[0],[],0,[],⟨[],[]⟩,[]⟩)],[]⟩) (exS:=⟨[.bool],[]⟩) Tryz.f115 (memC Qw (memC sH (memC ZK (memC JH (memC WT zZ))))) (by kernel_rfl) (by kernel_rfl) fun x=>by kernel_rfl
theorem nS:zt Tryz.prog (lH qI):=
 okC (A:=⟨[],[],[],1,[],[],[]⟩) (exS:=⟨[.bool],[]⟩) Tryz.f116 zZ (by kernel_rfl) (by kernel_rfl) fun x=>by kernel_rfl
theorem GH:zt Tryz.prog (VA Yj):=
 okC (A:=⟨[lH qI,JA QL],[],[],0,[],[(11,⟨[5],⟨[.int .i64],[]⟩,[3],[0],[],0,[],⟨[],[]⟩,[]⟩)],[]⟩) (exS:=⟨[.int .i64],[]⟩) Tryz.f80 (memC nS (memC XH zZ)) (by kernel_rfl) (by kernel_rfl) fun x=>by kernel_rfl
theorem TR:zt Tryz.prog (mG Tq):=
 okC (A:=⟨[UG Uu,VA Yj],[],[],0,[(4,⟨[10],⟨[.int .i64],[]⟩,[0,8,9],[],[],0,[],⟨[],[]⟩,[]⟩)],[],[]⟩) (exS:=⟨[.int .i64],[]⟩) Tryz.f79 (memC jQ (memC GH zZ)) (by kernel_rfl) (by kernel_rfl) fun x=>by kernel_rfl
theorem NR:zt Tryz.prog (kG Z9):=
 okC (A:=⟨[Zu strings_HasPrefix],[],[],0,[],[],[]⟩) (exS:=⟨[.int .i64],[]⟩) Tryz.f118 (memC ZK zZ) (by kernel_rfl) (by kernel_rfl) fun x=>by kernel_rfl
theorem mH:zt Tryz.prog (dA Zm):=
 okC (A:=⟨[jq qW,KA Mq,mF Du],[(2,[2]),(3,[1]),(5,[1])],[],1,[],[],[]⟩) (exS:=⟨[.own 1],[(1, .sl 5)]⟩) Tryz.f120 (memC Fv (memC YH (memC VQ zZ))) (by kernel_rfl) (by kernel_rfl) fun x=>by kernel_rfl
theorem CS:zt Tryz.prog (yG qm):=
 okC (A:=⟨[WA Sm,jq qW,dA Zm],[(6,[2])],[],1,[(2,⟨[0,11],⟨[.own 1420, .int .i64],[(1420, .sl 5)]⟩,[1,2,6,10],[],[],0,[0],⟨[.own 1420],[(1420, .sl 5)]⟩,[1420]⟩)],[(8,⟨[0,11],⟨[.own 1522, .int .i64],[(1522, .sl 5)]⟩,[],[],[],0,[],⟨[],[]⟩,[]⟩)],[]⟩) (exS:=⟨[.own 1],[(1, .sl 5)]⟩) Tryz.f117 (memC JH (memC Fv (memC mH zZ))) (by kernel_rfl) (by kernel_rfl) fun x=>by kernel_rfl
theorem nR:zt Tryz.prog (jG ou):=
 okC (A:=⟨[],[],[],0,[],[],[]⟩) (exS:=⟨[.optr 0],[(0, .row 149)]⟩) Tryz.f123 zZ (by kernel_rfl) (by kernel_rfl) fun x=>by kernel_rfl
theorem KT:zt Tryz.prog (oH qc):=
 okC (A:=⟨[oF Eu,bE Ws,dD xk],[(2,[1]),(6,[1])],[],1,[],[(3,⟨[0,1],⟨[.own 2044, .int .i64],[(2044, .sl 5)]⟩,[2],[],[],0,[],⟨[],[]⟩,[]⟩),(9,⟨[0],⟨[.own 2147],[(2147, .sl 5)]⟩,[],[],[],0,[],⟨[],[]⟩,[]⟩)],[]⟩) (exS:=⟨[.own 1],[(1, .sl 5)]⟩) Tryz.f121 (memC WQ (memC UO (memC sN zZ))) (by kernel_rfl) (by kernel_rfl) fun x=>by kernel_rfl
theorem BS:zt Tryz.prog (xG Kq):=
 okC (A:=⟨[kG Z9,yG qm,qL strings_IndexByte,dA Zm,oH qc,uA QR,Zu strings_HasPrefix,jG ou],[(5,[7]),(7,[1]),(12,[1]),(14,[1]),(20,[2]),(22,[1]),(30,[2]),(32,[1]),(38,[4])],[],1,[(16,⟨[0,67],⟨[.own 1837, .int .i64],[(1837, .sl 5)]⟩,[3,4,65,66],[1,4],[],1,[0],⟨[.own 1837],[(1837, .sl 5)]⟩,[1837]⟩),(26,⟨[0,93],⟨[.own 1941, .int .i64],[(1941, .sl 5)]⟩,[3,4,91,92],[1,3],[],3,[0],⟨[.own 1941],[(1941, .sl 5)]⟩,[1941]⟩)],[(12,⟨[5],⟨[.int .i64],[(0, .sl 5)]⟩,[0,3],[1],[0],0,[],⟨[],[]⟩,[]⟩),(21,⟨[0,67],⟨[.own 1939, .int .i64],[(1939, .sl 5)]⟩,[],[],[],0,[],⟨[],[]⟩,[]⟩),(31,⟨[0,93],⟨[.own 2043, .int .i64],[(2043, .sl 5)]⟩,[],[],[],0,[],⟨[],[]⟩,[]⟩)],[]⟩) (exS:=⟨[.own 1],[(1, .sl 5)]⟩) Tryz.f81 (memC NR (memC CS (memC Qw (memC mH (memC KT (memC sH (memC ZK (memC nR zZ)))))))) (by kernel_rfl) (by kernel_rfl) fun x=>by kernel_rfl
theorem BU:zt Tryz.prog (KI qg):=
 okC (A:=⟨[],[],[],0,[(4,⟨[13],⟨[.int .i64],[]⟩,[0,1,12],[],[],0,[],⟨[],[]⟩,[]⟩)],[],[]⟩) (exS:=⟨[.bool],[]⟩) Tryz.f82 zZ (by kernel_rfl) (by kernel_rfl) fun x=>by kernel_rfl
theorem PR:zt Tryz.prog (lG Sq):=
 okC (A:=⟨[mG Tq,VA Yj,xG Kq,Ev qh,KI qg],[(24,[5])],[],0,[(7,⟨[5,6,7],⟨[.own 2254, .own 2255, .int .i64],[(2254, .sl 5),(2255, .sl 119)]⟩,[0],[],[],0,[5],⟨[.own 2254],[(2254, .sl 5)]⟩,[2254]⟩),(11,⟨[9,36],⟨[.own 1835, .int .i64],[(1835, .sl 5)]⟩,[5,6,7,8,34,35],[2254,2255],[],2,[9],⟨[.own 1835],[(1835, .sl 5)]⟩,[1835]⟩)],[(17,⟨[5,6,7,9],⟨[.own 2254, .own 2255, .int .i64, .own 2357],[(2254, .sl 5),(2255, .sl 119),(2357, .sl 5)]⟩,[8],[],[2254,2255],0,[],⟨[],[]⟩,[]⟩),(21,⟨[5,6,7],⟨[.own 2254, .own 2255, .int .i64],[(2254, .sl 5),(2255, .sl 119),(2358, .row 119)]⟩,[9,12],[2357],[2254,2255,2358],0,[],⟨[],[]⟩,[]⟩),(24,⟨[5,6,7],⟨[.own 2462, .own 2255, .int .i64],[(2255, .sl 119),(2462, .sl 5)]⟩,[],[2358],[2255],0,[],⟨[],[]⟩,[]⟩)],[]⟩) (exS:=⟨[.str, .int .i64],[]⟩) Tryz.f46 (memC TR (memC GH (memC BS (memC YA (memC BU zZ))))) (by kernel_rfl) (by kernel_rfl) fun x=>by kernel_rfl
theorem gQ:zt Tryz.prog (SG Yp):=
 okC (A:=⟨[UA Qn,kH Km,lG Sq],[],[],0,[],[],[]⟩) (exS:=⟨[.str, .int .i64],[]⟩) Tryz.f20 (memC FH (memC lS (memC PR zZ))) (by kernel_rfl) (by kernel_rfl) fun x=>by kernel_rfl
theorem EH:zt Tryz.prog (TA qY):=
 okC (A:=⟨[UA Qn,Om Zt],[],[],0,[],[],[]⟩) (exS:=⟨[.int .i64, .int .i64],[]⟩) Tryz.f26 (memC FH (memC rG zZ)) (by kernel_rfl) (by kernel_rfl) fun x=>by kernel_rfl
theorem wR:zt Tryz.prog (uG Jq):=
 okC (A:=⟨[Ev qh,ut parseF,SG Yp,TA qY],[],[],0,[],[],[]⟩) (exS:=⟨[.str, .int .i64, .bool],[]⟩) Tryz.f31 (memC YA (memC gy (memC gQ (memC EH zZ)))) (by kernel_rfl) (by kernel_rfl) fun x=>by kernel_rfl
theorem xR:zt Tryz.prog (vG ZU):=
 okC (A:=⟨[uG Jq,Ev qh,ut parseF],[],[],0,[],[],[]⟩) (exS:=⟨[.bool],[]⟩) Tryz.f24 (memC wR (memC YA (memC gy zZ))) (by kernel_rfl) (by kernel_rfl) fun x=>by kernel_rfl
theorem XT:zt Tryz.prog (DI Q3):=
 okC (A:=⟨[vG ZU,jH gq,ut parseF,TA qY],[(13,[2]),(21,[3])],[],0,[(6,⟨[3,4,5],⟨[.own 2989, .int .i64, .int .i64],[(2989, .sl 5)]⟩,[0,2],[],[],0,[4],⟨[.int .i64],[]⟩,[]⟩),(23,⟨[13],⟨[.int .i64],[]⟩,[4,8,10,12],[],[],2,[],⟨[],[]⟩,[]⟩)],[(7,⟨[3,4,5],⟨[.own 3091, .int .i64, .int .i64],[(3091, .sl 5)]⟩,[],[],[],0,[],⟨[],[]⟩,[]⟩)],[]⟩) (exS:=⟨[.bool],[]⟩) Tryz.f4 (memC xR (memC wS (memC gy (memC EH zZ)))) (by kernel_rfl) (by kernel_rfl) fun x=>by kernel_rfl
end Go.Lv.VT
end
