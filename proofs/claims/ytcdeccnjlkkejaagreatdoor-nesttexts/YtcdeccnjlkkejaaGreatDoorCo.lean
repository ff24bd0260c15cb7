/- Contracts. -/
import Derived.Test.YtcdeccnjlkkejaaGreatDoorTx
import Derived.Test.YtcdeccnjlkkejaaGreatDoorIp
import Derived.Test.YtcdeccnjlkkejaaGreatDoorLf
import Derived.Test.YtcdeccnjlkkejaaGreatDoorPa
noncomputable section
set_option linter.unusedSimpArgs false
set_option linter.unusedVariables false
namespace Go.Lv.VT
set_option maxRecDepth 100000
open Go.Proofs
theorem okC{con:Con I}{A:Env0 I}{exS:StSh}(f:Go.Func)(d: ∀c∈A.S,zn Tryz.prog c)(hf:Tryz.prog.funcs[con.f]? =some f)(h:chk con A f=true)(i: ∀x,evF2 A T FK f.ntmps (rsl f) (body f) con exS x=con.F x):zn Tryz.prog con:=
 okC0 mixed ipOK tok rfl rfl d hf h i
def AV(F:Int->Option Int):Con I:=⟨25,⟨[.int .u8],[]⟩,[],⟨[.int .u8],[]⟩,0,F⟩
def IA(F:List zg->Option (List zb)):Con I:=⟨36,⟨[.sl 49],[]⟩,[],⟨[.sl 44],[]⟩,0,F⟩
def QA(F:Str×Str->Option Bool):Con I:=⟨130,⟨[.str, .str],[]⟩,[],⟨[.bool],[]⟩,0,F⟩
def ZN(F:Str×Str->Option Bool):Con I:=⟨93,⟨[.str, .str],[]⟩,[],⟨[.bool],[]⟩,0,F⟩
def wV(F:za->Option za):Con I:=⟨100,⟨[.optr 0],[(0, .row 133)]⟩,[],⟨[],[(0, .row 133)]⟩,0,F⟩
def zw(F:Int×za->Option Int):Con I:=⟨137,⟨[.optr 0, .int .i64],[(0, .row 133)]⟩,[0],⟨[.int .i64],[]⟩,0,F⟩
def wu(F:Int->Option Bool):Con I:=⟨138,⟨[.int .i64],[]⟩,[],⟨[.bool],[]⟩,0,F⟩
def qP(F:za->Option za):Con I:=⟨139,⟨[.optr 0, .clo 138 []],[(0, .row 133)]⟩,[],⟨[],[(0, .row 133)]⟩,0,F⟩
def QT(F:Int->Option (List UInt8)):Con I:=⟨237,⟨[.nilv, .int .i32],[]⟩,[],⟨[.own 0],[(0, .sl 5)]⟩,1,F⟩
def gV(F:Int->Option (List UInt8)):Con I:=⟨210,⟨[.nilv, .int .i32],[]⟩,[],⟨[.own 0],[(0, .sl 5)]⟩,1,F⟩
def EA(F:Int×Int×Int->Option Bool):Con I:=⟨212,⟨[.int .i64, .int .i64, .int .i64],[]⟩,[],⟨[.bool],[]⟩,0,F⟩
def xu(F:Int->Option Bool):Con I:=⟨174,⟨[.int .i64],[]⟩,[],⟨[.bool],[]⟩,0,F⟩
def vJ(F:Int->Option Int):Con I:=⟨211,⟨[.int .i64],[]⟩,[],⟨[.int .i64],[]⟩,0,F⟩
def uV(F:za->Option (za×List UInt8)):Con I:=⟨172,⟨[.optr 0, .nilv],[(0, .row 133)]⟩,[],⟨[.own 1],[(0, .row 133),(1, .sl 5)]⟩,1,F⟩
def QU(F:Int×List UInt8->Option (List UInt8)):Con I:=⟨237,⟨[.own 0, .int .i32],[(0, .sl 5)]⟩,[],⟨[.own 1],[(1, .sl 5)]⟩,1,F⟩
def fV(F:Int×List UInt8->Option (List UInt8)):Con I:=⟨210,⟨[.own 0, .int .i32],[(0, .sl 5)]⟩,[],⟨[.own 1],[(1, .sl 5)]⟩,1,F⟩
def ZV(F:za×List UInt8->Option (za×List UInt8)):Con I:=⟨172,⟨[.optr 0, .own 1],[(0, .row 133),(1, .sl 5)]⟩,[],⟨[.own 2],[(0, .row 133),(2, .sl 5)]⟩,1,F⟩
def nV(F:za->Option (zb×za)):Con I:=⟨140,⟨[.optr 0],[(0, .row 133)]⟩,[],⟨[.val 44],[(0, .row 133)]⟩,0,F⟩
def SK(F:Int->Option Bool):Con I:=⟨173,⟨[.int .i64],[]⟩,[],⟨[.bool],[]⟩,0,F⟩
def dK(F:Int->Option Bool):Con I:=⟨141,⟨[.int .i64],[]⟩,[],⟨[.bool],[]⟩,0,F⟩
def Zy(F:Int×za->Option Bool):Con I:=⟨142,⟨[.optr 0, .int .i64],[(0, .row 133)]⟩,[0],⟨[.bool],[]⟩,0,F⟩
def AL(F:Int×za->Option Bool):Con I:=⟨143,⟨[.optr 0, .int .i64],[(0, .row 133)]⟩,[0],⟨[.bool],[]⟩,0,F⟩
def Qc(F:za->Option (Str×za)):Con I:=⟨144,⟨[.optr 0],[(0, .row 133)]⟩,[],⟨[.str],[(0, .row 133)]⟩,0,F⟩
def oV(F:za->Option Bool):Con I:=⟨145,⟨[.optr 0],[(0, .row 133)]⟩,[0],⟨[.bool],[]⟩,0,F⟩
def pV(F:za->Option za):Con I:=⟨139,⟨[.optr 0, .clo 174 []],[(0, .row 133)]⟩,[],⟨[],[(0, .row 133)]⟩,0,F⟩
def yV(F:za->Option (Bool×za)):Con I:=⟨175,⟨[.optr 0],[(0, .row 133)]⟩,[],⟨[.bool],[(0, .row 133)]⟩,0,F⟩
def iV(F:Str->Option Int):Con I:=⟨176,⟨[.str],[]⟩,[],⟨[.int .i64],[]⟩,0,F⟩
def rV(F:za->Option (zb×za)):Con I:=⟨146,⟨[.optr 0],[(0, .row 133)]⟩,[],⟨[.val 44],[(0, .row 133)]⟩,0,F⟩
def LU(F:Str->Option Str):Con I:=⟨108,⟨[.str],[]⟩,[],⟨[.str],[]⟩,0,F⟩
def UK(F:Str×Str->Option Bool):Con I:=⟨109,⟨[.str, .str],[]⟩,[],⟨[.bool],[]⟩,0,F⟩
def kV(F:za->Option (zb×za)):Con I:=⟨216,⟨[.optr 0],[(0, .row 133)]⟩,[],⟨[.val 44],[(0, .row 133)]⟩,0,F⟩
def jV(F:za->Option (zb×za)):Con I:=⟨177,⟨[.optr 0],[(0, .row 133)]⟩,[],⟨[.val 44],[(0, .row 133)]⟩,0,F⟩
def tV(F:za->Option (zb×za)):Con I:=⟨147,⟨[.optr 0],[(0, .row 133)]⟩,[],⟨[.val 44],[(0, .row 133)]⟩,0,F⟩
def Qz(F:Str×Int->Option Int):Con I:=⟨119,⟨[.str, .int .u8],[]⟩,[],⟨[.int .i64],[]⟩,0,F⟩
def aV(F:za->Option (zb×za)):Con I:=⟨101,⟨[.optr 0],[(0, .row 133)]⟩,[],⟨[.val 44],[(0, .row 133)]⟩,0,F⟩
def VV(F:(zb×Int×Int)×List zb->Option (List zb)):Con I:=⟨70,⟨[.val 44, .int .i64, .int .i64, .optr 0],[(0, .cells 22 [.own 1]),(1, .sl 44)]⟩,[],⟨[],[(0, .cells 22 [.own 2]),(2, .sl 44)]⟩,1,F⟩
def yU(F:Str->Option (Int×List zb)):Con I:=⟨69,⟨[.str, .clo 70 [0]],[(0, .cells 22 [.nilv])]⟩,[],⟨[.int .i64],[(0, .cells 22 [.own 1]),(1, .sl 44)]⟩,1,F⟩
def GA(F:Str->Option (List zb×Int)):Con I:=⟨33,⟨[.str],[]⟩,[],⟨[.sl 44, .int .i64],[]⟩,0,F⟩
def yu(F:Int->Option Int):Con I:=⟨61,⟨[.int .u8],[]⟩,[],⟨[.int .u8],[]⟩,0,F⟩
def ku(F:List zg×Int->Option zI):Con I:=⟨65,⟨[.sl 49, .int .u8],[]⟩,[],⟨[.val 101],[]⟩,0,F⟩
def aK(F:List zg->Option Int):Con I:=⟨32,⟨[.sl 49],[]⟩,[],⟨[.int .i64],[]⟩,0,F⟩
def TA(F:List zg×List zb->Option (List zb)):Con I:=⟨63,⟨[.own 0, .sl 49],[(0, .sl 44)]⟩,[],⟨[.own 1],[(1, .sl 44)]⟩,1,F⟩
def zop(F:List zg->Option (List zb)):Con I:=⟨63,⟨[.nilv, .sl 49],[]⟩,[],⟨[.own 0],[(0, .sl 44)]⟩,1,F⟩
def xV(F:Str×Str->Option Str):Con I:=⟨197,⟨[.str, .str],[]⟩,[],⟨[.str],[]⟩,0,F⟩
def bV(F:Str×Str->Option Str):Con I:=⟨162,⟨[.str, .str],[]⟩,[],⟨[.str],[]⟩,0,F⟩
def AA(F:Int->Option Bool):Con I:=⟨155,⟨[.int .u8],[]⟩,[],⟨[.bool],[]⟩,0,F⟩
def jK(F:Str->Option Bool):Con I:=⟨122,⟨[.str],[]⟩,[],⟨[.bool],[]⟩,0,F⟩
def VK(F:Int->Option Bool):Con I:=⟨157,⟨[.int .u8],[]⟩,[],⟨[.bool],[]⟩,0,F⟩
def cK(F:Int->Option Bool):Con I:=⟨153,⟨[.int .u8],[]⟩,[],⟨[.bool],[]⟩,0,F⟩
def WV(F:Str×Str->Option Bool):Con I:=⟨154,⟨[.str, .str],[]⟩,[],⟨[.bool],[]⟩,0,F⟩
def yS(F:zb->Option Bool):Con I:=⟨115,⟨[.val 44],[]⟩,[],⟨[.bool],[]⟩,0,F⟩
def kU(F:(Int×Int)×List zb->Option Bool):Con I:=⟨116,⟨[.int .i64, .int .u8, .optr 0],[(0, .row 22)]⟩,[0],⟨[.bool],[]⟩,0,F⟩
def bK(F:List zb->Option Int):Con I:=⟨80,⟨[.sl 44],[]⟩,[],⟨[.int .i64],[]⟩,0,F⟩
def gT(F:List zb->Option Int):Con I:=⟨79,⟨[.sl 44],[]⟩,[],⟨[.int .i64],[]⟩,0,F⟩
def eT(F:Str->Option Int):Con I:=⟨118,⟨[.str],[]⟩,[],⟨[.int .i64],[]⟩,0,F⟩
def tK(F:Int×List UInt8->Option (List UInt8)):Con I:=⟨120,⟨[.own 0, .int .u8],[(0, .sl 5)]⟩,[],⟨[.own 1],[(1, .sl 5)]⟩,1,F⟩
def NU(F:(Str×Int)×List UInt8->Option (List UInt8)):Con I:=⟨117,⟨[.own 0, .str, .int .i64],[(0, .sl 5)]⟩,[],⟨[.own 1],[(1, .sl 5)]⟩,1,F⟩
def bT(F:Unit->Option QK):Con I:=⟨123,⟨[],[]⟩,[],⟨[.val 149],[]⟩,0,F⟩
def UV(F:(Int×Bool)×List UInt8->Option (List UInt8)):Con I:=⟨121,⟨[.own 0, .int .i64, .bool],[(0, .sl 5)]⟩,[],⟨[.own 1],[(1, .sl 5)]⟩,1,F⟩
def MU(F:zb×List UInt8->Option (List UInt8)):Con I:=⟨81,⟨[.own 0, .val 44],[(0, .sl 5)]⟩,[],⟨[.own 1],[(1, .sl 5)]⟩,1,F⟩
def dV(F:List zb×List zb->Option Bool):Con I:=⟨82,⟨[.sl 44, .sl 44],[]⟩,[],⟨[.bool],[]⟩,0,F⟩
def fT(F:List zb->Option (Str×Int)):Con I:=⟨46,⟨[.sl 44],[]⟩,[],⟨[.str, .int .i64],[]⟩,0,F⟩
def wJ(F:List zg->Option (Str×Int)):Con I:=⟨20,⟨[.sl 49],[]⟩,[],⟨[.str, .int .i64],[]⟩,0,F⟩
def YT(F:List zg->Option (Int×Int)):Con I:=⟨26,⟨[.sl 49],[]⟩,[],⟨[.int .i64, .int .i64],[]⟩,0,F⟩
def JU(F:Str->Option (Str×Int×Bool)):Con I:=⟨31,⟨[.str],[]⟩,[],⟨[.str, .int .i64, .bool],[]⟩,0,F⟩
def KU(F:Unit->Option Bool):Con I:=⟨24,⟨[],[]⟩,[],⟨[.bool],[]⟩,0,F⟩
def yz(F:List zg×List zg->Option Bool):Con I:=⟨22,⟨[.sl 49, .sl 49],[]⟩,[],⟨[.bool],[]⟩,0,F⟩
def DU(F:Str->Option Bool):Con I:=⟨102,⟨[.str],[]⟩,[],⟨[.bool],[]⟩,0,F⟩
def qO(F:Int->Option Bool):Con I:=⟨148,⟨[.int .u8],[]⟩,[],⟨[.bool],[]⟩,0,F⟩
def PT(F:Str->Option Bool):Con I:=⟨103,⟨[.str],[]⟩,[],⟨[.bool],[]⟩,0,F⟩
def SA(F:Int->Option Bool):Con I:=⟨178,⟨[.int .u8],[]⟩,[],⟨[.bool],[]⟩,0,F⟩
def Qg(F:Str×Int->Option Int):Con I:=⟨217,⟨[.str, .int .i64],[]⟩,[],⟨[.int .u8],[]⟩,0,F⟩
def SF(F:Str×Int->Option Int):Con I:=⟨179,⟨[.str, .int .i64],[]⟩,[],⟨[.int .i64],[]⟩,0,F⟩
def YK(F:Unit->Option Str):Con I:=⟨244,⟨[],[]⟩,[],⟨[.str],[]⟩,0,F⟩
def wE(F:Int->Option Int):Con I:=⟨150,⟨[.int .u8],[]⟩,[],⟨[.int .u8],[]⟩,0,F⟩
def wS(F:Int->Option Int):Con I:=⟨245,⟨[.int .u8],[]⟩,[],⟨[.int .i64],[]⟩,0,F⟩
def XT(F:Int->Option Str):Con I:=⟨246,⟨[.int .i64],[]⟩,[],⟨[.str],[]⟩,0,F⟩
def QS(F:Str×Int->Option (Str×Int)):Con I:=⟨218,⟨[.str, .int .i64],[]⟩,[],⟨[.str, .int .i64],[]⟩,0,F⟩
def gU(F:Str×Int->Option (zb×Int)):Con I:=⟨180,⟨[.str, .int .i64],[]⟩,[],⟨[.val 44, .int .i64],[]⟩,0,F⟩
def fK(F:Int->Option Bool):Con I:=⟨198,⟨[.int .u8],[]⟩,[],⟨[.bool],[]⟩,0,F⟩
def iK(F:Int->Option Bool):Con I:=⟨163,⟨[.int .u8],[]⟩,[],⟨[.bool],[]⟩,0,F⟩
def QL(F:Str×Int->Option Bool):Con I:=⟨181,⟨[.str, .int .i64],[]⟩,[],⟨[.bool],[]⟩,0,F⟩
def vE(F:Str×Int->Option (Str×Int)):Con I:=⟨182,⟨[.str, .int .i64],[]⟩,[],⟨[.str, .int .i64],[]⟩,0,F⟩
def gK(F:Str×Int->Option Bool):Con I:=⟨183,⟨[.str, .int .i64],[]⟩,[],⟨[.bool],[]⟩,0,F⟩
def RV(F:Str×Int->Option Bool):Con I:=⟨184,⟨[.str, .int .i64],[]⟩,[],⟨[.bool],[]⟩,0,F⟩
def iU(F:Str×Int->Option Int):Con I:=⟨247,⟨[.str, .int .i64],[]⟩,[],⟨[.int .i64],[]⟩,0,F⟩
def XV(F:Str×Int->Option (Int×Bool)):Con I:=⟨219,⟨[.str, .int .i64],[]⟩,[],⟨[.int .i64, .bool],[]⟩,0,F⟩
def mV(F:Str->Option Int):Con I:=⟨220,⟨[.str],[]⟩,[],⟨[.int .i64],[]⟩,0,F⟩
def SV(F:Str×Int->Option (zb×Int)):Con I:=⟨185,⟨[.str, .int .i64],[]⟩,[],⟨[.val 44, .int .i64],[]⟩,0,F⟩
def sS(F:Str×Int×Str->Option Bool):Con I:=⟨186,⟨[.str, .int .i64, .str],[]⟩,[],⟨[.bool],[]⟩,0,F⟩
def IU(F:Str->Option Str):Con I:=⟨105,⟨[.str],[]⟩,[],⟨[.str],[]⟩,0,F⟩
def TK(F:Str×Str->Option Bool):Con I:=⟨72,⟨[.str, .str],[]⟩,[],⟨[.bool],[]⟩,0,F⟩
def uS(F:Str×Int->Option (zb×Int)):Con I:=⟨248,⟨[.str, .int .i64],[]⟩,[],⟨[.val 44, .int .i64],[]⟩,0,F⟩
def lV(F:Int->Option Bool):Con I:=⟨249,⟨[.int .u8],[]⟩,[],⟨[.bool],[]⟩,0,F⟩
def nS(F:Str×Int->Option (zb×Int)):Con I:=⟨221,⟨[.str, .int .i64],[]⟩,[],⟨[.val 44, .int .i64],[]⟩,0,F⟩
def UT(F:Str×Int->Option (zb×Int)):Con I:=⟨187,⟨[.str, .int .i64],[]⟩,[],⟨[.val 44, .int .i64],[]⟩,0,F⟩
def WT(F:Int->Option Int):Con I:=⟨188,⟨[.int .u8],[]⟩,[],⟨[.int .u8],[]⟩,0,F⟩
def vS(F:Str×Int->Option (zb×Int)):Con I:=⟨149,⟨[.str, .int .i64],[]⟩,[],⟨[.val 44, .int .i64],[]⟩,0,F⟩
def FU(F:Int->Option Bool):Con I:=⟨104,⟨[.int .u8],[]⟩,[],⟨[.bool],[]⟩,0,F⟩
def OT(F:zb->Option Bool):Con I:=⟨71,⟨[.val 44],[]⟩,[],⟨[.bool],[]⟩,0,F⟩
def GU(F:List zb->Option Int):Con I:=⟨35,⟨[.sl 44],[]⟩,[],⟨[.int .i64],[]⟩,0,F⟩
def EU(F:List zb->Option Bool):Con I:=⟨34,⟨[.sl 44],[]⟩,[],⟨[.bool],[]⟩,0,F⟩
def YV(F:Str->Option Bool):Con I:=⟨7,⟨[.str],[]⟩,[],⟨[.bool],[]⟩,0,F⟩
def jU(F:List zg->Option (List zb)):Con I:=⟨63,⟨[.nilv, .sl 49],[]⟩,[],⟨[.sl 44],[]⟩,0,F⟩
def YO(F:Str->Option (Str×Int)):Con I:=⟨99,⟨[.str],[]⟩,[],⟨[.str, .int .i64],[]⟩,0,F⟩
theorem O0:zn Tryz.prog (YO ul):=O5
def BR(F:Str×Int->Option Int):Con I:=⟨156,⟨[.str, .int .u8],[]⟩,[],⟨[.int .i64],[]⟩,0,F⟩
theorem V5:zn Tryz.prog (BR Tx):=R6
def mH(F:Str×Str->Option Int):Con I:=⟨136,⟨[.str, .str],[]⟩,[],⟨[.int .i64],[]⟩,0,F⟩
theorem fP:zn Tryz.prog (mH Am):=M5
def XO(F:Str×Str->Option Str):Con I:=⟨213,⟨[.str, .str],[]⟩,[],⟨[.str],[]⟩,0,F⟩
theorem yZ:zn Tryz.prog (XO Uk):=sZ
def IP(F:Str×Str->Option Str):Con I:=⟨160,⟨[.str, .str],[]⟩,[],⟨[.str],[]⟩,0,F⟩
theorem xZ:zn Tryz.prog (IP xm):=rZ
def xS(F:Str×Str->Option Int):Con I:=⟨214,⟨[.str, .str],[]⟩,[],⟨[.int .i64],[]⟩,0,F⟩
theorem zrd:zn Tryz.prog (xS QZ):=zqz
def XX(F:Str×Str->Option (Str×Str×Bool)):Con I:=⟨215,⟨[.str, .str],[]⟩,[],⟨[.str, .str, .bool],[]⟩,0,F⟩
theorem zCD:zn Tryz.prog (XX cutF):=zCh
def CR(F:Int×Int->Option Str):Con I:=⟨161,⟨[.int .i64, .int .i64],[]⟩,[],⟨[.str],[]⟩,0,F⟩
theorem X5:zn Tryz.prog (CR Tp):=U6
def XR(F:(Int×Int)×List UInt8->Option (List UInt8)):Con I:=⟨158,⟨[.own 0, .int .u64, .int .i64],[(0, .sl 5)]⟩,[],⟨[.own 1],[(1, .sl 5)]⟩,1,F⟩
theorem zs3:zn Tryz.prog (XR Fq):=zsB
def YR(F:(Int×Int)×List UInt8->Option (List UInt8)):Con I:=⟨159,⟨[.own 0, .int .i64, .int .i64],[(0, .sl 5)]⟩,[],⟨[.own 1],[(1, .sl 5)]⟩,1,F⟩
theorem zs2:zn Tryz.prog (YR Gq):=zsA
def KD(F:List zb->Option (List zg×Int)):Con I:=⟨16,⟨[.sl 44],[]⟩,[],⟨[.sl 49, .int .i64],[]⟩,0,F⟩
theorem iI:zn Tryz.prog (KD parseF):=K5
theorem zlX:zn Tryz.prog (AV vz):=
 okC (A:=⟨[],[],[],0,[],[(6,⟨[6],⟨[.bool],[]⟩,[3],[],[],0,[],⟨[],[]⟩,[]⟩)],[]⟩) (exS:=⟨[.int .u8],[]⟩) Tryz.f25 zK (by kernel_rfl) (by kernel_rfl) fun x=>by kernel_rfl
theorem zmn(qz:List zg->Option (List zb))(c:zn Tryz.prog (IA qz)):zn Tryz.prog (IA (JF qz)):=
 okC (A:=⟨[AV vz,IA qz],[(5,[6]),(9,[3])],[],0,[(3,⟨[3,4],⟨[.own 1001, .int .i64],[(1001, .sl 44)]⟩,[0,2],[],[],0,[3],⟨[.own 1001],[(1001, .sl 44)]⟩,[1001]⟩)],[(4,⟨[3,4],⟨[.own 1103, .int .i64],[(1103, .sl 44)]⟩,[],[],[],0,[],⟨[],[]⟩,[]⟩)],[]⟩) (exS:=⟨[.sl 44],[]⟩) Tryz.f36 (memC zlX (memC c zK)) (by kernel_rfl) (by kernel_rfl) fun x=>by kernel_rfl
theorem zlY:zn Tryz.prog (IA qz):=
 zn.recE (I:=I) (P:=Tryz.prog) (f:=36) (inS:=⟨[.sl 49],[]⟩) (cst:=[]) (outS:=⟨[.sl 44],[]⟩) (k:=0) (JF) (by kernel_rfl) (fun S h=>zmn S h)
theorem vV:zn Tryz.prog (QA stringslite_HasPrefix):=
 okC (A:=⟨[],[],[],0,[],[],[]⟩) (exS:=⟨[.bool],[]⟩) Tryz.f130 zK (by kernel_rfl) (by kernel_rfl) fun x=>by kernel_rfl
theorem qh:zn Tryz.prog (ZN strings_HasPrefix):=
 okC (A:=⟨[QA stringslite_HasPrefix],[],[],0,[],[],[]⟩) (exS:=⟨[.bool],[]⟩) Tryz.f93 (memC vV zK) (by kernel_rfl) (by kernel_rfl) fun x=>by kernel_rfl
theorem zdJ:zn Tryz.prog (wV Zh):=
 okC (A:=⟨[ZN strings_HasPrefix,mH Am],[],[],1,[(0,⟨[],⟨[],[(0, .row 133)]⟩,[0],[],[0],0,[],⟨[],[(0, .row 133)]⟩,[0]⟩)],[],[]⟩) (exS:=⟨[],[(0, .row 133)]⟩) Tryz.f100 (memC qh (memC fP zK)) (by kernel_rfl) (by kernel_rfl) fun x=>by kernel_rfl
theorem zx:zn Tryz.prog (zw zf):=
 okC (A:=⟨[],[],[],1,[],[],[]⟩) (exS:=⟨[.int .i64],[]⟩) Tryz.f137 zK (by kernel_rfl) (by kernel_rfl) fun x=>by kernel_rfl
theorem NA:zn Tryz.prog (wu qd):=
 okC (A:=⟨[],[],[],0,[],[],[]⟩) (exS:=⟨[.bool],[]⟩) Tryz.f138 zK (by kernel_rfl) (by kernel_rfl) fun x=>by kernel_rfl
theorem QR:zn Tryz.prog (qP zS):=
 okC (A:=⟨[zw zf,wu qd],[],[],1,[(0,⟨[],⟨[],[(0, .row 133)]⟩,[0,1],[],[0],0,[],⟨[],[(0, .row 133)]⟩,[0]⟩)],[],[]⟩) (exS:=⟨[],[(0, .row 133)]⟩) Tryz.f139 (memC zx (memC NA zK)) (by kernel_rfl) (by kernel_rfl) fun x=>by kernel_rfl
theorem zcu:zn Tryz.prog (QT ZY):=
 okC (A:=⟨[],[(2,[1]),(4,[9]),(7,[14]),(9,[19])],[],0,[],[(7,⟨[25],⟨[.bool],[]⟩,[0,1,5],[],[],0,[],⟨[],[]⟩,[]⟩)],[]⟩) (exS:=⟨[.own 0],[(0, .sl 5)]⟩) Tryz.f237 zK (by kernel_rfl) (by kernel_rfl) fun x=>by kernel_rfl
theorem zgs:zn Tryz.prog (gV ZT):=
 okC (A:=⟨[QT ZY],[(2,[3])],[],0,[],[],[]⟩) (exS:=⟨[.own 0],[(0, .sl 5)]⟩) Tryz.f210 (memC zcu zK) (by kernel_rfl) (by kernel_rfl) fun x=>by kernel_rfl
theorem xE:zn Tryz.prog (EA ZM):=
 okC (A:=⟨[],[],[],0,[],[],[]⟩) (exS:=⟨[.bool],[]⟩) Tryz.f212 zK (by kernel_rfl) (by kernel_rfl) fun x=>by kernel_rfl
theorem OA:zn Tryz.prog (xu Zt):=
 okC (A:=⟨[EA ZM],[],[],0,[],[],[]⟩) (exS:=⟨[.bool],[]⟩) Tryz.f174 (memC xE zK) (by kernel_rfl) (by kernel_rfl) fun x=>by kernel_rfl
theorem lT:zn Tryz.prog (vJ yn):=
 okC (A:=⟨[xu Zt,EA ZM],[],[],0,[],[],[]⟩) (exS:=⟨[.int .i64],[]⟩) Tryz.f211 (memC OA (memC xE zK)) (by kernel_rfl) (by kernel_rfl) fun x=>by kernel_rfl
theorem zdd:zn Tryz.prog (uV ZJ):=
 okC (A:=⟨[zw zf,gV ZT,vJ yn,wu qd],[(7,[3])],[],1,[(10,⟨[6,36],⟨[.int .i64, .int .i64],[(0, .row 133)]⟩,[0,1,4],[],[0],0,[6],⟨[.int .i64],[(0, .row 133)]⟩,[0]⟩)],[(17,⟨[6],⟨[.int .i64],[(0, .row 133)]⟩,[1],[],[0],0,[],⟨[],[]⟩,[]⟩),(19,⟨[6],⟨[.int .i64],[]⟩,[],[0],[],0,[],⟨[],[]⟩,[]⟩)],[]⟩) (exS:=⟨[.own 1],[(0, .row 133),(1, .sl 5)]⟩) Tryz.f172 (memC zx (memC zgs (memC lT (memC NA zK)))) (by kernel_rfl) (by kernel_rfl) fun x=>by kernel_rfl
theorem zcv:zn Tryz.prog (QU ZZ):=
 okC (A:=⟨[],[(2,[1]),(4,[9]),(7,[14]),(9,[19])],[],1,[],[(7,⟨[25],⟨[.bool],[(0, .sl 5)]⟩,[0,1,5],[],[0],0,[],⟨[],[]⟩,[]⟩)],[]⟩) (exS:=⟨[.own 1],[(1, .sl 5)]⟩) Tryz.f237 zK (by kernel_rfl) (by kernel_rfl) fun x=>by kernel_rfl
theorem zgt:zn Tryz.prog (fV ZU):=
 okC (A:=⟨[QU ZZ],[(2,[3])],[],1,[],[],[]⟩) (exS:=⟨[.own 1],[(1, .sl 5)]⟩) Tryz.f210 (memC zcv zK) (by kernel_rfl) (by kernel_rfl) fun x=>by kernel_rfl
theorem qM:zn Tryz.prog (ZV zO):=
 okC (A:=⟨[zw zf,fV ZU,vJ yn,wu qd],[(7,[3])],[],2,[(10,⟨[6,36],⟨[.int .i64, .int .i64],[(0, .row 133)]⟩,[0,1,4],[1],[0],0,[6],⟨[.int .i64],[(0, .row 133)]⟩,[0]⟩)],[(17,⟨[6],⟨[.int .i64],[(0, .row 133),(1, .sl 5)]⟩,[1],[],[0,1],0,[],⟨[],[]⟩,[]⟩),(19,⟨[6],⟨[.int .i64],[(1, .sl 5)]⟩,[],[0],[1],0,[],⟨[],[]⟩,[]⟩)],[]⟩) (exS:=⟨[.own 2],[(0, .row 133),(2, .sl 5)]⟩) Tryz.f172 (memC zx (memC zgt (memC lT (memC NA zK)))) (by kernel_rfl) (by kernel_rfl) fun x=>by kernel_rfl
theorem zeF:zn Tryz.prog (nV qi):=
 okC (A:=⟨[zw zf,ZV zO],[(5,[3])],[],1,[(4,⟨[4],⟨[.own 1104],[(0, .row 133),(1, .row 44),(1104, .sl 5)]⟩,[0,2,3],[],[0,1],0,[4],⟨[.own 1104],[(0, .row 133),(1, .row 44),(1104, .sl 5)]⟩,[0,1,1104]⟩)],[],[]⟩) (exS:=⟨[.optr 1],[(0, .row 133),(1, .row 44)]⟩) Tryz.f140 (memC zx (memC qM zK)) (by kernel_rfl) (by kernel_rfl) fun x=>by kernel_rfl
theorem nU:zn Tryz.prog (SK Tq):=
 okC (A:=⟨[EA ZM],[],[],0,[],[],[]⟩) (exS:=⟨[.bool],[]⟩) Tryz.f173 (memC xE zK) (by kernel_rfl) (by kernel_rfl) fun x=>by kernel_rfl
theorem BV:zn Tryz.prog (dK Av):=
 okC (A:=⟨[SK Tq,xu Zt],[],[],0,[],[],[]⟩) (exS:=⟨[.bool],[]⟩) Tryz.f141 (memC nU (memC OA zK)) (by kernel_rfl) (by kernel_rfl) fun x=>by kernel_rfl
theorem ZH:zn Tryz.prog (Zy zt):=
 okC (A:=⟨[zw zf],[],[],1,[],[],[]⟩) (exS:=⟨[.bool],[]⟩) Tryz.f142 (memC zx zK) (by kernel_rfl) (by kernel_rfl) fun x=>by kernel_rfl
theorem sV:zn Tryz.prog (AL zF):=
 okC (A:=⟨[zw zf,SK Tq,Zy zt],[],[],1,[],[],[]⟩) (exS:=⟨[.bool],[]⟩) Tryz.f143 (memC zx (memC nU (memC ZH zK))) (by kernel_rfl) (by kernel_rfl) fun x=>by kernel_rfl
theorem Q5:zn Tryz.prog (Qc zM):=
 okC (A:=⟨[zw zf,dK Av,Zy zt,ZV zO],[(5,[3])],[],1,[(2,⟨[3],⟨[.own 1105],[(0, .row 133),(1105, .sl 5)]⟩,[0],[],[0],0,[],⟨[],[]⟩,[]⟩)],[],[]⟩) (exS:=⟨[.str],[(0, .row 133)]⟩) Tryz.f144 (memC zx (memC BV (memC ZH (memC qM zK)))) (by kernel_rfl) (by kernel_rfl) fun x=>by kernel_rfl
theorem zeE:zn Tryz.prog (oV Zu):=
 okC (A:=⟨[zw zf,xu Zt],[],[],1,[],[(5,⟨[3],⟨[.int .i64],[]⟩,[0],[],[],0,[],⟨[],[]⟩,[]⟩),(7,⟨[3],⟨[.int .i64],[]⟩,[],[],[],0,[],⟨[],[]⟩,[]⟩)],[]⟩) (exS:=⟨[.bool],[]⟩) Tryz.f145 (memC zx (memC OA zK)) (by kernel_rfl) (by kernel_rfl) fun x=>by kernel_rfl
theorem zd6:zn Tryz.prog (pV zP):=
 okC (A:=⟨[zw zf,xu Zt],[],[],1,[(0,⟨[],⟨[],[(0, .row 133)]⟩,[0,1],[],[0],0,[],⟨[],[(0, .row 133)]⟩,[0]⟩)],[],[]⟩) (exS:=⟨[],[(0, .row 133)]⟩) Tryz.f139 (memC zx (memC OA zK)) (by kernel_rfl) (by kernel_rfl) fun x=>by kernel_rfl
theorem zd4:zn Tryz.prog (yV Z7):=
 okC (A:=⟨[zw zf,pV zP,xu Zt],[],[],1,[],[(4,⟨[],⟨[],[(0, .row 133)]⟩,[0],[],[0],0,[],⟨[],[]⟩,[]⟩),(10,⟨[4],⟨[.bool],[(0, .row 133)]⟩,[],[],[0],0,[],⟨[],[]⟩,[]⟩),(15,⟨[4,5],⟨[.bool, .int .i64],[(0, .row 133)]⟩,[],[],[0],0,[],⟨[],[]⟩,[]⟩),(19,⟨[4],⟨[.bool],[(0, .row 133)]⟩,[],[],[0],0,[],⟨[],[]⟩,[]⟩)],[]⟩) (exS:=⟨[.bool],[(0, .row 133)]⟩) Tryz.f175 (memC zx (memC zd6 (memC OA zK))) (by kernel_rfl) (by kernel_rfl) fun x=>by kernel_rfl
theorem zgr:zn Tryz.prog (iV ZR):=
 okC (A:=⟨[XO Uk,xS QZ,XX cutF],[],[],0,[(8,⟨[6,31],⟨[.int .i64, .int .i64],[]⟩,[0,2,3,4,5,29,30],[0],[],0,[6],⟨[.int .i64],[]⟩,[]⟩),(22,⟨[12,81],⟨[.int .i64, .int .i64],[]⟩,[4,79,80],[0],[],2,[12],⟨[.int .i64],[]⟩,[]⟩),(26,⟨[4,12],⟨[.int .i64, .int .i64],[]⟩,[],[],[],4,[12],⟨[.int .i64],[]⟩,[]⟩)],[(14,⟨[0,4,6],⟨[.str, .int .i64, .int .i64],[]⟩,[3,5],[],[],0,[],⟨[],[]⟩,[]⟩),(15,⟨[0,4],⟨[.str, .int .i64],[]⟩,[3],[],[],0,[],⟨[],[]⟩,[]⟩),(20,⟨[0,4],⟨[.str, .int .i64],[]⟩,[],[],[],0,[],⟨[],[]⟩,[]⟩),(31,⟨[12],⟨[.int .i64],[]⟩,[],[],[],0,[],⟨[],[]⟩,[]⟩)],[]⟩) (exS:=⟨[.int .i64],[]⟩) Tryz.f176 (memC yZ (memC zrd (memC zCD zK))) (by kernel_rfl) (by kernel_rfl) fun x=>by kernel_rfl
theorem zd5:zn Tryz.prog (rV ZF):=
 okC (A:=⟨[yV Z7,iV ZR,AL zF,Qc zM,zw zf],[],[],1,[],[(9,⟨[],⟨[],[(0, .row 133),(1, .row 44),(2, .row 44)]⟩,[2,5],[],[0,1,2],0,[],⟨[],[]⟩,[]⟩)],[]⟩) (exS:=⟨[.optr 1],[(0, .row 133),(1, .row 44)]⟩) Tryz.f146 (memC zd4 (memC zgr (memC sV (memC Q5 (memC zx zK))))) (by kernel_rfl) (by kernel_rfl) fun x=>by kernel_rfl
theorem zmX:zn Tryz.prog (LU ou):=
 okC (A:=⟨[],[],[],0,[(3,⟨[10],⟨[.int .i64],[(0, .sl 5)]⟩,[2,3,8,9],[],[0],0,[],⟨[],[(0, .sl 5)]⟩,[0]⟩)],[(7,⟨[10],⟨[.int .i64],[(0, .sl 5)]⟩,[],[],[0],0,[],⟨[],[]⟩,[]⟩)],[]⟩) (exS:=⟨[.str],[]⟩) Tryz.f108 zK (by kernel_rfl) (by kernel_rfl) fun x=>by kernel_rfl
theorem pU:zn Tryz.prog (UK Wq):=
 okC (A:=⟨[LU ou],[],[],0,[],[],[]⟩) (exS:=⟨[.bool],[]⟩) Tryz.f109 (memC zmX zK) (by kernel_rfl) (by kernel_rfl) fun x=>by kernel_rfl
theorem zgp:zn Tryz.prog (kV ZQ):=
 okC (A:=⟨[zw zf,Zy zt,uV ZJ],[],[],1,[(1,⟨[],⟨[],[(0, .row 133),(1, .row 44)]⟩,[0,2],[],[0,1],0,[],⟨[],[]⟩,[]⟩)],[],[]⟩) (exS:=⟨[.optr 1],[(0, .row 133),(1, .row 44)]⟩) Tryz.f216 (memC zx (memC ZH (memC zdd zK))) (by kernel_rfl) (by kernel_rfl) fun x=>by kernel_rfl
theorem zgq:zn Tryz.prog (jV Qr):=
 okC (A:=⟨[qP zS,zw zf,wu qd,kV ZQ,EA ZM,Zy zt,ZV zO],[(18,[3])],[],1,[(3,⟨[3],⟨[.own 1106],[(0, .row 133),(1, .row 44),(1106, .sl 5)]⟩,[0,2],[],[0,1],0,[],⟨[],[]⟩,[]⟩)],[(10,⟨[3,4],⟨[.own 1106, .int .i64],[(0, .row 133),(1, .row 44),(1106, .sl 5)]⟩,[],[],[0,1,1106],0,[],⟨[],[]⟩,[]⟩)],[]⟩) (exS:=⟨[.optr 1],[(0, .row 133),(1, .row 44)]⟩) Tryz.f177 (memC QR (memC zx (memC NA (memC zgp (memC xE (memC ZH (memC qM zK))))))) (by kernel_rfl) (by kernel_rfl) fun x=>by kernel_rfl
theorem zeX:zn Tryz.prog (tV ZB):=
 okC (A:=⟨[Qc zM,zw zf,UK Wq,qP zS,jV Qr],[],[],1,[],[(11,⟨[],⟨[],[(0, .row 133),(1, .row 44)]⟩,[2,3],[],[0,1],0,[],⟨[],[]⟩,[]⟩)],[]⟩) (exS:=⟨[.optr 1],[(0, .row 133),(1, .row 44)]⟩) Tryz.f147 (memC Q5 (memC zx (memC pU (memC QR (memC zgq zK))))) (by kernel_rfl) (by kernel_rfl) fun x=>by kernel_rfl
theorem yK:zn Tryz.prog (Qz strings_IndexByte):=
 okC (A:=⟨[BR Tx],[],[],0,[],[],[]⟩) (exS:=⟨[.int .i64],[]⟩) Tryz.f119 (memC V5 zK) (by kernel_rfl) (by kernel_rfl) fun x=>by kernel_rfl
theorem zfA:zn Tryz.prog (aV qa):=
 okC (A:=⟨[zw zf,wu qd,qP zS,nV qi,dK Av,Zy zt,AL zF,Qc zM,oV Zu,rV ZF,ZN strings_HasPrefix,tV ZB,Qz strings_IndexByte],[],[],1,[],[],[]⟩) (exS:=⟨[.optr 1],[(0, .row 133),(1, .row 44)]⟩) Tryz.f101 (memC zx (memC NA (memC QR (memC zeF (memC BV (memC ZH (memC sV (memC Q5 (memC zeE (memC zd5 (memC qh (memC zeX (memC yK zK))))))))))))) (by kernel_rfl) (by kernel_rfl) fun x=>by kernel_rfl
theorem zg3:zn Tryz.prog (VV QI):=
 okC (A:=⟨[],[(1,[2])],[],2,[],[],[]⟩) (exS:=⟨[],[(0, .cells 22 [.own 2]),(2, .sl 44)]⟩) Tryz.f70 zK (by kernel_rfl) (by kernel_rfl) fun x=>by kernel_rfl
theorem zlZ:zn Tryz.prog (yU dz):=
 okC (A:=⟨[YO ul,wV Zh,aV qa,VV QI],[],[],1,[(7,⟨[7],⟨[.int .i64],[(0, .cells 22 [.own 1107]),(1107, .sl 44),(1, .row 133)]⟩,[0,1,6],[],[0,1],0,[],⟨[],[(0, .cells 22 [.own 1107]),(1107, .sl 44),(1, .row 133)]⟩,[0,1,1107]⟩)],[],[]⟩) (exS:=⟨[.int .i64],[(0, .cells 22 [.own 1]),(1, .sl 44)]⟩) Tryz.f69 (memC O0 (memC zdJ (memC zfA (memC zg3 zK)))) (by kernel_rfl) (by kernel_rfl) fun x=>by kernel_rfl
theorem yE:zn Tryz.prog (GA ZL):=
 okC (A:=⟨[yU dz],[],[],0,[],[],[]⟩) (exS:=⟨[.sl 44, .int .i64],[]⟩) Tryz.f33 (memC zlZ zK) (by kernel_rfl) (by kernel_rfl) fun x=>by kernel_rfl
theorem RA:zn Tryz.prog (yu qb):=
 okC (A:=⟨[],[],[],0,[],[(7,⟨[6],⟨[.bool],[]⟩,[0],[],[],0,[],⟨[],[]⟩,[]⟩)],[]⟩) (exS:=⟨[.int .u8],[]⟩) Tryz.f61 zK (by kernel_rfl) (by kernel_rfl) fun x=>by kernel_rfl
theorem zrN(QG:List zg×Int->Option zI)(c:zn Tryz.prog (ku QG)):zn Tryz.prog (ku (bE QG)):=
 okC (A:=⟨[yu qb,ku QG],[],[],0,[(3,⟨[12],⟨[.int .i64],[(1, .row 101)]⟩,[1,4,5,10,11],[0],[1],0,[],⟨[],[(1, .row 101)]⟩,[1]⟩)],[(9,⟨[],⟨[],[(1, .row 101)]⟩,[7,8,12],[2],[1],0,[],⟨[],[]⟩,[]⟩),(12,⟨[12],⟨[.int .i64],[(1, .row 101)]⟩,[],[],[1],0,[],⟨[],[]⟩,[]⟩)],[]⟩) (exS:=⟨[.optr 0],[(0, .row 101)]⟩) Tryz.f65 (memC RA (memC c zK)) (by kernel_rfl) (by kernel_rfl) fun x=>by kernel_rfl
theorem nT:zn Tryz.prog (ku QG):=
 zn.recE (I:=I) (P:=Tryz.prog) (f:=65) (inS:=⟨[.sl 49, .int .u8],[]⟩) (cst:=[]) (outS:=⟨[.val 101],[]⟩) (k:=0) (bE) (by kernel_rfl) (fun S h=>zrN S h)
theorem aU:zn Tryz.prog (aK Rq):=
 okC (A:=⟨[ku QG],[],[],0,[],[],[]⟩) (exS:=⟨[.int .i64],[]⟩) Tryz.f32 (memC nT zK) (by kernel_rfl) (by kernel_rfl) fun x=>by kernel_rfl
theorem zna(qX:List zg×List zb->Option (List zb))(c:zn Tryz.prog (TA qX)):zn Tryz.prog (TA (uE qX)):=
 okC (A:=⟨[yu qb,TA qX],[(4,[3]),(7,[6])],[],1,[(2,⟨[0,10],⟨[.own 1108, .int .i64],[(1108, .sl 44)]⟩,[4,8,9],[],[],0,[0],⟨[.own 1108],[(1108, .sl 44)]⟩,[1108]⟩)],[(8,⟨[0,10],⟨[.own 1210, .int .i64],[(1210, .sl 44)]⟩,[],[],[],0,[],⟨[],[]⟩,[]⟩)],[]⟩) (exS:=⟨[.own 1],[(1, .sl 44)]⟩) Tryz.f63 (memC RA (memC c zK)) (by kernel_rfl) (by kernel_rfl) fun x=>by kernel_rfl
theorem zm1:zn Tryz.prog (TA qX):=
 zn.recE (I:=I) (P:=Tryz.prog) (f:=63) (inS:=⟨[.own 0, .sl 49],[(0, .sl 44)]⟩) (cst:=[]) (outS:=⟨[.own 1],[(1, .sl 44)]⟩) (k:=1) (uE) (by kernel_rfl) (fun S h=>zna S h)
theorem zm0:zn Tryz.prog (zop nu):=
 okC (A:=⟨[yu qb,TA qX],[(4,[3]),(7,[6])],[],0,[(2,⟨[0,10],⟨[.own 1212, .int .i64],[(1212, .sl 44)]⟩,[4,8,9],[],[],0,[0],⟨[.own 1212],[(1212, .sl 44)]⟩,[1212]⟩)],[(8,⟨[0,10],⟨[.own 1314, .int .i64],[(1314, .sl 44)]⟩,[],[],[],0,[],⟨[],[]⟩,[]⟩)],[]⟩) (exS:=⟨[.own 0],[(0, .sl 44)]⟩) Tryz.f63 (memC RA (memC zm1 zK)) (by kernel_rfl) (by kernel_rfl) fun x=>by kernel_rfl
theorem zlT:zn Tryz.prog (jU nu):=U2 ipOK (by kernel_rfl) zm0
theorem zdI:zn Tryz.prog (xV stringslite_TrimPrefix):=
 okC (A:=⟨[QA stringslite_HasPrefix],[],[],0,[],[],[]⟩) (exS:=⟨[.str],[]⟩) Tryz.f197 (memC vV zK) (by kernel_rfl) (by kernel_rfl) fun x=>by kernel_rfl
theorem zfy:zn Tryz.prog (bV strings_TrimPrefix):=
 okC (A:=⟨[xV stringslite_TrimPrefix],[],[],0,[],[],[]⟩) (exS:=⟨[.str],[]⟩) Tryz.f162 (memC zdI zK) (by kernel_rfl) (by kernel_rfl) fun x=>by kernel_rfl
theorem rE:zn Tryz.prog (AA qA):=
 okC (A:=⟨[],[],[],0,[],[],[]⟩) (exS:=⟨[.bool],[]⟩) Tryz.f155 zK (by kernel_rfl) (by kernel_rfl) fun x=>by kernel_rfl
theorem IV:zn Tryz.prog (jK QY):=
 okC (A:=⟨[bV strings_TrimPrefix,AA qA],[],[],0,[],[],[]⟩) (exS:=⟨[.bool],[]⟩) Tryz.f122 (memC zfy (memC rE zK)) (by kernel_rfl) (by kernel_rfl) fun x=>by kernel_rfl
theorem rU:zn Tryz.prog (VK su):=
 okC (A:=⟨[],[],[],0,[],[],[]⟩) (exS:=⟨[.bool],[]⟩) Tryz.f157 zK (by kernel_rfl) (by kernel_rfl) fun x=>by kernel_rfl
theorem dU:zn Tryz.prog (cK Ho):=
 okC (A:=⟨[VK su,AA qA],[],[],0,[],[],[]⟩) (exS:=⟨[.bool],[]⟩) Tryz.f153 (memC rU (memC rE zK)) (by kernel_rfl) (by kernel_rfl) fun x=>by kernel_rfl
theorem zg2:zn Tryz.prog (WV strings_Contains):=
 okC (A:=⟨[mH Am],[],[],0,[],[],[]⟩) (exS:=⟨[.bool],[]⟩) Tryz.f154 (memC fP zK) (by kernel_rfl) (by kernel_rfl) fun x=>by kernel_rfl
theorem zrc:zn Tryz.prog (yS uy):=
 okC (A:=⟨[Qz strings_IndexByte,jK QY,ZN strings_HasPrefix,cK Ho,WV strings_Contains],[],[],0,[],[(8,⟨[3,4,5,6,7,25],⟨[.bool, .bool, .bool, .bool, .bool, .bool],[]⟩,[1,16],[],[],0,[],⟨[],[]⟩,[]⟩),(14,⟨[3,4,5,6,7,63],⟨[.bool, .bool, .bool, .bool, .bool, .bool],[]⟩,[],[],[],0,[],⟨[],[]⟩,[]⟩),(22,⟨[4,5,6,7,94],⟨[.bool, .bool, .bool, .bool, .bool],[]⟩,[3],[],[],0,[],⟨[],[]⟩,[]⟩),(24,⟨[3,4,5,6,7],⟨[.bool, .bool, .bool, .bool, .bool],[]⟩,[1],[0],[],0,[],⟨[],[]⟩,[]⟩)],[]⟩) (exS:=⟨[.bool],[]⟩) Tryz.f115 (memC yK (memC IV (memC qh (memC dU (memC zg2 zK))))) (by kernel_rfl) (by kernel_rfl) fun x=>by kernel_rfl
theorem zlS:zn Tryz.prog (kU ZK):=
 okC (A:=⟨[],[],[],1,[],[],[]⟩) (exS:=⟨[.bool],[]⟩) Tryz.f116 zK (by kernel_rfl) (by kernel_rfl) fun x=>by kernel_rfl
theorem bU:zn Tryz.prog (bK QM):=
 okC (A:=⟨[kU ZK,UK Wq],[],[],0,[],[(11,⟨[5],⟨[.int .i64],[]⟩,[3],[0],[],0,[],⟨[],[]⟩,[]⟩)],[]⟩) (exS:=⟨[.int .i64],[]⟩) Tryz.f80 (memC zlS (memC pU zK)) (by kernel_rfl) (by kernel_rfl) fun x=>by kernel_rfl
theorem zo5:zn Tryz.prog (gT az):=
 okC (A:=⟨[yS uy,bK QM],[],[],0,[(4,⟨[10],⟨[.int .i64],[]⟩,[0,8,9],[],[],0,[],⟨[],[]⟩,[]⟩)],[],[]⟩) (exS:=⟨[.int .i64],[]⟩) Tryz.f79 (memC zrc (memC bU zK)) (by kernel_rfl) (by kernel_rfl) fun x=>by kernel_rfl
theorem zo7:zn Tryz.prog (eT Pm):=
 okC (A:=⟨[ZN strings_HasPrefix],[],[],0,[],[],[]⟩) (exS:=⟨[.int .i64],[]⟩) Tryz.f118 (memC qh zK) (by kernel_rfl) (by kernel_rfl) fun x=>by kernel_rfl
theorem OV:zn Tryz.prog (tK ZW):=
 okC (A:=⟨[AA qA,VK su,XR Fq],[(2,[2]),(3,[1]),(5,[1])],[],1,[],[],[]⟩) (exS:=⟨[.own 1],[(1, .sl 5)]⟩) Tryz.f120 (memC rE (memC rU (memC zs3 zK))) (by kernel_rfl) (by kernel_rfl) fun x=>by kernel_rfl
theorem zmV:zn Tryz.prog (NU qC):=
 okC (A:=⟨[cK Ho,AA qA,tK ZW],[(6,[2])],[],1,[(2,⟨[0,11],⟨[.own 1420, .int .i64],[(1420, .sl 5)]⟩,[1,2,6,10],[],[],0,[0],⟨[.own 1420],[(1420, .sl 5)]⟩,[1420]⟩)],[(8,⟨[0,11],⟨[.own 1522, .int .i64],[(1522, .sl 5)]⟩,[],[],[],0,[],⟨[],[]⟩,[]⟩)],[]⟩) (exS:=⟨[.own 1],[(1, .sl 5)]⟩) Tryz.f117 (memC dU (memC rE (memC OV zK))) (by kernel_rfl) (by kernel_rfl) fun x=>by kernel_rfl
theorem zo8:zn Tryz.prog (bT Yz):=
 okC (A:=⟨[],[],[],0,[],[],[]⟩) (exS:=⟨[.optr 0],[(0, .row 149)]⟩) Tryz.f123 zK (by kernel_rfl) (by kernel_rfl) fun x=>by kernel_rfl
theorem zjY:zn Tryz.prog (UV QC):=
 okC (A:=⟨[YR Gq,CR Tp,IP xm],[(2,[1]),(6,[1])],[],1,[],[(3,⟨[0,1],⟨[.own 2044, .int .i64],[(2044, .sl 5)]⟩,[2],[],[],0,[],⟨[],[]⟩,[]⟩),(9,⟨[0],⟨[.own 2147],[(2147, .sl 5)]⟩,[],[],[],0,[],⟨[],[]⟩,[]⟩)],[]⟩) (exS:=⟨[.own 1],[(1, .sl 5)]⟩) Tryz.f121 (memC zs2 (memC X5 (memC xZ zK))) (by kernel_rfl) (by kernel_rfl) fun x=>by kernel_rfl
theorem zmW:zn Tryz.prog (MU pu):=
 okC (A:=⟨[eT Pm,NU qC,Qz strings_IndexByte,tK ZW,UV QC,jK QY,ZN strings_HasPrefix,bT Yz],[(5,[7]),(7,[1]),(12,[1]),(14,[1]),(20,[2]),(22,[1]),(30,[2]),(32,[1]),(38,[4])],[],1,[(16,⟨[0,67],⟨[.own 1837, .int .i64],[(1837, .sl 5)]⟩,[3,4,65,66],[1,4],[],1,[0],⟨[.own 1837],[(1837, .sl 5)]⟩,[1837]⟩),(26,⟨[0,93],⟨[.own 1941, .int .i64],[(1941, .sl 5)]⟩,[3,4,91,92],[1,3],[],3,[0],⟨[.own 1941],[(1941, .sl 5)]⟩,[1941]⟩)],[(12,⟨[5],⟨[.int .i64],[(0, .sl 5)]⟩,[0,3],[1],[0],0,[],⟨[],[]⟩,[]⟩),(21,⟨[0,67],⟨[.own 1939, .int .i64],[(1939, .sl 5)]⟩,[],[],[],0,[],⟨[],[]⟩,[]⟩),(31,⟨[0,93],⟨[.own 2043, .int .i64],[(2043, .sl 5)]⟩,[],[],[],0,[],⟨[],[]⟩,[]⟩)],[]⟩) (exS:=⟨[.own 1],[(1, .sl 5)]⟩) Tryz.f81 (memC zo7 (memC zmV (memC yK (memC OV (memC zjY (memC IV (memC qh (memC zo8 zK)))))))) (by kernel_rfl) (by kernel_rfl) fun x=>by kernel_rfl
theorem zfx:zn Tryz.prog (dV Z9):=
 okC (A:=⟨[],[],[],0,[(4,⟨[13],⟨[.int .i64],[]⟩,[0,1,12],[],[],0,[],⟨[],[]⟩,[]⟩)],[],[]⟩) (exS:=⟨[.bool],[]⟩) Tryz.f82 zK (by kernel_rfl) (by kernel_rfl) fun x=>by kernel_rfl
theorem zo6:zn Tryz.prog (fT fu):=
 okC (A:=⟨[gT az,bK QM,MU pu,GA ZL,dV Z9],[(24,[5])],[],0,[(7,⟨[5,6,7],⟨[.own 2254, .own 2255, .int .i64],[(2254, .sl 5),(2255, .sl 119)]⟩,[0],[],[],0,[5],⟨[.own 2254],[(2254, .sl 5)]⟩,[2254]⟩),(11,⟨[9,36],⟨[.own 1835, .int .i64],[(1835, .sl 5)]⟩,[5,6,7,8,34,35],[2254,2255],[],2,[9],⟨[.own 1835],[(1835, .sl 5)]⟩,[1835]⟩)],[(17,⟨[5,6,7,9],⟨[.own 2254, .own 2255, .int .i64, .own 2357],[(2254, .sl 5),(2255, .sl 119),(2357, .sl 5)]⟩,[8],[],[2254,2255],0,[],⟨[],[]⟩,[]⟩),(21,⟨[5,6,7],⟨[.own 2254, .own 2255, .int .i64],[(2254, .sl 5),(2255, .sl 119),(2358, .row 119)]⟩,[9,12],[2357],[2254,2255,2358],0,[],⟨[],[]⟩,[]⟩),(24,⟨[5,6,7],⟨[.own 2462, .own 2255, .int .i64],[(2255, .sl 119),(2462, .sl 5)]⟩,[],[2358],[2255],0,[],⟨[],[]⟩,[]⟩)],[]⟩) (exS:=⟨[.str, .int .i64],[]⟩) Tryz.f46 (memC zo5 (memC bU (memC zmW (memC yE (memC zfx zK))))) (by kernel_rfl) (by kernel_rfl) fun x=>by kernel_rfl
theorem rT:zn Tryz.prog (wJ Bo):=
 okC (A:=⟨[aK Rq,jU nu,fT fu],[],[],0,[],[],[]⟩) (exS:=⟨[.str, .int .i64],[]⟩) Tryz.f20 (memC aU (memC zlT (memC zo6 zK))) (by kernel_rfl) (by kernel_rfl) fun x=>by kernel_rfl
theorem zo9:zn Tryz.prog (YT eu):=
 okC (A:=⟨[aK Rq,ku QG],[],[],0,[],[],[]⟩) (exS:=⟨[.int .i64, .int .i64],[]⟩) Tryz.f26 (memC aU (memC nT zK)) (by kernel_rfl) (by kernel_rfl) fun x=>by kernel_rfl
theorem zmZ:zn Tryz.prog (JU ME):=
 okC (A:=⟨[GA ZL,KD parseF,wJ Bo,YT eu],[],[],0,[],[],[]⟩) (exS:=⟨[.str, .int .i64, .bool],[]⟩) Tryz.f31 (memC yE (memC iI (memC rT (memC zo9 zK)))) (by kernel_rfl) (by kernel_rfl) fun x=>by kernel_rfl
theorem zmY:zn Tryz.prog (KU Q3):=
 okC (A:=⟨[JU ME,GA ZL,KD parseF],[],[],0,[],[],[]⟩) (exS:=⟨[.bool],[]⟩) Tryz.f24 (memC zmZ (memC yE (memC iI zK))) (by kernel_rfl) (by kernel_rfl) fun x=>by kernel_rfl
theorem zpA(QQ:List zg×List zg->Option Bool)(c:zn Tryz.prog (yz QQ)):zn Tryz.prog (yz (dE QQ)):=
 okC (A:=⟨[yz QQ],[],[],0,[(4,⟨[5],⟨[.int .i64],[]⟩,[0,1],[],[],0,[],⟨[],[]⟩,[]⟩)],[],[]⟩) (exS:=⟨[.bool],[]⟩) Tryz.f22 (memC c zK) (by kernel_rfl) (by kernel_rfl) fun x=>by kernel_rfl
theorem zpf:zn Tryz.prog (yz QQ):=
 zn.recE (I:=I) (P:=Tryz.prog) (f:=22) (inS:=⟨[.sl 49, .sl 49],[]⟩) (cst:=[]) (outS:=⟨[.bool],[]⟩) (k:=0) (dE) (by kernel_rfl) (fun S h=>zpA S h)
theorem zm6:zn Tryz.prog (DU Co):=
 okC (A:=⟨[],[],[],0,[(2,⟨[3],⟨[.int .i64],[]⟩,[0],[],[],0,[],⟨[],[]⟩,[]⟩)],[],[]⟩) (exS:=⟨[.bool],[]⟩) Tryz.f102 zK (by kernel_rfl) (by kernel_rfl) fun x=>by kernel_rfl
theorem qZ:zn Tryz.prog (qO zX):=
 okC (A:=⟨[],[],[],0,[],[],[]⟩) (exS:=⟨[.bool],[]⟩) Tryz.f148 zK (by kernel_rfl) (by kernel_rfl) fun x=>by kernel_rfl
theorem zpd:zn Tryz.prog (PT Rz):=
 okC (A:=⟨[qO zX],[],[],0,[],[],[]⟩) (exS:=⟨[.bool],[]⟩) Tryz.f103 (memC qZ zK) (by kernel_rfl) (by kernel_rfl) fun x=>by kernel_rfl
theorem LF:zn Tryz.prog (SA qG):=
 okC (A:=⟨[],[],[],0,[],[],[]⟩) (exS:=⟨[.bool],[]⟩) Tryz.f178 zK (by kernel_rfl) (by kernel_rfl) fun x=>by kernel_rfl
theorem qY:zn Tryz.prog (Qg zU):=
 okC (A:=⟨[],[],[],0,[],[],[]⟩) (exS:=⟨[.int .u8],[]⟩) Tryz.f217 zK (by kernel_rfl) (by kernel_rfl) fun x=>by kernel_rfl
theorem vK:zn Tryz.prog (SF qy):=
 okC (A:=⟨[Qg zU,SA qG],[],[],0,[(1,⟨[1],⟨[.int .i64],[]⟩,[0,4],[],[],0,[1],⟨[.int .i64],[]⟩,[]⟩)],[],[]⟩) (exS:=⟨[.int .i64],[]⟩) Tryz.f179 (memC qY (memC LF zK)) (by kernel_rfl) (by kernel_rfl) fun x=>by kernel_rfl
theorem YU:zn Tryz.prog (YK Pq):=
 okC (A:=⟨[],[(1,[0])],[],0,[],[],[]⟩) (exS:=⟨[.str],[]⟩) Tryz.f244 zK (by kernel_rfl) (by kernel_rfl) fun x=>by kernel_rfl
theorem mK:zn Tryz.prog (wE qF):=
 okC (A:=⟨[],[],[],0,[],[],[]⟩) (exS:=⟨[.int .u8],[]⟩) Tryz.f150 zK (by kernel_rfl) (by kernel_rfl) fun x=>by kernel_rfl
theorem zrf:zn Tryz.prog (wS Nq):=
 okC (A:=⟨[qO zX,wE qF],[],[],0,[],[],[]⟩) (exS:=⟨[.int .i64],[]⟩) Tryz.f245 (memC qZ (memC mK zK)) (by kernel_rfl) (by kernel_rfl) fun x=>by kernel_rfl
theorem zpa:zn Tryz.prog (XT cz):=
 okC (A:=⟨[YK Pq],[(4,[2]),(6,[8]),(8,[13]),(9,[18])],[],0,[],[],[]⟩) (exS:=⟨[.str],[]⟩) Tryz.f246 (memC YU zK) (by kernel_rfl) (by kernel_rfl) fun x=>by kernel_rfl
theorem TF:zn Tryz.prog (QS ZI):=
 okC (A:=⟨[YK Pq,wS Nq,Qg zU,SA qG,XT cz],[],[],0,[(7,⟨[6,7],⟨[.int .i64, .int .i64],[]⟩,[0,1,4,5],[],[],0,[6,7],⟨[.int .i64, .int .i64],[]⟩,[]⟩)],[(12,⟨[7],⟨[.int .i64],[]⟩,[6],[],[],0,[],⟨[],[]⟩,[]⟩)],[]⟩) (exS:=⟨[.str, .int .i64],[]⟩) Tryz.f218 (memC YU (memC zrf (memC qY (memC LF (memC zpa zK))))) (by kernel_rfl) (by kernel_rfl) fun x=>by kernel_rfl
theorem zlW:zn Tryz.prog (gU wz):=
 okC (A:=⟨[QS ZI],[],[],0,[(4,⟨[1],⟨[.int .i64],[(0, .row 44),(1, .row 44)]⟩,[0,4,6,7],[],[0,1],0,[1],⟨[.int .i64],[(0, .row 44),(1, .row 44)]⟩,[0,1]⟩)],[],[]⟩) (exS:=⟨[.optr 0, .int .i64],[(0, .row 44)]⟩) Tryz.f180 (memC TF zK) (by kernel_rfl) (by kernel_rfl) fun x=>by kernel_rfl
theorem DV:zn Tryz.prog (fK Qv):=
 okC (A:=⟨[wE qF],[],[],0,[],[],[]⟩) (exS:=⟨[.bool],[]⟩) Tryz.f198 (memC mK zK) (by kernel_rfl) (by kernel_rfl) fun x=>by kernel_rfl
theorem GV:zn Tryz.prog (iK Q7):=
 okC (A:=⟨[fK Qv,qO zX],[],[],0,[],[],[]⟩) (exS:=⟨[.bool],[]⟩) Tryz.f163 (memC DV (memC qZ zK)) (by kernel_rfl) (by kernel_rfl) fun x=>by kernel_rfl
theorem Q4:zn Tryz.prog (QL Zv):=
 okC (A:=⟨[Qg zU],[],[],0,[],[],[]⟩) (exS:=⟨[.bool],[]⟩) Tryz.f181 (memC qY zK) (by kernel_rfl) (by kernel_rfl) fun x=>by kernel_rfl
theorem lK:zn Tryz.prog (vE Qa):=
 okC (A:=⟨[iK Q7,QL Zv,QS ZI],[],[],0,[(2,⟨[1,6],⟨[.int .i64, .str],[]⟩,[0],[],[],0,[],⟨[],[]⟩,[]⟩)],[],[]⟩) (exS:=⟨[.str, .int .i64],[]⟩) Tryz.f182 (memC GV (memC Q4 (memC TF zK))) (by kernel_rfl) (by kernel_rfl) fun x=>by kernel_rfl
theorem FV:zn Tryz.prog (gK qU):=
 okC (A:=⟨[Qg zU,fK Qv,QL Zv],[],[],0,[],[],[]⟩) (exS:=⟨[.bool],[]⟩) Tryz.f183 (memC qY (memC DV (memC Q4 zK))) (by kernel_rfl) (by kernel_rfl) fun x=>by kernel_rfl
theorem ziY:zn Tryz.prog (RV LA):=
 okC (A:=⟨[Qg zU,qO zX],[],[],0,[],[(4,⟨[1],⟨[.int .i64],[]⟩,[0],[],[],0,[],⟨[],[]⟩,[]⟩),(6,⟨[1],⟨[.int .i64],[]⟩,[],[],[],0,[],⟨[],[]⟩,[]⟩)],[]⟩) (exS:=⟨[.bool],[]⟩) Tryz.f184 (memC qY (memC qZ zK)) (by kernel_rfl) (by kernel_rfl) fun x=>by kernel_rfl
theorem zlV:zn Tryz.prog (iU Q9):=
 okC (A:=⟨[Qg zU,qO zX],[],[],0,[(1,⟨[1],⟨[.int .i64],[]⟩,[0,4],[],[],0,[1],⟨[.int .i64],[]⟩,[]⟩)],[],[]⟩) (exS:=⟨[.int .i64],[]⟩) Tryz.f247 (memC qY (memC qZ zK)) (by kernel_rfl) (by kernel_rfl) fun x=>by kernel_rfl
theorem zh8:zn Tryz.prog (XV Q8):=
 okC (A:=⟨[Qg zU,iU Q9,qO zX],[],[],0,[],[(4,⟨[1],⟨[.int .i64],[]⟩,[0],[],[],0,[],⟨[],[]⟩,[]⟩),(9,⟨[1,7],⟨[.int .i64, .bool],[]⟩,[],[],[],0,[],⟨[],[]⟩,[]⟩),(15,⟨[1,7,9],⟨[.int .i64, .bool, .int .i64],[]⟩,[],[],[],0,[],⟨[],[]⟩,[]⟩),(18,⟨[1,7],⟨[.int .i64, .bool],[]⟩,[],[],[],0,[],⟨[],[]⟩,[]⟩)],[]⟩) (exS:=⟨[.int .i64, .bool],[]⟩) Tryz.f219 (memC qY (memC zlV (memC qZ zK))) (by kernel_rfl) (by kernel_rfl) fun x=>by kernel_rfl
theorem zgn:zn Tryz.prog (mV Qn):=
 okC (A:=⟨[Qg zU,qO zX],[],[],0,[(5,⟨[3,5],⟨[.str, .int .i64],[]⟩,[4],[],[],0,[3,5],⟨[.str, .int .i64],[]⟩,[]⟩),(10,⟨[3,4,5],⟨[.str, .int .i64, .int .i64],[]⟩,[],[],[],2,[3,4,5],⟨[.str, .int .i64, .int .i64],[]⟩,[]⟩),(20,⟨[5,8],⟨[.int .i64, .int .i64],[]⟩,[4],[],[],4,[8],⟨[.int .i64],[]⟩,[]⟩),(28,⟨[9,10],⟨[.int .i64, .int .i64],[]⟩,[4],[],[],6,[9],⟨[.int .i64],[]⟩,[]⟩),(31,⟨[4,9],⟨[.int .i64, .int .i64],[]⟩,[],[],[],8,[9],⟨[.int .i64],[]⟩,[]⟩)],[(5,⟨[3,4,5],⟨[.str, .int .i64, .int .i64],[]⟩,[0,6],[],[],0,[],⟨[],[]⟩,[]⟩),(14,⟨[3,4,5],⟨[.str, .int .i64, .int .i64],[]⟩,[],[],[],0,[],⟨[],[]⟩,[]⟩),(19,⟨[4,5],⟨[.int .i64, .int .i64],[]⟩,[3,7],[],[],0,[],⟨[],[]⟩,[]⟩),(25,⟨[4,8],⟨[.int .i64, .int .i64],[]⟩,[],[],[],0,[],⟨[],[]⟩,[]⟩),(26,⟨[4],⟨[.int .i64],[]⟩,[3],[],[],0,[],⟨[],[]⟩,[]⟩)],[]⟩) (exS:=⟨[.int .i64],[]⟩) Tryz.f220 (memC qY (memC qZ zK)) (by kernel_rfl) (by kernel_rfl) fun x=>by kernel_rfl
theorem zjZ:zn Tryz.prog (SV pz):=
 okC (A:=⟨[XV Q8,mV Qn,gK qU,vE Qa,Qg zU],[],[],0,[],[(9,⟨[6],⟨[.int .i64],[(0, .row 44),(1, .row 44)]⟩,[4,8],[],[0,1],0,[],⟨[],[]⟩,[]⟩)],[]⟩) (exS:=⟨[.optr 0, .int .i64],[(0, .row 44)]⟩) Tryz.f185 (memC zh8 (memC zgn (memC FV (memC lK (memC qY zK))))) (by kernel_rfl) (by kernel_rfl) fun x=>by kernel_rfl
theorem zri:zn Tryz.prog (sS Lu):=
 okC (A:=⟨[],[],[],0,[],[],[]⟩) (exS:=⟨[.bool],[]⟩) Tryz.f186 zK (by kernel_rfl) (by kernel_rfl) fun x=>by kernel_rfl
theorem zm2:zn Tryz.prog (IU Q6):=
 okC (A:=⟨[wE qF],[],[],0,[(3,⟨[4],⟨[.int .i64],[(0, .sl 5)]⟩,[2,3],[],[0],0,[],⟨[],[(0, .sl 5)]⟩,[0]⟩)],[],[]⟩) (exS:=⟨[.str],[]⟩) Tryz.f105 (memC mK zK) (by kernel_rfl) (by kernel_rfl) fun x=>by kernel_rfl
theorem oU:zn Tryz.prog (TK qE):=
 okC (A:=⟨[IU Q6],[],[],0,[],[],[]⟩) (exS:=⟨[.bool],[]⟩) Tryz.f72 (memC zm2 zK) (by kernel_rfl) (by kernel_rfl) fun x=>by kernel_rfl
theorem zrh:zn Tryz.prog (uS Su):=
 okC (A:=⟨[QL Zv,QS ZI],[],[],0,[(1,⟨[1],⟨[.int .i64],[]⟩,[0,4,5],[0],[],0,[1],⟨[.int .i64],[]⟩,[]⟩)],[],[]⟩) (exS:=⟨[.optr 0, .int .i64],[(0, .row 44)]⟩) Tryz.f248 (memC Q4 (memC TF zK)) (by kernel_rfl) (by kernel_rfl) fun x=>by kernel_rfl
theorem zgo:zn Tryz.prog (lV Qo):=
 okC (A:=⟨[],[],[],0,[],[],[]⟩) (exS:=⟨[.bool],[]⟩) Tryz.f249 zK (by kernel_rfl) (by kernel_rfl) fun x=>by kernel_rfl
theorem zrj:zn Tryz.prog (nS Iz):=
 okC (A:=⟨[SF qy,SA qG,uS Su,lV Qo,QL Zv,QS ZI],[],[],0,[(3,⟨[1],⟨[.int .i64],[(0, .row 44),(1, .row 44)]⟩,[0,4,6],[],[0,1],0,[1],⟨[.int .i64],[(0, .row 44),(1, .row 44)]⟩,[0,1]⟩)],[],[]⟩) (exS:=⟨[.optr 0, .int .i64],[(0, .row 44)]⟩) Tryz.f221 (memC vK (memC LF (memC zrh (memC zgo (memC Q4 (memC TF zK)))))) (by kernel_rfl) (by kernel_rfl) fun x=>by kernel_rfl
theorem zpc:zn Tryz.prog (UT Sz):=
 okC (A:=⟨[vE Qa,Qg zU,TK qE,SF qy,nS Iz],[],[],0,[],[(8,⟨[],⟨[],[(0, .row 44)]⟩,[4,6,7],[],[0],0,[],⟨[],[]⟩,[]⟩)],[]⟩) (exS:=⟨[.optr 0, .int .i64],[(0, .row 44)]⟩) Tryz.f187 (memC lK (memC qY (memC oU (memC vK (memC zrj zK))))) (by kernel_rfl) (by kernel_rfl) fun x=>by kernel_rfl
theorem zpb:zn Tryz.prog (WT Yu):=
 okC (A:=⟨[],[],[],0,[],[],[]⟩) (exS:=⟨[.int .u8],[]⟩) Tryz.f188 zK (by kernel_rfl) (by kernel_rfl) fun x=>by kernel_rfl
theorem zrg:zn Tryz.prog (vS Jz):=
 okC (A:=⟨[SA qG,SF qy,gU wz,iK Q7,QL Zv,vE Qa,gK qU,RV LA,SV pz,sS Lu,UT Sz,WT Yu],[],[],0,[],[],[]⟩) (exS:=⟨[.optr 0, .int .i64],[(0, .row 44)]⟩) Tryz.f149 (memC LF (memC vK (memC zlW (memC GV (memC Q4 (memC lK (memC FV (memC ziY (memC zjZ (memC zri (memC zpc (memC zpb zK)))))))))))) (by kernel_rfl) (by kernel_rfl) fun x=>by kernel_rfl
theorem zm4:zn Tryz.prog (FU qH):=
 okC (A:=⟨[vS Jz],[(1,[1])],[],0,[],[],[]⟩) (exS:=⟨[.bool],[]⟩) Tryz.f104 (memC zrg zK) (by kernel_rfl) (by kernel_rfl) fun x=>by kernel_rfl
theorem zpe:zn Tryz.prog (OT Pz):=
 okC (A:=⟨[DU Co,PT Rz,FU qH],[],[],0,[],[(6,⟨[8],⟨[.bool],[(1, .row 44)]⟩,[1,3,7],[0],[1],0,[],⟨[],[]⟩,[]⟩),(13,⟨[56],⟨[.bool],[(1, .row 44)]⟩,[],[],[1],0,[],⟨[],[]⟩,[]⟩),(21,⟨[90],⟨[.bool],[(1, .row 44)]⟩,[],[],[1],0,[],⟨[],[]⟩,[]⟩),(26,⟨[148],⟨[.bool],[]⟩,[],[1],[],0,[],⟨[],[]⟩,[]⟩)],[]⟩) (exS:=⟨[.bool],[]⟩) Tryz.f71 (memC zm6 (memC zpd (memC zm4 zK))) (by kernel_rfl) (by kernel_rfl) fun x=>by kernel_rfl
theorem zm3:zn Tryz.prog (GU lu):=
 okC (A:=⟨[OT Pz,TK qE],[],[],0,[(4,⟨[3],⟨[.int .i64],[]⟩,[0],[],[],0,[],⟨[],[]⟩,[]⟩)],[(12,⟨[4],⟨[.int .i64],[]⟩,[3],[],[],0,[],⟨[],[]⟩,[]⟩),(14,⟨[],⟨[],[]⟩,[3],[],[],0,[],⟨[],[]⟩,[]⟩)],[]⟩) (exS:=⟨[.int .i64],[]⟩) Tryz.f35 (memC zpe (memC oU zK)) (by kernel_rfl) (by kernel_rfl) fun x=>by kernel_rfl
theorem zm5:zn Tryz.prog (EU nz):=
 okC (A:=⟨[],[],[],0,[(5,⟨[3,4],⟨[.int .i64, .int .i64],[]⟩,[0],[],[],0,[],⟨[],[]⟩,[]⟩)],[],[]⟩) (exS:=⟨[.bool],[]⟩) Tryz.f34 zK (by kernel_rfl) (by kernel_rfl) fun x=>by kernel_rfl
theorem zh6:zn Tryz.prog (YV DF):=
 okC (A:=⟨[KU Q3,GA ZL,KD parseF,EU nz,IA qz,GU lu,wJ Bo,yz QQ],[],[],0,[],[],[]⟩) (exS:=⟨[.bool],[]⟩) Tryz.f7 (memC zmY (memC yE (memC iI (memC zm5 (memC zlY (memC zm3 (memC rT (memC zpf zK)))))))) (by kernel_rfl) (by kernel_rfl) fun x=>by kernel_rfl
end Go.Lv.VT
end
