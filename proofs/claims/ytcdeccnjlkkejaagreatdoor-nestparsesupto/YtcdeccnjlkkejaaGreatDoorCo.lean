/- Contracts. -/
import Derived.Test.YtcdeccnjlkkejaaGreatDoorTx
import Derived.Test.YtcdeccnjlkkejaaGreatDoorIp
import Derived.Test.YtcdeccnjlkkejaaGreatDoorLf
import Derived.Test.YtcdeccnjlkkejaaGreatDoorPa
noncomputable section
set_option linter.unusedSimpArgs false
set_option linter.unusedVariables false
namespace Go.Lv.VT
set_option maxRecDepth 100000
open Go.Proofs
theorem okC{con:Con I}{A:Env0 I}{exS:StSh}(f:Go.Func)(hS: ∀c∈A.S,zn Tryz.prog c)(hf:Tryz.prog.funcs[con.f]? =some f)(h:chk con A f=true)(he: ∀x,evF2 A T FK f.ntmps (rsl f) (body f) con exS x=con.F x):zn Tryz.prog con:=
 okC0 mixed ipOK tok rfl rfl hS hf h he
def MB(F:List zg×Int->Option Int):Con I:=⟨58,⟨[.sl 49, .int .i64],[]⟩,[],⟨[.int .i64],[]⟩,0,F⟩
def DC(F:Int->Option Int):Con I:=⟨25,⟨[.int .u8],[]⟩,[],⟨[.int .u8],[]⟩,0,F⟩
def Bw(F:List zg->Option Int):Con I:=⟨59,⟨[.sl 49],[]⟩,[],⟨[.int .i64],[]⟩,0,F⟩
def uV(F:List zg->Option Bool):Con I:=⟨15,⟨[.sl 49],[]⟩,[],⟨[.bool],[]⟩,0,F⟩
def qN(F:List zg->Option (List zb)):Con I:=⟨36,⟨[.sl 49],[]⟩,[],⟨[.sl 44],[]⟩,0,F⟩
def BC(F:List zg×Int->Option Bool):Con I:=⟨66,⟨[.sl 49, .int .u8],[]⟩,[],⟨[.bool],[]⟩,0,F⟩
def aM(F:List zg->Option Int):Con I:=⟨27,⟨[.sl 49],[]⟩,[],⟨[.int .i64],[]⟩,0,F⟩
def QS(F:Str×Str->Option Bool):Con I:=⟨130,⟨[.str, .str],[]⟩,[],⟨[.bool],[]⟩,0,F⟩
def Z6(F:Str×Str->Option Bool):Con I:=⟨93,⟨[.str, .str],[]⟩,[],⟨[.bool],[]⟩,0,F⟩
def tX(F:za->Option za):Con I:=⟨100,⟨[.optr 0],[(0, .row 133)]⟩,[],⟨[],[(0, .row 133)]⟩,0,F⟩
def zz(F:Int×za->Option Int):Con I:=⟨137,⟨[.optr 0, .int .i64],[(0, .row 133)]⟩,[0],⟨[.int .i64],[]⟩,0,F⟩
def Fw(F:Int->Option Bool):Con I:=⟨138,⟨[.int .i64],[]⟩,[],⟨[.bool],[]⟩,0,F⟩
def Ql(F:za->Option za):Con I:=⟨139,⟨[.optr 0, .clo 138 []],[(0, .row 133)]⟩,[],⟨[],[(0, .row 133)]⟩,0,F⟩
def yX(F:Int->Option (List UInt8)):Con I:=⟨237,⟨[.nilv, .int .i32],[]⟩,[],⟨[.own 0],[(0, .sl 5)]⟩,1,F⟩
def UX(F:Int->Option (List UInt8)):Con I:=⟨210,⟨[.nilv, .int .i32],[]⟩,[],⟨[.own 0],[(0, .sl 5)]⟩,1,F⟩
def yB(F:Int×Int×Int->Option Bool):Con I:=⟨212,⟨[.int .i64, .int .i64, .int .i64],[]⟩,[],⟨[.bool],[]⟩,0,F⟩
def Gw(F:Int->Option Bool):Con I:=⟨174,⟨[.int .i64],[]⟩,[],⟨[.bool],[]⟩,0,F⟩
def oL(F:Int->Option Int):Con I:=⟨211,⟨[.int .i64],[]⟩,[],⟨[.int .i64],[]⟩,0,F⟩
def AY(F:za->Option (za×List UInt8)):Con I:=⟨172,⟨[.optr 0, .nilv],[(0, .row 133)]⟩,[],⟨[.own 1],[(0, .row 133),(1, .sl 5)]⟩,1,F⟩
def xX(F:Int×List UInt8->Option (List UInt8)):Con I:=⟨237,⟨[.own 0, .int .i32],[(0, .sl 5)]⟩,[],⟨[.own 1],[(1, .sl 5)]⟩,1,F⟩
def SX(F:Int×List UInt8->Option (List UInt8)):Con I:=⟨210,⟨[.own 0, .int .i32],[(0, .sl 5)]⟩,[],⟨[.own 1],[(1, .sl 5)]⟩,1,F⟩
def qf(F:za×List UInt8->Option (za×List UInt8)):Con I:=⟨172,⟨[.optr 0, .own 1],[(0, .row 133),(1, .sl 5)]⟩,[],⟨[.own 2],[(0, .row 133),(2, .sl 5)]⟩,1,F⟩
def vX(F:za->Option (zb×za)):Con I:=⟨140,⟨[.optr 0],[(0, .row 133)]⟩,[],⟨[.val 44],[(0, .row 133)]⟩,0,F⟩
def YM(F:Int->Option Bool):Con I:=⟨173,⟨[.int .i64],[]⟩,[],⟨[.bool],[]⟩,0,F⟩
def mM(F:Int->Option Bool):Con I:=⟨141,⟨[.int .i64],[]⟩,[],⟨[.bool],[]⟩,0,F⟩
def ZI(F:Int×za->Option Bool):Con I:=⟨142,⟨[.optr 0, .int .i64],[(0, .row 133)]⟩,[0],⟨[.bool],[]⟩,0,F⟩
def uM(F:Int×za->Option Bool):Con I:=⟨143,⟨[.optr 0, .int .i64],[(0, .row 133)]⟩,[0],⟨[.bool],[]⟩,0,F⟩
def Qy(F:za->Option (Str×za)):Con I:=⟨144,⟨[.optr 0],[(0, .row 133)]⟩,[],⟨[.str],[(0, .row 133)]⟩,0,F⟩
def wX(F:za->Option Bool):Con I:=⟨145,⟨[.optr 0],[(0, .row 133)]⟩,[0],⟨[.bool],[]⟩,0,F⟩
def mX(F:za->Option za):Con I:=⟨139,⟨[.optr 0, .clo 174 []],[(0, .row 133)]⟩,[],⟨[],[(0, .row 133)]⟩,0,F⟩
def pX(F:za->Option (Bool×za)):Con I:=⟨175,⟨[.optr 0],[(0, .row 133)]⟩,[],⟨[.bool],[(0, .row 133)]⟩,0,F⟩
def VX(F:Str->Option Int):Con I:=⟨176,⟨[.str],[]⟩,[],⟨[.int .i64],[]⟩,0,F⟩
def nX(F:za->Option (zb×za)):Con I:=⟨146,⟨[.optr 0],[(0, .row 133)]⟩,[],⟨[.val 44],[(0, .row 133)]⟩,0,F⟩
def lW(F:Str->Option Str):Con I:=⟨108,⟨[.str],[]⟩,[],⟨[.str],[]⟩,0,F⟩
def dM(F:Str×Str->Option Bool):Con I:=⟨109,⟨[.str, .str],[]⟩,[],⟨[.bool],[]⟩,0,F⟩
def XX(F:za->Option (zb×za)):Con I:=⟨216,⟨[.optr 0],[(0, .row 133)]⟩,[],⟨[.val 44],[(0, .row 133)]⟩,0,F⟩
def WX(F:za->Option (zb×za)):Con I:=⟨177,⟨[.optr 0],[(0, .row 133)]⟩,[],⟨[.val 44],[(0, .row 133)]⟩,0,F⟩
def gX(F:za->Option (zb×za)):Con I:=⟨147,⟨[.optr 0],[(0, .row 133)]⟩,[],⟨[.val 44],[(0, .row 133)]⟩,0,F⟩
def QR(F:Str×Int->Option Int):Con I:=⟨119,⟨[.str, .int .u8],[]⟩,[],⟨[.int .i64],[]⟩,0,F⟩
def iX(F:za->Option (zb×za)):Con I:=⟨101,⟨[.optr 0],[(0, .row 133)]⟩,[],⟨[.val 44],[(0, .row 133)]⟩,0,F⟩
def bX(F:(zb×Int×Int)×List zb->Option (List zb)):Con I:=⟨70,⟨[.val 44, .int .i64, .int .i64, .optr 0],[(0, .cells 22 [.own 1]),(1, .sl 44)]⟩,[],⟨[],[(0, .cells 22 [.own 2]),(2, .sl 44)]⟩,1,F⟩
def pW(F:Str->Option (Int×List zb)):Con I:=⟨69,⟨[.str, .clo 70 [0]],[(0, .cells 22 [.nilv])]⟩,[],⟨[.int .i64],[(0, .cells 22 [.own 1]),(1, .sl 44)]⟩,1,F⟩
def rW(F:Str->Option (List zb×Int)):Con I:=⟨33,⟨[.str],[]⟩,[],⟨[.sl 44, .int .i64],[]⟩,0,F⟩
def Iw(F:Int->Option Int):Con I:=⟨61,⟨[.int .u8],[]⟩,[],⟨[.int .u8],[]⟩,0,F⟩
def AB(F:List zg×Int->Option zN):Con I:=⟨65,⟨[.sl 49, .int .u8],[]⟩,[],⟨[.val 101],[]⟩,0,F⟩
def MM(F:List zg->Option Int):Con I:=⟨32,⟨[.sl 49],[]⟩,[],⟨[.int .i64],[]⟩,0,F⟩
def bB(F:List zg×List zb->Option (List zb)):Con I:=⟨63,⟨[.own 0, .sl 49],[(0, .sl 44)]⟩,[],⟨[.own 1],[(1, .sl 44)]⟩,1,F⟩
def kW(F:List zg->Option (List zb)):Con I:=⟨63,⟨[.nilv, .sl 49],[]⟩,[],⟨[.own 0],[(0, .sl 44)]⟩,1,F⟩
def uX(F:Str×Str->Option Str):Con I:=⟨197,⟨[.str, .str],[]⟩,[],⟨[.str],[]⟩,0,F⟩
def jX(F:Str×Str->Option Str):Con I:=⟨162,⟨[.str, .str],[]⟩,[],⟨[.str],[]⟩,0,F⟩
def RB(F:Int->Option Bool):Con I:=⟨155,⟨[.int .u8],[]⟩,[],⟨[.bool],[]⟩,0,F⟩
def pM(F:Str->Option Bool):Con I:=⟨122,⟨[.str],[]⟩,[],⟨[.bool],[]⟩,0,F⟩
def fM(F:Int->Option Bool):Con I:=⟨157,⟨[.int .u8],[]⟩,[],⟨[.bool],[]⟩,0,F⟩
def OM(F:Int->Option Bool):Con I:=⟨153,⟨[.int .u8],[]⟩,[],⟨[.bool],[]⟩,0,F⟩
def dX(F:Str×Str->Option Bool):Con I:=⟨154,⟨[.str, .str],[]⟩,[],⟨[.bool],[]⟩,0,F⟩
def rU(F:zb->Option Bool):Con I:=⟨115,⟨[.val 44],[]⟩,[],⟨[.bool],[]⟩,0,F⟩
def BX(F:(Int×Int)×List zb->Option Bool):Con I:=⟨116,⟨[.int .i64, .int .u8, .optr 0],[(0, .row 22)]⟩,[0],⟨[.bool],[]⟩,0,F⟩
def NM(F:List zb->Option Int):Con I:=⟨80,⟨[.sl 44],[]⟩,[],⟨[.int .i64],[]⟩,0,F⟩
def WV(F:List zb->Option Int):Con I:=⟨79,⟨[.sl 44],[]⟩,[],⟨[.int .i64],[]⟩,0,F⟩
def UV(F:Str->Option Int):Con I:=⟨118,⟨[.str],[]⟩,[],⟨[.int .i64],[]⟩,0,F⟩
def gM(F:Int×List UInt8->Option (List UInt8)):Con I:=⟨120,⟨[.own 0, .int .u8],[(0, .sl 5)]⟩,[],⟨[.own 1],[(1, .sl 5)]⟩,1,F⟩
def nW(F:(Str×Int)×List UInt8->Option (List UInt8)):Con I:=⟨117,⟨[.own 0, .str, .int .i64],[(0, .sl 5)]⟩,[],⟨[.own 1],[(1, .sl 5)]⟩,1,F⟩
def SV(F:Unit->Option Q3):Con I:=⟨123,⟨[],[]⟩,[],⟨[.val 149],[]⟩,0,F⟩
def EX(F:(Int×Bool)×List UInt8->Option (List UInt8)):Con I:=⟨121,⟨[.own 0, .int .i64, .bool],[(0, .sl 5)]⟩,[],⟨[.own 1],[(1, .sl 5)]⟩,1,F⟩
def mW(F:zb×List UInt8->Option (List UInt8)):Con I:=⟨81,⟨[.own 0, .val 44],[(0, .sl 5)]⟩,[],⟨[.own 1],[(1, .sl 5)]⟩,1,F⟩
def kX(F:List zb×List zb->Option Bool):Con I:=⟨82,⟨[.sl 44, .sl 44],[]⟩,[],⟨[.bool],[]⟩,0,F⟩
def VV(F:List zb->Option (Str×Int)):Con I:=⟨46,⟨[.sl 44],[]⟩,[],⟨[.str, .int .i64],[]⟩,0,F⟩
def nU(F:List zg->Option (Str×Int)):Con I:=⟨20,⟨[.sl 49],[]⟩,[],⟨[.str, .int .i64],[]⟩,0,F⟩
def NB(F:List zg×List zg->Option Bool):Con I:=⟨22,⟨[.sl 49, .sl 49],[]⟩,[],⟨[.bool],[]⟩,0,F⟩
def AC(F:List zb×Int×Int×Int->Option (List zg×Int)):Con I:=⟨96,⟨[.sl 44, .int .i64, .int .u8, .int .i64],[]⟩,[],⟨[.sl 49, .int .i64],[]⟩,0,F⟩
def sW(F:List zb->Option (List zg×Bool)):Con I:=⟨62,⟨[.sl 44],[]⟩,[],⟨[.sl 49, .bool],[]⟩,0,F⟩
def tV(F:List zb->Option (List zg×Int)):Con I:=⟨17,⟨[.sl 44],[]⟩,[],⟨[.sl 49, .int .i64],[]⟩,0,F⟩
def oU(F:List zg->Option (List zb×Int)):Con I:=⟨18,⟨[.sl 49],[]⟩,[],⟨[.sl 44, .int .i64],[]⟩,0,F⟩
def dV(F:List zg->Option (List zb×Int)):Con I:=⟨19,⟨[.sl 49],[]⟩,[],⟨[.sl 44, .int .i64],[]⟩,0,F⟩
def aW(F:Str->Option Bool):Con I:=⟨102,⟨[.str],[]⟩,[],⟨[.bool],[]⟩,0,F⟩
def ZQ(F:Int->Option Bool):Con I:=⟨148,⟨[.int .u8],[]⟩,[],⟨[.bool],[]⟩,0,F⟩
def jV(F:Str->Option Bool):Con I:=⟨103,⟨[.str],[]⟩,[],⟨[.bool],[]⟩,0,F⟩
def aB(F:Int->Option Bool):Con I:=⟨178,⟨[.int .u8],[]⟩,[],⟨[.bool],[]⟩,0,F⟩
def Qi(F:Str×Int->Option Int):Con I:=⟨217,⟨[.str, .int .i64],[]⟩,[],⟨[.int .u8],[]⟩,0,F⟩
def OG(F:Str×Int->Option Int):Con I:=⟨179,⟨[.str, .int .i64],[]⟩,[],⟨[.int .i64],[]⟩,0,F⟩
def KM(F:Unit->Option Str):Con I:=⟨244,⟨[],[]⟩,[],⟨[.str],[]⟩,0,F⟩
def Hw(F:Int->Option Int):Con I:=⟨150,⟨[.int .u8],[]⟩,[],⟨[.int .u8],[]⟩,0,F⟩
def lU(F:Int->Option Int):Con I:=⟨245,⟨[.int .u8],[]⟩,[],⟨[.int .i64],[]⟩,0,F⟩
def mV(F:Int->Option Str):Con I:=⟨246,⟨[.int .i64],[]⟩,[],⟨[.str],[]⟩,0,F⟩
def gB(F:Str×Int->Option (Str×Int)):Con I:=⟨218,⟨[.str, .int .i64],[]⟩,[],⟨[.str, .int .i64],[]⟩,0,F⟩
def vW(F:Str×Int->Option (zb×Int)):Con I:=⟨180,⟨[.str, .int .i64],[]⟩,[],⟨[.val 44, .int .i64],[]⟩,0,F⟩
def nM(F:Int->Option Bool):Con I:=⟨198,⟨[.int .u8],[]⟩,[],⟨[.bool],[]⟩,0,F⟩
def IC(F:Int->Option Bool):Con I:=⟨163,⟨[.int .u8],[]⟩,[],⟨[.bool],[]⟩,0,F⟩
def Q4(F:Str×Int->Option Bool):Con I:=⟨181,⟨[.str, .int .i64],[]⟩,[],⟨[.bool],[]⟩,0,F⟩
def PG(F:Str×Int->Option (Str×Int)):Con I:=⟨182,⟨[.str, .int .i64],[]⟩,[],⟨[.str, .int .i64],[]⟩,0,F⟩
def oM(F:Str×Int->Option Bool):Con I:=⟨183,⟨[.str, .int .i64],[]⟩,[],⟨[.bool],[]⟩,0,F⟩
def GX(F:Str×Int->Option Bool):Con I:=⟨184,⟨[.str, .int .i64],[]⟩,[],⟨[.bool],[]⟩,0,F⟩
def wW(F:Str×Int->Option Int):Con I:=⟨247,⟨[.str, .int .i64],[]⟩,[],⟨[.int .i64],[]⟩,0,F⟩
def RX(F:Str×Int->Option (Int×Bool)):Con I:=⟨219,⟨[.str, .int .i64],[]⟩,[],⟨[.int .i64, .bool],[]⟩,0,F⟩
def aX(F:Str->Option Int):Con I:=⟨220,⟨[.str],[]⟩,[],⟨[.int .i64],[]⟩,0,F⟩
def DX(F:Str×Int->Option (zb×Int)):Con I:=⟨185,⟨[.str, .int .i64],[]⟩,[],⟨[.val 44, .int .i64],[]⟩,0,F⟩
def tL(F:Str×Int×Str->Option Bool):Con I:=⟨186,⟨[.str, .int .i64, .str],[]⟩,[],⟨[.bool],[]⟩,0,F⟩
def jW(F:Str->Option Str):Con I:=⟨105,⟨[.str],[]⟩,[],⟨[.str],[]⟩,0,F⟩
def RG(F:Str×Str->Option Bool):Con I:=⟨72,⟨[.str, .str],[]⟩,[],⟨[.bool],[]⟩,0,F⟩
def kU(F:Str×Int->Option (zb×Int)):Con I:=⟨248,⟨[.str, .int .i64],[]⟩,[],⟨[.val 44, .int .i64],[]⟩,0,F⟩
def YX(F:Int->Option Bool):Con I:=⟨249,⟨[.int .u8],[]⟩,[],⟨[.bool],[]⟩,0,F⟩
def jU(F:Str×Int->Option (zb×Int)):Con I:=⟨221,⟨[.str, .int .i64],[]⟩,[],⟨[.val 44, .int .i64],[]⟩,0,F⟩
def kV(F:Str×Int->Option (zb×Int)):Con I:=⟨187,⟨[.str, .int .i64],[]⟩,[],⟨[.val 44, .int .i64],[]⟩,0,F⟩
def lV(F:Int->Option Int):Con I:=⟨188,⟨[.int .u8],[]⟩,[],⟨[.int .u8],[]⟩,0,F⟩
def vL(F:Str×Int->Option (zb×Int)):Con I:=⟨149,⟨[.str, .int .i64],[]⟩,[],⟨[.val 44, .int .i64],[]⟩,0,F⟩
def gW(F:Int->Option Bool):Con I:=⟨104,⟨[.int .u8],[]⟩,[],⟨[.bool],[]⟩,0,F⟩
def iV(F:zb->Option Bool):Con I:=⟨71,⟨[.val 44],[]⟩,[],⟨[.bool],[]⟩,0,F⟩
def iW(F:List zb->Option Int):Con I:=⟨35,⟨[.sl 44],[]⟩,[],⟨[.int .i64],[]⟩,0,F⟩
def NG(F:Int->Option Str):Con I:=⟨164,⟨[.int .u8],[]⟩,[],⟨[.str],[]⟩,0,F⟩
def bM(F:Str×Bool->Option Str):Con I:=⟨124,⟨[.str, .bool],[]⟩,[],⟨[.str],[]⟩,0,F⟩
def uW(F:Str×Bool->Option Str):Con I:=⟨201,⟨[.str, .bool],[]⟩,[],⟨[.str],[]⟩,0,F⟩
def FC(F:Int->Option Str):Con I:=⟨229,⟨[.int .i64],[]⟩,[],⟨[.str],[]⟩,0,F⟩
def EC(F:Int×Bool->Option Str):Con I:=⟨202,⟨[.int .i64, .bool],[]⟩,[],⟨[.str],[]⟩,0,F⟩
def fV(F:Str->Option Str):Con I:=⟨203,⟨[.str],[]⟩,[],⟨[.str],[]⟩,0,F⟩
def gV(F:zb->Option Str):Con I:=⟨167,⟨[.val 44],[]⟩,[],⟨[.str],[]⟩,0,F⟩
def bW(F:List zb->Option (Int×Str)):Con I:=⟨133,⟨[.sl 44],[]⟩,[],⟨[.int .i64, .str],[]⟩,0,F⟩
def RV(F:Str×Int->Option Int):Con I:=⟨152,⟨[.str, .int .i64],[]⟩,[],⟨[.int .i64],[]⟩,0,F⟩
def mU(F:Str->Option (List zb×List Zl)):Con I:=⟨114,⟨[.str],[]⟩,[],⟨[.sl 44, .sl 172],[]⟩,0,F⟩
def LM(F:List zb×List zb->Option Bool):Con I:=⟨23,⟨[.sl 44, .sl 44],[]⟩,[],⟨[.bool],[]⟩,0,F⟩
def CX(F:List zb->Option Str):Con I:=⟨97,⟨[.sl 44],[]⟩,[],⟨[.str],[]⟩,0,F⟩
def dW(F:List zb->Option (Str×Int)):Con I:=⟨64,⟨[.sl 44],[]⟩,[],⟨[.str, .int .i64],[]⟩,0,F⟩
def bV(F:List zg->Option (Str×Int)):Con I:=⟨21,⟨[.sl 49],[]⟩,[],⟨[.str, .int .i64],[]⟩,0,F⟩
def xW(F:List zb×List zb->Option Bool):Con I:=⟨23,⟨[.sl 44, .own 0],[(0, .sl 44)]⟩,[0],⟨[.bool],[]⟩,0,F⟩
def eX(F:List zb×List zg->Option Bool):Con I:=⟨3,⟨[.sl 44, .sl 49],[]⟩,[],⟨[.bool],[]⟩,0,F⟩
def AX(F:List zg->Option (List zb)):Con I:=⟨63,⟨[.nilv, .sl 49],[]⟩,[],⟨[.sl 44],[]⟩,0,F⟩
def jQ(F:Str->Option (Str×Int)):Con I:=⟨99,⟨[.str],[]⟩,[],⟨[.str, .int .i64],[]⟩,0,F⟩
theorem Y5:zn Tryz.prog (jQ gm):=O4
def OT(F:Str×Int->Option Int):Con I:=⟨156,⟨[.str, .int .u8],[]⟩,[],⟨[.int .i64],[]⟩,0,F⟩
theorem O9:zn Tryz.prog (OT Az):=F8
def fJ(F:Str×Str->Option Int):Con I:=⟨136,⟨[.str, .str],[]⟩,[],⟨[.int .i64],[]⟩,0,F⟩
theorem CR:zn Tryz.prog (fJ Ym):=M4
def gQ(F:Str×Str->Option Str):Con I:=⟨213,⟨[.str, .str],[]⟩,[],⟨[.str],[]⟩,0,F⟩
theorem I1:zn Tryz.prog (gQ uk):=J4
def fQ(F:Str×Str->Option Str):Con I:=⟨160,⟨[.str, .str],[]⟩,[],⟨[.str],[]⟩,0,F⟩
theorem Y0:zn Tryz.prog (fQ Jo):=I4
def pU(F:Str×Str->Option Int):Con I:=⟨214,⟨[.str, .str],[]⟩,[],⟨[.int .i64],[]⟩,0,F⟩
theorem zsh:zn Tryz.prog (pU Ul):=zrE
def OZ(F:Str×Str->Option (Str×Str×Bool)):Con I:=⟨215,⟨[.str, .str],[]⟩,[],⟨[.str, .str, .bool],[]⟩,0,F⟩
theorem zEf:zn Tryz.prog (OZ cutF):=zDT
def PT(F:Int×Int->Option Str):Con I:=⟨161,⟨[.int .i64, .int .i64],[]⟩,[],⟨[.str],[]⟩,0,F⟩
theorem P9:zn Tryz.prog (PT lq):=G8
def BU(F:(Int×Int)×List UInt8->Option (List UInt8)):Con I:=⟨158,⟨[.own 0, .int .u64, .int .i64],[(0, .sl 5)]⟩,[],⟨[.own 1],[(1, .sl 5)]⟩,1,F⟩
theorem zt6:zn Tryz.prog (BU Ir):=ztL
def CU(F:(Int×Int)×List UInt8->Option (List UInt8)):Con I:=⟨159,⟨[.own 0, .int .i64, .int .i64],[(0, .sl 5)]⟩,[],⟨[.own 1],[(1, .sl 5)]⟩,1,F⟩
theorem zt5:zn Tryz.prog (CU Jr):=ztK
def iQ(F:List zb->Option (List zg×Int)):Con I:=⟨16,⟨[.sl 44],[]⟩,[],⟨[.sl 49, .int .i64],[]⟩,0,F⟩
theorem U1:zn Tryz.prog (iQ parseF):=K4
theorem zqx(qX:List zg×Int->Option Int)(hs:zn Tryz.prog (MB qX)):zn Tryz.prog (MB (lv qX)):=
 okC (A:=⟨[MB qX],[],[],0,[(3,⟨[5,6],⟨[.int .i64, .int .i64],[]⟩,[0,1,4],[],[],0,[5],⟨[.int .i64],[]⟩,[]⟩)],[],[]⟩) (exS:=⟨[.int .i64],[]⟩) Tryz.f58 (memC hs zI) (by kernel_rfl) (by kernel_rfl) fun x=>by kernel_rfl
theorem zp3:zn Tryz.prog (MB qX):=
 zn.recE (I:=I) (P:=Tryz.prog) (f:=58) (inS:=⟨[.sl 49, .int .i64],[]⟩) (cst:=[]) (outS:=⟨[.int .i64],[]⟩) (k:=0) (lv) (by kernel_rfl) (fun S h=>zqx S h)
theorem XG:zn Tryz.prog (DC qo):=
 okC (A:=⟨[],[],[],0,[],[(6,⟨[6],⟨[.bool],[]⟩,[3],[],[],0,[],⟨[],[]⟩,[]⟩)],[]⟩) (exS:=⟨[.int .u8],[]⟩) Tryz.f25 zI (by kernel_rfl) (by kernel_rfl) fun x=>by kernel_rfl
theorem zqv(Qj:List zg->Option Int)(hs:zn Tryz.prog (Bw Qj)):zn Tryz.prog (Bw (wF Qj)):=
 okC (A:=⟨[DC qo,Bw Qj],[],[],0,[(3,⟨[3,4],⟨[.int .i64, .int .i64],[]⟩,[0,2],[],[],0,[3],⟨[.int .i64],[]⟩,[]⟩)],[(4,⟨[3,4],⟨[.int .i64, .int .i64],[]⟩,[],[],[],0,[],⟨[],[]⟩,[]⟩)],[]⟩) (exS:=⟨[.int .i64],[]⟩) Tryz.f59 (memC XG (memC hs zI)) (by kernel_rfl) (by kernel_rfl) fun x=>by kernel_rfl
theorem vV:zn Tryz.prog (Bw Qj):=
 zn.recE (I:=I) (P:=Tryz.prog) (f:=59) (inS:=⟨[.sl 49],[]⟩) (cst:=[]) (outS:=⟨[.int .i64],[]⟩) (k:=0) (wF) (by kernel_rfl) (fun S h=>zqv S h)
theorem zn1:zn Tryz.prog (uV FB):=
 okC (A:=⟨[MB qX,Bw Qj],[],[],0,[],[],[]⟩) (exS:=⟨[.bool],[]⟩) Tryz.f15 (memC zp3 (memC vV zI)) (by kernel_rfl) (by kernel_rfl) fun x=>by kernel_rfl
theorem zm9(Zp:List zg->Option (List zb))(hs:zn Tryz.prog (qN Zp)):zn Tryz.prog (qN (IG Zp)):=
 okC (A:=⟨[DC qo,qN Zp],[(5,[6]),(9,[3])],[],0,[(3,⟨[3,4],⟨[.own 1001, .int .i64],[(1001, .sl 44)]⟩,[0,2],[],[],0,[3],⟨[.own 1001],[(1001, .sl 44)]⟩,[1001]⟩)],[(4,⟨[3,4],⟨[.own 1103, .int .i64],[(1103, .sl 44)]⟩,[],[],[],0,[],⟨[],[]⟩,[]⟩)],[]⟩) (exS:=⟨[.sl 44],[]⟩) Tryz.f36 (memC XG (memC hs zI)) (by kernel_rfl) (by kernel_rfl) fun x=>by kernel_rfl
theorem WG:zn Tryz.prog (qN Zp):=
 zn.recE (I:=I) (P:=Tryz.prog) (f:=36) (inS:=⟨[.sl 49],[]⟩) (cst:=[]) (outS:=⟨[.sl 44],[]⟩) (k:=0) (IG) (by kernel_rfl) (fun S h=>zm9 S h)
theorem zna(qQ:List zg×Int->Option Bool)(hs:zn Tryz.prog (BC qQ)):zn Tryz.prog (BC (GG qQ)):=
 okC (A:=⟨[DC qo,BC qQ],[],[],0,[(2,⟨[5],⟨[.int .i64],[]⟩,[0,1],[],[],0,[],⟨[],[]⟩,[]⟩)],[],[]⟩) (exS:=⟨[.bool],[]⟩) Tryz.f66 (memC XG (memC hs zI)) (by kernel_rfl) (by kernel_rfl) fun x=>by kernel_rfl
theorem zmE:zn Tryz.prog (BC qQ):=
 zn.recE (I:=I) (P:=Tryz.prog) (f:=66) (inS:=⟨[.sl 49, .int .u8],[]⟩) (cst:=[]) (outS:=⟨[.bool],[]⟩) (k:=0) (GG) (by kernel_rfl) (fun S h=>zna S h)
theorem LW:zn Tryz.prog (aM Rs):=
 okC (A:=⟨[Bw Qj,qN Zp,BC qQ],[],[],0,[],[],[]⟩) (exS:=⟨[.int .i64],[]⟩) Tryz.f27 (memC vV (memC WG (memC zmE zI))) (by kernel_rfl) (by kernel_rfl) fun x=>by kernel_rfl
theorem rX:zn Tryz.prog (QS stringslite_HasPrefix):=
 okC (A:=⟨[],[],[],0,[],[],[]⟩) (exS:=⟨[.bool],[]⟩) Tryz.f130 zI (by kernel_rfl) (by kernel_rfl) fun x=>by kernel_rfl
theorem qI:zn Tryz.prog (Z6 strings_HasPrefix):=
 okC (A:=⟨[QS stringslite_HasPrefix],[],[],0,[],[],[]⟩) (exS:=⟨[.bool],[]⟩) Tryz.f93 (memC rX zI) (by kernel_rfl) (by kernel_rfl) fun x=>by kernel_rfl
theorem zef:zn Tryz.prog (tX Zq):=
 okC (A:=⟨[Z6 strings_HasPrefix,fJ Ym],[],[],1,[(0,⟨[],⟨[],[(0, .row 133)]⟩,[0],[],[0],0,[],⟨[],[(0, .row 133)]⟩,[0]⟩)],[],[]⟩) (exS:=⟨[],[(0, .row 133)]⟩) Tryz.f100 (memC qI (memC CR zI)) (by kernel_rfl) (by kernel_rfl) fun x=>by kernel_rfl
theorem zA:zn Tryz.prog (zz zf):=
 okC (A:=⟨[],[],[],1,[],[],[]⟩) (exS:=⟨[.int .i64],[]⟩) Tryz.f137 zI (by kernel_rfl) (by kernel_rfl) fun x=>by kernel_rfl
theorem jB:zn Tryz.prog (Fw qD):=
 okC (A:=⟨[],[],[],0,[],[],[]⟩) (exS:=⟨[.bool],[]⟩) Tryz.f138 zI (by kernel_rfl) (by kernel_rfl) fun x=>by kernel_rfl
theorem Q9:zn Tryz.prog (Ql zY):=
 okC (A:=⟨[zz zf,Fw qD],[],[],1,[(0,⟨[],⟨[],[(0, .row 133)]⟩,[0,1],[],[0],0,[],⟨[],[(0, .row 133)]⟩,[0]⟩)],[],[]⟩) (exS:=⟨[],[(0, .row 133)]⟩) Tryz.f139 (memC zA (memC jB zI)) (by kernel_rfl) (by kernel_rfl) fun x=>by kernel_rfl
theorem zc6:zn Tryz.prog (yX qh):=
 okC (A:=⟨[],[(2,[1]),(4,[9]),(7,[14]),(9,[19])],[],0,[],[(7,⟨[25],⟨[.bool],[]⟩,[0,1,5],[],[],0,[],⟨[],[]⟩,[]⟩)],[]⟩) (exS:=⟨[.own 0],[(0, .sl 5)]⟩) Tryz.f237 zI (by kernel_rfl) (by kernel_rfl) fun x=>by kernel_rfl
theorem zgW:zn Tryz.prog (UX qb):=
 okC (A:=⟨[yX qh],[(2,[3])],[],0,[],[],[]⟩) (exS:=⟨[.own 0],[(0, .sl 5)]⟩) Tryz.f210 (memC zc6 zI) (by kernel_rfl) (by kernel_rfl) fun x=>by kernel_rfl
theorem VG:zn Tryz.prog (yB Z0):=
 okC (A:=⟨[],[],[],0,[],[],[]⟩) (exS:=⟨[.bool],[]⟩) Tryz.f212 zI (by kernel_rfl) (by kernel_rfl) fun x=>by kernel_rfl
theorem uB:zn Tryz.prog (Gw ZF):=
 okC (A:=⟨[yB Z0],[],[],0,[],[],[]⟩) (exS:=⟨[.bool],[]⟩) Tryz.f174 (memC VG zI) (by kernel_rfl) (by kernel_rfl) fun x=>by kernel_rfl
theorem FV:zn Tryz.prog (oL wo):=
 okC (A:=⟨[Gw ZF,yB Z0],[],[],0,[],[],[]⟩) (exS:=⟨[.int .i64],[]⟩) Tryz.f211 (memC uB (memC VG zI)) (by kernel_rfl) (by kernel_rfl) fun x=>by kernel_rfl
theorem zdO:zn Tryz.prog (AY ZV):=
 okC (A:=⟨[zz zf,UX qb,oL wo,Fw qD],[(7,[3])],[],1,[(10,⟨[6,36],⟨[.int .i64, .int .i64],[(0, .row 133)]⟩,[0,1,4],[],[0],0,[6],⟨[.int .i64],[(0, .row 133)]⟩,[0]⟩)],[(17,⟨[6],⟨[.int .i64],[(0, .row 133)]⟩,[1],[],[0],0,[],⟨[],[]⟩,[]⟩),(19,⟨[6],⟨[.int .i64],[]⟩,[],[0],[],0,[],⟨[],[]⟩,[]⟩)],[]⟩) (exS:=⟨[.own 1],[(0, .row 133),(1, .sl 5)]⟩) Tryz.f172 (memC zA (memC zgW (memC FV (memC jB zI)))) (by kernel_rfl) (by kernel_rfl) fun x=>by kernel_rfl
theorem zc7:zn Tryz.prog (xX qi):=
 okC (A:=⟨[],[(2,[1]),(4,[9]),(7,[14]),(9,[19])],[],1,[],[(7,⟨[25],⟨[.bool],[(0, .sl 5)]⟩,[0,1,5],[],[0],0,[],⟨[],[]⟩,[]⟩)],[]⟩) (exS:=⟨[.own 1],[(1, .sl 5)]⟩) Tryz.f237 zI (by kernel_rfl) (by kernel_rfl) fun x=>by kernel_rfl
theorem zgX:zn Tryz.prog (SX qc):=
 okC (A:=⟨[xX qi],[(2,[3])],[],1,[],[],[]⟩) (exS:=⟨[.own 1],[(1, .sl 5)]⟩) Tryz.f210 (memC zc7 zI) (by kernel_rfl) (by kernel_rfl) fun x=>by kernel_rfl
theorem Qh:zn Tryz.prog (qf zU):=
 okC (A:=⟨[zz zf,SX qc,oL wo,Fw qD],[(7,[3])],[],2,[(10,⟨[6,36],⟨[.int .i64, .int .i64],[(0, .row 133)]⟩,[0,1,4],[1],[0],0,[6],⟨[.int .i64],[(0, .row 133)]⟩,[0]⟩)],[(17,⟨[6],⟨[.int .i64],[(0, .row 133),(1, .sl 5)]⟩,[1],[],[0,1],0,[],⟨[],[]⟩,[]⟩),(19,⟨[6],⟨[.int .i64],[(1, .sl 5)]⟩,[],[0],[1],0,[],⟨[],[]⟩,[]⟩)],[]⟩) (exS:=⟨[.own 2],[(0, .row 133),(2, .sl 5)]⟩) Tryz.f172 (memC zA (memC zgX (memC FV (memC jB zI)))) (by kernel_rfl) (by kernel_rfl) fun x=>by kernel_rfl
theorem ze9:zn Tryz.prog (vX qJ):=
 okC (A:=⟨[zz zf,qf zU],[(5,[3])],[],1,[(4,⟨[4],⟨[.own 1104],[(0, .row 133),(1, .row 44),(1104, .sl 5)]⟩,[0,2,3],[],[0,1],0,[4],⟨[.own 1104],[(0, .row 133),(1, .row 44),(1104, .sl 5)]⟩,[0,1,1104]⟩)],[],[]⟩) (exS:=⟨[.optr 1],[(0, .row 133),(1, .row 44)]⟩) Tryz.f140 (memC zA (memC Qh zI)) (by kernel_rfl) (by kernel_rfl) fun x=>by kernel_rfl
theorem KW:zn Tryz.prog (YM Ns):=
 okC (A:=⟨[yB Z0],[],[],0,[],[],[]⟩) (exS:=⟨[.bool],[]⟩) Tryz.f173 (memC VG zI) (by kernel_rfl) (by kernel_rfl) fun x=>by kernel_rfl
theorem IX:zn Tryz.prog (mM jv):=
 okC (A:=⟨[YM Ns,Gw ZF],[],[],0,[],[],[]⟩) (exS:=⟨[.bool],[]⟩) Tryz.f141 (memC KW (memC uB zI)) (by kernel_rfl) (by kernel_rfl) fun x=>by kernel_rfl
theorem ZT:zn Tryz.prog (ZI zx):=
 okC (A:=⟨[zz zf],[],[],1,[],[],[]⟩) (exS:=⟨[.bool],[]⟩) Tryz.f142 (memC zA zI) (by kernel_rfl) (by kernel_rfl) fun x=>by kernel_rfl
theorem lX:zn Tryz.prog (uM zK):=
 okC (A:=⟨[zz zf,YM Ns,ZI zx],[],[],1,[],[],[]⟩) (exS:=⟨[.bool],[]⟩) Tryz.f143 (memC zA (memC KW (memC ZT zI))) (by kernel_rfl) (by kernel_rfl) fun x=>by kernel_rfl
theorem rM:zn Tryz.prog (Qy zR):=
 okC (A:=⟨[zz zf,mM jv,ZI zx,qf zU],[(5,[3])],[],1,[(2,⟨[3],⟨[.own 1105],[(0, .row 133),(1105, .sl 5)]⟩,[0],[],[0],0,[],⟨[],[]⟩,[]⟩)],[],[]⟩) (exS:=⟨[.str],[(0, .row 133)]⟩) Tryz.f144 (memC zA (memC IX (memC ZT (memC Qh zI)))) (by kernel_rfl) (by kernel_rfl) fun x=>by kernel_rfl
theorem ze8:zn Tryz.prog (wX ZG):=
 okC (A:=⟨[zz zf,Gw ZF],[],[],1,[],[(5,⟨[3],⟨[.int .i64],[]⟩,[0],[],[],0,[],⟨[],[]⟩,[]⟩),(7,⟨[3],⟨[.int .i64],[]⟩,[],[],[],0,[],⟨[],[]⟩,[]⟩)],[]⟩) (exS:=⟨[.bool],[]⟩) Tryz.f145 (memC zA (memC uB zI)) (by kernel_rfl) (by kernel_rfl) fun x=>by kernel_rfl
theorem zey:zn Tryz.prog (mX zV):=
 okC (A:=⟨[zz zf,Gw ZF],[],[],1,[(0,⟨[],⟨[],[(0, .row 133)]⟩,[0,1],[],[0],0,[],⟨[],[(0, .row 133)]⟩,[0]⟩)],[],[]⟩) (exS:=⟨[],[(0, .row 133)]⟩) Tryz.f139 (memC zA (memC uB zI)) (by kernel_rfl) (by kernel_rfl) fun x=>by kernel_rfl
theorem zew:zn Tryz.prog (pX qp):=
 okC (A:=⟨[zz zf,mX zV,Gw ZF],[],[],1,[],[(4,⟨[],⟨[],[(0, .row 133)]⟩,[0],[],[0],0,[],⟨[],[]⟩,[]⟩),(10,⟨[4],⟨[.bool],[(0, .row 133)]⟩,[],[],[0],0,[],⟨[],[]⟩,[]⟩),(15,⟨[4,5],⟨[.bool, .int .i64],[(0, .row 133)]⟩,[],[],[0],0,[],⟨[],[]⟩,[]⟩),(19,⟨[4],⟨[.bool],[(0, .row 133)]⟩,[],[],[0],0,[],⟨[],[]⟩,[]⟩)],[]⟩) (exS:=⟨[.bool],[(0, .row 133)]⟩) Tryz.f175 (memC zA (memC zey (memC uB zI))) (by kernel_rfl) (by kernel_rfl) fun x=>by kernel_rfl
theorem zgV:zn Tryz.prog (VX qa):=
 okC (A:=⟨[gQ uk,pU Ul,OZ cutF],[],[],0,[(8,⟨[6,31],⟨[.int .i64, .int .i64],[]⟩,[0,2,3,4,5,29,30],[0],[],0,[6],⟨[.int .i64],[]⟩,[]⟩),(22,⟨[12,81],⟨[.int .i64, .int .i64],[]⟩,[4,79,80],[0],[],2,[12],⟨[.int .i64],[]⟩,[]⟩),(26,⟨[4,12],⟨[.int .i64, .int .i64],[]⟩,[],[],[],4,[12],⟨[.int .i64],[]⟩,[]⟩)],[(14,⟨[0,4,6],⟨[.str, .int .i64, .int .i64],[]⟩,[3,5],[],[],0,[],⟨[],[]⟩,[]⟩),(15,⟨[0,4],⟨[.str, .int .i64],[]⟩,[3],[],[],0,[],⟨[],[]⟩,[]⟩),(20,⟨[0,4],⟨[.str, .int .i64],[]⟩,[],[],[],0,[],⟨[],[]⟩,[]⟩),(31,⟨[12],⟨[.int .i64],[]⟩,[],[],[],0,[],⟨[],[]⟩,[]⟩)],[]⟩) (exS:=⟨[.int .i64],[]⟩) Tryz.f176 (memC I1 (memC zsh (memC zEf zI))) (by kernel_rfl) (by kernel_rfl) fun x=>by kernel_rfl
theorem zex:zn Tryz.prog (nX ZO):=
 okC (A:=⟨[pX qp,VX qa,uM zK,Qy zR,zz zf],[],[],1,[],[(9,⟨[],⟨[],[(0, .row 133),(1, .row 44),(2, .row 44)]⟩,[2,5],[],[0,1,2],0,[],⟨[],[]⟩,[]⟩)],[]⟩) (exS:=⟨[.optr 1],[(0, .row 133),(1, .row 44)]⟩) Tryz.f146 (memC zew (memC zgV (memC lX (memC rM (memC zA zI))))) (by kernel_rfl) (by kernel_rfl) fun x=>by kernel_rfl
theorem znT:zn Tryz.prog (lW Cw):=
 okC (A:=⟨[],[],[],0,[(3,⟨[10],⟨[.int .i64],[(0, .sl 5)]⟩,[2,3,8,9],[],[0],0,[],⟨[],[(0, .sl 5)]⟩,[0]⟩)],[(7,⟨[10],⟨[.int .i64],[(0, .sl 5)]⟩,[],[],[0],0,[],⟨[],[]⟩,[]⟩)],[]⟩) (exS:=⟨[.str],[]⟩) Tryz.f108 zI (by kernel_rfl) (by kernel_rfl) fun x=>by kernel_rfl
theorem OW:zn Tryz.prog (dM Us):=
 okC (A:=⟨[lW Cw],[],[],0,[],[],[]⟩) (exS:=⟨[.bool],[]⟩) Tryz.f109 (memC znT zI) (by kernel_rfl) (by kernel_rfl) fun x=>by kernel_rfl
theorem zgT:zn Tryz.prog (XX Z9):=
 okC (A:=⟨[zz zf,ZI zx,AY ZV],[],[],1,[(1,⟨[],⟨[],[(0, .row 133),(1, .row 44)]⟩,[0,2],[],[0,1],0,[],⟨[],[]⟩,[]⟩)],[],[]⟩) (exS:=⟨[.optr 1],[(0, .row 133),(1, .row 44)]⟩) Tryz.f216 (memC zA (memC ZT (memC zdO zI))) (by kernel_rfl) (by kernel_rfl) fun x=>by kernel_rfl
theorem zgU:zn Tryz.prog (WX QJ):=
 okC (A:=⟨[Ql zY,zz zf,Fw qD,XX Z9,yB Z0,ZI zx,qf zU],[(18,[3])],[],1,[(3,⟨[3],⟨[.own 1106],[(0, .row 133),(1, .row 44),(1106, .sl 5)]⟩,[0,2],[],[0,1],0,[],⟨[],[]⟩,[]⟩)],[(10,⟨[3,4],⟨[.own 1106, .int .i64],[(0, .row 133),(1, .row 44),(1106, .sl 5)]⟩,[],[],[0,1,1106],0,[],⟨[],[]⟩,[]⟩)],[]⟩) (exS:=⟨[.optr 1],[(0, .row 133),(1, .row 44)]⟩) Tryz.f177 (memC Q9 (memC zA (memC jB (memC zgT (memC VG (memC ZT (memC Qh zI))))))) (by kernel_rfl) (by kernel_rfl) fun x=>by kernel_rfl
theorem zfn:zn Tryz.prog (gX ZK):=
 okC (A:=⟨[Qy zR,zz zf,dM Us,Ql zY,WX QJ],[],[],1,[],[(11,⟨[],⟨[],[(0, .row 133),(1, .row 44)]⟩,[2,3],[],[0,1],0,[],⟨[],[]⟩,[]⟩)],[]⟩) (exS:=⟨[.optr 1],[(0, .row 133),(1, .row 44)]⟩) Tryz.f147 (memC rM (memC zA (memC OW (memC Q9 (memC zgU zI))))) (by kernel_rfl) (by kernel_rfl) fun x=>by kernel_rfl
theorem sM:zn Tryz.prog (QR strings_IndexByte):=
 okC (A:=⟨[OT Az],[],[],0,[],[],[]⟩) (exS:=⟨[.int .i64],[]⟩) Tryz.f119 (memC O9 zI) (by kernel_rfl) (by kernel_rfl) fun x=>by kernel_rfl
theorem zf0:zn Tryz.prog (iX qz):=
 okC (A:=⟨[zz zf,Fw qD,Ql zY,vX qJ,mM jv,ZI zx,uM zK,Qy zR,wX ZG,nX ZO,Z6 strings_HasPrefix,gX ZK,QR strings_IndexByte],[],[],1,[],[],[]⟩) (exS:=⟨[.optr 1],[(0, .row 133),(1, .row 44)]⟩) Tryz.f101 (memC zA (memC jB (memC Q9 (memC ze9 (memC IX (memC ZT (memC lX (memC rM (memC ze8 (memC zex (memC qI (memC zfn (memC sM zI))))))))))))) (by kernel_rfl) (by kernel_rfl) fun x=>by kernel_rfl
theorem zhF:zn Tryz.prog (bX QY):=
 okC (A:=⟨[],[(1,[2])],[],2,[],[],[]⟩) (exS:=⟨[],[(0, .cells 22 [.own 2]),(2, .sl 44)]⟩) Tryz.f70 zI (by kernel_rfl) (by kernel_rfl) fun x=>by kernel_rfl
theorem zmH:zn Tryz.prog (pW SB):=
 okC (A:=⟨[jQ gm,tX Zq,iX qz,bX QY],[],[],1,[(7,⟨[7],⟨[.int .i64],[(0, .cells 22 [.own 1107]),(1107, .sl 44),(1, .row 133)]⟩,[0,1,6],[],[0,1],0,[],⟨[],[(0, .cells 22 [.own 1107]),(1107, .sl 44),(1, .row 133)]⟩,[0,1,1107]⟩)],[],[]⟩) (exS:=⟨[.int .i64],[(0, .cells 22 [.own 1]),(1, .sl 44)]⟩) Tryz.f69 (memC Y5 (memC zef (memC zf0 (memC zhF zI)))) (by kernel_rfl) (by kernel_rfl) fun x=>by kernel_rfl
theorem zmG:zn Tryz.prog (rW TB):=
 okC (A:=⟨[pW SB],[],[],0,[],[],[]⟩) (exS:=⟨[.sl 44, .int .i64],[]⟩) Tryz.f33 (memC zmH zI) (by kernel_rfl) (by kernel_rfl) fun x=>by kernel_rfl
theorem wB:zn Tryz.prog (Iw qB):=
 okC (A:=⟨[],[],[],0,[],[(7,⟨[6],⟨[.bool],[]⟩,[0],[],[],0,[],⟨[],[]⟩,[]⟩)],[]⟩) (exS:=⟨[.int .u8],[]⟩) Tryz.f61 zI (by kernel_rfl) (by kernel_rfl) fun x=>by kernel_rfl
theorem zsX(Lm:List zg×Int->Option zN)(hs:zn Tryz.prog (AB Lm)):zn Tryz.prog (AB (rF Lm)):=
 okC (A:=⟨[Iw qB,AB Lm],[],[],0,[(3,⟨[12],⟨[.int .i64],[(1, .row 101)]⟩,[1,4,5,10,11],[0],[1],0,[],⟨[],[(1, .row 101)]⟩,[1]⟩)],[(9,⟨[],⟨[],[(1, .row 101)]⟩,[7,8,12],[2],[1],0,[],⟨[],[]⟩,[]⟩),(12,⟨[12],⟨[.int .i64],[(1, .row 101)]⟩,[],[],[1],0,[],⟨[],[]⟩,[]⟩)],[]⟩) (exS:=⟨[.optr 0],[(0, .row 101)]⟩) Tryz.f65 (memC wB (memC hs zI)) (by kernel_rfl) (by kernel_rfl) fun x=>by kernel_rfl
theorem zsl:zn Tryz.prog (AB Lm):=
 zn.recE (I:=I) (P:=Tryz.prog) (f:=65) (inS:=⟨[.sl 49, .int .u8],[]⟩) (cst:=[]) (outS:=⟨[.val 101],[]⟩) (k:=0) (rF) (by kernel_rfl) (fun S h=>zsX S h)
theorem yV:zn Tryz.prog (MM Gs):=
 okC (A:=⟨[AB Lm],[],[],0,[],[],[]⟩) (exS:=⟨[.int .i64],[]⟩) Tryz.f32 (memC zsl zI) (by kernel_rfl) (by kernel_rfl) fun x=>by kernel_rfl
theorem zn4(Qt:List zg×List zb->Option (List zb))(hs:zn Tryz.prog (bB Qt)):zn Tryz.prog (bB (UG Qt)):=
 okC (A:=⟨[Iw qB,bB Qt],[(4,[3]),(7,[6])],[],1,[(2,⟨[0,10],⟨[.own 1108, .int .i64],[(1108, .sl 44)]⟩,[4,8,9],[],[],0,[0],⟨[.own 1108],[(1108, .sl 44)]⟩,[1108]⟩)],[(8,⟨[0,10],⟨[.own 1210, .int .i64],[(1210, .sl 44)]⟩,[],[],[],0,[],⟨[],[]⟩,[]⟩)],[]⟩) (exS:=⟨[.own 1],[(1, .sl 44)]⟩) Tryz.f63 (memC wB (memC hs zI)) (by kernel_rfl) (by kernel_rfl) fun x=>by kernel_rfl
theorem znU:zn Tryz.prog (bB Qt):=
 zn.recE (I:=I) (P:=Tryz.prog) (f:=63) (inS:=⟨[.own 0, .sl 49],[(0, .sl 44)]⟩) (cst:=[]) (outS:=⟨[.own 1],[(1, .sl 44)]⟩) (k:=1) (UG) (by kernel_rfl) (fun S h=>zn4 S h)
theorem NW:zn Tryz.prog (kW Lp):=
 okC (A:=⟨[Iw qB,bB Qt],[(4,[3]),(7,[6])],[],0,[(2,⟨[0,10],⟨[.own 1212, .int .i64],[(1212, .sl 44)]⟩,[4,8,9],[],[],0,[0],⟨[.own 1212],[(1212, .sl 44)]⟩,[1212]⟩)],[(8,⟨[0,10],⟨[.own 1314, .int .i64],[(1314, .sl 44)]⟩,[],[],[],0,[],⟨[],[]⟩,[]⟩)],[]⟩) (exS:=⟨[.own 0],[(0, .sl 44)]⟩) Tryz.f63 (memC wB (memC znU zI)) (by kernel_rfl) (by kernel_rfl) fun x=>by kernel_rfl
theorem zmw:zn Tryz.prog (AX Lp):=I7 ipOK (by kernel_rfl) NW
theorem zee:zn Tryz.prog (uX stringslite_TrimPrefix):=
 okC (A:=⟨[QS stringslite_HasPrefix],[],[],0,[],[],[]⟩) (exS:=⟨[.str],[]⟩) Tryz.f197 (memC rX zI) (by kernel_rfl) (by kernel_rfl) fun x=>by kernel_rfl
theorem zfY:zn Tryz.prog (jX strings_TrimPrefix):=
 okC (A:=⟨[uX stringslite_TrimPrefix],[],[],0,[],[],[]⟩) (exS:=⟨[.str],[]⟩) Tryz.f162 (memC zee zI) (by kernel_rfl) (by kernel_rfl) fun x=>by kernel_rfl
theorem TG:zn Tryz.prog (RB qR):=
 okC (A:=⟨[],[],[],0,[],[],[]⟩) (exS:=⟨[.bool],[]⟩) Tryz.f155 zI (by kernel_rfl) (by kernel_rfl) fun x=>by kernel_rfl
theorem MX:zn Tryz.prog (pM Ms):=
 okC (A:=⟨[jX strings_TrimPrefix,RB qR],[],[],0,[],[],[]⟩) (exS:=⟨[.bool],[]⟩) Tryz.f122 (memC zfY (memC TG zI)) (by kernel_rfl) (by kernel_rfl) fun x=>by kernel_rfl
theorem PW:zn Tryz.prog (fM Ew):=
 okC (A:=⟨[],[],[],0,[],[],[]⟩) (exS:=⟨[.bool],[]⟩) Tryz.f157 zI (by kernel_rfl) (by kernel_rfl) fun x=>by kernel_rfl
theorem DW:zn Tryz.prog (OM Gp):=
 okC (A:=⟨[fM Ew,RB qR],[],[],0,[],[],[]⟩) (exS:=⟨[.bool],[]⟩) Tryz.f153 (memC PW (memC TG zI)) (by kernel_rfl) (by kernel_rfl) fun x=>by kernel_rfl
theorem zhE:zn Tryz.prog (dX strings_Contains):=
 okC (A:=⟨[fJ Ym],[],[],0,[],[],[]⟩) (exS:=⟨[.bool],[]⟩) Tryz.f154 (memC CR zI) (by kernel_rfl) (by kernel_rfl) fun x=>by kernel_rfl
theorem zsg:zn Tryz.prog (rU BA):=
 okC (A:=⟨[QR strings_IndexByte,pM Ms,Z6 strings_HasPrefix,OM Gp,dX strings_Contains],[],[],0,[],[(8,⟨[3,4,5,6,7,25],⟨[.bool, .bool, .bool, .bool, .bool, .bool],[]⟩,[1,16],[],[],0,[],⟨[],[]⟩,[]⟩),(14,⟨[3,4,5,6,7,63],⟨[.bool, .bool, .bool, .bool, .bool, .bool],[]⟩,[],[],[],0,[],⟨[],[]⟩,[]⟩),(22,⟨[4,5,6,7,94],⟨[.bool, .bool, .bool, .bool, .bool],[]⟩,[3],[],[],0,[],⟨[],[]⟩,[]⟩),(24,⟨[3,4,5,6,7],⟨[.bool, .bool, .bool, .bool, .bool],[]⟩,[1],[0],[],0,[],⟨[],[]⟩,[]⟩)],[]⟩) (exS:=⟨[.bool],[]⟩) Tryz.f115 (memC sM (memC MX (memC qI (memC DW (memC zhE zI))))) (by kernel_rfl) (by kernel_rfl) fun x=>by kernel_rfl
theorem zmv:zn Tryz.prog (BX ZX):=
 okC (A:=⟨[],[],[],1,[],[],[]⟩) (exS:=⟨[.bool],[]⟩) Tryz.f116 zI (by kernel_rfl) (by kernel_rfl) fun x=>by kernel_rfl
theorem CW:zn Tryz.prog (NM Q6):=
 okC (A:=⟨[BX ZX,dM Us],[],[],0,[],[(11,⟨[5],⟨[.int .i64],[]⟩,[3],[0],[],0,[],⟨[],[]⟩,[]⟩)],[]⟩) (exS:=⟨[.int .i64],[]⟩) Tryz.f80 (memC zmv (memC OW zI)) (by kernel_rfl) (by kernel_rfl) fun x=>by kernel_rfl
theorem zpP:zn Tryz.prog (WV WA):=
 okC (A:=⟨[rU BA,NM Q6],[],[],0,[(4,⟨[10],⟨[.int .i64],[]⟩,[0,8,9],[],[],0,[],⟨[],[]⟩,[]⟩)],[],[]⟩) (exS:=⟨[.int .i64],[]⟩) Tryz.f79 (memC zsg (memC CW zI)) (by kernel_rfl) (by kernel_rfl) fun x=>by kernel_rfl
theorem zpR:zn Tryz.prog (UV Un):=
 okC (A:=⟨[Z6 strings_HasPrefix],[],[],0,[],[],[]⟩) (exS:=⟨[.int .i64],[]⟩) Tryz.f118 (memC qI zI) (by kernel_rfl) (by kernel_rfl) fun x=>by kernel_rfl
theorem FX:zn Tryz.prog (gM qg):=
 okC (A:=⟨[RB qR,fM Ew,BU Ir],[(2,[2]),(3,[1]),(5,[1])],[],1,[],[],[]⟩) (exS:=⟨[.own 1],[(1, .sl 5)]⟩) Tryz.f120 (memC TG (memC PW (memC zt6 zI))) (by kernel_rfl) (by kernel_rfl) fun x=>by kernel_rfl
theorem znR:zn Tryz.prog (nW qY):=
 okC (A:=⟨[OM Gp,RB qR,gM qg],[(6,[2])],[],1,[(2,⟨[0,11],⟨[.own 1420, .int .i64],[(1420, .sl 5)]⟩,[1,2,6,10],[],[],0,[0],⟨[.own 1420],[(1420, .sl 5)]⟩,[1420]⟩)],[(8,⟨[0,11],⟨[.own 1522, .int .i64],[(1522, .sl 5)]⟩,[],[],[],0,[],⟨[],[]⟩,[]⟩)],[]⟩) (exS:=⟨[.own 1],[(1, .sl 5)]⟩) Tryz.f117 (memC DW (memC TG (memC FX zI))) (by kernel_rfl) (by kernel_rfl) fun x=>by kernel_rfl
theorem zpS:zn Tryz.prog (SV UA):=
 okC (A:=⟨[],[],[],0,[],[],[]⟩) (exS:=⟨[.optr 0],[(0, .row 149)]⟩) Tryz.f123 zI (by kernel_rfl) (by kernel_rfl) fun x=>by kernel_rfl
theorem zkr:zn Tryz.prog (EX QU):=
 okC (A:=⟨[CU Jr,PT lq,fQ Jo],[(2,[1]),(6,[1])],[],1,[],[(3,⟨[0,1],⟨[.own 2044, .int .i64],[(2044, .sl 5)]⟩,[2],[],[],0,[],⟨[],[]⟩,[]⟩),(9,⟨[0],⟨[.own 2147],[(2147, .sl 5)]⟩,[],[],[],0,[],⟨[],[]⟩,[]⟩)],[]⟩) (exS:=⟨[.own 1],[(1, .sl 5)]⟩) Tryz.f121 (memC zt5 (memC P9 (memC Y0 zI))) (by kernel_rfl) (by kernel_rfl) fun x=>by kernel_rfl
theorem znS:zn Tryz.prog (mW Dw):=
 okC (A:=⟨[UV Un,nW qY,QR strings_IndexByte,gM qg,EX QU,pM Ms,Z6 strings_HasPrefix,SV UA],[(5,[7]),(7,[1]),(12,[1]),(14,[1]),(20,[2]),(22,[1]),(30,[2]),(32,[1]),(38,[4])],[],1,[(16,⟨[0,67],⟨[.own 1837, .int .i64],[(1837, .sl 5)]⟩,[3,4,65,66],[1,4],[],1,[0],⟨[.own 1837],[(1837, .sl 5)]⟩,[1837]⟩),(26,⟨[0,93],⟨[.own 1941, .int .i64],[(1941, .sl 5)]⟩,[3,4,91,92],[1,3],[],3,[0],⟨[.own 1941],[(1941, .sl 5)]⟩,[1941]⟩)],[(12,⟨[5],⟨[.int .i64],[(0, .sl 5)]⟩,[0,3],[1],[0],0,[],⟨[],[]⟩,[]⟩),(21,⟨[0,67],⟨[.own 1939, .int .i64],[(1939, .sl 5)]⟩,[],[],[],0,[],⟨[],[]⟩,[]⟩),(31,⟨[0,93],⟨[.own 2043, .int .i64],[(2043, .sl 5)]⟩,[],[],[],0,[],⟨[],[]⟩,[]⟩)],[]⟩) (exS:=⟨[.own 1],[(1, .sl 5)]⟩) Tryz.f81 (memC zpR (memC znR (memC sM (memC FX (memC zkr (memC MX (memC qI (memC zpS zI)))))))) (by kernel_rfl) (by kernel_rfl) fun x=>by kernel_rfl
theorem zfX:zn Tryz.prog (kX qy):=
 okC (A:=⟨[],[],[],0,[(4,⟨[13],⟨[.int .i64],[]⟩,[0,1,12],[],[],0,[],⟨[],[]⟩,[]⟩)],[],[]⟩) (exS:=⟨[.bool],[]⟩) Tryz.f82 zI (by kernel_rfl) (by kernel_rfl) fun x=>by kernel_rfl
theorem zpQ:zn Tryz.prog (VV VA):=
 okC (A:=⟨[WV WA,NM Q6,mW Dw,rW TB,kX qy],[(24,[5])],[],0,[(7,⟨[5,6,7],⟨[.own 2254, .own 2255, .int .i64],[(2254, .sl 5),(2255, .sl 119)]⟩,[0],[],[],0,[5],⟨[.own 2254],[(2254, .sl 5)]⟩,[2254]⟩),(11,⟨[9,36],⟨[.own 1835, .int .i64],[(1835, .sl 5)]⟩,[5,6,7,8,34,35],[2254,2255],[],2,[9],⟨[.own 1835],[(1835, .sl 5)]⟩,[1835]⟩)],[(17,⟨[5,6,7,9],⟨[.own 2254, .own 2255, .int .i64, .own 2357],[(2254, .sl 5),(2255, .sl 119),(2357, .sl 5)]⟩,[8],[],[2254,2255],0,[],⟨[],[]⟩,[]⟩),(21,⟨[5,6,7],⟨[.own 2254, .own 2255, .int .i64],[(2254, .sl 5),(2255, .sl 119),(2358, .row 119)]⟩,[9,12],[2357],[2254,2255,2358],0,[],⟨[],[]⟩,[]⟩),(24,⟨[5,6,7],⟨[.own 2462, .own 2255, .int .i64],[(2255, .sl 119),(2462, .sl 5)]⟩,[],[2358],[2255],0,[],⟨[],[]⟩,[]⟩)],[]⟩) (exS:=⟨[.str, .int .i64],[]⟩) Tryz.f46 (memC zpP (memC CW (memC znS (memC zmG (memC zfX zI))))) (by kernel_rfl) (by kernel_rfl) fun x=>by kernel_rfl
theorem zsk:zn Tryz.prog (nU wz):=
 okC (A:=⟨[MM Gs,AX Lp,VV VA],[],[],0,[],[],[]⟩) (exS:=⟨[.str, .int .i64],[]⟩) Tryz.f20 (memC yV (memC zmw (memC zpQ zI))) (by kernel_rfl) (by kernel_rfl) fun x=>by kernel_rfl
theorem zqw(Q8:List zg×List zg->Option Bool)(hs:zn Tryz.prog (NB Q8)):zn Tryz.prog (NB (vF Q8)):=
 okC (A:=⟨[NB Q8],[],[],0,[(4,⟨[5],⟨[.int .i64],[]⟩,[0,1],[],[],0,[],⟨[],[]⟩,[]⟩)],[],[]⟩) (exS:=⟨[.bool],[]⟩) Tryz.f22 (memC hs zI) (by kernel_rfl) (by kernel_rfl) fun x=>by kernel_rfl
theorem zp2:zn Tryz.prog (NB Q8):=
 zn.recE (I:=I) (P:=Tryz.prog) (f:=22) (inS:=⟨[.sl 49, .sl 49],[]⟩) (cst:=[]) (outS:=⟨[.bool],[]⟩) (k:=0) (vF) (by kernel_rfl) (fun S h=>zqw S h)
theorem znb(ZZ:List zb×Int×Int×Int->Option (List zg×Int))(hs:zn Tryz.prog (AC ZZ)):zn Tryz.prog (AC (EG ZZ)):=
 okC (A:=⟨[DC qo,AC ZZ],[(12,[2])],[],0,[(2,⟨[1,10],⟨[.int .i64, .own 2567],[(2567, .sl 49)]⟩,[0,2,3],[],[],0,[1,10],⟨[.int .i64, .own 2567],[(2567, .sl 49)]⟩,[2567]⟩)],[(12,⟨[1,10],⟨[.int .i64, .own 2567],[(2567, .sl 49),(2568, .row 49)]⟩,[11],[],[2567,2568],0,[],⟨[],[]⟩,[]⟩)],[]⟩) (exS:=⟨[.sl 49, .int .i64],[]⟩) Tryz.f96 (memC XG (memC hs zI)) (by kernel_rfl) (by kernel_rfl) fun x=>by kernel_rfl
theorem zmF:zn Tryz.prog (AC ZZ):=
 zn.recE (I:=I) (P:=Tryz.prog) (f:=96) (inS:=⟨[.sl 44, .int .i64, .int .u8, .int .i64],[]⟩) (cst:=[]) (outS:=⟨[.sl 49, .int .i64],[]⟩) (k:=0) (EG) (by kernel_rfl) (fun S h=>znb S h)
theorem zmD:zn Tryz.prog (sW VB):=
 okC (A:=⟨[AC ZZ],[],[],0,[],[],[]⟩) (exS:=⟨[.sl 49, .bool],[]⟩) Tryz.f62 (memC zmF zI) (by kernel_rfl) (by kernel_rfl) fun x=>by kernel_rfl
theorem zn2:zn Tryz.prog (tV EB):=
 okC (A:=⟨[sW VB,qN Zp],[],[],0,[],[],[]⟩) (exS:=⟨[.sl 49, .int .i64],[]⟩) Tryz.f17 (memC zmD (memC WG zI)) (by kernel_rfl) (by kernel_rfl) fun x=>by kernel_rfl
theorem zsj:zn Tryz.prog (oU xz):=
 okC (A:=⟨[MM Gs,kW Lp],[],[],0,[],[],[]⟩) (exS:=⟨[.sl 44, .int .i64],[]⟩) Tryz.f18 (memC yV (memC NW zI)) (by kernel_rfl) (by kernel_rfl) fun x=>by kernel_rfl
theorem zp1:zn Tryz.prog (dV dA):=
 okC (A:=⟨[aM Rs,qN Zp],[],[],0,[],[],[]⟩) (exS:=⟨[.sl 44, .int .i64],[]⟩) Tryz.f19 (memC LW (memC WG zI)) (by kernel_rfl) (by kernel_rfl) fun x=>by kernel_rfl
theorem zn0:zn Tryz.prog (aW Jp):=
 okC (A:=⟨[],[],[],0,[(2,⟨[3],⟨[.int .i64],[]⟩,[0],[],[],0,[],⟨[],[]⟩,[]⟩)],[],[]⟩) (exS:=⟨[.bool],[]⟩) Tryz.f102 zI (by kernel_rfl) (by kernel_rfl) fun x=>by kernel_rfl
theorem ZP:zn Tryz.prog (ZQ zD):=
 okC (A:=⟨[],[],[],0,[],[],[]⟩) (exS:=⟨[.bool],[]⟩) Tryz.f148 zI (by kernel_rfl) (by kernel_rfl) fun x=>by kernel_rfl
theorem zpX:zn Tryz.prog (jV jA):=
 okC (A:=⟨[ZQ zD],[],[],0,[],[],[]⟩) (exS:=⟨[.bool],[]⟩) Tryz.f103 (memC ZP zI) (by kernel_rfl) (by kernel_rfl) fun x=>by kernel_rfl
theorem LG:zn Tryz.prog (aB Qw):=
 okC (A:=⟨[],[],[],0,[],[],[]⟩) (exS:=⟨[.bool],[]⟩) Tryz.f178 zI (by kernel_rfl) (by kernel_rfl) fun x=>by kernel_rfl
theorem qZ:zn Tryz.prog (Qi zG):=
 okC (A:=⟨[],[],[],0,[],[],[]⟩) (exS:=⟨[.int .u8],[]⟩) Tryz.f217 zI (by kernel_rfl) (by kernel_rfl) fun x=>by kernel_rfl
theorem jM:zn Tryz.prog (OG qO):=
 okC (A:=⟨[Qi zG,aB Qw],[],[],0,[(1,⟨[1],⟨[.int .i64],[]⟩,[0,4],[],[],0,[1],⟨[.int .i64],[]⟩,[]⟩)],[],[]⟩) (exS:=⟨[.int .i64],[]⟩) Tryz.f179 (memC qZ (memC LG zI)) (by kernel_rfl) (by kernel_rfl) fun x=>by kernel_rfl
theorem wV:zn Tryz.prog (KM mr):=
 okC (A:=⟨[],[(1,[0])],[],0,[],[],[]⟩) (exS:=⟨[.str],[]⟩) Tryz.f244 zI (by kernel_rfl) (by kernel_rfl) fun x=>by kernel_rfl
theorem vB:zn Tryz.prog (Hw ZU):=
 okC (A:=⟨[],[],[],0,[],[],[]⟩) (exS:=⟨[.int .u8],[]⟩) Tryz.f150 zI (by kernel_rfl) (by kernel_rfl) fun x=>by kernel_rfl
theorem zsn:zn Tryz.prog (lU Sv):=
 okC (A:=⟨[ZQ zD,Hw ZU],[],[],0,[],[],[]⟩) (exS:=⟨[.int .i64],[]⟩) Tryz.f245 (memC ZP (memC vB zI)) (by kernel_rfl) (by kernel_rfl) fun x=>by kernel_rfl
theorem zpU:zn Tryz.prog (mV xA):=
 okC (A:=⟨[KM mr],[(4,[2]),(6,[8]),(8,[13]),(9,[18])],[],0,[],[],[]⟩) (exS:=⟨[.str],[]⟩) Tryz.f246 (memC wV zI) (by kernel_rfl) (by kernel_rfl) fun x=>by kernel_rfl
theorem aG:zn Tryz.prog (gB ZC):=
 okC (A:=⟨[KM mr,lU Sv,Qi zG,aB Qw,mV xA],[],[],0,[(7,⟨[6,7],⟨[.int .i64, .int .i64],[]⟩,[0,1,4,5],[],[],0,[6,7],⟨[.int .i64, .int .i64],[]⟩,[]⟩)],[(12,⟨[7],⟨[.int .i64],[]⟩,[6],[],[],0,[],⟨[],[]⟩,[]⟩)],[]⟩) (exS:=⟨[.str, .int .i64],[]⟩) Tryz.f218 (memC wV (memC zsn (memC qZ (memC LG (memC zpU zI))))) (by kernel_rfl) (by kernel_rfl) fun x=>by kernel_rfl
theorem zmz:zn Tryz.prog (vW WB):=
 okC (A:=⟨[gB ZC],[],[],0,[(4,⟨[1],⟨[.int .i64],[(0, .row 44),(1, .row 44)]⟩,[0,4,6,7],[],[0,1],0,[1],⟨[.int .i64],[(0, .row 44),(1, .row 44)]⟩,[0,1]⟩)],[],[]⟩) (exS:=⟨[.optr 0, .int .i64],[(0, .row 44)]⟩) Tryz.f180 (memC aG zI) (by kernel_rfl) (by kernel_rfl) fun x=>by kernel_rfl
theorem JX:zn Tryz.prog (nM Ls):=
 okC (A:=⟨[Hw ZU],[],[],0,[],[],[]⟩) (exS:=⟨[.bool],[]⟩) Tryz.f198 (memC vB zI) (by kernel_rfl) (by kernel_rfl) fun x=>by kernel_rfl
theorem YG:zn Tryz.prog (IC ZN):=
 okC (A:=⟨[nM Ls,ZQ zD],[],[],0,[],[],[]⟩) (exS:=⟨[.bool],[]⟩) Tryz.f163 (memC JX (memC ZP zI)) (by kernel_rfl) (by kernel_rfl) fun x=>by kernel_rfl
theorem fB:zn Tryz.prog (Q4 Zj):=
 okC (A:=⟨[Qi zG],[],[],0,[],[],[]⟩) (exS:=⟨[.bool],[]⟩) Tryz.f181 (memC qZ zI) (by kernel_rfl) (by kernel_rfl) fun x=>by kernel_rfl
theorem VM:zn Tryz.prog (PG Qv):=
 okC (A:=⟨[IC ZN,Q4 Zj,gB ZC],[],[],0,[(2,⟨[1,6],⟨[.int .i64, .str],[]⟩,[0],[],[],0,[],⟨[],[]⟩,[]⟩)],[],[]⟩) (exS:=⟨[.str, .int .i64],[]⟩) Tryz.f182 (memC YG (memC fB (memC aG zI))) (by kernel_rfl) (by kernel_rfl) fun x=>by kernel_rfl
theorem KX:zn Tryz.prog (oM Qp):=
 okC (A:=⟨[Qi zG,nM Ls,Q4 Zj],[],[],0,[],[],[]⟩) (exS:=⟨[.bool],[]⟩) Tryz.f183 (memC qZ (memC JX (memC fB zI))) (by kernel_rfl) (by kernel_rfl) fun x=>by kernel_rfl
theorem zjz:zn Tryz.prog (GX iB):=
 okC (A:=⟨[Qi zG,ZQ zD],[],[],0,[],[(4,⟨[1],⟨[.int .i64],[]⟩,[0],[],[],0,[],⟨[],[]⟩,[]⟩),(6,⟨[1],⟨[.int .i64],[]⟩,[],[],[],0,[],⟨[],[]⟩,[]⟩)],[]⟩) (exS:=⟨[.bool],[]⟩) Tryz.f184 (memC qZ (memC ZP zI)) (by kernel_rfl) (by kernel_rfl) fun x=>by kernel_rfl
theorem zmy:zn Tryz.prog (wW QN):=
 okC (A:=⟨[Qi zG,ZQ zD],[],[],0,[(1,⟨[1],⟨[.int .i64],[]⟩,[0,4],[],[],0,[1],⟨[.int .i64],[]⟩,[]⟩)],[],[]⟩) (exS:=⟨[.int .i64],[]⟩) Tryz.f247 (memC qZ (memC ZP zI)) (by kernel_rfl) (by kernel_rfl) fun x=>by kernel_rfl
theorem ziI:zn Tryz.prog (RX eB):=
 okC (A:=⟨[Qi zG,wW QN,ZQ zD],[],[],0,[],[(4,⟨[1],⟨[.int .i64],[]⟩,[0],[],[],0,[],⟨[],[]⟩,[]⟩),(9,⟨[1,7],⟨[.int .i64, .bool],[]⟩,[],[],[],0,[],⟨[],[]⟩,[]⟩),(15,⟨[1,7,9],⟨[.int .i64, .bool, .int .i64],[]⟩,[],[],[],0,[],⟨[],[]⟩,[]⟩),(18,⟨[1,7],⟨[.int .i64, .bool],[]⟩,[],[],[],0,[],⟨[],[]⟩,[]⟩)],[]⟩) (exS:=⟨[.int .i64, .bool],[]⟩) Tryz.f219 (memC qZ (memC zmy (memC ZP zI))) (by kernel_rfl) (by kernel_rfl) fun x=>by kernel_rfl
theorem zgR:zn Tryz.prog (aX QF):=
 okC (A:=⟨[Qi zG,ZQ zD],[],[],0,[(5,⟨[3,5],⟨[.str, .int .i64],[]⟩,[4],[],[],0,[3,5],⟨[.str, .int .i64],[]⟩,[]⟩),(10,⟨[3,4,5],⟨[.str, .int .i64, .int .i64],[]⟩,[],[],[],2,[3,4,5],⟨[.str, .int .i64, .int .i64],[]⟩,[]⟩),(20,⟨[5,8],⟨[.int .i64, .int .i64],[]⟩,[4],[],[],4,[8],⟨[.int .i64],[]⟩,[]⟩),(28,⟨[9,10],⟨[.int .i64, .int .i64],[]⟩,[4],[],[],6,[9],⟨[.int .i64],[]⟩,[]⟩),(31,⟨[4,9],⟨[.int .i64, .int .i64],[]⟩,[],[],[],8,[9],⟨[.int .i64],[]⟩,[]⟩)],[(5,⟨[3,4,5],⟨[.str, .int .i64, .int .i64],[]⟩,[0,6],[],[],0,[],⟨[],[]⟩,[]⟩),(14,⟨[3,4,5],⟨[.str, .int .i64, .int .i64],[]⟩,[],[],[],0,[],⟨[],[]⟩,[]⟩),(19,⟨[4,5],⟨[.int .i64, .int .i64],[]⟩,[3,7],[],[],0,[],⟨[],[]⟩,[]⟩),(25,⟨[4,8],⟨[.int .i64, .int .i64],[]⟩,[],[],[],0,[],⟨[],[]⟩,[]⟩),(26,⟨[4],⟨[.int .i64],[]⟩,[3],[],[],0,[],⟨[],[]⟩,[]⟩)],[]⟩) (exS:=⟨[.int .i64],[]⟩) Tryz.f220 (memC qZ (memC ZP zI)) (by kernel_rfl) (by kernel_rfl) fun x=>by kernel_rfl
theorem zks:zn Tryz.prog (DX dB):=
 okC (A:=⟨[RX eB,aX QF,oM Qp,PG Qv,Qi zG],[],[],0,[],[(9,⟨[6],⟨[.int .i64],[(0, .row 44),(1, .row 44)]⟩,[4,8],[],[0,1],0,[],⟨[],[]⟩,[]⟩)],[]⟩) (exS:=⟨[.optr 0, .int .i64],[(0, .row 44)]⟩) Tryz.f185 (memC ziI (memC zgR (memC KX (memC VM (memC qZ zI))))) (by kernel_rfl) (by kernel_rfl) fun x=>by kernel_rfl
theorem GV:zn Tryz.prog (tL Im):=
 okC (A:=⟨[],[],[],0,[],[],[]⟩) (exS:=⟨[.bool],[]⟩) Tryz.f186 zI (by kernel_rfl) (by kernel_rfl) fun x=>by kernel_rfl
theorem znV:zn Tryz.prog (jW bv):=
 okC (A:=⟨[Hw ZU],[],[],0,[(3,⟨[4],⟨[.int .i64],[(0, .sl 5)]⟩,[2,3],[],[0],0,[],⟨[],[(0, .sl 5)]⟩,[0]⟩)],[],[]⟩) (exS:=⟨[.str],[]⟩) Tryz.f105 (memC vB zI) (by kernel_rfl) (by kernel_rfl) fun x=>by kernel_rfl
theorem WM:zn Tryz.prog (RG Qb):=
 okC (A:=⟨[jW bv],[],[],0,[],[],[]⟩) (exS:=⟨[.bool],[]⟩) Tryz.f72 (memC znV zI) (by kernel_rfl) (by kernel_rfl) fun x=>by kernel_rfl
theorem zso:zn Tryz.prog (kU yo):=
 okC (A:=⟨[Q4 Zj,gB ZC],[],[],0,[(1,⟨[1],⟨[.int .i64],[]⟩,[0,4,5],[0],[],0,[1],⟨[.int .i64],[]⟩,[]⟩)],[],[]⟩) (exS:=⟨[.optr 0, .int .i64],[(0, .row 44)]⟩) Tryz.f248 (memC fB (memC aG zI)) (by kernel_rfl) (by kernel_rfl) fun x=>by kernel_rfl
theorem zgS:zn Tryz.prog (YX QG):=
 okC (A:=⟨[],[],[],0,[],[],[]⟩) (exS:=⟨[.bool],[]⟩) Tryz.f249 zI (by kernel_rfl) (by kernel_rfl) fun x=>by kernel_rfl
theorem zsp:zn Tryz.prog (jU NA):=
 okC (A:=⟨[OG qO,aB Qw,kU yo,YX QG,Q4 Zj,gB ZC],[],[],0,[(3,⟨[1],⟨[.int .i64],[(0, .row 44),(1, .row 44)]⟩,[0,4,6],[],[0,1],0,[1],⟨[.int .i64],[(0, .row 44),(1, .row 44)]⟩,[0,1]⟩)],[],[]⟩) (exS:=⟨[.optr 0, .int .i64],[(0, .row 44)]⟩) Tryz.f221 (memC jM (memC LG (memC zso (memC zgS (memC fB (memC aG zI)))))) (by kernel_rfl) (by kernel_rfl) fun x=>by kernel_rfl
theorem zpW:zn Tryz.prog (kV rA):=
 okC (A:=⟨[PG Qv,Qi zG,RG Qb,OG qO,jU NA],[],[],0,[],[(8,⟨[],⟨[],[(0, .row 44)]⟩,[4,6,7],[],[0],0,[],⟨[],[]⟩,[]⟩)],[]⟩) (exS:=⟨[.optr 0, .int .i64],[(0, .row 44)]⟩) Tryz.f187 (memC VM (memC qZ (memC WM (memC jM (memC zsp zI))))) (by kernel_rfl) (by kernel_rfl) fun x=>by kernel_rfl
theorem zpV:zn Tryz.prog (lV uA):=
 okC (A:=⟨[],[],[],0,[],[],[]⟩) (exS:=⟨[.int .u8],[]⟩) Tryz.f188 zI (by kernel_rfl) (by kernel_rfl) fun x=>by kernel_rfl
theorem IV:zn Tryz.prog (vL Nn):=
 okC (A:=⟨[aB Qw,OG qO,vW WB,IC ZN,Q4 Zj,PG Qv,oM Qp,GX iB,DX dB,tL Im,kV rA,lV uA],[],[],0,[],[],[]⟩) (exS:=⟨[.optr 0, .int .i64],[(0, .row 44)]⟩) Tryz.f149 (memC LG (memC jM (memC zmz (memC YG (memC fB (memC VM (memC KX (memC zjz (memC zks (memC GV (memC zpW (memC zpV zI)))))))))))) (by kernel_rfl) (by kernel_rfl) fun x=>by kernel_rfl
theorem znX:zn Tryz.prog (gW Qx):=
 okC (A:=⟨[vL Nn],[(1,[1])],[],0,[],[],[]⟩) (exS:=⟨[.bool],[]⟩) Tryz.f104 (memC IV zI) (by kernel_rfl) (by kernel_rfl) fun x=>by kernel_rfl
theorem zpY:zn Tryz.prog (iV iA):=
 okC (A:=⟨[aW Jp,jV jA,gW Qx],[],[],0,[],[(6,⟨[8],⟨[.bool],[(1, .row 44)]⟩,[1,3,7],[0],[1],0,[],⟨[],[]⟩,[]⟩),(13,⟨[56],⟨[.bool],[(1, .row 44)]⟩,[],[],[1],0,[],⟨[],[]⟩,[]⟩),(21,⟨[90],⟨[.bool],[(1, .row 44)]⟩,[],[],[1],0,[],⟨[],[]⟩,[]⟩),(26,⟨[148],⟨[.bool],[]⟩,[],[1],[],0,[],⟨[],[]⟩,[]⟩)],[]⟩) (exS:=⟨[.bool],[]⟩) Tryz.f71 (memC zn0 (memC zpX (memC znX zI))) (by kernel_rfl) (by kernel_rfl) fun x=>by kernel_rfl
theorem znW:zn Tryz.prog (iW LB):=
 okC (A:=⟨[iV iA,RG Qb],[],[],0,[(4,⟨[3],⟨[.int .i64],[]⟩,[0],[],[],0,[],⟨[],[]⟩,[]⟩)],[(12,⟨[4],⟨[.int .i64],[]⟩,[3],[],[],0,[],⟨[],[]⟩,[]⟩),(14,⟨[],⟨[],[]⟩,[3],[],[],0,[],⟨[],[]⟩,[]⟩)],[]⟩) (exS:=⟨[.int .i64],[]⟩) Tryz.f35 (memC zpY (memC WM zI)) (by kernel_rfl) (by kernel_rfl) fun x=>by kernel_rfl
theorem iM:zn Tryz.prog (NG qP):=
 okC (A:=⟨[Hw ZU,ZQ zD],[(3,[1])],[],0,[],[(7,⟨[4],⟨[.str],[]⟩,[],[],[],0,[],⟨[],[]⟩,[]⟩)],[]⟩) (exS:=⟨[.str],[]⟩) Tryz.f164 (memC vB (memC ZP zI)) (by kernel_rfl) (by kernel_rfl) fun x=>by kernel_rfl
theorem MW:zn Tryz.prog (bM Qc):=
 okC (A:=⟨[IC ZN,ZQ zD,NG qP],[],[],0,[(3,⟨[5,6],⟨[.str, .int .i64],[]⟩,[0,1,4],[],[],0,[5],⟨[.str],[]⟩,[]⟩)],[(4,⟨[5,6],⟨[.str, .int .i64],[]⟩,[],[],[],0,[],⟨[],[]⟩,[]⟩),(10,⟨[5,9],⟨[.str, .bool],[]⟩,[6,7],[],[],0,[],⟨[],[]⟩,[]⟩)],[]⟩) (exS:=⟨[.str],[]⟩) Tryz.f124 (memC YG (memC ZP (memC iM zI))) (by kernel_rfl) (by kernel_rfl) fun x=>by kernel_rfl
theorem zmC:zn Tryz.prog (uW vv):=
 okC (A:=⟨[NG qP],[],[],0,[(3,⟨[5,6],⟨[.str, .int .i64],[]⟩,[0,1,4],[],[],0,[5],⟨[.str],[]⟩,[]⟩)],[(4,⟨[5,6],⟨[.str, .int .i64],[]⟩,[],[],[],0,[],⟨[],[]⟩,[]⟩),(9,⟨[5,8],⟨[.str, .bool],[]⟩,[6,7],[],[],0,[],⟨[],[]⟩,[]⟩)],[]⟩) (exS:=⟨[.str],[]⟩) Tryz.f201 (memC iM zI) (by kernel_rfl) (by kernel_rfl) fun x=>by kernel_rfl
theorem zm7(qm:Int->Option Str)(hs:zn Tryz.prog (FC qm)):zn Tryz.prog (FC (KG qm)):=
 okC (A:=⟨[FC qm],[],[],0,[],[],[]⟩) (exS:=⟨[.str],[]⟩) Tryz.f229 (memC hs zI) (by kernel_rfl) (by kernel_rfl) fun x=>by kernel_rfl
theorem zmA:zn Tryz.prog (FC qm):=
 zn.recE (I:=I) (P:=Tryz.prog) (f:=229) (inS:=⟨[.int .i64],[]⟩) (cst:=[]) (outS:=⟨[.str],[]⟩) (k:=0) (KG) (by kernel_rfl) (fun S h=>zm7 S h)
theorem zm8(ZY:Int×Bool->Option Str)(hs:zn Tryz.prog (EC ZY)):zn Tryz.prog (EC (JG ZY)):=
 okC (A:=⟨[EC ZY,FC qm],[],[],0,[(10,⟨[7],⟨[.str],[]⟩,[4,5],[],[],0,[7],⟨[.str],[]⟩,[]⟩)],[],[]⟩) (exS:=⟨[.str],[]⟩) Tryz.f202 (memC hs (memC zmA zI)) (by kernel_rfl) (by kernel_rfl) fun x=>by kernel_rfl
theorem zmB:zn Tryz.prog (EC ZY):=
 zn.recE (I:=I) (P:=Tryz.prog) (f:=202) (inS:=⟨[.int .i64, .bool],[]⟩) (cst:=[]) (outS:=⟨[.str],[]⟩) (k:=0) (JG) (by kernel_rfl) (fun S h=>zm8 S h)
theorem zp0:zn Tryz.prog (fV fA):=
 okC (A:=⟨[Hw ZU,Qi zG,ZQ zD,NG qP,IC ZN,bM Qc],[],[],0,[(4,⟨[3,4],⟨[.str, .int .i64],[]⟩,[0,2],[],[],0,[3],⟨[.str],[]⟩,[]⟩)],[(5,⟨[3,4],⟨[.str, .int .i64],[]⟩,[],[],[],0,[],⟨[],[]⟩,[]⟩)],[]⟩) (exS:=⟨[.str],[]⟩) Tryz.f203 (memC vB (memC qZ (memC ZP (memC iM (memC YG (memC MW zI)))))) (by kernel_rfl) (by kernel_rfl) fun x=>by kernel_rfl
theorem zpZ:zn Tryz.prog (gV kr):=
 okC (A:=⟨[bM Qc,uW vv,EC ZY,fV fA],[(22,[0])],[],0,[],[],[]⟩) (exS:=⟨[.str],[]⟩) Tryz.f167 (memC MW (memC zmC (memC zmB (memC zp0 zI)))) (by kernel_rfl) (by kernel_rfl) fun x=>by kernel_rfl
theorem znZ:zn Tryz.prog (bW IB):=
 okC (A:=⟨[RG Qb,gV kr],[],[],0,[(6,⟨[5,6],⟨[.int .i64, .str],[]⟩,[0,2,3],[],[],0,[5,6],⟨[.int .i64, .str],[]⟩,[]⟩)],[],[]⟩) (exS:=⟨[.int .i64, .str],[]⟩) Tryz.f133 (memC WM (memC zpZ zI)) (by kernel_rfl) (by kernel_rfl) fun x=>by kernel_rfl
theorem zpT:zn Tryz.prog (RV Es):=
 okC (A:=⟨[tL Im],[],[],0,[(1,⟨[1],⟨[.int .i64],[]⟩,[0,4],[],[],0,[1],⟨[.int .i64],[]⟩,[]⟩),(3,⟨[1],⟨[.int .i64],[]⟩,[],[],[],2,[1],⟨[.int .i64],[]⟩,[]⟩)],[],[]⟩) (exS:=⟨[.int .i64],[]⟩) Tryz.f152 (memC GV zI) (by kernel_rfl) (by kernel_rfl) fun x=>by kernel_rfl
theorem zsm:zn Tryz.prog (mU OA):=
 okC (A:=⟨[RV Es,vL Nn],[(6,[2,8])],[],0,[(4,⟨[4,5,6],⟨[.own 2568, .own 2569, .int .i64],[(2568, .sl 44),(2569, .sl 172)]⟩,[0,2,3],[],[],0,[4,5],⟨[.own 2568, .own 2569],[(2568, .sl 44),(2569, .sl 172)]⟩,[2568,2569]⟩)],[],[]⟩) (exS:=⟨[.sl 44, .sl 172],[]⟩) Tryz.f114 (memC zpT (memC IV zI)) (by kernel_rfl) (by kernel_rfl) fun x=>by kernel_rfl
theorem xV:zn Tryz.prog (LM Cs):=
 okC (A:=⟨[],[],[],0,[(4,⟨[5],⟨[.int .i64],[]⟩,[0,1],[],[],0,[],⟨[],[]⟩,[]⟩)],[],[]⟩) (exS:=⟨[.bool],[]⟩) Tryz.f23 zI (by kernel_rfl) (by kernel_rfl) fun x=>by kernel_rfl
theorem zkt:zn Tryz.prog (CX cB):=
 okC (A:=⟨[bW IB,mU OA,LM Cs],[],[],0,[(3,⟨[3,4],⟨[.str, .int .i64],[]⟩,[0,2],[],[],0,[3],⟨[.str],[]⟩,[]⟩)],[(8,⟨[3,4],⟨[.str, .int .i64],[]⟩,[5,6],[],[],0,[],⟨[],[]⟩,[]⟩)],[]⟩) (exS:=⟨[.str],[]⟩) Tryz.f97 (memC znZ (memC zsm (memC xV zI))) (by kernel_rfl) (by kernel_rfl) fun x=>by kernel_rfl
theorem znY:zn Tryz.prog (dW JB):=
 okC (A:=⟨[iW LB,CX cB],[],[],0,[],[],[]⟩) (exS:=⟨[.str, .int .i64],[]⟩) Tryz.f64 (memC znW (memC zkt zI)) (by kernel_rfl) (by kernel_rfl) fun x=>by kernel_rfl
theorem zp4:zn Tryz.prog (bV bA):=
 okC (A:=⟨[aM Rs,qN Zp,dW JB],[],[],0,[],[],[]⟩) (exS:=⟨[.str, .int .i64],[]⟩) Tryz.f21 (memC LW (memC WG (memC znY zI))) (by kernel_rfl) (by kernel_rfl) fun x=>by kernel_rfl
theorem zmx:zn Tryz.prog (xW XB):=
 okC (A:=⟨[],[],[],1,[(4,⟨[5],⟨[.int .i64],[]⟩,[0,1],[],[],0,[],⟨[],[]⟩,[]⟩)],[],[]⟩) (exS:=⟨[.bool],[]⟩) Tryz.f23 zI (by kernel_rfl) (by kernel_rfl) fun x=>by kernel_rfl
theorem zhD:zn Tryz.prog (eX bG):=
 okC (A:=⟨[uV FB,iQ parseF,tV EB,oU xz,dV dA,nU wz,bV bA,NB Q8,LM Cs,xW XB],[],[],0,[],[],[]⟩) (exS:=⟨[.bool],[]⟩) Tryz.f3 (memC zn1 (memC U1 (memC zn2 (memC zsj (memC zp1 (memC zsk (memC zp4 (memC zp2 (memC xV (memC zmx zI)))))))))) (by kernel_rfl) (by kernel_rfl) fun x=>by kernel_rfl
end Go.Lv.VT
end
