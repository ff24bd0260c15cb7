/- Contracts. -/
import Derived.Test.YtkecjfeffabgiaaGreatDoorTx
import Derived.Test.YtkecjfeffabgiaaGreatDoorIp
import Derived.Test.YtkecjfeffabgiaaGreatDoorLf
import Derived.Test.YtkecjfeffabgiaaGreatDoorPa
noncomputable section
set_option linter.unusedSimpArgs false
set_option linter.unusedVariables false
namespace Go.Lv.VT
set_option maxRecDepth 100000
open Go.Proofs
theorem okC{con:Con I}{A:Env0 I}{exS:StSh}(f:Go.Func)(hS: ∀c∈A.S,zt Tryz.prog c)(hf:Tryz.prog.funcs[con.f]? =some f)(h:chk con A f=true)(he: ∀x,evF2 A T FK f.ntmps (rsl f) (body f) con exS x=con.F x):zt Tryz.prog con:=
 okC0 mixed ipOK tok rfl rfl hS hf h he
def fB(F:zf×Int->Option Int):Con I:=⟨31,⟨[.val 27, .int .i64],[]⟩,[],⟨[.int .i64],[]⟩,0,F⟩
def iB(F:List zb×Int->Option Int):Con I:=⟨104,⟨[.sl 59, .int .i64],[]⟩,[],⟨[.int .i64],[]⟩,0,F⟩
def pX(F:Int->Option Int):Con I:=⟨153,⟨[.int .u8],[]⟩,[],⟨[.int .u8],[]⟩,0,F⟩
def uB(F:List zb->Option Int):Con I:=⟨105,⟨[.sl 59],[]⟩,[],⟨[.int .i64],[]⟩,0,F⟩
def VX(F:List zD->Option Bool):Con I:=⟨61,⟨[.sl 24],[]⟩,[],⟨[.bool],[]⟩,0,F⟩
def eB(F:zf->Option Bool):Con I:=⟨32,⟨[.val 27],[]⟩,[],⟨[.bool],[]⟩,0,F⟩
def SX(F:zf->Option Bool):Con I:=⟨9,⟨[.val 27],[]⟩,[],⟨[.bool],[]⟩,0,F⟩
def rG(F:Int->Option Int):Con I:=⟨58,⟨[.int .u8],[]⟩,[],⟨[.int .u8],[]⟩,0,F⟩
def dx(F:List zb×Int->Option Zc):Con I:=⟨85,⟨[.sl 59, .int .u8],[]⟩,[],⟨[.val 111],[]⟩,0,F⟩
def lq(F:List zb->Option Int):Con I:=⟨50,⟨[.sl 59],[]⟩,[],⟨[.int .i64],[]⟩,0,F⟩
def mW(F:List zb->Option (Int×Int)):Con I:=⟨82,⟨[.sl 59],[]⟩,[],⟨[.int .i64, .int .i64],[]⟩,0,F⟩
def AC(F:List zb×List zg->Option (List zg)):Con I:=⟨164,⟨[.own 0, .sl 59],[(0, .sl 57)]⟩,[],⟨[.own 1],[(1, .sl 57)]⟩,1,F⟩
def YX(F:List zb->Option (List zg)):Con I:=⟨164,⟨[.nilv, .sl 59],[]⟩,[],⟨[.own 0],[(0, .sl 57)]⟩,1,F⟩
def oV(F:List zb->Option (List zg×Int)):Con I:=⟨122,⟨[.sl 59],[]⟩,[],⟨[.sl 57, .int .i64],[]⟩,0,F⟩
def Z6(F:Str×Int->Option Int):Con I:=⟨109,⟨[.str, .int .u8],[]⟩,[],⟨[.int .i64],[]⟩,0,F⟩
def KN(F:Str×Str->Option Bool):Con I:=⟨173,⟨[.str, .str],[]⟩,[],⟨[.bool],[]⟩,0,F⟩
def ZA(F:Str×Str->Option Bool):Con I:=⟨130,⟨[.str, .str],[]⟩,[],⟨[.bool],[]⟩,0,F⟩
def Dy(F:Str->Option Str):Con I:=⟨91,⟨[.str],[]⟩,[],⟨[.str],[]⟩,0,F⟩
def CW(F:Str->Option Bool):Con I:=⟨123,⟨[.str],[]⟩,[],⟨[.bool],[]⟩,0,F⟩
def RZ(F:Str×Str->Option Str):Con I:=⟨266,⟨[.str, .str],[]⟩,[],⟨[.str],[]⟩,0,F⟩
def BZ(F:Str×Str->Option Str):Con I:=⟨236,⟨[.str, .str],[]⟩,[],⟨[.str],[]⟩,0,F⟩
def Hy(F:Int->Option Bool):Con I:=⟨158,⟨[.int .u8],[]⟩,[],⟨[.bool],[]⟩,0,F⟩
def yM(F:Str->Option Bool):Con I:=⟨199,⟨[.str],[]⟩,[],⟨[.bool],[]⟩,0,F⟩
def pM(F:Int->Option Bool):Con I:=⟨190,⟨[.int .u8],[]⟩,[],⟨[.bool],[]⟩,0,F⟩
def iG(F:Int->Option Bool):Con I:=⟨157,⟨[.int .u8],[]⟩,[],⟨[.bool],[]⟩,0,F⟩
def pY(F:Str×Str->Option Bool):Con I:=⟨200,⟨[.str, .str],[]⟩,[],⟨[.bool],[]⟩,0,F⟩
def rV(F:zg->Option Bool):Con I:=⟨169,⟨[.val 57],[]⟩,[],⟨[.bool],[]⟩,0,F⟩
def tX(F:(Int×Int)×List zg->Option Bool):Con I:=⟨201,⟨[.int .i64, .int .u8, .optr 0],[(0, .row 62)]⟩,[0],⟨[.bool],[]⟩,0,F⟩
def Ey(F:Str×Str->Option Bool):Con I:=⟨131,⟨[.str, .str],[]⟩,[],⟨[.bool],[]⟩,0,F⟩
def aM(F:List zg->Option Int):Con I:=⟨170,⟨[.sl 57],[]⟩,[],⟨[.int .i64],[]⟩,0,F⟩
def dM(F:List zg->Option Int):Con I:=⟨124,⟨[.sl 57],[]⟩,[],⟨[.int .i64],[]⟩,0,F⟩
def Yq(F:zb×Int->Option Bool):Con I:=⟨128,⟨[.val 59, .int .u8],[]⟩,[],⟨[.bool],[]⟩,0,F⟩
def YY(F:zb->Option Bool):Con I:=⟨171,⟨[.val 59],[]⟩,[],⟨[.bool],[]⟩,0,F⟩
def TZ(F:List zb->Option Int):Con I:=⟨172,⟨[.sl 59, .clo 171 []],[]⟩,[],⟨[.int .i64],[]⟩,0,F⟩
def aZ(F:List zb->Option Bool):Con I:=⟨126,⟨[.sl 59, .clo 171 []],[]⟩,[],⟨[.bool],[]⟩,0,F⟩
def Qg(F:List zb->Option Bool):Con I:=⟨125,⟨[.sl 59],[]⟩,[],⟨[.bool],[]⟩,0,F⟩
def FM(F:zb->Option Bool):Con I:=⟨129,⟨[.val 59],[]⟩,[],⟨[.bool],[]⟩,0,F⟩
def uX(F:zb->Option Bool):Con I:=⟨127,⟨[.val 59],[]⟩,[],⟨[.bool],[]⟩,0,F⟩
def NZ(F:List zb->Option Int):Con I:=⟨172,⟨[.sl 59, .clo 127 []],[]⟩,[],⟨[.int .i64],[]⟩,0,F⟩
def WZ(F:List zb->Option Bool):Con I:=⟨126,⟨[.sl 59, .clo 127 []],[]⟩,[],⟨[.bool],[]⟩,0,F⟩
def jG(F:zD->Option Int):Con I:=⟨83,⟨[.val 24],[]⟩,[],⟨[.int .i64],[]⟩,0,F⟩
def xB(F:zf->Option Bool):Con I:=⟨47,⟨[.val 27],[]⟩,[],⟨[.bool],[]⟩,0,F⟩
def GM(F:zf->Option Bool):Con I:=⟨71,⟨[.val 27],[]⟩,[],⟨[.bool],[]⟩,0,F⟩
def wB(F:zf×Int->Option ((Int×Bool)×Int)):Con I:=⟨48,⟨[.val 27, .optr 0],[(0, .row 3)]⟩,[],⟨[.int .i64, .bool],[(0, .row 3)]⟩,0,F⟩
def Q0(F:zf->Option Int):Con I:=⟨18,⟨[.val 27],[]⟩,[],⟨[.int .i64],[]⟩,0,F⟩
def aX(F:Int×List zb->Option Bool):Con I:=⟨106,⟨[.int .i64, .optr 0],[(0, .row 22)]⟩,[0],⟨[.bool],[]⟩,0,F⟩
def DZ(F:List zb->Option (List zb)):Con I:=⟨133,⟨[.sl 59],[]⟩,[],⟨[.own 0],[(0, .sl 59)]⟩,1,F⟩
def ax(F:List zb->Option (List zb)):Con I:=⟨88,⟨[.sl 59],[]⟩,[],⟨[.sl 59],[]⟩,0,F⟩
def BM(F:List zb->Option (List zb×Int)):Con I:=⟨62,⟨[.sl 59],[]⟩,[],⟨[.sl 59, .int .i64],[]⟩,0,F⟩
def Lu(F:zf->Option (List zD)):Con I:=⟨33,⟨[.val 27],[]⟩,[],⟨[.sl 24],[]⟩,0,F⟩
def IW(F:zf->Option (List zD×Int)):Con I:=⟨10,⟨[.val 27],[]⟩,[],⟨[.sl 24, .int .i64],[]⟩,0,F⟩
def WX(F:Int->Option Int):Con I:=⟨149,⟨[.int .u8],[]⟩,[],⟨[.int .u8],[]⟩,0,F⟩
def XX(F:Str->Option Str):Con I:=⟨97,⟨[.str],[]⟩,[],⟨[.str],[]⟩,0,F⟩
def oM(F:zD->Option Bool):Con I:=⟨107,⟨[.val 24],[]⟩,[],⟨[.bool],[]⟩,0,F⟩
def FH(F:zf->Option Bool):Con I:=⟨65,⟨[.val 27],[]⟩,[],⟨[.bool],[]⟩,0,F⟩
def xY(F:List Str×Str->Option Int):Con I:=⟨175,⟨[.sl 9, .str],[]⟩,[],⟨[.int .i64],[]⟩,0,F⟩
def UZ(F:List Str×Str->Option Bool):Con I:=⟨134,⟨[.sl 9, .str],[]⟩,[],⟨[.bool],[]⟩,0,F⟩
def kM(F:Str->Option Bool):Con I:=⟨92,⟨[.str],[]⟩,[],⟨[.bool],[]⟩,0,F⟩
def rM(F:List Int->Option Int):Con I:=⟨113,⟨[.sl 2],[]⟩,[],⟨[.int .i64],[]⟩,0,F⟩
def sM(F:Int->Option Int):Con I:=⟨121,⟨[.int .i64],[]⟩,[],⟨[.int .i64],[]⟩,0,F⟩
def DW(F:zf->Option Bool):Con I:=⟨80,⟨[.val 27],[]⟩,[],⟨[.bool],[]⟩,0,F⟩
def EW(F:zf->Option Bool):Con I:=⟨81,⟨[.val 27],[]⟩,[],⟨[.bool],[]⟩,0,F⟩
def vV(F:zf->Option Bool):Con I:=⟨46,⟨[.val 27],[]⟩,[],⟨[.bool],[]⟩,0,F⟩
def FZ(F:zf->Option Bool):Con I:=⟨45,⟨[.val 27],[]⟩,[],⟨[.bool],[]⟩,0,F⟩
def JZ(F:List zf->Option Int):Con I:=⟨79,⟨[.sl 27, .clo 45 []],[]⟩,[],⟨[.int .i64],[]⟩,0,F⟩
def OZ(F:List zf->Option Bool):Con I:=⟨44,⟨[.sl 27, .clo 45 []],[]⟩,[],⟨[.bool],[]⟩,0,F⟩
def FN(F:zf->Option Int):Con I:=⟨16,⟨[.val 27],[]⟩,[],⟨[.int .i64],[]⟩,0,F⟩
def kG(F:zf->Option Int):Con I:=⟨36,⟨[.val 27],[]⟩,[],⟨[.int .i64],[]⟩,0,F⟩
def wX(F:Int×List Bool->Option (Bool×Int)):Con I:=⟨38,⟨[.optr 0, .optr 1],[(0, .row 3),(1, .row 30)]⟩,[1],⟨[.bool],[(0, .row 3)]⟩,0,F⟩
def vB(F:(zf×Int)×Int×List Bool->Option (Bool×Int)):Con I:=⟨37,⟨[.val 27, .int .i64, .clo 38 [0,1]],[(0, .row 3),(1, .row 30)]⟩,[1],⟨[.bool],[(0, .row 3)]⟩,0,F⟩
def FW(F:zf×VEnv×List Bool->Option (Bool×Int)):Con I:=⟨12,⟨[.val 27, .val 29, .sl 4],[]⟩,[],⟨[.bool, .int .i64],[]⟩,0,F⟩
def mX(F:Str->Option Bool):Con I:=⟨154,⟨[.str],[]⟩,[],⟨[.bool],[]⟩,0,F⟩
def rU(F:Int->Option Bool):Con I:=⟨155,⟨[.int .i64],[]⟩,[],⟨[.bool],[]⟩,0,F⟩
def dV(F:zf->Option (Bool×Bool)):Con I:=⟨108,⟨[.val 27],[]⟩,[],⟨[.bool, .bool],[]⟩,0,F⟩
def RX(F:zf->Option Bool):Con I:=⟨66,⟨[.val 27],[]⟩,[],⟨[.bool],[]⟩,0,F⟩
def nX(F:zf->Option Bool):Con I:=⟨39,⟨[.val 27],[]⟩,[],⟨[.bool],[]⟩,0,F⟩
def bM(F:Str->Option Int):Con I:=⟨111,⟨[.str],[]⟩,[],⟨[.int .i64],[]⟩,0,F⟩
def vG(F:Int×List UInt8->Option (List UInt8)):Con I:=⟨159,⟨[.own 0, .int .u8],[(0, .sl 5)]⟩,[],⟨[.own 1],[(1, .sl 5)]⟩,1,F⟩
def CX(F:Str×Int->Option (List UInt8)):Con I:=⟨110,⟨[.nilv, .str, .int .i64],[]⟩,[],⟨[.own 0],[(0, .sl 5)]⟩,1,F⟩
def EM(F:Str->Option (Str×Int)):Con I:=⟨67,⟨[.str],[]⟩,[],⟨[.str, .int .i64],[]⟩,0,F⟩
def TY(F:Int×Int×List UInt8->Option (Int×List UInt8)):Con I:=⟨114,⟨[.int .u8, .optr 0, .optr 1],[(0, .row 3),(1, .sl 5)]⟩,[],⟨[],[(0, .row 3),(1, .sl 5)]⟩,0,F⟩
def DX(F:Int->Option (Str×Int)):Con I:=⟨69,⟨[.int .i64],[]⟩,[],⟨[.str, .int .i64],[]⟩,0,F⟩
def uV(F:List zf×Str->Option Str):Con I:=⟨68,⟨[.sl 27, .str, .clo 41 []],[]⟩,[],⟨[.str],[]⟩,0,F⟩
def Ku(F:zf->Option Str):Con I:=⟨41,⟨[.val 27],[]⟩,[],⟨[.str],[]⟩,0,F⟩
def BX(F:(Str×Int)×List UInt8->Option (List UInt8)):Con I:=⟨110,⟨[.own 0, .str, .int .i64],[(0, .sl 5)]⟩,[],⟨[.own 1],[(1, .sl 5)]⟩,1,F⟩
def nW(F:Unit->Option zaC):Con I:=⟨221,⟨[],[]⟩,[],⟨[.val 230],[]⟩,0,F⟩
def SY(F:(Int×Bool)×List UInt8->Option (List UInt8)):Con I:=⟨220,⟨[.own 0, .int .i64, .bool],[(0, .sl 5)]⟩,[],⟨[.own 1],[(1, .sl 5)]⟩,1,F⟩
def AX(F:zg×List UInt8->Option (List UInt8)):Con I:=⟨194,⟨[.own 0, .val 57],[(0, .sl 5)]⟩,[],⟨[.own 1],[(1, .sl 5)]⟩,1,F⟩
def PZ(F:za->Option za):Con I:=⟨95,⟨[.optr 0],[(0, .row 121)]⟩,[],⟨[],[(0, .row 121)]⟩,0,F⟩
def zN(F:Int×za->Option Int):Con I:=⟨138,⟨[.optr 0, .int .i64],[(0, .row 121)]⟩,[0],⟨[.int .i64],[]⟩,0,F⟩
def Ay(F:Int->Option Bool):Con I:=⟨139,⟨[.int .i64],[]⟩,[],⟨[.bool],[]⟩,0,F⟩
def QI(F:za->Option za):Con I:=⟨140,⟨[.optr 0, .clo 139 []],[(0, .row 121)]⟩,[],⟨[],[(0, .row 121)]⟩,0,F⟩
def YZ(F:Int->Option (List UInt8)):Con I:=⟨244,⟨[.nilv, .int .i32],[]⟩,[],⟨[.own 0],[(0, .sl 5)]⟩,1,F⟩
def eY(F:Int->Option (List UInt8)):Con I:=⟨210,⟨[.nilv, .int .i32],[]⟩,[],⟨[.own 0],[(0, .sl 5)]⟩,1,F⟩
def NC(F:Int×Int×Int->Option Bool):Con I:=⟨212,⟨[.int .i64, .int .i64, .int .i64],[]⟩,[],⟨[.bool],[]⟩,0,F⟩
def Cy(F:Int->Option Bool):Con I:=⟨182,⟨[.int .i64],[]⟩,[],⟨[.bool],[]⟩,0,F⟩
def yL(F:Int->Option Int):Con I:=⟨211,⟨[.int .i64],[]⟩,[],⟨[.int .i64],[]⟩,0,F⟩
def MZ(F:za->Option (za×List UInt8)):Con I:=⟨180,⟨[.optr 0, .nilv],[(0, .row 121)]⟩,[],⟨[.own 1],[(0, .row 121),(1, .sl 5)]⟩,1,F⟩
def XZ(F:Int×List UInt8->Option (List UInt8)):Con I:=⟨244,⟨[.own 0, .int .i32],[(0, .sl 5)]⟩,[],⟨[.own 1],[(1, .sl 5)]⟩,1,F⟩
def dY(F:Int×List UInt8->Option (List UInt8)):Con I:=⟨210,⟨[.own 0, .int .i32],[(0, .sl 5)]⟩,[],⟨[.own 1],[(1, .sl 5)]⟩,1,F⟩
def qF(F:za×List UInt8->Option (za×List UInt8)):Con I:=⟨180,⟨[.optr 0, .own 1],[(0, .row 121),(1, .sl 5)]⟩,[],⟨[.own 2],[(0, .row 121),(2, .sl 5)]⟩,1,F⟩
def KZ(F:za->Option (zg×za)):Con I:=⟨141,⟨[.optr 0],[(0, .row 121)]⟩,[],⟨[.val 57],[(0, .row 121)]⟩,0,F⟩
def nM(F:Int->Option Bool):Con I:=⟨181,⟨[.int .i64],[]⟩,[],⟨[.bool],[]⟩,0,F⟩
def wM(F:Int->Option Bool):Con I:=⟨142,⟨[.int .i64],[]⟩,[],⟨[.bool],[]⟩,0,F⟩
def ZY(F:Int×za->Option Bool):Con I:=⟨143,⟨[.optr 0, .int .i64],[(0, .row 121)]⟩,[0],⟨[.bool],[]⟩,0,F⟩
def GN(F:Int×za->Option Bool):Con I:=⟨144,⟨[.optr 0, .int .i64],[(0, .row 121)]⟩,[0],⟨[.bool],[]⟩,0,F⟩
def Q3(F:za->Option (Str×za)):Con I:=⟨145,⟨[.optr 0],[(0, .row 121)]⟩,[],⟨[.str],[(0, .row 121)]⟩,0,F⟩
def LZ(F:za->Option Bool):Con I:=⟨146,⟨[.optr 0],[(0, .row 121)]⟩,[0],⟨[.bool],[]⟩,0,F⟩
def GZ(F:za->Option za):Con I:=⟨140,⟨[.optr 0, .clo 182 []],[(0, .row 121)]⟩,[],⟨[],[(0, .row 121)]⟩,0,F⟩
def IZ(F:za->Option (Bool×za)):Con I:=⟨183,⟨[.optr 0],[(0, .row 121)]⟩,[],⟨[.bool],[(0, .row 121)]⟩,0,F⟩
def gY(F:Str->Option Int):Con I:=⟨184,⟨[.str],[]⟩,[],⟨[.int .i64],[]⟩,0,F⟩
def HZ(F:za->Option (zg×za)):Con I:=⟨147,⟨[.optr 0],[(0, .row 121)]⟩,[],⟨[.val 57],[(0, .row 121)]⟩,0,F⟩
def jY(F:za->Option (zg×za)):Con I:=⟨216,⟨[.optr 0],[(0, .row 121)]⟩,[],⟨[.val 57],[(0, .row 121)]⟩,0,F⟩
def iY(F:za->Option (zg×za)):Con I:=⟨185,⟨[.optr 0],[(0, .row 121)]⟩,[],⟨[.val 57],[(0, .row 121)]⟩,0,F⟩
def wY(F:za->Option (zg×za)):Con I:=⟨148,⟨[.optr 0],[(0, .row 121)]⟩,[],⟨[.val 57],[(0, .row 121)]⟩,0,F⟩
def AZ(F:za->Option (zg×za)):Con I:=⟨96,⟨[.optr 0],[(0, .row 121)]⟩,[],⟨[.val 57],[(0, .row 121)]⟩,0,F⟩
def nY(F:(zg×Int×Int)×List zg->Option (List zg)):Con I:=⟨56,⟨[.val 57, .int .i64, .int .i64, .optr 0],[(0, .cells 62 [.own 1]),(1, .sl 57)]⟩,[],⟨[],[(0, .cells 62 [.own 2]),(2, .sl 57)]⟩,1,F⟩
def lX(F:Str->Option (Int×List zg)):Con I:=⟨55,⟨[.str, .clo 56 [0]],[(0, .cells 62 [.nilv])]⟩,[],⟨[.int .i64],[(0, .cells 62 [.own 1]),(1, .sl 57)]⟩,1,F⟩
def EH(F:Str->Option (List zg×Int)):Con I:=⟨27,⟨[.str],[]⟩,[],⟨[.sl 57, .int .i64],[]⟩,0,F⟩
def CZ(F:List zg×List zg->Option Bool):Con I:=⟨195,⟨[.sl 57, .sl 57],[]⟩,[],⟨[.bool],[]⟩,0,F⟩
def xV(F:List zg->Option (Str×Int)):Con I:=⟨163,⟨[.sl 57],[]⟩,[],⟨[.str, .int .i64],[]⟩,0,F⟩
def gV(F:List zb->Option (Str×Int)):Con I:=⟨115,⟨[.sl 59],[]⟩,[],⟨[.str, .int .i64],[]⟩,0,F⟩
def tV(F:zD->Option (Str×Int)):Con I:=⟨72,⟨[.val 24],[]⟩,[],⟨[.str, .int .i64],[]⟩,0,F⟩
def EN(F:zf×Bool->Option (Str×Bool)):Con I:=⟨70,⟨[.val 27, .optr 0],[(0, .cells 75 [.optr 1]),(1, .row 4)]⟩,[0],⟨[.str],[(1, .row 4)]⟩,0,F⟩
def EX(F:(List zf×Str)×Bool->Option (Str×Bool)):Con I:=⟨68,⟨[.sl 27, .str, .clo 70 [0]],[(0, .cells 75 [.optr 1]),(1, .row 4)]⟩,[0],⟨[.str],[(1, .row 4)]⟩,0,F⟩
def Qp(F:zf×Bool->Option (Str×Bool)):Con I:=⟨42,⟨[.val 27, .optr 0],[(0, .row 4)]⟩,[],⟨[.str],[(0, .row 4)]⟩,0,F⟩
def bG(F:zf->Option (Str×Int)):Con I:=⟨14,⟨[.val 27],[]⟩,[],⟨[.str, .int .i64],[]⟩,0,F⟩
def rY(F:zf->Option Int):Con I:=⟨17,⟨[.val 27],[]⟩,[],⟨[.int .i64],[]⟩,0,F⟩
def jB(F:List zb×List zb->Option Bool):Con I:=⟨84,⟨[.sl 59, .sl 59],[]⟩,[],⟨[.bool],[]⟩,0,F⟩
def UX(F:zD×zD->Option Bool):Con I:=⟨49,⟨[.val 24, .val 24],[]⟩,[],⟨[.bool],[]⟩,0,F⟩
def xM(F:Str->Option (List zb)):Con I:=⟨24,⟨[.str],[]⟩,[],⟨[.sl 59],[]⟩,0,F⟩
def lW(F:List zb×Int->Option (List (List zb)×Int)):Con I:=⟨52,⟨[.sl 59, .int .u8],[]⟩,[],⟨[.sl 22, .int .i64],[]⟩,0,F⟩
def qO(F:zk->Option Int):Con I:=⟨89,⟨[.optr 0],[(0, .row 85)]⟩,[0],⟨[.int .u8],[]⟩,0,F⟩
def qP(F:zk->Option (zb×zk)):Con I:=⟨90,⟨[.optr 0],[(0, .row 85)]⟩,[],⟨[.val 59],[(0, .row 85)]⟩,0,F⟩
def Qa(F:zk->Option (Bool×zk)):Con I:=⟨53,⟨[.optr 0],[(0, .row 85)]⟩,[],⟨[.bool],[(0, .row 85)]⟩,0,F⟩
def GH(F:List Str×zk->Option (Str×zk)):Con I:=⟨86,⟨[.optr 0, .sl 9],[(0, .row 85)]⟩,[],⟨[.str],[(0, .row 85)]⟩,0,F⟩
def yY(F:zk->Option ((zf×Bool)×zk)):Con I:=⟨93,⟨[.optr 0],[(0, .row 85)]⟩,[],⟨[.val 27, .bool],[(0, .row 85)]⟩,0,F⟩
def EZ(F:zk->Option ((zf×Bool)×zk)):Con I:=⟨54,⟨[.optr 0],[(0, .row 85)]⟩,[],⟨[.val 27, .bool],[(0, .row 85)]⟩,0,F⟩
def fM(F:List zb->Option (zf×Int)):Con I:=⟨25,⟨[.sl 59],[]⟩,[],⟨[.val 27, .int .i64],[]⟩,0,F⟩
def bX(F:Str×Str×Int×Int->Option Bool):Con I:=⟨21,⟨[.str, .str, .int .i64, .int .i64],[]⟩,[],⟨[.bool],[]⟩,0,F⟩
def sV(F:List zb->Option (List zb)):Con I:=⟨203,⟨[.sl 59],[]⟩,[],⟨[.sl 59],[]⟩,0,F⟩
def yV(F:List zb->Option (List zb)):Con I:=⟨202,⟨[.sl 59],[]⟩,[],⟨[.sl 59],[]⟩,0,F⟩
def sU(F:List zb->Option (zD×Bool)):Con I:=⟨174,⟨[.sl 59],[]⟩,[],⟨[.val 24, .bool],[]⟩,0,F⟩
def uU(F:List zb->Option (zD×Bool×Int)):Con I:=⟨132,⟨[.sl 59],[]⟩,[],⟨[.val 24, .bool, .int .i64],[]⟩,0,F⟩
def tY(F:zk->Option ((zf×Bool)×zk)):Con I:=⟨87,⟨[.optr 0],[(0, .row 85)]⟩,[],⟨[.val 27, .bool],[(0, .row 85)]⟩,0,F⟩
def qQ(F:zk->Option ((zf×Bool)×zk)):Con I:=⟨51,⟨[.optr 0],[(0, .row 85)]⟩,[],⟨[.val 27, .bool],[(0, .row 85)]⟩,0,F⟩
def DN(F:List zb->Option (zf×Int)):Con I:=⟨23,⟨[.sl 59],[]⟩,[],⟨[.val 27, .int .i64],[]⟩,0,F⟩
def aY(F:Int×List Bool->Option (Bool×Int)):Con I:=⟨38,⟨[.optr 0, .optr 1],[(0, .row 3),(1, .cells 30 [.own 2]),(2, .sl 4)]⟩,[1,2],⟨[.bool],[(0, .row 3)]⟩,0,F⟩
def BC(F:(zf×Int)×Int×List Bool->Option (Bool×Int)):Con I:=⟨37,⟨[.val 27, .int .i64, .clo 38 [0,1]],[(0, .row 3),(1, .cells 30 [.own 2]),(2, .sl 4)]⟩,[1,2],⟨[.bool],[(0, .row 3)]⟩,0,F⟩
def vX(F:(zf×VEnv)×List Bool->Option (Bool×Int)):Con I:=⟨12,⟨[.val 27, .val 29, .own 0],[(0, .sl 4)]⟩,[0],⟨[.bool, .int .i64],[]⟩,0,F⟩
def WY(F:Str×Str×Bool×Bool->Option Bool):Con I:=⟨22,⟨[.str, .str, .bool, .bool],[]⟩,[],⟨[.bool],[]⟩,0,F⟩
def xW(F:Unit->Option Bool):Con I:=⟨26,⟨[],[]⟩,[],⟨[.bool],[]⟩,0,F⟩
def gB(F:zf×zf->Option Bool):Con I:=⟨29,⟨[.val 27, .val 27],[]⟩,[],⟨[.bool],[]⟩,0,F⟩
def XY(F:zf×zf->Option Bool):Con I:=⟨6,⟨[.val 27, .val 27],[]⟩,[],⟨[.bool],[]⟩,0,F⟩
def rX(F:List zb->Option (List zg)):Con I:=⟨164,⟨[.nilv, .sl 59],[]⟩,[],⟨[.sl 57],[]⟩,0,F⟩
def GR(F:Str->Option (Str×Int)):Con I:=⟨94,⟨[.str],[]⟩,[],⟨[.str, .int .i64],[]⟩,0,F⟩
theorem zBM:zt Tryz.prog (GR wm):=zAG
def dU(F:Str×Int->Option Int):Con I:=⟨156,⟨[.str, .int .u8],[]⟩,[],⟨[.int .i64],[]⟩,0,F⟩
theorem zyW:zt Tryz.prog (dU az):=zyF
def uJ(F:Str×Str->Option Int):Con I:=⟨137,⟨[.str, .str],[]⟩,[],⟨[.int .i64],[]⟩,0,F⟩
theorem rT:zt Tryz.prog (uJ Bn):=zAH
def ER(F:Str×Str->Option Str):Con I:=⟨213,⟨[.str, .str],[]⟩,[],⟨[.str],[]⟩,0,F⟩
theorem zBO:zt Tryz.prog (ER Gl):=zAJ
def yR(F:Str×Str->Option Str):Con I:=⟨258,⟨[.str, .str],[]⟩,[],⟨[.str],[]⟩,0,F⟩
theorem zBP:zt Tryz.prog (yR Xp):=zAK
def pV(F:Str×Str->Option Int):Con I:=⟨214,⟨[.str, .str],[]⟩,[],⟨[.int .i64],[]⟩,0,F⟩
theorem ztW:zt Tryz.prog (pV Sl):=ztg
def u6(F:Str×Str->Option (Str×Str×Bool)):Con I:=⟨215,⟨[.str, .str],[]⟩,[],⟨[.str, .str, .bool],[]⟩,0,F⟩
theorem zH5:zt Tryz.prog (u6 cutF):=zHv
def eU(F:Int×Int->Option Str):Con I:=⟨259,⟨[.int .i64, .int .i64],[]⟩,[],⟨[.str],[]⟩,0,F⟩
theorem zyV:zt Tryz.prog (eU Rs):=zyE
def vU(F:(Int×Int)×List UInt8->Option (List UInt8)):Con I:=⟨191,⟨[.own 0, .int .u64, .int .i64],[(0, .sl 5)]⟩,[],⟨[.own 1],[(1, .sl 5)]⟩,1,F⟩
theorem zvK:zt Tryz.prog (vU Jt):=zvj
def wU(F:(Int×Int)×List UInt8->Option (List UInt8)):Con I:=⟨257,⟨[.own 0, .int .i64, .int .i64],[(0, .sl 5)]⟩,[],⟨[.own 1],[(1, .sl 5)]⟩,1,F⟩
theorem zvJ:zt Tryz.prog (wU Lt):=zvi
def tJ(F:List zg->Option (List zb×Int)):Con I:=⟨28,⟨[.sl 57],[]⟩,[],⟨[.sl 59, .int .i64],[]⟩,0,F⟩
theorem GU:zt Tryz.prog (tJ parseF):=zAI
def DJ(F:List Str×Str->Option Str):Con I:=⟨112,⟨[.sl 9, .str],[]⟩,[],⟨[.str],[]⟩,0,F⟩
theorem CQ:zt Tryz.prog (DJ jl):=zEa
theorem zsc(Qo:zf×Int->Option Int)(hs:zt Tryz.prog (fB Qo)):zt Tryz.prog (fB (Ny Qo)):=
 okC (A:=⟨[fB Qo],[],[],0,[(3,⟨[5,6],⟨[.int .i64, .int .i64],[]⟩,[1,2,4],[0],[],0,[5],⟨[.int .i64],[]⟩,[]⟩)],[],[]⟩) (exS:=⟨[.int .i64],[]⟩) Tryz.f31 (memC hs zG) (by kernel_rfl) (by kernel_rfl) fun x=>by kernel_rfl
theorem zrG:zt Tryz.prog (fB Qo):=
 zt.recE (I:=I) (P:=Tryz.prog) (f:=31) (inS:=⟨[.val 27, .int .i64],[]⟩) (cst:=[]) (outS:=⟨[.int .i64],[]⟩) (k:=0) (Ny) (by kernel_rfl) (fun S h=>zsc S h)
theorem zsa(Qm:List zb×Int->Option Int)(hs:zt Tryz.prog (iB Qm)):zt Tryz.prog (iB (Oy Qm)):=
 okC (A:=⟨[iB Qm],[],[],0,[(3,⟨[5,6],⟨[.int .i64, .int .i64],[]⟩,[0,1,4],[],[],0,[5],⟨[.int .i64],[]⟩,[]⟩)],[],[]⟩) (exS:=⟨[.int .i64],[]⟩) Tryz.f104 (memC hs zG) (by kernel_rfl) (by kernel_rfl) fun x=>by kernel_rfl
theorem zrE:zt Tryz.prog (iB Qm):=
 zt.recE (I:=I) (P:=Tryz.prog) (f:=104) (inS:=⟨[.sl 59, .int .i64],[]⟩) (cst:=[]) (outS:=⟨[.int .i64],[]⟩) (k:=0) (Oy) (by kernel_rfl) (fun S h=>zsa S h)
theorem zn7:zt Tryz.prog (pX cB):=
 okC (A:=⟨[],[],[],0,[],[(6,⟨[6],⟨[.bool],[]⟩,[3],[],[],0,[],⟨[],[]⟩,[]⟩)],[]⟩) (exS:=⟨[.int .u8],[]⟩) Tryz.f153 zG (by kernel_rfl) (by kernel_rfl) fun x=>by kernel_rfl
theorem zr8(Km:List zb->Option Int)(hs:zt Tryz.prog (uB Km)):zt Tryz.prog (uB (lG Km)):=
 okC (A:=⟨[pX cB,uB Km],[],[],0,[(3,⟨[3,4],⟨[.int .i64, .int .i64],[]⟩,[0,2],[],[],0,[3],⟨[.int .i64],[]⟩,[]⟩)],[(4,⟨[3,4],⟨[.int .i64, .int .i64],[]⟩,[],[],[],0,[],⟨[],[]⟩,[]⟩)],[]⟩) (exS:=⟨[.int .i64],[]⟩) Tryz.f105 (memC zn7 (memC hs zG)) (by kernel_rfl) (by kernel_rfl) fun x=>by kernel_rfl
theorem zrC:zt Tryz.prog (uB Km):=
 zt.recE (I:=I) (P:=Tryz.prog) (f:=105) (inS:=⟨[.sl 59],[]⟩) (cst:=[]) (outS:=⟨[.int .i64],[]⟩) (k:=0) (lG) (by kernel_rfl) (fun S h=>zr8 S h)
theorem zo9:zt Tryz.prog (VX YB):=
 okC (A:=⟨[iB Qm,uB Km],[],[],0,[(5,⟨[3,4],⟨[.int .i64, .int .i64],[]⟩,[0],[],[],0,[],⟨[],[]⟩,[]⟩)],[],[]⟩) (exS:=⟨[.bool],[]⟩) Tryz.f61 (memC zrE (memC zrC zG)) (by kernel_rfl) (by kernel_rfl) fun x=>by kernel_rfl
theorem zsd(Ol:zf->Option Bool)(hs:zt Tryz.prog (eB Ol)):zt Tryz.prog (eB (Ky Ol)):=
 okC (A:=⟨[VX YB,eB Ol],[(1,[2])],[],0,[(4,⟨[3],⟨[.int .i64],[]⟩,[1],[0],[],0,[],⟨[],[]⟩,[]⟩)],[],[]⟩) (exS:=⟨[.bool],[]⟩) Tryz.f32 (memC zo9 (memC hs zG)) (by kernel_rfl) (by kernel_rfl) fun x=>by kernel_rfl
theorem zrH:zt Tryz.prog (eB Ol):=
 zt.recE (I:=I) (P:=Tryz.prog) (f:=32) (inS:=⟨[.val 27],[]⟩) (cst:=[]) (outS:=⟨[.bool],[]⟩) (k:=0) (Ky) (by kernel_rfl) (fun S h=>zsd S h)
theorem zpb:zt Tryz.prog (SX Tx):=
 okC (A:=⟨[fB Qo,eB Ol],[],[],0,[],[],[]⟩) (exS:=⟨[.bool],[]⟩) Tryz.f9 (memC zrG (memC zrH zG)) (by kernel_rfl) (by kernel_rfl) fun x=>by kernel_rfl
theorem gM:zt Tryz.prog (rG Ro):=
 okC (A:=⟨[],[],[],0,[],[(7,⟨[6],⟨[.bool],[]⟩,[0],[],[],0,[],⟨[],[]⟩,[]⟩)],[]⟩) (exS:=⟨[.int .u8],[]⟩) Tryz.f58 zG (by kernel_rfl) (by kernel_rfl) fun x=>by kernel_rfl
theorem zup(ak:List zb×Int->Option Zc)(hs:zt Tryz.prog (dx ak)):zt Tryz.prog (dx (YG ak)):=
 okC (A:=⟨[rG Ro,dx ak],[],[],0,[(3,⟨[12],⟨[.int .i64],[(1, .row 111)]⟩,[1,4,5,10,11],[0],[1],0,[],⟨[],[(1, .row 111)]⟩,[1]⟩)],[(9,⟨[],⟨[],[(1, .row 111)]⟩,[7,8,12],[2],[1],0,[],⟨[],[]⟩,[]⟩),(12,⟨[12],⟨[.int .i64],[(1, .row 111)]⟩,[],[],[1],0,[],⟨[],[]⟩,[]⟩)],[]⟩) (exS:=⟨[.optr 0],[(0, .row 111)]⟩) Tryz.f85 (memC gM (memC hs zG)) (by kernel_rfl) (by kernel_rfl) fun x=>by kernel_rfl
theorem UW:zt Tryz.prog (dx ak):=
 zt.recE (I:=I) (P:=Tryz.prog) (f:=85) (inS:=⟨[.sl 59, .int .u8],[]⟩) (cst:=[]) (outS:=⟨[.val 111],[]⟩) (k:=0) (YG) (by kernel_rfl) (fun S h=>zup S h)
theorem Gu:zt Tryz.prog (lq qb):=
 okC (A:=⟨[dx ak],[],[],0,[],[],[]⟩) (exS:=⟨[.int .i64],[]⟩) Tryz.f50 (memC UW zG) (by kernel_rfl) (by kernel_rfl) fun x=>by kernel_rfl
theorem zrA:zt Tryz.prog (mW MB):=
 okC (A:=⟨[lq qb,dx ak],[],[],0,[],[],[]⟩) (exS:=⟨[.int .i64, .int .i64],[]⟩) Tryz.f82 (memC Gu (memC UW zG)) (by kernel_rfl) (by kernel_rfl) fun x=>by kernel_rfl
theorem zpi(QX:List zb×List zg->Option (List zg))(hs:zt Tryz.prog (AC QX)):zt Tryz.prog (AC (nG QX)):=
 okC (A:=⟨[rG Ro,AC QX],[(4,[3]),(7,[6])],[],1,[(2,⟨[0,10],⟨[.own 1001, .int .i64],[(1001, .sl 57)]⟩,[4,8,9],[],[],0,[0],⟨[.own 1001],[(1001, .sl 57)]⟩,[1001]⟩)],[(8,⟨[0,10],⟨[.own 1103, .int .i64],[(1103, .sl 57)]⟩,[],[],[],0,[],⟨[],[]⟩,[]⟩)],[]⟩) (exS:=⟨[.own 1],[(1, .sl 57)]⟩) Tryz.f164 (memC gM (memC hs zG)) (by kernel_rfl) (by kernel_rfl) fun x=>by kernel_rfl
theorem zo6:zt Tryz.prog (AC QX):=
 zt.recE (I:=I) (P:=Tryz.prog) (f:=164) (inS:=⟨[.own 0, .sl 59],[(0, .sl 57)]⟩) (cst:=[]) (outS:=⟨[.own 1],[(1, .sl 57)]⟩) (k:=1) (nG) (by kernel_rfl) (fun S h=>zpi S h)
theorem EY:zt Tryz.prog (YX pq):=
 okC (A:=⟨[rG Ro,AC QX],[(4,[3]),(7,[6])],[],0,[(2,⟨[0,10],⟨[.own 1105, .int .i64],[(1105, .sl 57)]⟩,[4,8,9],[],[],0,[0],⟨[.own 1105],[(1105, .sl 57)]⟩,[1105]⟩)],[(8,⟨[0,10],⟨[.own 1207, .int .i64],[(1207, .sl 57)]⟩,[],[],[],0,[],⟨[],[]⟩,[]⟩)],[]⟩) (exS:=⟨[.own 0],[(0, .sl 57)]⟩) Tryz.f164 (memC gM (memC zo6 zG)) (by kernel_rfl) (by kernel_rfl) fun x=>by kernel_rfl
theorem zn6:zt Tryz.prog (rX pq):=zzY ipOK (by kernel_rfl) EY
theorem ztY:zt Tryz.prog (oV TA):=
 okC (A:=⟨[lq qb,YX pq],[],[],0,[],[],[]⟩) (exS:=⟨[.sl 57, .int .i64],[]⟩) Tryz.f122 (memC Gu (memC EY zG)) (by kernel_rfl) (by kernel_rfl) fun x=>by kernel_rfl
theorem qm:zt Tryz.prog (Z6 strings_IndexByte):=
 okC (A:=⟨[dU az],[],[],0,[],[],[]⟩) (exS:=⟨[.int .i64],[]⟩) Tryz.f109 (memC zyW zG) (by kernel_rfl) (by kernel_rfl) fun x=>by kernel_rfl
theorem VZ:zt Tryz.prog (KN stringslite_HasPrefix):=
 okC (A:=⟨[],[],[],0,[],[],[]⟩) (exS:=⟨[.bool],[]⟩) Tryz.f173 zG (by kernel_rfl) (by kernel_rfl) fun x=>by kernel_rfl
theorem ZE:zt Tryz.prog (ZA strings_HasPrefix):=
 okC (A:=⟨[KN stringslite_HasPrefix],[],[],0,[],[],[]⟩) (exS:=⟨[.bool],[]⟩) Tryz.f130 (memC VZ zG) (by kernel_rfl) (by kernel_rfl) fun x=>by kernel_rfl
theorem IC:zt Tryz.prog (Dy ZL):=
 okC (A:=⟨[],[],[],0,[(3,⟨[10],⟨[.int .i64],[(0, .sl 5)]⟩,[2,3,8,9],[],[0],0,[],⟨[],[(0, .sl 5)]⟩,[0]⟩)],[(7,⟨[10],⟨[.int .i64],[(0, .sl 5)]⟩,[],[],[0],0,[],⟨[],[]⟩,[]⟩)],[]⟩) (exS:=⟨[.str],[]⟩) Tryz.f91 zG (by kernel_rfl) (by kernel_rfl) fun x=>by kernel_rfl
theorem zrw:zt Tryz.prog (CW EB):=
 okC (A:=⟨[Z6 strings_IndexByte,ZA strings_HasPrefix,Dy ZL],[],[],0,[],[],[]⟩) (exS:=⟨[.bool],[]⟩) Tryz.f123 (memC qm (memC ZE (memC IC zG))) (by kernel_rfl) (by kernel_rfl) fun x=>by kernel_rfl
theorem zfj:zt Tryz.prog (RZ stringslite_TrimPrefix):=
 okC (A:=⟨[KN stringslite_HasPrefix],[],[],0,[],[],[]⟩) (exS:=⟨[.str],[]⟩) Tryz.f266 (memC VZ zG) (by kernel_rfl) (by kernel_rfl) fun x=>by kernel_rfl
theorem zht:zt Tryz.prog (BZ strings_TrimPrefix):=
 okC (A:=⟨[RZ stringslite_TrimPrefix],[],[],0,[],[],[]⟩) (exS:=⟨[.str],[]⟩) Tryz.f236 (memC zfj zG) (by kernel_rfl) (by kernel_rfl) fun x=>by kernel_rfl
theorem yB:zt Tryz.prog (Hy qz):=
 okC (A:=⟨[],[],[],0,[],[],[]⟩) (exS:=⟨[.bool],[]⟩) Tryz.f158 zG (by kernel_rfl) (by kernel_rfl) fun x=>by kernel_rfl
theorem NY:zt Tryz.prog (yM Ju):=
 okC (A:=⟨[BZ strings_TrimPrefix,Hy qz],[],[],0,[],[],[]⟩) (exS:=⟨[.bool],[]⟩) Tryz.f199 (memC zht (memC yB zG)) (by kernel_rfl) (by kernel_rfl) fun x=>by kernel_rfl
theorem FY:zt Tryz.prog (pM Wx):=
 okC (A:=⟨[],[],[],0,[],[],[]⟩) (exS:=⟨[.bool],[]⟩) Tryz.f190 zG (by kernel_rfl) (by kernel_rfl) fun x=>by kernel_rfl
theorem UM:zt Tryz.prog (iG Om):=
 okC (A:=⟨[pM Wx,Hy qz],[],[],0,[],[],[]⟩) (exS:=⟨[.bool],[]⟩) Tryz.f157 (memC FY (memC yB zG)) (by kernel_rfl) (by kernel_rfl) fun x=>by kernel_rfl
theorem zi7:zt Tryz.prog (pY strings_Contains):=
 okC (A:=⟨[uJ Bn],[],[],0,[],[],[]⟩) (exS:=⟨[.bool],[]⟩) Tryz.f200 (memC rT zG) (by kernel_rfl) (by kernel_rfl) fun x=>by kernel_rfl
theorem ztV:zt Tryz.prog (rV dw):=
 okC (A:=⟨[Z6 strings_IndexByte,yM Ju,ZA strings_HasPrefix,iG Om,pY strings_Contains],[],[],0,[],[(8,⟨[3,4,5,6,7,25],⟨[.bool, .bool, .bool, .bool, .bool, .bool],[]⟩,[1,16],[],[],0,[],⟨[],[]⟩,[]⟩),(14,⟨[3,4,5,6,7,63],⟨[.bool, .bool, .bool, .bool, .bool, .bool],[]⟩,[],[],[],0,[],⟨[],[]⟩,[]⟩),(22,⟨[4,5,6,7,94],⟨[.bool, .bool, .bool, .bool, .bool],[]⟩,[3],[],[],0,[],⟨[],[]⟩,[]⟩),(24,⟨[3,4,5,6,7],⟨[.bool, .bool, .bool, .bool, .bool],[]⟩,[1],[0],[],0,[],⟨[],[]⟩,[]⟩)],[]⟩) (exS:=⟨[.bool],[]⟩) Tryz.f169 (memC qm (memC NY (memC ZE (memC UM (memC zi7 zG))))) (by kernel_rfl) (by kernel_rfl) fun x=>by kernel_rfl
theorem zn5:zt Tryz.prog (tX ZK):=
 okC (A:=⟨[],[],[],1,[],[],[]⟩) (exS:=⟨[.bool],[]⟩) Tryz.f201 zG (by kernel_rfl) (by kernel_rfl) fun x=>by kernel_rfl
theorem JC:zt Tryz.prog (Ey Zt):=
 okC (A:=⟨[Dy ZL],[],[],0,[],[],[]⟩) (exS:=⟨[.bool],[]⟩) Tryz.f131 (memC IC zG) (by kernel_rfl) (by kernel_rfl) fun x=>by kernel_rfl
theorem rW:zt Tryz.prog (aM QF):=
 okC (A:=⟨[tX ZK,Ey Zt],[],[],0,[],[(11,⟨[5],⟨[.int .i64],[]⟩,[3],[0],[],0,[],⟨[],[]⟩,[]⟩)],[]⟩) (exS:=⟨[.int .i64],[]⟩) Tryz.f170 (memC zn5 (memC JC zG)) (by kernel_rfl) (by kernel_rfl) fun x=>by kernel_rfl
theorem uW:zt Tryz.prog (dM QE):=
 okC (A:=⟨[rV dw,aM QF],[],[],0,[(4,⟨[10],⟨[.int .i64],[]⟩,[0,8,9],[],[],0,[],⟨[],[]⟩,[]⟩)],[],[]⟩) (exS:=⟨[.int .i64],[]⟩) Tryz.f124 (memC ztV (memC rW zG)) (by kernel_rfl) (by kernel_rfl) fun x=>by kernel_rfl
theorem Xt:zt Tryz.prog (Yq ZZ):=
 okC (A:=⟨[],[],[],0,[],[],[]⟩) (exS:=⟨[.bool],[]⟩) Tryz.f128 zG (by kernel_rfl) (by kernel_rfl) fun x=>by kernel_rfl
theorem zk5(zO:List zb->Option Bool)(h_decl_closers:zt Tryz.prog (Qg zO)):zt Tryz.prog (YY (Ry zO)):=
 okC (A:=⟨[Yq ZZ,Qg zO],[],[],0,[],[],[]⟩) (exS:=⟨[.bool],[]⟩) Tryz.f171 (memC Xt (memC h_decl_closers zG)) (by kernel_rfl) (by kernel_rfl) fun x=>by kernel_rfl
theorem zfi(zO:List zb->Option Bool)(h_decl_closers:zt Tryz.prog (Qg zO)):zt Tryz.prog (TZ (Qz zO)):=
 okC (A:=⟨[YY (Ry zO)],[],[],0,[(2,⟨[8],⟨[.int .i64],[]⟩,[0,1,7],[],[],0,[],⟨[],[]⟩,[]⟩)],[],[]⟩) (exS:=⟨[.int .i64],[]⟩) Tryz.f172 (memC (zk5 zO h_decl_closers) zG) (by kernel_rfl) (by kernel_rfl) fun x=>by kernel_rfl
theorem zdP(zO:List zb->Option Bool)(h_decl_closers:zt Tryz.prog (Qg zO)):zt Tryz.prog (aZ (qG zO)):=
 okC (A:=⟨[TZ (Qz zO)],[],[],0,[],[],[]⟩) (exS:=⟨[.bool],[]⟩) Tryz.f126 (memC (zfi zO h_decl_closers) zG) (by kernel_rfl) (by kernel_rfl) fun x=>by kernel_rfl
theorem zoo(zO:List zb->Option Bool)(hs:zt Tryz.prog (Qg zO)):zt Tryz.prog (Qg (BH zO)):=
 okC (A:=⟨[aZ (qG zO)],[],[],0,[],[],[]⟩) (exS:=⟨[.bool],[]⟩) Tryz.f125 (memC (zdP zO hs) zG) (by kernel_rfl) (by kernel_rfl) fun x=>by kernel_rfl
theorem zn4:zt Tryz.prog (Qg zO):=
 zt.recE (I:=I) (P:=Tryz.prog) (f:=125) (inS:=⟨[.sl 59],[]⟩) (cst:=[]) (outS:=⟨[.bool],[]⟩) (k:=0) (BH) (by kernel_rfl) (fun S h=>zoo S h)
theorem XW:zt Tryz.prog (FM Ho):=
 okC (A:=⟨[Yq ZZ],[],[],0,[],[],[]⟩) (exS:=⟨[.bool],[]⟩) Tryz.f129 (memC Xt zG) (by kernel_rfl) (by kernel_rfl) fun x=>by kernel_rfl
theorem zn3:zt Tryz.prog (uX dB):=
 okC (A:=⟨[Yq ZZ,FM Ho],[],[],0,[],[],[]⟩) (exS:=⟨[.bool],[]⟩) Tryz.f127 (memC Xt (memC XW zG)) (by kernel_rfl) (by kernel_rfl) fun x=>by kernel_rfl
theorem zeu:zt Tryz.prog (NZ qV):=
 okC (A:=⟨[uX dB],[],[],0,[(2,⟨[8],⟨[.int .i64],[]⟩,[0,1,7],[],[],0,[],⟨[],[]⟩,[]⟩)],[],[]⟩) (exS:=⟨[.int .i64],[]⟩) Tryz.f172 (memC zn3 zG) (by kernel_rfl) (by kernel_rfl) fun x=>by kernel_rfl
theorem zdo:zt Tryz.prog (WZ ZN):=
 okC (A:=⟨[NZ qV],[],[],0,[],[],[]⟩) (exS:=⟨[.bool],[]⟩) Tryz.f126 (memC zeu zG) (by kernel_rfl) (by kernel_rfl) fun x=>by kernel_rfl
theorem VM:zt Tryz.prog (jG Pm):=
 okC (A:=⟨[oV TA,CW EB,dM QE,Qg zO,WZ ZN,ZA strings_HasPrefix,Yq ZZ],[],[],0,[],[],[]⟩) (exS:=⟨[.int .i64],[]⟩) Tryz.f83 (memC ztY (memC zrw (memC uW (memC zn4 (memC zdo (memC ZE (memC Xt zG))))))) (by kernel_rfl) (by kernel_rfl) fun x=>by kernel_rfl
theorem dG:zt Tryz.prog (xB QJ):=
 okC (A:=⟨[],[],[],0,[],[],[]⟩) (exS:=⟨[.bool],[]⟩) Tryz.f47 zG (by kernel_rfl) (by kernel_rfl) fun x=>by kernel_rfl
theorem YW:zt Tryz.prog (GM Wt):=
 okC (A:=⟨[],[],[],0,[],[],[]⟩) (exS:=⟨[.bool],[]⟩) Tryz.f71 zG (by kernel_rfl) (by kernel_rfl) fun x=>by kernel_rfl
theorem zuo(yj:zf×Int->Option ((Int×Bool)×Int))(hs:zt Tryz.prog (wB yj)):zt Tryz.prog (wB (Xx yj)):=
 okC (A:=⟨[mW MB,jG Pm,xB QJ,wB yj,GM Wt],[],[],1,[(19,⟨[9,97],⟨[.int .i64, .int .i64],[(0, .row 3)]⟩,[1,95,96],[],[0],1,[9],⟨[.int .i64],[(0, .row 3)]⟩,[0]⟩)],[(15,⟨[69],⟨[.bool],[]⟩,[1,2,6],[0,1],[],0,[],⟨[],[]⟩,[]⟩),(26,⟨[9,12],⟨[.int .i64, .int .i64],[]⟩,[97],[0],[],0,[],⟨[],[]⟩,[]⟩)],[]⟩) (exS:=⟨[.int .i64, .bool],[(0, .row 3)]⟩) Tryz.f48 (memC zrA (memC VM (memC dG (memC hs (memC YW zG))))) (by kernel_rfl) (by kernel_rfl) fun x=>by kernel_rfl
theorem ztS:zt Tryz.prog (wB yj):=
 zt.recE (I:=I) (P:=Tryz.prog) (f:=48) (inS:=⟨[.val 27, .optr 0],[(0, .row 3)]⟩) (cst:=[]) (outS:=⟨[.int .i64, .bool],[(0, .row 3)]⟩) (k:=0) (Xx) (by kernel_rfl) (fun S h=>zuo S h)
theorem RN:zt Tryz.prog (Q0 ZI):=
 okC (A:=⟨[wB yj],[],[],0,[],[],[]⟩) (exS:=⟨[.int .i64],[]⟩) Tryz.f18 (memC ztS zG) (by kernel_rfl) (by kernel_rfl) fun x=>by kernel_rfl
theorem zo5:zt Tryz.prog (aX Ux):=
 okC (A:=⟨[],[],[],1,[],[],[]⟩) (exS:=⟨[.bool],[]⟩) Tryz.f106 zG (by kernel_rfl) (by kernel_rfl) fun x=>by kernel_rfl
theorem zhr:zt Tryz.prog (DZ QR):=
 okC (A:=⟨[],[],[],0,[],[],[]⟩) (exS:=⟨[.own 0],[(0, .sl 59)]⟩) Tryz.f133 zG (by kernel_rfl) (by kernel_rfl) fun x=>by kernel_rfl
theorem zuq(uj:List zb->Option (List zb))(hs:zt Tryz.prog (ax uj)):zt Tryz.prog (ax (XG uj)):=
 okC (A:=⟨[DZ QR,ax uj],[],[],0,[(3,⟨[8],⟨[.int .i64],[(0, .sl 59)]⟩,[0,2,7],[],[0],0,[],⟨[],[(0, .sl 59)]⟩,[0]⟩)],[],[]⟩) (exS:=⟨[.sl 59],[]⟩) Tryz.f88 (memC zhr (memC hs zG)) (by kernel_rfl) (by kernel_rfl) fun x=>by kernel_rfl
theorem PW:zt Tryz.prog (ax uj):=
 zt.recE (I:=I) (P:=Tryz.prog) (f:=88) (inS:=⟨[.sl 59],[]⟩) (cst:=[]) (outS:=⟨[.sl 59],[]⟩) (k:=0) (XG) (by kernel_rfl) (fun S h=>zuq S h)
theorem VW:zt Tryz.prog (BM Vl):=
 okC (A:=⟨[lq qb,aX Ux,ax uj],[],[],0,[(6,⟨[6],⟨[.int .i64],[]⟩,[1,2,3,5,7],[0],[],0,[6],⟨[.int .i64],[]⟩,[]⟩),(8,⟨[7],⟨[.int .i64],[]⟩,[1,2,3,5,6],[0],[],2,[7],⟨[.int .i64],[]⟩,[]⟩)],[],[]⟩) (exS:=⟨[.sl 59, .int .i64],[]⟩) Tryz.f62 (memC Gu (memC zo5 (memC PW zG))) (by kernel_rfl) (by kernel_rfl) fun x=>by kernel_rfl
theorem zr4(qR:zf->Option (List zD))(hs:zt Tryz.prog (Lu qR)):zt Tryz.prog (Lu (fG qR)):=
 okC (A:=⟨[BM Vl,Lu qR],[(4,[1])],[],0,[(7,⟨[4,24],⟨[.own 1208, .int .i64],[(1208, .sl 24)]⟩,[2,22,23],[],[],0,[4],⟨[.own 1208],[(1208, .sl 24)]⟩,[1208]⟩)],[],[]⟩) (exS:=⟨[.sl 24],[]⟩) Tryz.f33 (memC VW (memC hs zG)) (by kernel_rfl) (by kernel_rfl) fun x=>by kernel_rfl
theorem WM:zt Tryz.prog (Lu qR):=
 zt.recE (I:=I) (P:=Tryz.prog) (f:=33) (inS:=⟨[.val 27],[]⟩) (cst:=[]) (outS:=⟨[.sl 24],[]⟩) (k:=0) (fG) (by kernel_rfl) (fun S h=>zr4 S h)
theorem zrq:zt Tryz.prog (IW Ex):=
 okC (A:=⟨[Q0 ZI,Lu qR],[],[],0,[],[],[]⟩) (exS:=⟨[.sl 24, .int .i64],[]⟩) Tryz.f10 (memC RN (memC WM zG)) (by kernel_rfl) (by kernel_rfl) fun x=>by kernel_rfl
theorem zo8:zt Tryz.prog (WX RB):=
 okC (A:=⟨[],[],[],0,[],[],[]⟩) (exS:=⟨[.int .u8],[]⟩) Tryz.f149 zG (by kernel_rfl) (by kernel_rfl) fun x=>by kernel_rfl
theorem zo7:zt Tryz.prog (XX SB):=
 okC (A:=⟨[WX RB],[],[],0,[(3,⟨[4],⟨[.int .i64],[(0, .sl 5)]⟩,[2,3],[],[0],0,[],⟨[],[(0, .sl 5)]⟩,[0]⟩)],[],[]⟩) (exS:=⟨[.str],[]⟩) Tryz.f97 (memC zo8 zG) (by kernel_rfl) (by kernel_rfl) fun x=>by kernel_rfl
theorem DY:zt Tryz.prog (oM fq):=
 okC (A:=⟨[],[],[],0,[],[],[]⟩) (exS:=⟨[.bool],[]⟩) Tryz.f107 zG (by kernel_rfl) (by kernel_rfl) fun x=>by kernel_rfl
theorem vM:zt Tryz.prog (FH QP):=
 okC (A:=⟨[oM fq],[],[],0,[],[],[]⟩) (exS:=⟨[.bool],[]⟩) Tryz.f65 (memC DY zG) (by kernel_rfl) (by kernel_rfl) fun x=>by kernel_rfl
theorem zgK:zt Tryz.prog (xY slices_Index_string):=
 okC (A:=⟨[],[],[],0,[(2,⟨[8],⟨[.int .i64],[]⟩,[0,1,7],[],[],0,[],⟨[],[]⟩,[]⟩)],[],[]⟩) (exS:=⟨[.int .i64],[]⟩) Tryz.f175 zG (by kernel_rfl) (by kernel_rfl) fun x=>by kernel_rfl
theorem zfh:zt Tryz.prog (UZ slices_Contains_string):=
 okC (A:=⟨[xY slices_Index_string],[],[],0,[],[],[]⟩) (exS:=⟨[.bool],[]⟩) Tryz.f134 (memC zgK zG) (by kernel_rfl) (by kernel_rfl) fun x=>by kernel_rfl
theorem IY:zt Tryz.prog (kM oq):=
 okC (A:=⟨[UZ slices_Contains_string,Dy ZL,Z6 strings_IndexByte],[(1,[0])],[],0,[],[],[]⟩) (exS:=⟨[.bool],[]⟩) Tryz.f92 (memC zfh (memC IC (memC qm zG))) (by kernel_rfl) (by kernel_rfl) fun x=>by kernel_rfl
theorem GY:zt Tryz.prog (rM mq):=
 okC (A:=⟨[],[],[],0,[(2,⟨[7],⟨[.int .i64],[]⟩,[5,6],[],[],0,[],⟨[],[]⟩,[]⟩)],[],[]⟩) (exS:=⟨[.int .i64],[]⟩) Tryz.f113 zG (by kernel_rfl) (by kernel_rfl) fun x=>by kernel_rfl
theorem HY:zt Tryz.prog (sM Qt):=
 okC (A:=⟨[rM mq],[(1,[1])],[],0,[],[],[]⟩) (exS:=⟨[.int .i64],[]⟩) Tryz.f121 (memC GY zG) (by kernel_rfl) (by kernel_rfl) fun x=>by kernel_rfl
theorem zrv:zt Tryz.prog (DW Dx):=
 okC (A:=⟨[xB QJ,kM oq,sM Qt],[],[],0,[(4,⟨[23],⟨[.int .i64],[]⟩,[21,22],[],[],0,[],⟨[],[]⟩,[]⟩)],[(17,⟨[57],⟨[.bool],[]⟩,[4,23],[1],[],0,[],⟨[],[]⟩,[]⟩),(19,⟨[23],⟨[.int .i64],[]⟩,[],[],[],0,[],⟨[],[]⟩,[]⟩)],[]⟩) (exS:=⟨[.bool],[]⟩) Tryz.f80 (memC dG (memC IY (memC HY zG))) (by kernel_rfl) (by kernel_rfl) fun x=>by kernel_rfl
theorem zru:zt Tryz.prog (EW FB):=
 okC (A:=⟨[],[],[],0,[],[],[]⟩) (exS:=⟨[.bool],[]⟩) Tryz.f81 zG (by kernel_rfl) (by kernel_rfl) fun x=>by kernel_rfl
theorem ztQ:zt Tryz.prog (vV dA):=
 okC (A:=⟨[xB QJ,DW Dx,EW FB],[],[],0,[],[],[]⟩) (exS:=⟨[.bool],[]⟩) Tryz.f46 (memC dG (memC zrv (memC zru zG))) (by kernel_rfl) (by kernel_rfl) fun x=>by kernel_rfl
theorem zif:zt Tryz.prog (FZ Q8):=
 okC (A:=⟨[vV dA],[],[],0,[],[],[]⟩) (exS:=⟨[.bool],[]⟩) Tryz.f45 (memC ztQ zG) (by kernel_rfl) (by kernel_rfl) fun x=>by kernel_rfl
theorem zfI:zt Tryz.prog (JZ QS):=
 okC (A:=⟨[FZ Q8],[],[],0,[(2,⟨[8],⟨[.int .i64],[]⟩,[0,1,7],[],[],0,[],⟨[],[]⟩,[]⟩)],[],[]⟩) (exS:=⟨[.int .i64],[]⟩) Tryz.f79 (memC zif zG) (by kernel_rfl) (by kernel_rfl) fun x=>by kernel_rfl
theorem zet:zt Tryz.prog (OZ qc):=
 okC (A:=⟨[JZ QS],[],[],0,[],[],[]⟩) (exS:=⟨[.bool],[]⟩) Tryz.f44 (memC zfI zG) (by kernel_rfl) (by kernel_rfl) fun x=>by kernel_rfl
theorem lY:zt Tryz.prog (FN Qq):=
 okC (A:=⟨[OZ qc,xB QJ],[],[],0,[],[],[]⟩) (exS:=⟨[.int .i64],[]⟩) Tryz.f16 (memC zet (memC dG zG)) (by kernel_rfl) (by kernel_rfl) fun x=>by kernel_rfl
theorem XM:zt Tryz.prog (kG Oo):=
 okC (A:=⟨[FN Qq,Q0 ZI],[],[],0,[],[],[]⟩) (exS:=⟨[.int .i64],[]⟩) Tryz.f36 (memC lY (memC RN zG)) (by kernel_rfl) (by kernel_rfl) fun x=>by kernel_rfl
theorem zn0:zt Tryz.prog (wX Gy):=
 okC (A:=⟨[],[],[],2,[],[],[]⟩) (exS:=⟨[.bool],[(0, .row 3)]⟩) Tryz.f38 zG (by kernel_rfl) (by kernel_rfl) fun x=>by kernel_rfl
theorem zr5(Q9:(zf×Int)×Int×List Bool->Option (Bool×Int))(hs:zt Tryz.prog (vB Q9)):zt Tryz.prog (vB (Py Q9)):=
 okC (A:=⟨[wX Gy,vB Q9],[],[],2,[(14,⟨[7,8,45],⟨[.bool, .bool, .int .i64],[(0, .row 3)]⟩,[1,2,3,6,43,44],[2],[0],1,[7,8],⟨[.bool, .bool],[(0, .row 3)]⟩,[0]⟩)],[],[]⟩) (exS:=⟨[.bool],[(0, .row 3)]⟩) Tryz.f37 (memC zn0 (memC hs zG)) (by kernel_rfl) (by kernel_rfl) fun x=>by kernel_rfl
theorem zrs:zt Tryz.prog (vB Q9):=
 zt.recE (I:=I) (P:=Tryz.prog) (f:=37) (inS:=⟨[.val 27, .int .i64, .clo 38 [0,1]],[(0, .row 3),(1, .row 30)]⟩) (cst:=[1]) (outS:=⟨[.bool],[(0, .row 3)]⟩) (k:=0) (Py) (by kernel_rfl) (fun S h=>zr5 S h)
theorem zrr:zt Tryz.prog (FW Au):=
 okC (A:=⟨[kG Oo,Lu qR,vB Q9],[],[],0,[],[],[]⟩) (exS:=⟨[.bool, .int .i64],[]⟩) Tryz.f12 (memC XM (memC WM (memC zrs zG))) (by kernel_rfl) (by kernel_rfl) fun x=>by kernel_rfl
theorem zn9:zt Tryz.prog (mX Jy):=
 okC (A:=⟨[XX SB],[],[],0,[(4,⟨[3],⟨[.int .i64],[]⟩,[0],[],[],0,[],⟨[],[]⟩,[]⟩)],[],[]⟩) (exS:=⟨[.bool],[]⟩) Tryz.f154 (memC zo7 zG) (by kernel_rfl) (by kernel_rfl) fun x=>by kernel_rfl
theorem zvN:zt Tryz.prog (rU Ww):=
 okC (A:=⟨[],[],[],0,[],[],[]⟩) (exS:=⟨[.bool],[]⟩) Tryz.f155 zG (by kernel_rfl) (by kernel_rfl) fun x=>by kernel_rfl
theorem zt2:zt Tryz.prog (dV ow):=
 okC (A:=⟨[FH QP,oM fq,mX Jy,rU Ww],[],[],0,[(4,⟨[4],⟨[.int .i64],[]⟩,[1],[0],[],0,[],⟨[],[]⟩,[]⟩)],[(5,⟨[4],⟨[.int .i64],[]⟩,[],[],[],0,[],⟨[],[]⟩,[]⟩)],[]⟩) (exS:=⟨[.bool, .bool],[]⟩) Tryz.f108 (memC vM (memC DY (memC zn9 (memC zvN zG)))) (by kernel_rfl) (by kernel_rfl) fun x=>by kernel_rfl
theorem zpc:zt Tryz.prog (RX Rx):=
 okC (A:=⟨[FH QP,dV ow],[],[],0,[],[],[]⟩) (exS:=⟨[.bool],[]⟩) Tryz.f66 (memC vM (memC zt2 zG)) (by kernel_rfl) (by kernel_rfl) fun x=>by kernel_rfl
theorem zn8:zt Tryz.prog (nX bB):=
 okC (A:=⟨[FH QP,RX Rx],[],[],0,[(8,⟨[3],⟨[.int .i64],[]⟩,[1],[0],[],0,[],⟨[],[]⟩,[]⟩)],[],[]⟩) (exS:=⟨[.bool],[]⟩) Tryz.f39 (memC vM (memC zpc zG)) (by kernel_rfl) (by kernel_rfl) fun x=>by kernel_rfl
theorem sW:zt Tryz.prog (bM Rl):=
 okC (A:=⟨[ZA strings_HasPrefix],[],[],0,[],[],[]⟩) (exS:=⟨[.int .i64],[]⟩) Tryz.f111 (memC ZE zG) (by kernel_rfl) (by kernel_rfl) fun x=>by kernel_rfl
theorem BN:zt Tryz.prog (vG Z4):=
 okC (A:=⟨[Hy qz,pM Wx,vU Jt],[(2,[2]),(3,[1]),(5,[1])],[],1,[],[],[]⟩) (exS:=⟨[.own 1],[(1, .sl 5)]⟩) Tryz.f159 (memC yB (memC FY (memC zvK zG))) (by kernel_rfl) (by kernel_rfl) fun x=>by kernel_rfl
theorem zo0:zt Tryz.prog (CX VB):=
 okC (A:=⟨[iG Om,Hy qz,vG Z4],[(6,[2])],[],0,[(2,⟨[0,11],⟨[.own 1314, .int .i64],[(1314, .sl 5)]⟩,[1,2,6,10],[],[],0,[0],⟨[.own 1314],[(1314, .sl 5)]⟩,[1314]⟩)],[(8,⟨[0,11],⟨[.own 1416, .int .i64],[(1416, .sl 5)]⟩,[],[],[],0,[],⟨[],[]⟩,[]⟩)],[]⟩) (exS:=⟨[.own 0],[(0, .sl 5)]⟩) Tryz.f110 (memC UM (memC yB (memC BN zG))) (by kernel_rfl) (by kernel_rfl) fun x=>by kernel_rfl
theorem WW:zt Tryz.prog (EM Tt):=
 okC (A:=⟨[Z6 strings_IndexByte,bM Rl,CX VB],[],[],0,[],[],[]⟩) (exS:=⟨[.str, .int .i64],[]⟩) Tryz.f67 (memC qm (memC sW (memC zo0 zG))) (by kernel_rfl) (by kernel_rfl) fun x=>by kernel_rfl
theorem zmg:zt Tryz.prog (TY Z0):=
 okC (A:=⟨[],[],[],2,[],[],[]⟩) (exS:=⟨[],[(0, .row 3),(1, .sl 5)]⟩) Tryz.f114 zG (by kernel_rfl) (by kernel_rfl) fun x=>by kernel_rfl
theorem zoZ:zt Tryz.prog (DX WB):=
 okC (A:=⟨[rM mq,TY Z0],[(1,[1]),(7,[200000])],[],0,[(12,⟨[9,26],⟨[.int .i64, .int .i64],[(1, .sl 5),(2, .row 3)]⟩,[0,6,7,8],[],[1,2],0,[],⟨[],[(1, .sl 5),(2, .row 3)]⟩,[1,2]⟩),(23,⟨[0],⟨[.int .i64],[(1, .sl 5),(2, .row 3)]⟩,[6,7,8],[],[1,2],2,[],⟨[],[(1, .sl 5),(2, .row 3)]⟩,[1,2]⟩)],[(7,⟨[0],⟨[.int .i64],[]⟩,[5],[],[],0,[],⟨[],[]⟩,[]⟩),(17,⟨[9],⟨[.int .i64],[(1, .sl 5),(2, .row 3)]⟩,[10,26],[],[1,2],0,[],⟨[],[]⟩,[]⟩),(20,⟨[9,26],⟨[.int .i64, .int .i64],[(1, .sl 5),(2, .row 3)]⟩,[],[],[1,2],0,[],⟨[],[]⟩,[]⟩),(27,⟨[],⟨[],[(1, .sl 5),(2, .row 3)]⟩,[6,7],[],[1,2],0,[],⟨[],[]⟩,[]⟩)],[]⟩) (exS:=⟨[.str, .int .i64],[]⟩) Tryz.f69 (memC GY (memC zmg zG)) (by kernel_rfl) (by kernel_rfl) fun x=>by kernel_rfl
end Go.Lv.VT
end
