/- Contracts. -/
import Derived.Test.YtcdeccnjlkkejaaGreatDoorTx
import Derived.Test.YtcdeccnjlkkejaaGreatDoorIp
import Derived.Test.YtcdeccnjlkkejaaGreatDoorLf
import Derived.Test.YtcdeccnjlkkejaaGreatDoorPa
noncomputable section
set_option linter.unusedSimpArgs false
set_option linter.unusedVariables false
namespace Go.Lv.VT
set_option maxRecDepth 100000
open Go.Proofs
theorem okC{con:Con I}{A:Env0 I}{exS:StSh}(f:Go.Func)(hS: ∀c∈A.S,zn Tryz.prog c)(hf:Tryz.prog.funcs[con.f]? =some f)(h:chk con A f=true)(he: ∀x,evF2 A T FK f.ntmps (rsl f) (body f) con exS x=con.F x):zn Tryz.prog con:=
 okC0 mixed ipOK tok rfl rfl hS hf h he
def YT(F:Int->Option Int):Con I:=⟨25,⟨[.int .u8],[]⟩,[],⟨[.int .u8],[]⟩,0,F⟩
def Yy(F:List zg->Option (List zb)):Con I:=⟨36,⟨[.sl 49],[]⟩,[],⟨[.sl 44],[]⟩,0,F⟩
def Qw(F:Str×Str->Option Bool):Con I:=⟨130,⟨[.str, .str],[]⟩,[],⟨[.bool],[]⟩,0,F⟩
def ZL(F:Str×Str->Option Bool):Con I:=⟨93,⟨[.str, .str],[]⟩,[],⟨[.bool],[]⟩,0,F⟩
def fU(F:za->Option za):Con I:=⟨100,⟨[.optr 0],[(0, .row 133)]⟩,[],⟨[],[(0, .row 133)]⟩,0,F⟩
def zw(F:Int×za->Option Int):Con I:=⟨137,⟨[.optr 0, .int .i64],[(0, .row 133)]⟩,[0],⟨[.int .i64],[]⟩,0,F⟩
def Ut(F:Int->Option Bool):Con I:=⟨138,⟨[.int .i64],[]⟩,[],⟨[.bool],[]⟩,0,F⟩
def qL(F:za->Option za):Con I:=⟨139,⟨[.optr 0, .clo 138 []],[(0, .row 133)]⟩,[],⟨[],[(0, .row 133)]⟩,0,F⟩
def QR(F:Int->Option (List UInt8)):Con I:=⟨237,⟨[.nilv, .int .i32],[]⟩,[],⟨[.own 0],[(0, .sl 5)]⟩,1,F⟩
def PU(F:Int->Option (List UInt8)):Con I:=⟨210,⟨[.nilv, .int .i32],[]⟩,[],⟨[.own 0],[(0, .sl 5)]⟩,1,F⟩
def Wy(F:Int×Int×Int->Option Bool):Con I:=⟨212,⟨[.int .i64, .int .i64, .int .i64],[]⟩,[],⟨[.bool],[]⟩,0,F⟩
def Vt(F:Int->Option Bool):Con I:=⟨174,⟨[.int .i64],[]⟩,[],⟨[.bool],[]⟩,0,F⟩
def lI(F:Int->Option Int):Con I:=⟨211,⟨[.int .i64],[]⟩,[],⟨[.int .i64],[]⟩,0,F⟩
def dU(F:za->Option (za×List UInt8)):Con I:=⟨172,⟨[.optr 0, .nilv],[(0, .row 133)]⟩,[],⟨[.own 1],[(0, .row 133),(1, .sl 5)]⟩,1,F⟩
def QS(F:Int×List UInt8->Option (List UInt8)):Con I:=⟨237,⟨[.own 0, .int .i32],[(0, .sl 5)]⟩,[],⟨[.own 1],[(1, .sl 5)]⟩,1,F⟩
def OU(F:Int×List UInt8->Option (List UInt8)):Con I:=⟨210,⟨[.own 0, .int .i32],[(0, .sl 5)]⟩,[],⟨[.own 1],[(1, .sl 5)]⟩,1,F⟩
def ZT(F:za×List UInt8->Option (za×List UInt8)):Con I:=⟨172,⟨[.optr 0, .own 1],[(0, .row 133),(1, .sl 5)]⟩,[],⟨[.own 2],[(0, .row 133),(2, .sl 5)]⟩,1,F⟩
def XU(F:za->Option (zb×za)):Con I:=⟨140,⟨[.optr 0],[(0, .row 133)]⟩,[],⟨[.val 44],[(0, .row 133)]⟩,0,F⟩
def BJ(F:Int->Option Bool):Con I:=⟨173,⟨[.int .i64],[]⟩,[],⟨[.bool],[]⟩,0,F⟩
def UJ(F:Int->Option Bool):Con I:=⟨141,⟨[.int .i64],[]⟩,[],⟨[.bool],[]⟩,0,F⟩
def Zr(F:Int×za->Option Bool):Con I:=⟨142,⟨[.optr 0, .int .i64],[(0, .row 133)]⟩,[0],⟨[.bool],[]⟩,0,F⟩
def nJ(F:Int×za->Option Bool):Con I:=⟨143,⟨[.optr 0, .int .i64],[(0, .row 133)]⟩,[0],⟨[.bool],[]⟩,0,F⟩
def qY(F:za->Option (Str×za)):Con I:=⟨144,⟨[.optr 0],[(0, .row 133)]⟩,[],⟨[.str],[(0, .row 133)]⟩,0,F⟩
def YU(F:za->Option Bool):Con I:=⟨145,⟨[.optr 0],[(0, .row 133)]⟩,[0],⟨[.bool],[]⟩,0,F⟩
def iU(F:za->Option za):Con I:=⟨139,⟨[.optr 0, .clo 174 []],[(0, .row 133)]⟩,[],⟨[],[(0, .row 133)]⟩,0,F⟩
def kU(F:za->Option (Bool×za)):Con I:=⟨175,⟨[.optr 0],[(0, .row 133)]⟩,[],⟨[.bool],[(0, .row 133)]⟩,0,F⟩
def RU(F:Str->Option Int):Con I:=⟨176,⟨[.str],[]⟩,[],⟨[.int .i64],[]⟩,0,F⟩
def jU(F:za->Option (zb×za)):Con I:=⟨146,⟨[.optr 0],[(0, .row 133)]⟩,[],⟨[.val 44],[(0, .row 133)]⟩,0,F⟩
def WS(F:Str->Option Str):Con I:=⟨108,⟨[.str],[]⟩,[],⟨[.str],[]⟩,0,F⟩
def DJ(F:Str×Str->Option Bool):Con I:=⟨109,⟨[.str, .str],[]⟩,[],⟨[.bool],[]⟩,0,F⟩
def UU(F:za->Option (zb×za)):Con I:=⟨216,⟨[.optr 0],[(0, .row 133)]⟩,[],⟨[.val 44],[(0, .row 133)]⟩,0,F⟩
def TU(F:za->Option (zb×za)):Con I:=⟨177,⟨[.optr 0],[(0, .row 133)]⟩,[],⟨[.val 44],[(0, .row 133)]⟩,0,F⟩
def bU(F:za->Option (zb×za)):Con I:=⟨147,⟨[.optr 0],[(0, .row 133)]⟩,[],⟨[.val 44],[(0, .row 133)]⟩,0,F⟩
def Qv(F:Str×Int->Option Int):Con I:=⟨119,⟨[.str, .int .u8],[]⟩,[],⟨[.int .i64],[]⟩,0,F⟩
def LU(F:za->Option (zb×za)):Con I:=⟨101,⟨[.optr 0],[(0, .row 133)]⟩,[],⟨[.val 44],[(0, .row 133)]⟩,0,F⟩
def GU(F:(zb×Int×Int)×List zb->Option (List zb)):Con I:=⟨70,⟨[.val 44, .int .i64, .int .i64, .optr 0],[(0, .cells 22 [.own 1]),(1, .sl 44)]⟩,[],⟨[],[(0, .cells 22 [.own 2]),(2, .sl 44)]⟩,1,F⟩
def XT(F:Str->Option (Int×List zb)):Con I:=⟨69,⟨[.str, .clo 70 [0]],[(0, .cells 22 [.nilv])]⟩,[],⟨[.int .i64],[(0, .cells 22 [.own 1]),(1, .sl 44)]⟩,1,F⟩
def Xy(F:Str->Option (List zb×Int)):Con I:=⟨33,⟨[.str],[]⟩,[],⟨[.sl 44, .int .i64],[]⟩,0,F⟩
def Q9(F:Int->Option Int):Con I:=⟨61,⟨[.int .u8],[]⟩,[],⟨[.int .u8],[]⟩,0,F⟩
def Nt(F:List zg×Int->Option zH):Con I:=⟨65,⟨[.sl 49, .int .u8],[]⟩,[],⟨[.val 101],[]⟩,0,F⟩
def GJ(F:List zg->Option Int):Con I:=⟨32,⟨[.sl 49],[]⟩,[],⟨[.int .i64],[]⟩,0,F⟩
def ky(F:List zg×List zb->Option (List zb)):Con I:=⟨63,⟨[.own 0, .sl 49],[(0, .sl 44)]⟩,[],⟨[.own 1],[(1, .sl 44)]⟩,1,F⟩
def zn1(F:List zg->Option (List zb)):Con I:=⟨63,⟨[.nilv, .sl 49],[]⟩,[],⟨[.own 0],[(0, .sl 44)]⟩,1,F⟩
def gU(F:Str×Str->Option Str):Con I:=⟨197,⟨[.str, .str],[]⟩,[],⟨[.str],[]⟩,0,F⟩
def MU(F:Str×Str->Option Str):Con I:=⟨162,⟨[.str, .str],[]⟩,[],⟨[.str],[]⟩,0,F⟩
def Oy(F:Int->Option Bool):Con I:=⟨155,⟨[.int .u8],[]⟩,[],⟨[.bool],[]⟩,0,F⟩
def YJ(F:Str->Option Bool):Con I:=⟨122,⟨[.str],[]⟩,[],⟨[.bool],[]⟩,0,F⟩
def EJ(F:Int->Option Bool):Con I:=⟨157,⟨[.int .u8],[]⟩,[],⟨[.bool],[]⟩,0,F⟩
def JJ(F:Int->Option Bool):Con I:=⟨153,⟨[.int .u8],[]⟩,[],⟨[.bool],[]⟩,0,F⟩
def IU(F:Str×Str->Option Bool):Con I:=⟨154,⟨[.str, .str],[]⟩,[],⟨[.bool],[]⟩,0,F⟩
def GR(F:zb->Option Bool):Con I:=⟨115,⟨[.val 44],[]⟩,[],⟨[.bool],[]⟩,0,F⟩
def gT(F:(Int×Int)×List zb->Option Bool):Con I:=⟨116,⟨[.int .i64, .int .u8, .optr 0],[(0, .row 22)]⟩,[0],⟨[.bool],[]⟩,0,F⟩
def IJ(F:List zb->Option Int):Con I:=⟨80,⟨[.sl 44],[]⟩,[],⟨[.int .i64],[]⟩,0,F⟩
def uR(F:List zb->Option Int):Con I:=⟨79,⟨[.sl 44],[]⟩,[],⟨[.int .i64],[]⟩,0,F⟩
def pR(F:Str->Option Int):Con I:=⟨118,⟨[.str],[]⟩,[],⟨[.int .i64],[]⟩,0,F⟩
def iJ(F:Int×List UInt8->Option (List UInt8)):Con I:=⟨120,⟨[.own 0, .int .u8],[(0, .sl 5)]⟩,[],⟨[.own 1],[(1, .sl 5)]⟩,1,F⟩
def aS(F:(Str×Int)×List UInt8->Option (List UInt8)):Con I:=⟨117,⟨[.own 0, .str, .int .i64],[(0, .sl 5)]⟩,[],⟨[.own 1],[(1, .sl 5)]⟩,1,F⟩
def nR(F:Unit->Option QI):Con I:=⟨123,⟨[],[]⟩,[],⟨[.val 149],[]⟩,0,F⟩
def BU(F:(Int×Bool)×List UInt8->Option (List UInt8)):Con I:=⟨121,⟨[.own 0, .int .i64, .bool],[(0, .sl 5)]⟩,[],⟨[.own 1],[(1, .sl 5)]⟩,1,F⟩
def YS(F:zb×List UInt8->Option (List UInt8)):Con I:=⟨81,⟨[.own 0, .val 44],[(0, .sl 5)]⟩,[],⟨[.own 1],[(1, .sl 5)]⟩,1,F⟩
def NU(F:List zb×List zb->Option Bool):Con I:=⟨82,⟨[.sl 44, .sl 44],[]⟩,[],⟨[.bool],[]⟩,0,F⟩
def rR(F:List zb->Option (Str×Int)):Con I:=⟨46,⟨[.sl 44],[]⟩,[],⟨[.str, .int .i64],[]⟩,0,F⟩
def mI(F:List zg->Option (Str×Int)):Con I:=⟨20,⟨[.sl 49],[]⟩,[],⟨[.str, .int .i64],[]⟩,0,F⟩
def mR(F:List zg->Option (Int×Int)):Con I:=⟨26,⟨[.sl 49],[]⟩,[],⟨[.int .i64, .int .i64],[]⟩,0,F⟩
def SS(F:Str->Option (Str×Int×Bool)):Con I:=⟨31,⟨[.str],[]⟩,[],⟨[.str, .int .i64, .bool],[]⟩,0,F⟩
def VS(F:Unit->Option Bool):Con I:=⟨24,⟨[],[]⟩,[],⟨[.bool],[]⟩,0,F⟩
def Ny(F:List zg×List zg->Option Bool):Con I:=⟨22,⟨[.sl 49, .sl 49],[]⟩,[],⟨[.bool],[]⟩,0,F⟩
def JS(F:Str->Option Bool):Con I:=⟨102,⟨[.str],[]⟩,[],⟨[.bool],[]⟩,0,F⟩
def qK(F:Int->Option Bool):Con I:=⟨148,⟨[.int .u8],[]⟩,[],⟨[.bool],[]⟩,0,F⟩
def dR(F:Str->Option Bool):Con I:=⟨103,⟨[.str],[]⟩,[],⟨[.bool],[]⟩,0,F⟩
def jy(F:Int->Option Bool):Con I:=⟨178,⟨[.int .u8],[]⟩,[],⟨[.bool],[]⟩,0,F⟩
def Qb(F:Str×Int->Option Int):Con I:=⟨217,⟨[.str, .int .i64],[]⟩,[],⟨[.int .u8],[]⟩,0,F⟩
def xD(F:Str×Int->Option Int):Con I:=⟨179,⟨[.str, .int .i64],[]⟩,[],⟨[.int .i64],[]⟩,0,F⟩
def FJ(F:Unit->Option Str):Con I:=⟨244,⟨[],[]⟩,[],⟨[.str],[]⟩,0,F⟩
def jD(F:Int->Option Int):Con I:=⟨150,⟨[.int .u8],[]⟩,[],⟨[.int .u8],[]⟩,0,F⟩
def ER(F:Int->Option Int):Con I:=⟨245,⟨[.int .u8],[]⟩,[],⟨[.int .i64],[]⟩,0,F⟩
def kR(F:Int->Option Str):Con I:=⟨246,⟨[.int .i64],[]⟩,[],⟨[.str],[]⟩,0,F⟩
def QQ(F:Str×Int->Option (Str×Int)):Con I:=⟨218,⟨[.str, .int .i64],[]⟩,[],⟨[.str, .int .i64],[]⟩,0,F⟩
def bT(F:Str×Int->Option (zb×Int)):Con I:=⟨180,⟨[.str, .int .i64],[]⟩,[],⟨[.val 44, .int .i64],[]⟩,0,F⟩
def VJ(F:Int->Option Bool):Con I:=⟨198,⟨[.int .u8],[]⟩,[],⟨[.bool],[]⟩,0,F⟩
def XJ(F:Int->Option Bool):Con I:=⟨163,⟨[.int .u8],[]⟩,[],⟨[.bool],[]⟩,0,F⟩
def QJ(F:Str×Int->Option Bool):Con I:=⟨181,⟨[.str, .int .i64],[]⟩,[],⟨[.bool],[]⟩,0,F⟩
def iD(F:Str×Int->Option (Str×Int)):Con I:=⟨182,⟨[.str, .int .i64],[]⟩,[],⟨[.str, .int .i64],[]⟩,0,F⟩
def WJ(F:Str×Int->Option Bool):Con I:=⟨183,⟨[.str, .int .i64],[]⟩,[],⟨[.bool],[]⟩,0,F⟩
def DU(F:Str×Int->Option Bool):Con I:=⟨184,⟨[.str, .int .i64],[]⟩,[],⟨[.bool],[]⟩,0,F⟩
def eT(F:Str×Int->Option Int):Con I:=⟨247,⟨[.str, .int .i64],[]⟩,[],⟨[.int .i64],[]⟩,0,F⟩
def JU(F:Str×Int->Option (Int×Bool)):Con I:=⟨219,⟨[.str, .int .i64],[]⟩,[],⟨[.int .i64, .bool],[]⟩,0,F⟩
def WU(F:Str->Option Int):Con I:=⟨220,⟨[.str],[]⟩,[],⟨[.int .i64],[]⟩,0,F⟩
def FU(F:Str×Int->Option (zb×Int)):Con I:=⟨185,⟨[.str, .int .i64],[]⟩,[],⟨[.val 44, .int .i64],[]⟩,0,F⟩
def BR(F:Str×Int×Str->Option Bool):Con I:=⟨186,⟨[.str, .int .i64, .str],[]⟩,[],⟨[.bool],[]⟩,0,F⟩
def RS(F:Str->Option Str):Con I:=⟨105,⟨[.str],[]⟩,[],⟨[.str],[]⟩,0,F⟩
def CJ(F:Str×Str->Option Bool):Con I:=⟨72,⟨[.str, .str],[]⟩,[],⟨[.bool],[]⟩,0,F⟩
def CR(F:Str×Int->Option (zb×Int)):Con I:=⟨248,⟨[.str, .int .i64],[]⟩,[],⟨[.val 44, .int .i64],[]⟩,0,F⟩
def VU(F:Int->Option Bool):Con I:=⟨249,⟨[.int .u8],[]⟩,[],⟨[.bool],[]⟩,0,F⟩
def AR(F:Str×Int->Option (zb×Int)):Con I:=⟨221,⟨[.str, .int .i64],[]⟩,[],⟨[.val 44, .int .i64],[]⟩,0,F⟩
def iR(F:Str×Int->Option (zb×Int)):Con I:=⟨187,⟨[.str, .int .i64],[]⟩,[],⟨[.val 44, .int .i64],[]⟩,0,F⟩
def jR(F:Int->Option Int):Con I:=⟨188,⟨[.int .u8],[]⟩,[],⟨[.int .u8],[]⟩,0,F⟩
def DR(F:Str×Int->Option (zb×Int)):Con I:=⟨149,⟨[.str, .int .i64],[]⟩,[],⟨[.val 44, .int .i64],[]⟩,0,F⟩
def MS(F:Int->Option Bool):Con I:=⟨104,⟨[.int .u8],[]⟩,[],⟨[.bool],[]⟩,0,F⟩
def bR(F:zb->Option Bool):Con I:=⟨71,⟨[.val 44],[]⟩,[],⟨[.bool],[]⟩,0,F⟩
def NS(F:List zb->Option Int):Con I:=⟨35,⟨[.sl 44],[]⟩,[],⟨[.int .i64],[]⟩,0,F⟩
def KS(F:List zb->Option Bool):Con I:=⟨34,⟨[.sl 44],[]⟩,[],⟨[.bool],[]⟩,0,F⟩
def KU(F:Str->Option Bool):Con I:=⟨7,⟨[.str],[]⟩,[],⟨[.bool],[]⟩,0,F⟩
def fT(F:List zg->Option (List zb)):Con I:=⟨63,⟨[.nilv, .sl 49],[]⟩,[],⟨[.sl 44],[]⟩,0,F⟩
def lN(F:Str->Option (Str×Int)):Con I:=⟨99,⟨[.str],[]⟩,[],⟨[.str, .int .i64],[]⟩,0,F⟩
theorem pY:zn Tryz.prog (lN Tk):=FZ
def aP(F:Str×Int->Option Int):Con I:=⟨156,⟨[.str, .int .u8],[]⟩,[],⟨[.int .i64],[]⟩,0,F⟩
theorem M5:zn Tryz.prog (aP Dw):=K6
def xG(F:Str×Str->Option Int):Con I:=⟨136,⟨[.str, .str],[]⟩,[],⟨[.int .i64],[]⟩,0,F⟩
theorem tO:zn Tryz.prog (xG Xk):=EZ
def kN(F:Str×Str->Option Str):Con I:=⟨213,⟨[.str, .str],[]⟩,[],⟨[.str],[]⟩,0,F⟩
theorem nY:zn Tryz.prog (kN Gj):=fZ
def jN(F:Str×Str->Option Str):Con I:=⟨160,⟨[.str, .str],[]⟩,[],⟨[.str],[]⟩,0,F⟩
theorem mY:zn Tryz.prog (jN ol):=eZ
def FR(F:Str×Str->Option Int):Con I:=⟨214,⟨[.str, .str],[]⟩,[],⟨[.int .i64],[]⟩,0,F⟩
theorem M9:zn Tryz.prog (FR QX):=D9
def IW(F:Str×Str->Option (Str×Str×Bool)):Con I:=⟨215,⟨[.str, .str],[]⟩,[],⟨[.str, .str, .bool],[]⟩,0,F⟩
theorem zB3:zn Tryz.prog (IW cutF):=zBJ
def bP(F:Int×Int->Option Str):Con I:=⟨161,⟨[.int .i64, .int .i64],[]⟩,[],⟨[.str],[]⟩,0,F⟩
theorem O5:zn Tryz.prog (bP bn):=L6
def UQ(F:(Int×Int)×List UInt8->Option (List UInt8)):Con I:=⟨158,⟨[.own 0, .int .u64, .int .i64],[(0, .sl 5)]⟩,[],⟨[.own 1],[(1, .sl 5)]⟩,1,F⟩
theorem D7:zn Tryz.prog (UQ Ho):=N7
def VQ(F:(Int×Int)×List UInt8->Option (List UInt8)):Con I:=⟨159,⟨[.own 0, .int .i64, .int .i64],[(0, .sl 5)]⟩,[],⟨[.own 1],[(1, .sl 5)]⟩,1,F⟩
theorem F7:zn Tryz.prog (VQ Io):=V8
def bB(F:List zb->Option (List zg×Int)):Con I:=⟨16,⟨[.sl 44],[]⟩,[],⟨[.sl 49, .int .i64],[]⟩,0,F⟩
theorem WH:zn Tryz.prog (bB parseF):=DZ
theorem zlF:zn Tryz.prog (YT Iy):=
 okC (A:=⟨[],[],[],0,[],[(6,⟨[6],⟨[.bool],[]⟩,[3],[],[],0,[],⟨[],[]⟩,[]⟩)],[]⟩) (exS:=⟨[.int .u8],[]⟩) Tryz.f25 zJ (by kernel_rfl) (by kernel_rfl) fun x=>by kernel_rfl
theorem zl2(qp:List zg->Option (List zb))(hs:zn Tryz.prog (Yy qp)):zn Tryz.prog (Yy (oD qp)):=
 okC (A:=⟨[YT Iy,Yy qp],[(5,[6]),(9,[3])],[],0,[(3,⟨[3,4],⟨[.own 1001, .int .i64],[(1001, .sl 44)]⟩,[0,2],[],[],0,[3],⟨[.own 1001],[(1001, .sl 44)]⟩,[1001]⟩)],[(4,⟨[3,4],⟨[.own 1103, .int .i64],[(1103, .sl 44)]⟩,[],[],[],0,[],⟨[],[]⟩,[]⟩)],[]⟩) (exS:=⟨[.sl 44],[]⟩) Tryz.f36 (memC zlF (memC hs zJ)) (by kernel_rfl) (by kernel_rfl) fun x=>by kernel_rfl
theorem zlG:zn Tryz.prog (Yy qp):=
 zn.recE (I:=I) (P:=Tryz.prog) (f:=36) (inS:=⟨[.sl 49],[]⟩) (cst:=[]) (outS:=⟨[.sl 44],[]⟩) (k:=0) (oD) (by kernel_rfl) (fun S h=>zl2 S h)
theorem eU:zn Tryz.prog (Qw stringslite_HasPrefix):=
 okC (A:=⟨[],[],[],0,[],[],[]⟩) (exS:=⟨[.bool],[]⟩) Tryz.f130 zJ (by kernel_rfl) (by kernel_rfl) fun x=>by kernel_rfl
theorem qc:zn Tryz.prog (ZL strings_HasPrefix):=
 okC (A:=⟨[Qw stringslite_HasPrefix],[],[],0,[],[],[]⟩) (exS:=⟨[.bool],[]⟩) Tryz.f93 (memC eU zJ) (by kernel_rfl) (by kernel_rfl) fun x=>by kernel_rfl
theorem zdz:zn Tryz.prog (fU Zd):=
 okC (A:=⟨[ZL strings_HasPrefix,xG Xk],[],[],1,[(0,⟨[],⟨[],[(0, .row 133)]⟩,[0],[],[0],0,[],⟨[],[(0, .row 133)]⟩,[0]⟩)],[],[]⟩) (exS:=⟨[],[(0, .row 133)]⟩) Tryz.f100 (memC qc (memC tO zJ)) (by kernel_rfl) (by kernel_rfl) fun x=>by kernel_rfl
theorem zx:zn Tryz.prog (zw zf):=
 okC (A:=⟨[],[],[],1,[],[],[]⟩) (exS:=⟨[.int .i64],[]⟩) Tryz.f137 zJ (by kernel_rfl) (by kernel_rfl) fun x=>by kernel_rfl
theorem Sy:zn Tryz.prog (Ut qa):=
 okC (A:=⟨[],[],[],0,[],[],[]⟩) (exS:=⟨[.bool],[]⟩) Tryz.f138 zJ (by kernel_rfl) (by kernel_rfl) fun x=>by kernel_rfl
theorem QP:zn Tryz.prog (qL zO):=
 okC (A:=⟨[zw zf,Ut qa],[],[],1,[(0,⟨[],⟨[],[(0, .row 133)]⟩,[0,1],[],[0],0,[],⟨[],[(0, .row 133)]⟩,[0]⟩)],[],[]⟩) (exS:=⟨[],[(0, .row 133)]⟩) Tryz.f139 (memC zx (memC Sy zJ)) (by kernel_rfl) (by kernel_rfl) fun x=>by kernel_rfl
theorem zcn:zn Tryz.prog (QR ZW):=
 okC (A:=⟨[],[(2,[1]),(4,[9]),(7,[14]),(9,[19])],[],0,[],[(7,⟨[25],⟨[.bool],[]⟩,[0,1,5],[],[],0,[],⟨[],[]⟩,[]⟩)],[]⟩) (exS:=⟨[.own 0],[(0, .sl 5)]⟩) Tryz.f237 zJ (by kernel_rfl) (by kernel_rfl) fun x=>by kernel_rfl
theorem zgi:zn Tryz.prog (PU ZQ):=
 okC (A:=⟨[QR ZW],[(2,[3])],[],0,[],[],[]⟩) (exS:=⟨[.own 0],[(0, .sl 5)]⟩) Tryz.f210 (memC zcn zJ) (by kernel_rfl) (by kernel_rfl) fun x=>by kernel_rfl
theorem lD:zn Tryz.prog (Wy ZI):=
 okC (A:=⟨[],[],[],0,[],[],[]⟩) (exS:=⟨[.bool],[]⟩) Tryz.f212 zJ (by kernel_rfl) (by kernel_rfl) fun x=>by kernel_rfl
theorem Ty:zn Tryz.prog (Vt Zn):=
 okC (A:=⟨[Wy ZI],[],[],0,[],[],[]⟩) (exS:=⟨[.bool],[]⟩) Tryz.f174 (memC lD zJ) (by kernel_rfl) (by kernel_rfl) fun x=>by kernel_rfl
theorem KR:zn Tryz.prog (lI Sm):=
 okC (A:=⟨[Vt Zn,Wy ZI],[],[],0,[],[],[]⟩) (exS:=⟨[.int .i64],[]⟩) Tryz.f211 (memC Ty (memC lD zJ)) (by kernel_rfl) (by kernel_rfl) fun x=>by kernel_rfl
theorem zc5:zn Tryz.prog (dU ZF):=
 okC (A:=⟨[zw zf,PU ZQ,lI Sm,Ut qa],[(7,[3])],[],1,[(10,⟨[6,36],⟨[.int .i64, .int .i64],[(0, .row 133)]⟩,[0,1,4],[],[0],0,[6],⟨[.int .i64],[(0, .row 133)]⟩,[0]⟩)],[(17,⟨[6],⟨[.int .i64],[(0, .row 133)]⟩,[1],[],[0],0,[],⟨[],[]⟩,[]⟩),(19,⟨[6],⟨[.int .i64],[]⟩,[],[0],[],0,[],⟨[],[]⟩,[]⟩)],[]⟩) (exS:=⟨[.own 1],[(0, .row 133),(1, .sl 5)]⟩) Tryz.f172 (memC zx (memC zgi (memC KR (memC Sy zJ)))) (by kernel_rfl) (by kernel_rfl) fun x=>by kernel_rfl
theorem zco:zn Tryz.prog (QS ZX):=
 okC (A:=⟨[],[(2,[1]),(4,[9]),(7,[14]),(9,[19])],[],1,[],[(7,⟨[25],⟨[.bool],[(0, .sl 5)]⟩,[0,1,5],[],[0],0,[],⟨[],[]⟩,[]⟩)],[]⟩) (exS:=⟨[.own 1],[(1, .sl 5)]⟩) Tryz.f237 zJ (by kernel_rfl) (by kernel_rfl) fun x=>by kernel_rfl
theorem zgj:zn Tryz.prog (OU ZR):=
 okC (A:=⟨[QS ZX],[(2,[3])],[],1,[],[],[]⟩) (exS:=⟨[.own 1],[(1, .sl 5)]⟩) Tryz.f210 (memC zco zJ) (by kernel_rfl) (by kernel_rfl) fun x=>by kernel_rfl
theorem qI:zn Tryz.prog (ZT zM):=
 okC (A:=⟨[zw zf,OU ZR,lI Sm,Ut qa],[(7,[3])],[],2,[(10,⟨[6,36],⟨[.int .i64, .int .i64],[(0, .row 133)]⟩,[0,1,4],[1],[0],0,[6],⟨[.int .i64],[(0, .row 133)]⟩,[0]⟩)],[(17,⟨[6],⟨[.int .i64],[(0, .row 133),(1, .sl 5)]⟩,[1],[],[0,1],0,[],⟨[],[]⟩,[]⟩),(19,⟨[6],⟨[.int .i64],[(1, .sl 5)]⟩,[],[0],[1],0,[],⟨[],[]⟩,[]⟩)],[]⟩) (exS:=⟨[.own 2],[(0, .row 133),(2, .sl 5)]⟩) Tryz.f172 (memC zx (memC zgj (memC KR (memC Sy zJ)))) (by kernel_rfl) (by kernel_rfl) fun x=>by kernel_rfl
theorem zev:zn Tryz.prog (XU qd):=
 okC (A:=⟨[zw zf,ZT zM],[(5,[3])],[],1,[(4,⟨[4],⟨[.own 1104],[(0, .row 133),(1, .row 44),(1104, .sl 5)]⟩,[0,2,3],[],[0,1],0,[4],⟨[.own 1104],[(0, .row 133),(1, .row 44),(1104, .sl 5)]⟩,[0,1,1104]⟩)],[],[]⟩) (exS:=⟨[.optr 1],[(0, .row 133),(1, .row 44)]⟩) Tryz.f140 (memC zx (memC qI zJ)) (by kernel_rfl) (by kernel_rfl) fun x=>by kernel_rfl
theorem kT:zn Tryz.prog (BJ Xo):=
 okC (A:=⟨[Wy ZI],[],[],0,[],[],[]⟩) (exS:=⟨[.bool],[]⟩) Tryz.f173 (memC lD zJ) (by kernel_rfl) (by kernel_rfl) fun x=>by kernel_rfl
theorem nT:zn Tryz.prog (UJ Wt):=
 okC (A:=⟨[BJ Xo,Vt Zn],[],[],0,[],[],[]⟩) (exS:=⟨[.bool],[]⟩) Tryz.f141 (memC kT (memC Ty zJ)) (by kernel_rfl) (by kernel_rfl) fun x=>by kernel_rfl
theorem ZC:zn Tryz.prog (Zr zt):=
 okC (A:=⟨[zw zf],[],[],1,[],[],[]⟩) (exS:=⟨[.bool],[]⟩) Tryz.f142 (memC zx zJ) (by kernel_rfl) (by kernel_rfl) fun x=>by kernel_rfl
theorem aU:zn Tryz.prog (nJ zC):=
 okC (A:=⟨[zw zf,BJ Xo,Zr zt],[],[],1,[],[],[]⟩) (exS:=⟨[.bool],[]⟩) Tryz.f143 (memC zx (memC kT (memC ZC zJ))) (by kernel_rfl) (by kernel_rfl) fun x=>by kernel_rfl
theorem Q3:zn Tryz.prog (qY zK):=
 okC (A:=⟨[zw zf,UJ Wt,Zr zt,ZT zM],[(5,[3])],[],1,[(2,⟨[3],⟨[.own 1105],[(0, .row 133),(1105, .sl 5)]⟩,[0],[],[0],0,[],⟨[],[]⟩,[]⟩)],[],[]⟩) (exS:=⟨[.str],[(0, .row 133)]⟩) Tryz.f144 (memC zx (memC nT (memC ZC (memC qI zJ)))) (by kernel_rfl) (by kernel_rfl) fun x=>by kernel_rfl
theorem zeu:zn Tryz.prog (YU Zo):=
 okC (A:=⟨[zw zf,Vt Zn],[],[],1,[],[(5,⟨[3],⟨[.int .i64],[]⟩,[0],[],[],0,[],⟨[],[]⟩,[]⟩),(7,⟨[3],⟨[.int .i64],[]⟩,[],[],[],0,[],⟨[],[]⟩,[]⟩)],[]⟩) (exS:=⟨[.bool],[]⟩) Tryz.f145 (memC zx (memC Ty zJ)) (by kernel_rfl) (by kernel_rfl) fun x=>by kernel_rfl
theorem zdX:zn Tryz.prog (iU zN):=
 okC (A:=⟨[zw zf,Vt Zn],[],[],1,[(0,⟨[],⟨[],[(0, .row 133)]⟩,[0,1],[],[0],0,[],⟨[],[(0, .row 133)]⟩,[0]⟩)],[],[]⟩) (exS:=⟨[],[(0, .row 133)]⟩) Tryz.f139 (memC zx (memC Ty zJ)) (by kernel_rfl) (by kernel_rfl) fun x=>by kernel_rfl
theorem zdV:zn Tryz.prog (kU Z4):=
 okC (A:=⟨[zw zf,iU zN,Vt Zn],[],[],1,[],[(4,⟨[],⟨[],[(0, .row 133)]⟩,[0],[],[0],0,[],⟨[],[]⟩,[]⟩),(10,⟨[4],⟨[.bool],[(0, .row 133)]⟩,[],[],[0],0,[],⟨[],[]⟩,[]⟩),(15,⟨[4,5],⟨[.bool, .int .i64],[(0, .row 133)]⟩,[],[],[0],0,[],⟨[],[]⟩,[]⟩),(19,⟨[4],⟨[.bool],[(0, .row 133)]⟩,[],[],[0],0,[],⟨[],[]⟩,[]⟩)],[]⟩) (exS:=⟨[.bool],[(0, .row 133)]⟩) Tryz.f175 (memC zx (memC zdX (memC Ty zJ))) (by kernel_rfl) (by kernel_rfl) fun x=>by kernel_rfl
theorem zgh:zn Tryz.prog (RU ZP):=
 okC (A:=⟨[kN Gj,FR QX,IW cutF],[],[],0,[(8,⟨[6,31],⟨[.int .i64, .int .i64],[]⟩,[0,2,3,4,5,29,30],[0],[],0,[6],⟨[.int .i64],[]⟩,[]⟩),(22,⟨[12,81],⟨[.int .i64, .int .i64],[]⟩,[4,79,80],[0],[],2,[12],⟨[.int .i64],[]⟩,[]⟩),(26,⟨[4,12],⟨[.int .i64, .int .i64],[]⟩,[],[],[],4,[12],⟨[.int .i64],[]⟩,[]⟩)],[(14,⟨[0,4,6],⟨[.str, .int .i64, .int .i64],[]⟩,[3,5],[],[],0,[],⟨[],[]⟩,[]⟩),(15,⟨[0,4],⟨[.str, .int .i64],[]⟩,[3],[],[],0,[],⟨[],[]⟩,[]⟩),(20,⟨[0,4],⟨[.str, .int .i64],[]⟩,[],[],[],0,[],⟨[],[]⟩,[]⟩),(31,⟨[12],⟨[.int .i64],[]⟩,[],[],[],0,[],⟨[],[]⟩,[]⟩)],[]⟩) (exS:=⟨[.int .i64],[]⟩) Tryz.f176 (memC nY (memC M9 (memC zB3 zJ))) (by kernel_rfl) (by kernel_rfl) fun x=>by kernel_rfl
theorem zdW:zn Tryz.prog (jU ZA):=
 okC (A:=⟨[kU Z4,RU ZP,nJ zC,qY zK,zw zf],[],[],1,[],[(9,⟨[],⟨[],[(0, .row 133),(1, .row 44),(2, .row 44)]⟩,[2,5],[],[0,1,2],0,[],⟨[],[]⟩,[]⟩)],[]⟩) (exS:=⟨[.optr 1],[(0, .row 133),(1, .row 44)]⟩) Tryz.f146 (memC zdV (memC zgh (memC aU (memC Q3 (memC zx zJ))))) (by kernel_rfl) (by kernel_rfl) fun x=>by kernel_rfl
theorem zmC:zn Tryz.prog (WS Jt):=
 okC (A:=⟨[],[],[],0,[(3,⟨[10],⟨[.int .i64],[(0, .sl 5)]⟩,[2,3,8,9],[],[0],0,[],⟨[],[(0, .sl 5)]⟩,[0]⟩)],[(7,⟨[10],⟨[.int .i64],[(0, .sl 5)]⟩,[],[],[0],0,[],⟨[],[]⟩,[]⟩)],[]⟩) (exS:=⟨[.str],[]⟩) Tryz.f108 zJ (by kernel_rfl) (by kernel_rfl) fun x=>by kernel_rfl
theorem FT:zn Tryz.prog (DJ mo):=
 okC (A:=⟨[WS Jt],[],[],0,[],[],[]⟩) (exS:=⟨[.bool],[]⟩) Tryz.f109 (memC zmC zJ) (by kernel_rfl) (by kernel_rfl) fun x=>by kernel_rfl
theorem zgf:zn Tryz.prog (UU ZO):=
 okC (A:=⟨[zw zf,Zr zt,dU ZF],[],[],1,[(1,⟨[],⟨[],[(0, .row 133),(1, .row 44)]⟩,[0,2],[],[0,1],0,[],⟨[],[]⟩,[]⟩)],[],[]⟩) (exS:=⟨[.optr 1],[(0, .row 133),(1, .row 44)]⟩) Tryz.f216 (memC zx (memC ZC (memC zc5 zJ))) (by kernel_rfl) (by kernel_rfl) fun x=>by kernel_rfl
theorem zgg:zn Tryz.prog (TU Qm):=
 okC (A:=⟨[qL zO,zw zf,Ut qa,UU ZO,Wy ZI,Zr zt,ZT zM],[(18,[3])],[],1,[(3,⟨[3],⟨[.own 1106],[(0, .row 133),(1, .row 44),(1106, .sl 5)]⟩,[0,2],[],[0,1],0,[],⟨[],[]⟩,[]⟩)],[(10,⟨[3,4],⟨[.own 1106, .int .i64],[(0, .row 133),(1, .row 44),(1106, .sl 5)]⟩,[],[],[0,1,1106],0,[],⟨[],[]⟩,[]⟩)],[]⟩) (exS:=⟨[.optr 1],[(0, .row 133),(1, .row 44)]⟩) Tryz.f177 (memC QP (memC zx (memC Sy (memC zgf (memC lD (memC ZC (memC qI zJ))))))) (by kernel_rfl) (by kernel_rfl) fun x=>by kernel_rfl
theorem zeP:zn Tryz.prog (bU Zv):=
 okC (A:=⟨[qY zK,zw zf,DJ mo,qL zO,TU Qm],[],[],1,[],[(11,⟨[],⟨[],[(0, .row 133),(1, .row 44)]⟩,[2,3],[],[0,1],0,[],⟨[],[]⟩,[]⟩)],[]⟩) (exS:=⟨[.optr 1],[(0, .row 133),(1, .row 44)]⟩) Tryz.f147 (memC Q3 (memC zx (memC FT (memC QP (memC zgg zJ))))) (by kernel_rfl) (by kernel_rfl) fun x=>by kernel_rfl
theorem mJ:zn Tryz.prog (Qv strings_IndexByte):=
 okC (A:=⟨[aP Dw],[],[],0,[],[],[]⟩) (exS:=⟨[.int .i64],[]⟩) Tryz.f119 (memC M5 zJ) (by kernel_rfl) (by kernel_rfl) fun x=>by kernel_rfl
theorem zfq:zn Tryz.prog (LU Z7):=
 okC (A:=⟨[zw zf,Ut qa,qL zO,XU qd,UJ Wt,Zr zt,nJ zC,qY zK,YU Zo,jU ZA,ZL strings_HasPrefix,bU Zv,Qv strings_IndexByte],[],[],1,[],[],[]⟩) (exS:=⟨[.optr 1],[(0, .row 133),(1, .row 44)]⟩) Tryz.f101 (memC zx (memC Sy (memC QP (memC zev (memC nT (memC ZC (memC aU (memC Q3 (memC zeu (memC zdW (memC qc (memC zeP (memC mJ zJ))))))))))))) (by kernel_rfl) (by kernel_rfl) fun x=>by kernel_rfl
theorem zgT:zn Tryz.prog (GU QG):=
 okC (A:=⟨[],[(1,[2])],[],2,[],[],[]⟩) (exS:=⟨[],[(0, .cells 22 [.own 2]),(2, .sl 44)]⟩) Tryz.f70 zJ (by kernel_rfl) (by kernel_rfl) fun x=>by kernel_rfl
theorem zlH:zn Tryz.prog (XT Py):=
 okC (A:=⟨[lN Tk,fU Zd,LU Z7,GU QG],[],[],1,[(7,⟨[7],⟨[.int .i64],[(0, .cells 22 [.own 1107]),(1107, .sl 44),(1, .row 133)]⟩,[0,1,6],[],[0,1],0,[],⟨[],[(0, .cells 22 [.own 1107]),(1107, .sl 44),(1, .row 133)]⟩,[0,1,1107]⟩)],[],[]⟩) (exS:=⟨[.int .i64],[(0, .cells 22 [.own 1]),(1, .sl 44)]⟩) Tryz.f69 (memC pY (memC zdz (memC zfq (memC zgT zJ)))) (by kernel_rfl) (by kernel_rfl) fun x=>by kernel_rfl
theorem mD:zn Tryz.prog (Xy ZH):=
 okC (A:=⟨[XT Py],[],[],0,[],[],[]⟩) (exS:=⟨[.sl 44, .int .i64],[]⟩) Tryz.f33 (memC zlH zJ) (by kernel_rfl) (by kernel_rfl) fun x=>by kernel_rfl
theorem Uy:zn Tryz.prog (Q9 Z8):=
 okC (A:=⟨[],[],[],0,[],[(7,⟨[6],⟨[.bool],[]⟩,[0],[],[],0,[],⟨[],[]⟩,[]⟩)],[]⟩) (exS:=⟨[.int .u8],[]⟩) Tryz.f61 zJ (by kernel_rfl) (by kernel_rfl) fun x=>by kernel_rfl
theorem E8(QD:List zg×Int->Option zH)(hs:zn Tryz.prog (Nt QD)):zn Tryz.prog (Nt (KD QD)):=
 okC (A:=⟨[Q9 Z8,Nt QD],[],[],0,[(3,⟨[12],⟨[.int .i64],[(1, .row 101)]⟩,[1,4,5,10,11],[0],[1],0,[],⟨[],[(1, .row 101)]⟩,[1]⟩)],[(9,⟨[],⟨[],[(1, .row 101)]⟩,[7,8,12],[2],[1],0,[],⟨[],[]⟩,[]⟩),(12,⟨[12],⟨[.int .i64],[(1, .row 101)]⟩,[],[],[1],0,[],⟨[],[]⟩,[]⟩)],[]⟩) (exS:=⟨[.optr 0],[(0, .row 101)]⟩) Tryz.f65 (memC Uy (memC hs zJ)) (by kernel_rfl) (by kernel_rfl) fun x=>by kernel_rfl
theorem MR:zn Tryz.prog (Nt QD):=
 zn.recE (I:=I) (P:=Tryz.prog) (f:=65) (inS:=⟨[.sl 49, .int .u8],[]⟩) (cst:=[]) (outS:=⟨[.val 101],[]⟩) (k:=0) (KD) (by kernel_rfl) (fun S h=>E8 S h)
theorem jS:zn Tryz.prog (GJ Uo):=
 okC (A:=⟨[Nt QD],[],[],0,[],[],[]⟩) (exS:=⟨[.int .i64],[]⟩) Tryz.f32 (memC MR zJ) (by kernel_rfl) (by kernel_rfl) fun x=>by kernel_rfl
theorem zmP(qU:List zg×List zb->Option (List zb))(hs:zn Tryz.prog (ky qU)):zn Tryz.prog (ky (gD qU)):=
 okC (A:=⟨[Q9 Z8,ky qU],[(4,[3]),(7,[6])],[],1,[(2,⟨[0,10],⟨[.own 1108, .int .i64],[(1108, .sl 44)]⟩,[4,8,9],[],[],0,[0],⟨[.own 1108],[(1108, .sl 44)]⟩,[1108]⟩)],[(8,⟨[0,10],⟨[.own 1210, .int .i64],[(1210, .sl 44)]⟩,[],[],[],0,[],⟨[],[]⟩,[]⟩)],[]⟩) (exS:=⟨[.own 1],[(1, .sl 44)]⟩) Tryz.f63 (memC Uy (memC hs zJ)) (by kernel_rfl) (by kernel_rfl) fun x=>by kernel_rfl
theorem zmG:zn Tryz.prog (ky qU):=
 zn.recE (I:=I) (P:=Tryz.prog) (f:=63) (inS:=⟨[.own 0, .sl 49],[(0, .sl 44)]⟩) (cst:=[]) (outS:=⟨[.own 1],[(1, .sl 44)]⟩) (k:=1) (gD) (by kernel_rfl) (fun S h=>zmP S h)
theorem zmF:zn Tryz.prog (zn1 Pt):=
 okC (A:=⟨[Q9 Z8,ky qU],[(4,[3]),(7,[6])],[],0,[(2,⟨[0,10],⟨[.own 1212, .int .i64],[(1212, .sl 44)]⟩,[4,8,9],[],[],0,[0],⟨[.own 1212],[(1212, .sl 44)]⟩,[1212]⟩)],[(8,⟨[0,10],⟨[.own 1314, .int .i64],[(1314, .sl 44)]⟩,[],[],[],0,[],⟨[],[]⟩,[]⟩)],[]⟩) (exS:=⟨[.own 0],[(0, .sl 44)]⟩) Tryz.f63 (memC Uy (memC zmG zJ)) (by kernel_rfl) (by kernel_rfl) fun x=>by kernel_rfl
theorem zlB:zn Tryz.prog (fT Pt):=M4 ipOK (by kernel_rfl) zmF
theorem zdy:zn Tryz.prog (gU stringslite_TrimPrefix):=
 okC (A:=⟨[Qw stringslite_HasPrefix],[],[],0,[],[],[]⟩) (exS:=⟨[.str],[]⟩) Tryz.f197 (memC eU zJ) (by kernel_rfl) (by kernel_rfl) fun x=>by kernel_rfl
theorem zfo:zn Tryz.prog (MU strings_TrimPrefix):=
 okC (A:=⟨[gU stringslite_TrimPrefix],[],[],0,[],[],[]⟩) (exS:=⟨[.str],[]⟩) Tryz.f162 (memC zdy zJ) (by kernel_rfl) (by kernel_rfl) fun x=>by kernel_rfl
theorem fD:zn Tryz.prog (Oy qw):=
 okC (A:=⟨[],[],[],0,[],[],[]⟩) (exS:=⟨[.bool],[]⟩) Tryz.f155 zJ (by kernel_rfl) (by kernel_rfl) fun x=>by kernel_rfl
theorem vT:zn Tryz.prog (YJ QW):=
 okC (A:=⟨[MU strings_TrimPrefix,Oy qw],[],[],0,[],[],[]⟩) (exS:=⟨[.bool],[]⟩) Tryz.f122 (memC zfo (memC fD zJ)) (by kernel_rfl) (by kernel_rfl) fun x=>by kernel_rfl
theorem KT:zn Tryz.prog (EJ Mt):=
 okC (A:=⟨[],[],[],0,[],[],[]⟩) (exS:=⟨[.bool],[]⟩) Tryz.f157 zJ (by kernel_rfl) (by kernel_rfl) fun x=>by kernel_rfl
theorem lS:zn Tryz.prog (JJ Wm):=
 okC (A:=⟨[EJ Mt,Oy qw],[],[],0,[],[],[]⟩) (exS:=⟨[.bool],[]⟩) Tryz.f153 (memC KT (memC fD zJ)) (by kernel_rfl) (by kernel_rfl) fun x=>by kernel_rfl
theorem zgS:zn Tryz.prog (IU strings_Contains):=
 okC (A:=⟨[xG Xk],[],[],0,[],[],[]⟩) (exS:=⟨[.bool],[]⟩) Tryz.f154 (memC tO zJ) (by kernel_rfl) (by kernel_rfl) fun x=>by kernel_rfl
theorem N9:zn Tryz.prog (GR Fx):=
 okC (A:=⟨[Qv strings_IndexByte,YJ QW,ZL strings_HasPrefix,JJ Wm,IU strings_Contains],[],[],0,[],[(8,⟨[3,4,5,6,7,25],⟨[.bool, .bool, .bool, .bool, .bool, .bool],[]⟩,[1,16],[],[],0,[],⟨[],[]⟩,[]⟩),(14,⟨[3,4,5,6,7,63],⟨[.bool, .bool, .bool, .bool, .bool, .bool],[]⟩,[],[],[],0,[],⟨[],[]⟩,[]⟩),(22,⟨[4,5,6,7,94],⟨[.bool, .bool, .bool, .bool, .bool],[]⟩,[3],[],[],0,[],⟨[],[]⟩,[]⟩),(24,⟨[3,4,5,6,7],⟨[.bool, .bool, .bool, .bool, .bool],[]⟩,[1],[0],[],0,[],⟨[],[]⟩,[]⟩)],[]⟩) (exS:=⟨[.bool],[]⟩) Tryz.f115 (memC mJ (memC vT (memC qc (memC lS (memC zgS zJ))))) (by kernel_rfl) (by kernel_rfl) fun x=>by kernel_rfl
theorem zlA:zn Tryz.prog (gT ZG):=
 okC (A:=⟨[],[],[],1,[],[],[]⟩) (exS:=⟨[.bool],[]⟩) Tryz.f116 zJ (by kernel_rfl) (by kernel_rfl) fun x=>by kernel_rfl
theorem kS:zn Tryz.prog (IJ QK):=
 okC (A:=⟨[gT ZG,DJ mo],[],[],0,[],[(11,⟨[5],⟨[.int .i64],[]⟩,[3],[0],[],0,[],⟨[],[]⟩,[]⟩)],[]⟩) (exS:=⟨[.int .i64],[]⟩) Tryz.f80 (memC zlA (memC FT zJ)) (by kernel_rfl) (by kernel_rfl) fun x=>by kernel_rfl
theorem zoG:zn Tryz.prog (uR Ux):=
 okC (A:=⟨[GR Fx,IJ QK],[],[],0,[(4,⟨[10],⟨[.int .i64],[]⟩,[0,8,9],[],[],0,[],⟨[],[]⟩,[]⟩)],[],[]⟩) (exS:=⟨[.int .i64],[]⟩) Tryz.f79 (memC N9 (memC kS zJ)) (by kernel_rfl) (by kernel_rfl) fun x=>by kernel_rfl
theorem zoI:zn Tryz.prog (pR Gl):=
 okC (A:=⟨[ZL strings_HasPrefix],[],[],0,[],[],[]⟩) (exS:=⟨[.int .i64],[]⟩) Tryz.f118 (memC qc zJ) (by kernel_rfl) (by kernel_rfl) fun x=>by kernel_rfl
theorem CU:zn Tryz.prog (iJ ZU):=
 okC (A:=⟨[Oy qw,EJ Mt,UQ Ho],[(2,[2]),(3,[1]),(5,[1])],[],1,[],[],[]⟩) (exS:=⟨[.own 1],[(1, .sl 5)]⟩) Tryz.f120 (memC fD (memC KT (memC D7 zJ))) (by kernel_rfl) (by kernel_rfl) fun x=>by kernel_rfl
theorem zmA:zn Tryz.prog (aS qy):=
 okC (A:=⟨[JJ Wm,Oy qw,iJ ZU],[(6,[2])],[],1,[(2,⟨[0,11],⟨[.own 1420, .int .i64],[(1420, .sl 5)]⟩,[1,2,6,10],[],[],0,[0],⟨[.own 1420],[(1420, .sl 5)]⟩,[1420]⟩)],[(8,⟨[0,11],⟨[.own 1522, .int .i64],[(1522, .sl 5)]⟩,[],[],[],0,[],⟨[],[]⟩,[]⟩)],[]⟩) (exS:=⟨[.own 1],[(1, .sl 5)]⟩) Tryz.f117 (memC lS (memC fD (memC CU zJ))) (by kernel_rfl) (by kernel_rfl) fun x=>by kernel_rfl
theorem zoJ:zn Tryz.prog (nR Tx):=
 okC (A:=⟨[],[],[],0,[],[],[]⟩) (exS:=⟨[.optr 0],[(0, .row 149)]⟩) Tryz.f123 zJ (by kernel_rfl) (by kernel_rfl) fun x=>by kernel_rfl
theorem zjK:zn Tryz.prog (BU Qz):=
 okC (A:=⟨[VQ Io,bP bn,jN ol],[(2,[1]),(6,[1])],[],1,[],[(3,⟨[0,1],⟨[.own 2044, .int .i64],[(2044, .sl 5)]⟩,[2],[],[],0,[],⟨[],[]⟩,[]⟩),(9,⟨[0],⟨[.own 2147],[(2147, .sl 5)]⟩,[],[],[],0,[],⟨[],[]⟩,[]⟩)],[]⟩) (exS:=⟨[.own 1],[(1, .sl 5)]⟩) Tryz.f121 (memC F7 (memC O5 (memC mY zJ))) (by kernel_rfl) (by kernel_rfl) fun x=>by kernel_rfl
theorem zmB:zn Tryz.prog (YS Lt):=
 okC (A:=⟨[pR Gl,aS qy,Qv strings_IndexByte,iJ ZU,BU Qz,YJ QW,ZL strings_HasPrefix,nR Tx],[(5,[7]),(7,[1]),(12,[1]),(14,[1]),(20,[2]),(22,[1]),(30,[2]),(32,[1]),(38,[4])],[],1,[(16,⟨[0,67],⟨[.own 1837, .int .i64],[(1837, .sl 5)]⟩,[3,4,65,66],[1,4],[],1,[0],⟨[.own 1837],[(1837, .sl 5)]⟩,[1837]⟩),(26,⟨[0,93],⟨[.own 1941, .int .i64],[(1941, .sl 5)]⟩,[3,4,91,92],[1,3],[],3,[0],⟨[.own 1941],[(1941, .sl 5)]⟩,[1941]⟩)],[(12,⟨[5],⟨[.int .i64],[(0, .sl 5)]⟩,[0,3],[1],[0],0,[],⟨[],[]⟩,[]⟩),(21,⟨[0,67],⟨[.own 1939, .int .i64],[(1939, .sl 5)]⟩,[],[],[],0,[],⟨[],[]⟩,[]⟩),(31,⟨[0,93],⟨[.own 2043, .int .i64],[(2043, .sl 5)]⟩,[],[],[],0,[],⟨[],[]⟩,[]⟩)],[]⟩) (exS:=⟨[.own 1],[(1, .sl 5)]⟩) Tryz.f81 (memC zoI (memC zmA (memC mJ (memC CU (memC zjK (memC vT (memC qc (memC zoJ zJ)))))))) (by kernel_rfl) (by kernel_rfl) fun x=>by kernel_rfl
theorem zfn:zn Tryz.prog (NU Z6):=
 okC (A:=⟨[],[],[],0,[(4,⟨[13],⟨[.int .i64],[]⟩,[0,1,12],[],[],0,[],⟨[],[]⟩,[]⟩)],[],[]⟩) (exS:=⟨[.bool],[]⟩) Tryz.f82 zJ (by kernel_rfl) (by kernel_rfl) fun x=>by kernel_rfl
theorem zoH:zn Tryz.prog (rR Vs):=
 okC (A:=⟨[uR Ux,IJ QK,YS Lt,Xy ZH,NU Z6],[(24,[5])],[],0,[(7,⟨[5,6,7],⟨[.own 2254, .own 2255, .int .i64],[(2254, .sl 5),(2255, .sl 119)]⟩,[0],[],[],0,[5],⟨[.own 2254],[(2254, .sl 5)]⟩,[2254]⟩),(11,⟨[9,36],⟨[.own 1835, .int .i64],[(1835, .sl 5)]⟩,[5,6,7,8,34,35],[2254,2255],[],2,[9],⟨[.own 1835],[(1835, .sl 5)]⟩,[1835]⟩)],[(17,⟨[5,6,7,9],⟨[.own 2254, .own 2255, .int .i64, .own 2357],[(2254, .sl 5),(2255, .sl 119),(2357, .sl 5)]⟩,[8],[],[2254,2255],0,[],⟨[],[]⟩,[]⟩),(21,⟨[5,6,7],⟨[.own 2254, .own 2255, .int .i64],[(2254, .sl 5),(2255, .sl 119),(2358, .row 119)]⟩,[9,12],[2357],[2254,2255,2358],0,[],⟨[],[]⟩,[]⟩),(24,⟨[5,6,7],⟨[.own 2462, .own 2255, .int .i64],[(2255, .sl 119),(2462, .sl 5)]⟩,[],[2358],[2255],0,[],⟨[],[]⟩,[]⟩)],[]⟩) (exS:=⟨[.str, .int .i64],[]⟩) Tryz.f46 (memC zoG (memC kS (memC zmB (memC mD (memC zfn zJ))))) (by kernel_rfl) (by kernel_rfl) fun x=>by kernel_rfl
theorem NR:zn Tryz.prog (mI Rm):=
 okC (A:=⟨[GJ Uo,fT Pt,rR Vs],[],[],0,[],[],[]⟩) (exS:=⟨[.str, .int .i64],[]⟩) Tryz.f20 (memC jS (memC zlB (memC zoH zJ))) (by kernel_rfl) (by kernel_rfl) fun x=>by kernel_rfl
theorem zoK:zn Tryz.prog (mR Us):=
 okC (A:=⟨[GJ Uo,Nt QD],[],[],0,[],[],[]⟩) (exS:=⟨[.int .i64, .int .i64],[]⟩) Tryz.f26 (memC jS (memC MR zJ)) (by kernel_rfl) (by kernel_rfl) fun x=>by kernel_rfl
theorem zmE:zn Tryz.prog (SS LD):=
 okC (A:=⟨[Xy ZH,bB parseF,mI Rm,mR Us],[],[],0,[],[],[]⟩) (exS:=⟨[.str, .int .i64, .bool],[]⟩) Tryz.f31 (memC mD (memC WH (memC NR (memC zoK zJ)))) (by kernel_rfl) (by kernel_rfl) fun x=>by kernel_rfl
theorem zmD:zn Tryz.prog (VS QZ):=
 okC (A:=⟨[SS LD,Xy ZH,bB parseF],[],[],0,[],[],[]⟩) (exS:=⟨[.bool],[]⟩) Tryz.f24 (memC zmE (memC mD (memC WH zJ))) (by kernel_rfl) (by kernel_rfl) fun x=>by kernel_rfl
theorem V9(QO:List zg×List zg->Option Bool)(hs:zn Tryz.prog (Ny QO)):zn Tryz.prog (Ny (VD QO)):=
 okC (A:=⟨[Ny QO],[],[],0,[(4,⟨[5],⟨[.int .i64],[]⟩,[0,1],[],[],0,[],⟨[],[]⟩,[]⟩)],[],[]⟩) (exS:=⟨[.bool],[]⟩) Tryz.f22 (memC hs zJ) (by kernel_rfl) (by kernel_rfl) fun x=>by kernel_rfl
theorem zoQ:zn Tryz.prog (Ny QO):=
 zn.recE (I:=I) (P:=Tryz.prog) (f:=22) (inS:=⟨[.sl 49, .sl 49],[]⟩) (cst:=[]) (outS:=⟨[.bool],[]⟩) (k:=0) (VD) (by kernel_rfl) (fun S h=>V9 S h)
theorem zmL:zn Tryz.prog (JS Q8):=
 okC (A:=⟨[],[],[],0,[(2,⟨[3],⟨[.int .i64],[]⟩,[0],[],[],0,[],⟨[],[]⟩,[]⟩)],[],[]⟩) (exS:=⟨[.bool],[]⟩) Tryz.f102 zJ (by kernel_rfl) (by kernel_rfl) fun x=>by kernel_rfl
theorem qW:zn Tryz.prog (qK zT):=
 okC (A:=⟨[],[],[],0,[],[],[]⟩) (exS:=⟨[.bool],[]⟩) Tryz.f148 zJ (by kernel_rfl) (by kernel_rfl) fun x=>by kernel_rfl
theorem zoO:zn Tryz.prog (dR yx):=
 okC (A:=⟨[qK zT],[],[],0,[],[],[]⟩) (exS:=⟨[.bool],[]⟩) Tryz.f103 (memC qW zJ) (by kernel_rfl) (by kernel_rfl) fun x=>by kernel_rfl
theorem sD:zn Tryz.prog (jy qD):=
 okC (A:=⟨[],[],[],0,[],[],[]⟩) (exS:=⟨[.bool],[]⟩) Tryz.f178 zJ (by kernel_rfl) (by kernel_rfl) fun x=>by kernel_rfl
theorem qV:zn Tryz.prog (Qb zQ):=
 okC (A:=⟨[],[],[],0,[],[],[]⟩) (exS:=⟨[.int .u8],[]⟩) Tryz.f217 zJ (by kernel_rfl) (by kernel_rfl) fun x=>by kernel_rfl
theorem dJ:zn Tryz.prog (xD qo):=
 okC (A:=⟨[Qb zQ,jy qD],[],[],0,[(1,⟨[1],⟨[.int .i64],[]⟩,[0,4],[],[],0,[1],⟨[.int .i64],[]⟩,[]⟩)],[],[]⟩) (exS:=⟨[.int .i64],[]⟩) Tryz.f179 (memC qV (memC sD zJ)) (by kernel_rfl) (by kernel_rfl) fun x=>by kernel_rfl
theorem bS:zn Tryz.prog (FJ Wo):=
 okC (A:=⟨[],[(1,[0])],[],0,[],[],[]⟩) (exS:=⟨[.str],[]⟩) Tryz.f244 zJ (by kernel_rfl) (by kernel_rfl) fun x=>by kernel_rfl
theorem OJ:zn Tryz.prog (jD qC):=
 okC (A:=⟨[],[],[],0,[],[],[]⟩) (exS:=⟨[.int .u8],[]⟩) Tryz.f150 zJ (by kernel_rfl) (by kernel_rfl) fun x=>by kernel_rfl
theorem L9:zn Tryz.prog (ER Mo):=
 okC (A:=⟨[qK zT,jD qC],[],[],0,[],[],[]⟩) (exS:=⟨[.int .i64],[]⟩) Tryz.f245 (memC qW (memC OJ zJ)) (by kernel_rfl) (by kernel_rfl) fun x=>by kernel_rfl
theorem zoL:zn Tryz.prog (kR Mx):=
 okC (A:=⟨[FJ Wo],[(4,[2]),(6,[8]),(8,[13]),(9,[18])],[],0,[],[],[]⟩) (exS:=⟨[.str],[]⟩) Tryz.f246 (memC bS zJ) (by kernel_rfl) (by kernel_rfl) fun x=>by kernel_rfl
theorem yD:zn Tryz.prog (QQ ZE):=
 okC (A:=⟨[FJ Wo,ER Mo,Qb zQ,jy qD,kR Mx],[],[],0,[(7,⟨[6,7],⟨[.int .i64, .int .i64],[]⟩,[0,1,4,5],[],[],0,[6,7],⟨[.int .i64, .int .i64],[]⟩,[]⟩)],[(12,⟨[7],⟨[.int .i64],[]⟩,[6],[],[],0,[],⟨[],[]⟩,[]⟩)],[]⟩) (exS:=⟨[.str, .int .i64],[]⟩) Tryz.f218 (memC bS (memC L9 (memC qV (memC sD (memC zoL zJ))))) (by kernel_rfl) (by kernel_rfl) fun x=>by kernel_rfl
theorem zlE:zn Tryz.prog (bT Jy):=
 okC (A:=⟨[QQ ZE],[],[],0,[(4,⟨[1],⟨[.int .i64],[(0, .row 44),(1, .row 44)]⟩,[0,4,6,7],[],[0,1],0,[1],⟨[.int .i64],[(0, .row 44),(1, .row 44)]⟩,[0,1]⟩)],[],[]⟩) (exS:=⟨[.optr 0, .int .i64],[(0, .row 44)]⟩) Tryz.f180 (memC yD zJ) (by kernel_rfl) (by kernel_rfl) fun x=>by kernel_rfl
theorem rT:zn Tryz.prog (VJ Qr):=
 okC (A:=⟨[jD qC],[],[],0,[],[],[]⟩) (exS:=⟨[.bool],[]⟩) Tryz.f198 (memC OJ zJ) (by kernel_rfl) (by kernel_rfl) fun x=>by kernel_rfl
theorem uT:zn Tryz.prog (XJ Q5):=
 okC (A:=⟨[VJ Qr,qK zT],[],[],0,[],[],[]⟩) (exS:=⟨[.bool],[]⟩) Tryz.f163 (memC rT (memC qW zJ)) (by kernel_rfl) (by kernel_rfl) fun x=>by kernel_rfl
theorem Q0:zn Tryz.prog (QJ Zp):=
 okC (A:=⟨[Qb zQ],[],[],0,[],[],[]⟩) (exS:=⟨[.bool],[]⟩) Tryz.f181 (memC qV zJ) (by kernel_rfl) (by kernel_rfl) fun x=>by kernel_rfl
theorem NJ:zn Tryz.prog (iD qX):=
 okC (A:=⟨[XJ Q5,QJ Zp,QQ ZE],[],[],0,[(2,⟨[1,6],⟨[.int .i64, .str],[]⟩,[0],[],[],0,[],⟨[],[]⟩,[]⟩)],[],[]⟩) (exS:=⟨[.str, .int .i64],[]⟩) Tryz.f182 (memC uT (memC Q0 (memC yD zJ))) (by kernel_rfl) (by kernel_rfl) fun x=>by kernel_rfl
theorem tT:zn Tryz.prog (WJ qP):=
 okC (A:=⟨[Qb zQ,VJ Qr,QJ Zp],[],[],0,[],[],[]⟩) (exS:=⟨[.bool],[]⟩) Tryz.f183 (memC qV (memC rT (memC Q0 zJ))) (by kernel_rfl) (by kernel_rfl) fun x=>by kernel_rfl
theorem ziK:zn Tryz.prog (DU iy):=
 okC (A:=⟨[Qb zQ,qK zT],[],[],0,[],[(4,⟨[1],⟨[.int .i64],[]⟩,[0],[],[],0,[],⟨[],[]⟩,[]⟩),(6,⟨[1],⟨[.int .i64],[]⟩,[],[],[],0,[],⟨[],[]⟩,[]⟩)],[]⟩) (exS:=⟨[.bool],[]⟩) Tryz.f184 (memC qV (memC qW zJ)) (by kernel_rfl) (by kernel_rfl) fun x=>by kernel_rfl
theorem zlD:zn Tryz.prog (eT Q7):=
 okC (A:=⟨[Qb zQ,qK zT],[],[],0,[(1,⟨[1],⟨[.int .i64],[]⟩,[0,4],[],[],0,[1],⟨[.int .i64],[]⟩,[]⟩)],[],[]⟩) (exS:=⟨[.int .i64],[]⟩) Tryz.f247 (memC qV (memC qW zJ)) (by kernel_rfl) (by kernel_rfl) fun x=>by kernel_rfl
theorem zhY:zn Tryz.prog (JU Q6):=
 okC (A:=⟨[Qb zQ,eT Q7,qK zT],[],[],0,[],[(4,⟨[1],⟨[.int .i64],[]⟩,[0],[],[],0,[],⟨[],[]⟩,[]⟩),(9,⟨[1,7],⟨[.int .i64, .bool],[]⟩,[],[],[],0,[],⟨[],[]⟩,[]⟩),(15,⟨[1,7,9],⟨[.int .i64, .bool, .int .i64],[]⟩,[],[],[],0,[],⟨[],[]⟩,[]⟩),(18,⟨[1,7],⟨[.int .i64, .bool],[]⟩,[],[],[],0,[],⟨[],[]⟩,[]⟩)],[]⟩) (exS:=⟨[.int .i64, .bool],[]⟩) Tryz.f219 (memC qV (memC zlD (memC qW zJ))) (by kernel_rfl) (by kernel_rfl) fun x=>by kernel_rfl
theorem zgd:zn Tryz.prog (WU Qj):=
 okC (A:=⟨[Qb zQ,qK zT],[],[],0,[(5,⟨[3,5],⟨[.str, .int .i64],[]⟩,[4],[],[],0,[3,5],⟨[.str, .int .i64],[]⟩,[]⟩),(10,⟨[3,4,5],⟨[.str, .int .i64, .int .i64],[]⟩,[],[],[],2,[3,4,5],⟨[.str, .int .i64, .int .i64],[]⟩,[]⟩),(20,⟨[5,8],⟨[.int .i64, .int .i64],[]⟩,[4],[],[],4,[8],⟨[.int .i64],[]⟩,[]⟩),(28,⟨[9,10],⟨[.int .i64, .int .i64],[]⟩,[4],[],[],6,[9],⟨[.int .i64],[]⟩,[]⟩),(31,⟨[4,9],⟨[.int .i64, .int .i64],[]⟩,[],[],[],8,[9],⟨[.int .i64],[]⟩,[]⟩)],[(5,⟨[3,4,5],⟨[.str, .int .i64, .int .i64],[]⟩,[0,6],[],[],0,[],⟨[],[]⟩,[]⟩),(14,⟨[3,4,5],⟨[.str, .int .i64, .int .i64],[]⟩,[],[],[],0,[],⟨[],[]⟩,[]⟩),(19,⟨[4,5],⟨[.int .i64, .int .i64],[]⟩,[3,7],[],[],0,[],⟨[],[]⟩,[]⟩),(25,⟨[4,8],⟨[.int .i64, .int .i64],[]⟩,[],[],[],0,[],⟨[],[]⟩,[]⟩),(26,⟨[4],⟨[.int .i64],[]⟩,[3],[],[],0,[],⟨[],[]⟩,[]⟩)],[]⟩) (exS:=⟨[.int .i64],[]⟩) Tryz.f220 (memC qV (memC qW zJ)) (by kernel_rfl) (by kernel_rfl) fun x=>by kernel_rfl
theorem zjL:zn Tryz.prog (FU Gy):=
 okC (A:=⟨[JU Q6,WU Qj,WJ qP,iD qX,Qb zQ],[],[],0,[],[(9,⟨[6],⟨[.int .i64],[(0, .row 44),(1, .row 44)]⟩,[4,8],[],[0,1],0,[],⟨[],[]⟩,[]⟩)],[]⟩) (exS:=⟨[.optr 0, .int .i64],[(0, .row 44)]⟩) Tryz.f185 (memC zhY (memC zgd (memC tT (memC NJ (memC qV zJ))))) (by kernel_rfl) (by kernel_rfl) fun x=>by kernel_rfl
theorem I9:zn Tryz.prog (BR Ps):=
 okC (A:=⟨[],[],[],0,[],[],[]⟩) (exS:=⟨[.bool],[]⟩) Tryz.f186 zJ (by kernel_rfl) (by kernel_rfl) fun x=>by kernel_rfl
theorem zmH:zn Tryz.prog (RS Q4):=
 okC (A:=⟨[jD qC],[],[],0,[(3,⟨[4],⟨[.int .i64],[(0, .sl 5)]⟩,[2,3],[],[0],0,[],⟨[],[(0, .sl 5)]⟩,[0]⟩)],[],[]⟩) (exS:=⟨[.str],[]⟩) Tryz.f105 (memC OJ zJ) (by kernel_rfl) (by kernel_rfl) fun x=>by kernel_rfl
theorem DT:zn Tryz.prog (CJ qB):=
 okC (A:=⟨[RS Q4],[],[],0,[],[],[]⟩) (exS:=⟨[.bool],[]⟩) Tryz.f72 (memC zmH zJ) (by kernel_rfl) (by kernel_rfl) fun x=>by kernel_rfl
theorem J9:zn Tryz.prog (CR Rs):=
 okC (A:=⟨[QJ Zp,QQ ZE],[],[],0,[(1,⟨[1],⟨[.int .i64],[]⟩,[0,4,5],[0],[],0,[1],⟨[.int .i64],[]⟩,[]⟩)],[],[]⟩) (exS:=⟨[.optr 0, .int .i64],[(0, .row 44)]⟩) Tryz.f248 (memC Q0 (memC yD zJ)) (by kernel_rfl) (by kernel_rfl) fun x=>by kernel_rfl
theorem zge:zn Tryz.prog (VU Qk):=
 okC (A:=⟨[],[],[],0,[],[],[]⟩) (exS:=⟨[.bool],[]⟩) Tryz.f249 zJ (by kernel_rfl) (by kernel_rfl) fun x=>by kernel_rfl
theorem H9:zn Tryz.prog (AR lw):=
 okC (A:=⟨[xD qo,jy qD,CR Rs,VU Qk,QJ Zp,QQ ZE],[],[],0,[(3,⟨[1],⟨[.int .i64],[(0, .row 44),(1, .row 44)]⟩,[0,4,6],[],[0,1],0,[1],⟨[.int .i64],[(0, .row 44),(1, .row 44)]⟩,[0,1]⟩)],[],[]⟩) (exS:=⟨[.optr 0, .int .i64],[(0, .row 44)]⟩) Tryz.f221 (memC dJ (memC sD (memC J9 (memC zge (memC Q0 (memC yD zJ)))))) (by kernel_rfl) (by kernel_rfl) fun x=>by kernel_rfl
theorem zoN:zn Tryz.prog (iR Ay):=
 okC (A:=⟨[iD qX,Qb zQ,CJ qB,xD qo,AR lw],[],[],0,[],[(8,⟨[],⟨[],[(0, .row 44)]⟩,[4,6,7],[],[0],0,[],⟨[],[]⟩,[]⟩)],[]⟩) (exS:=⟨[.optr 0, .int .i64],[(0, .row 44)]⟩) Tryz.f187 (memC NJ (memC qV (memC DT (memC dJ (memC H9 zJ))))) (by kernel_rfl) (by kernel_rfl) fun x=>by kernel_rfl
theorem zoM:zn Tryz.prog (jR Dt):=
 okC (A:=⟨[],[],[],0,[],[],[]⟩) (exS:=⟨[.int .u8],[]⟩) Tryz.f188 zJ (by kernel_rfl) (by kernel_rfl) fun x=>by kernel_rfl
theorem K9:zn Tryz.prog (DR ow):=
 okC (A:=⟨[jy qD,xD qo,bT Jy,XJ Q5,QJ Zp,iD qX,WJ qP,DU iy,FU Gy,BR Ps,iR Ay,jR Dt],[],[],0,[],[],[]⟩) (exS:=⟨[.optr 0, .int .i64],[(0, .row 44)]⟩) Tryz.f149 (memC sD (memC dJ (memC zlE (memC uT (memC Q0 (memC NJ (memC tT (memC ziK (memC zjL (memC I9 (memC zoN (memC zoM zJ)))))))))))) (by kernel_rfl) (by kernel_rfl) fun x=>by kernel_rfl
theorem zmJ:zn Tryz.prog (MS qE):=
 okC (A:=⟨[DR ow],[(1,[1])],[],0,[],[],[]⟩) (exS:=⟨[.bool],[]⟩) Tryz.f104 (memC K9 zJ) (by kernel_rfl) (by kernel_rfl) fun x=>by kernel_rfl
theorem zoP:zn Tryz.prog (bR dx):=
 okC (A:=⟨[JS Q8,dR yx,MS qE],[],[],0,[],[(6,⟨[8],⟨[.bool],[(1, .row 44)]⟩,[1,3,7],[0],[1],0,[],⟨[],[]⟩,[]⟩),(13,⟨[56],⟨[.bool],[(1, .row 44)]⟩,[],[],[1],0,[],⟨[],[]⟩,[]⟩),(21,⟨[90],⟨[.bool],[(1, .row 44)]⟩,[],[],[1],0,[],⟨[],[]⟩,[]⟩),(26,⟨[148],⟨[.bool],[]⟩,[],[1],[],0,[],⟨[],[]⟩,[]⟩)],[]⟩) (exS:=⟨[.bool],[]⟩) Tryz.f71 (memC zmL (memC zoO (memC zmJ zJ))) (by kernel_rfl) (by kernel_rfl) fun x=>by kernel_rfl
theorem zmI:zn Tryz.prog (NS Ot):=
 okC (A:=⟨[bR dx,CJ qB],[],[],0,[(4,⟨[3],⟨[.int .i64],[]⟩,[0],[],[],0,[],⟨[],[]⟩,[]⟩)],[(12,⟨[4],⟨[.int .i64],[]⟩,[3],[],[],0,[],⟨[],[]⟩,[]⟩),(14,⟨[],⟨[],[]⟩,[3],[],[],0,[],⟨[],[]⟩,[]⟩)],[]⟩) (exS:=⟨[.int .i64],[]⟩) Tryz.f35 (memC zoP (memC DT zJ)) (by kernel_rfl) (by kernel_rfl) fun x=>by kernel_rfl
theorem zmK:zn Tryz.prog (KS Fy):=
 okC (A:=⟨[],[],[],0,[(5,⟨[3,4],⟨[.int .i64, .int .i64],[]⟩,[0],[],[],0,[],⟨[],[]⟩,[]⟩)],[],[]⟩) (exS:=⟨[.bool],[]⟩) Tryz.f34 zJ (by kernel_rfl) (by kernel_rfl) fun x=>by kernel_rfl
theorem zhW:zn Tryz.prog (KU FE):=
 okC (A:=⟨[VS QZ,Xy ZH,bB parseF,KS Fy,Yy qp,NS Ot,mI Rm,Ny QO],[],[],0,[],[],[]⟩) (exS:=⟨[.bool],[]⟩) Tryz.f7 (memC zmD (memC mD (memC WH (memC zmK (memC zlG (memC zmI (memC NR (memC zoQ zJ)))))))) (by kernel_rfl) (by kernel_rfl) fun x=>by kernel_rfl
end Go.Lv.VT
end
