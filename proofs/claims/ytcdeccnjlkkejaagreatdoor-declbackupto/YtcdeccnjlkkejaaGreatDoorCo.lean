/- Contracts. -/
import Derived.Test.YtcdeccnjlkkejaaGreatDoorTx
import Derived.Test.YtcdeccnjlkkejaaGreatDoorIp
import Derived.Test.YtcdeccnjlkkejaaGreatDoorLf
import Derived.Test.YtcdeccnjlkkejaaGreatDoorPa
noncomputable section
set_option linter.unusedSimpArgs false
set_option linter.unusedVariables false
namespace Go.Lv.VT
set_option maxRecDepth 100000
open Go.Proofs
theorem okC{con:Con I}{A:Env0 I}{exS:StSh}(f:Go.Func)(hS: ∀c∈A.S,zk Tryz.prog c)(hf:Tryz.prog.funcs[con.f]? =some f)(h:chk con A f=true)(he: ∀x,evF2 A T FK f.ntmps (rsl f) (body f) con exS x=con.F x):zk Tryz.prog con:=
 okC0 mixed ipOK tok rfl rfl hS hf h he
def Mx(F:List zf×Int->Option Int):Con I:=⟨58,⟨[.sl 49, .int .i64],[]⟩,[],⟨[.int .i64],[]⟩,0,F⟩
def LC(F:Int->Option Int):Con I:=⟨25,⟨[.int .u8],[]⟩,[],⟨[.int .u8],[]⟩,0,F⟩
def Et(F:List zf->Option Int):Con I:=⟨59,⟨[.sl 49],[]⟩,[],⟨[.int .i64],[]⟩,0,F⟩
def TS(F:List zM->Option Bool):Con I:=⟨47,⟨[.sl 66],[]⟩,[],⟨[.bool],[]⟩,0,F⟩
def QX(F:Str×Str->Option Bool):Con I:=⟨130,⟨[.str, .str],[]⟩,[],⟨[.bool],[]⟩,0,F⟩
def Zk(F:Str×Str->Option Bool):Con I:=⟨93,⟨[.str, .str],[]⟩,[],⟨[.bool],[]⟩,0,F⟩
def nU(F:za->Option za):Con I:=⟨100,⟨[.optr 0],[(0, .row 133)]⟩,[],⟨[],[(0, .row 133)]⟩,0,F⟩
def zF(F:Int×za->Option Int):Con I:=⟨137,⟨[.optr 0, .int .i64],[(0, .row 133)]⟩,[0],⟨[.int .i64],[]⟩,0,F⟩
def Wt(F:Int->Option Bool):Con I:=⟨138,⟨[.int .i64],[]⟩,[],⟨[.bool],[]⟩,0,F⟩
def Qp(F:za->Option za):Con I:=⟨139,⟨[.optr 0, .clo 138 []],[(0, .row 133)]⟩,[],⟨[],[(0, .row 133)]⟩,0,F⟩
def yU(F:Int->Option (List UInt8)):Con I:=⟨237,⟨[.nilv, .int .i32],[]⟩,[],⟨[.own 0],[(0, .sl 5)]⟩,1,F⟩
def YU(F:Int->Option (List UInt8)):Con I:=⟨210,⟨[.nilv, .int .i32],[]⟩,[],⟨[.own 0],[(0, .sl 5)]⟩,1,F⟩
def Ey(F:Int×Int×Int->Option Bool):Con I:=⟨212,⟨[.int .i64, .int .i64, .int .i64],[]⟩,[],⟨[.bool],[]⟩,0,F⟩
def Xt(F:Int->Option Bool):Con I:=⟨174,⟨[.int .i64],[]⟩,[],⟨[.bool],[]⟩,0,F⟩
def uH(F:Int->Option Int):Con I:=⟨211,⟨[.int .i64],[]⟩,[],⟨[.int .i64],[]⟩,0,F⟩
def BV(F:za->Option (za×List UInt8)):Con I:=⟨172,⟨[.optr 0, .nilv],[(0, .row 133)]⟩,[],⟨[.own 1],[(0, .row 133),(1, .sl 5)]⟩,1,F⟩
def xU(F:Int×List UInt8->Option (List UInt8)):Con I:=⟨237,⟨[.own 0, .int .i32],[(0, .sl 5)]⟩,[],⟨[.own 1],[(1, .sl 5)]⟩,1,F⟩
def XU(F:Int×List UInt8->Option (List UInt8)):Con I:=⟨210,⟨[.own 0, .int .i32],[(0, .sl 5)]⟩,[],⟨[.own 1],[(1, .sl 5)]⟩,1,F⟩
def qp(F:za×List UInt8->Option (za×List UInt8)):Con I:=⟨172,⟨[.optr 0, .own 1],[(0, .row 133),(1, .sl 5)]⟩,[],⟨[.own 2],[(0, .row 133),(2, .sl 5)]⟩,1,F⟩
def eU(F:za->Option (ze×za)):Con I:=⟨140,⟨[.optr 0],[(0, .row 133)]⟩,[],⟨[.val 44],[(0, .row 133)]⟩,0,F⟩
def PI(F:Int->Option Bool):Con I:=⟨173,⟨[.int .i64],[]⟩,[],⟨[.bool],[]⟩,0,F⟩
def fI(F:Int->Option Bool):Con I:=⟨141,⟨[.int .i64],[]⟩,[],⟨[.bool],[]⟩,0,F⟩
def ZP(F:Int×za->Option Bool):Con I:=⟨142,⟨[.optr 0, .int .i64],[(0, .row 133)]⟩,[0],⟨[.bool],[]⟩,0,F⟩
def WJ(F:Int×za->Option Bool):Con I:=⟨143,⟨[.optr 0, .int .i64],[(0, .row 133)]⟩,[0],⟨[.bool],[]⟩,0,F⟩
def QI(F:za->Option (Str×za)):Con I:=⟨144,⟨[.optr 0],[(0, .row 133)]⟩,[],⟨[.str],[(0, .row 133)]⟩,0,F⟩
def fU(F:za->Option Bool):Con I:=⟨145,⟨[.optr 0],[(0, .row 133)]⟩,[0],⟨[.bool],[]⟩,0,F⟩
def sU(F:za->Option za):Con I:=⟨139,⟨[.optr 0, .clo 174 []],[(0, .row 133)]⟩,[],⟨[],[(0, .row 133)]⟩,0,F⟩
def vU(F:za->Option (Bool×za)):Con I:=⟨175,⟨[.optr 0],[(0, .row 133)]⟩,[],⟨[.bool],[(0, .row 133)]⟩,0,F⟩
def aU(F:Str->Option Int):Con I:=⟨176,⟨[.str],[]⟩,[],⟨[.int .i64],[]⟩,0,F⟩
def uU(F:za->Option (ze×za)):Con I:=⟨146,⟨[.optr 0],[(0, .row 133)]⟩,[],⟨[.val 44],[(0, .row 133)]⟩,0,F⟩
def SC(F:Str->Option Str):Con I:=⟨108,⟨[.str],[]⟩,[],⟨[.str],[]⟩,0,F⟩
def UC(F:Str×Str->Option Bool):Con I:=⟨109,⟨[.str, .str],[]⟩,[],⟨[.bool],[]⟩,0,F⟩
def dU(F:za->Option (ze×za)):Con I:=⟨216,⟨[.optr 0],[(0, .row 133)]⟩,[],⟨[.val 44],[(0, .row 133)]⟩,0,F⟩
def bU(F:za->Option (ze×za)):Con I:=⟨177,⟨[.optr 0],[(0, .row 133)]⟩,[],⟨[.val 44],[(0, .row 133)]⟩,0,F⟩
def iU(F:za->Option (ze×za)):Con I:=⟨147,⟨[.optr 0],[(0, .row 133)]⟩,[],⟨[.val 44],[(0, .row 133)]⟩,0,F⟩
def qh(F:Str×Int->Option Int):Con I:=⟨119,⟨[.str, .int .u8],[]⟩,[],⟨[.int .i64],[]⟩,0,F⟩
def jU(F:za->Option (ze×za)):Con I:=⟨101,⟨[.optr 0],[(0, .row 133)]⟩,[],⟨[.val 44],[(0, .row 133)]⟩,0,F⟩
def RU(F:(ze×Int×Int)×List ze->Option (List ze)):Con I:=⟨70,⟨[.val 44, .int .i64, .int .i64, .optr 0],[(0, .cells 22 [.own 1]),(1, .sl 44)]⟩,[],⟨[],[(0, .cells 22 [.own 2]),(2, .sl 44)]⟩,1,F⟩
def kT(F:Str->Option (Int×List ze)):Con I:=⟨69,⟨[.str, .clo 70 [0]],[(0, .cells 22 [.nilv])]⟩,[],⟨[.int .i64],[(0, .cells 22 [.own 1]),(1, .sl 44)]⟩,1,F⟩
def gI(F:Str->Option (List ze×Int)):Con I:=⟨33,⟨[.str],[]⟩,[],⟨[.sl 44, .int .i64],[]⟩,0,F⟩
def OC(F:Int->Option Int):Con I:=⟨61,⟨[.int .u8],[]⟩,[],⟨[.int .u8],[]⟩,0,F⟩
def sw(F:List zf×Int->Option zy):Con I:=⟨65,⟨[.sl 49, .int .u8],[]⟩,[],⟨[.val 101],[]⟩,0,F⟩
def Px(F:List zf->Option Int):Con I:=⟨32,⟨[.sl 49],[]⟩,[],⟨[.int .i64],[]⟩,0,F⟩
def mU(F:List zf->Option (List zf)):Con I:=⟨98,⟨[.sl 49],[]⟩,[],⟨[.own 0],[(0, .sl 49)]⟩,1,F⟩
def Dt(F:List zf->Option (List zf)):Con I:=⟨67,⟨[.sl 49],[]⟩,[],⟨[.sl 49],[]⟩,0,F⟩
def UR(F:List zf×Int->Option (List (List zf)×Int)):Con I:=⟨28,⟨[.sl 49, .int .u8],[]⟩,[],⟨[.sl 23, .int .i64],[]⟩,0,F⟩
def Pm(F:zf×Int->Option Bool):Con I:=⟨91,⟨[.val 49, .int .u8],[]⟩,[],⟨[.bool],[]⟩,0,F⟩
def GR(F:List zf->Option (List zf)):Con I:=⟨107,⟨[.sl 49],[]⟩,[],⟨[.sl 49],[]⟩,0,F⟩
def YR(F:List zf->Option (List zf)):Con I:=⟨106,⟨[.sl 49],[]⟩,[],⟨[.sl 49],[]⟩,0,F⟩
def vH(F:zf->Option Bool):Con I:=⟨92,⟨[.val 49],[]⟩,[],⟨[.bool],[]⟩,0,F⟩
def jS(F:Int×List zf->Option Bool):Con I:=⟨68,⟨[.int .i64, .optr 0],[(0, .row 23)]⟩,[0],⟨[.bool],[]⟩,0,F⟩
def AR(F:List zf->Option (List zf×Int)):Con I:=⟨29,⟨[.sl 49],[]⟩,[],⟨[.sl 49, .int .i64],[]⟩,0,F⟩
def Yx(F:List zf×List ze->Option (List ze)):Con I:=⟨63,⟨[.own 0, .sl 49],[(0, .sl 44)]⟩,[],⟨[.own 1],[(1, .sl 44)]⟩,1,F⟩
def dS(F:List zf->Option (List ze)):Con I:=⟨63,⟨[.nilv, .sl 49],[]⟩,[],⟨[.own 0],[(0, .sl 44)]⟩,1,F⟩
def CR(F:List zf->Option (List ze×Int)):Con I:=⟨18,⟨[.sl 49],[]⟩,[],⟨[.sl 44, .int .i64],[]⟩,0,F⟩
def aR(F:Str->Option Bool):Con I:=⟨87,⟨[.str],[]⟩,[],⟨[.bool],[]⟩,0,F⟩
def oU(F:Str×Str->Option Str):Con I:=⟨197,⟨[.str, .str],[]⟩,[],⟨[.str],[]⟩,0,F⟩
def kU(F:Str×Str->Option Str):Con I:=⟨162,⟨[.str, .str],[]⟩,[],⟨[.str],[]⟩,0,F⟩
def Gt(F:Int->Option Bool):Con I:=⟨155,⟨[.int .u8],[]⟩,[],⟨[.bool],[]⟩,0,F⟩
def lI(F:Str->Option Bool):Con I:=⟨122,⟨[.str],[]⟩,[],⟨[.bool],[]⟩,0,F⟩
def UI(F:Int->Option Bool):Con I:=⟨157,⟨[.int .u8],[]⟩,[],⟨[.bool],[]⟩,0,F⟩
def gB(F:Int->Option Bool):Con I:=⟨153,⟨[.int .u8],[]⟩,[],⟨[.bool],[]⟩,0,F⟩
def TU(F:Str×Str->Option Bool):Con I:=⟨154,⟨[.str, .str],[]⟩,[],⟨[.bool],[]⟩,0,F⟩
def ER(F:ze->Option Bool):Con I:=⟨115,⟨[.val 44],[]⟩,[],⟨[.bool],[]⟩,0,F⟩
def FT(F:(Int×Int)×List ze->Option Bool):Con I:=⟨116,⟨[.int .i64, .int .u8, .optr 0],[(0, .row 22)]⟩,[0],⟨[.bool],[]⟩,0,F⟩
def EI(F:List ze->Option Int):Con I:=⟨80,⟨[.sl 44],[]⟩,[],⟨[.int .i64],[]⟩,0,F⟩
def GI(F:List ze->Option Int):Con I:=⟨79,⟨[.sl 44],[]⟩,[],⟨[.int .i64],[]⟩,0,F⟩
def OU(F:zf->Option Bool):Con I:=⟨128,⟨[.val 49],[]⟩,[],⟨[.bool],[]⟩,0,F⟩
def pU(F:List zf->Option Int):Con I:=⟨129,⟨[.sl 49, .clo 128 []],[]⟩,[],⟨[.int .i64],[]⟩,0,F⟩
def AV(F:List zf->Option Bool):Con I:=⟨89,⟨[.sl 49, .clo 128 []],[]⟩,[],⟨[.bool],[]⟩,0,F⟩
def qN(F:List zf->Option Bool):Con I:=⟨88,⟨[.sl 49],[]⟩,[],⟨[.bool],[]⟩,0,F⟩
def KT(F:zf->Option Bool):Con I:=⟨90,⟨[.val 49],[]⟩,[],⟨[.bool],[]⟩,0,F⟩
def CV(F:List zf->Option Int):Con I:=⟨129,⟨[.sl 49, .clo 90 []],[]⟩,[],⟨[.int .i64],[]⟩,0,F⟩
def Q7(F:List zf->Option Bool):Con I:=⟨89,⟨[.sl 49, .clo 90 []],[]⟩,[],⟨[.bool],[]⟩,0,F⟩
def iB(F:zM->Option Int):Con I:=⟨52,⟨[.val 66],[]⟩,[],⟨[.int .i64],[]⟩,0,F⟩
def XQ(F:List zf->Option (zM×Bool)):Con I:=⟨73,⟨[.sl 49],[]⟩,[],⟨[.val 66, .bool],[]⟩,0,F⟩
def nP(F:List zf->Option (List zM×Int)):Con I:=⟨39,⟨[.sl 49],[]⟩,[],⟨[.sl 66, .int .i64],[]⟩,0,F⟩
def XB(F:Str->Option (List zM×Int)):Con I:=⟨41,⟨[.str],[]⟩,[],⟨[.sl 66, .int .i64],[]⟩,0,F⟩
def FI(F:Str->Option Int):Con I:=⟨118,⟨[.str],[]⟩,[],⟨[.int .i64],[]⟩,0,F⟩
def aC(F:Int×List UInt8->Option (List UInt8)):Con I:=⟨120,⟨[.own 0, .int .u8],[(0, .sl 5)]⟩,[],⟨[.own 1],[(1, .sl 5)]⟩,1,F⟩
def uS(F:Str×Int->Option (List UInt8)):Con I:=⟨117,⟨[.nilv, .str, .int .i64],[]⟩,[],⟨[.own 0],[(0, .sl 5)]⟩,1,F⟩
def FR(F:Str->Option (Str×Int)):Con I:=⟨83,⟨[.str],[]⟩,[],⟨[.str, .int .i64],[]⟩,0,F⟩
def sS(F:(Str×Int)×List UInt8->Option (List UInt8)):Con I:=⟨117,⟨[.own 0, .str, .int .i64],[(0, .sl 5)]⟩,[],⟨[.own 1],[(1, .sl 5)]⟩,1,F⟩
def WR(F:Unit->Option zad):Con I:=⟨123,⟨[],[]⟩,[],⟨[.val 149],[]⟩,0,F⟩
def CU(F:(Int×Bool)×List UInt8->Option (List UInt8)):Con I:=⟨121,⟨[.own 0, .int .i64, .bool],[(0, .sl 5)]⟩,[],⟨[.own 1],[(1, .sl 5)]⟩,1,F⟩
def nS(F:ze×List UInt8->Option (List UInt8)):Con I:=⟨81,⟨[.own 0, .val 44],[(0, .sl 5)]⟩,[],⟨[.own 1],[(1, .sl 5)]⟩,1,F⟩
def lU(F:List ze×List ze->Option Bool):Con I:=⟨82,⟨[.sl 44, .sl 44],[]⟩,[],⟨[.bool],[]⟩,0,F⟩
def XR(F:List ze->Option (Str×Int)):Con I:=⟨46,⟨[.sl 44],[]⟩,[],⟨[.str, .int .i64],[]⟩,0,F⟩
def BR(F:List zf->Option (Str×Int)):Con I:=⟨20,⟨[.sl 49],[]⟩,[],⟨[.str, .int .i64],[]⟩,0,F⟩
def IR(F:zM->Option (Str×Int)):Con I:=⟨48,⟨[.val 66],[]⟩,[],⟨[.str, .int .i64],[]⟩,0,F⟩
def kH(F:List zM->Option (Str×Int)):Con I:=⟨50,⟨[.sl 66],[]⟩,[],⟨[.str, .int .i64],[]⟩,0,F⟩
def kS(F:Str×Str×Int->Option Bool):Con I:=⟨55,⟨[.str, .str, .int .i64],[]⟩,[],⟨[.bool],[]⟩,0,F⟩
def lS(F:Unit->Option Bool):Con I:=⟨54,⟨[],[]⟩,[],⟨[.bool],[]⟩,0,F⟩
def AC(F:Int->Option Int):Con I:=⟨150,⟨[.int .u8],[]⟩,[],⟨[.int .u8],[]⟩,0,F⟩
def RI(F:Str->Option Str):Con I:=⟨105,⟨[.str],[]⟩,[],⟨[.str],[]⟩,0,F⟩
def SS(F:Str->Option Bool):Con I:=⟨94,⟨[.str],[]⟩,[],⟨[.bool],[]⟩,0,F⟩
def Rt(F:List zf->Option (List ze)):Con I:=⟨36,⟨[.sl 49],[]⟩,[],⟨[.sl 44],[]⟩,0,F⟩
def Fy(F:List zf×Int->Option Bool):Con I:=⟨66,⟨[.sl 49, .int .u8],[]⟩,[],⟨[.bool],[]⟩,0,F⟩
def WS(F:List zf->Option Int):Con I:=⟨27,⟨[.sl 49],[]⟩,[],⟨[.int .i64],[]⟩,0,F⟩
def YS(F:Str->Option Bool):Con I:=⟨102,⟨[.str],[]⟩,[],⟨[.bool],[]⟩,0,F⟩
def Qo(F:Int->Option Bool):Con I:=⟨148,⟨[.int .u8],[]⟩,[],⟨[.bool],[]⟩,0,F⟩
def MR(F:Str->Option Bool):Con I:=⟨103,⟨[.str],[]⟩,[],⟨[.bool],[]⟩,0,F⟩
def Xx(F:Int->Option Bool):Con I:=⟨178,⟨[.int .u8],[]⟩,[],⟨[.bool],[]⟩,0,F⟩
def QK(F:Str×Int->Option Int):Con I:=⟨217,⟨[.str, .int .i64],[]⟩,[],⟨[.int .u8],[]⟩,0,F⟩
def MC(F:Str×Int->Option Int):Con I:=⟨179,⟨[.str, .int .i64],[]⟩,[],⟨[.int .i64],[]⟩,0,F⟩
def DI(F:Unit->Option Str):Con I:=⟨244,⟨[],[]⟩,[],⟨[.str],[]⟩,0,F⟩
def xQ(F:Int->Option Int):Con I:=⟨245,⟨[.int .u8],[]⟩,[],⟨[.int .i64],[]⟩,0,F⟩
def TR(F:Int->Option Str):Con I:=⟨246,⟨[.int .i64],[]⟩,[],⟨[.str],[]⟩,0,F⟩
def Ay(F:Str×Int->Option (Str×Int)):Con I:=⟨218,⟨[.str, .int .i64],[]⟩,[],⟨[.str, .int .i64],[]⟩,0,F⟩
def rT(F:Str×Int->Option (ze×Int)):Con I:=⟨180,⟨[.str, .int .i64],[]⟩,[],⟨[.val 44, .int .i64],[]⟩,0,F⟩
def iI(F:Int->Option Bool):Con I:=⟨198,⟨[.int .u8],[]⟩,[],⟨[.bool],[]⟩,0,F⟩
def kI(F:Int->Option Bool):Con I:=⟨163,⟨[.int .u8],[]⟩,[],⟨[.bool],[]⟩,0,F⟩
def Tt(F:Str×Int->Option Bool):Con I:=⟨181,⟨[.str, .int .i64],[]⟩,[],⟨[.bool],[]⟩,0,F⟩
def yB(F:Str×Int->Option (Str×Int)):Con I:=⟨182,⟨[.str, .int .i64],[]⟩,[],⟨[.str, .int .i64],[]⟩,0,F⟩
def jI(F:Str×Int->Option Bool):Con I:=⟨183,⟨[.str, .int .i64],[]⟩,[],⟨[.bool],[]⟩,0,F⟩
def MU(F:Str×Int->Option Bool):Con I:=⟨184,⟨[.str, .int .i64],[]⟩,[],⟨[.bool],[]⟩,0,F⟩
def tT(F:Str×Int->Option Int):Con I:=⟨247,⟨[.str, .int .i64],[]⟩,[],⟨[.int .i64],[]⟩,0,F⟩
def UU(F:Str×Int->Option (Int×Bool)):Con I:=⟨219,⟨[.str, .int .i64],[]⟩,[],⟨[.int .i64, .bool],[]⟩,0,F⟩
def WU(F:Str->Option Int):Con I:=⟨220,⟨[.str],[]⟩,[],⟨[.int .i64],[]⟩,0,F⟩
def BU(F:Str×Int->Option (ze×Int)):Con I:=⟨185,⟨[.str, .int .i64],[]⟩,[],⟨[.val 44, .int .i64],[]⟩,0,F⟩
def uQ(F:Str×Int×Str->Option Bool):Con I:=⟨186,⟨[.str, .int .i64, .str],[]⟩,[],⟨[.bool],[]⟩,0,F⟩
def SI(F:Str×Str->Option Bool):Con I:=⟨72,⟨[.str, .str],[]⟩,[],⟨[.bool],[]⟩,0,F⟩
def vQ(F:Str×Int->Option (ze×Int)):Con I:=⟨248,⟨[.str, .int .i64],[]⟩,[],⟨[.val 44, .int .i64],[]⟩,0,F⟩
def VU(F:Int->Option Bool):Con I:=⟨249,⟨[.int .u8],[]⟩,[],⟨[.bool],[]⟩,0,F⟩
def tQ(F:Str×Int->Option (ze×Int)):Con I:=⟨221,⟨[.str, .int .i64],[]⟩,[],⟨[.val 44, .int .i64],[]⟩,0,F⟩
def NR(F:Str×Int->Option (ze×Int)):Con I:=⟨187,⟨[.str, .int .i64],[]⟩,[],⟨[.val 44, .int .i64],[]⟩,0,F⟩
def PR(F:Int->Option Int):Con I:=⟨188,⟨[.int .u8],[]⟩,[],⟨[.int .u8],[]⟩,0,F⟩
def wQ(F:Str×Int->Option (ze×Int)):Con I:=⟨149,⟨[.str, .int .i64],[]⟩,[],⟨[.val 44, .int .i64],[]⟩,0,F⟩
def aS(F:Int->Option Bool):Con I:=⟨104,⟨[.int .u8],[]⟩,[],⟨[.bool],[]⟩,0,F⟩
def KR(F:ze->Option Bool):Con I:=⟨71,⟨[.val 44],[]⟩,[],⟨[.bool],[]⟩,0,F⟩
def bS(F:List ze->Option Int):Con I:=⟨35,⟨[.sl 44],[]⟩,[],⟨[.int .i64],[]⟩,0,F⟩
def yx(F:List zf->Option Bool):Con I:=⟨131,⟨[.sl 49],[]⟩,[],⟨[.bool],[]⟩,0,F⟩
def AU(F:List zf->Option (List zf)):Con I:=⟨110,⟨[.sl 49],[]⟩,[],⟨[.sl 49],[]⟩,0,F⟩
def nT(F:Str->Option Bool):Con I:=⟨132,⟨[.str],[]⟩,[],⟨[.bool],[]⟩,0,F⟩
def lT(F:Str×List zf->Option Bool):Con I:=⟨95,⟨[.str, .sl 49],[]⟩,[],⟨[.bool],[]⟩,0,F⟩
def VS(F:zM->Option Int):Con I:=⟨53,⟨[.val 66],[]⟩,[],⟨[.int .i64],[]⟩,0,F⟩
def Ox(F:List zf×List zf->Option Bool):Con I:=⟨22,⟨[.sl 49, .sl 49],[]⟩,[],⟨[.bool],[]⟩,0,F⟩
def RS(F:zM×zM->Option Bool):Con I:=⟨43,⟨[.val 66, .val 66],[]⟩,[],⟨[.bool],[]⟩,0,F⟩
def uR(F:List zM×List zM->Option Bool):Con I:=⟨44,⟨[.sl 66, .sl 66],[]⟩,[],⟨[.bool],[]⟩,0,F⟩
def VR(F:List zM->Option Bool):Con I:=⟨57,⟨[.sl 66],[]⟩,[],⟨[.bool],[]⟩,0,F⟩
def NU(F:Str×List zM->Option Bool):Con I:=⟨14,⟨[.str, .sl 66],[]⟩,[],⟨[.bool],[]⟩,0,F⟩
def uT(F:List zf->Option (List ze)):Con I:=⟨63,⟨[.nilv, .sl 49],[]⟩,[],⟨[.sl 44],[]⟩,0,F⟩
def tN(F:Str->Option (Str×Int)):Con I:=⟨99,⟨[.str],[]⟩,[],⟨[.str, .int .i64],[]⟩,0,F⟩
theorem KY:zk Tryz.prog (tN Lj):=lY
def kP(F:Str×Int->Option Int):Con I:=⟨156,⟨[.str, .int .u8],[]⟩,[],⟨[.int .i64],[]⟩,0,F⟩
theorem R4:zk Tryz.prog (kP xu):=U1
def TG(F:Str×Str->Option Int):Con I:=⟨136,⟨[.str, .str],[]⟩,[],⟨[.int .i64],[]⟩,0,F⟩
theorem uO:zk Tryz.prog (TG Kj):=kY
def xM(F:Str×Str->Option Str):Con I:=⟨213,⟨[.str, .str],[]⟩,[],⟨[.str],[]⟩,0,F⟩
theorem HY:zk Tryz.prog (xM Ai):=iY
def wM(F:Str×Str->Option Str):Con I:=⟨160,⟨[.str, .str],[]⟩,[],⟨[.str],[]⟩,0,F⟩
theorem GY:zk Tryz.prog (wM Rl):=GZ
def DR(F:Str×Str->Option Int):Con I:=⟨214,⟨[.str, .str],[]⟩,[],⟨[.int .i64],[]⟩,0,F⟩
theorem K7:zk Tryz.prog (DR Q8):=K8
def nW(F:Str×Str->Option (Str×Str×Bool)):Con I:=⟨215,⟨[.str, .str],[]⟩,[],⟨[.str, .str, .bool],[]⟩,0,F⟩
theorem zDK:zk Tryz.prog (nW cutF):=zDk
def mP(F:Int×Int->Option Str):Con I:=⟨161,⟨[.int .i64, .int .i64],[]⟩,[],⟨[.str],[]⟩,0,F⟩
theorem U4:zk Tryz.prog (mP Co):=Y1
def YQ(F:(Int×Int)×List UInt8->Option (List UInt8)):Con I:=⟨158,⟨[.own 0, .int .u64, .int .i64],[(0, .sl 5)]⟩,[],⟨[.own 1],[(1, .sl 5)]⟩,1,F⟩
theorem Y4:zk Tryz.prog (YQ Ko):=M6
def aQ(F:(Int×Int)×List UInt8->Option (List UInt8)):Con I:=⟨159,⟨[.own 0, .int .i64, .int .i64],[(0, .sl 5)]⟩,[],⟨[.own 1],[(1, .sl 5)]⟩,1,F⟩
theorem D5:zk Tryz.prog (aQ Mo):=O6
def sN(F:List ze->Option (List zf×Int)):Con I:=⟨16,⟨[.sl 44],[]⟩,[],⟨[.sl 49, .int .i64],[]⟩,0,F⟩
theorem JY:zk Tryz.prog (sN parseF):=jY
def nL(F:List Str×Str->Option Str):Con I:=⟨85,⟨[.sl 9, .str],[]⟩,[],⟨[.str],[]⟩,0,F⟩
theorem zA5:zk Tryz.prog (nL Il):=zAv
theorem E8(qX:List zf×Int->Option Int)(hs:zk Tryz.prog (Mx qX)):zk Tryz.prog (Mx (Ht qX)):=
 okC (A:=⟨[Mx qX],[],[],0,[(3,⟨[5,6],⟨[.int .i64, .int .i64],[]⟩,[0,1,4],[],[],0,[5],⟨[.int .i64],[]⟩,[]⟩)],[],[]⟩) (exS:=⟨[.int .i64],[]⟩) Tryz.f58 (memC hs zD) (by kernel_rfl) (by kernel_rfl) fun x=>by kernel_rfl
theorem p8:zk Tryz.prog (Mx qX):=
 zk.recE (I:=I) (P:=Tryz.prog) (f:=58) (inS:=⟨[.sl 49, .int .i64],[]⟩) (cst:=[]) (outS:=⟨[.int .i64],[]⟩) (k:=0) (Ht) (by kernel_rfl) (fun S h=>E8 S h)
theorem AJ:zk Tryz.prog (LC Qv):=
 okC (A:=⟨[],[],[],0,[],[(6,⟨[6],⟨[.bool],[]⟩,[3],[],[],0,[],⟨[],[]⟩,[]⟩)],[]⟩) (exS:=⟨[.int .u8],[]⟩) Tryz.f25 zD (by kernel_rfl) (by kernel_rfl) fun x=>by kernel_rfl
theorem G8(Ql:List zf->Option Int)(hs:zk Tryz.prog (Et Ql)):zk Tryz.prog (Et (cB Ql)):=
 okC (A:=⟨[LC Qv,Et Ql],[],[],0,[(3,⟨[3,4],⟨[.int .i64, .int .i64],[]⟩,[0,2],[],[],0,[3],⟨[.int .i64],[]⟩,[]⟩)],[(4,⟨[3,4],⟨[.int .i64, .int .i64],[]⟩,[],[],[],0,[],⟨[],[]⟩,[]⟩)],[]⟩) (exS:=⟨[.int .i64],[]⟩) Tryz.f59 (memC AJ (memC hs zD)) (by kernel_rfl) (by kernel_rfl) fun x=>by kernel_rfl
theorem vR:zk Tryz.prog (Et Ql):=
 zk.recE (I:=I) (P:=Tryz.prog) (f:=59) (inS:=⟨[.sl 49],[]⟩) (cst:=[]) (outS:=⟨[.int .i64],[]⟩) (k:=0) (cB) (by kernel_rfl) (fun S h=>G8 S h)
theorem znP:zk Tryz.prog (TS Dx):=
 okC (A:=⟨[Mx qX,Et Ql],[],[],0,[(5,⟨[3,4],⟨[.int .i64, .int .i64],[]⟩,[0],[],[],0,[],⟨[],[]⟩,[]⟩)],[],[]⟩) (exS:=⟨[.bool],[]⟩) Tryz.f47 (memC p8 (memC vR zD)) (by kernel_rfl) (by kernel_rfl) fun x=>by kernel_rfl
theorem wU:zk Tryz.prog (QX stringslite_HasPrefix):=
 okC (A:=⟨[],[],[],0,[],[],[]⟩) (exS:=⟨[.bool],[]⟩) Tryz.f130 zD (by kernel_rfl) (by kernel_rfl) fun x=>by kernel_rfl
theorem Zu:zk Tryz.prog (Zk strings_HasPrefix):=
 okC (A:=⟨[QX stringslite_HasPrefix],[],[],0,[],[],[]⟩) (exS:=⟨[.bool],[]⟩) Tryz.f93 (memC wU zD) (by kernel_rfl) (by kernel_rfl) fun x=>by kernel_rfl
theorem zeK:zk Tryz.prog (nU Zf):=
 okC (A:=⟨[Zk strings_HasPrefix,TG Kj],[],[],1,[(0,⟨[],⟨[],[(0, .row 133)]⟩,[0],[],[0],0,[],⟨[],[(0, .row 133)]⟩,[0]⟩)],[],[]⟩) (exS:=⟨[],[(0, .row 133)]⟩) Tryz.f100 (memC Zu (memC uO zD)) (by kernel_rfl) (by kernel_rfl) fun x=>by kernel_rfl
theorem zG:zk Tryz.prog (zF zg):=
 okC (A:=⟨[],[],[],1,[],[],[]⟩) (exS:=⟨[.int .i64],[]⟩) Tryz.f137 zD (by kernel_rfl) (by kernel_rfl) fun x=>by kernel_rfl
theorem Tx:zk Tryz.prog (Wt ZC):=
 okC (A:=⟨[],[],[],0,[],[],[]⟩) (exS:=⟨[.bool],[]⟩) Tryz.f138 zD (by kernel_rfl) (by kernel_rfl) fun x=>by kernel_rfl
theorem NJ:zk Tryz.prog (Qp zW):=
 okC (A:=⟨[zF zg,Wt ZC],[],[],1,[(0,⟨[],⟨[],[(0, .row 133)]⟩,[0,1],[],[0],0,[],⟨[],[(0, .row 133)]⟩,[0]⟩)],[],[]⟩) (exS:=⟨[],[(0, .row 133)]⟩) Tryz.f139 (memC zG (memC Tx zD)) (by kernel_rfl) (by kernel_rfl) fun x=>by kernel_rfl
theorem zdk:zk Tryz.prog (yU qz):=
 okC (A:=⟨[],[(2,[1]),(4,[9]),(7,[14]),(9,[19])],[],0,[],[(7,⟨[25],⟨[.bool],[]⟩,[0,1,5],[],[],0,[],⟨[],[]⟩,[]⟩)],[]⟩) (exS:=⟨[.own 0],[(0, .sl 5)]⟩) Tryz.f237 zD (by kernel_rfl) (by kernel_rfl) fun x=>by kernel_rfl
theorem zhv:zk Tryz.prog (YU ZG):=
 okC (A:=⟨[yU qz],[(2,[3])],[],0,[],[],[]⟩) (exS:=⟨[.own 0],[(0, .sl 5)]⟩) Tryz.f210 (memC zdk zD) (by kernel_rfl) (by kernel_rfl) fun x=>by kernel_rfl
theorem XC:zk Tryz.prog (Ey Z0):=
 okC (A:=⟨[],[],[],0,[],[],[]⟩) (exS:=⟨[.bool],[]⟩) Tryz.f212 zD (by kernel_rfl) (by kernel_rfl) fun x=>by kernel_rfl
theorem Ux:zk Tryz.prog (Xt Zl):=
 okC (A:=⟨[Ey Z0],[],[],0,[],[],[]⟩) (exS:=⟨[.bool],[]⟩) Tryz.f174 (memC XC zD) (by kernel_rfl) (by kernel_rfl) fun x=>by kernel_rfl
theorem jR:zk Tryz.prog (uH Ti):=
 okC (A:=⟨[Xt Zl,Ey Z0],[],[],0,[],[],[]⟩) (exS:=⟨[.int .i64],[]⟩) Tryz.f211 (memC Ux (memC XC zD)) (by kernel_rfl) (by kernel_rfl) fun x=>by kernel_rfl
theorem zec:zk Tryz.prog (BV Zm):=
 okC (A:=⟨[zF zg,YU ZG,uH Ti,Wt ZC],[(7,[3])],[],1,[(10,⟨[6,36],⟨[.int .i64, .int .i64],[(0, .row 133)]⟩,[0,1,4],[],[0],0,[6],⟨[.int .i64],[(0, .row 133)]⟩,[0]⟩)],[(17,⟨[6],⟨[.int .i64],[(0, .row 133)]⟩,[1],[],[0],0,[],⟨[],[]⟩,[]⟩),(19,⟨[6],⟨[.int .i64],[]⟩,[],[0],[],0,[],⟨[],[]⟩,[]⟩)],[]⟩) (exS:=⟨[.own 1],[(0, .row 133),(1, .sl 5)]⟩) Tryz.f172 (memC zG (memC zhv (memC jR (memC Tx zD)))) (by kernel_rfl) (by kernel_rfl) fun x=>by kernel_rfl
theorem zdl:zk Tryz.prog (xU qA):=
 okC (A:=⟨[],[(2,[1]),(4,[9]),(7,[14]),(9,[19])],[],1,[],[(7,⟨[25],⟨[.bool],[(0, .sl 5)]⟩,[0,1,5],[],[0],0,[],⟨[],[]⟩,[]⟩)],[]⟩) (exS:=⟨[.own 1],[(1, .sl 5)]⟩) Tryz.f237 zD (by kernel_rfl) (by kernel_rfl) fun x=>by kernel_rfl
theorem zhw:zk Tryz.prog (XU ZH):=
 okC (A:=⟨[xU qA],[(2,[3])],[],1,[],[],[]⟩) (exS:=⟨[.own 1],[(1, .sl 5)]⟩) Tryz.f210 (memC zdl zD) (by kernel_rfl) (by kernel_rfl) fun x=>by kernel_rfl
theorem Qh:zk Tryz.prog (qp zS):=
 okC (A:=⟨[zF zg,XU ZH,uH Ti,Wt ZC],[(7,[3])],[],2,[(10,⟨[6,36],⟨[.int .i64, .int .i64],[(0, .row 133)]⟩,[0,1,4],[1],[0],0,[6],⟨[.int .i64],[(0, .row 133)]⟩,[0]⟩)],[(17,⟨[6],⟨[.int .i64],[(0, .row 133),(1, .sl 5)]⟩,[1],[],[0,1],0,[],⟨[],[]⟩,[]⟩),(19,⟨[6],⟨[.int .i64],[(1, .sl 5)]⟩,[],[0],[1],0,[],⟨[],[]⟩,[]⟩)],[]⟩) (exS:=⟨[.own 2],[(0, .row 133),(2, .sl 5)]⟩) Tryz.f172 (memC zG (memC zhw (memC jR (memC Tx zD)))) (by kernel_rfl) (by kernel_rfl) fun x=>by kernel_rfl
theorem zfJ:zk Tryz.prog (eU ZM):=
 okC (A:=⟨[zF zg,qp zS],[(5,[3])],[],1,[(4,⟨[4],⟨[.own 1001],[(0, .row 133),(1, .row 44),(1001, .sl 5)]⟩,[0,2,3],[],[0,1],0,[4],⟨[.own 1001],[(0, .row 133),(1, .row 44),(1001, .sl 5)]⟩,[0,1,1001]⟩)],[],[]⟩) (exS:=⟨[.optr 1],[(0, .row 133),(1, .row 44)]⟩) Tryz.f140 (memC zG (memC Qh zD)) (by kernel_rfl) (by kernel_rfl) fun x=>by kernel_rfl
theorem UT:zk Tryz.prog (PI Ep):=
 okC (A:=⟨[Ey Z0],[],[],0,[],[],[]⟩) (exS:=⟨[.bool],[]⟩) Tryz.f173 (memC XC zD) (by kernel_rfl) (by kernel_rfl) fun x=>by kernel_rfl
theorem EU:zk Tryz.prog (fI QV):=
 okC (A:=⟨[PI Ep,Xt Zl],[],[],0,[],[],[]⟩) (exS:=⟨[.bool],[]⟩) Tryz.f141 (memC UT (memC Ux zD)) (by kernel_rfl) (by kernel_rfl) fun x=>by kernel_rfl
theorem Z7:zk Tryz.prog (ZP zu):=
 okC (A:=⟨[zF zg],[],[],1,[],[],[]⟩) (exS:=⟨[.bool],[]⟩) Tryz.f142 (memC zG zD) (by kernel_rfl) (by kernel_rfl) fun x=>by kernel_rfl
theorem gU:zk Tryz.prog (WJ zC):=
 okC (A:=⟨[zF zg,PI Ep,ZP zu],[],[],1,[],[],[]⟩) (exS:=⟨[.bool],[]⟩) Tryz.f143 (memC zG (memC UT (memC Z7 zD))) (by kernel_rfl) (by kernel_rfl) fun x=>by kernel_rfl
theorem RJ:zk Tryz.prog (QI zT):=
 okC (A:=⟨[zF zg,fI QV,ZP zu,qp zS],[(5,[3])],[],1,[(2,⟨[3],⟨[.own 1002],[(0, .row 133),(1002, .sl 5)]⟩,[0],[],[0],0,[],⟨[],[]⟩,[]⟩)],[],[]⟩) (exS:=⟨[.str],[(0, .row 133)]⟩) Tryz.f144 (memC zG (memC EU (memC Z7 (memC Qh zD)))) (by kernel_rfl) (by kernel_rfl) fun x=>by kernel_rfl
theorem zfI:zk Tryz.prog (fU Zw):=
 okC (A:=⟨[zF zg,Xt Zl],[],[],1,[],[(5,⟨[3],⟨[.int .i64],[]⟩,[0],[],[],0,[],⟨[],[]⟩,[]⟩),(7,⟨[3],⟨[.int .i64],[]⟩,[],[],[],0,[],⟨[],[]⟩,[]⟩)],[]⟩) (exS:=⟨[.bool],[]⟩) Tryz.f145 (memC zG (memC Ux zD)) (by kernel_rfl) (by kernel_rfl) fun x=>by kernel_rfl
theorem ze3:zk Tryz.prog (sU zU):=
 okC (A:=⟨[zF zg,Xt Zl],[],[],1,[(0,⟨[],⟨[],[(0, .row 133)]⟩,[0,1],[],[0],0,[],⟨[],[(0, .row 133)]⟩,[0]⟩)],[],[]⟩) (exS:=⟨[],[(0, .row 133)]⟩) Tryz.f139 (memC zG (memC Ux zD)) (by kernel_rfl) (by kernel_rfl) fun x=>by kernel_rfl
theorem ze1:zk Tryz.prog (vU ZB):=
 okC (A:=⟨[zF zg,sU zU,Xt Zl],[],[],1,[],[(4,⟨[],⟨[],[(0, .row 133)]⟩,[0],[],[0],0,[],⟨[],[]⟩,[]⟩),(10,⟨[4],⟨[.bool],[(0, .row 133)]⟩,[],[],[0],0,[],⟨[],[]⟩,[]⟩),(15,⟨[4,5],⟨[.bool, .int .i64],[(0, .row 133)]⟩,[],[],[0],0,[],⟨[],[]⟩,[]⟩),(19,⟨[4],⟨[.bool],[(0, .row 133)]⟩,[],[],[0],0,[],⟨[],[]⟩,[]⟩)],[]⟩) (exS:=⟨[.bool],[(0, .row 133)]⟩) Tryz.f175 (memC zG (memC ze3 (memC Ux zD))) (by kernel_rfl) (by kernel_rfl) fun x=>by kernel_rfl
theorem zhu:zk Tryz.prog (aU ZF):=
 okC (A:=⟨[xM Ai,DR Q8,nW cutF],[],[],0,[(8,⟨[6,31],⟨[.int .i64, .int .i64],[]⟩,[0,2,3,4,5,29,30],[0],[],0,[6],⟨[.int .i64],[]⟩,[]⟩),(22,⟨[12,81],⟨[.int .i64, .int .i64],[]⟩,[4,79,80],[0],[],2,[12],⟨[.int .i64],[]⟩,[]⟩),(26,⟨[4,12],⟨[.int .i64, .int .i64],[]⟩,[],[],[],4,[12],⟨[.int .i64],[]⟩,[]⟩)],[(14,⟨[0,4,6],⟨[.str, .int .i64, .int .i64],[]⟩,[3,5],[],[],0,[],⟨[],[]⟩,[]⟩),(15,⟨[0,4],⟨[.str, .int .i64],[]⟩,[3],[],[],0,[],⟨[],[]⟩,[]⟩),(20,⟨[0,4],⟨[.str, .int .i64],[]⟩,[],[],[],0,[],⟨[],[]⟩,[]⟩),(31,⟨[12],⟨[.int .i64],[]⟩,[],[],[],0,[],⟨[],[]⟩,[]⟩)],[]⟩) (exS:=⟨[.int .i64],[]⟩) Tryz.f176 (memC HY (memC K7 (memC zDK zD))) (by kernel_rfl) (by kernel_rfl) fun x=>by kernel_rfl
theorem ze2:zk Tryz.prog (uU Zj):=
 okC (A:=⟨[vU ZB,aU ZF,WJ zC,QI zT,zF zg],[],[],1,[],[(9,⟨[],⟨[],[(0, .row 133),(1, .row 44),(2, .row 44)]⟩,[2,5],[],[0,1,2],0,[],⟨[],[]⟩,[]⟩)],[]⟩) (exS:=⟨[.optr 1],[(0, .row 133),(1, .row 44)]⟩) Tryz.f146 (memC ze1 (memC zhu (memC gU (memC RJ (memC zG zD))))) (by kernel_rfl) (by kernel_rfl) fun x=>by kernel_rfl
theorem vI:zk Tryz.prog (SC ql):=
 okC (A:=⟨[],[],[],0,[(3,⟨[10],⟨[.int .i64],[(0, .sl 5)]⟩,[2,3,8,9],[],[0],0,[],⟨[],[(0, .sl 5)]⟩,[0]⟩)],[(7,⟨[10],⟨[.int .i64],[(0, .sl 5)]⟩,[],[],[0],0,[],⟨[],[]⟩,[]⟩)],[]⟩) (exS:=⟨[.str],[]⟩) Tryz.f108 zD (by kernel_rfl) (by kernel_rfl) fun x=>by kernel_rfl
theorem wI:zk Tryz.prog (UC qE):=
 okC (A:=⟨[SC ql],[],[],0,[],[],[]⟩) (exS:=⟨[.bool],[]⟩) Tryz.f109 (memC vI zD) (by kernel_rfl) (by kernel_rfl) fun x=>by kernel_rfl
theorem zhs:zk Tryz.prog (dU ZE):=
 okC (A:=⟨[zF zg,ZP zu,BV Zm],[],[],1,[(1,⟨[],⟨[],[(0, .row 133),(1, .row 44)]⟩,[0,2],[],[0,1],0,[],⟨[],[]⟩,[]⟩)],[],[]⟩) (exS:=⟨[.optr 1],[(0, .row 133),(1, .row 44)]⟩) Tryz.f216 (memC zG (memC Z7 (memC zec zD))) (by kernel_rfl) (by kernel_rfl) fun x=>by kernel_rfl
theorem zht:zk Tryz.prog (bU qo):=
 okC (A:=⟨[Qp zW,zF zg,Wt ZC,dU ZE,Ey Z0,ZP zu,qp zS],[(18,[3])],[],1,[(3,⟨[3],⟨[.own 1003],[(0, .row 133),(1, .row 44),(1003, .sl 5)]⟩,[0,2],[],[0,1],0,[],⟨[],[]⟩,[]⟩)],[(10,⟨[3,4],⟨[.own 1003, .int .i64],[(0, .row 133),(1, .row 44),(1003, .sl 5)]⟩,[],[],[0,1,1003],0,[],⟨[],[]⟩,[]⟩)],[]⟩) (exS:=⟨[.optr 1],[(0, .row 133),(1, .row 44)]⟩) Tryz.f177 (memC NJ (memC zG (memC Tx (memC zhs (memC XC (memC Z7 (memC Qh zD))))))) (by kernel_rfl) (by kernel_rfl) fun x=>by kernel_rfl
theorem zf1:zk Tryz.prog (iU Zn):=
 okC (A:=⟨[QI zT,zF zg,UC qE,Qp zW,bU qo],[],[],1,[],[(11,⟨[],⟨[],[(0, .row 133),(1, .row 44)]⟩,[2,3],[],[0,1],0,[],⟨[],[]⟩,[]⟩)],[]⟩) (exS:=⟨[.optr 1],[(0, .row 133),(1, .row 44)]⟩) Tryz.f147 (memC RJ (memC zG (memC wI (memC NJ (memC zht zD))))) (by kernel_rfl) (by kernel_rfl) fun x=>by kernel_rfl
theorem qK:zk Tryz.prog (qh strings_IndexByte):=
 okC (A:=⟨[kP xu],[],[],0,[],[],[]⟩) (exS:=⟨[.int .i64],[]⟩) Tryz.f119 (memC R4 zD) (by kernel_rfl) (by kernel_rfl) fun x=>by kernel_rfl
theorem zgN:zk Tryz.prog (jU ZO):=
 okC (A:=⟨[zF zg,Wt ZC,Qp zW,eU ZM,fI QV,ZP zu,WJ zC,QI zT,fU Zw,uU Zj,Zk strings_HasPrefix,iU Zn,qh strings_IndexByte],[],[],1,[],[],[]⟩) (exS:=⟨[.optr 1],[(0, .row 133),(1, .row 44)]⟩) Tryz.f101 (memC zG (memC Tx (memC NJ (memC zfJ (memC EU (memC Z7 (memC gU (memC RJ (memC zfI (memC ze2 (memC Zu (memC zf1 (memC qK zD))))))))))))) (by kernel_rfl) (by kernel_rfl) fun x=>by kernel_rfl
theorem zif:zk Tryz.prog (RU Qm):=
 okC (A:=⟨[],[(1,[2])],[],2,[],[],[]⟩) (exS:=⟨[],[(0, .cells 22 [.own 2]),(2, .sl 44)]⟩) Tryz.f70 zD (by kernel_rfl) (by kernel_rfl) fun x=>by kernel_rfl
theorem zmQ:zk Tryz.prog (kT Pp):=
 okC (A:=⟨[tN Lj,nU Zf,jU ZO,RU Qm],[],[],1,[(7,⟨[7],⟨[.int .i64],[(0, .cells 22 [.own 1004]),(1004, .sl 44),(1, .row 133)]⟩,[0,1,6],[],[0,1],0,[],⟨[],[(0, .cells 22 [.own 1004]),(1004, .sl 44),(1, .row 133)]⟩,[0,1,1004]⟩)],[],[]⟩) (exS:=⟨[.int .i64],[(0, .cells 22 [.own 1]),(1, .sl 44)]⟩) Tryz.f69 (memC KY (memC zeK (memC zgN (memC zif zD)))) (by kernel_rfl) (by kernel_rfl) fun x=>by kernel_rfl
theorem FU:zk Tryz.prog (gI Qx):=
 okC (A:=⟨[kT Pp],[],[],0,[],[],[]⟩) (exS:=⟨[.sl 44, .int .i64],[]⟩) Tryz.f33 (memC zmQ zD) (by kernel_rfl) (by kernel_rfl) fun x=>by kernel_rfl
theorem uI:zk Tryz.prog (OC qF):=
 okC (A:=⟨[],[],[],0,[],[(7,⟨[6],⟨[.bool],[]⟩,[0],[],[],0,[],⟨[],[]⟩,[]⟩)],[]⟩) (exS:=⟨[.int .u8],[]⟩) Tryz.f61 zD (by kernel_rfl) (by kernel_rfl) fun x=>by kernel_rfl
theorem Y5(qJ:List zf×Int->Option zy)(hs:zk Tryz.prog (sw qJ)):zk Tryz.prog (sw (Vs qJ)):=
 okC (A:=⟨[OC qF,sw qJ],[],[],0,[(3,⟨[12],⟨[.int .i64],[(1, .row 101)]⟩,[1,4,5,10,11],[0],[1],0,[],⟨[],[(1, .row 101)]⟩,[1]⟩)],[(9,⟨[],⟨[],[(1, .row 101)]⟩,[7,8,12],[2],[1],0,[],⟨[],[]⟩,[]⟩),(12,⟨[12],⟨[.int .i64],[(1, .row 101)]⟩,[],[],[1],0,[],⟨[],[]⟩,[]⟩)],[]⟩) (exS:=⟨[.optr 0],[(0, .row 101)]⟩) Tryz.f65 (memC uI (memC hs zD)) (by kernel_rfl) (by kernel_rfl) fun x=>by kernel_rfl
theorem G7:zk Tryz.prog (sw qJ):=
 zk.recE (I:=I) (P:=Tryz.prog) (f:=65) (inS:=⟨[.sl 49, .int .u8],[]⟩) (cst:=[]) (outS:=⟨[.val 101],[]⟩) (k:=0) (Vs) (by kernel_rfl) (fun S h=>Y5 S h)
theorem vB:zk Tryz.prog (Px qW):=
 okC (A:=⟨[sw qJ],[],[],0,[],[],[]⟩) (exS:=⟨[.int .i64],[]⟩) Tryz.f32 (memC G7 zD) (by kernel_rfl) (by kernel_rfl) fun x=>by kernel_rfl
theorem zgI:zk Tryz.prog (mU Qw):=
 okC (A:=⟨[],[],[],0,[],[],[]⟩) (exS:=⟨[.own 0],[(0, .sl 49)]⟩) Tryz.f98 zD (by kernel_rfl) (by kernel_rfl) fun x=>by kernel_rfl
theorem X5(QO:List zf->Option (List zf))(hs:zk Tryz.prog (Dt QO)):zk Tryz.prog (Dt (aB QO)):=
 okC (A:=⟨[mU Qw,Dt QO],[],[],0,[(3,⟨[8],⟨[.int .i64],[(0, .sl 49)]⟩,[0,2,7],[],[0],0,[],⟨[],[(0, .sl 49)]⟩,[0]⟩)],[],[]⟩) (exS:=⟨[.sl 49],[]⟩) Tryz.f67 (memC zgI (memC hs zD)) (by kernel_rfl) (by kernel_rfl) fun x=>by kernel_rfl
theorem kR:zk Tryz.prog (Dt QO):=
 zk.recE (I:=I) (P:=Tryz.prog) (f:=67) (inS:=⟨[.sl 49],[]⟩) (cst:=[]) (outS:=⟨[.sl 49],[]⟩) (k:=0) (aB) (by kernel_rfl) (fun S h=>X5 S h)
theorem H9:zk Tryz.prog (UR fw):=
 okC (A:=⟨[Px qW,Dt QO],[(12,[7]),(15,[5])],[],0,[(9,⟨[7,8,24],⟨[.own 1006, .int .i64, .int .i64],[(1006, .sl 23)]⟩,[0,1,4,5,22,23],[],[],0,[7,8],⟨[.own 1006, .int .i64],[(1006, .sl 23)]⟩,[1006]⟩)],[(14,⟨[7,8,24],⟨[.own 1108, .int .i64, .int .i64],[(1108, .sl 23)]⟩,[],[],[],0,[],⟨[],[]⟩,[]⟩)],[]⟩) (exS:=⟨[.sl 23, .int .i64],[]⟩) Tryz.f28 (memC vB (memC kR zD)) (by kernel_rfl) (by kernel_rfl) fun x=>by kernel_rfl
theorem vo:zk Tryz.prog (Pm Zx):=
 okC (A:=⟨[],[],[],0,[],[],[]⟩) (exS:=⟨[.bool],[]⟩) Tryz.f91 zD (by kernel_rfl) (by kernel_rfl) fun x=>by kernel_rfl
theorem O7:zk Tryz.prog (GR oo):=
 okC (A:=⟨[Pm Zx],[],[],0,[(1,⟨[0],⟨[.sl 49],[]⟩,[2],[],[],0,[0],⟨[.sl 49],[]⟩,[]⟩)],[],[]⟩) (exS:=⟨[.sl 49],[]⟩) Tryz.f107 (memC vo zD) (by kernel_rfl) (by kernel_rfl) fun x=>by kernel_rfl
theorem L9:zk Tryz.prog (YR uk):=
 okC (A:=⟨[Pm Zx],[],[],0,[(1,⟨[0],⟨[.sl 49],[]⟩,[2],[],[],0,[0],⟨[.sl 49],[]⟩,[]⟩)],[],[]⟩) (exS:=⟨[.sl 49],[]⟩) Tryz.f106 (memC vo zD) (by kernel_rfl) (by kernel_rfl) fun x=>by kernel_rfl
theorem mR:zk Tryz.prog (vH Xk):=
 okC (A:=⟨[Pm Zx],[],[],0,[],[],[]⟩) (exS:=⟨[.bool],[]⟩) Tryz.f92 (memC vo zD) (by kernel_rfl) (by kernel_rfl) fun x=>by kernel_rfl
theorem znI:zk Tryz.prog (jS Ws):=
 okC (A:=⟨[],[],[],1,[],[],[]⟩) (exS:=⟨[.bool],[]⟩) Tryz.f68 zD (by kernel_rfl) (by kernel_rfl) fun x=>by kernel_rfl
theorem H7:zk Tryz.prog (AR Rw):=
 okC (A:=⟨[Px qW,jS Ws,Dt QO],[],[],0,[(6,⟨[6],⟨[.int .i64],[]⟩,[1,2,3,5,7],[0],[],0,[6],⟨[.int .i64],[]⟩,[]⟩),(8,⟨[7],⟨[.int .i64],[]⟩,[1,2,3,5,6],[0],[],2,[7],⟨[.int .i64],[]⟩,[]⟩)],[],[]⟩) (exS:=⟨[.sl 49, .int .i64],[]⟩) Tryz.f29 (memC vB (memC znI (memC kR zD))) (by kernel_rfl) (by kernel_rfl) fun x=>by kernel_rfl
theorem r9(ZL:List zf×List ze->Option (List ze))(hs:zk Tryz.prog (Yx ZL)):zk Tryz.prog (Yx (Vt ZL)):=
 okC (A:=⟨[OC qF,Yx ZL],[(4,[3]),(7,[6])],[],1,[(2,⟨[0,10],⟨[.own 1109, .int .i64],[(1109, .sl 44)]⟩,[4,8,9],[],[],0,[0],⟨[.own 1109],[(1109, .sl 44)]⟩,[1109]⟩)],[(8,⟨[0,10],⟨[.own 1211, .int .i64],[(1211, .sl 44)]⟩,[],[],[],0,[],⟨[],[]⟩,[]⟩)],[]⟩) (exS:=⟨[.own 1],[(1, .sl 44)]⟩) Tryz.f63 (memC uI (memC hs zD)) (by kernel_rfl) (by kernel_rfl) fun x=>by kernel_rfl
theorem znJ:zk Tryz.prog (Yx ZL):=
 zk.recE (I:=I) (P:=Tryz.prog) (f:=63) (inS:=⟨[.own 0, .sl 49],[(0, .sl 44)]⟩) (cst:=[]) (outS:=⟨[.own 1],[(1, .sl 44)]⟩) (k:=1) (Vt) (by kernel_rfl) (fun S h=>r9 S h)
theorem YT:zk Tryz.prog (dS QB):=
 okC (A:=⟨[OC qF,Yx ZL],[(4,[3]),(7,[6])],[],0,[(2,⟨[0,10],⟨[.own 1213, .int .i64],[(1213, .sl 44)]⟩,[4,8,9],[],[],0,[0],⟨[.own 1213],[(1213, .sl 44)]⟩,[1213]⟩)],[(8,⟨[0,10],⟨[.own 1315, .int .i64],[(1315, .sl 44)]⟩,[],[],[],0,[],⟨[],[]⟩,[]⟩)],[]⟩) (exS:=⟨[.own 0],[(0, .sl 44)]⟩) Tryz.f63 (memC uI (memC znJ zD)) (by kernel_rfl) (by kernel_rfl) fun x=>by kernel_rfl
theorem zmK:zk Tryz.prog (uT QB):=dZ ipOK (by kernel_rfl) YT
theorem J7:zk Tryz.prog (CR Xo):=
 okC (A:=⟨[Px qW,dS QB],[],[],0,[],[],[]⟩) (exS:=⟨[.sl 44, .int .i64],[]⟩) Tryz.f18 (memC vB (memC YT zD)) (by kernel_rfl) (by kernel_rfl) fun x=>by kernel_rfl
theorem M9:zk Tryz.prog (aR Dp):=
 okC (A:=⟨[qh strings_IndexByte,Zk strings_HasPrefix,SC ql],[],[],0,[],[],[]⟩) (exS:=⟨[.bool],[]⟩) Tryz.f87 (memC qK (memC Zu (memC vI zD))) (by kernel_rfl) (by kernel_rfl) fun x=>by kernel_rfl
theorem zeJ:zk Tryz.prog (oU stringslite_TrimPrefix):=
 okC (A:=⟨[QX stringslite_HasPrefix],[],[],0,[],[],[]⟩) (exS:=⟨[.str],[]⟩) Tryz.f197 (memC wU zD) (by kernel_rfl) (by kernel_rfl) fun x=>by kernel_rfl
theorem zgK:zk Tryz.prog (kU strings_TrimPrefix):=
 okC (A:=⟨[oU stringslite_TrimPrefix],[],[],0,[],[],[]⟩) (exS:=⟨[.str],[]⟩) Tryz.f162 (memC zeJ zD) (by kernel_rfl) (by kernel_rfl) fun x=>by kernel_rfl
theorem Vx:zk Tryz.prog (Gt ZX):=
 okC (A:=⟨[],[],[],0,[],[],[]⟩) (exS:=⟨[.bool],[]⟩) Tryz.f155 zD (by kernel_rfl) (by kernel_rfl) fun x=>by kernel_rfl
theorem LU:zk Tryz.prog (lI QU):=
 okC (A:=⟨[kU strings_TrimPrefix,Gt ZX],[],[],0,[],[],[]⟩) (exS:=⟨[.bool],[]⟩) Tryz.f122 (memC zgK (memC Vx zD)) (by kernel_rfl) (by kernel_rfl) fun x=>by kernel_rfl
theorem aT:zk Tryz.prog (UI Bt):=
 okC (A:=⟨[],[],[],0,[],[],[]⟩) (exS:=⟨[.bool],[]⟩) Tryz.f157 zD (by kernel_rfl) (by kernel_rfl) fun x=>by kernel_rfl
theorem YI:zk Tryz.prog (gB Qj):=
 okC (A:=⟨[UI Bt,Gt ZX],[],[],0,[],[],[]⟩) (exS:=⟨[.bool],[]⟩) Tryz.f153 (memC aT (memC Vx zD)) (by kernel_rfl) (by kernel_rfl) fun x=>by kernel_rfl
theorem zie:zk Tryz.prog (TU strings_Contains):=
 okC (A:=⟨[TG Kj],[],[],0,[],[],[]⟩) (exS:=⟨[.bool],[]⟩) Tryz.f154 (memC uO zD) (by kernel_rfl) (by kernel_rfl) fun x=>by kernel_rfl
theorem M7:zk Tryz.prog (ER kr):=
 okC (A:=⟨[qh strings_IndexByte,lI QU,Zk strings_HasPrefix,gB Qj,TU strings_Contains],[],[],0,[],[(8,⟨[3,4,5,6,7,25],⟨[.bool, .bool, .bool, .bool, .bool, .bool],[]⟩,[1,16],[],[],0,[],⟨[],[]⟩,[]⟩),(14,⟨[3,4,5,6,7,63],⟨[.bool, .bool, .bool, .bool, .bool, .bool],[]⟩,[],[],[],0,[],⟨[],[]⟩,[]⟩),(22,⟨[4,5,6,7,94],⟨[.bool, .bool, .bool, .bool, .bool],[]⟩,[3],[],[],0,[],⟨[],[]⟩,[]⟩),(24,⟨[3,4,5,6,7],⟨[.bool, .bool, .bool, .bool, .bool],[]⟩,[1],[0],[],0,[],⟨[],[]⟩,[]⟩)],[]⟩) (exS:=⟨[.bool],[]⟩) Tryz.f115 (memC qK (memC LU (memC Zu (memC YI (memC zie zD))))) (by kernel_rfl) (by kernel_rfl) fun x=>by kernel_rfl
theorem zmJ:zk Tryz.prog (FT ZA):=
 okC (A:=⟨[],[],[],1,[],[],[]⟩) (exS:=⟨[.bool],[]⟩) Tryz.f116 zD (by kernel_rfl) (by kernel_rfl) fun x=>by kernel_rfl
theorem xR:zk Tryz.prog (EI Qk):=
 okC (A:=⟨[FT ZA,UC qE],[],[],0,[],[(11,⟨[5],⟨[.int .i64],[]⟩,[3],[0],[],0,[],⟨[],[]⟩,[]⟩)],[]⟩) (exS:=⟨[.int .i64],[]⟩) Tryz.f80 (memC zmJ (memC wI zD)) (by kernel_rfl) (by kernel_rfl) fun x=>by kernel_rfl
theorem BS:zk Tryz.prog (GI Xj):=
 okC (A:=⟨[ER kr,EI Qk],[],[],0,[(4,⟨[10],⟨[.int .i64],[]⟩,[0,8,9],[],[],0,[],⟨[],[]⟩,[]⟩)],[],[]⟩) (exS:=⟨[.int .i64],[]⟩) Tryz.f79 (memC M7 (memC xR zD)) (by kernel_rfl) (by kernel_rfl) fun x=>by kernel_rfl
theorem zj1(zm:List zf->Option Bool)(h_decl_closers:zk Tryz.prog (qN zm)):zk Tryz.prog (OU (qP zm)):=
 okC (A:=⟨[Pm Zx,qN zm],[],[],0,[],[],[]⟩) (exS:=⟨[.bool],[]⟩) Tryz.f128 (memC vo (memC h_decl_closers zD)) (by kernel_rfl) (by kernel_rfl) fun x=>by kernel_rfl
theorem zeI(zm:List zf->Option Bool)(h_decl_closers:zk Tryz.prog (qN zm)):zk Tryz.prog (pU (ZQ zm)):=
 okC (A:=⟨[OU (qP zm)],[],[],0,[(2,⟨[8],⟨[.int .i64],[]⟩,[0,1,7],[],[],0,[],⟨[],[]⟩,[]⟩)],[],[]⟩) (exS:=⟨[.int .i64],[]⟩) Tryz.f129 (memC (zj1 zm h_decl_closers) zD) (by kernel_rfl) (by kernel_rfl) fun x=>by kernel_rfl
theorem zdj(zm:List zf->Option Bool)(h_decl_closers:zk Tryz.prog (qN zm)):zk Tryz.prog (AV (Zt zm)):=
 okC (A:=⟨[pU (ZQ zm)],[],[],0,[],[],[]⟩) (exS:=⟨[.bool],[]⟩) Tryz.f89 (memC (zeI zm h_decl_closers) zD) (by kernel_rfl) (by kernel_rfl) fun x=>by kernel_rfl
theorem zm2(zm:List zf->Option Bool)(hs:zk Tryz.prog (qN zm)):zk Tryz.prog (qN (Pt zm)):=
 okC (A:=⟨[AV (Zt zm)],[],[],0,[],[],[]⟩) (exS:=⟨[.bool],[]⟩) Tryz.f88 (memC (zdj zm hs) zD) (by kernel_rfl) (by kernel_rfl) fun x=>by kernel_rfl
theorem zmI:zk Tryz.prog (qN zm):=
 zk.recE (I:=I) (P:=Tryz.prog) (f:=88) (inS:=⟨[.sl 49],[]⟩) (cst:=[]) (outS:=⟨[.bool],[]⟩) (k:=0) (Pt) (by kernel_rfl) (fun S h=>zm2 S h)
theorem zmH:zk Tryz.prog (KT Mt):=
 okC (A:=⟨[Pm Zx,vH Xk],[],[],0,[],[],[]⟩) (exS:=⟨[.bool],[]⟩) Tryz.f90 (memC vo (memC mR zD)) (by kernel_rfl) (by kernel_rfl) fun x=>by kernel_rfl
theorem zdX:zk Tryz.prog (CV Zz):=
 okC (A:=⟨[KT Mt],[],[],0,[(2,⟨[8],⟨[.int .i64],[]⟩,[0,1,7],[],[],0,[],⟨[],[]⟩,[]⟩)],[],[]⟩) (exS:=⟨[.int .i64],[]⟩) Tryz.f129 (memC zmH zD) (by kernel_rfl) (by kernel_rfl) fun x=>by kernel_rfl
theorem zcK:zk Tryz.prog (Q7 Zd):=
 okC (A:=⟨[CV Zz],[],[],0,[],[],[]⟩) (exS:=⟨[.bool],[]⟩) Tryz.f89 (memC zdX zD) (by kernel_rfl) (by kernel_rfl) fun x=>by kernel_rfl
theorem aI:zk Tryz.prog (iB QL):=
 okC (A:=⟨[CR Xo,aR Dp,GI Xj,qN zm,Q7 Zd,Zk strings_HasPrefix,Pm Zx],[],[],0,[],[],[]⟩) (exS:=⟨[.int .i64],[]⟩) Tryz.f52 (memC J7 (memC M9 (memC BS (memC zmI (memC zcK (memC Zu (memC vo zD))))))) (by kernel_rfl) (by kernel_rfl) fun x=>by kernel_rfl
theorem X4:zk Tryz.prog (XQ vv):=
 okC (A:=⟨[GR oo,YR uk,Pm Zx,Zk strings_HasPrefix,SC ql,UC qE,vH Xk,AR Rw,iB QL],[],[],0,[],[(7,⟨[0],⟨[.sl 49],[(0, .cells 66 [.str, .nilv, .bool]),(1, .cells 66 [.str, .nilv, .bool])]⟩,[2,4],[],[0,1],0,[],⟨[],[]⟩,[]⟩),(16,⟨[0],⟨[.sl 49],[(0, .cells 66 [.str, .nilv, .bool]),(1, .cells 66 [.str, .nilv, .bool])]⟩,[],[],[0,1],0,[],⟨[],[]⟩,[]⟩)],[]⟩) (exS:=⟨[.optr 0, .bool],[(0, .row 66)]⟩) Tryz.f73 (memC O7 (memC L9 (memC vo (memC Zu (memC vI (memC wI (memC mR (memC H7 (memC aI zD))))))))) (by kernel_rfl) (by kernel_rfl) fun x=>by kernel_rfl
theorem V4:zk Tryz.prog (nP Nv):=
 okC (A:=⟨[UR fw,XQ vv],[(10,[2])],[],0,[(6,⟨[6,21],⟨[.own 1317, .int .i64],[(1317, .sl 66)]⟩,[2,3,19,20],[],[],0,[6],⟨[.own 1317],[(1317, .sl 66)]⟩,[1317]⟩)],[(11,⟨[6,21],⟨[.own 1419, .int .i64],[(1419, .sl 66)]⟩,[],[],[],0,[],⟨[],[]⟩,[]⟩)],[]⟩) (exS:=⟨[.sl 66, .int .i64],[]⟩) Tryz.f39 (memC H9 (memC X4 zD)) (by kernel_rfl) (by kernel_rfl) fun x=>by kernel_rfl
theorem KI:zk Tryz.prog (XB Sj):=
 okC (A:=⟨[gI Qx,sN parseF,nP Nv],[],[],0,[],[],[]⟩) (exS:=⟨[.sl 66, .int .i64],[]⟩) Tryz.f41 (memC FU (memC JY (memC V4 zD))) (by kernel_rfl) (by kernel_rfl) fun x=>by kernel_rfl
theorem yR:zk Tryz.prog (FI ZY):=
 okC (A:=⟨[Zk strings_HasPrefix],[],[],0,[],[],[]⟩) (exS:=⟨[.int .i64],[]⟩) Tryz.f118 (memC Zu zD) (by kernel_rfl) (by kernel_rfl) fun x=>by kernel_rfl
theorem FJ:zk Tryz.prog (aC Zg):=
 okC (A:=⟨[Gt ZX,UI Bt,YQ Ko],[(2,[2]),(3,[1]),(5,[1])],[],1,[],[],[]⟩) (exS:=⟨[.own 1],[(1, .sl 5)]⟩) Tryz.f120 (memC Vx (memC aT (memC Y4 zD))) (by kernel_rfl) (by kernel_rfl) fun x=>by kernel_rfl
theorem znD:zk Tryz.prog (uS Np):=
 okC (A:=⟨[gB Qj,Gt ZX,aC Zg],[(6,[2])],[],0,[(2,⟨[0,11],⟨[.own 1421, .int .i64],[(1421, .sl 5)]⟩,[1,2,6,10],[],[],0,[0],⟨[.own 1421],[(1421, .sl 5)]⟩,[1421]⟩)],[(8,⟨[0,11],⟨[.own 1523, .int .i64],[(1523, .sl 5)]⟩,[],[],[],0,[],⟨[],[]⟩,[]⟩)],[]⟩) (exS:=⟨[.own 0],[(0, .sl 5)]⟩) Tryz.f117 (memC YI (memC Vx (memC FJ zD))) (by kernel_rfl) (by kernel_rfl) fun x=>by kernel_rfl
theorem N7:zk Tryz.prog (FR ko):=
 okC (A:=⟨[qh strings_IndexByte,FI ZY,uS Np],[],[],0,[],[],[]⟩) (exS:=⟨[.str, .int .i64],[]⟩) Tryz.f83 (memC qK (memC yR (memC znD zD))) (by kernel_rfl) (by kernel_rfl) fun x=>by kernel_rfl
theorem znE:zk Tryz.prog (sS qj):=
 okC (A:=⟨[gB Qj,Gt ZX,aC Zg],[(6,[2])],[],1,[(2,⟨[0,11],⟨[.own 1525, .int .i64],[(1525, .sl 5)]⟩,[1,2,6,10],[],[],0,[0],⟨[.own 1525],[(1525, .sl 5)]⟩,[1525]⟩)],[(8,⟨[0,11],⟨[.own 1627, .int .i64],[(1627, .sl 5)]⟩,[],[],[],0,[],⟨[],[]⟩,[]⟩)],[]⟩) (exS:=⟨[.own 1],[(1, .sl 5)]⟩) Tryz.f117 (memC YI (memC Vx (memC FJ zD))) (by kernel_rfl) (by kernel_rfl) fun x=>by kernel_rfl
theorem J9:zk Tryz.prog (WR Rs):=
 okC (A:=⟨[],[],[],0,[],[],[]⟩) (exS:=⟨[.optr 0],[(0, .row 149)]⟩) Tryz.f123 zD (by kernel_rfl) (by kernel_rfl) fun x=>by kernel_rfl
theorem zkX:zk Tryz.prog (CU qw):=
 okC (A:=⟨[aQ Mo,mP Co,wM Rl],[(2,[1]),(6,[1])],[],1,[],[(3,⟨[0,1],⟨[.own 2149, .int .i64],[(2149, .sl 5)]⟩,[2],[],[],0,[],⟨[],[]⟩,[]⟩),(9,⟨[0],⟨[.own 2252],[(2252, .sl 5)]⟩,[],[],[],0,[],⟨[],[]⟩,[]⟩)],[]⟩) (exS:=⟨[.own 1],[(1, .sl 5)]⟩) Tryz.f121 (memC D5 (memC U4 (memC GY zD))) (by kernel_rfl) (by kernel_rfl) fun x=>by kernel_rfl
theorem znF:zk Tryz.prog (nS Wm):=
 okC (A:=⟨[FI ZY,sS qj,qh strings_IndexByte,aC Zg,CU qw,lI QU,Zk strings_HasPrefix,WR Rs],[(5,[7]),(7,[1]),(12,[1]),(14,[1]),(20,[2]),(22,[1]),(30,[2]),(32,[1]),(38,[4])],[],1,[(16,⟨[0,67],⟨[.own 1942, .int .i64],[(1942, .sl 5)]⟩,[3,4,65,66],[1,4],[],1,[0],⟨[.own 1942],[(1942, .sl 5)]⟩,[1942]⟩),(26,⟨[0,93],⟨[.own 2046, .int .i64],[(2046, .sl 5)]⟩,[3,4,91,92],[1,3],[],3,[0],⟨[.own 2046],[(2046, .sl 5)]⟩,[2046]⟩)],[(12,⟨[5],⟨[.int .i64],[(0, .sl 5)]⟩,[0,3],[1],[0],0,[],⟨[],[]⟩,[]⟩),(21,⟨[0,67],⟨[.own 2044, .int .i64],[(2044, .sl 5)]⟩,[],[],[],0,[],⟨[],[]⟩,[]⟩),(31,⟨[0,93],⟨[.own 2148, .int .i64],[(2148, .sl 5)]⟩,[],[],[],0,[],⟨[],[]⟩,[]⟩)],[]⟩) (exS:=⟨[.own 1],[(1, .sl 5)]⟩) Tryz.f81 (memC yR (memC znE (memC qK (memC FJ (memC zkX (memC LU (memC Zu (memC J9 zD)))))))) (by kernel_rfl) (by kernel_rfl) fun x=>by kernel_rfl
theorem zgJ:zk Tryz.prog (lU ZN):=
 okC (A:=⟨[],[],[],0,[(4,⟨[13],⟨[.int .i64],[]⟩,[0,1,12],[],[],0,[],⟨[],[]⟩,[]⟩)],[],[]⟩) (exS:=⟨[.bool],[]⟩) Tryz.f82 zD (by kernel_rfl) (by kernel_rfl) fun x=>by kernel_rfl
theorem K9:zk Tryz.prog (XR Bp):=
 okC (A:=⟨[GI Xj,EI Qk,nS Wm,gI Qx,lU ZN],[(24,[5])],[],0,[(7,⟨[5,6,7],⟨[.own 2359, .own 2360, .int .i64],[(2359, .sl 5),(2360, .sl 119)]⟩,[0],[],[],0,[5],⟨[.own 2359],[(2359, .sl 5)]⟩,[2359]⟩),(11,⟨[9,36],⟨[.own 1940, .int .i64],[(1940, .sl 5)]⟩,[5,6,7,8,34,35],[2359,2360],[],2,[9],⟨[.own 1940],[(1940, .sl 5)]⟩,[1940]⟩)],[(17,⟨[5,6,7,9],⟨[.own 2359, .own 2360, .int .i64, .own 2462],[(2359, .sl 5),(2360, .sl 119),(2462, .sl 5)]⟩,[8],[],[2359,2360],0,[],⟨[],[]⟩,[]⟩),(21,⟨[5,6,7],⟨[.own 2359, .own 2360, .int .i64],[(2359, .sl 5),(2360, .sl 119),(2463, .row 119)]⟩,[9,12],[2462],[2359,2360,2463],0,[],⟨[],[]⟩,[]⟩),(24,⟨[5,6,7],⟨[.own 2567, .own 2360, .int .i64],[(2360, .sl 119),(2567, .sl 5)]⟩,[],[2463],[2360],0,[],⟨[],[]⟩,[]⟩)],[]⟩) (exS:=⟨[.str, .int .i64],[]⟩) Tryz.f46 (memC BS (memC xR (memC znF (memC FU (memC zgJ zD))))) (by kernel_rfl) (by kernel_rfl) fun x=>by kernel_rfl
theorem I7:zk Tryz.prog (BR Wo):=
 okC (A:=⟨[Px qW,uT QB,XR Bp],[],[],0,[],[],[]⟩) (exS:=⟨[.str, .int .i64],[]⟩) Tryz.f20 (memC vB (memC zmK (memC K9 zD))) (by kernel_rfl) (by kernel_rfl) fun x=>by kernel_rfl
theorem P7:zk Tryz.prog (IR uo):=
 okC (A:=⟨[iB QL,FR ko,BR Wo],[],[],0,[],[(13,⟨[8],⟨[.str],[]⟩,[],[],[],0,[],⟨[],[]⟩,[]⟩)],[]⟩) (exS:=⟨[.str, .int .i64],[]⟩) Tryz.f48 (memC aI (memC N7 (memC I7 zD))) (by kernel_rfl) (by kernel_rfl) fun x=>by kernel_rfl
theorem nR:zk Tryz.prog (kH Yk):=
 okC (A:=⟨[IR uo,nL Il],[(12,[2])],[(14,[(4,none)])],0,[(6,⟨[4,5,16],⟨[.own 2568, .bool, .int .i64],[(2568, .sl 9)]⟩,[14,15],[],[],0,[4,5],⟨[.own 2568, .bool],[(2568, .sl 9)]⟩,[2568]⟩)],[],[]⟩) (exS:=⟨[.str, .int .i64],[]⟩) Tryz.f50 (memC P7 (memC zA5 zD)) (by kernel_rfl) (by kernel_rfl) fun x=>by kernel_rfl
theorem znH:zk Tryz.prog (kS VB):=
 okC (A:=⟨[XB Sj,kH Yk],[],[],0,[],[],[]⟩) (exS:=⟨[.bool],[]⟩) Tryz.f55 (memC KI (memC nR zD)) (by kernel_rfl) (by kernel_rfl) fun x=>by kernel_rfl
theorem znG:zk Tryz.prog (lS Q0):=
 okC (A:=⟨[kS VB],[],[],0,[],[],[]⟩) (exS:=⟨[.bool],[]⟩) Tryz.f54 (memC znH zD) (by kernel_rfl) (by kernel_rfl) fun x=>by kernel_rfl
theorem sI:zk Tryz.prog (AC QF):=
 okC (A:=⟨[],[],[],0,[],[],[]⟩) (exS:=⟨[.int .u8],[]⟩) Tryz.f150 zD (by kernel_rfl) (by kernel_rfl) fun x=>by kernel_rfl
theorem WT:zk Tryz.prog (RI Qa):=
 okC (A:=⟨[AC QF],[],[],0,[(3,⟨[4],⟨[.int .i64],[(0, .sl 5)]⟩,[2,3],[],[0],0,[],⟨[],[(0, .sl 5)]⟩,[0]⟩)],[],[]⟩) (exS:=⟨[.str],[]⟩) Tryz.f105 (memC sI zD) (by kernel_rfl) (by kernel_rfl) fun x=>by kernel_rfl
theorem znQ:zk Tryz.prog (SS yw):=
 okC (A:=⟨[RI Qa],[],[],0,[(4,⟨[3],⟨[.int .i64],[]⟩,[0],[],[],0,[],⟨[],[]⟩,[]⟩)],[],[]⟩) (exS:=⟨[.bool],[]⟩) Tryz.f94 (memC WT zD) (by kernel_rfl) (by kernel_rfl) fun x=>by kernel_rfl
theorem zm3(qd:List zf->Option (List ze))(hs:zk Tryz.prog (Rt qd)):zk Tryz.prog (Rt (DC qd)):=
 okC (A:=⟨[LC Qv,Rt qd],[(5,[6]),(9,[3])],[],0,[(3,⟨[3,4],⟨[.own 2569, .int .i64],[(2569, .sl 44)]⟩,[0,2],[],[],0,[3],⟨[.own 2569],[(2569, .sl 44)]⟩,[2569]⟩)],[(4,⟨[3,4],⟨[.own 2671, .int .i64],[(2671, .sl 44)]⟩,[],[],[],0,[],⟨[],[]⟩,[]⟩)],[]⟩) (exS:=⟨[.sl 44],[]⟩) Tryz.f36 (memC AJ (memC hs zD)) (by kernel_rfl) (by kernel_rfl) fun x=>by kernel_rfl
theorem GU:zk Tryz.prog (Rt qd):=
 zk.recE (I:=I) (P:=Tryz.prog) (f:=36) (inS:=⟨[.sl 49],[]⟩) (cst:=[]) (outS:=⟨[.sl 44],[]⟩) (k:=0) (DC) (by kernel_rfl) (fun S h=>zm3 S h)
theorem zm4(qU:List zf×Int->Option Bool)(hs:zk Tryz.prog (Fy qU)):zk Tryz.prog (Fy (BC qU)):=
 okC (A:=⟨[LC Qv,Fy qU],[],[],0,[(2,⟨[5],⟨[.int .i64],[]⟩,[0,1],[],[],0,[],⟨[],[]⟩,[]⟩)],[],[]⟩) (exS:=⟨[.bool],[]⟩) Tryz.f66 (memC AJ (memC hs zD)) (by kernel_rfl) (by kernel_rfl) fun x=>by kernel_rfl
theorem zmN:zk Tryz.prog (Fy qU):=
 zk.recE (I:=I) (P:=Tryz.prog) (f:=66) (inS:=⟨[.sl 49, .int .u8],[]⟩) (cst:=[]) (outS:=⟨[.bool],[]⟩) (k:=0) (BC) (by kernel_rfl) (fun S h=>zm4 S h)
theorem znN:zk Tryz.prog (WS Ex):=
 okC (A:=⟨[Et Ql,Rt qd,Fy qU],[],[],0,[],[],[]⟩) (exS:=⟨[.int .i64],[]⟩) Tryz.f27 (memC vR (memC GU (memC zmN zD))) (by kernel_rfl) (by kernel_rfl) fun x=>by kernel_rfl
theorem znM:zk Tryz.prog (YS Vm):=
 okC (A:=⟨[],[],[],0,[(2,⟨[3],⟨[.int .i64],[]⟩,[0],[],[],0,[],⟨[],[]⟩,[]⟩)],[],[]⟩) (exS:=⟨[.bool],[]⟩) Tryz.f102 zD (by kernel_rfl) (by kernel_rfl) fun x=>by kernel_rfl
theorem QE:zk Tryz.prog (Qo zY):=
 okC (A:=⟨[],[],[],0,[],[],[]⟩) (exS:=⟨[.bool],[]⟩) Tryz.f148 zD (by kernel_rfl) (by kernel_rfl) fun x=>by kernel_rfl
theorem D9:zk Tryz.prog (MR lw):=
 okC (A:=⟨[Qo zY],[],[],0,[],[],[]⟩) (exS:=⟨[.bool],[]⟩) Tryz.f103 (memC QE zD) (by kernel_rfl) (by kernel_rfl) fun x=>by kernel_rfl
theorem FC:zk Tryz.prog (Xx qm):=
 okC (A:=⟨[],[],[],0,[],[],[]⟩) (exS:=⟨[.bool],[]⟩) Tryz.f178 zD (by kernel_rfl) (by kernel_rfl) fun x=>by kernel_rfl
theorem QD:zk Tryz.prog (QK zO):=
 okC (A:=⟨[],[],[],0,[],[],[]⟩) (exS:=⟨[.int .u8],[]⟩) Tryz.f217 zD (by kernel_rfl) (by kernel_rfl) fun x=>by kernel_rfl
theorem BJ:zk Tryz.prog (MC qR):=
 okC (A:=⟨[QK zO,Xx qm],[],[],0,[(1,⟨[1],⟨[.int .i64],[]⟩,[0,4],[],[],0,[1],⟨[.int .i64],[]⟩,[]⟩)],[],[]⟩) (exS:=⟨[.int .i64],[]⟩) Tryz.f179 (memC QD (memC FC zD)) (by kernel_rfl) (by kernel_rfl) fun x=>by kernel_rfl
theorem wR:zk Tryz.prog (DI Ms):=
 okC (A:=⟨[],[(1,[0])],[],0,[],[],[]⟩) (exS:=⟨[.str],[]⟩) Tryz.f244 zD (by kernel_rfl) (by kernel_rfl) fun x=>by kernel_rfl
theorem D7:zk Tryz.prog (xQ Lm):=
 okC (A:=⟨[Qo zY,AC QF],[],[],0,[],[],[]⟩) (exS:=⟨[.int .i64],[]⟩) Tryz.f245 (memC QE (memC sI zD)) (by kernel_rfl) (by kernel_rfl) fun x=>by kernel_rfl
theorem G9:zk Tryz.prog (TR LB):=
 okC (A:=⟨[DI Ms],[(4,[2]),(6,[8]),(8,[13]),(9,[18])],[],0,[],[],[]⟩) (exS:=⟨[.str],[]⟩) Tryz.f246 (memC wR zD) (by kernel_rfl) (by kernel_rfl) fun x=>by kernel_rfl
theorem VC:zk Tryz.prog (Ay Z8):=
 okC (A:=⟨[DI Ms,xQ Lm,QK zO,Xx qm,TR LB],[],[],0,[(7,⟨[6,7],⟨[.int .i64, .int .i64],[]⟩,[0,1,4,5],[],[],0,[6,7],⟨[.int .i64, .int .i64],[]⟩,[]⟩)],[(12,⟨[7],⟨[.int .i64],[]⟩,[6],[],[],0,[],⟨[],[]⟩,[]⟩)],[]⟩) (exS:=⟨[.str, .int .i64],[]⟩) Tryz.f218 (memC wR (memC D7 (memC QD (memC FC (memC G9 zD))))) (by kernel_rfl) (by kernel_rfl) fun x=>by kernel_rfl
theorem zmM:zk Tryz.prog (rT Lx):=
 okC (A:=⟨[Ay Z8],[],[],0,[(4,⟨[1],⟨[.int .i64],[(0, .row 44),(1, .row 44)]⟩,[0,4,6,7],[],[0,1],0,[1],⟨[.int .i64],[(0, .row 44),(1, .row 44)]⟩,[0,1]⟩)],[],[]⟩) (exS:=⟨[.optr 0, .int .i64],[(0, .row 44)]⟩) Tryz.f180 (memC VC zD) (by kernel_rfl) (by kernel_rfl) fun x=>by kernel_rfl
theorem IU:zk Tryz.prog (iI Jt):=
 okC (A:=⟨[AC QF],[],[],0,[],[],[]⟩) (exS:=⟨[.bool],[]⟩) Tryz.f198 (memC sI zD) (by kernel_rfl) (by kernel_rfl) fun x=>by kernel_rfl
theorem KU:zk Tryz.prog (kI Tp):=
 okC (A:=⟨[iI Jt,Qo zY],[],[],0,[],[],[]⟩) (exS:=⟨[.bool],[]⟩) Tryz.f163 (memC IU (memC QE zD)) (by kernel_rfl) (by kernel_rfl) fun x=>by kernel_rfl
theorem Dy:zk Tryz.prog (Tt Zv):=
 okC (A:=⟨[QK zO],[],[],0,[],[],[]⟩) (exS:=⟨[.bool],[]⟩) Tryz.f181 (memC QD zD) (by kernel_rfl) (by kernel_rfl) fun x=>by kernel_rfl
theorem pI:zk Tryz.prog (yB QG):=
 okC (A:=⟨[kI Tp,Tt Zv,Ay Z8],[],[],0,[(2,⟨[1,6],⟨[.int .i64, .str],[]⟩,[0],[],[],0,[],⟨[],[]⟩,[]⟩)],[],[]⟩) (exS:=⟨[.str, .int .i64],[]⟩) Tryz.f182 (memC KU (memC Dy (memC VC zD))) (by kernel_rfl) (by kernel_rfl) fun x=>by kernel_rfl
theorem JU:zk Tryz.prog (jI qC):=
 okC (A:=⟨[QK zO,iI Jt,Tt Zv],[],[],0,[],[],[]⟩) (exS:=⟨[.bool],[]⟩) Tryz.f183 (memC QD (memC IU (memC Dy zD))) (by kernel_rfl) (by kernel_rfl) fun x=>by kernel_rfl
theorem zj3:zk Tryz.prog (MU EC):=
 okC (A:=⟨[QK zO,Qo zY],[],[],0,[],[(4,⟨[1],⟨[.int .i64],[]⟩,[0],[],[],0,[],⟨[],[]⟩,[]⟩),(6,⟨[1],⟨[.int .i64],[]⟩,[],[],[],0,[],⟨[],[]⟩,[]⟩)],[]⟩) (exS:=⟨[.bool],[]⟩) Tryz.f184 (memC QD (memC QE zD)) (by kernel_rfl) (by kernel_rfl) fun x=>by kernel_rfl
theorem zmL:zk Tryz.prog (tT Rp):=
 okC (A:=⟨[QK zO,Qo zY],[],[],0,[(1,⟨[1],⟨[.int .i64],[]⟩,[0,4],[],[],0,[1],⟨[.int .i64],[]⟩,[]⟩)],[],[]⟩) (exS:=⟨[.int .i64],[]⟩) Tryz.f247 (memC QD (memC QE zD)) (by kernel_rfl) (by kernel_rfl) fun x=>by kernel_rfl
theorem zjn:zk Tryz.prog (UU Cy):=
 okC (A:=⟨[QK zO,tT Rp,Qo zY],[],[],0,[],[(4,⟨[1],⟨[.int .i64],[]⟩,[0],[],[],0,[],⟨[],[]⟩,[]⟩),(9,⟨[1,7],⟨[.int .i64, .bool],[]⟩,[],[],[],0,[],⟨[],[]⟩,[]⟩),(15,⟨[1,7,9],⟨[.int .i64, .bool, .int .i64],[]⟩,[],[],[],0,[],⟨[],[]⟩,[]⟩),(18,⟨[1,7],⟨[.int .i64, .bool],[]⟩,[],[],[],0,[],⟨[],[]⟩,[]⟩)],[]⟩) (exS:=⟨[.int .i64, .bool],[]⟩) Tryz.f219 (memC QD (memC zmL (memC QE zD))) (by kernel_rfl) (by kernel_rfl) fun x=>by kernel_rfl
theorem zhq:zk Tryz.prog (WU QQ):=
 okC (A:=⟨[QK zO,Qo zY],[],[],0,[(5,⟨[3,5],⟨[.str, .int .i64],[]⟩,[4],[],[],0,[3,5],⟨[.str, .int .i64],[]⟩,[]⟩),(10,⟨[3,4,5],⟨[.str, .int .i64, .int .i64],[]⟩,[],[],[],2,[3,4,5],⟨[.str, .int .i64, .int .i64],[]⟩,[]⟩),(20,⟨[5,8],⟨[.int .i64, .int .i64],[]⟩,[4],[],[],4,[8],⟨[.int .i64],[]⟩,[]⟩),(28,⟨[9,10],⟨[.int .i64, .int .i64],[]⟩,[4],[],[],6,[9],⟨[.int .i64],[]⟩,[]⟩),(31,⟨[4,9],⟨[.int .i64, .int .i64],[]⟩,[],[],[],8,[9],⟨[.int .i64],[]⟩,[]⟩)],[(5,⟨[3,4,5],⟨[.str, .int .i64, .int .i64],[]⟩,[0,6],[],[],0,[],⟨[],[]⟩,[]⟩),(14,⟨[3,4,5],⟨[.str, .int .i64, .int .i64],[]⟩,[],[],[],0,[],⟨[],[]⟩,[]⟩),(19,⟨[4,5],⟨[.int .i64, .int .i64],[]⟩,[3,7],[],[],0,[],⟨[],[]⟩,[]⟩),(25,⟨[4,8],⟨[.int .i64, .int .i64],[]⟩,[],[],[],0,[],⟨[],[]⟩,[]⟩),(26,⟨[4],⟨[.int .i64],[]⟩,[3],[],[],0,[],⟨[],[]⟩,[]⟩)],[]⟩) (exS:=⟨[.int .i64],[]⟩) Tryz.f220 (memC QD (memC QE zD)) (by kernel_rfl) (by kernel_rfl) fun x=>by kernel_rfl
theorem zkY:zk Tryz.prog (BU dx):=
 okC (A:=⟨[UU Cy,WU QQ,jI qC,yB QG,QK zO],[],[],0,[],[(9,⟨[6],⟨[.int .i64],[(0, .row 44),(1, .row 44)]⟩,[4,8],[],[0,1],0,[],⟨[],[]⟩,[]⟩)],[]⟩) (exS:=⟨[.optr 0, .int .i64],[(0, .row 44)]⟩) Tryz.f185 (memC zjn (memC zhq (memC JU (memC pI (memC QD zD))))) (by kernel_rfl) (by kernel_rfl) fun x=>by kernel_rfl
theorem l7:zk Tryz.prog (uQ Cs):=
 okC (A:=⟨[],[],[],0,[],[],[]⟩) (exS:=⟨[.bool],[]⟩) Tryz.f186 zD (by kernel_rfl) (by kernel_rfl) fun x=>by kernel_rfl
theorem XT:zk Tryz.prog (SI qZ):=
 okC (A:=⟨[RI Qa],[],[],0,[],[],[]⟩) (exS:=⟨[.bool],[]⟩) Tryz.f72 (memC WT zD) (by kernel_rfl) (by kernel_rfl) fun x=>by kernel_rfl
theorem u7:zk Tryz.prog (vQ Es):=
 okC (A:=⟨[Tt Zv,Ay Z8],[],[],0,[(1,⟨[1],⟨[.int .i64],[]⟩,[0,4,5],[0],[],0,[1],⟨[.int .i64],[]⟩,[]⟩)],[],[]⟩) (exS:=⟨[.optr 0, .int .i64],[(0, .row 44)]⟩) Tryz.f248 (memC Dy (memC VC zD)) (by kernel_rfl) (by kernel_rfl) fun x=>by kernel_rfl
theorem zhr:zk Tryz.prog (VU jC):=
 okC (A:=⟨[],[],[],0,[],[],[]⟩) (exS:=⟨[.bool],[]⟩) Tryz.f249 zD (by kernel_rfl) (by kernel_rfl) fun x=>by kernel_rfl
theorem Y7:zk Tryz.prog (tQ Ow):=
 okC (A:=⟨[MC qR,Xx qm,vQ Es,VU jC,Tt Zv,Ay Z8],[],[],0,[(3,⟨[1],⟨[.int .i64],[(0, .row 44),(1, .row 44)]⟩,[0,4,6],[],[0,1],0,[1],⟨[.int .i64],[(0, .row 44),(1, .row 44)]⟩,[0,1]⟩)],[],[]⟩) (exS:=⟨[.optr 0, .int .i64],[(0, .row 44)]⟩) Tryz.f221 (memC BJ (memC FC (memC u7 (memC zhr (memC Dy (memC VC zD)))))) (by kernel_rfl) (by kernel_rfl) fun x=>by kernel_rfl
theorem E9:zk Tryz.prog (NR ow):=
 okC (A:=⟨[yB QG,QK zO,SI qZ,MC qR,tQ Ow],[],[],0,[],[(8,⟨[],⟨[],[(0, .row 44)]⟩,[4,6,7],[],[0],0,[],⟨[],[]⟩,[]⟩)],[]⟩) (exS:=⟨[.optr 0, .int .i64],[(0, .row 44)]⟩) Tryz.f187 (memC pI (memC QD (memC XT (memC BJ (memC Y7 zD))))) (by kernel_rfl) (by kernel_rfl) fun x=>by kernel_rfl
theorem F9:zk Tryz.prog (PR Ls):=
 okC (A:=⟨[],[],[],0,[],[],[]⟩) (exS:=⟨[.int .u8],[]⟩) Tryz.f188 zD (by kernel_rfl) (by kernel_rfl) fun x=>by kernel_rfl
theorem A8:zk Tryz.prog (wQ Pw):=
 okC (A:=⟨[Xx qm,MC qR,rT Lx,kI Tp,Tt Zv,yB QG,jI qC,MU EC,BU dx,uQ Cs,NR ow,PR Ls],[],[],0,[],[],[]⟩) (exS:=⟨[.optr 0, .int .i64],[(0, .row 44)]⟩) Tryz.f149 (memC FC (memC BJ (memC zmM (memC KU (memC Dy (memC pI (memC JU (memC zj3 (memC zkY (memC l7 (memC E9 (memC F9 zD)))))))))))) (by kernel_rfl) (by kernel_rfl) fun x=>by kernel_rfl
theorem znL:zk Tryz.prog (aS Qb):=
 okC (A:=⟨[wQ Pw],[(1,[1])],[],0,[],[],[]⟩) (exS:=⟨[.bool],[]⟩) Tryz.f104 (memC A8 zD) (by kernel_rfl) (by kernel_rfl) fun x=>by kernel_rfl
theorem C9:zk Tryz.prog (KR kw):=
 okC (A:=⟨[YS Vm,MR lw,aS Qb],[],[],0,[],[(6,⟨[8],⟨[.bool],[(1, .row 44)]⟩,[1,3,7],[0],[1],0,[],⟨[],[]⟩,[]⟩),(13,⟨[56],⟨[.bool],[(1, .row 44)]⟩,[],[],[1],0,[],⟨[],[]⟩,[]⟩),(21,⟨[90],⟨[.bool],[(1, .row 44)]⟩,[],[],[1],0,[],⟨[],[]⟩,[]⟩),(26,⟨[148],⟨[.bool],[]⟩,[],[1],[],0,[],⟨[],[]⟩,[]⟩)],[]⟩) (exS:=⟨[.bool],[]⟩) Tryz.f71 (memC znM (memC D9 (memC znL zD))) (by kernel_rfl) (by kernel_rfl) fun x=>by kernel_rfl
theorem znK:zk Tryz.prog (bS Jp):=
 okC (A:=⟨[KR kw,SI qZ],[],[],0,[(4,⟨[3],⟨[.int .i64],[]⟩,[0],[],[],0,[],⟨[],[]⟩,[]⟩)],[(12,⟨[4],⟨[.int .i64],[]⟩,[3],[],[],0,[],⟨[],[]⟩,[]⟩),(14,⟨[],⟨[],[]⟩,[3],[],[],0,[],⟨[],[]⟩,[]⟩)],[]⟩) (exS:=⟨[.int .i64],[]⟩) Tryz.f35 (memC C9 (memC XT zD)) (by kernel_rfl) (by kernel_rfl) fun x=>by kernel_rfl
theorem zk2(qy:List zf->Option Bool)(hs:zk Tryz.prog (yx qy)):zk Tryz.prog (yx (iC qy)):=
 okC (A:=⟨[yx qy],[],[],0,[(2,⟨[3],⟨[.int .i64],[]⟩,[0],[],[],0,[],⟨[],[]⟩,[]⟩)],[],[]⟩) (exS:=⟨[.bool],[]⟩) Tryz.f131 (memC hs zD) (by kernel_rfl) (by kernel_rfl) fun x=>by kernel_rfl
theorem zk0:zk Tryz.prog (yx qy):=
 zk.recE (I:=I) (P:=Tryz.prog) (f:=131) (inS:=⟨[.sl 49],[]⟩) (cst:=[]) (outS:=⟨[.bool],[]⟩) (k:=0) (iC) (by kernel_rfl) (fun S h=>zk2 S h)
theorem zkZ:zk Tryz.prog (AU ax):=
 okC (A:=⟨[],[],[],0,[(1,⟨[0],⟨[.sl 49],[]⟩,[2],[],[],0,[0],⟨[.sl 49],[]⟩,[]⟩),(3,⟨[0],⟨[.sl 49],[]⟩,[2],[],[],2,[0],⟨[.sl 49],[]⟩,[]⟩)],[],[]⟩) (exS:=⟨[.sl 49],[]⟩) Tryz.f110 zD (by kernel_rfl) (by kernel_rfl) fun x=>by kernel_rfl
theorem zmO:zk Tryz.prog (nT Gx):=
 okC (A:=⟨[],[],[],0,[],[],[]⟩) (exS:=⟨[.bool],[]⟩) Tryz.f132 zD (by kernel_rfl) (by kernel_rfl) fun x=>by kernel_rfl
theorem zmP:zk Tryz.prog (lT Fx):=
 okC (A:=⟨[WS Ex,Rt qd,bS Jp,yx qy,AU ax,nT Gx],[],[],0,[(6,⟨[5],⟨[.int .i64],[]⟩,[1],[],[],0,[],⟨[],[]⟩,[]⟩)],[],[]⟩) (exS:=⟨[.bool],[]⟩) Tryz.f95 (memC znN (memC GU (memC znK (memC zk0 (memC zkZ (memC zmO zD)))))) (by kernel_rfl) (by kernel_rfl) fun x=>by kernel_rfl
theorem znO:zk Tryz.prog (VS Gp):=
 okC (A:=⟨[SS yw,lT Fx],[],[],0,[],[],[]⟩) (exS:=⟨[.int .i64],[]⟩) Tryz.f53 (memC znQ (memC zmP zD)) (by kernel_rfl) (by kernel_rfl) fun x=>by kernel_rfl
theorem F8(Uj:List zf×List zf->Option Bool)(hs:zk Tryz.prog (Ox Uj)):zk Tryz.prog (Ox (bB Uj)):=
 okC (A:=⟨[Ox Uj],[],[],0,[(4,⟨[5],⟨[.int .i64],[]⟩,[0,1],[],[],0,[],⟨[],[]⟩,[]⟩)],[],[]⟩) (exS:=⟨[.bool],[]⟩) Tryz.f22 (memC hs zD) (by kernel_rfl) (by kernel_rfl) fun x=>by kernel_rfl
theorem A9:zk Tryz.prog (Ox Uj):=
 zk.recE (I:=I) (P:=Tryz.prog) (f:=22) (inS:=⟨[.sl 49, .sl 49],[]⟩) (cst:=[]) (outS:=⟨[.bool],[]⟩) (k:=0) (bB) (by kernel_rfl) (fun S h=>F8 S h)
theorem znR:zk Tryz.prog (RS xw):=
 okC (A:=⟨[Ox Uj],[],[],0,[],[],[]⟩) (exS:=⟨[.bool],[]⟩) Tryz.f43 (memC A9 zD) (by kernel_rfl) (by kernel_rfl) fun x=>by kernel_rfl
theorem l8:zk Tryz.prog (uR Ww):=
 okC (A:=⟨[RS xw],[],[],0,[(4,⟨[5],⟨[.int .i64],[]⟩,[0,1],[],[],0,[],⟨[],[]⟩,[]⟩)],[],[]⟩) (exS:=⟨[.bool],[]⟩) Tryz.f44 (memC znR zD) (by kernel_rfl) (by kernel_rfl) fun x=>by kernel_rfl
theorem I9:zk Tryz.prog (VR yo):=
 okC (A:=⟨[kH Yk,XB Sj,uR Ww],[],[],0,[],[],[]⟩) (exS:=⟨[.bool],[]⟩) Tryz.f57 (memC nR (memC KI (memC l8 zD))) (by kernel_rfl) (by kernel_rfl) fun x=>by kernel_rfl
theorem zj2:zk Tryz.prog (NU JC):=
 okC (A:=⟨[TS Dx,lS Q0,XB Sj,iB QL,VS Gp,VR yo],[],[],0,[(6,⟨[7],⟨[.int .i64],[]⟩,[1,5],[],[],0,[],⟨[],[]⟩,[]⟩),(13,⟨[8],⟨[.int .i64],[]⟩,[],[],[],2,[],⟨[],[]⟩,[]⟩)],[(12,⟨[],⟨[],[]⟩,[1],[],[],0,[],⟨[],[]⟩,[]⟩)],[]⟩) (exS:=⟨[.bool],[]⟩) Tryz.f14 (memC znP (memC znG (memC KI (memC aI (memC znO (memC I9 zD)))))) (by kernel_rfl) (by kernel_rfl) fun x=>by kernel_rfl
end Go.Lv.VT
end
