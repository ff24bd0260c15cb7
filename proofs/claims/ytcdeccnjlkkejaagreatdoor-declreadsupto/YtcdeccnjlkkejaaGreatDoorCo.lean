/- Contracts. -/
import Derived.Test.YtcdeccnjlkkejaaGreatDoorTx
import Derived.Test.YtcdeccnjlkkejaaGreatDoorIp
import Derived.Test.YtcdeccnjlkkejaaGreatDoorLf
import Derived.Test.YtcdeccnjlkkejaaGreatDoorPa
noncomputable section
set_option linter.unusedSimpArgs false
set_option linter.unusedVariables false
namespace Go.Lv.VT
set_option maxRecDepth 100000
open Go.Proofs
theorem okC{con:Con I}{A:Env0 I}{exS:StSh}(f:Go.Func)(hS: ∀c∈A.S,zl Tryz.prog c)(hf:Tryz.prog.funcs[con.f]? =some f)(h:chk con A f=true)(he: ∀x,evF2 A T FK f.ntmps (rsl f) (body f) con exS x=con.F x):zl Tryz.prog con:=
 okC0 mixed ipOK tok rfl rfl hS hf h he
def Hy(F:List zb×Int->Option Int):Con I:=⟨58,⟨[.sl 49, .int .i64],[]⟩,[],⟨[.int .i64],[]⟩,0,F⟩
def jy(F:Int->Option Int):Con I:=⟨25,⟨[.int .u8],[]⟩,[],⟨[.int .u8],[]⟩,0,F⟩
def Nt(F:List zb->Option Int):Con I:=⟨59,⟨[.sl 49],[]⟩,[],⟨[.int .i64],[]⟩,0,F⟩
def vQ(F:List zb->Option Bool):Con I:=⟨15,⟨[.sl 49],[]⟩,[],⟨[.bool],[]⟩,0,F⟩
def Mt(F:Int->Option Int):Con I:=⟨61,⟨[.int .u8],[]⟩,[],⟨[.int .u8],[]⟩,0,F⟩
def Ux(F:List zb×Int->Option zJ):Con I:=⟨65,⟨[.sl 49, .int .u8],[]⟩,[],⟨[.val 101],[]⟩,0,F⟩
def Jy(F:List zb->Option Int):Con I:=⟨32,⟨[.sl 49],[]⟩,[],⟨[.int .i64],[]⟩,0,F⟩
def Pm(F:zb×Int->Option Bool):Con I:=⟨91,⟨[.val 49, .int .u8],[]⟩,[],⟨[.bool],[]⟩,0,F⟩
def wP(F:List zb->Option (List zb)):Con I:=⟨107,⟨[.sl 49],[]⟩,[],⟨[.sl 49],[]⟩,0,F⟩
def WQ(F:List zb->Option (List zb)):Con I:=⟨106,⟨[.sl 49],[]⟩,[],⟨[.sl 49],[]⟩,0,F⟩
def QK(F:Str×Str->Option Bool):Con I:=⟨130,⟨[.str, .str],[]⟩,[],⟨[.bool],[]⟩,0,F⟩
def ZG(F:Str×Str->Option Bool):Con I:=⟨93,⟨[.str, .str],[]⟩,[],⟨[.bool],[]⟩,0,F⟩
def dD(F:Str->Option Str):Con I:=⟨108,⟨[.str],[]⟩,[],⟨[.str],[]⟩,0,F⟩
def eD(F:Str×Str->Option Bool):Con I:=⟨109,⟨[.str, .str],[]⟩,[],⟨[.bool],[]⟩,0,F⟩
def UI(F:zb->Option Bool):Con I:=⟨92,⟨[.val 49],[]⟩,[],⟨[.bool],[]⟩,0,F⟩
def CR(F:Int×List zb->Option Bool):Con I:=⟨68,⟨[.int .i64, .optr 0],[(0, .row 23)]⟩,[0],⟨[.bool],[]⟩,0,F⟩
def sS(F:List zb->Option (List zb)):Con I:=⟨98,⟨[.sl 49],[]⟩,[],⟨[.own 0],[(0, .sl 49)]⟩,1,F⟩
def Et(F:List zb->Option (List zb)):Con I:=⟨67,⟨[.sl 49],[]⟩,[],⟨[.sl 49],[]⟩,0,F⟩
def dP(F:List zb->Option (List zb×Int)):Con I:=⟨29,⟨[.sl 49],[]⟩,[],⟨[.sl 49, .int .i64],[]⟩,0,F⟩
def Ry(F:List zb×List zf->Option (List zf)):Con I:=⟨63,⟨[.own 0, .sl 49],[(0, .sl 44)]⟩,[],⟨[.own 1],[(1, .sl 44)]⟩,1,F⟩
def BR(F:List zb->Option (List zf)):Con I:=⟨63,⟨[.nilv, .sl 49],[]⟩,[],⟨[.own 0],[(0, .sl 44)]⟩,1,F⟩
def eP(F:List zb->Option (List zf×Int)):Con I:=⟨18,⟨[.sl 49],[]⟩,[],⟨[.sl 44, .int .i64],[]⟩,0,F⟩
def QJ(F:Str×Int->Option Int):Con I:=⟨119,⟨[.str, .int .u8],[]⟩,[],⟨[.int .i64],[]⟩,0,F⟩
def XQ(F:Str->Option Bool):Con I:=⟨87,⟨[.str],[]⟩,[],⟨[.bool],[]⟩,0,F⟩
def OT(F:Str×Str->Option Str):Con I:=⟨197,⟨[.str, .str],[]⟩,[],⟨[.str],[]⟩,0,F⟩
def nS(F:Str×Str->Option Str):Con I:=⟨162,⟨[.str, .str],[]⟩,[],⟨[.str],[]⟩,0,F⟩
def gI(F:Int->Option Bool):Con I:=⟨155,⟨[.int .u8],[]⟩,[],⟨[.bool],[]⟩,0,F⟩
def aR(F:Str->Option Bool):Con I:=⟨122,⟨[.str],[]⟩,[],⟨[.bool],[]⟩,0,F⟩
def DR(F:Int->Option Bool):Con I:=⟨157,⟨[.int .u8],[]⟩,[],⟨[.bool],[]⟩,0,F⟩
def UQ(F:Int->Option Bool):Con I:=⟨153,⟨[.int .u8],[]⟩,[],⟨[.bool],[]⟩,0,F⟩
def bS(F:Str×Str->Option Bool):Con I:=⟨154,⟨[.str, .str],[]⟩,[],⟨[.bool],[]⟩,0,F⟩
def vP(F:zf->Option Bool):Con I:=⟨115,⟨[.val 44],[]⟩,[],⟨[.bool],[]⟩,0,F⟩
def YR(F:(Int×Int)×List zf->Option Bool):Con I:=⟨116,⟨[.int .i64, .int .u8, .optr 0],[(0, .row 22)]⟩,[0],⟨[.bool],[]⟩,0,F⟩
def TQ(F:List zf->Option Int):Con I:=⟨80,⟨[.sl 44],[]⟩,[],⟨[.int .i64],[]⟩,0,F⟩
def VQ(F:List zf->Option Int):Con I:=⟨79,⟨[.sl 44],[]⟩,[],⟨[.int .i64],[]⟩,0,F⟩
def wR(F:zb->Option Bool):Con I:=⟨128,⟨[.val 49],[]⟩,[],⟨[.bool],[]⟩,0,F⟩
def PT(F:List zb->Option Int):Con I:=⟨129,⟨[.sl 49, .clo 128 []],[]⟩,[],⟨[.int .i64],[]⟩,0,F⟩
def Q6(F:List zb->Option Bool):Con I:=⟨89,⟨[.sl 49, .clo 128 []],[]⟩,[],⟨[.bool],[]⟩,0,F⟩
def qE(F:List zb->Option Bool):Con I:=⟨88,⟨[.sl 49],[]⟩,[],⟨[.bool],[]⟩,0,F⟩
def bR(F:zb->Option Bool):Con I:=⟨90,⟨[.val 49],[]⟩,[],⟨[.bool],[]⟩,0,F⟩
def DT(F:List zb->Option Int):Con I:=⟨129,⟨[.sl 49, .clo 90 []],[]⟩,[],⟨[.int .i64],[]⟩,0,F⟩
def QP(F:List zb->Option Bool):Con I:=⟨89,⟨[.sl 49, .clo 90 []],[]⟩,[],⟨[.bool],[]⟩,0,F⟩
def YQ(F:z8->Option Int):Con I:=⟨52,⟨[.val 66],[]⟩,[],⟨[.int .i64],[]⟩,0,F⟩
def nH(F:List zb->Option (z8×Bool)):Con I:=⟨73,⟨[.sl 49],[]⟩,[],⟨[.val 66, .bool],[]⟩,0,F⟩
def vO(F:List zb->Option (z8×Bool×Int)):Con I:=⟨37,⟨[.sl 49],[]⟩,[],⟨[.val 66, .bool, .int .i64],[]⟩,0,F⟩
def Qj(F:List zb->Option (List zf)):Con I:=⟨36,⟨[.sl 49],[]⟩,[],⟨[.sl 44],[]⟩,0,F⟩
def iy(F:List zb×Int->Option Bool):Con I:=⟨66,⟨[.sl 49, .int .u8],[]⟩,[],⟨[.bool],[]⟩,0,F⟩
def VD(F:List zb->Option Int):Con I:=⟨27,⟨[.sl 49],[]⟩,[],⟨[.int .i64],[]⟩,0,F⟩
def nD(F:List zb->Option (List zb)):Con I:=⟨110,⟨[.sl 49],[]⟩,[],⟨[.sl 49],[]⟩,0,F⟩
def YD(F:Int->Option Int):Con I:=⟨150,⟨[.int .u8],[]⟩,[],⟨[.int .u8],[]⟩,0,F⟩
def aD(F:Str->Option Str):Con I:=⟨105,⟨[.str],[]⟩,[],⟨[.str],[]⟩,0,F⟩
def bD(F:Str×Str->Option Bool):Con I:=⟨72,⟨[.str, .str],[]⟩,[],⟨[.bool],[]⟩,0,F⟩
def NR(F:List zb->Option (List zb×Bool)):Con I:=⟨111,⟨[.sl 49],[]⟩,[],⟨[.sl 49, .bool],[]⟩,0,F⟩
def rQ(F:Str->Option Bool):Con I:=⟨94,⟨[.str],[]⟩,[],⟨[.bool],[]⟩,0,F⟩
def wQ(F:Str->Option Bool):Con I:=⟨102,⟨[.str],[]⟩,[],⟨[.bool],[]⟩,0,F⟩
def qZ(F:Int->Option Bool):Con I:=⟨148,⟨[.int .u8],[]⟩,[],⟨[.bool],[]⟩,0,F⟩
def LQ(F:Str->Option Bool):Con I:=⟨103,⟨[.str],[]⟩,[],⟨[.bool],[]⟩,0,F⟩
def Py(F:Int->Option Bool):Con I:=⟨178,⟨[.int .u8],[]⟩,[],⟨[.bool],[]⟩,0,F⟩
def Qt(F:Str×Int->Option Int):Con I:=⟨217,⟨[.str, .int .i64],[]⟩,[],⟨[.int .u8],[]⟩,0,F⟩
def RD(F:Str×Int->Option Int):Con I:=⟨179,⟨[.str, .int .i64],[]⟩,[],⟨[.int .i64],[]⟩,0,F⟩
def fI(F:Unit->Option Str):Con I:=⟨244,⟨[],[]⟩,[],⟨[.str],[]⟩,0,F⟩
def aP(F:Int->Option Int):Con I:=⟨245,⟨[.int .u8],[]⟩,[],⟨[.int .i64],[]⟩,0,F⟩
def OQ(F:Int->Option Str):Con I:=⟨246,⟨[.int .i64],[]⟩,[],⟨[.str],[]⟩,0,F⟩
def Q4(F:Str×Int->Option (Str×Int)):Con I:=⟨218,⟨[.str, .int .i64],[]⟩,[],⟨[.str, .int .i64],[]⟩,0,F⟩
def VR(F:Str×Int->Option (zf×Int)):Con I:=⟨180,⟨[.str, .int .i64],[]⟩,[],⟨[.val 44, .int .i64],[]⟩,0,F⟩
def MJ(F:Int->Option Bool):Con I:=⟨198,⟨[.int .u8],[]⟩,[],⟨[.bool],[]⟩,0,F⟩
def OJ(F:Int->Option Bool):Con I:=⟨163,⟨[.int .u8],[]⟩,[],⟨[.bool],[]⟩,0,F⟩
def QV(F:Str×Int->Option Bool):Con I:=⟨181,⟨[.str, .int .i64],[]⟩,[],⟨[.bool],[]⟩,0,F⟩
def XD(F:Str×Int->Option (Str×Int)):Con I:=⟨182,⟨[.str, .int .i64],[]⟩,[],⟨[.str, .int .i64],[]⟩,0,F⟩
def NJ(F:Str×Int->Option Bool):Con I:=⟨183,⟨[.str, .int .i64],[]⟩,[],⟨[.bool],[]⟩,0,F⟩
def vR(F:Str×Int->Option Bool):Con I:=⟨184,⟨[.str, .int .i64],[]⟩,[],⟨[.bool],[]⟩,0,F⟩
def WR(F:Str×Int->Option Int):Con I:=⟨247,⟨[.str, .int .i64],[]⟩,[],⟨[.int .i64],[]⟩,0,F⟩
def JS(F:Str×Int->Option (Int×Bool)):Con I:=⟨219,⟨[.str, .int .i64],[]⟩,[],⟨[.int .i64, .bool],[]⟩,0,F⟩
def YS(F:Str->Option Int):Con I:=⟨220,⟨[.str],[]⟩,[],⟨[.int .i64],[]⟩,0,F⟩
def rR(F:Str×Int->Option (zf×Int)):Con I:=⟨185,⟨[.str, .int .i64],[]⟩,[],⟨[.val 44, .int .i64],[]⟩,0,F⟩
def RI(F:Str×Int×Str->Option Bool):Con I:=⟨186,⟨[.str, .int .i64, .str],[]⟩,[],⟨[.bool],[]⟩,0,F⟩
def YP(F:Str×Int->Option (zf×Int)):Con I:=⟨248,⟨[.str, .int .i64],[]⟩,[],⟨[.val 44, .int .i64],[]⟩,0,F⟩
def WS(F:Int->Option Bool):Con I:=⟨249,⟨[.int .u8],[]⟩,[],⟨[.bool],[]⟩,0,F⟩
def XP(F:Str×Int->Option (zf×Int)):Con I:=⟨221,⟨[.str, .int .i64],[]⟩,[],⟨[.val 44, .int .i64],[]⟩,0,F⟩
def MQ(F:Str×Int->Option (zf×Int)):Con I:=⟨187,⟨[.str, .int .i64],[]⟩,[],⟨[.val 44, .int .i64],[]⟩,0,F⟩
def NQ(F:Int->Option Int):Con I:=⟨188,⟨[.int .u8],[]⟩,[],⟨[.int .u8],[]⟩,0,F⟩
def SI(F:Str×Int->Option (zf×Int)):Con I:=⟨149,⟨[.str, .int .i64],[]⟩,[],⟨[.val 44, .int .i64],[]⟩,0,F⟩
def xQ(F:Int->Option Bool):Con I:=⟨104,⟨[.int .u8],[]⟩,[],⟨[.bool],[]⟩,0,F⟩
def KQ(F:zf->Option Bool):Con I:=⟨71,⟨[.val 44],[]⟩,[],⟨[.bool],[]⟩,0,F⟩
def yQ(F:List zf->Option Int):Con I:=⟨35,⟨[.sl 44],[]⟩,[],⟨[.int .i64],[]⟩,0,F⟩
def Q5(F:List zb->Option Bool):Con I:=⟨131,⟨[.sl 49],[]⟩,[],⟨[.bool],[]⟩,0,F⟩
def TR(F:Str->Option Bool):Con I:=⟨132,⟨[.str],[]⟩,[],⟨[.bool],[]⟩,0,F⟩
def PR(F:Str×List zb->Option Bool):Con I:=⟨95,⟨[.str, .sl 49],[]⟩,[],⟨[.bool],[]⟩,0,F⟩
def sQ(F:z8->Option Int):Con I:=⟨53,⟨[.val 66],[]⟩,[],⟨[.int .i64],[]⟩,0,F⟩
def DJ(F:List zb->Option (z8×Bool)):Con I:=⟨74,⟨[.sl 49],[]⟩,[],⟨[.val 66, .bool],[]⟩,0,F⟩
def WP(F:List zb->Option (z8×Bool×Int)):Con I:=⟨38,⟨[.sl 49],[]⟩,[],⟨[.val 66, .bool, .int .i64],[]⟩,0,F⟩
def SQ(F:List zb×Int->Option (List (List zb)×Int)):Con I:=⟨28,⟨[.sl 49, .int .u8],[]⟩,[],⟨[.sl 23, .int .i64],[]⟩,0,F⟩
def OH(F:List zb->Option (List z8×Int)):Con I:=⟨39,⟨[.sl 49],[]⟩,[],⟨[.sl 66, .int .i64],[]⟩,0,F⟩
def tQ(F:List zb×Int->Option (List (List zb))):Con I:=⟨112,⟨[.sl 49, .int .u8],[]⟩,[],⟨[.sl 23],[]⟩,0,F⟩
def OI(F:List zb->Option (List z8)):Con I:=⟨75,⟨[.sl 49],[]⟩,[],⟨[.sl 66],[]⟩,0,F⟩
def tO(F:List zb->Option (List z8×Int)):Con I:=⟨40,⟨[.sl 49],[]⟩,[],⟨[.sl 66, .int .i64],[]⟩,0,F⟩
def NT(F:za->Option za):Con I:=⟨100,⟨[.optr 0],[(0, .row 133)]⟩,[],⟨[],[(0, .row 133)]⟩,0,F⟩
def zy(F:Int×za->Option Int):Con I:=⟨137,⟨[.optr 0, .int .i64],[(0, .row 133)]⟩,[0],⟨[.int .i64],[]⟩,0,F⟩
def Jt(F:Int->Option Bool):Con I:=⟨138,⟨[.int .i64],[]⟩,[],⟨[.bool],[]⟩,0,F⟩
def Qa(F:za->Option za):Con I:=⟨139,⟨[.optr 0, .clo 138 []],[(0, .row 133)]⟩,[],⟨[],[(0, .row 133)]⟩,0,F⟩
def Q7(F:Int->Option (List UInt8)):Con I:=⟨237,⟨[.nilv, .int .i32],[]⟩,[],⟨[.own 0],[(0, .sl 5)]⟩,1,F⟩
def NS(F:Int->Option (List UInt8)):Con I:=⟨210,⟨[.nilv, .int .i32],[]⟩,[],⟨[.own 0],[(0, .sl 5)]⟩,1,F⟩
def ay(F:Int×Int×Int->Option Bool):Con I:=⟨212,⟨[.int .i64, .int .i64, .int .i64],[]⟩,[],⟨[.bool],[]⟩,0,F⟩
def Lt(F:Int->Option Bool):Con I:=⟨174,⟨[.int .i64],[]⟩,[],⟨[.bool],[]⟩,0,F⟩
def NI(F:Int->Option Int):Con I:=⟨211,⟨[.int .i64],[]⟩,[],⟨[.int .i64],[]⟩,0,F⟩
def FT(F:za->Option (za×List UInt8)):Con I:=⟨172,⟨[.optr 0, .nilv],[(0, .row 133)]⟩,[],⟨[.own 1],[(0, .row 133),(1, .sl 5)]⟩,1,F⟩
def Q8(F:Int×List UInt8->Option (List UInt8)):Con I:=⟨237,⟨[.own 0, .int .i32],[(0, .sl 5)]⟩,[],⟨[.own 1],[(1, .sl 5)]⟩,1,F⟩
def MS(F:Int×List UInt8->Option (List UInt8)):Con I:=⟨210,⟨[.own 0, .int .i32],[(0, .sl 5)]⟩,[],⟨[.own 1],[(1, .sl 5)]⟩,1,F⟩
def qa(F:za×List UInt8->Option (za×List UInt8)):Con I:=⟨172,⟨[.optr 0, .own 1],[(0, .row 133),(1, .sl 5)]⟩,[],⟨[.own 2],[(0, .row 133),(2, .sl 5)]⟩,1,F⟩
def xS(F:za->Option (zf×za)):Con I:=⟨140,⟨[.optr 0],[(0, .row 133)]⟩,[],⟨[.val 44],[(0, .row 133)]⟩,0,F⟩
def BJ(F:Int->Option Bool):Con I:=⟨173,⟨[.int .i64],[]⟩,[],⟨[.bool],[]⟩,0,F⟩
def LJ(F:Int->Option Bool):Con I:=⟨141,⟨[.int .i64],[]⟩,[],⟨[.bool],[]⟩,0,F⟩
def ZB(F:Int×za->Option Bool):Con I:=⟨142,⟨[.optr 0, .int .i64],[(0, .row 133)]⟩,[0],⟨[.bool],[]⟩,0,F⟩
def UJ(F:Int×za->Option Bool):Con I:=⟨143,⟨[.optr 0, .int .i64],[(0, .row 133)]⟩,[0],⟨[.bool],[]⟩,0,F⟩
def Qs(F:za->Option (Str×za)):Con I:=⟨144,⟨[.optr 0],[(0, .row 133)]⟩,[],⟨[.str],[(0, .row 133)]⟩,0,F⟩
def yS(F:za->Option Bool):Con I:=⟨145,⟨[.optr 0],[(0, .row 133)]⟩,[0],⟨[.bool],[]⟩,0,F⟩
def uS(F:za->Option za):Con I:=⟨139,⟨[.optr 0, .clo 174 []],[(0, .row 133)]⟩,[],⟨[],[(0, .row 133)]⟩,0,F⟩
def wS(F:za->Option (Bool×za)):Con I:=⟨175,⟨[.optr 0],[(0, .row 133)]⟩,[],⟨[.bool],[(0, .row 133)]⟩,0,F⟩
def RS(F:Str->Option Int):Con I:=⟨176,⟨[.str],[]⟩,[],⟨[.int .i64],[]⟩,0,F⟩
def vS(F:za->Option (zf×za)):Con I:=⟨146,⟨[.optr 0],[(0, .row 133)]⟩,[],⟨[.val 44],[(0, .row 133)]⟩,0,F⟩
def VS(F:za->Option (zf×za)):Con I:=⟨216,⟨[.optr 0],[(0, .row 133)]⟩,[],⟨[.val 44],[(0, .row 133)]⟩,0,F⟩
def SS(F:za->Option (zf×za)):Con I:=⟨177,⟨[.optr 0],[(0, .row 133)]⟩,[],⟨[.val 44],[(0, .row 133)]⟩,0,F⟩
def kS(F:za->Option (zf×za)):Con I:=⟨147,⟨[.optr 0],[(0, .row 133)]⟩,[],⟨[.val 44],[(0, .row 133)]⟩,0,F⟩
def lS(F:za->Option (zf×za)):Con I:=⟨101,⟨[.optr 0],[(0, .row 133)]⟩,[],⟨[.val 44],[(0, .row 133)]⟩,0,F⟩
def aS(F:(zf×Int×Int)×List zf->Option (List zf)):Con I:=⟨70,⟨[.val 44, .int .i64, .int .i64, .optr 0],[(0, .cells 22 [.own 1]),(1, .sl 44)]⟩,[],⟨[],[(0, .cells 22 [.own 2]),(2, .sl 44)]⟩,1,F⟩
def KR(F:Str->Option (Int×List zf)):Con I:=⟨69,⟨[.str, .clo 70 [0]],[(0, .cells 22 [.nilv])]⟩,[],⟨[.int .i64],[(0, .cells 22 [.own 1]),(1, .sl 44)]⟩,1,F⟩
def MR(F:Str->Option (List zf×Int)):Con I:=⟨33,⟨[.str],[]⟩,[],⟨[.sl 44, .int .i64],[]⟩,0,F⟩
def xP(F:Str->Option (List z8×Int)):Con I:=⟨41,⟨[.str],[]⟩,[],⟨[.sl 66, .int .i64],[]⟩,0,F⟩
def uR(F:Str->Option Str):Con I:=⟨151,⟨[.str],[]⟩,[],⟨[.str],[]⟩,0,F⟩
def AR(F:Str->Option (Str×Int)):Con I:=⟨113,⟨[.str],[]⟩,[],⟨[.str, .int .i64],[]⟩,0,F⟩
def RQ(F:Str×Int->Option Int):Con I:=⟨152,⟨[.str, .int .i64],[]⟩,[],⟨[.int .i64],[]⟩,0,F⟩
def bP(F:Str->Option (List zf×List Zg)):Con I:=⟨114,⟨[.str],[]⟩,[],⟨[.sl 44, .sl 172],[]⟩,0,F⟩
def XR(F:Str->Option (List zf×Int)):Con I:=⟨76,⟨[.str],[]⟩,[],⟨[.sl 44, .int .i64],[]⟩,0,F⟩
def gy(F:List zf×Int×Int×Int->Option (List zb×Int)):Con I:=⟨96,⟨[.sl 44, .int .i64, .int .u8, .int .i64],[]⟩,[],⟨[.sl 49, .int .i64],[]⟩,0,F⟩
def UR(F:List zf->Option (List zb×Bool)):Con I:=⟨62,⟨[.sl 44],[]⟩,[],⟨[.sl 49, .bool],[]⟩,0,F⟩
def uQ(F:List zf->Option (List zb×Int)):Con I:=⟨17,⟨[.sl 44],[]⟩,[],⟨[.sl 49, .int .i64],[]⟩,0,F⟩
def JQ(F:Str->Option (List z8×Int)):Con I:=⟨42,⟨[.str],[]⟩,[],⟨[.sl 66, .int .i64],[]⟩,0,F⟩
def Iy(F:List zb×List zb->Option Bool):Con I:=⟨22,⟨[.sl 49, .sl 49],[]⟩,[],⟨[.bool],[]⟩,0,F⟩
def CJ(F:z8×z8->Option Bool):Con I:=⟨43,⟨[.val 66, .val 66],[]⟩,[],⟨[.bool],[]⟩,0,F⟩
def IQ(F:List z8×List z8->Option Bool):Con I:=⟨44,⟨[.sl 66, .sl 66],[]⟩,[],⟨[.bool],[]⟩,0,F⟩
def KS(F:List zb×Str->Option Bool):Con I:=⟨8,⟨[.sl 49, .str],[]⟩,[],⟨[.bool],[]⟩,0,F⟩
def MM(F:Str->Option (Str×Int)):Con I:=⟨99,⟨[.str],[]⟩,[],⟨[.str, .int .i64],[]⟩,0,F⟩
theorem mX:zl Tryz.prog (MM Dl):=SY
def iN(F:Str×Int->Option Int):Con I:=⟨156,⟨[.str, .int .u8],[]⟩,[],⟨[.int .i64],[]⟩,0,F⟩
theorem tY:zl Tryz.prog (iN Mv):=uZ
def wF(F:Str×Str->Option Int):Con I:=⟨136,⟨[.str, .str],[]⟩,[],⟨[.int .i64],[]⟩,0,F⟩
theorem GN:zl Tryz.prog (wF nk):=RY
def KM(F:Str×Str->Option Str):Con I:=⟨213,⟨[.str, .str],[]⟩,[],⟨[.str],[]⟩,0,F⟩
theorem kX:zl Tryz.prog (KM xk):=OY
def uP(F:Str×Str->Option Int):Con I:=⟨214,⟨[.str, .str],[]⟩,[],⟨[.int .i64],[]⟩,0,F⟩
theorem P6:zl Tryz.prog (uP Jl):=X5
def dU(F:Str×Str->Option (Str×Str×Bool)):Con I:=⟨215,⟨[.str, .str],[]⟩,[],⟨[.str, .str, .bool],[]⟩,0,F⟩
theorem zBo:zl Tryz.prog (dU cutF):=zA6
def LM(F:List zf->Option (List zb×Int)):Con I:=⟨16,⟨[.sl 44],[]⟩,[],⟨[.sl 49, .int .i64],[]⟩,0,F⟩
theorem lX:zl Tryz.prog (LM parseF):=PY
theorem G7(qY:List zb×Int->Option Int)(hs:zl Tryz.prog (Hy qY)):zl Tryz.prog (Hy (Ws qY)):=
 okC (A:=⟨[Hy qY],[],[],0,[(3,⟨[5,6],⟨[.int .i64, .int .i64],[]⟩,[0,1,4],[],[],0,[5],⟨[.int .i64],[]⟩,[]⟩)],[],[]⟩) (exS:=⟨[.int .i64],[]⟩) Tryz.f58 (memC hs zB) (by kernel_rfl) (by kernel_rfl) fun x=>by kernel_rfl
theorem F8:zl Tryz.prog (Hy qY):=
 zl.recE (I:=I) (P:=Tryz.prog) (f:=58) (inS:=⟨[.sl 49, .int .i64],[]⟩) (cst:=[]) (outS:=⟨[.int .i64],[]⟩) (k:=0) (Ws) (by kernel_rfl) (fun S h=>G7 S h)
theorem kD:zl Tryz.prog (jy qg):=
 okC (A:=⟨[],[],[],0,[],[(6,⟨[6],⟨[.bool],[]⟩,[3],[],[],0,[],⟨[],[]⟩,[]⟩)],[]⟩) (exS:=⟨[.int .u8],[]⟩) Tryz.f25 zB (by kernel_rfl) (by kernel_rfl) fun x=>by kernel_rfl
theorem I7(qX:List zb->Option Int)(hs:zl Tryz.prog (Nt qX)):zl Tryz.prog (Nt (DD qX)):=
 okC (A:=⟨[jy qg,Nt qX],[],[],0,[(3,⟨[3,4],⟨[.int .i64, .int .i64],[]⟩,[0,2],[],[],0,[3],⟨[.int .i64],[]⟩,[]⟩)],[(4,⟨[3,4],⟨[.int .i64, .int .i64],[]⟩,[],[],[],0,[],⟨[],[]⟩,[]⟩)],[]⟩) (exS:=⟨[.int .i64],[]⟩) Tryz.f59 (memC kD (memC hs zB)) (by kernel_rfl) (by kernel_rfl) fun x=>by kernel_rfl
theorem jQ:zl Tryz.prog (Nt qX):=
 zl.recE (I:=I) (P:=Tryz.prog) (f:=59) (inS:=⟨[.sl 49],[]⟩) (cst:=[]) (outS:=⟨[.int .i64],[]⟩) (k:=0) (DD) (by kernel_rfl) (fun S h=>I7 S h)
theorem znJ:zl Tryz.prog (vQ dx):=
 okC (A:=⟨[Hy qY,Nt qX],[],[],0,[],[],[]⟩) (exS:=⟨[.bool],[]⟩) Tryz.f15 (memC F8 (memC jQ zB)) (by kernel_rfl) (by kernel_rfl) fun x=>by kernel_rfl
theorem Xy:zl Tryz.prog (Mt qo):=
 okC (A:=⟨[],[],[],0,[],[(7,⟨[6],⟨[.bool],[]⟩,[0],[],[],0,[],⟨[],[]⟩,[]⟩)],[]⟩) (exS:=⟨[.int .u8],[]⟩) Tryz.f61 zB (by kernel_rfl) (by kernel_rfl) fun x=>by kernel_rfl
theorem K4(Vk:List zb×Int->Option zJ)(hs:zl Tryz.prog (Ux Vk)):zl Tryz.prog (Ux (xC Vk)):=
 okC (A:=⟨[Mt qo,Ux Vk],[],[],0,[(3,⟨[12],⟨[.int .i64],[(1, .row 101)]⟩,[1,4,5,10,11],[0],[1],0,[],⟨[],[(1, .row 101)]⟩,[1]⟩)],[(9,⟨[],⟨[],[(1, .row 101)]⟩,[7,8,12],[2],[1],0,[],⟨[],[]⟩,[]⟩),(12,⟨[12],⟨[.int .i64],[(1, .row 101)]⟩,[],[],[1],0,[],⟨[],[]⟩,[]⟩)],[]⟩) (exS:=⟨[.optr 0],[(0, .row 101)]⟩) Tryz.f65 (memC Xy (memC hs zB)) (by kernel_rfl) (by kernel_rfl) fun x=>by kernel_rfl
theorem L6:zl Tryz.prog (Ux Vk):=
 zl.recE (I:=I) (P:=Tryz.prog) (f:=65) (inS:=⟨[.sl 49, .int .u8],[]⟩) (cst:=[]) (outS:=⟨[.val 101],[]⟩) (k:=0) (xC) (by kernel_rfl) (fun S h=>K4 S h)
theorem TD:zl Tryz.prog (Jy Qw):=
 okC (A:=⟨[Ux Vk],[],[],0,[],[],[]⟩) (exS:=⟨[.int .i64],[]⟩) Tryz.f32 (memC L6 zB) (by kernel_rfl) (by kernel_rfl) fun x=>by kernel_rfl
theorem Ap:zl Tryz.prog (Pm ZE):=
 okC (A:=⟨[],[],[],0,[],[],[]⟩) (exS:=⟨[.bool],[]⟩) Tryz.f91 zB (by kernel_rfl) (by kernel_rfl) fun x=>by kernel_rfl
theorem U6:zl Tryz.prog (wP Uo):=
 okC (A:=⟨[Pm ZE],[],[],0,[(1,⟨[0],⟨[.sl 49],[]⟩,[2],[],[],0,[0],⟨[.sl 49],[]⟩,[]⟩)],[],[]⟩) (exS:=⟨[.sl 49],[]⟩) Tryz.f107 (memC Ap zB) (by kernel_rfl) (by kernel_rfl) fun x=>by kernel_rfl
theorem U8:zl Tryz.prog (WQ Ol):=
 okC (A:=⟨[Pm ZE],[],[],0,[(1,⟨[0],⟨[.sl 49],[]⟩,[2],[],[],0,[0],⟨[.sl 49],[]⟩,[]⟩)],[],[]⟩) (exS:=⟨[.sl 49],[]⟩) Tryz.f106 (memC Ap zB) (by kernel_rfl) (by kernel_rfl) fun x=>by kernel_rfl
theorem KT:zl Tryz.prog (QK stringslite_HasPrefix):=
 okC (A:=⟨[],[],[],0,[],[],[]⟩) (exS:=⟨[.bool],[]⟩) Tryz.f130 zB (by kernel_rfl) (by kernel_rfl) fun x=>by kernel_rfl
theorem ZV:zl Tryz.prog (ZG strings_HasPrefix):=
 okC (A:=⟨[QK stringslite_HasPrefix],[],[],0,[],[],[]⟩) (exS:=⟨[.bool],[]⟩) Tryz.f93 (memC KT zB) (by kernel_rfl) (by kernel_rfl) fun x=>by kernel_rfl
theorem yI:zl Tryz.prog (dD qK):=
 okC (A:=⟨[],[],[],0,[(3,⟨[10],⟨[.int .i64],[(0, .sl 5)]⟩,[2,3,8,9],[],[0],0,[],⟨[],[(0, .sl 5)]⟩,[0]⟩)],[(7,⟨[10],⟨[.int .i64],[(0, .sl 5)]⟩,[],[],[0],0,[],⟨[],[]⟩,[]⟩)],[]⟩) (exS:=⟨[.str],[]⟩) Tryz.f108 zB (by kernel_rfl) (by kernel_rfl) fun x=>by kernel_rfl
theorem JJ:zl Tryz.prog (eD Qk):=
 okC (A:=⟨[dD qK],[],[],0,[],[],[]⟩) (exS:=⟨[.bool],[]⟩) Tryz.f109 (memC yI zB) (by kernel_rfl) (by kernel_rfl) fun x=>by kernel_rfl
theorem AQ:zl Tryz.prog (UI Kl):=
 okC (A:=⟨[Pm ZE],[],[],0,[],[],[]⟩) (exS:=⟨[.bool],[]⟩) Tryz.f92 (memC Ap zB) (by kernel_rfl) (by kernel_rfl) fun x=>by kernel_rfl
theorem znC:zl Tryz.prog (CR Bt):=
 okC (A:=⟨[],[],[],1,[],[],[]⟩) (exS:=⟨[.bool],[]⟩) Tryz.f68 zB (by kernel_rfl) (by kernel_rfl) fun x=>by kernel_rfl
theorem zfQ:zl Tryz.prog (sS Qg):=
 okC (A:=⟨[],[],[],0,[],[],[]⟩) (exS:=⟨[.own 0],[(0, .sl 49)]⟩) Tryz.f98 zB (by kernel_rfl) (by kernel_rfl) fun x=>by kernel_rfl
theorem J4(Qx:List zb->Option (List zb))(hs:zl Tryz.prog (Et Qx)):zl Tryz.prog (Et (wC Qx)):=
 okC (A:=⟨[sS Qg,Et Qx],[],[],0,[(3,⟨[8],⟨[.int .i64],[(0, .sl 49)]⟩,[0,2,7],[],[0],0,[],⟨[],[(0, .sl 49)]⟩,[0]⟩)],[],[]⟩) (exS:=⟨[.sl 49],[]⟩) Tryz.f67 (memC zfQ (memC hs zB)) (by kernel_rfl) (by kernel_rfl) fun x=>by kernel_rfl
theorem iQ:zl Tryz.prog (Et Qx):=
 zl.recE (I:=I) (P:=Tryz.prog) (f:=67) (inS:=⟨[.sl 49],[]⟩) (cst:=[]) (outS:=⟨[.sl 49],[]⟩) (k:=0) (wC) (by kernel_rfl) (fun S h=>J4 S h)
theorem M6:zl Tryz.prog (dP Ow):=
 okC (A:=⟨[Jy Qw,CR Bt,Et Qx],[],[],0,[(6,⟨[6],⟨[.int .i64],[]⟩,[1,2,3,5,7],[0],[],0,[6],⟨[.int .i64],[]⟩,[]⟩),(8,⟨[7],⟨[.int .i64],[]⟩,[1,2,3,5,6],[0],[],2,[7],⟨[.int .i64],[]⟩,[]⟩)],[],[]⟩) (exS:=⟨[.sl 49, .int .i64],[]⟩) Tryz.f29 (memC TD (memC znC (memC iQ zB))) (by kernel_rfl) (by kernel_rfl) fun x=>by kernel_rfl
theorem V9(Ql:List zb×List zf->Option (List zf))(hs:zl Tryz.prog (Ry Ql)):zl Tryz.prog (Ry (UD Ql)):=
 okC (A:=⟨[Mt qo,Ry Ql],[(4,[3]),(7,[6])],[],1,[(2,⟨[0,10],⟨[.own 1001, .int .i64],[(1001, .sl 44)]⟩,[4,8,9],[],[],0,[0],⟨[.own 1001],[(1001, .sl 44)]⟩,[1001]⟩)],[(8,⟨[0,10],⟨[.own 1103, .int .i64],[(1103, .sl 44)]⟩,[],[],[],0,[],⟨[],[]⟩,[]⟩)],[]⟩) (exS:=⟨[.own 1],[(1, .sl 44)]⟩) Tryz.f63 (memC Xy (memC hs zB)) (by kernel_rfl) (by kernel_rfl) fun x=>by kernel_rfl
theorem znE:zl Tryz.prog (Ry Ql):=
 zl.recE (I:=I) (P:=Tryz.prog) (f:=63) (inS:=⟨[.own 0, .sl 49],[(0, .sl 44)]⟩) (cst:=[]) (outS:=⟨[.own 1],[(1, .sl 44)]⟩) (k:=1) (UD) (by kernel_rfl) (fun S h=>V9 S h)
theorem znD:zl Tryz.prog (BR Rx):=
 okC (A:=⟨[Mt qo,Ry Ql],[(4,[3]),(7,[6])],[],0,[(2,⟨[0,10],⟨[.own 1105, .int .i64],[(1105, .sl 44)]⟩,[4,8,9],[],[],0,[0],⟨[.own 1105],[(1105, .sl 44)]⟩,[1105]⟩)],[(8,⟨[0,10],⟨[.own 1207, .int .i64],[(1207, .sl 44)]⟩,[],[],[],0,[],⟨[],[]⟩,[]⟩)],[]⟩) (exS:=⟨[.own 0],[(0, .sl 44)]⟩) Tryz.f63 (memC Xy (memC znE zB)) (by kernel_rfl) (by kernel_rfl) fun x=>by kernel_rfl
theorem O6:zl Tryz.prog (eP Pw):=
 okC (A:=⟨[Jy Qw,BR Rx],[],[],0,[],[],[]⟩) (exS:=⟨[.sl 44, .int .i64],[]⟩) Tryz.f18 (memC TD (memC znD zB)) (by kernel_rfl) (by kernel_rfl) fun x=>by kernel_rfl
theorem XJ:zl Tryz.prog (QJ strings_IndexByte):=
 okC (A:=⟨[iN Mv],[],[],0,[],[],[]⟩) (exS:=⟨[.int .i64],[]⟩) Tryz.f119 (memC tY zB) (by kernel_rfl) (by kernel_rfl) fun x=>by kernel_rfl
theorem V8:zl Tryz.prog (XQ ww):=
 okC (A:=⟨[QJ strings_IndexByte,ZG strings_HasPrefix,dD qK],[],[],0,[],[],[]⟩) (exS:=⟨[.bool],[]⟩) Tryz.f87 (memC XJ (memC ZV (memC yI zB))) (by kernel_rfl) (by kernel_rfl) fun x=>by kernel_rfl
theorem zeh:zl Tryz.prog (OT stringslite_TrimPrefix):=
 okC (A:=⟨[QK stringslite_HasPrefix],[],[],0,[],[],[]⟩) (exS:=⟨[.str],[]⟩) Tryz.f197 (memC KT zB) (by kernel_rfl) (by kernel_rfl) fun x=>by kernel_rfl
theorem zfR:zl Tryz.prog (nS strings_TrimPrefix):=
 okC (A:=⟨[OT stringslite_TrimPrefix],[],[],0,[],[],[]⟩) (exS:=⟨[.str],[]⟩) Tryz.f162 (memC zeh zB) (by kernel_rfl) (by kernel_rfl) fun x=>by kernel_rfl
theorem lQ:zl Tryz.prog (gI Wm):=
 okC (A:=⟨[],[],[],0,[],[],[]⟩) (exS:=⟨[.bool],[]⟩) Tryz.f155 zB (by kernel_rfl) (by kernel_rfl) fun x=>by kernel_rfl
theorem zml:zl Tryz.prog (aR Fy):=
 okC (A:=⟨[nS strings_TrimPrefix,gI Wm],[],[],0,[],[],[]⟩) (exS:=⟨[.bool],[]⟩) Tryz.f122 (memC zfR (memC lQ zB)) (by kernel_rfl) (by kernel_rfl) fun x=>by kernel_rfl
theorem znB:zl Tryz.prog (DR II):=
 okC (A:=⟨[],[],[],0,[],[],[]⟩) (exS:=⟨[.bool],[]⟩) Tryz.f157 zB (by kernel_rfl) (by kernel_rfl) fun x=>by kernel_rfl
theorem P8:zl Tryz.prog (UQ sw):=
 okC (A:=⟨[DR II,gI Wm],[],[],0,[],[],[]⟩) (exS:=⟨[.bool],[]⟩) Tryz.f153 (memC znB (memC lQ zB)) (by kernel_rfl) (by kernel_rfl) fun x=>by kernel_rfl
theorem zht:zl Tryz.prog (bS strings_Contains):=
 okC (A:=⟨[wF nk],[],[],0,[],[],[]⟩) (exS:=⟨[.bool],[]⟩) Tryz.f154 (memC GN zB) (by kernel_rfl) (by kernel_rfl) fun x=>by kernel_rfl
theorem R6:zl Tryz.prog (vP Tw):=
 okC (A:=⟨[QJ strings_IndexByte,aR Fy,ZG strings_HasPrefix,UQ sw,bS strings_Contains],[],[],0,[],[(8,⟨[3,4,5,6,7,25],⟨[.bool, .bool, .bool, .bool, .bool, .bool],[]⟩,[1,16],[],[],0,[],⟨[],[]⟩,[]⟩),(14,⟨[3,4,5,6,7,63],⟨[.bool, .bool, .bool, .bool, .bool, .bool],[]⟩,[],[],[],0,[],⟨[],[]⟩,[]⟩),(22,⟨[4,5,6,7,94],⟨[.bool, .bool, .bool, .bool, .bool],[]⟩,[3],[],[],0,[],⟨[],[]⟩,[]⟩),(24,⟨[3,4,5,6,7],⟨[.bool, .bool, .bool, .bool, .bool],[]⟩,[1],[0],[],0,[],⟨[],[]⟩,[]⟩)],[]⟩) (exS:=⟨[.bool],[]⟩) Tryz.f115 (memC XJ (memC zml (memC ZV (memC P8 (memC zht zB))))) (by kernel_rfl) (by kernel_rfl) fun x=>by kernel_rfl
theorem zmm:zl Tryz.prog (YR Qc):=
 okC (A:=⟨[],[],[],1,[],[],[]⟩) (exS:=⟨[.bool],[]⟩) Tryz.f116 zB (by kernel_rfl) (by kernel_rfl) fun x=>by kernel_rfl
theorem O8:zl Tryz.prog (TQ ow):=
 okC (A:=⟨[YR Qc,eD Qk],[],[],0,[],[(11,⟨[5],⟨[.int .i64],[]⟩,[3],[0],[],0,[],⟨[],[]⟩,[]⟩)],[]⟩) (exS:=⟨[.int .i64],[]⟩) Tryz.f80 (memC zmm (memC JJ zB)) (by kernel_rfl) (by kernel_rfl) fun x=>by kernel_rfl
theorem R8:zl Tryz.prog (VQ Rs):=
 okC (A:=⟨[vP Tw,TQ ow],[],[],0,[(4,⟨[10],⟨[.int .i64],[]⟩,[0,8,9],[],[],0,[],⟨[],[]⟩,[]⟩)],[],[]⟩) (exS:=⟨[.int .i64],[]⟩) Tryz.f79 (memC R6 (memC O8 zB)) (by kernel_rfl) (by kernel_rfl) fun x=>by kernel_rfl
theorem zjj(zz:List zb->Option Bool)(h_decl_closers:zl Tryz.prog (qE zz)):zl Tryz.prog (wR (QW zz)):=
 okC (A:=⟨[Pm ZE,qE zz],[],[],0,[],[],[]⟩) (exS:=⟨[.bool],[]⟩) Tryz.f128 (memC Ap (memC h_decl_closers zB)) (by kernel_rfl) (by kernel_rfl) fun x=>by kernel_rfl
theorem zeg(zz:List zb->Option Bool)(h_decl_closers:zl Tryz.prog (qE zz)):zl Tryz.prog (PT (qQ zz)):=
 okC (A:=⟨[wR (QW zz)],[],[],0,[(2,⟨[8],⟨[.int .i64],[]⟩,[0,1,7],[],[],0,[],⟨[],[]⟩,[]⟩)],[],[]⟩) (exS:=⟨[.int .i64],[]⟩) Tryz.f129 (memC (zjj zz h_decl_closers) zB) (by kernel_rfl) (by kernel_rfl) fun x=>by kernel_rfl
theorem zc0(zz:List zb->Option Bool)(h_decl_closers:zl Tryz.prog (qE zz)):zl Tryz.prog (Q6 (qc zz)):=
 okC (A:=⟨[PT (qQ zz)],[],[],0,[],[],[]⟩) (exS:=⟨[.bool],[]⟩) Tryz.f89 (memC (zeg zz h_decl_closers) zB) (by kernel_rfl) (by kernel_rfl) fun x=>by kernel_rfl
theorem zmV(zz:List zb->Option Bool)(hs:zl Tryz.prog (qE zz)):zl Tryz.prog (qE (PD zz)):=
 okC (A:=⟨[Q6 (qc zz)],[],[],0,[],[],[]⟩) (exS:=⟨[.bool],[]⟩) Tryz.f88 (memC (zc0 zz hs) zB) (by kernel_rfl) (by kernel_rfl) fun x=>by kernel_rfl
theorem zmj:zl Tryz.prog (qE zz):=
 zl.recE (I:=I) (P:=Tryz.prog) (f:=88) (inS:=⟨[.sl 49],[]⟩) (cst:=[]) (outS:=⟨[.bool],[]⟩) (k:=0) (PD) (by kernel_rfl) (fun S h=>zmV S h)
theorem zmi:zl Tryz.prog (bR Gy):=
 okC (A:=⟨[Pm ZE,UI Kl],[],[],0,[],[],[]⟩) (exS:=⟨[.bool],[]⟩) Tryz.f90 (memC Ap (memC AQ zB)) (by kernel_rfl) (by kernel_rfl) fun x=>by kernel_rfl
theorem zdy:zl Tryz.prog (DT qj):=
 okC (A:=⟨[bR Gy],[],[],0,[(2,⟨[8],⟨[.int .i64],[]⟩,[0,1,7],[],[],0,[],⟨[],[]⟩,[]⟩)],[],[]⟩) (exS:=⟨[.int .i64],[]⟩) Tryz.f129 (memC zmi zB) (by kernel_rfl) (by kernel_rfl) fun x=>by kernel_rfl
theorem zcu:zl Tryz.prog (QP Zp):=
 okC (A:=⟨[DT qj],[],[],0,[],[],[]⟩) (exS:=⟨[.bool],[]⟩) Tryz.f89 (memC zdy zB) (by kernel_rfl) (by kernel_rfl) fun x=>by kernel_rfl
theorem X8:zl Tryz.prog (YQ xw):=
 okC (A:=⟨[eP Pw,XQ ww,VQ Rs,qE zz,QP Zp,ZG strings_HasPrefix,Pm ZE],[],[],0,[],[],[]⟩) (exS:=⟨[.int .i64],[]⟩) Tryz.f52 (memC O6 (memC V8 (memC R8 (memC zmj (memC zcu (memC ZV (memC Ap zB))))))) (by kernel_rfl) (by kernel_rfl) fun x=>by kernel_rfl
theorem IP:zl Tryz.prog (nH Io):=
 okC (A:=⟨[wP Uo,WQ Ol,Pm ZE,ZG strings_HasPrefix,dD qK,eD Qk,UI Kl,dP Ow,YQ xw],[],[],0,[],[(7,⟨[0],⟨[.sl 49],[(0, .cells 66 [.str, .nilv, .bool]),(1, .cells 66 [.str, .nilv, .bool])]⟩,[2,4],[],[0,1],0,[],⟨[],[]⟩,[]⟩),(16,⟨[0],⟨[.sl 49],[(0, .cells 66 [.str, .nilv, .bool]),(1, .cells 66 [.str, .nilv, .bool])]⟩,[],[],[0,1],0,[],⟨[],[]⟩,[]⟩)],[]⟩) (exS:=⟨[.optr 0, .bool],[(0, .row 66)]⟩) Tryz.f73 (memC U6 (memC U8 (memC Ap (memC ZV (memC yI (memC JJ (memC AQ (memC M6 (memC X8 zB))))))))) (by kernel_rfl) (by kernel_rfl) fun x=>by kernel_rfl
theorem K3:zl Tryz.prog (vO Gw):=
 okC (A:=⟨[Jy Qw,nH Io],[],[],0,[],[],[]⟩) (exS:=⟨[.optr 0, .bool, .int .i64],[(0, .row 66)]⟩) Tryz.f37 (memC TD (memC IP zB)) (by kernel_rfl) (by kernel_rfl) fun x=>by kernel_rfl
theorem zmW(Zz:List zb->Option (List zf))(hs:zl Tryz.prog (Qj Zz)):zl Tryz.prog (Qj (KD Zz)):=
 okC (A:=⟨[jy qg,Qj Zz],[(5,[6]),(9,[3])],[],0,[(3,⟨[3,4],⟨[.own 1208, .int .i64],[(1208, .sl 44)]⟩,[0,2],[],[],0,[3],⟨[.own 1208],[(1208, .sl 44)]⟩,[1208]⟩)],[(4,⟨[3,4],⟨[.own 1310, .int .i64],[(1310, .sl 44)]⟩,[],[],[],0,[],⟨[],[]⟩,[]⟩)],[]⟩) (exS:=⟨[.sl 44],[]⟩) Tryz.f36 (memC kD (memC hs zB)) (by kernel_rfl) (by kernel_rfl) fun x=>by kernel_rfl
theorem FJ:zl Tryz.prog (Qj Zz):=
 zl.recE (I:=I) (P:=Tryz.prog) (f:=36) (inS:=⟨[.sl 49],[]⟩) (cst:=[]) (outS:=⟨[.sl 44],[]⟩) (k:=0) (KD) (by kernel_rfl) (fun S h=>zmW S h)
theorem zmX(qG:List zb×Int->Option Bool)(hs:zl Tryz.prog (iy qG)):zl Tryz.prog (iy (JD qG)):=
 okC (A:=⟨[jy qg,iy qG],[],[],0,[(2,⟨[5],⟨[.int .i64],[]⟩,[0,1],[],[],0,[],⟨[],[]⟩,[]⟩)],[],[]⟩) (exS:=⟨[.bool],[]⟩) Tryz.f66 (memC kD (memC hs zB)) (by kernel_rfl) (by kernel_rfl) fun x=>by kernel_rfl
theorem zmr:zl Tryz.prog (iy qG):=
 zl.recE (I:=I) (P:=Tryz.prog) (f:=66) (inS:=⟨[.sl 49, .int .u8],[]⟩) (cst:=[]) (outS:=⟨[.bool],[]⟩) (k:=0) (JD) (by kernel_rfl) (fun S h=>zmX S h)
theorem pI:zl Tryz.prog (VD QM):=
 okC (A:=⟨[Nt qX,Qj Zz,iy qG],[],[],0,[],[],[]⟩) (exS:=⟨[.int .i64],[]⟩) Tryz.f27 (memC jQ (memC FJ (memC zmr zB))) (by kernel_rfl) (by kernel_rfl) fun x=>by kernel_rfl
theorem RJ:zl Tryz.prog (nD ZF):=
 okC (A:=⟨[],[],[],0,[(1,⟨[0],⟨[.sl 49],[]⟩,[2],[],[],0,[0],⟨[.sl 49],[]⟩,[]⟩),(3,⟨[0],⟨[.sl 49],[]⟩,[2],[],[],2,[0],⟨[.sl 49],[]⟩,[]⟩)],[],[]⟩) (exS:=⟨[.sl 49],[]⟩) Tryz.f110 zB (by kernel_rfl) (by kernel_rfl) fun x=>by kernel_rfl
theorem vI:zl Tryz.prog (YD Qq):=
 okC (A:=⟨[],[],[],0,[],[],[]⟩) (exS:=⟨[.int .u8],[]⟩) Tryz.f150 zB (by kernel_rfl) (by kernel_rfl) fun x=>by kernel_rfl
theorem wI:zl Tryz.prog (aD ZP):=
 okC (A:=⟨[YD Qq],[],[],0,[(3,⟨[4],⟨[.int .i64],[(0, .sl 5)]⟩,[2,3],[],[0],0,[],⟨[],[(0, .sl 5)]⟩,[0]⟩)],[],[]⟩) (exS:=⟨[.str],[]⟩) Tryz.f105 (memC vI zB) (by kernel_rfl) (by kernel_rfl) fun x=>by kernel_rfl
theorem xI:zl Tryz.prog (bD Z5):=
 okC (A:=⟨[aD ZP],[],[],0,[],[],[]⟩) (exS:=⟨[.bool],[]⟩) Tryz.f72 (memC wI zB) (by kernel_rfl) (by kernel_rfl) fun x=>by kernel_rfl
theorem zmv:zl Tryz.prog (NR Oy):=
 okC (A:=⟨[bD Z5,nD ZF],[],[],0,[],[],[]⟩) (exS:=⟨[.sl 49, .bool],[]⟩) Tryz.f111 (memC xI (memC RJ zB)) (by kernel_rfl) (by kernel_rfl) fun x=>by kernel_rfl
theorem p9:zl Tryz.prog (rQ Wx):=
 okC (A:=⟨[aD ZP],[],[],0,[(4,⟨[3],⟨[.int .i64],[]⟩,[0],[],[],0,[],⟨[],[]⟩,[]⟩)],[],[]⟩) (exS:=⟨[.bool],[]⟩) Tryz.f94 (memC wI zB) (by kernel_rfl) (by kernel_rfl) fun x=>by kernel_rfl
theorem znI:zl Tryz.prog (wQ Um):=
 okC (A:=⟨[],[],[],0,[(2,⟨[3],⟨[.int .i64],[]⟩,[0],[],[],0,[],⟨[],[]⟩,[]⟩)],[],[]⟩) (exS:=⟨[.bool],[]⟩) Tryz.f102 zB (by kernel_rfl) (by kernel_rfl) fun x=>by kernel_rfl
theorem Qo:zl Tryz.prog (qZ zH):=
 okC (A:=⟨[],[],[],0,[],[],[]⟩) (exS:=⟨[.bool],[]⟩) Tryz.f148 zB (by kernel_rfl) (by kernel_rfl) fun x=>by kernel_rfl
theorem I8:zl Tryz.prog (LQ Gx):=
 okC (A:=⟨[qZ zH],[],[],0,[],[],[]⟩) (exS:=⟨[.bool],[]⟩) Tryz.f103 (memC Qo zB) (by kernel_rfl) (by kernel_rfl) fun x=>by kernel_rfl
theorem LD:zl Tryz.prog (Py ZQ):=
 okC (A:=⟨[],[],[],0,[],[],[]⟩) (exS:=⟨[.bool],[]⟩) Tryz.f178 zB (by kernel_rfl) (by kernel_rfl) fun x=>by kernel_rfl
theorem Qn:zl Tryz.prog (Qt zx):=
 okC (A:=⟨[],[],[],0,[],[],[]⟩) (exS:=⟨[.int .u8],[]⟩) Tryz.f217 zB (by kernel_rfl) (by kernel_rfl) fun x=>by kernel_rfl
theorem GJ:zl Tryz.prog (RD ZW):=
 okC (A:=⟨[Qt zx,Py ZQ],[],[],0,[(1,⟨[1],⟨[.int .i64],[]⟩,[0,4],[],[],0,[1],⟨[.int .i64],[]⟩,[]⟩)],[],[]⟩) (exS:=⟨[.int .i64],[]⟩) Tryz.f179 (memC Qn (memC LD zB)) (by kernel_rfl) (by kernel_rfl) fun x=>by kernel_rfl
theorem kQ:zl Tryz.prog (fI Tm):=
 okC (A:=⟨[],[(1,[0])],[],0,[],[],[]⟩) (exS:=⟨[.str],[]⟩) Tryz.f244 zB (by kernel_rfl) (by kernel_rfl) fun x=>by kernel_rfl
theorem J6:zl Tryz.prog (aP Ml):=
 okC (A:=⟨[qZ zH,YD Qq],[],[],0,[],[],[]⟩) (exS:=⟨[.int .i64],[]⟩) Tryz.f245 (memC Qo (memC vI zB)) (by kernel_rfl) (by kernel_rfl) fun x=>by kernel_rfl
theorem L8:zl Tryz.prog (OQ Ms):=
 okC (A:=⟨[fI Tm],[(4,[2]),(6,[8]),(8,[13]),(9,[18])],[],0,[],[],[]⟩) (exS:=⟨[.str],[]⟩) Tryz.f246 (memC kQ zB) (by kernel_rfl) (by kernel_rfl) fun x=>by kernel_rfl
theorem rD:zl Tryz.prog (Q4 Ze):=
 okC (A:=⟨[fI Tm,aP Ml,Qt zx,Py ZQ,OQ Ms],[],[],0,[(7,⟨[6,7],⟨[.int .i64, .int .i64],[]⟩,[0,1,4,5],[],[],0,[6,7],⟨[.int .i64, .int .i64],[]⟩,[]⟩)],[(12,⟨[7],⟨[.int .i64],[]⟩,[6],[],[],0,[],⟨[],[]⟩,[]⟩)],[]⟩) (exS:=⟨[.str, .int .i64],[]⟩) Tryz.f218 (memC kQ (memC J6 (memC Qn (memC LD (memC L8 zB))))) (by kernel_rfl) (by kernel_rfl) fun x=>by kernel_rfl
theorem zmp:zl Tryz.prog (VR Bp):=
 okC (A:=⟨[Q4 Ze],[],[],0,[(4,⟨[1],⟨[.int .i64],[(0, .row 44),(1, .row 44)]⟩,[0,4,6,7],[],[0,1],0,[1],⟨[.int .i64],[(0, .row 44),(1, .row 44)]⟩,[0,1]⟩)],[],[]⟩) (exS:=⟨[.optr 0, .int .i64],[(0, .row 44)]⟩) Tryz.f180 (memC rD zB) (by kernel_rfl) (by kernel_rfl) fun x=>by kernel_rfl
theorem yR:zl Tryz.prog (MJ Dp):=
 okC (A:=⟨[YD Qq],[],[],0,[],[],[]⟩) (exS:=⟨[.bool],[]⟩) Tryz.f198 (memC vI zB) (by kernel_rfl) (by kernel_rfl) fun x=>by kernel_rfl
theorem CS:zl Tryz.prog (OJ Qf):=
 okC (A:=⟨[MJ Dp,qZ zH],[],[],0,[],[],[]⟩) (exS:=⟨[.bool],[]⟩) Tryz.f163 (memC yR (memC Qo zB)) (by kernel_rfl) (by kernel_rfl) fun x=>by kernel_rfl
theorem Ty:zl Tryz.prog (QV zP):=
 okC (A:=⟨[Qt zx],[],[],0,[],[],[]⟩) (exS:=⟨[.bool],[]⟩) Tryz.f181 (memC Qn zB) (by kernel_rfl) (by kernel_rfl) fun x=>by kernel_rfl
theorem sI:zl Tryz.prog (XD qp):=
 okC (A:=⟨[OJ Qf,QV zP,Q4 Ze],[],[],0,[(2,⟨[1,6],⟨[.int .i64, .str],[]⟩,[0],[],[],0,[],⟨[],[]⟩,[]⟩)],[],[]⟩) (exS:=⟨[.str, .int .i64],[]⟩) Tryz.f182 (memC CS (memC Ty (memC rD zB))) (by kernel_rfl) (by kernel_rfl) fun x=>by kernel_rfl
theorem BS:zl Tryz.prog (NJ ZL):=
 okC (A:=⟨[Qt zx,MJ Dp,QV zP],[],[],0,[],[],[]⟩) (exS:=⟨[.bool],[]⟩) Tryz.f183 (memC Qn (memC yR (memC Ty zB))) (by kernel_rfl) (by kernel_rfl) fun x=>by kernel_rfl
theorem zjk:zl Tryz.prog (vR QY):=
 okC (A:=⟨[Qt zx,qZ zH],[],[],0,[],[(4,⟨[1],⟨[.int .i64],[]⟩,[0],[],[],0,[],⟨[],[]⟩,[]⟩),(6,⟨[1],⟨[.int .i64],[]⟩,[],[],[],0,[],⟨[],[]⟩,[]⟩)],[]⟩) (exS:=⟨[.bool],[]⟩) Tryz.f184 (memC Qn (memC Qo zB)) (by kernel_rfl) (by kernel_rfl) fun x=>by kernel_rfl
theorem zmo:zl Tryz.prog (WR qF):=
 okC (A:=⟨[Qt zx,qZ zH],[],[],0,[(1,⟨[1],⟨[.int .i64],[]⟩,[0,4],[],[],0,[1],⟨[.int .i64],[]⟩,[]⟩)],[],[]⟩) (exS:=⟨[.int .i64],[]⟩) Tryz.f247 (memC Qn (memC Qo zB)) (by kernel_rfl) (by kernel_rfl) fun x=>by kernel_rfl
theorem zin:zl Tryz.prog (JS qM):=
 okC (A:=⟨[Qt zx,WR qF,qZ zH],[],[],0,[],[(4,⟨[1],⟨[.int .i64],[]⟩,[0],[],[],0,[],⟨[],[]⟩,[]⟩),(9,⟨[1,7],⟨[.int .i64, .bool],[]⟩,[],[],[],0,[],⟨[],[]⟩,[]⟩),(15,⟨[1,7,9],⟨[.int .i64, .bool, .int .i64],[]⟩,[],[],[],0,[],⟨[],[]⟩,[]⟩),(18,⟨[1,7],⟨[.int .i64, .bool],[]⟩,[],[],[],0,[],⟨[],[]⟩,[]⟩)],[]⟩) (exS:=⟨[.int .i64, .bool],[]⟩) Tryz.f219 (memC Qn (memC zmo (memC Qo zB))) (by kernel_rfl) (by kernel_rfl) fun x=>by kernel_rfl
theorem zgB:zl Tryz.prog (YS Z6):=
 okC (A:=⟨[Qt zx,qZ zH],[],[],0,[(5,⟨[3,5],⟨[.str, .int .i64],[]⟩,[4],[],[],0,[3,5],⟨[.str, .int .i64],[]⟩,[]⟩),(10,⟨[3,4,5],⟨[.str, .int .i64, .int .i64],[]⟩,[],[],[],2,[3,4,5],⟨[.str, .int .i64, .int .i64],[]⟩,[]⟩),(20,⟨[5,8],⟨[.int .i64, .int .i64],[]⟩,[4],[],[],4,[8],⟨[.int .i64],[]⟩,[]⟩),(28,⟨[9,10],⟨[.int .i64, .int .i64],[]⟩,[4],[],[],6,[9],⟨[.int .i64],[]⟩,[]⟩),(31,⟨[4,9],⟨[.int .i64, .int .i64],[]⟩,[],[],[],8,[9],⟨[.int .i64],[]⟩,[]⟩)],[(5,⟨[3,4,5],⟨[.str, .int .i64, .int .i64],[]⟩,[0,6],[],[],0,[],⟨[],[]⟩,[]⟩),(14,⟨[3,4,5],⟨[.str, .int .i64, .int .i64],[]⟩,[],[],[],0,[],⟨[],[]⟩,[]⟩),(19,⟨[4,5],⟨[.int .i64, .int .i64],[]⟩,[3,7],[],[],0,[],⟨[],[]⟩,[]⟩),(25,⟨[4,8],⟨[.int .i64, .int .i64],[]⟩,[],[],[],0,[],⟨[],[]⟩,[]⟩),(26,⟨[4],⟨[.int .i64],[]⟩,[3],[],[],0,[],⟨[],[]⟩,[]⟩)],[]⟩) (exS:=⟨[.int .i64],[]⟩) Tryz.f220 (memC Qn (memC Qo zB)) (by kernel_rfl) (by kernel_rfl) fun x=>by kernel_rfl
theorem zkd:zl Tryz.prog (rR QL):=
 okC (A:=⟨[JS qM,YS Z6,NJ ZL,XD qp,Qt zx],[],[],0,[],[(9,⟨[6],⟨[.int .i64],[(0, .row 44),(1, .row 44)]⟩,[4,8],[],[0,1],0,[],⟨[],[]⟩,[]⟩)],[]⟩) (exS:=⟨[.optr 0, .int .i64],[(0, .row 44)]⟩) Tryz.f185 (memC zin (memC zgB (memC BS (memC sI (memC Qn zB))))) (by kernel_rfl) (by kernel_rfl) fun x=>by kernel_rfl
theorem fQ:zl Tryz.prog (RI QS):=
 okC (A:=⟨[],[],[],0,[],[],[]⟩) (exS:=⟨[.bool],[]⟩) Tryz.f186 zB (by kernel_rfl) (by kernel_rfl) fun x=>by kernel_rfl
theorem I6:zl Tryz.prog (YP Pk):=
 okC (A:=⟨[QV zP,Q4 Ze],[],[],0,[(1,⟨[1],⟨[.int .i64],[]⟩,[0,4,5],[0],[],0,[1],⟨[.int .i64],[]⟩,[]⟩)],[],[]⟩) (exS:=⟨[.optr 0, .int .i64],[(0, .row 44)]⟩) Tryz.f248 (memC Ty (memC rD zB)) (by kernel_rfl) (by kernel_rfl) fun x=>by kernel_rfl
theorem zgC:zl Tryz.prog (WS qI):=
 okC (A:=⟨[],[],[],0,[],[],[]⟩) (exS:=⟨[.bool],[]⟩) Tryz.f249 zB (by kernel_rfl) (by kernel_rfl) fun x=>by kernel_rfl
theorem H6:zl Tryz.prog (XP jo):=
 okC (A:=⟨[RD ZW,Py ZQ,YP Pk,WS qI,QV zP,Q4 Ze],[],[],0,[(3,⟨[1],⟨[.int .i64],[(0, .row 44),(1, .row 44)]⟩,[0,4,6],[],[0,1],0,[1],⟨[.int .i64],[(0, .row 44),(1, .row 44)]⟩,[0,1]⟩)],[],[]⟩) (exS:=⟨[.optr 0, .int .i64],[(0, .row 44)]⟩) Tryz.f221 (memC GJ (memC LD (memC I6 (memC zgC (memC Ty (memC rD zB)))))) (by kernel_rfl) (by kernel_rfl) fun x=>by kernel_rfl
theorem J8:zl Tryz.prog (MQ vo):=
 okC (A:=⟨[XD qp,Qt zx,bD Z5,RD ZW,XP jo],[],[],0,[],[(8,⟨[],⟨[],[(0, .row 44)]⟩,[4,6,7],[],[0],0,[],⟨[],[]⟩,[]⟩)],[]⟩) (exS:=⟨[.optr 0, .int .i64],[(0, .row 44)]⟩) Tryz.f187 (memC sI (memC Qn (memC xI (memC GJ (memC H6 zB))))) (by kernel_rfl) (by kernel_rfl) fun x=>by kernel_rfl
theorem K8:zl Tryz.prog (NQ wo):=
 okC (A:=⟨[],[],[],0,[],[],[]⟩) (exS:=⟨[.int .u8],[]⟩) Tryz.f188 zB (by kernel_rfl) (by kernel_rfl) fun x=>by kernel_rfl
theorem gQ:zl Tryz.prog (SI Rk):=
 okC (A:=⟨[Py ZQ,RD ZW,VR Bp,OJ Qf,QV zP,XD qp,NJ ZL,vR QY,rR QL,RI QS,MQ vo,NQ wo],[],[],0,[],[],[]⟩) (exS:=⟨[.optr 0, .int .i64],[(0, .row 44)]⟩) Tryz.f149 (memC LD (memC GJ (memC zmp (memC CS (memC Ty (memC sI (memC BS (memC zjk (memC zkd (memC fQ (memC J8 (memC K8 zB)))))))))))) (by kernel_rfl) (by kernel_rfl) fun x=>by kernel_rfl
theorem znH:zl Tryz.prog (xQ qN):=
 okC (A:=⟨[SI Rk],[(1,[1])],[],0,[],[],[]⟩) (exS:=⟨[.bool],[]⟩) Tryz.f104 (memC gQ zB) (by kernel_rfl) (by kernel_rfl) fun x=>by kernel_rfl
theorem H8:zl Tryz.prog (KQ Fx):=
 okC (A:=⟨[wQ Um,LQ Gx,xQ qN],[],[],0,[],[(6,⟨[8],⟨[.bool],[(1, .row 44)]⟩,[1,3,7],[0],[1],0,[],⟨[],[]⟩,[]⟩),(13,⟨[56],⟨[.bool],[(1, .row 44)]⟩,[],[],[1],0,[],⟨[],[]⟩,[]⟩),(21,⟨[90],⟨[.bool],[(1, .row 44)]⟩,[],[],[1],0,[],⟨[],[]⟩,[]⟩),(26,⟨[148],⟨[.bool],[]⟩,[],[1],[],0,[],⟨[],[]⟩,[]⟩)],[]⟩) (exS:=⟨[.bool],[]⟩) Tryz.f71 (memC znI (memC I8 (memC znH zB))) (by kernel_rfl) (by kernel_rfl) fun x=>by kernel_rfl
theorem znG:zl Tryz.prog (yQ Jp):=
 okC (A:=⟨[KQ Fx,bD Z5],[],[],0,[(4,⟨[3],⟨[.int .i64],[]⟩,[0],[],[],0,[],⟨[],[]⟩,[]⟩)],[(12,⟨[4],⟨[.int .i64],[]⟩,[3],[],[],0,[],⟨[],[]⟩,[]⟩),(14,⟨[],⟨[],[]⟩,[3],[],[],0,[],⟨[],[]⟩,[]⟩)],[]⟩) (exS:=⟨[.int .i64],[]⟩) Tryz.f35 (memC H8 (memC xI zB)) (by kernel_rfl) (by kernel_rfl) fun x=>by kernel_rfl
theorem zkh(qb:List zb->Option Bool)(hs:zl Tryz.prog (Q5 qb)):zl Tryz.prog (Q5 (oD qb)):=
 okC (A:=⟨[Q5 qb],[],[],0,[(2,⟨[3],⟨[.int .i64],[]⟩,[0],[],[],0,[],⟨[],[]⟩,[]⟩)],[],[]⟩) (exS:=⟨[.bool],[]⟩) Tryz.f131 (memC hs zB) (by kernel_rfl) (by kernel_rfl) fun x=>by kernel_rfl
theorem zke:zl Tryz.prog (Q5 qb):=
 zl.recE (I:=I) (P:=Tryz.prog) (f:=131) (inS:=⟨[.sl 49],[]⟩) (cst:=[]) (outS:=⟨[.bool],[]⟩) (k:=0) (oD) (by kernel_rfl) (fun S h=>zkh S h)
theorem zmt:zl Tryz.prog (TR Ay):=
 okC (A:=⟨[],[],[],0,[],[],[]⟩) (exS:=⟨[.bool],[]⟩) Tryz.f132 zB (by kernel_rfl) (by kernel_rfl) fun x=>by kernel_rfl
theorem zmu:zl Tryz.prog (PR yx):=
 okC (A:=⟨[VD QM,Qj Zz,yQ Jp,Q5 qb,nD ZF,TR Ay],[],[],0,[(6,⟨[5],⟨[.int .i64],[]⟩,[1],[],[],0,[],⟨[],[]⟩,[]⟩)],[],[]⟩) (exS:=⟨[.bool],[]⟩) Tryz.f95 (memC pI (memC FJ (memC znG (memC zke (memC RJ (memC zmt zB)))))) (by kernel_rfl) (by kernel_rfl) fun x=>by kernel_rfl
theorem r9:zl Tryz.prog (sQ Xx):=
 okC (A:=⟨[rQ Wx,PR yx],[],[],0,[],[],[]⟩) (exS:=⟨[.int .i64],[]⟩) Tryz.f53 (memC p9 (memC zmu zB)) (by kernel_rfl) (by kernel_rfl) fun x=>by kernel_rfl
theorem mR:zl Tryz.prog (DJ Gp):=
 okC (A:=⟨[nD ZF,aD ZP,NR Oy,sQ Xx],[],[],0,[],[(7,⟨[0],⟨[.sl 49],[(0, .cells 66 [.str, .nilv, .bool]),(1, .cells 66 [.str, .nilv, .bool])]⟩,[2,4],[],[0,1],0,[],⟨[],[]⟩,[]⟩)],[]⟩) (exS:=⟨[.optr 0, .bool],[(0, .row 66)]⟩) Tryz.f74 (memC RJ (memC wI (memC zmv (memC r9 zB)))) (by kernel_rfl) (by kernel_rfl) fun x=>by kernel_rfl
theorem G6:zl Tryz.prog (WP Kw):=
 okC (A:=⟨[VD QM,DJ Gp],[],[],0,[],[],[]⟩) (exS:=⟨[.optr 0, .bool, .int .i64],[(0, .row 66)]⟩) Tryz.f38 (memC pI (memC mR zB)) (by kernel_rfl) (by kernel_rfl) fun x=>by kernel_rfl
theorem N8:zl Tryz.prog (SQ Lx):=
 okC (A:=⟨[Jy Qw,Et Qx],[(12,[7]),(15,[5])],[],0,[(9,⟨[7,8,24],⟨[.own 1312, .int .i64, .int .i64],[(1312, .sl 23)]⟩,[0,1,4,5,22,23],[],[],0,[7,8],⟨[.own 1312, .int .i64],[(1312, .sl 23)]⟩,[1312]⟩)],[(14,⟨[7,8,24],⟨[.own 1414, .int .i64, .int .i64],[(1414, .sl 23)]⟩,[],[],[],0,[],⟨[],[]⟩,[]⟩)],[]⟩) (exS:=⟨[.sl 23, .int .i64],[]⟩) Tryz.f28 (memC TD (memC iQ zB)) (by kernel_rfl) (by kernel_rfl) fun x=>by kernel_rfl
theorem MO:zl Tryz.prog (OH yn):=
 okC (A:=⟨[SQ Lx,nH Io],[(10,[2])],[],0,[(6,⟨[6,21],⟨[.own 1416, .int .i64],[(1416, .sl 66)]⟩,[2,3,19,20],[],[],0,[6],⟨[.own 1416],[(1416, .sl 66)]⟩,[1416]⟩)],[(11,⟨[6,21],⟨[.own 1518, .int .i64],[(1518, .sl 66)]⟩,[],[],[],0,[],⟨[],[]⟩,[]⟩)],[]⟩) (exS:=⟨[.sl 66, .int .i64],[]⟩) Tryz.f39 (memC N8 (memC IP zB)) (by kernel_rfl) (by kernel_rfl) fun x=>by kernel_rfl
theorem x9:zl Tryz.prog (tQ Yx):=
 okC (A:=⟨[],[(1,[100000]),(6,[100001]),(8,[15]),(10,[14])],[],0,[(3,⟨[5,6],⟨[.own 1521, .int .i64],[(1521, .slo 23 [.own 1625]),(1625, .sl 49)]⟩,[0,1,4],[],[],0,[5],⟨[.own 1521],[(1521, .slo 23 [.own 1625]),(1625, .sl 49)]⟩,[1521,1625]⟩)],[(4,⟨[5,6],⟨[.own 1727, .int .i64],[(1727, .slo 23 [.own 1728]),(1728, .sl 49)]⟩,[],[],[],0,[],⟨[],[]⟩,[]⟩)],[(6,[5])]⟩) (exS:=⟨[.sl 23],[]⟩) Tryz.f112 zB (by kernel_rfl) (by kernel_rfl) fun x=>by kernel_rfl
theorem eQ:zl Tryz.prog (OI Yo):=
 okC (A:=⟨[tQ Yx,DJ Gp],[(8,[2])],[],0,[(4,⟨[3,5],⟨[.own 1730, .int .i64],[(1730, .sl 66)]⟩,[2,4],[],[],0,[3],⟨[.own 1730],[(1730, .sl 66)]⟩,[1730]⟩)],[(5,⟨[3,5],⟨[.own 1832, .int .i64],[(1832, .sl 66)]⟩,[],[],[],0,[],⟨[],[]⟩,[]⟩)],[]⟩) (exS:=⟨[.sl 66],[]⟩) Tryz.f75 (memC x9 (memC mR zB)) (by kernel_rfl) (by kernel_rfl) fun x=>by kernel_rfl
theorem J3:zl Tryz.prog (tO Xv):=
 okC (A:=⟨[VD QM,OI Yo],[],[],0,[],[],[]⟩) (exS:=⟨[.sl 66, .int .i64],[]⟩) Tryz.f40 (memC pI (memC eQ zB)) (by kernel_rfl) (by kernel_rfl) fun x=>by kernel_rfl
theorem zei:zl Tryz.prog (NT Zj):=
 okC (A:=⟨[ZG strings_HasPrefix,wF nk],[],[],1,[(0,⟨[],⟨[],[(0, .row 133)]⟩,[0],[],[0],0,[],⟨[],[(0, .row 133)]⟩,[0]⟩)],[],[]⟩) (exS:=⟨[],[(0, .row 133)]⟩) Tryz.f100 (memC ZV (memC GN zB)) (by kernel_rfl) (by kernel_rfl) fun x=>by kernel_rfl
theorem zA:zl Tryz.prog (zy zg):=
 okC (A:=⟨[],[],[],1,[],[],[]⟩) (exS:=⟨[.int .i64],[]⟩) Tryz.f137 zB (by kernel_rfl) (by kernel_rfl) fun x=>by kernel_rfl
theorem Vy:zl Tryz.prog (Jt qx):=
 okC (A:=⟨[],[],[],0,[],[],[]⟩) (exS:=⟨[.bool],[]⟩) Tryz.f138 zB (by kernel_rfl) (by kernel_rfl) fun x=>by kernel_rfl
theorem Q3:zl Tryz.prog (Qa zV):=
 okC (A:=⟨[zy zg,Jt qx],[],[],1,[(0,⟨[],⟨[],[(0, .row 133)]⟩,[0,1],[],[0],0,[],⟨[],[(0, .row 133)]⟩,[0]⟩)],[],[]⟩) (exS:=⟨[],[(0, .row 133)]⟩) Tryz.f139 (memC zA (memC Vy zB)) (by kernel_rfl) (by kernel_rfl) fun x=>by kernel_rfl
theorem zc1:zl Tryz.prog (Q7 qd):=
 okC (A:=⟨[],[(2,[1]),(4,[9]),(7,[14]),(9,[19])],[],0,[],[(7,⟨[25],⟨[.bool],[]⟩,[0,1,5],[],[],0,[],⟨[],[]⟩,[]⟩)],[]⟩) (exS:=⟨[.own 0],[(0, .sl 5)]⟩) Tryz.f237 zB (by kernel_rfl) (by kernel_rfl) fun x=>by kernel_rfl
theorem zgG:zl Tryz.prog (NS Z8):=
 okC (A:=⟨[Q7 qd],[(2,[3])],[],0,[],[],[]⟩) (exS:=⟨[.own 0],[(0, .sl 5)]⟩) Tryz.f210 (memC zc1 zB) (by kernel_rfl) (by kernel_rfl) fun x=>by kernel_rfl
theorem jD:zl Tryz.prog (ay ZY):=
 okC (A:=⟨[],[],[],0,[],[],[]⟩) (exS:=⟨[.bool],[]⟩) Tryz.f212 zB (by kernel_rfl) (by kernel_rfl) fun x=>by kernel_rfl
theorem Wy:zl Tryz.prog (Lt Zx):=
 okC (A:=⟨[ay ZY],[],[],0,[],[],[]⟩) (exS:=⟨[.bool],[]⟩) Tryz.f174 (memC jD zB) (by kernel_rfl) (by kernel_rfl) fun x=>by kernel_rfl
theorem dQ:zl Tryz.prog (NI Sm):=
 okC (A:=⟨[Lt Zx,ay ZY],[],[],0,[],[],[]⟩) (exS:=⟨[.int .i64],[]⟩) Tryz.f211 (memC Wy (memC jD zB)) (by kernel_rfl) (by kernel_rfl) fun x=>by kernel_rfl
theorem zdL:zl Tryz.prog (FT ZR):=
 okC (A:=⟨[zy zg,NS Z8,NI Sm,Jt qx],[(7,[3])],[],1,[(10,⟨[6,36],⟨[.int .i64, .int .i64],[(0, .row 133)]⟩,[0,1,4],[],[0],0,[6],⟨[.int .i64],[(0, .row 133)]⟩,[0]⟩)],[(17,⟨[6],⟨[.int .i64],[(0, .row 133)]⟩,[1],[],[0],0,[],⟨[],[]⟩,[]⟩),(19,⟨[6],⟨[.int .i64],[]⟩,[],[0],[],0,[],⟨[],[]⟩,[]⟩)],[]⟩) (exS:=⟨[.own 1],[(0, .row 133),(1, .sl 5)]⟩) Tryz.f172 (memC zA (memC zgG (memC dQ (memC Vy zB)))) (by kernel_rfl) (by kernel_rfl) fun x=>by kernel_rfl
theorem zc2:zl Tryz.prog (Q8 qf):=
 okC (A:=⟨[],[(2,[1]),(4,[9]),(7,[14]),(9,[19])],[],1,[],[(7,⟨[25],⟨[.bool],[(0, .sl 5)]⟩,[0,1,5],[],[0],0,[],⟨[],[]⟩,[]⟩)],[]⟩) (exS:=⟨[.own 1],[(1, .sl 5)]⟩) Tryz.f237 zB (by kernel_rfl) (by kernel_rfl) fun x=>by kernel_rfl
theorem zgH:zl Tryz.prog (MS Z9):=
 okC (A:=⟨[Q8 qf],[(2,[3])],[],1,[],[],[]⟩) (exS:=⟨[.own 1],[(1, .sl 5)]⟩) Tryz.f210 (memC zc2 zB) (by kernel_rfl) (by kernel_rfl) fun x=>by kernel_rfl
theorem qU:zl Tryz.prog (qa zO):=
 okC (A:=⟨[zy zg,MS Z9,NI Sm,Jt qx],[(7,[3])],[],2,[(10,⟨[6,36],⟨[.int .i64, .int .i64],[(0, .row 133)]⟩,[0,1,4],[1],[0],0,[6],⟨[.int .i64],[(0, .row 133)]⟩,[0]⟩)],[(17,⟨[6],⟨[.int .i64],[(0, .row 133),(1, .sl 5)]⟩,[1],[],[0,1],0,[],⟨[],[]⟩,[]⟩),(19,⟨[6],⟨[.int .i64],[(1, .sl 5)]⟩,[],[0],[1],0,[],⟨[],[]⟩,[]⟩)],[]⟩) (exS:=⟨[.own 2],[(0, .row 133),(2, .sl 5)]⟩) Tryz.f172 (memC zA (memC zgH (memC dQ (memC Vy zB)))) (by kernel_rfl) (by kernel_rfl) fun x=>by kernel_rfl
theorem zfb:zl Tryz.prog (xS qB):=
 okC (A:=⟨[zy zg,qa zO],[(5,[3])],[],1,[(4,⟨[4],⟨[.own 1833],[(0, .row 133),(1, .row 44),(1833, .sl 5)]⟩,[0,2,3],[],[0,1],0,[4],⟨[.own 1833],[(0, .row 133),(1, .row 44),(1833, .sl 5)]⟩,[0,1,1833]⟩)],[],[]⟩) (exS:=⟨[.optr 1],[(0, .row 133),(1, .row 44)]⟩) Tryz.f140 (memC zA (memC qU zB)) (by kernel_rfl) (by kernel_rfl) fun x=>by kernel_rfl
theorem jR:zl Tryz.prog (BJ Lp):=
 okC (A:=⟨[ay ZY],[],[],0,[],[],[]⟩) (exS:=⟨[.bool],[]⟩) Tryz.f173 (memC jD zB) (by kernel_rfl) (by kernel_rfl) fun x=>by kernel_rfl
theorem xR:zl Tryz.prog (LJ Vs):=
 okC (A:=⟨[BJ Lp,Lt Zx],[],[],0,[],[],[]⟩) (exS:=⟨[.bool],[]⟩) Tryz.f141 (memC jR (memC Wy zB)) (by kernel_rfl) (by kernel_rfl) fun x=>by kernel_rfl
theorem ZO:zl Tryz.prog (ZB zw):=
 okC (A:=⟨[zy zg],[],[],1,[],[],[]⟩) (exS:=⟨[.bool],[]⟩) Tryz.f142 (memC zA zB) (by kernel_rfl) (by kernel_rfl) fun x=>by kernel_rfl
theorem jS:zl Tryz.prog (UJ zI):=
 okC (A:=⟨[zy zg,BJ Lp,ZB zw],[],[],1,[],[],[]⟩) (exS:=⟨[.bool],[]⟩) Tryz.f143 (memC zA (memC jR (memC ZO zB))) (by kernel_rfl) (by kernel_rfl) fun x=>by kernel_rfl
theorem VJ:zl Tryz.prog (Qs zN):=
 okC (A:=⟨[zy zg,LJ Vs,ZB zw,qa zO],[(5,[3])],[],1,[(2,⟨[3],⟨[.own 1834],[(0, .row 133),(1834, .sl 5)]⟩,[0],[],[0],0,[],⟨[],[]⟩,[]⟩)],[],[]⟩) (exS:=⟨[.str],[(0, .row 133)]⟩) Tryz.f144 (memC zA (memC xR (memC ZO (memC qU zB)))) (by kernel_rfl) (by kernel_rfl) fun x=>by kernel_rfl
theorem zfa:zl Tryz.prog (yS Zy):=
 okC (A:=⟨[zy zg,Lt Zx],[],[],1,[],[(5,⟨[3],⟨[.int .i64],[]⟩,[0],[],[],0,[],⟨[],[]⟩,[]⟩),(7,⟨[3],⟨[.int .i64],[]⟩,[],[],[],0,[],⟨[],[]⟩,[]⟩)],[]⟩) (exS:=⟨[.bool],[]⟩) Tryz.f145 (memC zA (memC Wy zB)) (by kernel_rfl) (by kernel_rfl) fun x=>by kernel_rfl
theorem zeJ:zl Tryz.prog (uS zQ):=
 okC (A:=⟨[zy zg,Lt Zx],[],[],1,[(0,⟨[],⟨[],[(0, .row 133)]⟩,[0,1],[],[0],0,[],⟨[],[(0, .row 133)]⟩,[0]⟩)],[],[]⟩) (exS:=⟨[],[(0, .row 133)]⟩) Tryz.f139 (memC zA (memC Wy zB)) (by kernel_rfl) (by kernel_rfl) fun x=>by kernel_rfl
theorem zeH:zl Tryz.prog (wS qh):=
 okC (A:=⟨[zy zg,uS zQ,Lt Zx],[],[],1,[],[(4,⟨[],⟨[],[(0, .row 133)]⟩,[0],[],[0],0,[],⟨[],[]⟩,[]⟩),(10,⟨[4],⟨[.bool],[(0, .row 133)]⟩,[],[],[0],0,[],⟨[],[]⟩,[]⟩),(15,⟨[4,5],⟨[.bool, .int .i64],[(0, .row 133)]⟩,[],[],[0],0,[],⟨[],[]⟩,[]⟩),(19,⟨[4],⟨[.bool],[(0, .row 133)]⟩,[],[],[0],0,[],⟨[],[]⟩,[]⟩)],[]⟩) (exS:=⟨[.bool],[(0, .row 133)]⟩) Tryz.f175 (memC zA (memC zeJ (memC Wy zB))) (by kernel_rfl) (by kernel_rfl) fun x=>by kernel_rfl
theorem zgF:zl Tryz.prog (RS QC):=
 okC (A:=⟨[KM xk,uP Jl,dU cutF],[],[],0,[(8,⟨[6,31],⟨[.int .i64, .int .i64],[]⟩,[0,2,3,4,5,29,30],[0],[],0,[6],⟨[.int .i64],[]⟩,[]⟩),(22,⟨[12,81],⟨[.int .i64, .int .i64],[]⟩,[4,79,80],[0],[],2,[12],⟨[.int .i64],[]⟩,[]⟩),(26,⟨[4,12],⟨[.int .i64, .int .i64],[]⟩,[],[],[],4,[12],⟨[.int .i64],[]⟩,[]⟩)],[(14,⟨[0,4,6],⟨[.str, .int .i64, .int .i64],[]⟩,[3,5],[],[],0,[],⟨[],[]⟩,[]⟩),(15,⟨[0,4],⟨[.str, .int .i64],[]⟩,[3],[],[],0,[],⟨[],[]⟩,[]⟩),(20,⟨[0,4],⟨[.str, .int .i64],[]⟩,[],[],[],0,[],⟨[],[]⟩,[]⟩),(31,⟨[12],⟨[.int .i64],[]⟩,[],[],[],0,[],⟨[],[]⟩,[]⟩)],[]⟩) (exS:=⟨[.int .i64],[]⟩) Tryz.f176 (memC kX (memC P6 (memC zBo zB))) (by kernel_rfl) (by kernel_rfl) fun x=>by kernel_rfl
theorem zeI:zl Tryz.prog (vS ZM):=
 okC (A:=⟨[wS qh,RS QC,UJ zI,Qs zN,zy zg],[],[],1,[],[(9,⟨[],⟨[],[(0, .row 133),(1, .row 44),(2, .row 44)]⟩,[2,5],[],[0,1,2],0,[],⟨[],[]⟩,[]⟩)],[]⟩) (exS:=⟨[.optr 1],[(0, .row 133),(1, .row 44)]⟩) Tryz.f146 (memC zeH (memC zgF (memC jS (memC VJ (memC zA zB))))) (by kernel_rfl) (by kernel_rfl) fun x=>by kernel_rfl
theorem zgD:zl Tryz.prog (VS Z7):=
 okC (A:=⟨[zy zg,ZB zw,FT ZR],[],[],1,[(1,⟨[],⟨[],[(0, .row 133),(1, .row 44)]⟩,[0,2],[],[0,1],0,[],⟨[],[]⟩,[]⟩)],[],[]⟩) (exS:=⟨[.optr 1],[(0, .row 133),(1, .row 44)]⟩) Tryz.f216 (memC zA (memC ZO (memC zdL zB))) (by kernel_rfl) (by kernel_rfl) fun x=>by kernel_rfl
theorem zgE:zl Tryz.prog (SS QB):=
 okC (A:=⟨[Qa zV,zy zg,Jt qx,VS Z7,ay ZY,ZB zw,qa zO],[(18,[3])],[],1,[(3,⟨[3],⟨[.own 1835],[(0, .row 133),(1, .row 44),(1835, .sl 5)]⟩,[0,2],[],[0,1],0,[],⟨[],[]⟩,[]⟩)],[(10,⟨[3,4],⟨[.own 1835, .int .i64],[(0, .row 133),(1, .row 44),(1835, .sl 5)]⟩,[],[],[0,1,1835],0,[],⟨[],[]⟩,[]⟩)],[]⟩) (exS:=⟨[.optr 1],[(0, .row 133),(1, .row 44)]⟩) Tryz.f177 (memC Q3 (memC zA (memC Vy (memC zgD (memC jD (memC ZO (memC qU zB))))))) (by kernel_rfl) (by kernel_rfl) fun x=>by kernel_rfl
theorem zfp:zl Tryz.prog (kS ZI):=
 okC (A:=⟨[Qs zN,zy zg,eD Qk,Qa zV,SS QB],[],[],1,[],[(11,⟨[],⟨[],[(0, .row 133),(1, .row 44)]⟩,[2,3],[],[0,1],0,[],⟨[],[]⟩,[]⟩)],[]⟩) (exS:=⟨[.optr 1],[(0, .row 133),(1, .row 44)]⟩) Tryz.f147 (memC VJ (memC zA (memC JJ (memC Q3 (memC zgE zB))))) (by kernel_rfl) (by kernel_rfl) fun x=>by kernel_rfl
theorem zfT:zl Tryz.prog (lS ql):=
 okC (A:=⟨[zy zg,Jt qx,Qa zV,xS qB,LJ Vs,ZB zw,UJ zI,Qs zN,yS Zy,vS ZM,ZG strings_HasPrefix,kS ZI,QJ strings_IndexByte],[],[],1,[],[],[]⟩) (exS:=⟨[.optr 1],[(0, .row 133),(1, .row 44)]⟩) Tryz.f101 (memC zA (memC Vy (memC Q3 (memC zfb (memC xR (memC ZO (memC jS (memC VJ (memC zfa (memC zeI (memC ZV (memC zfp (memC XJ zB))))))))))))) (by kernel_rfl) (by kernel_rfl) fun x=>by kernel_rfl
theorem zhu:zl Tryz.prog (aS QU):=
 okC (A:=⟨[],[(1,[2])],[],2,[],[],[]⟩) (exS:=⟨[],[(0, .cells 22 [.own 2]),(2, .sl 44)]⟩) Tryz.f70 zB (by kernel_rfl) (by kernel_rfl) fun x=>by kernel_rfl
theorem zmx:zl Tryz.prog (KR Ky):=
 okC (A:=⟨[MM Dl,NT Zj,lS ql,aS QU],[],[],1,[(7,⟨[7],⟨[.int .i64],[(0, .cells 22 [.own 1836]),(1836, .sl 44),(1, .row 133)]⟩,[0,1,6],[],[0,1],0,[],⟨[],[(0, .cells 22 [.own 1836]),(1836, .sl 44),(1, .row 133)]⟩,[0,1,1836]⟩)],[],[]⟩) (exS:=⟨[.int .i64],[(0, .cells 22 [.own 1]),(1, .sl 44)]⟩) Tryz.f69 (memC mX (memC zei (memC zfT (memC zhu zB)))) (by kernel_rfl) (by kernel_rfl) fun x=>by kernel_rfl
theorem zmw:zl Tryz.prog (MR Ny):=
 okC (A:=⟨[KR Ky],[],[],0,[],[],[]⟩) (exS:=⟨[.sl 44, .int .i64],[]⟩) Tryz.f33 (memC zmx zB) (by kernel_rfl) (by kernel_rfl) fun x=>by kernel_rfl
theorem V6:zl Tryz.prog (xP Xw):=
 okC (A:=⟨[MR Ny,LM parseF,OH yn],[],[],0,[],[],[]⟩) (exS:=⟨[.sl 66, .int .i64],[]⟩) Tryz.f41 (memC zmw (memC lX (memC MO zB))) (by kernel_rfl) (by kernel_rfl) fun x=>by kernel_rfl
theorem zkc:zl Tryz.prog (uR Sy):=
 okC (A:=⟨[],[(10,[1]),(11,[2])],[],0,[(3,⟨[3,4],⟨[.str, .int .i64],[]⟩,[0,2],[],[],0,[3],⟨[.str],[]⟩,[]⟩)],[(4,⟨[3,4],⟨[.str, .int .i64],[]⟩,[],[],[],0,[],⟨[],[]⟩,[]⟩),(9,⟨[3,5],⟨[.str, .int .u8],[]⟩,[4],[],[],0,[],⟨[],[]⟩,[]⟩)],[]⟩) (exS:=⟨[.str],[]⟩) Tryz.f151 zB (by kernel_rfl) (by kernel_rfl) fun x=>by kernel_rfl
theorem znF:zl Tryz.prog (AR rC):=
 okC (A:=⟨[uR Sy],[],[],0,[],[],[]⟩) (exS:=⟨[.str, .int .i64],[]⟩) Tryz.f113 (memC zkc zB) (by kernel_rfl) (by kernel_rfl) fun x=>by kernel_rfl
theorem M8:zl Tryz.prog (RQ yo):=
 okC (A:=⟨[RI QS],[],[],0,[(1,⟨[1],⟨[.int .i64],[]⟩,[0,4],[],[],0,[1],⟨[.int .i64],[]⟩,[]⟩),(3,⟨[1],⟨[.int .i64],[]⟩,[],[],[],2,[1],⟨[.int .i64],[]⟩,[]⟩)],[],[]⟩) (exS:=⟨[.int .i64],[]⟩) Tryz.f152 (memC fQ zB) (by kernel_rfl) (by kernel_rfl) fun x=>by kernel_rfl
theorem K6:zl Tryz.prog (bP Mw):=
 okC (A:=⟨[RQ yo,SI Rk],[(6,[2,8])],[],0,[(4,⟨[4,5,6],⟨[.own 1837, .own 1838, .int .i64],[(1837, .sl 44),(1838, .sl 172)]⟩,[0,2,3],[],[],0,[4,5],⟨[.own 1837, .own 1838],[(1837, .sl 44),(1838, .sl 172)]⟩,[1837,1838]⟩)],[],[]⟩) (exS:=⟨[.sl 44, .sl 172],[]⟩) Tryz.f114 (memC M8 (memC gQ zB)) (by kernel_rfl) (by kernel_rfl) fun x=>by kernel_rfl
theorem zmn:zl Tryz.prog (XR Dy):=
 okC (A:=⟨[AR rC,bP Mw],[],[],0,[],[],[]⟩) (exS:=⟨[.sl 44, .int .i64],[]⟩) Tryz.f76 (memC znF (memC K6 zB)) (by kernel_rfl) (by kernel_rfl) fun x=>by kernel_rfl
theorem zmY(ZX:List zf×Int×Int×Int->Option (List zb×Int))(hs:zl Tryz.prog (gy ZX)):zl Tryz.prog (gy (GD ZX)):=
 okC (A:=⟨[jy qg,gy ZX],[(12,[2])],[],0,[(2,⟨[1,10],⟨[.int .i64, .own 1839],[(1839, .sl 49)]⟩,[0,2,3],[],[],0,[1,10],⟨[.int .i64, .own 1839],[(1839, .sl 49)]⟩,[1839]⟩)],[(12,⟨[1,10],⟨[.int .i64, .own 1839],[(1839, .sl 49),(1840, .row 49)]⟩,[11],[],[1839,1840],0,[],⟨[],[]⟩,[]⟩)],[]⟩) (exS:=⟨[.sl 49, .int .i64],[]⟩) Tryz.f96 (memC kD (memC hs zB)) (by kernel_rfl) (by kernel_rfl) fun x=>by kernel_rfl
theorem zms:zl Tryz.prog (gy ZX):=
 zl.recE (I:=I) (P:=Tryz.prog) (f:=96) (inS:=⟨[.sl 44, .int .i64, .int .u8, .int .i64],[]⟩) (cst:=[]) (outS:=⟨[.sl 49, .int .i64],[]⟩) (k:=0) (GD) (by kernel_rfl) (fun S h=>zmY S h)
theorem zmq:zl Tryz.prog (UR Cy):=
 okC (A:=⟨[gy ZX],[],[],0,[],[],[]⟩) (exS:=⟨[.sl 49, .bool],[]⟩) Tryz.f62 (memC zms zB) (by kernel_rfl) (by kernel_rfl) fun x=>by kernel_rfl
theorem znK:zl Tryz.prog (uQ ax):=
 okC (A:=⟨[UR Cy,Qj Zz],[],[],0,[],[],[]⟩) (exS:=⟨[.sl 49, .int .i64],[]⟩) Tryz.f17 (memC zmq (memC FJ zB)) (by kernel_rfl) (by kernel_rfl) fun x=>by kernel_rfl
theorem E8:zl Tryz.prog (JQ Ex):=
 okC (A:=⟨[XR Dy,uQ ax,OI Yo],[],[],0,[],[],[]⟩) (exS:=⟨[.sl 66, .int .i64],[]⟩) Tryz.f42 (memC zmn (memC znK (memC eQ zB))) (by kernel_rfl) (by kernel_rfl) fun x=>by kernel_rfl
theorem H7(Q0:List zb×List zb->Option Bool)(hs:zl Tryz.prog (Iy Q0)):zl Tryz.prog (Iy (BD Q0)):=
 okC (A:=⟨[Iy Q0],[],[],0,[(4,⟨[5],⟨[.int .i64],[]⟩,[0,1],[],[],0,[],⟨[],[]⟩,[]⟩)],[],[]⟩) (exS:=⟨[.bool],[]⟩) Tryz.f22 (memC hs zB) (by kernel_rfl) (by kernel_rfl) fun x=>by kernel_rfl
theorem G8:zl Tryz.prog (Iy Q0):=
 zl.recE (I:=I) (P:=Tryz.prog) (f:=22) (inS:=⟨[.sl 49, .sl 49],[]⟩) (cst:=[]) (outS:=⟨[.bool],[]⟩) (k:=0) (BD) (by kernel_rfl) (fun S h=>H7 S h)
theorem kR:zl Tryz.prog (CJ Pp):=
 okC (A:=⟨[Iy Q0],[],[],0,[],[],[]⟩) (exS:=⟨[.bool],[]⟩) Tryz.f43 (memC G8 zB) (by kernel_rfl) (by kernel_rfl) fun x=>by kernel_rfl
theorem D8:zl Tryz.prog (IQ Ls):=
 okC (A:=⟨[CJ Pp],[],[],0,[(4,⟨[5],⟨[.int .i64],[]⟩,[0,1],[],[],0,[],⟨[],[]⟩,[]⟩)],[],[]⟩) (exS:=⟨[.bool],[]⟩) Tryz.f44 (memC kR zB) (by kernel_rfl) (by kernel_rfl) fun x=>by kernel_rfl
theorem zim:zl Tryz.prog (KS mD):=
 okC (A:=⟨[vQ dx,vO Gw,WP Kw,OH yn,tO Xv,xP Xw,JQ Ex,CJ Pp,IQ Ls],[],[],0,[],[],[]⟩) (exS:=⟨[.bool],[]⟩) Tryz.f8 (memC znJ (memC K3 (memC G6 (memC MO (memC J3 (memC V6 (memC E8 (memC kR (memC D8 zB))))))))) (by kernel_rfl) (by kernel_rfl) fun x=>by kernel_rfl
end Go.Lv.VT
end
