/- Contracts. -/
import Derived.Test.YtcdeccnjlkkejaaGreatDoorTx
import Derived.Test.YtcdeccnjlkkejaaGreatDoorIp
import Derived.Test.YtcdeccnjlkkejaaGreatDoorLf
import Derived.Test.YtcdeccnjlkkejaaGreatDoorPa
noncomputable section
set_option linter.unusedSimpArgs false
set_option linter.unusedVariables false
namespace Go.Lv.VT
set_option maxRecDepth 100000
open Go.Proofs
theorem okC{con:Con I}{A:Env0 I}{exS:StSh}(f:Go.Func)(hS: ∀c∈A.S,zk Tryz.prog c)(hf:Tryz.prog.funcs[con.f]? =some f)(h:chk con A f=true)(he: ∀x,evF2 A T FK f.ntmps (rsl f) (body f) con exS x=con.F x):zk Tryz.prog con:=
 okC0 mixed ipOK tok rfl rfl hS hf h he
def Jv(F:List zg×Int->Option Int):Con I:=⟨58,⟨[.sl 49, .int .i64],[]⟩,[],⟨[.int .i64],[]⟩,0,F⟩
def Vv(F:Int->Option Int):Con I:=⟨25,⟨[.int .u8],[]⟩,[],⟨[.int .u8],[]⟩,0,F⟩
def Yq(F:List zg->Option Int):Con I:=⟨59,⟨[.sl 49],[]⟩,[],⟨[.int .i64],[]⟩,0,F⟩
def pO(F:List zg->Option Bool):Con I:=⟨15,⟨[.sl 49],[]⟩,[],⟨[.bool],[]⟩,0,F⟩
def qp(F:List zg->Option (List zb)):Con I:=⟨36,⟨[.sl 49],[]⟩,[],⟨[.sl 44],[]⟩,0,F⟩
def Uv(F:List zg×Int->Option Bool):Con I:=⟨66,⟨[.sl 49, .int .u8],[]⟩,[],⟨[.bool],[]⟩,0,F⟩
def oG(F:List zg->Option Int):Con I:=⟨27,⟨[.sl 49],[]⟩,[],⟨[.int .i64],[]⟩,0,F⟩
def Qm(F:Str×Str->Option Bool):Con I:=⟨130,⟨[.str, .str],[]⟩,[],⟨[.bool],[]⟩,0,F⟩
def ZQ(F:Str×Str->Option Bool):Con I:=⟨93,⟨[.str, .str],[]⟩,[],⟨[.bool],[]⟩,0,F⟩
def nQ(F:za->Option za):Con I:=⟨100,⟨[.optr 0],[(0, .row 133)]⟩,[],⟨[],[(0, .row 133)]⟩,0,F⟩
def zx(F:Int×za->Option Int):Con I:=⟨137,⟨[.optr 0, .int .i64],[(0, .row 133)]⟩,[0],⟨[.int .i64],[]⟩,0,F⟩
def QX(F:Int->Option Bool):Con I:=⟨138,⟨[.int .i64],[]⟩,[],⟨[.bool],[]⟩,0,F⟩
def qN(F:za->Option za):Con I:=⟨139,⟨[.optr 0, .clo 138 []],[(0, .row 133)]⟩,[],⟨[],[(0, .row 133)]⟩,0,F⟩
def QI(F:Int->Option (List UInt8)):Con I:=⟨237,⟨[.nilv, .int .i32],[]⟩,[],⟨[.own 0],[(0, .sl 5)]⟩,1,F⟩
def OQ(F:Int->Option (List UInt8)):Con I:=⟨210,⟨[.nilv, .int .i32],[]⟩,[],⟨[.own 0],[(0, .sl 5)]⟩,1,F⟩
def Sv(F:Int×Int×Int->Option Bool):Con I:=⟨212,⟨[.int .i64, .int .i64, .int .i64],[]⟩,[],⟨[.bool],[]⟩,0,F⟩
def QW(F:Int->Option Bool):Con I:=⟨174,⟨[.int .i64],[]⟩,[],⟨[.bool],[]⟩,0,F⟩
def RG(F:Int->Option Int):Con I:=⟨211,⟨[.int .i64],[]⟩,[],⟨[.int .i64],[]⟩,0,F⟩
def iQ(F:za->Option (za×List UInt8)):Con I:=⟨172,⟨[.optr 0, .nilv],[(0, .row 133)]⟩,[],⟨[.own 1],[(0, .row 133),(1, .sl 5)]⟩,1,F⟩
def QJ(F:Int×List UInt8->Option (List UInt8)):Con I:=⟨237,⟨[.own 0, .int .i32],[(0, .sl 5)]⟩,[],⟨[.own 1],[(1, .sl 5)]⟩,1,F⟩
def NQ(F:Int×List UInt8->Option (List UInt8)):Con I:=⟨210,⟨[.own 0, .int .i32],[(0, .sl 5)]⟩,[],⟨[.own 1],[(1, .sl 5)]⟩,1,F⟩
def ZY(F:za×List UInt8->Option (za×List UInt8)):Con I:=⟨172,⟨[.optr 0, .own 1],[(0, .row 133),(1, .sl 5)]⟩,[],⟨[.own 2],[(0, .row 133),(2, .sl 5)]⟩,1,F⟩
def YQ(F:za->Option (zb×za)):Con I:=⟨140,⟨[.optr 0],[(0, .row 133)]⟩,[],⟨[.val 44],[(0, .row 133)]⟩,0,F⟩
def nG(F:Int->Option Bool):Con I:=⟨173,⟨[.int .i64],[]⟩,[],⟨[.bool],[]⟩,0,F⟩
def yG(F:Int->Option Bool):Con I:=⟨141,⟨[.int .i64],[]⟩,[],⟨[.bool],[]⟩,0,F⟩
def Zv(F:Int×za->Option Bool):Con I:=⟨142,⟨[.optr 0, .int .i64],[(0, .row 133)]⟩,[0],⟨[.bool],[]⟩,0,F⟩
def Q6(F:Int×za->Option Bool):Con I:=⟨143,⟨[.optr 0, .int .i64],[(0, .row 133)]⟩,[0],⟨[.bool],[]⟩,0,F⟩
def qZ(F:za->Option (Str×za)):Con I:=⟨144,⟨[.optr 0],[(0, .row 133)]⟩,[],⟨[.str],[(0, .row 133)]⟩,0,F⟩
def aQ(F:za->Option Bool):Con I:=⟨145,⟨[.optr 0],[(0, .row 133)]⟩,[0],⟨[.bool],[]⟩,0,F⟩
def jQ(F:za->Option za):Con I:=⟨139,⟨[.optr 0, .clo 174 []],[(0, .row 133)]⟩,[],⟨[],[(0, .row 133)]⟩,0,F⟩
def lQ(F:za->Option (Bool×za)):Con I:=⟨175,⟨[.optr 0],[(0, .row 133)]⟩,[],⟨[.bool],[(0, .row 133)]⟩,0,F⟩
def PQ(F:Str->Option Int):Con I:=⟨176,⟨[.str],[]⟩,[],⟨[.int .i64],[]⟩,0,F⟩
def kQ(F:za->Option (zb×za)):Con I:=⟨146,⟨[.optr 0],[(0, .row 133)]⟩,[],⟨[.val 44],[(0, .row 133)]⟩,0,F⟩
def yO(F:Str->Option Str):Con I:=⟨108,⟨[.str],[]⟩,[],⟨[.str],[]⟩,0,F⟩
def rG(F:Str×Str->Option Bool):Con I:=⟨109,⟨[.str, .str],[]⟩,[],⟨[.bool],[]⟩,0,F⟩
def SQ(F:za->Option (zb×za)):Con I:=⟨216,⟨[.optr 0],[(0, .row 133)]⟩,[],⟨[.val 44],[(0, .row 133)]⟩,0,F⟩
def RQ(F:za->Option (zb×za)):Con I:=⟨177,⟨[.optr 0],[(0, .row 133)]⟩,[],⟨[.val 44],[(0, .row 133)]⟩,0,F⟩
def eQ(F:za->Option (zb×za)):Con I:=⟨147,⟨[.optr 0],[(0, .row 133)]⟩,[],⟨[.val 44],[(0, .row 133)]⟩,0,F⟩
def Ql(F:Str×Int->Option Int):Con I:=⟨119,⟨[.str, .int .u8],[]⟩,[],⟨[.int .i64],[]⟩,0,F⟩
def fQ(F:za->Option (zb×za)):Con I:=⟨101,⟨[.optr 0],[(0, .row 133)]⟩,[],⟨[.val 44],[(0, .row 133)]⟩,0,F⟩
def WQ(F:(zb×Int×Int)×List zb->Option (List zb)):Con I:=⟨70,⟨[.val 44, .int .i64, .int .i64, .optr 0],[(0, .cells 22 [.own 1]),(1, .sl 44)]⟩,[],⟨[],[(0, .cells 22 [.own 2]),(2, .sl 44)]⟩,1,F⟩
def jP(F:Str->Option (Int×List zb)):Con I:=⟨69,⟨[.str, .clo 70 [0]],[(0, .cells 22 [.nilv])]⟩,[],⟨[.int .i64],[(0, .cells 22 [.own 1]),(1, .sl 44)]⟩,1,F⟩
def kP(F:Str->Option (List zb×Int)):Con I:=⟨33,⟨[.str],[]⟩,[],⟨[.sl 44, .int .i64],[]⟩,0,F⟩
def WA(F:Int->Option Int):Con I:=⟨61,⟨[.int .u8],[]⟩,[],⟨[.int .u8],[]⟩,0,F⟩
def ou(F:List zg×Int->Option zR):Con I:=⟨65,⟨[.sl 49, .int .u8],[]⟩,[],⟨[.val 101],[]⟩,0,F⟩
def bG(F:List zg->Option Int):Con I:=⟨32,⟨[.sl 49],[]⟩,[],⟨[.int .i64],[]⟩,0,F⟩
def bv(F:List zg×List zb->Option (List zb)):Con I:=⟨63,⟨[.own 0, .sl 49],[(0, .sl 44)]⟩,[],⟨[.own 1],[(1, .sl 44)]⟩,1,F⟩
def xO(F:List zg->Option (List zb)):Con I:=⟨63,⟨[.nilv, .sl 49],[]⟩,[],⟨[.own 0],[(0, .sl 44)]⟩,1,F⟩
def oQ(F:Str×Str->Option Str):Con I:=⟨197,⟨[.str, .str],[]⟩,[],⟨[.str],[]⟩,0,F⟩
def gQ(F:Str×Str->Option Str):Con I:=⟨162,⟨[.str, .str],[]⟩,[],⟨[.str],[]⟩,0,F⟩
def Mv(F:Int->Option Bool):Con I:=⟨155,⟨[.int .u8],[]⟩,[],⟨[.bool],[]⟩,0,F⟩
def FH(F:Str->Option Bool):Con I:=⟨122,⟨[.str],[]⟩,[],⟨[.bool],[]⟩,0,F⟩
def sG(F:Int->Option Bool):Con I:=⟨157,⟨[.int .u8],[]⟩,[],⟨[.bool],[]⟩,0,F⟩
def eG(F:Int->Option Bool):Con I:=⟨153,⟨[.int .u8],[]⟩,[],⟨[.bool],[]⟩,0,F⟩
def XQ(F:Str×Str->Option Bool):Con I:=⟨154,⟨[.str, .str],[]⟩,[],⟨[.bool],[]⟩,0,F⟩
def yN(F:zb->Option Bool):Con I:=⟨115,⟨[.val 44],[]⟩,[],⟨[.bool],[]⟩,0,F⟩
def vP(F:(Int×Int)×List zb->Option Bool):Con I:=⟨116,⟨[.int .i64, .int .u8, .optr 0],[(0, .row 22)]⟩,[0],⟨[.bool],[]⟩,0,F⟩
def dG(F:List zb->Option Int):Con I:=⟨80,⟨[.sl 44],[]⟩,[],⟨[.int .i64],[]⟩,0,F⟩
def bO(F:List zb->Option Int):Con I:=⟨79,⟨[.sl 44],[]⟩,[],⟨[.int .i64],[]⟩,0,F⟩
def YO(F:Str->Option Int):Con I:=⟨118,⟨[.str],[]⟩,[],⟨[.int .i64],[]⟩,0,F⟩
def vG(F:Int×List UInt8->Option (List UInt8)):Con I:=⟨120,⟨[.own 0, .int .u8],[(0, .sl 5)]⟩,[],⟨[.own 1],[(1, .sl 5)]⟩,1,F⟩
def BP(F:(Str×Int)×List UInt8->Option (List UInt8)):Con I:=⟨117,⟨[.own 0, .str, .int .i64],[(0, .sl 5)]⟩,[],⟨[.own 1],[(1, .sl 5)]⟩,1,F⟩
def XO(F:Unit->Option Qw):Con I:=⟨123,⟨[],[]⟩,[],⟨[.val 149],[]⟩,0,F⟩
def AQ(F:(Int×Bool)×List UInt8->Option (List UInt8)):Con I:=⟨121,⟨[.own 0, .int .i64, .bool],[(0, .sl 5)]⟩,[],⟨[.own 1],[(1, .sl 5)]⟩,1,F⟩
def AP(F:zb×List UInt8->Option (List UInt8)):Con I:=⟨81,⟨[.own 0, .val 44],[(0, .sl 5)]⟩,[],⟨[.own 1],[(1, .sl 5)]⟩,1,F⟩
def bQ(F:List zb×List zb->Option Bool):Con I:=⟨82,⟨[.sl 44, .sl 44],[]⟩,[],⟨[.bool],[]⟩,0,F⟩
def aO(F:List zb->Option (Str×Int)):Con I:=⟨46,⟨[.sl 44],[]⟩,[],⟨[.str, .int .i64],[]⟩,0,F⟩
def vN(F:List zg->Option (Str×Int)):Con I:=⟨20,⟨[.sl 49],[]⟩,[],⟨[.str, .int .i64],[]⟩,0,F⟩
def Kv(F:List zg×List zg->Option Bool):Con I:=⟨22,⟨[.sl 49, .sl 49],[]⟩,[],⟨[.bool],[]⟩,0,F⟩
def Tv(F:List zb×Int×Int×Int->Option (List zg×Int)):Con I:=⟨96,⟨[.sl 44, .int .i64, .int .u8, .int .i64],[]⟩,[],⟨[.sl 49, .int .i64],[]⟩,0,F⟩
def mP(F:List zb->Option (List zg×Bool)):Con I:=⟨62,⟨[.sl 44],[]⟩,[],⟨[.sl 49, .bool],[]⟩,0,F⟩
def MP(F:List zb->Option (List zg×Int)):Con I:=⟨17,⟨[.sl 44],[]⟩,[],⟨[.sl 49, .int .i64],[]⟩,0,F⟩
def wN(F:List zg->Option (List zb×Int)):Con I:=⟨18,⟨[.sl 49],[]⟩,[],⟨[.sl 44, .int .i64],[]⟩,0,F⟩
def jO(F:List zg->Option (List zb×Int)):Con I:=⟨19,⟨[.sl 49],[]⟩,[],⟨[.sl 44, .int .i64],[]⟩,0,F⟩
def rO(F:Str->Option Bool):Con I:=⟨102,⟨[.str],[]⟩,[],⟨[.bool],[]⟩,0,F⟩
def ZC(F:Int->Option Bool):Con I:=⟨148,⟨[.int .u8],[]⟩,[],⟨[.bool],[]⟩,0,F⟩
def PO(F:Str->Option Bool):Con I:=⟨103,⟨[.str],[]⟩,[],⟨[.bool],[]⟩,0,F⟩
def av(F:Int->Option Bool):Con I:=⟨178,⟨[.int .u8],[]⟩,[],⟨[.bool],[]⟩,0,F⟩
def qJ(F:Str×Int->Option Int):Con I:=⟨217,⟨[.str, .int .i64],[]⟩,[],⟨[.int .u8],[]⟩,0,F⟩
def TA(F:Str×Int->Option Int):Con I:=⟨179,⟨[.str, .int .i64],[]⟩,[],⟨[.int .i64],[]⟩,0,F⟩
def YG(F:Unit->Option Str):Con I:=⟨244,⟨[],[]⟩,[],⟨[.str],[]⟩,0,F⟩
def QV(F:Int->Option Int):Con I:=⟨150,⟨[.int .u8],[]⟩,[],⟨[.int .u8],[]⟩,0,F⟩
def JO(F:Int->Option Int):Con I:=⟨245,⟨[.int .u8],[]⟩,[],⟨[.int .i64],[]⟩,0,F⟩
def VO(F:Int->Option Str):Con I:=⟨246,⟨[.int .i64],[]⟩,[],⟨[.str],[]⟩,0,F⟩
def QH(F:Str×Int->Option (Str×Int)):Con I:=⟨218,⟨[.str, .int .i64],[]⟩,[],⟨[.str, .int .i64],[]⟩,0,F⟩
def oP(F:Str×Int->Option (zb×Int)):Con I:=⟨180,⟨[.str, .int .i64],[]⟩,[],⟨[.val 44, .int .i64],[]⟩,0,F⟩
def BH(F:Int->Option Bool):Con I:=⟨198,⟨[.int .u8],[]⟩,[],⟨[.bool],[]⟩,0,F⟩
def Yv(F:Int->Option Bool):Con I:=⟨163,⟨[.int .u8],[]⟩,[],⟨[.bool],[]⟩,0,F⟩
def Qx(F:Str×Int->Option Bool):Con I:=⟨181,⟨[.str, .int .i64],[]⟩,[],⟨[.bool],[]⟩,0,F⟩
def UA(F:Str×Int->Option (Str×Int)):Con I:=⟨182,⟨[.str, .int .i64],[]⟩,[],⟨[.str, .int .i64],[]⟩,0,F⟩
def EH(F:Str×Int->Option Bool):Con I:=⟨183,⟨[.str, .int .i64],[]⟩,[],⟨[.bool],[]⟩,0,F⟩
def MQ(F:Str×Int->Option Bool):Con I:=⟨184,⟨[.str, .int .i64],[]⟩,[],⟨[.bool],[]⟩,0,F⟩
def rP(F:Str×Int->Option Int):Con I:=⟨247,⟨[.str, .int .i64],[]⟩,[],⟨[.int .i64],[]⟩,0,F⟩
def KQ(F:Str×Int->Option (Int×Bool)):Con I:=⟨219,⟨[.str, .int .i64],[]⟩,[],⟨[.int .i64, .bool],[]⟩,0,F⟩
def UQ(F:Str->Option Int):Con I:=⟨220,⟨[.str],[]⟩,[],⟨[.int .i64],[]⟩,0,F⟩
def yP(F:Str×Int->Option (zb×Int)):Con I:=⟨185,⟨[.str, .int .i64],[]⟩,[],⟨[.val 44, .int .i64],[]⟩,0,F⟩
def SG(F:Str×Int×Str->Option Bool):Con I:=⟨186,⟨[.str, .int .i64, .str],[]⟩,[],⟨[.bool],[]⟩,0,F⟩
def wO(F:Str->Option Str):Con I:=⟨105,⟨[.str],[]⟩,[],⟨[.str],[]⟩,0,F⟩
def VA(F:Str×Str->Option Bool):Con I:=⟨72,⟨[.str, .str],[]⟩,[],⟨[.bool],[]⟩,0,F⟩
def FO(F:Str×Int->Option (zb×Int)):Con I:=⟨248,⟨[.str, .int .i64],[]⟩,[],⟨[.val 44, .int .i64],[]⟩,0,F⟩
def TQ(F:Int->Option Bool):Con I:=⟨249,⟨[.int .u8],[]⟩,[],⟨[.bool],[]⟩,0,F⟩
def CO(F:Str×Int->Option (zb×Int)):Con I:=⟨221,⟨[.str, .int .i64],[]⟩,[],⟨[.val 44, .int .i64],[]⟩,0,F⟩
def RO(F:Str×Int->Option (zb×Int)):Con I:=⟨187,⟨[.str, .int .i64],[]⟩,[],⟨[.val 44, .int .i64],[]⟩,0,F⟩
def UO(F:Int->Option Int):Con I:=⟨188,⟨[.int .u8],[]⟩,[],⟨[.int .u8],[]⟩,0,F⟩
def TG(F:Str×Int->Option (zb×Int)):Con I:=⟨149,⟨[.str, .int .i64],[]⟩,[],⟨[.val 44, .int .i64],[]⟩,0,F⟩
def uO(F:Int->Option Bool):Con I:=⟨104,⟨[.int .u8],[]⟩,[],⟨[.bool],[]⟩,0,F⟩
def oO(F:zb->Option Bool):Con I:=⟨71,⟨[.val 44],[]⟩,[],⟨[.bool],[]⟩,0,F⟩
def vO(F:List zb->Option Int):Con I:=⟨35,⟨[.sl 44],[]⟩,[],⟨[.int .i64],[]⟩,0,F⟩
def SA(F:Int->Option Str):Con I:=⟨164,⟨[.int .u8],[]⟩,[],⟨[.str],[]⟩,0,F⟩
def pG(F:Str×Bool->Option Str):Con I:=⟨124,⟨[.str, .bool],[]⟩,[],⟨[.str],[]⟩,0,F⟩
def nP(F:Str×Bool->Option Str):Con I:=⟨201,⟨[.str, .bool],[]⟩,[],⟨[.str],[]⟩,0,F⟩
def Xv(F:Int->Option Str):Con I:=⟨229,⟨[.int .i64],[]⟩,[],⟨[.str],[]⟩,0,F⟩
def Wv(F:Int×Bool->Option Str):Con I:=⟨202,⟨[.int .i64, .bool],[]⟩,[],⟨[.str],[]⟩,0,F⟩
def mO(F:Str->Option Str):Con I:=⟨203,⟨[.str],[]⟩,[],⟨[.str],[]⟩,0,F⟩
def nO(F:zb->Option Str):Con I:=⟨167,⟨[.val 44],[]⟩,[],⟨[.str],[]⟩,0,F⟩
def sO(F:List zb->Option (Int×Str)):Con I:=⟨133,⟨[.sl 44],[]⟩,[],⟨[.int .i64, .str],[]⟩,0,F⟩
def WO(F:Str×Int->Option Int):Con I:=⟨152,⟨[.str, .int .i64],[]⟩,[],⟨[.int .i64],[]⟩,0,F⟩
def KO(F:Str->Option (List zb×List Zj)):Con I:=⟨114,⟨[.str],[]⟩,[],⟨[.sl 44, .sl 172],[]⟩,0,F⟩
def aG(F:List zb×List zb->Option Bool):Con I:=⟨23,⟨[.sl 44, .sl 44],[]⟩,[],⟨[.bool],[]⟩,0,F⟩
def xP(F:List zb->Option Str):Con I:=⟨97,⟨[.sl 44],[]⟩,[],⟨[.str],[]⟩,0,F⟩
def tO(F:List zb->Option (Str×Int)):Con I:=⟨64,⟨[.sl 44],[]⟩,[],⟨[.str, .int .i64],[]⟩,0,F⟩
def iO(F:List zg->Option (Str×Int)):Con I:=⟨21,⟨[.sl 49],[]⟩,[],⟨[.str, .int .i64],[]⟩,0,F⟩
def sP(F:List zb×List zb->Option Bool):Con I:=⟨23,⟨[.sl 44, .own 0],[(0, .sl 44)]⟩,[0],⟨[.bool],[]⟩,0,F⟩
def VQ(F:List zb×List zg->Option Bool):Con I:=⟨3,⟨[.sl 44, .sl 49],[]⟩,[],⟨[.bool],[]⟩,0,F⟩
def uP(F:List zg->Option (List zb)):Con I:=⟨63,⟨[.nilv, .sl 49],[]⟩,[],⟨[.sl 44],[]⟩,0,F⟩
def VK(F:Str->Option (Str×Int)):Con I:=⟨99,⟨[.str],[]⟩,[],⟨[.str, .int .i64],[]⟩,0,F⟩
theorem YX:zk Tryz.prog (VK Aj):=AY
def iM(F:Str×Int->Option Int):Con I:=⟨156,⟨[.str, .int .u8],[]⟩,[],⟨[.int .i64],[]⟩,0,F⟩
theorem gZ:zk Tryz.prog (iM Vs):=PZ
def DF(F:Str×Str->Option Int):Con I:=⟨136,⟨[.str, .str],[]⟩,[],⟨[.int .i64],[]⟩,0,F⟩
theorem JL:zk Tryz.prog (DF si):=yX
def SK(F:Str×Str->Option Str):Con I:=⟨213,⟨[.str, .str],[]⟩,[],⟨[.str],[]⟩,0,F⟩
theorem VX:zk Tryz.prog (SK yh):=wX
def PK(F:Str×Str->Option Str):Con I:=⟨160,⟨[.str, .str],[]⟩,[],⟨[.str],[]⟩,0,F⟩
theorem UX:zk Tryz.prog (PK sj):=vX
def xN(F:Str×Str->Option Int):Con I:=⟨214,⟨[.str, .str],[]⟩,[],⟨[.int .i64],[]⟩,0,F⟩
theorem Y2:zk Tryz.prog (xN QL):=F5
def WH(F:Str×Str->Option (Str×Str×Bool)):Con I:=⟨215,⟨[.str, .str],[]⟩,[],⟨[.str, .str, .bool],[]⟩,0,F⟩
theorem WU:zk Tryz.prog (WH cutF):=GU
def FM(F:Int×Int->Option Str):Con I:=⟨161,⟨[.int .i64, .int .i64],[]⟩,[],⟨[.str],[]⟩,0,F⟩
theorem iZ:zk Tryz.prog (FM Jm):=RZ
def XN(F:(Int×Int)×List UInt8->Option (List UInt8)):Con I:=⟨158,⟨[.own 0, .int .u64, .int .i64],[(0, .sl 5)]⟩,[],⟨[.own 1],[(1, .sl 5)]⟩,1,F⟩
theorem xZ:zk Tryz.prog (XN Rm):=mZ
def YN(F:(Int×Int)×List UInt8->Option (List UInt8)):Con I:=⟨159,⟨[.own 0, .int .i64, .int .i64],[(0, .sl 5)]⟩,[],⟨[.own 1],[(1, .sl 5)]⟩,1,F⟩
theorem yZ:zk Tryz.prog (YN Sm):=nZ
def UK(F:List zb->Option (List zg×Int)):Con I:=⟨16,⟨[.sl 44],[]⟩,[],⟨[.sl 49, .int .i64],[]⟩,0,F⟩
theorem XX:zk Tryz.prog (UK parseF):=xX
theorem V4(qC:List zg×Int->Option Int)(hs:zk Tryz.prog (Jv qC)):zk Tryz.prog (Jv (Vq qC)):=
 okC (A:=⟨[Jv qC],[],[],0,[(3,⟨[5,6],⟨[.int .i64, .int .i64],[]⟩,[0,1,4],[],[],0,[5],⟨[.int .i64],[]⟩,[]⟩)],[],[]⟩) (exS:=⟨[.int .i64],[]⟩) Tryz.f58 (memC hs zJ) (by kernel_rfl) (by kernel_rfl) fun x=>by kernel_rfl
theorem M5:zk Tryz.prog (Jv qC):=
 zk.recE (I:=I) (P:=Tryz.prog) (f:=58) (inS:=⟨[.sl 49, .int .i64],[]⟩) (cst:=[]) (outS:=⟨[.int .i64],[]⟩) (k:=0) (Vq) (by kernel_rfl) (fun S h=>V4 S h)
theorem dA:zk Tryz.prog (Vv qa):=
 okC (A:=⟨[],[],[],0,[],[(6,⟨[6],⟨[.bool],[]⟩,[3],[],[],0,[],⟨[],[]⟩,[]⟩)],[]⟩) (exS:=⟨[.int .u8],[]⟩) Tryz.f25 zJ (by kernel_rfl) (by kernel_rfl) fun x=>by kernel_rfl
theorem Y4(qK:List zg->Option Int)(hs:zk Tryz.prog (Yq qK)):zk Tryz.prog (Yq (EA qK)):=
 okC (A:=⟨[Vv qa,Yq qK],[],[],0,[(3,⟨[3,4],⟨[.int .i64, .int .i64],[]⟩,[0,2],[],[],0,[3],⟨[.int .i64],[]⟩,[]⟩)],[(4,⟨[3,4],⟨[.int .i64, .int .i64],[]⟩,[],[],[],0,[],⟨[],[]⟩,[]⟩)],[]⟩) (exS:=⟨[.int .i64],[]⟩) Tryz.f59 (memC dA (memC hs zJ)) (by kernel_rfl) (by kernel_rfl) fun x=>by kernel_rfl
theorem NP:zk Tryz.prog (Yq qK):=
 zk.recE (I:=I) (P:=Tryz.prog) (f:=59) (inS:=⟨[.sl 49],[]⟩) (cst:=[]) (outS:=⟨[.int .i64],[]⟩) (k:=0) (EA) (by kernel_rfl) (fun S h=>Y4 S h)
theorem G7:zk Tryz.prog (pO tu):=
 okC (A:=⟨[Jv qC,Yq qK],[],[],0,[],[],[]⟩) (exS:=⟨[.bool],[]⟩) Tryz.f15 (memC M5 (memC NP zJ)) (by kernel_rfl) (by kernel_rfl) fun x=>by kernel_rfl
theorem l6(Zk:List zg->Option (List zb))(hs:zk Tryz.prog (qp Zk)):zk Tryz.prog (qp (KA Zk)):=
 okC (A:=⟨[Vv qa,qp Zk],[(5,[6]),(9,[3])],[],0,[(3,⟨[3,4],⟨[.own 1001, .int .i64],[(1001, .sl 44)]⟩,[0,2],[],[],0,[3],⟨[.own 1001],[(1001, .sl 44)]⟩,[1001]⟩)],[(4,⟨[3,4],⟨[.own 1103, .int .i64],[(1103, .sl 44)]⟩,[],[],[],0,[],⟨[],[]⟩,[]⟩)],[]⟩) (exS:=⟨[.sl 44],[]⟩) Tryz.f36 (memC dA (memC hs zJ)) (by kernel_rfl) (by kernel_rfl) fun x=>by kernel_rfl
theorem bA:zk Tryz.prog (qp Zk):=
 zk.recE (I:=I) (P:=Tryz.prog) (f:=36) (inS:=⟨[.sl 49],[]⟩) (cst:=[]) (outS:=⟨[.sl 44],[]⟩) (k:=0) (KA) (by kernel_rfl) (fun S h=>l6 S h)
theorem Y6(qy:List zg×Int->Option Bool)(hs:zk Tryz.prog (Uv qy)):zk Tryz.prog (Uv (JA qy)):=
 okC (A:=⟨[Vv qa,Uv qy],[],[],0,[(2,⟨[5],⟨[.int .i64],[]⟩,[0,1],[],[],0,[],⟨[],[]⟩,[]⟩)],[],[]⟩) (exS:=⟨[.bool],[]⟩) Tryz.f66 (memC dA (memC hs zJ)) (by kernel_rfl) (by kernel_rfl) fun x=>by kernel_rfl
theorem H8:zk Tryz.prog (Uv qy):=
 zk.recE (I:=I) (P:=Tryz.prog) (f:=66) (inS:=⟨[.sl 49, .int .u8],[]⟩) (cst:=[]) (outS:=⟨[.bool],[]⟩) (k:=0) (JA) (by kernel_rfl) (fun S h=>Y6 S h)
theorem aP:zk Tryz.prog (oG Gn):=
 okC (A:=⟨[Yq qK,qp Zk,Uv qy],[],[],0,[],[],[]⟩) (exS:=⟨[.int .i64],[]⟩) Tryz.f27 (memC NP (memC bA (memC H8 zJ))) (by kernel_rfl) (by kernel_rfl) fun x=>by kernel_rfl
theorem mQ:zk Tryz.prog (Qm stringslite_HasPrefix):=
 okC (A:=⟨[],[],[],0,[],[],[]⟩) (exS:=⟨[.bool],[]⟩) Tryz.f130 zJ (by kernel_rfl) (by kernel_rfl) fun x=>by kernel_rfl
theorem qi:zk Tryz.prog (ZQ strings_HasPrefix):=
 okC (A:=⟨[Qm stringslite_HasPrefix],[],[],0,[],[],[]⟩) (exS:=⟨[.bool],[]⟩) Tryz.f93 (memC mQ zJ) (by kernel_rfl) (by kernel_rfl) fun x=>by kernel_rfl
theorem V9:zk Tryz.prog (nQ Zl):=
 okC (A:=⟨[ZQ strings_HasPrefix,DF si],[],[],1,[(0,⟨[],⟨[],[(0, .row 133)]⟩,[0],[],[0],0,[],⟨[],[(0, .row 133)]⟩,[0]⟩)],[],[]⟩) (exS:=⟨[],[(0, .row 133)]⟩) Tryz.f100 (memC qi (memC JL zJ)) (by kernel_rfl) (by kernel_rfl) fun x=>by kernel_rfl
theorem zA:zk Tryz.prog (zx zf):=
 okC (A:=⟨[],[],[],1,[],[],[]⟩) (exS:=⟨[.int .i64],[]⟩) Tryz.f137 zJ (by kernel_rfl) (by kernel_rfl) fun x=>by kernel_rfl
theorem Ov:zk Tryz.prog (QX qg):=
 okC (A:=⟨[],[],[],0,[],[],[]⟩) (exS:=⟨[.bool],[]⟩) Tryz.f138 zJ (by kernel_rfl) (by kernel_rfl) fun x=>by kernel_rfl
theorem QE:zk Tryz.prog (qN zZ):=
 okC (A:=⟨[zx zf,QX qg],[],[],1,[(0,⟨[],⟨[],[(0, .row 133)]⟩,[0,1],[],[0],0,[],⟨[],[(0, .row 133)]⟩,[0]⟩)],[],[]⟩) (exS:=⟨[],[(0, .row 133)]⟩) Tryz.f139 (memC zA (memC Ov zJ)) (by kernel_rfl) (by kernel_rfl) fun x=>by kernel_rfl
theorem l9:zk Tryz.prog (QI Z4):=
 okC (A:=⟨[],[(2,[1]),(4,[9]),(7,[14]),(9,[19])],[],0,[],[(7,⟨[25],⟨[.bool],[]⟩,[0,1,5],[],[],0,[],⟨[],[]⟩,[]⟩)],[]⟩) (exS:=⟨[.own 0],[(0, .sl 5)]⟩) Tryz.f237 zJ (by kernel_rfl) (by kernel_rfl) fun x=>by kernel_rfl
theorem E9:zk Tryz.prog (OQ ZV):=
 okC (A:=⟨[QI Z4],[(2,[3])],[],0,[],[],[]⟩) (exS:=⟨[.own 0],[(0, .sl 5)]⟩) Tryz.f210 (memC l9 zJ) (by kernel_rfl) (by kernel_rfl) fun x=>by kernel_rfl
theorem aA:zk Tryz.prog (Sv ZM):=
 okC (A:=⟨[],[],[],0,[],[],[]⟩) (exS:=⟨[.bool],[]⟩) Tryz.f212 zJ (by kernel_rfl) (by kernel_rfl) fun x=>by kernel_rfl
theorem Pv:zk Tryz.prog (QW Zq):=
 okC (A:=⟨[Sv ZM],[],[],0,[],[],[]⟩) (exS:=⟨[.bool],[]⟩) Tryz.f174 (memC aA zJ) (by kernel_rfl) (by kernel_rfl) fun x=>by kernel_rfl
theorem uN:zk Tryz.prog (RG Vk):=
 okC (A:=⟨[QW Zq,Sv ZM],[],[],0,[],[],[]⟩) (exS:=⟨[.int .i64],[]⟩) Tryz.f211 (memC Pv (memC aA zJ)) (by kernel_rfl) (by kernel_rfl) fun x=>by kernel_rfl
theorem p9:zk Tryz.prog (iQ ZH):=
 okC (A:=⟨[zx zf,OQ ZV,RG Vk,QX qg],[(7,[3])],[],1,[(10,⟨[6,36],⟨[.int .i64, .int .i64],[(0, .row 133)]⟩,[0,1,4],[],[0],0,[6],⟨[.int .i64],[(0, .row 133)]⟩,[0]⟩)],[(17,⟨[6],⟨[.int .i64],[(0, .row 133)]⟩,[1],[],[0],0,[],⟨[],[]⟩,[]⟩),(19,⟨[6],⟨[.int .i64],[]⟩,[],[0],[],0,[],⟨[],[]⟩,[]⟩)],[]⟩) (exS:=⟨[.own 1],[(0, .row 133),(1, .sl 5)]⟩) Tryz.f172 (memC zA (memC E9 (memC uN (memC Ov zJ)))) (by kernel_rfl) (by kernel_rfl) fun x=>by kernel_rfl
theorem d9:zk Tryz.prog (QJ Z5):=
 okC (A:=⟨[],[(2,[1]),(4,[9]),(7,[14]),(9,[19])],[],1,[],[(7,⟨[25],⟨[.bool],[(0, .sl 5)]⟩,[0,1,5],[],[0],0,[],⟨[],[]⟩,[]⟩)],[]⟩) (exS:=⟨[.own 1],[(1, .sl 5)]⟩) Tryz.f237 zJ (by kernel_rfl) (by kernel_rfl) fun x=>by kernel_rfl
theorem D9:zk Tryz.prog (NQ ZW):=
 okC (A:=⟨[QJ Z5],[(2,[3])],[],1,[],[],[]⟩) (exS:=⟨[.own 1],[(1, .sl 5)]⟩) Tryz.f210 (memC d9 zJ) (by kernel_rfl) (by kernel_rfl) fun x=>by kernel_rfl
theorem qI:zk Tryz.prog (ZY zV):=
 okC (A:=⟨[zx zf,NQ ZW,RG Vk,QX qg],[(7,[3])],[],2,[(10,⟨[6,36],⟨[.int .i64, .int .i64],[(0, .row 133)]⟩,[0,1,4],[1],[0],0,[6],⟨[.int .i64],[(0, .row 133)]⟩,[0]⟩)],[(17,⟨[6],⟨[.int .i64],[(0, .row 133),(1, .sl 5)]⟩,[1],[],[0,1],0,[],⟨[],[]⟩,[]⟩),(19,⟨[6],⟨[.int .i64],[(1, .sl 5)]⟩,[],[0],[1],0,[],⟨[],[]⟩,[]⟩)],[]⟩) (exS:=⟨[.own 2],[(0, .row 133),(2, .sl 5)]⟩) Tryz.f172 (memC zA (memC D9 (memC uN (memC Ov zJ)))) (by kernel_rfl) (by kernel_rfl) fun x=>by kernel_rfl
theorem Y9:zk Tryz.prog (YQ qj):=
 okC (A:=⟨[zx zf,ZY zV],[(5,[3])],[],1,[(4,⟨[4],⟨[.own 1104],[(0, .row 133),(1, .row 44),(1104, .sl 5)]⟩,[0,2,3],[],[0,1],0,[4],⟨[.own 1104],[(0, .row 133),(1, .row 44),(1104, .sl 5)]⟩,[0,1,1104]⟩)],[],[]⟩) (exS:=⟨[.optr 1],[(0, .row 133),(1, .row 44)]⟩) Tryz.f140 (memC zA (memC qI zJ)) (by kernel_rfl) (by kernel_rfl) fun x=>by kernel_rfl
theorem YP:zk Tryz.prog (nG En):=
 okC (A:=⟨[Sv ZM],[],[],0,[],[],[]⟩) (exS:=⟨[.bool],[]⟩) Tryz.f173 (memC aA zJ) (by kernel_rfl) (by kernel_rfl) fun x=>by kernel_rfl
theorem CQ:zk Tryz.prog (yG Uq):=
 okC (A:=⟨[nG En,QW Zq],[],[],0,[],[],[]⟩) (exS:=⟨[.bool],[]⟩) Tryz.f141 (memC YP (memC Pv zJ)) (by kernel_rfl) (by kernel_rfl) fun x=>by kernel_rfl
theorem ZF:zk Tryz.prog (Zv zu):=
 okC (A:=⟨[zx zf],[],[],1,[],[],[]⟩) (exS:=⟨[.bool],[]⟩) Tryz.f142 (memC zA zJ) (by kernel_rfl) (by kernel_rfl) fun x=>by kernel_rfl
theorem dQ:zk Tryz.prog (Q6 zN):=
 okC (A:=⟨[zx zf,nG En,Zv zu],[],[],1,[],[],[]⟩) (exS:=⟨[.bool],[]⟩) Tryz.f143 (memC zA (memC YP (memC ZF zJ))) (by kernel_rfl) (by kernel_rfl) fun x=>by kernel_rfl
theorem QP:zk Tryz.prog (qZ zS):=
 okC (A:=⟨[zx zf,yG Uq,Zv zu,ZY zV],[(5,[3])],[],1,[(2,⟨[3],⟨[.own 1105],[(0, .row 133),(1105, .sl 5)]⟩,[0],[],[0],0,[],⟨[],[]⟩,[]⟩)],[],[]⟩) (exS:=⟨[.str],[(0, .row 133)]⟩) Tryz.f144 (memC zA (memC CQ (memC ZF (memC qI zJ)))) (by kernel_rfl) (by kernel_rfl) fun x=>by kernel_rfl
theorem X9:zk Tryz.prog (aQ Zr):=
 okC (A:=⟨[zx zf,QW Zq],[],[],1,[],[(5,⟨[3],⟨[.int .i64],[]⟩,[0],[],[],0,[],⟨[],[]⟩,[]⟩),(7,⟨[3],⟨[.int .i64],[]⟩,[],[],[],0,[],⟨[],[]⟩,[]⟩)],[]⟩) (exS:=⟨[.bool],[]⟩) Tryz.f145 (memC zA (memC Pv zJ)) (by kernel_rfl) (by kernel_rfl) fun x=>by kernel_rfl
theorem S9:zk Tryz.prog (jQ zW):=
 okC (A:=⟨[zx zf,QW Zq],[],[],1,[(0,⟨[],⟨[],[(0, .row 133)]⟩,[0,1],[],[0],0,[],⟨[],[(0, .row 133)]⟩,[0]⟩)],[],[]⟩) (exS:=⟨[],[(0, .row 133)]⟩) Tryz.f139 (memC zA (memC Pv zJ)) (by kernel_rfl) (by kernel_rfl) fun x=>by kernel_rfl
theorem U9:zk Tryz.prog (lQ qb):=
 okC (A:=⟨[zx zf,jQ zW,QW Zq],[],[],1,[],[(4,⟨[],⟨[],[(0, .row 133)]⟩,[0],[],[0],0,[],⟨[],[]⟩,[]⟩),(10,⟨[4],⟨[.bool],[(0, .row 133)]⟩,[],[],[0],0,[],⟨[],[]⟩,[]⟩),(15,⟨[4,5],⟨[.bool, .int .i64],[(0, .row 133)]⟩,[],[],[0],0,[],⟨[],[]⟩,[]⟩),(19,⟨[4],⟨[.bool],[(0, .row 133)]⟩,[],[],[0],0,[],⟨[],[]⟩,[]⟩)],[]⟩) (exS:=⟨[.bool],[(0, .row 133)]⟩) Tryz.f175 (memC zA (memC S9 (memC Pv zJ))) (by kernel_rfl) (by kernel_rfl) fun x=>by kernel_rfl
theorem F9:zk Tryz.prog (PQ ZU):=
 okC (A:=⟨[SK yh,xN QL,WH cutF],[],[],0,[(8,⟨[6,31],⟨[.int .i64, .int .i64],[]⟩,[0,2,3,4,5,29,30],[0],[],0,[6],⟨[.int .i64],[]⟩,[]⟩),(22,⟨[12,81],⟨[.int .i64, .int .i64],[]⟩,[4,79,80],[0],[],2,[12],⟨[.int .i64],[]⟩,[]⟩),(26,⟨[4,12],⟨[.int .i64, .int .i64],[]⟩,[],[],[],4,[12],⟨[.int .i64],[]⟩,[]⟩)],[(14,⟨[0,4,6],⟨[.str, .int .i64, .int .i64],[]⟩,[3,5],[],[],0,[],⟨[],[]⟩,[]⟩),(15,⟨[0,4],⟨[.str, .int .i64],[]⟩,[3],[],[],0,[],⟨[],[]⟩,[]⟩),(20,⟨[0,4],⟨[.str, .int .i64],[]⟩,[],[],[],0,[],⟨[],[]⟩,[]⟩),(31,⟨[12],⟨[.int .i64],[]⟩,[],[],[],0,[],⟨[],[]⟩,[]⟩)],[]⟩) (exS:=⟨[.int .i64],[]⟩) Tryz.f176 (memC VX (memC Y2 (memC WU zJ))) (by kernel_rfl) (by kernel_rfl) fun x=>by kernel_rfl
theorem T9:zk Tryz.prog (kQ ZA):=
 okC (A:=⟨[lQ qb,PQ ZU,Q6 zN,qZ zS,zx zf],[],[],1,[],[(9,⟨[],⟨[],[(0, .row 133),(1, .row 44),(2, .row 44)]⟩,[2,5],[],[0,1,2],0,[],⟨[],[]⟩,[]⟩)],[]⟩) (exS:=⟨[.optr 1],[(0, .row 133),(1, .row 44)]⟩) Tryz.f146 (memC U9 (memC F9 (memC dQ (memC QP (memC zA zJ))))) (by kernel_rfl) (by kernel_rfl) fun x=>by kernel_rfl
theorem P7:zk Tryz.prog (yO Rq):=
 okC (A:=⟨[],[],[],0,[(3,⟨[10],⟨[.int .i64],[(0, .sl 5)]⟩,[2,3,8,9],[],[0],0,[],⟨[],[(0, .sl 5)]⟩,[0]⟩)],[(7,⟨[10],⟨[.int .i64],[(0, .sl 5)]⟩,[],[],[0],0,[],⟨[],[]⟩,[]⟩)],[]⟩) (exS:=⟨[.str],[]⟩) Tryz.f108 zJ (by kernel_rfl) (by kernel_rfl) fun x=>by kernel_rfl
theorem eP:zk Tryz.prog (rG Dn):=
 okC (A:=⟨[yO Rq],[],[],0,[],[],[]⟩) (exS:=⟨[.bool],[]⟩) Tryz.f109 (memC P7 zJ) (by kernel_rfl) (by kernel_rfl) fun x=>by kernel_rfl
theorem H9:zk Tryz.prog (SQ ZT):=
 okC (A:=⟨[zx zf,Zv zu,iQ ZH],[],[],1,[(1,⟨[],⟨[],[(0, .row 133),(1, .row 44)]⟩,[0,2],[],[0,1],0,[],⟨[],[]⟩,[]⟩)],[],[]⟩) (exS:=⟨[.optr 1],[(0, .row 133),(1, .row 44)]⟩) Tryz.f216 (memC zA (memC ZF (memC p9 zJ))) (by kernel_rfl) (by kernel_rfl) fun x=>by kernel_rfl
theorem G9:zk Tryz.prog (RQ Qg):=
 okC (A:=⟨[qN zZ,zx zf,QX qg,SQ ZT,Sv ZM,Zv zu,ZY zV],[(18,[3])],[],1,[(3,⟨[3],⟨[.own 1106],[(0, .row 133),(1, .row 44),(1106, .sl 5)]⟩,[0,2],[],[0,1],0,[],⟨[],[]⟩,[]⟩)],[(10,⟨[3,4],⟨[.own 1106, .int .i64],[(0, .row 133),(1, .row 44),(1106, .sl 5)]⟩,[],[],[0,1,1106],0,[],⟨[],[]⟩,[]⟩)],[]⟩) (exS:=⟨[.optr 1],[(0, .row 133),(1, .row 44)]⟩) Tryz.f177 (memC QE (memC zA (memC Ov (memC H9 (memC aA (memC ZF (memC qI zJ))))))) (by kernel_rfl) (by kernel_rfl) fun x=>by kernel_rfl
theorem N9:zk Tryz.prog (eQ Zy):=
 okC (A:=⟨[qZ zS,zx zf,rG Dn,qN zZ,RQ Qg],[],[],1,[],[(11,⟨[],⟨[],[(0, .row 133),(1, .row 44)]⟩,[2,3],[],[0,1],0,[],⟨[],[]⟩,[]⟩)],[]⟩) (exS:=⟨[.optr 1],[(0, .row 133),(1, .row 44)]⟩) Tryz.f147 (memC QP (memC zA (memC eP (memC QE (memC G9 zJ))))) (by kernel_rfl) (by kernel_rfl) fun x=>by kernel_rfl
theorem Q8:zk Tryz.prog (Ql strings_IndexByte):=
 okC (A:=⟨[iM Vs],[],[],0,[],[],[]⟩) (exS:=⟨[.int .i64],[]⟩) Tryz.f119 (memC gZ zJ) (by kernel_rfl) (by kernel_rfl) fun x=>by kernel_rfl
theorem O9:zk Tryz.prog (fQ qf):=
 okC (A:=⟨[zx zf,QX qg,qN zZ,YQ qj,yG Uq,Zv zu,Q6 zN,qZ zS,aQ Zr,kQ ZA,ZQ strings_HasPrefix,eQ Zy,Ql strings_IndexByte],[],[],1,[],[],[]⟩) (exS:=⟨[.optr 1],[(0, .row 133),(1, .row 44)]⟩) Tryz.f101 (memC zA (memC Ov (memC QE (memC Y9 (memC CQ (memC ZF (memC dQ (memC QP (memC X9 (memC T9 (memC qi (memC N9 (memC Q8 zJ))))))))))))) (by kernel_rfl) (by kernel_rfl) fun x=>by kernel_rfl
theorem K9:zk Tryz.prog (WQ Qt):=
 okC (A:=⟨[],[(1,[2])],[],2,[],[],[]⟩) (exS:=⟨[],[(0, .cells 22 [.own 2]),(2, .sl 44)]⟩) Tryz.f70 zJ (by kernel_rfl) (by kernel_rfl) fun x=>by kernel_rfl
theorem V8:zk Tryz.prog (jP Cv):=
 okC (A:=⟨[VK Aj,nQ Zl,fQ qf,WQ Qt],[],[],1,[(7,⟨[7],⟨[.int .i64],[(0, .cells 22 [.own 1107]),(1107, .sl 44),(1, .row 133)]⟩,[0,1,6],[],[0,1],0,[],⟨[],[(0, .cells 22 [.own 1107]),(1107, .sl 44),(1, .row 133)]⟩,[0,1,1107]⟩)],[],[]⟩) (exS:=⟨[.int .i64],[(0, .cells 22 [.own 1]),(1, .sl 44)]⟩) Tryz.f69 (memC YX (memC V9 (memC O9 (memC K9 zJ)))) (by kernel_rfl) (by kernel_rfl) fun x=>by kernel_rfl
theorem F8:zk Tryz.prog (kP Dv):=
 okC (A:=⟨[jP Cv],[],[],0,[],[],[]⟩) (exS:=⟨[.sl 44, .int .i64],[]⟩) Tryz.f33 (memC V8 zJ) (by kernel_rfl) (by kernel_rfl) fun x=>by kernel_rfl
theorem lG:zk Tryz.prog (WA Qp):=
 okC (A:=⟨[],[],[],0,[],[(7,⟨[6],⟨[.bool],[]⟩,[0],[],[],0,[],⟨[],[]⟩,[]⟩)],[]⟩) (exS:=⟨[.int .u8],[]⟩) Tryz.f61 zJ (by kernel_rfl) (by kernel_rfl) fun x=>by kernel_rfl
theorem R4(Ui:List zg×Int->Option zR)(hs:zk Tryz.prog (ou Ui)):zk Tryz.prog (ou (uz Ui)):=
 okC (A:=⟨[WA Qp,ou Ui],[],[],0,[(3,⟨[12],⟨[.int .i64],[(1, .row 101)]⟩,[1,4,5,10,11],[0],[1],0,[],⟨[],[(1, .row 101)]⟩,[1]⟩)],[(9,⟨[],⟨[],[(1, .row 101)]⟩,[7,8,12],[2],[1],0,[],⟨[],[]⟩,[]⟩),(12,⟨[12],⟨[.int .i64],[(1, .row 101)]⟩,[],[],[1],0,[],⟨[],[]⟩,[]⟩)],[]⟩) (exS:=⟨[.optr 0],[(0, .row 101)]⟩) Tryz.f65 (memC lG (memC hs zJ)) (by kernel_rfl) (by kernel_rfl) fun x=>by kernel_rfl
theorem M4:zk Tryz.prog (ou Ui):=
 zk.recE (I:=I) (P:=Tryz.prog) (f:=65) (inS:=⟨[.sl 49, .int .u8],[]⟩) (cst:=[]) (outS:=⟨[.val 101],[]⟩) (k:=0) (uz) (by kernel_rfl) (fun S h=>R4 S h)
theorem RP:zk Tryz.prog (bG Bn):=
 okC (A:=⟨[ou Ui],[],[],0,[],[],[]⟩) (exS:=⟨[.int .i64],[]⟩) Tryz.f32 (memC M4 zJ) (by kernel_rfl) (by kernel_rfl) fun x=>by kernel_rfl
theorem D8(qV:List zg×List zb->Option (List zb))(hs:zk Tryz.prog (bv qV)):zk Tryz.prog (bv (AA qV)):=
 okC (A:=⟨[WA Qp,bv qV],[(4,[3]),(7,[6])],[],1,[(2,⟨[0,10],⟨[.own 1108, .int .i64],[(1108, .sl 44)]⟩,[4,8,9],[],[],0,[0],⟨[.own 1108],[(1108, .sl 44)]⟩,[1108]⟩)],[(8,⟨[0,10],⟨[.own 1210, .int .i64],[(1210, .sl 44)]⟩,[],[],[],0,[],⟨[],[]⟩,[]⟩)],[]⟩) (exS:=⟨[.own 1],[(1, .sl 44)]⟩) Tryz.f63 (memC lG (memC hs zJ)) (by kernel_rfl) (by kernel_rfl) fun x=>by kernel_rfl
theorem O7:zk Tryz.prog (bv qV):=
 zk.recE (I:=I) (P:=Tryz.prog) (f:=63) (inS:=⟨[.own 0, .sl 49],[(0, .sl 44)]⟩) (cst:=[]) (outS:=⟨[.own 1],[(1, .sl 44)]⟩) (k:=1) (AA) (by kernel_rfl) (fun S h=>D8 S h)
theorem dP:zk Tryz.prog (xO QN):=
 okC (A:=⟨[WA Qp,bv qV],[(4,[3]),(7,[6])],[],0,[(2,⟨[0,10],⟨[.own 1212, .int .i64],[(1212, .sl 44)]⟩,[4,8,9],[],[],0,[0],⟨[.own 1212],[(1212, .sl 44)]⟩,[1212]⟩)],[(8,⟨[0,10],⟨[.own 1314, .int .i64],[(1314, .sl 44)]⟩,[],[],[],0,[],⟨[],[]⟩,[]⟩)],[]⟩) (exS:=⟨[.own 0],[(0, .sl 44)]⟩) Tryz.f63 (memC lG (memC O7 zJ)) (by kernel_rfl) (by kernel_rfl) fun x=>by kernel_rfl
theorem P8:zk Tryz.prog (uP QN):=LZ ipOK (by kernel_rfl) dP
theorem W9:zk Tryz.prog (oQ stringslite_TrimPrefix):=
 okC (A:=⟨[Qm stringslite_HasPrefix],[],[],0,[],[],[]⟩) (exS:=⟨[.str],[]⟩) Tryz.f197 (memC mQ zJ) (by kernel_rfl) (by kernel_rfl) fun x=>by kernel_rfl
theorem P9:zk Tryz.prog (gQ strings_TrimPrefix):=
 okC (A:=⟨[oQ stringslite_TrimPrefix],[],[],0,[],[],[]⟩) (exS:=⟨[.str],[]⟩) Tryz.f162 (memC W9 zJ) (by kernel_rfl) (by kernel_rfl) fun x=>by kernel_rfl
theorem yz:zk Tryz.prog (Mv qz):=
 okC (A:=⟨[],[],[],0,[],[],[]⟩) (exS:=⟨[.bool],[]⟩) Tryz.f155 zJ (by kernel_rfl) (by kernel_rfl) fun x=>by kernel_rfl
theorem GQ:zk Tryz.prog (FH QK):=
 okC (A:=⟨[gQ strings_TrimPrefix,Mv qz],[],[],0,[],[],[]⟩) (exS:=⟨[.bool],[]⟩) Tryz.f122 (memC P9 (memC yz zJ)) (by kernel_rfl) (by kernel_rfl) fun x=>by kernel_rfl
theorem fP:zk Tryz.prog (sG Tq):=
 okC (A:=⟨[],[],[],0,[],[],[]⟩) (exS:=⟨[.bool],[]⟩) Tryz.f157 zJ (by kernel_rfl) (by kernel_rfl) fun x=>by kernel_rfl
theorem EP:zk Tryz.prog (eG nk):=
 okC (A:=⟨[sG Tq,Mv qz],[],[],0,[],[],[]⟩) (exS:=⟨[.bool],[]⟩) Tryz.f153 (memC fP (memC yz zJ)) (by kernel_rfl) (by kernel_rfl) fun x=>by kernel_rfl
theorem L9:zk Tryz.prog (XQ strings_Contains):=
 okC (A:=⟨[DF si],[],[],0,[],[],[]⟩) (exS:=⟨[.bool],[]⟩) Tryz.f154 (memC JL zJ) (by kernel_rfl) (by kernel_rfl) fun x=>by kernel_rfl
theorem J3:zk Tryz.prog (yN Vu):=
 okC (A:=⟨[Ql strings_IndexByte,FH QK,ZQ strings_HasPrefix,eG nk,XQ strings_Contains],[],[],0,[],[(8,⟨[3,4,5,6,7,25],⟨[.bool, .bool, .bool, .bool, .bool, .bool],[]⟩,[1,16],[],[],0,[],⟨[],[]⟩,[]⟩),(14,⟨[3,4,5,6,7,63],⟨[.bool, .bool, .bool, .bool, .bool, .bool],[]⟩,[],[],[],0,[],⟨[],[]⟩,[]⟩),(22,⟨[4,5,6,7,94],⟨[.bool, .bool, .bool, .bool, .bool],[]⟩,[3],[],[],0,[],⟨[],[]⟩,[]⟩),(24,⟨[3,4,5,6,7],⟨[.bool, .bool, .bool, .bool, .bool],[]⟩,[1],[0],[],0,[],⟨[],[]⟩,[]⟩)],[]⟩) (exS:=⟨[.bool],[]⟩) Tryz.f115 (memC Q8 (memC GQ (memC qi (memC EP (memC L9 zJ))))) (by kernel_rfl) (by kernel_rfl) fun x=>by kernel_rfl
theorem R8:zk Tryz.prog (vP ZJ):=
 okC (A:=⟨[],[],[],1,[],[],[]⟩) (exS:=⟨[.bool],[]⟩) Tryz.f116 zJ (by kernel_rfl) (by kernel_rfl) fun x=>by kernel_rfl
theorem VP:zk Tryz.prog (dG QA):=
 okC (A:=⟨[vP ZJ,rG Dn],[],[],0,[],[(11,⟨[5],⟨[.int .i64],[]⟩,[3],[0],[],0,[],⟨[],[]⟩,[]⟩)],[]⟩) (exS:=⟨[.int .i64],[]⟩) Tryz.f80 (memC R8 (memC eP zJ)) (by kernel_rfl) (by kernel_rfl) fun x=>by kernel_rfl
theorem J6:zk Tryz.prog (bO au):=
 okC (A:=⟨[yN Vu,dG QA],[],[],0,[(4,⟨[10],⟨[.int .i64],[]⟩,[0,8,9],[],[],0,[],⟨[],[]⟩,[]⟩)],[],[]⟩) (exS:=⟨[.int .i64],[]⟩) Tryz.f79 (memC J3 (memC VP zJ)) (by kernel_rfl) (by kernel_rfl) fun x=>by kernel_rfl
theorem H6:zk Tryz.prog (YO QZ):=
 okC (A:=⟨[ZQ strings_HasPrefix],[],[],0,[],[],[]⟩) (exS:=⟨[.int .i64],[]⟩) Tryz.f118 (memC qi zJ) (by kernel_rfl) (by kernel_rfl) fun x=>by kernel_rfl
theorem LQ:zk Tryz.prog (vG ZZ):=
 okC (A:=⟨[Mv qz,sG Tq,XN Rm],[(2,[2]),(3,[1]),(5,[1])],[],1,[],[],[]⟩) (exS:=⟨[.own 1],[(1, .sl 5)]⟩) Tryz.f120 (memC yz (memC fP (memC xZ zJ))) (by kernel_rfl) (by kernel_rfl) fun x=>by kernel_rfl
theorem U7:zk Tryz.prog (BP qD):=
 okC (A:=⟨[eG nk,Mv qz,vG ZZ],[(6,[2])],[],1,[(2,⟨[0,11],⟨[.own 1420, .int .i64],[(1420, .sl 5)]⟩,[1,2,6,10],[],[],0,[0],⟨[.own 1420],[(1420, .sl 5)]⟩,[1420]⟩)],[(8,⟨[0,11],⟨[.own 1522, .int .i64],[(1522, .sl 5)]⟩,[],[],[],0,[],⟨[],[]⟩,[]⟩)],[]⟩) (exS:=⟨[.own 1],[(1, .sl 5)]⟩) Tryz.f117 (memC EP (memC yz (memC LQ zJ))) (by kernel_rfl) (by kernel_rfl) fun x=>by kernel_rfl
theorem G6:zk Tryz.prog (XO Xu):=
 okC (A:=⟨[],[],[],0,[],[],[]⟩) (exS:=⟨[.optr 0],[(0, .row 149)]⟩) Tryz.f123 zJ (by kernel_rfl) (by kernel_rfl) fun x=>by kernel_rfl
theorem l8:zk Tryz.prog (AQ Qo):=
 okC (A:=⟨[YN Sm,FM Jm,PK sj],[(2,[1]),(6,[1])],[],1,[],[(3,⟨[0,1],⟨[.own 2044, .int .i64],[(2044, .sl 5)]⟩,[2],[],[],0,[],⟨[],[]⟩,[]⟩),(9,⟨[0],⟨[.own 2147],[(2147, .sl 5)]⟩,[],[],[],0,[],⟨[],[]⟩,[]⟩)],[]⟩) (exS:=⟨[.own 1],[(1, .sl 5)]⟩) Tryz.f121 (memC yZ (memC iZ (memC UX zJ))) (by kernel_rfl) (by kernel_rfl) fun x=>by kernel_rfl
theorem R7:zk Tryz.prog (AP Sq):=
 okC (A:=⟨[YO QZ,BP qD,Ql strings_IndexByte,vG ZZ,AQ Qo,FH QK,ZQ strings_HasPrefix,XO Xu],[(5,[7]),(7,[1]),(12,[1]),(14,[1]),(20,[2]),(22,[1]),(30,[2]),(32,[1]),(38,[4])],[],1,[(16,⟨[0,67],⟨[.own 1837, .int .i64],[(1837, .sl 5)]⟩,[3,4,65,66],[1,4],[],1,[0],⟨[.own 1837],[(1837, .sl 5)]⟩,[1837]⟩),(26,⟨[0,93],⟨[.own 1941, .int .i64],[(1941, .sl 5)]⟩,[3,4,91,92],[1,3],[],3,[0],⟨[.own 1941],[(1941, .sl 5)]⟩,[1941]⟩)],[(12,⟨[5],⟨[.int .i64],[(0, .sl 5)]⟩,[0,3],[1],[0],0,[],⟨[],[]⟩,[]⟩),(21,⟨[0,67],⟨[.own 1939, .int .i64],[(1939, .sl 5)]⟩,[],[],[],0,[],⟨[],[]⟩,[]⟩),(31,⟨[0,93],⟨[.own 2043, .int .i64],[(2043, .sl 5)]⟩,[],[],[],0,[],⟨[],[]⟩,[]⟩)],[]⟩) (exS:=⟨[.own 1],[(1, .sl 5)]⟩) Tryz.f81 (memC H6 (memC U7 (memC Q8 (memC LQ (memC l8 (memC GQ (memC qi (memC G6 zJ)))))))) (by kernel_rfl) (by kernel_rfl) fun x=>by kernel_rfl
theorem R9:zk Tryz.prog (bQ qd):=
 okC (A:=⟨[],[],[],0,[(4,⟨[13],⟨[.int .i64],[]⟩,[0,1,12],[],[],0,[],⟨[],[]⟩,[]⟩)],[],[]⟩) (exS:=⟨[.bool],[]⟩) Tryz.f82 zJ (by kernel_rfl) (by kernel_rfl) fun x=>by kernel_rfl
theorem I6:zk Tryz.prog (aO Yu):=
 okC (A:=⟨[bO au,dG QA,AP Sq,kP Dv,bQ qd],[(24,[5])],[],0,[(7,⟨[5,6,7],⟨[.own 2254, .own 2255, .int .i64],[(2254, .sl 5),(2255, .sl 119)]⟩,[0],[],[],0,[5],⟨[.own 2254],[(2254, .sl 5)]⟩,[2254]⟩),(11,⟨[9,36],⟨[.own 1835, .int .i64],[(1835, .sl 5)]⟩,[5,6,7,8,34,35],[2254,2255],[],2,[9],⟨[.own 1835],[(1835, .sl 5)]⟩,[1835]⟩)],[(17,⟨[5,6,7,9],⟨[.own 2254, .own 2255, .int .i64, .own 2357],[(2254, .sl 5),(2255, .sl 119),(2357, .sl 5)]⟩,[8],[],[2254,2255],0,[],⟨[],[]⟩,[]⟩),(21,⟨[5,6,7],⟨[.own 2254, .own 2255, .int .i64],[(2254, .sl 5),(2255, .sl 119),(2358, .row 119)]⟩,[9,12],[2357],[2254,2255,2358],0,[],⟨[],[]⟩,[]⟩),(24,⟨[5,6,7],⟨[.own 2462, .own 2255, .int .i64],[(2255, .sl 119),(2462, .sl 5)]⟩,[],[2358],[2255],0,[],⟨[],[]⟩,[]⟩)],[]⟩) (exS:=⟨[.str, .int .i64],[]⟩) Tryz.f46 (memC J6 (memC VP (memC R7 (memC F8 (memC R9 zJ))))) (by kernel_rfl) (by kernel_rfl) fun x=>by kernel_rfl
theorem O4:zk Tryz.prog (vN Ou):=
 okC (A:=⟨[bG Bn,uP QN,aO Yu],[],[],0,[],[],[]⟩) (exS:=⟨[.str, .int .i64],[]⟩) Tryz.f20 (memC RP (memC P8 (memC I6 zJ))) (by kernel_rfl) (by kernel_rfl) fun x=>by kernel_rfl
theorem X4(QC:List zg×List zg->Option Bool)(hs:zk Tryz.prog (Kv QC)):zk Tryz.prog (Kv (BA QC)):=
 okC (A:=⟨[Kv QC],[],[],0,[(4,⟨[5],⟨[.int .i64],[]⟩,[0,1],[],[],0,[],⟨[],[]⟩,[]⟩)],[],[]⟩) (exS:=⟨[.bool],[]⟩) Tryz.f22 (memC hs zJ) (by kernel_rfl) (by kernel_rfl) fun x=>by kernel_rfl
theorem O5:zk Tryz.prog (Kv QC):=
 zk.recE (I:=I) (P:=Tryz.prog) (f:=22) (inS:=⟨[.sl 49, .sl 49],[]⟩) (cst:=[]) (outS:=⟨[.bool],[]⟩) (k:=0) (BA) (by kernel_rfl) (fun S h=>X4 S h)
theorem X6(ZL:List zb×Int×Int×Int->Option (List zg×Int))(hs:zk Tryz.prog (Tv ZL)):zk Tryz.prog (Tv (IA ZL)):=
 okC (A:=⟨[Vv qa,Tv ZL],[(12,[2])],[],0,[(2,⟨[1,10],⟨[.int .i64, .own 2567],[(2567, .sl 49)]⟩,[0,2,3],[],[],0,[1,10],⟨[.int .i64, .own 2567],[(2567, .sl 49)]⟩,[2567]⟩)],[(12,⟨[1,10],⟨[.int .i64, .own 2567],[(2567, .sl 49),(2568, .row 49)]⟩,[11],[],[2567,2568],0,[],⟨[],[]⟩,[]⟩)],[]⟩) (exS:=⟨[.sl 49, .int .i64],[]⟩) Tryz.f96 (memC dA (memC hs zJ)) (by kernel_rfl) (by kernel_rfl) fun x=>by kernel_rfl
theorem G8:zk Tryz.prog (Tv ZL):=
 zk.recE (I:=I) (P:=Tryz.prog) (f:=96) (inS:=⟨[.sl 44, .int .i64, .int .u8, .int .i64],[]⟩) (cst:=[]) (outS:=⟨[.sl 49, .int .i64],[]⟩) (k:=0) (IA) (by kernel_rfl) (fun S h=>X6 S h)
theorem I8:zk Tryz.prog (mP Ev):=
 okC (A:=⟨[Tv ZL],[],[],0,[],[],[]⟩) (exS:=⟨[.sl 49, .bool],[]⟩) Tryz.f62 (memC G8 zJ) (by kernel_rfl) (by kernel_rfl) fun x=>by kernel_rfl
theorem F7:zk Tryz.prog (MP su):=
 okC (A:=⟨[mP Ev,qp Zk],[],[],0,[],[],[]⟩) (exS:=⟨[.sl 49, .int .i64],[]⟩) Tryz.f17 (memC I8 (memC bA zJ)) (by kernel_rfl) (by kernel_rfl) fun x=>by kernel_rfl
theorem U2:zk Tryz.prog (wN Ru):=
 okC (A:=⟨[bG Bn,xO QN],[],[],0,[],[],[]⟩) (exS:=⟨[.sl 44, .int .i64],[]⟩) Tryz.f18 (memC RP (memC dP zJ)) (by kernel_rfl) (by kernel_rfl) fun x=>by kernel_rfl
theorem P5:zk Tryz.prog (jO eu):=
 okC (A:=⟨[oG Gn,qp Zk],[],[],0,[],[],[]⟩) (exS:=⟨[.sl 44, .int .i64],[]⟩) Tryz.f19 (memC aP (memC bA zJ)) (by kernel_rfl) (by kernel_rfl) fun x=>by kernel_rfl
theorem H7:zk Tryz.prog (rO QS):=
 okC (A:=⟨[],[],[],0,[(2,⟨[3],⟨[.int .i64],[]⟩,[0],[],[],0,[],⟨[],[]⟩,[]⟩)],[],[]⟩) (exS:=⟨[.bool],[]⟩) Tryz.f102 zJ (by kernel_rfl) (by kernel_rfl) fun x=>by kernel_rfl
theorem ZB:zk Tryz.prog (ZC zD):=
 okC (A:=⟨[],[],[],0,[],[],[]⟩) (exS:=⟨[.bool],[]⟩) Tryz.f148 zJ (by kernel_rfl) (by kernel_rfl) fun x=>by kernel_rfl
theorem X5:zk Tryz.prog (PO ku):=
 okC (A:=⟨[ZC zD],[],[],0,[],[],[]⟩) (exS:=⟨[.bool],[]⟩) Tryz.f103 (memC ZB zJ) (by kernel_rfl) (by kernel_rfl) fun x=>by kernel_rfl
theorem OA:zk Tryz.prog (av qX):=
 okC (A:=⟨[],[],[],0,[],[],[]⟩) (exS:=⟨[.bool],[]⟩) Tryz.f178 zJ (by kernel_rfl) (by kernel_rfl) fun x=>by kernel_rfl
theorem qF:zk Tryz.prog (qJ zG):=
 okC (A:=⟨[],[],[],0,[],[],[]⟩) (exS:=⟨[.int .u8],[]⟩) Tryz.f217 zJ (by kernel_rfl) (by kernel_rfl) fun x=>by kernel_rfl
theorem xG:zk Tryz.prog (TA qw):=
 okC (A:=⟨[qJ zG,av qX],[],[],0,[(1,⟨[1],⟨[.int .i64],[]⟩,[0,4],[],[],0,[1],⟨[.int .i64],[]⟩,[]⟩)],[],[]⟩) (exS:=⟨[.int .i64],[]⟩) Tryz.f179 (memC qF (memC OA zJ)) (by kernel_rfl) (by kernel_rfl) fun x=>by kernel_rfl
theorem OP:zk Tryz.prog (YG om):=
 okC (A:=⟨[],[(1,[0])],[],0,[],[],[]⟩) (exS:=⟨[.str],[]⟩) Tryz.f244 zJ (by kernel_rfl) (by kernel_rfl) fun x=>by kernel_rfl
theorem Rv:zk Tryz.prog (QV ZG):=
 okC (A:=⟨[],[],[],0,[],[],[]⟩) (exS:=⟨[.int .u8],[]⟩) Tryz.f150 zJ (by kernel_rfl) (by kernel_rfl) fun x=>by kernel_rfl
theorem I4:zk Tryz.prog (JO Bq):=
 okC (A:=⟨[ZC zD,QV ZG],[],[],0,[],[],[]⟩) (exS:=⟨[.int .i64],[]⟩) Tryz.f245 (memC ZB (memC Rv zJ)) (by kernel_rfl) (by kernel_rfl) fun x=>by kernel_rfl
theorem D6:zk Tryz.prog (VO Wu):=
 okC (A:=⟨[YG om],[(4,[2]),(6,[8]),(8,[13]),(9,[18])],[],0,[],[],[]⟩) (exS:=⟨[.str],[]⟩) Tryz.f246 (memC OP zJ) (by kernel_rfl) (by kernel_rfl) fun x=>by kernel_rfl
theorem XA:zk Tryz.prog (QH Zn):=
 okC (A:=⟨[YG om,JO Bq,qJ zG,av qX,VO Wu],[],[],0,[(7,⟨[6,7],⟨[.int .i64, .int .i64],[]⟩,[0,1,4,5],[],[],0,[6,7],⟨[.int .i64, .int .i64],[]⟩,[]⟩)],[(12,⟨[7],⟨[.int .i64],[]⟩,[6],[],[],0,[],⟨[],[]⟩,[]⟩)],[]⟩) (exS:=⟨[.str, .int .i64],[]⟩) Tryz.f218 (memC OP (memC I4 (memC qF (memC OA (memC D6 zJ))))) (by kernel_rfl) (by kernel_rfl) fun x=>by kernel_rfl
theorem M8:zk Tryz.prog (oP Fv):=
 okC (A:=⟨[QH Zn],[],[],0,[(4,⟨[1],⟨[.int .i64],[(0, .row 44),(1, .row 44)]⟩,[0,4,6,7],[],[0,1],0,[1],⟨[.int .i64],[(0, .row 44),(1, .row 44)]⟩,[0,1]⟩)],[],[]⟩) (exS:=⟨[.optr 0, .int .i64],[(0, .row 44)]⟩) Tryz.f180 (memC XA zJ) (by kernel_rfl) (by kernel_rfl) fun x=>by kernel_rfl
theorem EQ:zk Tryz.prog (BH QR):=
 okC (A:=⟨[QV ZG],[],[],0,[],[],[]⟩) (exS:=⟨[.bool],[]⟩) Tryz.f198 (memC Rv zJ) (by kernel_rfl) (by kernel_rfl) fun x=>by kernel_rfl
theorem fA:zk Tryz.prog (Yv Zz):=
 okC (A:=⟨[BH QR,ZC zD],[],[],0,[],[],[]⟩) (exS:=⟨[.bool],[]⟩) Tryz.f163 (memC EQ (memC ZB zJ)) (by kernel_rfl) (by kernel_rfl) fun x=>by kernel_rfl
theorem QO:zk Tryz.prog (Qx Zi):=
 okC (A:=⟨[qJ zG],[],[],0,[],[],[]⟩) (exS:=⟨[.bool],[]⟩) Tryz.f181 (memC qF zJ) (by kernel_rfl) (by kernel_rfl) fun x=>by kernel_rfl
theorem jG:zk Tryz.prog (UA qW):=
 okC (A:=⟨[Yv Zz,Qx Zi,QH Zn],[],[],0,[(2,⟨[1,6],⟨[.int .i64, .str],[]⟩,[0],[],[],0,[],⟨[],[]⟩,[]⟩)],[],[]⟩) (exS:=⟨[.str, .int .i64],[]⟩) Tryz.f182 (memC fA (memC QO (memC XA zJ))) (by kernel_rfl) (by kernel_rfl) fun x=>by kernel_rfl
theorem FQ:zk Tryz.prog (EH qQ):=
 okC (A:=⟨[qJ zG,BH QR,Qx Zi],[],[],0,[],[],[]⟩) (exS:=⟨[.bool],[]⟩) Tryz.f183 (memC qF (memC EQ (memC QO zJ))) (by kernel_rfl) (by kernel_rfl) fun x=>by kernel_rfl
theorem p8:zk Tryz.prog (MQ Nv):=
 okC (A:=⟨[qJ zG,ZC zD],[],[],0,[],[(4,⟨[1],⟨[.int .i64],[]⟩,[0],[],[],0,[],⟨[],[]⟩,[]⟩),(6,⟨[1],⟨[.int .i64],[]⟩,[],[],[],0,[],⟨[],[]⟩,[]⟩)],[]⟩) (exS:=⟨[.bool],[]⟩) Tryz.f184 (memC qF (memC ZB zJ)) (by kernel_rfl) (by kernel_rfl) fun x=>by kernel_rfl
theorem N8:zk Tryz.prog (rP Qj):=
 okC (A:=⟨[qJ zG,ZC zD],[],[],0,[(1,⟨[1],⟨[.int .i64],[]⟩,[0,4],[],[],0,[1],⟨[.int .i64],[]⟩,[]⟩)],[],[]⟩) (exS:=⟨[.int .i64],[]⟩) Tryz.f247 (memC qF (memC ZB zJ)) (by kernel_rfl) (by kernel_rfl) fun x=>by kernel_rfl
theorem C9:zk Tryz.prog (KQ QQ):=
 okC (A:=⟨[qJ zG,rP Qj,ZC zD],[],[],0,[],[(4,⟨[1],⟨[.int .i64],[]⟩,[0],[],[],0,[],⟨[],[]⟩,[]⟩),(9,⟨[1,7],⟨[.int .i64, .bool],[]⟩,[],[],[],0,[],⟨[],[]⟩,[]⟩),(15,⟨[1,7,9],⟨[.int .i64, .bool, .int .i64],[]⟩,[],[],[],0,[],⟨[],[]⟩,[]⟩),(18,⟨[1,7],⟨[.int .i64, .bool],[]⟩,[],[],[],0,[],⟨[],[]⟩,[]⟩)],[]⟩) (exS:=⟨[.int .i64, .bool],[]⟩) Tryz.f219 (memC qF (memC N8 (memC ZB zJ))) (by kernel_rfl) (by kernel_rfl) fun x=>by kernel_rfl
theorem J9:zk Tryz.prog (UQ Qe):=
 okC (A:=⟨[qJ zG,ZC zD],[],[],0,[(5,⟨[3,5],⟨[.str, .int .i64],[]⟩,[4],[],[],0,[3,5],⟨[.str, .int .i64],[]⟩,[]⟩),(10,⟨[3,4,5],⟨[.str, .int .i64, .int .i64],[]⟩,[],[],[],2,[3,4,5],⟨[.str, .int .i64, .int .i64],[]⟩,[]⟩),(20,⟨[5,8],⟨[.int .i64, .int .i64],[]⟩,[4],[],[],4,[8],⟨[.int .i64],[]⟩,[]⟩),(28,⟨[9,10],⟨[.int .i64, .int .i64],[]⟩,[4],[],[],6,[9],⟨[.int .i64],[]⟩,[]⟩),(31,⟨[4,9],⟨[.int .i64, .int .i64],[]⟩,[],[],[],8,[9],⟨[.int .i64],[]⟩,[]⟩)],[(5,⟨[3,4,5],⟨[.str, .int .i64, .int .i64],[]⟩,[0,6],[],[],0,[],⟨[],[]⟩,[]⟩),(14,⟨[3,4,5],⟨[.str, .int .i64, .int .i64],[]⟩,[],[],[],0,[],⟨[],[]⟩,[]⟩),(19,⟨[4,5],⟨[.int .i64, .int .i64],[]⟩,[3,7],[],[],0,[],⟨[],[]⟩,[]⟩),(25,⟨[4,8],⟨[.int .i64, .int .i64],[]⟩,[],[],[],0,[],⟨[],[]⟩,[]⟩),(26,⟨[4],⟨[.int .i64],[]⟩,[3],[],[],0,[],⟨[],[]⟩,[]⟩)],[]⟩) (exS:=⟨[.int .i64],[]⟩) Tryz.f220 (memC qF (memC ZB zJ)) (by kernel_rfl) (by kernel_rfl) fun x=>by kernel_rfl
theorem Y8:zk Tryz.prog (yP Bv):=
 okC (A:=⟨[KQ QQ,UQ Qe,EH qQ,UA qW,qJ zG],[],[],0,[],[(9,⟨[6],⟨[.int .i64],[(0, .row 44),(1, .row 44)]⟩,[4,8],[],[0,1],0,[],⟨[],[]⟩,[]⟩)],[]⟩) (exS:=⟨[.optr 0, .int .i64],[(0, .row 44)]⟩) Tryz.f185 (memC C9 (memC J9 (memC FQ (memC jG (memC qF zJ))))) (by kernel_rfl) (by kernel_rfl) fun x=>by kernel_rfl
theorem dO:zk Tryz.prog (SG Ti):=
 okC (A:=⟨[],[],[],0,[],[],[]⟩) (exS:=⟨[.bool],[]⟩) Tryz.f186 zJ (by kernel_rfl) (by kernel_rfl) fun x=>by kernel_rfl
theorem N7:zk Tryz.prog (wO Pq):=
 okC (A:=⟨[QV ZG],[],[],0,[(3,⟨[4],⟨[.int .i64],[(0, .sl 5)]⟩,[2,3],[],[0],0,[],⟨[],[(0, .sl 5)]⟩,[0]⟩)],[],[]⟩) (exS:=⟨[.str],[]⟩) Tryz.f105 (memC Rv zJ) (by kernel_rfl) (by kernel_rfl) fun x=>by kernel_rfl
theorem kG:zk Tryz.prog (VA qG):=
 okC (A:=⟨[wO Pq],[],[],0,[],[],[]⟩) (exS:=⟨[.bool],[]⟩) Tryz.f72 (memC N7 zJ) (by kernel_rfl) (by kernel_rfl) fun x=>by kernel_rfl
theorem Y3:zk Tryz.prog (FO Xk):=
 okC (A:=⟨[Qx Zi,QH Zn],[],[],0,[(1,⟨[1],⟨[.int .i64],[]⟩,[0,4,5],[0],[],0,[1],⟨[.int .i64],[]⟩,[]⟩)],[],[]⟩) (exS:=⟨[.optr 0, .int .i64],[(0, .row 44)]⟩) Tryz.f248 (memC QO (memC XA zJ)) (by kernel_rfl) (by kernel_rfl) fun x=>by kernel_rfl
theorem I9:zk Tryz.prog (TQ Qf):=
 okC (A:=⟨[],[],[],0,[],[],[]⟩) (exS:=⟨[.bool],[]⟩) Tryz.f249 zJ (by kernel_rfl) (by kernel_rfl) fun x=>by kernel_rfl
theorem X3:zk Tryz.prog (CO Lu):=
 okC (A:=⟨[TA qw,av qX,FO Xk,TQ Qf,Qx Zi,QH Zn],[],[],0,[(3,⟨[1],⟨[.int .i64],[(0, .row 44),(1, .row 44)]⟩,[0,4,6],[],[0,1],0,[1],⟨[.int .i64],[(0, .row 44),(1, .row 44)]⟩,[0,1]⟩)],[],[]⟩) (exS:=⟨[.optr 0, .int .i64],[(0, .row 44)]⟩) Tryz.f221 (memC xG (memC OA (memC Y3 (memC I9 (memC QO (memC XA zJ)))))) (by kernel_rfl) (by kernel_rfl) fun x=>by kernel_rfl
theorem Y5:zk Tryz.prog (RO lu):=
 okC (A:=⟨[UA qW,qJ zG,VA qG,TA qw,CO Lu],[],[],0,[],[(8,⟨[],⟨[],[(0, .row 44)]⟩,[4,6,7],[],[0],0,[],⟨[],[]⟩,[]⟩)],[]⟩) (exS:=⟨[.optr 0, .int .i64],[(0, .row 44)]⟩) Tryz.f187 (memC jG (memC qF (memC kG (memC xG (memC X3 zJ))))) (by kernel_rfl) (by kernel_rfl) fun x=>by kernel_rfl
theorem l5:zk Tryz.prog (UO nu):=
 okC (A:=⟨[],[],[],0,[],[],[]⟩) (exS:=⟨[.int .u8],[]⟩) Tryz.f188 zJ (by kernel_rfl) (by kernel_rfl) fun x=>by kernel_rfl
theorem eO:zk Tryz.prog (TG Lj):=
 okC (A:=⟨[av qX,TA qw,oP Fv,Yv Zz,Qx Zi,UA qW,EH qQ,MQ Nv,yP Bv,SG Ti,RO lu,UO nu],[],[],0,[],[],[]⟩) (exS:=⟨[.optr 0, .int .i64],[(0, .row 44)]⟩) Tryz.f149 (memC OA (memC xG (memC M8 (memC fA (memC QO (memC jG (memC FQ (memC p8 (memC Y8 (memC dO (memC Y5 (memC l5 zJ)))))))))))) (by kernel_rfl) (by kernel_rfl) fun x=>by kernel_rfl
theorem K7:zk Tryz.prog (uO qY):=
 okC (A:=⟨[TG Lj],[(1,[1])],[],0,[],[],[]⟩) (exS:=⟨[.bool],[]⟩) Tryz.f104 (memC eO zJ) (by kernel_rfl) (by kernel_rfl) fun x=>by kernel_rfl
theorem V5:zk Tryz.prog (oO gu):=
 okC (A:=⟨[rO QS,PO ku,uO qY],[],[],0,[],[(6,⟨[8],⟨[.bool],[(1, .row 44)]⟩,[1,3,7],[0],[1],0,[],⟨[],[]⟩,[]⟩),(13,⟨[56],⟨[.bool],[(1, .row 44)]⟩,[],[],[1],0,[],⟨[],[]⟩,[]⟩),(21,⟨[90],⟨[.bool],[(1, .row 44)]⟩,[],[],[1],0,[],⟨[],[]⟩,[]⟩),(26,⟨[148],⟨[.bool],[]⟩,[],[1],[],0,[],⟨[],[]⟩,[]⟩)],[]⟩) (exS:=⟨[.bool],[]⟩) Tryz.f71 (memC H7 (memC X5 (memC K7 zJ))) (by kernel_rfl) (by kernel_rfl) fun x=>by kernel_rfl
theorem M7:zk Tryz.prog (vO xu):=
 okC (A:=⟨[oO gu,VA qG],[],[],0,[(4,⟨[3],⟨[.int .i64],[]⟩,[0],[],[],0,[],⟨[],[]⟩,[]⟩)],[(12,⟨[4],⟨[.int .i64],[]⟩,[3],[],[],0,[],⟨[],[]⟩,[]⟩),(14,⟨[],⟨[],[]⟩,[3],[],[],0,[],⟨[],[]⟩,[]⟩)],[]⟩) (exS:=⟨[.int .i64],[]⟩) Tryz.f35 (memC V5 (memC kG zJ)) (by kernel_rfl) (by kernel_rfl) fun x=>by kernel_rfl
theorem wG:zk Tryz.prog (SA qx):=
 okC (A:=⟨[QV ZG,ZC zD],[(3,[1])],[],0,[],[(7,⟨[4],⟨[.str],[]⟩,[],[],[],0,[],⟨[],[]⟩,[]⟩)],[]⟩) (exS:=⟨[.str],[]⟩) Tryz.f164 (memC Rv (memC ZB zJ)) (by kernel_rfl) (by kernel_rfl) fun x=>by kernel_rfl
theorem bP:zk Tryz.prog (pG qH):=
 okC (A:=⟨[Yv Zz,ZC zD,SA qx],[],[],0,[(3,⟨[5,6],⟨[.str, .int .i64],[]⟩,[0,1,4],[],[],0,[5],⟨[.str],[]⟩,[]⟩)],[(4,⟨[5,6],⟨[.str, .int .i64],[]⟩,[],[],[],0,[],⟨[],[]⟩,[]⟩),(10,⟨[5,9],⟨[.str, .bool],[]⟩,[6,7],[],[],0,[],⟨[],[]⟩,[]⟩)],[]⟩) (exS:=⟨[.str],[]⟩) Tryz.f124 (memC fA (memC ZB (memC wG zJ))) (by kernel_rfl) (by kernel_rfl) fun x=>by kernel_rfl
theorem J8:zk Tryz.prog (nP Wq):=
 okC (A:=⟨[SA qx],[],[],0,[(3,⟨[5,6],⟨[.str, .int .i64],[]⟩,[0,1,4],[],[],0,[5],⟨[.str],[]⟩,[]⟩)],[(4,⟨[5,6],⟨[.str, .int .i64],[]⟩,[],[],[],0,[],⟨[],[]⟩,[]⟩),(9,⟨[5,8],⟨[.str, .bool],[]⟩,[6,7],[],[],0,[],⟨[],[]⟩,[]⟩)],[]⟩) (exS:=⟨[.str],[]⟩) Tryz.f201 (memC wG zJ) (by kernel_rfl) (by kernel_rfl) fun x=>by kernel_rfl
theorem A7(Z9:Int->Option Str)(hs:zk Tryz.prog (Xv Z9)):zk Tryz.prog (Xv (NA Z9)):=
 okC (A:=⟨[Xv Z9],[],[],0,[],[],[]⟩) (exS:=⟨[.str],[]⟩) Tryz.f229 (memC hs zJ) (by kernel_rfl) (by kernel_rfl) fun x=>by kernel_rfl
theorem L8:zk Tryz.prog (Xv Z9):=
 zk.recE (I:=I) (P:=Tryz.prog) (f:=229) (inS:=⟨[.int .i64],[]⟩) (cst:=[]) (outS:=⟨[.str],[]⟩) (k:=0) (NA) (by kernel_rfl) (fun S h=>A7 S h)
theorem u6(ZK:Int×Bool->Option Str)(hs:zk Tryz.prog (Wv ZK)):zk Tryz.prog (Wv (LA ZK)):=
 okC (A:=⟨[Wv ZK,Xv Z9],[],[],0,[(10,⟨[7],⟨[.str],[]⟩,[4,5],[],[],0,[7],⟨[.str],[]⟩,[]⟩)],[],[]⟩) (exS:=⟨[.str],[]⟩) Tryz.f202 (memC hs (memC L8 zJ)) (by kernel_rfl) (by kernel_rfl) fun x=>by kernel_rfl
theorem K8:zk Tryz.prog (Wv ZK):=
 zk.recE (I:=I) (P:=Tryz.prog) (f:=202) (inS:=⟨[.int .i64, .bool],[]⟩) (cst:=[]) (outS:=⟨[.str],[]⟩) (k:=0) (LA) (by kernel_rfl) (fun S h=>u6 S h)
theorem R5:zk Tryz.prog (mO fu):=
 okC (A:=⟨[QV ZG,qJ zG,ZC zD,SA qx,Yv Zz,pG qH],[],[],0,[(4,⟨[3,4],⟨[.str, .int .i64],[]⟩,[0,2],[],[],0,[3],⟨[.str],[]⟩,[]⟩)],[(5,⟨[3,4],⟨[.str, .int .i64],[]⟩,[],[],[],0,[],⟨[],[]⟩,[]⟩)],[]⟩) (exS:=⟨[.str],[]⟩) Tryz.f203 (memC Rv (memC qF (memC ZB (memC wG (memC fA (memC bP zJ)))))) (by kernel_rfl) (by kernel_rfl) fun x=>by kernel_rfl
theorem U5:zk Tryz.prog (nO lm):=
 okC (A:=⟨[pG qH,nP Wq,Wv ZK,mO fu],[(22,[0])],[],0,[],[],[]⟩) (exS:=⟨[.str],[]⟩) Tryz.f167 (memC bP (memC J8 (memC K8 (memC R5 zJ)))) (by kernel_rfl) (by kernel_rfl) fun x=>by kernel_rfl
theorem I7:zk Tryz.prog (sO uu):=
 okC (A:=⟨[VA qG,nO lm],[],[],0,[(6,⟨[5,6],⟨[.int .i64, .str],[]⟩,[0,2,3],[],[],0,[5,6],⟨[.int .i64, .str],[]⟩,[]⟩)],[],[]⟩) (exS:=⟨[.int .i64, .str],[]⟩) Tryz.f133 (memC kG (memC U5 zJ)) (by kernel_rfl) (by kernel_rfl) fun x=>by kernel_rfl
theorem F6:zk Tryz.prog (WO wm):=
 okC (A:=⟨[SG Ti],[],[],0,[(1,⟨[1],⟨[.int .i64],[]⟩,[0,4],[],[],0,[1],⟨[.int .i64],[]⟩,[]⟩),(3,⟨[1],⟨[.int .i64],[]⟩,[],[],[],2,[1],⟨[.int .i64],[]⟩,[]⟩)],[],[]⟩) (exS:=⟨[.int .i64],[]⟩) Tryz.f152 (memC dO zJ) (by kernel_rfl) (by kernel_rfl) fun x=>by kernel_rfl
theorem J4:zk Tryz.prog (KO Nu):=
 okC (A:=⟨[WO wm,TG Lj],[(6,[2,8])],[],0,[(4,⟨[4,5,6],⟨[.own 2568, .own 2569, .int .i64],[(2568, .sl 44),(2569, .sl 172)]⟩,[0,2,3],[],[],0,[4,5],⟨[.own 2568, .own 2569],[(2568, .sl 44),(2569, .sl 172)]⟩,[2568,2569]⟩)],[],[]⟩) (exS:=⟨[.sl 44, .sl 172],[]⟩) Tryz.f114 (memC F6 (memC eO zJ)) (by kernel_rfl) (by kernel_rfl) fun x=>by kernel_rfl
theorem PP:zk Tryz.prog (aG um):=
 okC (A:=⟨[],[],[],0,[(4,⟨[5],⟨[.int .i64],[]⟩,[0,1],[],[],0,[],⟨[],[]⟩,[]⟩)],[],[]⟩) (exS:=⟨[.bool],[]⟩) Tryz.f23 zJ (by kernel_rfl) (by kernel_rfl) fun x=>by kernel_rfl
theorem X8:zk Tryz.prog (xP Av):=
 okC (A:=⟨[sO uu,KO Nu,aG um],[],[],0,[(3,⟨[3,4],⟨[.str, .int .i64],[]⟩,[0,2],[],[],0,[3],⟨[.str],[]⟩,[]⟩)],[(8,⟨[3,4],⟨[.str, .int .i64],[]⟩,[5,6],[],[],0,[],⟨[],[]⟩,[]⟩)],[]⟩) (exS:=⟨[.str],[]⟩) Tryz.f97 (memC I7 (memC J4 (memC PP zJ))) (by kernel_rfl) (by kernel_rfl) fun x=>by kernel_rfl
theorem J7:zk Tryz.prog (tO wu):=
 okC (A:=⟨[vO xu,xP Av],[],[],0,[],[],[]⟩) (exS:=⟨[.str, .int .i64],[]⟩) Tryz.f64 (memC M7 (memC X8 zJ)) (by kernel_rfl) (by kernel_rfl) fun x=>by kernel_rfl
theorem K5:zk Tryz.prog (iO cu):=
 okC (A:=⟨[oG Gn,qp Zk,tO wu],[],[],0,[],[],[]⟩) (exS:=⟨[.str, .int .i64],[]⟩) Tryz.f21 (memC aP (memC bA (memC J7 zJ))) (by kernel_rfl) (by kernel_rfl) fun x=>by kernel_rfl
theorem O8:zk Tryz.prog (sP Gv):=
 okC (A:=⟨[],[],[],1,[(4,⟨[5],⟨[.int .i64],[]⟩,[0,1],[],[],0,[],⟨[],[]⟩,[]⟩)],[],[]⟩) (exS:=⟨[.bool],[]⟩) Tryz.f23 zJ (by kernel_rfl) (by kernel_rfl) fun x=>by kernel_rfl
theorem M9:zk Tryz.prog (VQ YA):=
 okC (A:=⟨[pO tu,UK parseF,MP su,wN Ru,jO eu,vN Ou,iO cu,Kv QC,aG um,sP Gv],[],[],0,[],[],[]⟩) (exS:=⟨[.bool],[]⟩) Tryz.f3 (memC G7 (memC XX (memC F7 (memC U2 (memC P5 (memC O4 (memC K5 (memC O5 (memC PP (memC O8 zJ)))))))))) (by kernel_rfl) (by kernel_rfl) fun x=>by kernel_rfl
end Go.Lv.VT
end
