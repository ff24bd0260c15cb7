/- Contracts. -/
import Derived.Test.YtcdeccnjlkkejaaGreatDoorTx
import Derived.Test.YtcdeccnjlkkejaaGreatDoorIp
import Derived.Test.YtcdeccnjlkkejaaGreatDoorLf
import Derived.Test.YtcdeccnjlkkejaaGreatDoorPa
noncomputable section
set_option linter.unusedSimpArgs false
set_option linter.unusedVariables false
namespace Go.Lv.VT
set_option maxRecDepth 100000
open Go.Proofs
theorem okC{con:Con I}{A:Env0 I}{exS:StSh}(f:Go.Func)(hS: ∀c∈A.S,zk Tryz.prog c)(hf:Tryz.prog.funcs[con.f]? =some f)(h:chk con A f=true)(he: ∀x,evF2 A T FK f.ntmps (rsl f) (body f) con exS x=con.F x):zk Tryz.prog con:=
 okC0 mixed ipOK tok rfl rfl hS hf h he
def Fw(F:List zg×Int->Option Int):Con I:=⟨58,⟨[.sl 49, .int .i64],[]⟩,[],⟨[.int .i64],[]⟩,0,F⟩
def WB(F:Int->Option Int):Con I:=⟨25,⟨[.int .u8],[]⟩,[],⟨[.int .u8],[]⟩,0,F⟩
def Ur(F:List zg->Option Int):Con I:=⟨59,⟨[.sl 49],[]⟩,[],⟨[.int .i64],[]⟩,0,F⟩
def WQ(F:List Zj->Option Bool):Con I:=⟨47,⟨[.sl 66],[]⟩,[],⟨[.bool],[]⟩,0,F⟩
def MB(F:Int->Option Int):Con I:=⟨61,⟨[.int .u8],[]⟩,[],⟨[.int .u8],[]⟩,0,F⟩
def Gw(F:List zg×Int->Option zT):Con I:=⟨65,⟨[.sl 49, .int .u8],[]⟩,[],⟨[.val 101],[]⟩,0,F⟩
def EH(F:List zg->Option Int):Con I:=⟨32,⟨[.sl 49],[]⟩,[],⟨[.int .i64],[]⟩,0,F⟩
def Jw(F:List zg×List ze->Option (List ze)):Con I:=⟨63,⟨[.own 0, .sl 49],[(0, .sl 44)]⟩,[],⟨[.own 1],[(1, .sl 44)]⟩,1,F⟩
def eQ(F:List zg->Option (List ze)):Con I:=⟨63,⟨[.nilv, .sl 49],[]⟩,[],⟨[.own 0],[(0, .sl 44)]⟩,1,F⟩
def XP(F:List zg->Option (List ze×Int)):Con I:=⟨18,⟨[.sl 49],[]⟩,[],⟨[.sl 44, .int .i64],[]⟩,0,F⟩
def Z7(F:Str×Int->Option Int):Con I:=⟨119,⟨[.str, .int .u8],[]⟩,[],⟨[.int .i64],[]⟩,0,F⟩
def QC(F:Str×Str->Option Bool):Con I:=⟨130,⟨[.str, .str],[]⟩,[],⟨[.bool],[]⟩,0,F⟩
def Zq(F:Str×Str->Option Bool):Con I:=⟨93,⟨[.str, .str],[]⟩,[],⟨[.bool],[]⟩,0,F⟩
def LH(F:Str->Option Str):Con I:=⟨108,⟨[.str],[]⟩,[],⟨[.str],[]⟩,0,F⟩
def GQ(F:Str->Option Bool):Con I:=⟨87,⟨[.str],[]⟩,[],⟨[.bool],[]⟩,0,F⟩
def DT(F:Str×Str->Option Str):Con I:=⟨197,⟨[.str, .str],[]⟩,[],⟨[.str],[]⟩,0,F⟩
def PS(F:Str×Str->Option Str):Con I:=⟨162,⟨[.str, .str],[]⟩,[],⟨[.str],[]⟩,0,F⟩
def Vr(F:Int->Option Bool):Con I:=⟨155,⟨[.int .u8],[]⟩,[],⟨[.bool],[]⟩,0,F⟩
def sH(F:Str->Option Bool):Con I:=⟨122,⟨[.str],[]⟩,[],⟨[.bool],[]⟩,0,F⟩
def NH(F:Int->Option Bool):Con I:=⟨157,⟨[.int .u8],[]⟩,[],⟨[.bool],[]⟩,0,F⟩
def jA(F:Int->Option Bool):Con I:=⟨153,⟨[.int .u8],[]⟩,[],⟨[.bool],[]⟩,0,F⟩
def JS(F:Str×Str->Option Bool):Con I:=⟨154,⟨[.str, .str],[]⟩,[],⟨[.bool],[]⟩,0,F⟩
def aP(F:ze->Option Bool):Con I:=⟨115,⟨[.val 44],[]⟩,[],⟨[.bool],[]⟩,0,F⟩
def GR(F:(Int×Int)×List ze->Option Bool):Con I:=⟨116,⟨[.int .i64, .int .u8, .optr 0],[(0, .row 22)]⟩,[0],⟨[.bool],[]⟩,0,F⟩
def MH(F:Str×Str->Option Bool):Con I:=⟨109,⟨[.str, .str],[]⟩,[],⟨[.bool],[]⟩,0,F⟩
def FH(F:List ze->Option Int):Con I:=⟨80,⟨[.sl 44],[]⟩,[],⟨[.int .i64],[]⟩,0,F⟩
def UH(F:List ze->Option Int):Con I:=⟨79,⟨[.sl 44],[]⟩,[],⟨[.int .i64],[]⟩,0,F⟩
def Rv(F:zg×Int->Option Bool):Con I:=⟨91,⟨[.val 49, .int .u8],[]⟩,[],⟨[.bool],[]⟩,0,F⟩
def yR(F:zg->Option Bool):Con I:=⟨128,⟨[.val 49],[]⟩,[],⟨[.bool],[]⟩,0,F⟩
def FT(F:List zg->Option Int):Con I:=⟨129,⟨[.sl 49, .clo 128 []],[]⟩,[],⟨[.int .i64],[]⟩,0,F⟩
def Q7(F:List zg->Option Bool):Con I:=⟨89,⟨[.sl 49, .clo 128 []],[]⟩,[],⟨[.bool],[]⟩,0,F⟩
def qM(F:List zg->Option Bool):Con I:=⟨88,⟨[.sl 49],[]⟩,[],⟨[.bool],[]⟩,0,F⟩
def wP(F:zg->Option Bool):Con I:=⟨92,⟨[.val 49],[]⟩,[],⟨[.bool],[]⟩,0,F⟩
def IR(F:zg->Option Bool):Con I:=⟨90,⟨[.val 49],[]⟩,[],⟨[.bool],[]⟩,0,F⟩
def xS(F:List zg->Option Int):Con I:=⟨129,⟨[.sl 49, .clo 90 []],[]⟩,[],⟨[.int .i64],[]⟩,0,F⟩
def QL(F:List zg->Option Bool):Con I:=⟨89,⟨[.sl 49, .clo 90 []],[]⟩,[],⟨[.bool],[]⟩,0,F⟩
def VH(F:Zj->Option Int):Con I:=⟨52,⟨[.val 66],[]⟩,[],⟨[.int .i64],[]⟩,0,F⟩
def TH(F:Str->Option Int):Con I:=⟨118,⟨[.str],[]⟩,[],⟨[.int .i64],[]⟩,0,F⟩
def RB(F:Int×List UInt8->Option (List UInt8)):Con I:=⟨120,⟨[.own 0, .int .u8],[(0, .sl 5)]⟩,[],⟨[.own 1],[(1, .sl 5)]⟩,1,F⟩
def iQ(F:Str×Int->Option (List UInt8)):Con I:=⟨117,⟨[.nilv, .str, .int .i64],[]⟩,[],⟨[.own 0],[(0, .sl 5)]⟩,1,F⟩
def vP(F:Str->Option (Str×Int)):Con I:=⟨83,⟨[.str],[]⟩,[],⟨[.str, .int .i64],[]⟩,0,F⟩
def gQ(F:(Str×Int)×List UInt8->Option (List UInt8)):Con I:=⟨117,⟨[.own 0, .str, .int .i64],[(0, .sl 5)]⟩,[],⟨[.own 1],[(1, .sl 5)]⟩,1,F⟩
def EQ(F:Unit->Option QR):Con I:=⟨123,⟨[],[]⟩,[],⟨[.val 149],[]⟩,0,F⟩
def nR(F:(Int×Bool)×List UInt8->Option (List UInt8)):Con I:=⟨121,⟨[.own 0, .int .i64, .bool],[(0, .sl 5)]⟩,[],⟨[.own 1],[(1, .sl 5)]⟩,1,F⟩
def fQ(F:ze×List UInt8->Option (List UInt8)):Con I:=⟨81,⟨[.own 0, .val 44],[(0, .sl 5)]⟩,[],⟨[.own 1],[(1, .sl 5)]⟩,1,F⟩
def yS(F:za->Option za):Con I:=⟨100,⟨[.optr 0],[(0, .row 133)]⟩,[],⟨[],[(0, .row 133)]⟩,0,F⟩
def zA(F:Int×za->Option Int):Con I:=⟨137,⟨[.optr 0, .int .i64],[(0, .row 133)]⟩,[0],⟨[.int .i64],[]⟩,0,F⟩
def Mr(F:Int->Option Bool):Con I:=⟨138,⟨[.int .i64],[]⟩,[],⟨[.bool],[]⟩,0,F⟩
def Qh(F:za->Option za):Con I:=⟨139,⟨[.optr 0, .clo 138 []],[(0, .row 133)]⟩,[],⟨[],[(0, .row 133)]⟩,0,F⟩
def Q8(F:Int->Option (List UInt8)):Con I:=⟨237,⟨[.nilv, .int .i32],[]⟩,[],⟨[.own 0],[(0, .sl 5)]⟩,1,F⟩
def WS(F:Int->Option (List UInt8)):Con I:=⟨210,⟨[.nilv, .int .i32],[]⟩,[],⟨[.own 0],[(0, .sl 5)]⟩,1,F⟩
def Sw(F:Int×Int×Int->Option Bool):Con I:=⟨212,⟨[.int .i64, .int .i64, .int .i64],[]⟩,[],⟨[.bool],[]⟩,0,F⟩
def Nr(F:Int->Option Bool):Con I:=⟨174,⟨[.int .i64],[]⟩,[],⟨[.bool],[]⟩,0,F⟩
def oG(F:Int->Option Int):Con I:=⟨211,⟨[.int .i64],[]⟩,[],⟨[.int .i64],[]⟩,0,F⟩
def wS(F:za->Option (za×List UInt8)):Con I:=⟨172,⟨[.optr 0, .nilv],[(0, .row 133)]⟩,[],⟨[.own 1],[(0, .row 133),(1, .sl 5)]⟩,1,F⟩
def Q9(F:Int×List UInt8->Option (List UInt8)):Con I:=⟨237,⟨[.own 0, .int .i32],[(0, .sl 5)]⟩,[],⟨[.own 1],[(1, .sl 5)]⟩,1,F⟩
def VS(F:Int×List UInt8->Option (List UInt8)):Con I:=⟨210,⟨[.own 0, .int .i32],[(0, .sl 5)]⟩,[],⟨[.own 1],[(1, .sl 5)]⟩,1,F⟩
def qh(F:za×List UInt8->Option (za×List UInt8)):Con I:=⟨172,⟨[.optr 0, .own 1],[(0, .row 133),(1, .sl 5)]⟩,[],⟨[.own 2],[(0, .row 133),(2, .sl 5)]⟩,1,F⟩
def uS(F:za->Option (ze×za)):Con I:=⟨140,⟨[.optr 0],[(0, .row 133)]⟩,[],⟨[.val 44],[(0, .row 133)]⟩,0,F⟩
def JH(F:Int->Option Bool):Con I:=⟨173,⟨[.int .i64],[]⟩,[],⟨[.bool],[]⟩,0,F⟩
def nH(F:Int->Option Bool):Con I:=⟨141,⟨[.int .i64],[]⟩,[],⟨[.bool],[]⟩,0,F⟩
def ZF(F:Int×za->Option Bool):Con I:=⟨142,⟨[.optr 0, .int .i64],[(0, .row 133)]⟩,[0],⟨[.bool],[]⟩,0,F⟩
def yH(F:Int×za->Option Bool):Con I:=⟨143,⟨[.optr 0, .int .i64],[(0, .row 133)]⟩,[0],⟨[.bool],[]⟩,0,F⟩
def Qr(F:za->Option (Str×za)):Con I:=⟨144,⟨[.optr 0],[(0, .row 133)]⟩,[],⟨[.str],[(0, .row 133)]⟩,0,F⟩
def vS(F:za->Option Bool):Con I:=⟨145,⟨[.optr 0],[(0, .row 133)]⟩,[0],⟨[.bool],[]⟩,0,F⟩
def kS(F:za->Option za):Con I:=⟨139,⟨[.optr 0, .clo 174 []],[(0, .row 133)]⟩,[],⟨[],[(0, .row 133)]⟩,0,F⟩
def nS(F:za->Option (Bool×za)):Con I:=⟨175,⟨[.optr 0],[(0, .row 133)]⟩,[],⟨[.bool],[(0, .row 133)]⟩,0,F⟩
def YS(F:Str->Option Int):Con I:=⟨176,⟨[.str],[]⟩,[],⟨[.int .i64],[]⟩,0,F⟩
def lS(F:za->Option (ze×za)):Con I:=⟨146,⟨[.optr 0],[(0, .row 133)]⟩,[],⟨[.val 44],[(0, .row 133)]⟩,0,F⟩
def bS(F:za->Option (ze×za)):Con I:=⟨216,⟨[.optr 0],[(0, .row 133)]⟩,[],⟨[.val 44],[(0, .row 133)]⟩,0,F⟩
def aS(F:za->Option (ze×za)):Con I:=⟨177,⟨[.optr 0],[(0, .row 133)]⟩,[],⟨[.val 44],[(0, .row 133)]⟩,0,F⟩
def TS(F:za->Option (ze×za)):Con I:=⟨147,⟨[.optr 0],[(0, .row 133)]⟩,[],⟨[.val 44],[(0, .row 133)]⟩,0,F⟩
def NS(F:za->Option (ze×za)):Con I:=⟨101,⟨[.optr 0],[(0, .row 133)]⟩,[],⟨[.val 44],[(0, .row 133)]⟩,0,F⟩
def CS(F:(ze×Int×Int)×List ze->Option (List ze)):Con I:=⟨70,⟨[.val 44, .int .i64, .int .i64, .optr 0],[(0, .cells 22 [.own 1]),(1, .sl 44)]⟩,[],⟨[],[(0, .cells 22 [.own 2]),(2, .sl 44)]⟩,1,F⟩
def aR(F:Str->Option (Int×List ze)):Con I:=⟨69,⟨[.str, .clo 70 [0]],[(0, .cells 22 [.nilv])]⟩,[],⟨[.int .i64],[(0, .cells 22 [.own 1]),(1, .sl 44)]⟩,1,F⟩
def yQ(F:Str->Option (List ze×Int)):Con I:=⟨33,⟨[.str],[]⟩,[],⟨[.sl 44, .int .i64],[]⟩,0,F⟩
def RS(F:List ze×List ze->Option Bool):Con I:=⟨82,⟨[.sl 44, .sl 44],[]⟩,[],⟨[.bool],[]⟩,0,F⟩
def FQ(F:List ze->Option (Str×Int)):Con I:=⟨46,⟨[.sl 44],[]⟩,[],⟨[.str, .int .i64],[]⟩,0,F⟩
def WP(F:List zg->Option (Str×Int)):Con I:=⟨20,⟨[.sl 49],[]⟩,[],⟨[.str, .int .i64],[]⟩,0,F⟩
def sG(F:Zj->Option (Str×Int)):Con I:=⟨48,⟨[.val 66],[]⟩,[],⟨[.str, .int .i64],[]⟩,0,F⟩
def Sr(F:Int->Option Int):Con I:=⟨150,⟨[.int .u8],[]⟩,[],⟨[.int .u8],[]⟩,0,F⟩
def KH(F:Str->Option Str):Con I:=⟨105,⟨[.str],[]⟩,[],⟨[.str],[]⟩,0,F⟩
def VQ(F:Str->Option Bool):Con I:=⟨94,⟨[.str],[]⟩,[],⟨[.bool],[]⟩,0,F⟩
def Qo(F:List zg->Option (List ze)):Con I:=⟨36,⟨[.sl 49],[]⟩,[],⟨[.sl 44],[]⟩,0,F⟩
def Tw(F:List zg×Int->Option Bool):Con I:=⟨66,⟨[.sl 49, .int .u8],[]⟩,[],⟨[.bool],[]⟩,0,F⟩
def XQ(F:List zg->Option Int):Con I:=⟨27,⟨[.sl 49],[]⟩,[],⟨[.int .i64],[]⟩,0,F⟩
def YQ(F:Str->Option Bool):Con I:=⟨102,⟨[.str],[]⟩,[],⟨[.bool],[]⟩,0,F⟩
def ZQ(F:Int->Option Bool):Con I:=⟨148,⟨[.int .u8],[]⟩,[],⟨[.bool],[]⟩,0,F⟩
def PQ(F:Str->Option Bool):Con I:=⟨103,⟨[.str],[]⟩,[],⟨[.bool],[]⟩,0,F⟩
def Iw(F:Int->Option Bool):Con I:=⟨178,⟨[.int .u8],[]⟩,[],⟨[.bool],[]⟩,0,F⟩
def Qe(F:Str×Int->Option Int):Con I:=⟨217,⟨[.str, .int .i64],[]⟩,[],⟨[.int .u8],[]⟩,0,F⟩
def YB(F:Str×Int->Option Int):Con I:=⟨179,⟨[.str, .int .i64],[]⟩,[],⟨[.int .i64],[]⟩,0,F⟩
def BH(F:Unit->Option Str):Con I:=⟨244,⟨[],[]⟩,[],⟨[.str],[]⟩,0,F⟩
def TP(F:Int->Option Int):Con I:=⟨245,⟨[.int .u8],[]⟩,[],⟨[.int .i64],[]⟩,0,F⟩
def TQ(F:Int->Option Str):Con I:=⟨246,⟨[.int .i64],[]⟩,[],⟨[.str],[]⟩,0,F⟩
def Q5(F:Str×Int->Option (Str×Int)):Con I:=⟨218,⟨[.str, .int .i64],[]⟩,[],⟨[.str, .int .i64],[]⟩,0,F⟩
def DR(F:Str×Int->Option (ze×Int)):Con I:=⟨180,⟨[.str, .int .i64],[]⟩,[],⟨[.val 44, .int .i64],[]⟩,0,F⟩
def oH(F:Int->Option Bool):Con I:=⟨198,⟨[.int .u8],[]⟩,[],⟨[.bool],[]⟩,0,F⟩
def Xw(F:Int->Option Bool):Con I:=⟨163,⟨[.int .u8],[]⟩,[],⟨[.bool],[]⟩,0,F⟩
def QS(F:Str×Int->Option Bool):Con I:=⟨181,⟨[.str, .int .i64],[]⟩,[],⟨[.bool],[]⟩,0,F⟩
def JB(F:Str×Int->Option (Str×Int)):Con I:=⟨182,⟨[.str, .int .i64],[]⟩,[],⟨[.str, .int .i64],[]⟩,0,F⟩
def rH(F:Str×Int->Option Bool):Con I:=⟨183,⟨[.str, .int .i64],[]⟩,[],⟨[.bool],[]⟩,0,F⟩
def xR(F:Str×Int->Option Bool):Con I:=⟨184,⟨[.str, .int .i64],[]⟩,[],⟨[.bool],[]⟩,0,F⟩
def ER(F:Str×Int->Option Int):Con I:=⟨247,⟨[.str, .int .i64],[]⟩,[],⟨[.int .i64],[]⟩,0,F⟩
def MS(F:Str×Int->Option (Int×Bool)):Con I:=⟨219,⟨[.str, .int .i64],[]⟩,[],⟨[.int .i64, .bool],[]⟩,0,F⟩
def jS(F:Str->Option Int):Con I:=⟨220,⟨[.str],[]⟩,[],⟨[.int .i64],[]⟩,0,F⟩
def mR(F:Str×Int->Option (ze×Int)):Con I:=⟨185,⟨[.str, .int .i64],[]⟩,[],⟨[.val 44, .int .i64],[]⟩,0,F⟩
def pG(F:Str×Int×Str->Option Bool):Con I:=⟨186,⟨[.str, .int .i64, .str],[]⟩,[],⟨[.bool],[]⟩,0,F⟩
def LB(F:Str×Str->Option Bool):Con I:=⟨72,⟨[.str, .str],[]⟩,[],⟨[.bool],[]⟩,0,F⟩
def RP(F:Str×Int->Option (ze×Int)):Con I:=⟨248,⟨[.str, .int .i64],[]⟩,[],⟨[.val 44, .int .i64],[]⟩,0,F⟩
def dS(F:Int->Option Bool):Con I:=⟨249,⟨[.int .u8],[]⟩,[],⟨[.bool],[]⟩,0,F⟩
def PP(F:Str×Int->Option (ze×Int)):Con I:=⟨221,⟨[.str, .int .i64],[]⟩,[],⟨[.val 44, .int .i64],[]⟩,0,F⟩
def RQ(F:Str×Int->Option (ze×Int)):Con I:=⟨187,⟨[.str, .int .i64],[]⟩,[],⟨[.val 44, .int .i64],[]⟩,0,F⟩
def SQ(F:Int->Option Int):Con I:=⟨188,⟨[.int .u8],[]⟩,[],⟨[.int .u8],[]⟩,0,F⟩
def rG(F:Str×Int->Option (ze×Int)):Con I:=⟨149,⟨[.str, .int .i64],[]⟩,[],⟨[.val 44, .int .i64],[]⟩,0,F⟩
def bQ(F:Int->Option Bool):Con I:=⟨104,⟨[.int .u8],[]⟩,[],⟨[.bool],[]⟩,0,F⟩
def OQ(F:ze->Option Bool):Con I:=⟨71,⟨[.val 44],[]⟩,[],⟨[.bool],[]⟩,0,F⟩
def dQ(F:List ze->Option Int):Con I:=⟨35,⟨[.sl 44],[]⟩,[],⟨[.int .i64],[]⟩,0,F⟩
def Q6(F:List zg->Option Bool):Con I:=⟨131,⟨[.sl 49],[]⟩,[],⟨[.bool],[]⟩,0,F⟩
def jR(F:List zg->Option (List zg)):Con I:=⟨110,⟨[.sl 49],[]⟩,[],⟨[.sl 49],[]⟩,0,F⟩
def BR(F:Str->Option Bool):Con I:=⟨132,⟨[.str],[]⟩,[],⟨[.bool],[]⟩,0,F⟩
def AR(F:Str×List zg->Option Bool):Con I:=⟨95,⟨[.str, .sl 49],[]⟩,[],⟨[.bool],[]⟩,0,F⟩
def FB(F:Zj->Option Int):Con I:=⟨53,⟨[.val 66],[]⟩,[],⟨[.int .i64],[]⟩,0,F⟩
def XB(F:Int->Option Str):Con I:=⟨164,⟨[.int .u8],[]⟩,[],⟨[.str],[]⟩,0,F⟩
def IB(F:Str×Bool->Option Str):Con I:=⟨124,⟨[.str, .bool],[]⟩,[],⟨[.str],[]⟩,0,F⟩
def CR(F:Str×Bool->Option Str):Con I:=⟨201,⟨[.str, .bool],[]⟩,[],⟨[.str],[]⟩,0,F⟩
def Ww(F:Int->Option Str):Con I:=⟨229,⟨[.int .i64],[]⟩,[],⟨[.str],[]⟩,0,F⟩
def Uw(F:Int×Bool->Option Str):Con I:=⟨202,⟨[.int .i64, .bool],[]⟩,[],⟨[.str],[]⟩,0,F⟩
def MQ(F:Str->Option Str):Con I:=⟨203,⟨[.str],[]⟩,[],⟨[.str],[]⟩,0,F⟩
def NQ(F:ze->Option Str):Con I:=⟨167,⟨[.val 44],[]⟩,[],⟨[.str],[]⟩,0,F⟩
def aQ(F:List ze->Option (Int×Str)):Con I:=⟨133,⟨[.sl 44],[]⟩,[],⟨[.int .i64, .str],[]⟩,0,F⟩
def CQ(F:Str×Int->Option Int):Con I:=⟨152,⟨[.str, .int .i64],[]⟩,[],⟨[.int .i64],[]⟩,0,F⟩
def VP(F:Str->Option (List ze×List Zl)):Con I:=⟨114,⟨[.str],[]⟩,[],⟨[.sl 44, .sl 172],[]⟩,0,F⟩
def BQ(F:List ze×List ze->Option Bool):Con I:=⟨23,⟨[.sl 44, .sl 44],[]⟩,[],⟨[.bool],[]⟩,0,F⟩
def kR(F:List ze->Option Str):Con I:=⟨97,⟨[.sl 44],[]⟩,[],⟨[.str],[]⟩,0,F⟩
def vH(F:Zj->Option Str):Con I:=⟨84,⟨[.val 66],[]⟩,[],⟨[.str],[]⟩,0,F⟩
def JQ(F:Zj->Option (Str×Int)):Con I:=⟨49,⟨[.val 66],[]⟩,[],⟨[.str, .int .i64],[]⟩,0,F⟩
def xP(F:List Zj->Option (Str×Int)):Con I:=⟨50,⟨[.sl 66],[]⟩,[],⟨[.str, .int .i64],[]⟩,0,F⟩
def LQ(F:List Zj->Option Str):Con I:=⟨86,⟨[.sl 66],[]⟩,[],⟨[.str],[]⟩,0,F⟩
def KQ(F:List Zj->Option (Str×Int)):Con I:=⟨51,⟨[.sl 66],[]⟩,[],⟨[.str, .int .i64],[]⟩,0,F⟩
def KS(F:Zj×List Zj->Option Bool):Con I:=⟨10,⟨[.val 66, .sl 66],[]⟩,[],⟨[.bool],[]⟩,0,F⟩
def FR(F:List zg->Option (List ze)):Con I:=⟨63,⟨[.nilv, .sl 49],[]⟩,[],⟨[.sl 44],[]⟩,0,F⟩
def iM(F:Str->Option (Str×Int)):Con I:=⟨99,⟨[.str],[]⟩,[],⟨[.str, .int .i64],[]⟩,0,F⟩
theorem DY:zk Tryz.prog (iM Rj):=vY
def WO(F:Str×Int->Option Int):Con I:=⟨156,⟨[.str, .int .u8],[]⟩,[],⟨[.int .i64],[]⟩,0,F⟩
theorem gZ:zk Tryz.prog (WO Ku):=BZ
def DF(F:Str×Str->Option Int):Con I:=⟨136,⟨[.str, .str],[]⟩,[],⟨[.int .i64],[]⟩,0,F⟩
theorem lN:zk Tryz.prog (DF Vj):=uY
def gM(F:Str×Str->Option Str):Con I:=⟨213,⟨[.str, .str],[]⟩,[],⟨[.str],[]⟩,0,F⟩
theorem CY:zk Tryz.prog (gM Pi):=tY
def fM(F:Str×Str->Option Str):Con I:=⟨160,⟨[.str, .str],[]⟩,[],⟨[.str],[]⟩,0,F⟩
theorem AY:zk Tryz.prog (fM ak):=rY
def YP(F:Str×Str->Option Int):Con I:=⟨214,⟨[.str, .str],[]⟩,[],⟨[.int .i64],[]⟩,0,F⟩
theorem X3:zk Tryz.prog (YP di):=O3
def IJ(F:Str×Str->Option (Str×Str×Bool)):Con I:=⟨215,⟨[.str, .str],[]⟩,[],⟨[.str, .str, .bool],[]⟩,0,F⟩
theorem zAJ:zk Tryz.prog (IJ cutF):=zAm
def BO(F:Int×Int->Option Str):Con I:=⟨161,⟨[.int .i64, .int .i64],[]⟩,[],⟨[.str],[]⟩,0,F⟩
theorem iZ:zk Tryz.prog (BO gm):=CZ
def cO(F:(Int×Int)×List UInt8->Option (List UInt8)):Con I:=⟨158,⟨[.own 0, .int .u64, .int .i64],[(0, .sl 5)]⟩,[],⟨[.own 1],[(1, .sl 5)]⟩,1,F⟩
theorem uZ:zk Tryz.prog (cO ym):=U0
def dO(F:(Int×Int)×List UInt8->Option (List UInt8)):Con I:=⟨159,⟨[.own 0, .int .i64, .int .i64],[(0, .sl 5)]⟩,[],⟨[.own 1],[(1, .sl 5)]⟩,1,F⟩
theorem vZ:zk Tryz.prog (dO Bn):=X0
def fK(F:List Str×Str->Option Str):Con I:=⟨85,⟨[.sl 9, .str],[]⟩,[],⟨[.str],[]⟩,0,F⟩
theorem IV:zk Tryz.prog (fK Gm):=mW
theorem F6(qV:List zg×Int->Option Int)(hs:zk Tryz.prog (Fw qV)):zk Tryz.prog (Fw (Br qV)):=
 okC (A:=⟨[Fw qV],[],[],0,[(3,⟨[5,6],⟨[.int .i64, .int .i64],[]⟩,[0,1,4],[],[],0,[5],⟨[.int .i64],[]⟩,[]⟩)],[],[]⟩) (exS:=⟨[.int .i64],[]⟩) Tryz.f58 (memC hs zF) (by kernel_rfl) (by kernel_rfl) fun x=>by kernel_rfl
theorem V5:zk Tryz.prog (Fw qV):=
 zk.recE (I:=I) (P:=Tryz.prog) (f:=58) (inS:=⟨[.sl 49, .int .i64],[]⟩) (cst:=[]) (outS:=⟨[.int .i64],[]⟩) (k:=0) (Br) (by kernel_rfl) (fun S h=>F6 S h)
theorem YH:zk Tryz.prog (WB Qm):=
 okC (A:=⟨[],[],[],0,[],[(6,⟨[6],⟨[.bool],[]⟩,[3],[],[],0,[],⟨[],[]⟩,[]⟩)],[]⟩) (exS:=⟨[.int .u8],[]⟩) Tryz.f25 zF (by kernel_rfl) (by kernel_rfl) fun x=>by kernel_rfl
theorem G6(Qf:List zg->Option Int)(hs:zk Tryz.prog (Ur Qf)):zk Tryz.prog (Ur (iA Qf)):=
 okC (A:=⟨[WB Qm,Ur Qf],[],[],0,[(3,⟨[3,4],⟨[.int .i64, .int .i64],[]⟩,[0,2],[],[],0,[3],⟨[.int .i64],[]⟩,[]⟩)],[(4,⟨[3,4],⟨[.int .i64, .int .i64],[]⟩,[],[],[],0,[],⟨[],[]⟩,[]⟩)],[]⟩) (exS:=⟨[.int .i64],[]⟩) Tryz.f59 (memC YH (memC hs zF)) (by kernel_rfl) (by kernel_rfl) fun x=>by kernel_rfl
theorem sQ:zk Tryz.prog (Ur Qf):=
 zk.recE (I:=I) (P:=Tryz.prog) (f:=59) (inS:=⟨[.sl 49],[]⟩) (cst:=[]) (outS:=⟨[.int .i64],[]⟩) (k:=0) (iA) (by kernel_rfl) (fun S h=>G6 S h)
theorem N7:zk Tryz.prog (WQ Jr):=
 okC (A:=⟨[Fw qV,Ur Qf],[],[],0,[(5,⟨[3,4],⟨[.int .i64, .int .i64],[]⟩,[0],[],[],0,[],⟨[],[]⟩,[]⟩)],[],[]⟩) (exS:=⟨[.bool],[]⟩) Tryz.f47 (memC V5 (memC sQ zF)) (by kernel_rfl) (by kernel_rfl) fun x=>by kernel_rfl
theorem lH:zk Tryz.prog (MB QF):=
 okC (A:=⟨[],[],[],0,[],[(7,⟨[6],⟨[.bool],[]⟩,[0],[],[],0,[],⟨[],[]⟩,[]⟩)],[]⟩) (exS:=⟨[.int .u8],[]⟩) Tryz.f61 zF (by kernel_rfl) (by kernel_rfl) fun x=>by kernel_rfl
theorem M0(Ij:List zg×Int->Option zT)(hs:zk Tryz.prog (Gw Ij)):zk Tryz.prog (Gw (bA Ij)):=
 okC (A:=⟨[MB QF,Gw Ij],[],[],0,[(3,⟨[12],⟨[.int .i64],[(1, .row 101)]⟩,[1,4,5,10,11],[0],[1],0,[],⟨[],[(1, .row 101)]⟩,[1]⟩)],[(9,⟨[],⟨[],[(1, .row 101)]⟩,[7,8,12],[2],[1],0,[],⟨[],[]⟩,[]⟩),(12,⟨[12],⟨[.int .i64],[(1, .row 101)]⟩,[],[],[1],0,[],⟨[],[]⟩,[]⟩)],[]⟩) (exS:=⟨[.optr 0],[(0, .row 101)]⟩) Tryz.f65 (memC lH (memC hs zF)) (by kernel_rfl) (by kernel_rfl) fun x=>by kernel_rfl
theorem F5:zk Tryz.prog (Gw Ij):=
 zk.recE (I:=I) (P:=Tryz.prog) (f:=65) (inS:=⟨[.sl 49, .int .u8],[]⟩) (cst:=[]) (outS:=⟨[.val 101],[]⟩) (k:=0) (bA) (by kernel_rfl) (fun S h=>M0 S h)
theorem uQ:zk Tryz.prog (EH bn):=
 okC (A:=⟨[Gw Ij],[],[],0,[],[],[]⟩) (exS:=⟨[.int .i64],[]⟩) Tryz.f32 (memC F5 zF) (by kernel_rfl) (by kernel_rfl) fun x=>by kernel_rfl
theorem G7(Qq:List zg×List ze->Option (List ze))(hs:zk Tryz.prog (Jw Qq)):zk Tryz.prog (Jw (EB Qq)):=
 okC (A:=⟨[MB QF,Jw Qq],[(4,[3]),(7,[6])],[],1,[(2,⟨[0,10],⟨[.own 1001, .int .i64],[(1001, .sl 44)]⟩,[4,8,9],[],[],0,[0],⟨[.own 1001],[(1001, .sl 44)]⟩,[1001]⟩)],[(8,⟨[0,10],⟨[.own 1103, .int .i64],[(1103, .sl 44)]⟩,[],[],[],0,[],⟨[],[]⟩,[]⟩)],[]⟩) (exS:=⟨[.own 1],[(1, .sl 44)]⟩) Tryz.f63 (memC lH (memC hs zF)) (by kernel_rfl) (by kernel_rfl) fun x=>by kernel_rfl
theorem P8:zk Tryz.prog (Jw Qq):=
 zk.recE (I:=I) (P:=Tryz.prog) (f:=63) (inS:=⟨[.own 0, .sl 49],[(0, .sl 44)]⟩) (cst:=[]) (outS:=⟨[.own 1],[(1, .sl 44)]⟩) (k:=1) (EB) (by kernel_rfl) (fun S h=>G7 S h)
theorem PR:zk Tryz.prog (eQ Xl):=
 okC (A:=⟨[MB QF,Jw Qq],[(4,[3]),(7,[6])],[],0,[(2,⟨[0,10],⟨[.own 1105, .int .i64],[(1105, .sl 44)]⟩,[4,8,9],[],[],0,[0],⟨[.own 1105],[(1105, .sl 44)]⟩,[1105]⟩)],[(8,⟨[0,10],⟨[.own 1207, .int .i64],[(1207, .sl 44)]⟩,[],[],[],0,[],⟨[],[]⟩,[]⟩)],[]⟩) (exS:=⟨[.own 0],[(0, .sl 44)]⟩) Tryz.f63 (memC lH (memC P8 zF)) (by kernel_rfl) (by kernel_rfl) fun x=>by kernel_rfl
theorem H9:zk Tryz.prog (FR Xl):=RY ipOK (by kernel_rfl) PR
theorem H5:zk Tryz.prog (XP su):=
 okC (A:=⟨[EH bn,eQ Xl],[],[],0,[],[],[]⟩) (exS:=⟨[.sl 44, .int .i64],[]⟩) Tryz.f18 (memC uQ (memC PR zF)) (by kernel_rfl) (by kernel_rfl) fun x=>by kernel_rfl
theorem qH:zk Tryz.prog (Z7 strings_IndexByte):=
 okC (A:=⟨[WO Ku],[],[],0,[],[],[]⟩) (exS:=⟨[.int .i64],[]⟩) Tryz.f119 (memC gZ zF) (by kernel_rfl) (by kernel_rfl) fun x=>by kernel_rfl
theorem sS:zk Tryz.prog (QC stringslite_HasPrefix):=
 okC (A:=⟨[],[],[],0,[],[],[]⟩) (exS:=⟨[.bool],[]⟩) Tryz.f130 zF (by kernel_rfl) (by kernel_rfl) fun x=>by kernel_rfl
theorem Zy:zk Tryz.prog (Zq strings_HasPrefix):=
 okC (A:=⟨[QC stringslite_HasPrefix],[],[],0,[],[],[]⟩) (exS:=⟨[.bool],[]⟩) Tryz.f93 (memC sS zF) (by kernel_rfl) (by kernel_rfl) fun x=>by kernel_rfl
theorem TR:zk Tryz.prog (LH Yl):=
 okC (A:=⟨[],[],[],0,[(3,⟨[10],⟨[.int .i64],[(0, .sl 5)]⟩,[2,3,8,9],[],[0],0,[],⟨[],[(0, .sl 5)]⟩,[0]⟩)],[(7,⟨[10],⟨[.int .i64],[(0, .sl 5)]⟩,[],[],[0],0,[],⟨[],[]⟩,[]⟩)],[]⟩) (exS:=⟨[.str],[]⟩) Tryz.f108 zF (by kernel_rfl) (by kernel_rfl) fun x=>by kernel_rfl
theorem A7:zk Tryz.prog (GQ kv):=
 okC (A:=⟨[Z7 strings_IndexByte,Zq strings_HasPrefix,LH Yl],[],[],0,[],[],[]⟩) (exS:=⟨[.bool],[]⟩) Tryz.f87 (memC qH (memC Zy (memC TR zF))) (by kernel_rfl) (by kernel_rfl) fun x=>by kernel_rfl
theorem zdW:zk Tryz.prog (DT stringslite_TrimPrefix):=
 okC (A:=⟨[QC stringslite_HasPrefix],[],[],0,[],[],[]⟩) (exS:=⟨[.str],[]⟩) Tryz.f197 (memC sS zF) (by kernel_rfl) (by kernel_rfl) fun x=>by kernel_rfl
theorem zfD:zk Tryz.prog (PS strings_TrimPrefix):=
 okC (A:=⟨[DT stringslite_TrimPrefix],[],[],0,[],[],[]⟩) (exS:=⟨[.str],[]⟩) Tryz.f162 (memC zdW zF) (by kernel_rfl) (by kernel_rfl) fun x=>by kernel_rfl
theorem Hw:zk Tryz.prog (Vr Z8):=
 okC (A:=⟨[],[],[],0,[],[],[]⟩) (exS:=⟨[.bool],[]⟩) Tryz.f155 zF (by kernel_rfl) (by kernel_rfl) fun x=>by kernel_rfl
theorem bR:zk Tryz.prog (sH Co):=
 okC (A:=⟨[PS strings_TrimPrefix,Vr Z8],[],[],0,[],[],[]⟩) (exS:=⟨[.bool],[]⟩) Tryz.f122 (memC zfD (memC Hw zF)) (by kernel_rfl) (by kernel_rfl) fun x=>by kernel_rfl
theorem VR:zk Tryz.prog (NH Hr):=
 okC (A:=⟨[],[],[],0,[],[],[]⟩) (exS:=⟨[.bool],[]⟩) Tryz.f157 zF (by kernel_rfl) (by kernel_rfl) fun x=>by kernel_rfl
theorem SH:zk Tryz.prog (jA QU):=
 okC (A:=⟨[NH Hr,Vr Z8],[],[],0,[],[],[]⟩) (exS:=⟨[.bool],[]⟩) Tryz.f153 (memC VR (memC Hw zF)) (by kernel_rfl) (by kernel_rfl) fun x=>by kernel_rfl
theorem zg1:zk Tryz.prog (JS strings_Contains):=
 okC (A:=⟨[DF Vj],[],[],0,[],[],[]⟩) (exS:=⟨[.bool],[]⟩) Tryz.f154 (memC lN zF) (by kernel_rfl) (by kernel_rfl) fun x=>by kernel_rfl
theorem Y3:zk Tryz.prog (aP xu):=
 okC (A:=⟨[Z7 strings_IndexByte,sH Co,Zq strings_HasPrefix,jA QU,JS strings_Contains],[],[],0,[],[(8,⟨[3,4,5,6,7,25],⟨[.bool, .bool, .bool, .bool, .bool, .bool],[]⟩,[1,16],[],[],0,[],⟨[],[]⟩,[]⟩),(14,⟨[3,4,5,6,7,63],⟨[.bool, .bool, .bool, .bool, .bool, .bool],[]⟩,[],[],[],0,[],⟨[],[]⟩,[]⟩),(22,⟨[4,5,6,7,94],⟨[.bool, .bool, .bool, .bool, .bool],[]⟩,[3],[],[],0,[],⟨[],[]⟩,[]⟩),(24,⟨[3,4,5,6,7],⟨[.bool, .bool, .bool, .bool, .bool],[]⟩,[1],[0],[],0,[],⟨[],[]⟩,[]⟩)],[]⟩) (exS:=⟨[.bool],[]⟩) Tryz.f115 (memC qH (memC bR (memC Zy (memC SH (memC zg1 zF))))) (by kernel_rfl) (by kernel_rfl) fun x=>by kernel_rfl
theorem I9:zk Tryz.prog (GR ZZ):=
 okC (A:=⟨[],[],[],1,[],[],[]⟩) (exS:=⟨[.bool],[]⟩) Tryz.f116 zF (by kernel_rfl) (by kernel_rfl) fun x=>by kernel_rfl
theorem UR:zk Tryz.prog (MH Io):=
 okC (A:=⟨[LH Yl],[],[],0,[],[],[]⟩) (exS:=⟨[.bool],[]⟩) Tryz.f109 (memC TR zF) (by kernel_rfl) (by kernel_rfl) fun x=>by kernel_rfl
theorem vQ:zk Tryz.prog (FH QV):=
 okC (A:=⟨[GR ZZ,MH Io],[],[],0,[],[(11,⟨[5],⟨[.int .i64],[]⟩,[3],[0],[],0,[],⟨[],[]⟩,[]⟩)],[]⟩) (exS:=⟨[.int .i64],[]⟩) Tryz.f80 (memC I9 (memC UR zF)) (by kernel_rfl) (by kernel_rfl) fun x=>by kernel_rfl
theorem xQ:zk Tryz.prog (UH Ul):=
 okC (A:=⟨[aP xu,FH QV],[],[],0,[(4,⟨[10],⟨[.int .i64],[]⟩,[0,8,9],[],[],0,[],⟨[],[]⟩,[]⟩)],[],[]⟩) (exS:=⟨[.int .i64],[]⟩) Tryz.f79 (memC Y3 (memC vQ zF)) (by kernel_rfl) (by kernel_rfl) fun x=>by kernel_rfl
theorem VA:zk Tryz.prog (Rv kg):=
 okC (A:=⟨[],[],[],0,[],[],[]⟩) (exS:=⟨[.bool],[]⟩) Tryz.f91 zF (by kernel_rfl) (by kernel_rfl) fun x=>by kernel_rfl
theorem V9(zB:List zg->Option Bool)(h_decl_closers:zk Tryz.prog (qM zB)):zk Tryz.prog (yR (QT zB)):=
 okC (A:=⟨[Rv kg,qM zB],[],[],0,[],[],[]⟩) (exS:=⟨[.bool],[]⟩) Tryz.f128 (memC VA (memC h_decl_closers zF)) (by kernel_rfl) (by kernel_rfl) fun x=>by kernel_rfl
theorem zdV(zB:List zg->Option Bool)(h_decl_closers:zk Tryz.prog (qM zB)):zk Tryz.prog (FT (Qb zB)):=
 okC (A:=⟨[yR (QT zB)],[],[],0,[(2,⟨[8],⟨[.int .i64],[]⟩,[0,1,7],[],[],0,[],⟨[],[]⟩,[]⟩)],[],[]⟩) (exS:=⟨[.int .i64],[]⟩) Tryz.f129 (memC (V9 zB h_decl_closers) zF) (by kernel_rfl) (by kernel_rfl) fun x=>by kernel_rfl
theorem zcM(zB:List zg->Option Bool)(h_decl_closers:zk Tryz.prog (qM zB)):zk Tryz.prog (Q7 (ql zB)):=
 okC (A:=⟨[FT (Qb zB)],[],[],0,[],[],[]⟩) (exS:=⟨[.bool],[]⟩) Tryz.f89 (memC (zdV zB h_decl_closers) zF) (by kernel_rfl) (by kernel_rfl) fun x=>by kernel_rfl
theorem A8(zB:List zg->Option Bool)(hs:zk Tryz.prog (qM zB)):zk Tryz.prog (qM (VB zB)):=
 okC (A:=⟨[Q7 (ql zB)],[],[],0,[],[],[]⟩) (exS:=⟨[.bool],[]⟩) Tryz.f88 (memC (zcM zB hs) zF) (by kernel_rfl) (by kernel_rfl) fun x=>by kernel_rfl
theorem J9:zk Tryz.prog (qM zB):=
 zk.recE (I:=I) (P:=Tryz.prog) (f:=88) (inS:=⟨[.sl 49],[]⟩) (cst:=[]) (outS:=⟨[.bool],[]⟩) (k:=0) (VB) (by kernel_rfl) (fun S h=>A8 S h)
theorem J4:zk Tryz.prog (wP LA):=
 okC (A:=⟨[Rv kg],[],[],0,[],[],[]⟩) (exS:=⟨[.bool],[]⟩) Tryz.f92 (memC VA zF) (by kernel_rfl) (by kernel_rfl) fun x=>by kernel_rfl
theorem K9:zk Tryz.prog (IR Ew):=
 okC (A:=⟨[Rv kg,wP LA],[],[],0,[],[],[]⟩) (exS:=⟨[.bool],[]⟩) Tryz.f90 (memC VA (memC J4 zF)) (by kernel_rfl) (by kernel_rfl) fun x=>by kernel_rfl
theorem zdr:zk Tryz.prog (xS qB):=
 okC (A:=⟨[IR Ew],[],[],0,[(2,⟨[8],⟨[.int .i64],[]⟩,[0,1,7],[],[],0,[],⟨[],[]⟩,[]⟩)],[],[]⟩) (exS:=⟨[.int .i64],[]⟩) Tryz.f129 (memC K9 zF) (by kernel_rfl) (by kernel_rfl) fun x=>by kernel_rfl
theorem zcl:zk Tryz.prog (QL Zt):=
 okC (A:=⟨[xS qB],[],[],0,[],[],[]⟩) (exS:=⟨[.bool],[]⟩) Tryz.f89 (memC zdr zF) (by kernel_rfl) (by kernel_rfl) fun x=>by kernel_rfl
theorem kQ:zk Tryz.prog (VH dn):=
 okC (A:=⟨[XP su,GQ kv,UH Ul,qM zB,QL Zt,Zq strings_HasPrefix,Rv kg],[],[],0,[],[],[]⟩) (exS:=⟨[.int .i64],[]⟩) Tryz.f52 (memC H5 (memC A7 (memC xQ (memC J9 (memC zcl (memC Zy (memC VA zF))))))) (by kernel_rfl) (by kernel_rfl) fun x=>by kernel_rfl
theorem wQ:zk Tryz.prog (TH Qu):=
 okC (A:=⟨[Zq strings_HasPrefix],[],[],0,[],[],[]⟩) (exS:=⟨[.int .i64],[]⟩) Tryz.f118 (memC Zy zF) (by kernel_rfl) (by kernel_rfl) fun x=>by kernel_rfl
theorem uH:zk Tryz.prog (RB ZH):=
 okC (A:=⟨[Vr Z8,NH Hr,cO ym],[(2,[2]),(3,[1]),(5,[1])],[],1,[],[],[]⟩) (exS:=⟨[.own 1],[(1, .sl 5)]⟩) Tryz.f120 (memC Hw (memC VR (memC uZ zF))) (by kernel_rfl) (by kernel_rfl) fun x=>by kernel_rfl
theorem V8:zk Tryz.prog (iQ Yv):=
 okC (A:=⟨[jA QU,Vr Z8,RB ZH],[(6,[2])],[],0,[(2,⟨[0,11],⟨[.own 1209, .int .i64],[(1209, .sl 5)]⟩,[1,2,6,10],[],[],0,[0],⟨[.own 1209],[(1209, .sl 5)]⟩,[1209]⟩)],[(8,⟨[0,11],⟨[.own 1311, .int .i64],[(1311, .sl 5)]⟩,[],[],[],0,[],⟨[],[]⟩,[]⟩)],[]⟩) (exS:=⟨[.own 0],[(0, .sl 5)]⟩) Tryz.f117 (memC SH (memC Hw (memC uH zF))) (by kernel_rfl) (by kernel_rfl) fun x=>by kernel_rfl
theorem I4:zk Tryz.prog (vP yu):=
 okC (A:=⟨[Z7 strings_IndexByte,TH Qu,iQ Yv],[],[],0,[],[],[]⟩) (exS:=⟨[.str, .int .i64],[]⟩) Tryz.f83 (memC qH (memC wQ (memC V8 zF))) (by kernel_rfl) (by kernel_rfl) fun x=>by kernel_rfl
theorem U8:zk Tryz.prog (gQ qW):=
 okC (A:=⟨[jA QU,Vr Z8,RB ZH],[(6,[2])],[],1,[(2,⟨[0,11],⟨[.own 1313, .int .i64],[(1313, .sl 5)]⟩,[1,2,6,10],[],[],0,[0],⟨[.own 1313],[(1313, .sl 5)]⟩,[1313]⟩)],[(8,⟨[0,11],⟨[.own 1415, .int .i64],[(1415, .sl 5)]⟩,[],[],[],0,[],⟨[],[]⟩,[]⟩)],[]⟩) (exS:=⟨[.own 1],[(1, .sl 5)]⟩) Tryz.f117 (memC SH (memC Hw (memC uH zF))) (by kernel_rfl) (by kernel_rfl) fun x=>by kernel_rfl
theorem l6:zk Tryz.prog (EQ bv):=
 okC (A:=⟨[],[],[],0,[],[],[]⟩) (exS:=⟨[.optr 0],[(0, .row 149)]⟩) Tryz.f123 zF (by kernel_rfl) (by kernel_rfl) fun x=>by kernel_rfl
theorem S9:zk Tryz.prog (nR QE):=
 okC (A:=⟨[dO Bn,BO gm,fM ak],[(2,[1]),(6,[1])],[],1,[],[(3,⟨[0,1],⟨[.own 1937, .int .i64],[(1937, .sl 5)]⟩,[2],[],[],0,[],⟨[],[]⟩,[]⟩),(9,⟨[0],⟨[.own 2040],[(2040, .sl 5)]⟩,[],[],[],0,[],⟨[],[]⟩,[]⟩)],[]⟩) (exS:=⟨[.own 1],[(1, .sl 5)]⟩) Tryz.f121 (memC vZ (memC iZ (memC AY zF))) (by kernel_rfl) (by kernel_rfl) fun x=>by kernel_rfl
theorem R8:zk Tryz.prog (fQ Er):=
 okC (A:=⟨[TH Qu,gQ qW,Z7 strings_IndexByte,RB ZH,nR QE,sH Co,Zq strings_HasPrefix,EQ bv],[(5,[7]),(7,[1]),(12,[1]),(14,[1]),(20,[2]),(22,[1]),(30,[2]),(32,[1]),(38,[4])],[],1,[(16,⟨[0,67],⟨[.own 1730, .int .i64],[(1730, .sl 5)]⟩,[3,4,65,66],[1,4],[],1,[0],⟨[.own 1730],[(1730, .sl 5)]⟩,[1730]⟩),(26,⟨[0,93],⟨[.own 1834, .int .i64],[(1834, .sl 5)]⟩,[3,4,91,92],[1,3],[],3,[0],⟨[.own 1834],[(1834, .sl 5)]⟩,[1834]⟩)],[(12,⟨[5],⟨[.int .i64],[(0, .sl 5)]⟩,[0,3],[1],[0],0,[],⟨[],[]⟩,[]⟩),(21,⟨[0,67],⟨[.own 1832, .int .i64],[(1832, .sl 5)]⟩,[],[],[],0,[],⟨[],[]⟩,[]⟩),(31,⟨[0,93],⟨[.own 1936, .int .i64],[(1936, .sl 5)]⟩,[],[],[],0,[],⟨[],[]⟩,[]⟩)],[]⟩) (exS:=⟨[.own 1],[(1, .sl 5)]⟩) Tryz.f81 (memC wQ (memC U8 (memC qH (memC uH (memC S9 (memC bR (memC Zy (memC l6 zF)))))))) (by kernel_rfl) (by kernel_rfl) fun x=>by kernel_rfl
theorem zdX:zk Tryz.prog (yS Zn):=
 okC (A:=⟨[Zq strings_HasPrefix,DF Vj],[],[],1,[(0,⟨[],⟨[],[(0, .row 133)]⟩,[0],[],[0],0,[],⟨[],[(0, .row 133)]⟩,[0]⟩)],[],[]⟩) (exS:=⟨[],[(0, .row 133)]⟩) Tryz.f100 (memC Zy (memC lN zF)) (by kernel_rfl) (by kernel_rfl) fun x=>by kernel_rfl
theorem zD:zk Tryz.prog (zA zf):=
 okC (A:=⟨[],[],[],1,[],[],[]⟩) (exS:=⟨[.int .i64],[]⟩) Tryz.f137 zF (by kernel_rfl) (by kernel_rfl) fun x=>by kernel_rfl
theorem Ow:zk Tryz.prog (Mr qF):=
 okC (A:=⟨[],[],[],0,[],[],[]⟩) (exS:=⟨[.bool],[]⟩) Tryz.f138 zF (by kernel_rfl) (by kernel_rfl) fun x=>by kernel_rfl
theorem Q0:zk Tryz.prog (Qh Zb):=
 okC (A:=⟨[zA zf,Mr qF],[],[],1,[(0,⟨[],⟨[],[(0, .row 133)]⟩,[0,1],[],[0],0,[],⟨[],[(0, .row 133)]⟩,[0]⟩)],[],[]⟩) (exS:=⟨[],[(0, .row 133)]⟩) Tryz.f139 (memC zD (memC Ow zF)) (by kernel_rfl) (by kernel_rfl) fun x=>by kernel_rfl
theorem zcN:zk Tryz.prog (Q8 qm):=
 okC (A:=⟨[],[(2,[1]),(4,[9]),(7,[14]),(9,[19])],[],0,[],[(7,⟨[25],⟨[.bool],[]⟩,[0,1,5],[],[],0,[],⟨[],[]⟩,[]⟩)],[]⟩) (exS:=⟨[.own 0],[(0, .sl 5)]⟩) Tryz.f237 zF (by kernel_rfl) (by kernel_rfl) fun x=>by kernel_rfl
theorem l9:zk Tryz.prog (WS qd):=
 okC (A:=⟨[Q8 qm],[(2,[3])],[],0,[],[],[]⟩) (exS:=⟨[.own 0],[(0, .sl 5)]⟩) Tryz.f210 (memC zcN zF) (by kernel_rfl) (by kernel_rfl) fun x=>by kernel_rfl
theorem TB:zk Tryz.prog (Sw Z5):=
 okC (A:=⟨[],[],[],0,[],[],[]⟩) (exS:=⟨[.bool],[]⟩) Tryz.f212 zF (by kernel_rfl) (by kernel_rfl) fun x=>by kernel_rfl
theorem Pw:zk Tryz.prog (Nr Zz):=
 okC (A:=⟨[Sw Z5],[],[],0,[],[],[]⟩) (exS:=⟨[.bool],[]⟩) Tryz.f174 (memC TB zF) (by kernel_rfl) (by kernel_rfl) fun x=>by kernel_rfl
theorem jP:zk Tryz.prog (oG Kl):=
 okC (A:=⟨[Nr Zz,Sw Z5],[],[],0,[],[],[]⟩) (exS:=⟨[.int .i64],[]⟩) Tryz.f211 (memC Pw (memC TB zF)) (by kernel_rfl) (by kernel_rfl) fun x=>by kernel_rfl
theorem zdA:zk Tryz.prog (wS ZW):=
 okC (A:=⟨[zA zf,WS qd,oG Kl,Mr qF],[(7,[3])],[],1,[(10,⟨[6,36],⟨[.int .i64, .int .i64],[(0, .row 133)]⟩,[0,1,4],[],[0],0,[6],⟨[.int .i64],[(0, .row 133)]⟩,[0]⟩)],[(17,⟨[6],⟨[.int .i64],[(0, .row 133)]⟩,[1],[],[0],0,[],⟨[],[]⟩,[]⟩),(19,⟨[6],⟨[.int .i64],[]⟩,[],[0],[],0,[],⟨[],[]⟩,[]⟩)],[]⟩) (exS:=⟨[.own 1],[(0, .row 133),(1, .sl 5)]⟩) Tryz.f172 (memC zD (memC l9 (memC jP (memC Ow zF)))) (by kernel_rfl) (by kernel_rfl) fun x=>by kernel_rfl
theorem zcO:zk Tryz.prog (Q9 qo):=
 okC (A:=⟨[],[(2,[1]),(4,[9]),(7,[14]),(9,[19])],[],1,[],[(7,⟨[25],⟨[.bool],[(0, .sl 5)]⟩,[0,1,5],[],[0],0,[],⟨[],[]⟩,[]⟩)],[]⟩) (exS:=⟨[.own 1],[(1, .sl 5)]⟩) Tryz.f237 zF (by kernel_rfl) (by kernel_rfl) fun x=>by kernel_rfl
theorem d9:zk Tryz.prog (VS qf):=
 okC (A:=⟨[Q9 qo],[(2,[3])],[],1,[],[],[]⟩) (exS:=⟨[.own 1],[(1, .sl 5)]⟩) Tryz.f210 (memC zcO zF) (by kernel_rfl) (by kernel_rfl) fun x=>by kernel_rfl
theorem Qd:zk Tryz.prog (qh zX):=
 okC (A:=⟨[zA zf,VS qf,oG Kl,Mr qF],[(7,[3])],[],2,[(10,⟨[6,36],⟨[.int .i64, .int .i64],[(0, .row 133)]⟩,[0,1,4],[1],[0],0,[6],⟨[.int .i64],[(0, .row 133)]⟩,[0]⟩)],[(17,⟨[6],⟨[.int .i64],[(0, .row 133),(1, .sl 5)]⟩,[1],[],[0,1],0,[],⟨[],[]⟩,[]⟩),(19,⟨[6],⟨[.int .i64],[(1, .sl 5)]⟩,[],[0],[1],0,[],⟨[],[]⟩,[]⟩)],[]⟩) (exS:=⟨[.own 2],[(0, .row 133),(2, .sl 5)]⟩) Tryz.f172 (memC zD (memC d9 (memC jP (memC Ow zF)))) (by kernel_rfl) (by kernel_rfl) fun x=>by kernel_rfl
theorem zeM:zk Tryz.prog (uS qI):=
 okC (A:=⟨[zA zf,qh zX],[(5,[3])],[],1,[(4,⟨[4],⟨[.own 2042],[(0, .row 133),(1, .row 44),(2042, .sl 5)]⟩,[0,2,3],[],[0,1],0,[4],⟨[.own 2042],[(0, .row 133),(1, .row 44),(2042, .sl 5)]⟩,[0,1,2042]⟩)],[],[]⟩) (exS:=⟨[.optr 1],[(0, .row 133),(1, .row 44)]⟩) Tryz.f140 (memC zD (memC Qd zF)) (by kernel_rfl) (by kernel_rfl) fun x=>by kernel_rfl
theorem MR:zk Tryz.prog (JH Eo):=
 okC (A:=⟨[Sw Z5],[],[],0,[],[],[]⟩) (exS:=⟨[.bool],[]⟩) Tryz.f173 (memC TB zF) (by kernel_rfl) (by kernel_rfl) fun x=>by kernel_rfl
theorem rR:zk Tryz.prog (nH Ar):=
 okC (A:=⟨[JH Eo,Nr Zz],[],[],0,[],[],[]⟩) (exS:=⟨[.bool],[]⟩) Tryz.f141 (memC MR (memC Pw zF)) (by kernel_rfl) (by kernel_rfl) fun x=>by kernel_rfl
theorem ZT:zk Tryz.prog (ZF zy):=
 okC (A:=⟨[zA zf],[],[],1,[],[],[]⟩) (exS:=⟨[.bool],[]⟩) Tryz.f142 (memC zD zF) (by kernel_rfl) (by kernel_rfl) fun x=>by kernel_rfl
theorem SS:zk Tryz.prog (yH zN):=
 okC (A:=⟨[zA zf,JH Eo,ZF zy],[],[],1,[],[],[]⟩) (exS:=⟨[.bool],[]⟩) Tryz.f143 (memC zD (memC MR (memC ZT zF))) (by kernel_rfl) (by kernel_rfl) fun x=>by kernel_rfl
theorem xH:zk Tryz.prog (Qr zU):=
 okC (A:=⟨[zA zf,nH Ar,ZF zy,qh zX],[(5,[3])],[],1,[(2,⟨[3],⟨[.own 2043],[(0, .row 133),(2043, .sl 5)]⟩,[0],[],[0],0,[],⟨[],[]⟩,[]⟩)],[],[]⟩) (exS:=⟨[.str],[(0, .row 133)]⟩) Tryz.f144 (memC zD (memC rR (memC ZT (memC Qd zF)))) (by kernel_rfl) (by kernel_rfl) fun x=>by kernel_rfl
theorem zeL:zk Tryz.prog (vS ZA):=
 okC (A:=⟨[zA zf,Nr Zz],[],[],1,[],[(5,⟨[3],⟨[.int .i64],[]⟩,[0],[],[],0,[],⟨[],[]⟩,[]⟩),(7,⟨[3],⟨[.int .i64],[]⟩,[],[],[],0,[],⟨[],[]⟩,[]⟩)],[]⟩) (exS:=⟨[.bool],[]⟩) Tryz.f145 (memC zD (memC Pw zF)) (by kernel_rfl) (by kernel_rfl) fun x=>by kernel_rfl
theorem zeg:zk Tryz.prog (kS zZ):=
 okC (A:=⟨[zA zf,Nr Zz],[],[],1,[(0,⟨[],⟨[],[(0, .row 133)]⟩,[0,1],[],[0],0,[],⟨[],[(0, .row 133)]⟩,[0]⟩)],[],[]⟩) (exS:=⟨[],[(0, .row 133)]⟩) Tryz.f139 (memC zD (memC Pw zF)) (by kernel_rfl) (by kernel_rfl) fun x=>by kernel_rfl
theorem zee:zk Tryz.prog (nS qx):=
 okC (A:=⟨[zA zf,kS zZ,Nr Zz],[],[],1,[],[(4,⟨[],⟨[],[(0, .row 133)]⟩,[0],[],[0],0,[],⟨[],[]⟩,[]⟩),(10,⟨[4],⟨[.bool],[(0, .row 133)]⟩,[],[],[0],0,[],⟨[],[]⟩,[]⟩),(15,⟨[4,5],⟨[.bool, .int .i64],[(0, .row 133)]⟩,[],[],[0],0,[],⟨[],[]⟩,[]⟩),(19,⟨[4],⟨[.bool],[(0, .row 133)]⟩,[],[],[0],0,[],⟨[],[]⟩,[]⟩)],[]⟩) (exS:=⟨[.bool],[(0, .row 133)]⟩) Tryz.f175 (memC zD (memC zeg (memC Pw zF))) (by kernel_rfl) (by kernel_rfl) fun x=>by kernel_rfl
theorem p9:zk Tryz.prog (YS qc):=
 okC (A:=⟨[gM Pi,YP di,IJ cutF],[],[],0,[(8,⟨[6,31],⟨[.int .i64, .int .i64],[]⟩,[0,2,3,4,5,29,30],[0],[],0,[6],⟨[.int .i64],[]⟩,[]⟩),(22,⟨[12,81],⟨[.int .i64, .int .i64],[]⟩,[4,79,80],[0],[],2,[12],⟨[.int .i64],[]⟩,[]⟩),(26,⟨[4,12],⟨[.int .i64, .int .i64],[]⟩,[],[],[],4,[12],⟨[.int .i64],[]⟩,[]⟩)],[(14,⟨[0,4,6],⟨[.str, .int .i64, .int .i64],[]⟩,[3,5],[],[],0,[],⟨[],[]⟩,[]⟩),(15,⟨[0,4],⟨[.str, .int .i64],[]⟩,[3],[],[],0,[],⟨[],[]⟩,[]⟩),(20,⟨[0,4],⟨[.str, .int .i64],[]⟩,[],[],[],0,[],⟨[],[]⟩,[]⟩),(31,⟨[12],⟨[.int .i64],[]⟩,[],[],[],0,[],⟨[],[]⟩,[]⟩)],[]⟩) (exS:=⟨[.int .i64],[]⟩) Tryz.f176 (memC CY (memC X3 (memC zAJ zF))) (by kernel_rfl) (by kernel_rfl) fun x=>by kernel_rfl
theorem zef:zk Tryz.prog (lS ZM):=
 okC (A:=⟨[nS qx,YS qc,yH zN,Qr zU,zA zf],[],[],1,[],[(9,⟨[],⟨[],[(0, .row 133),(1, .row 44),(2, .row 44)]⟩,[2,5],[],[0,1,2],0,[],⟨[],[]⟩,[]⟩)],[]⟩) (exS:=⟨[.optr 1],[(0, .row 133),(1, .row 44)]⟩) Tryz.f146 (memC zee (memC p9 (memC SS (memC xH (memC zD zF))))) (by kernel_rfl) (by kernel_rfl) fun x=>by kernel_rfl
theorem w9:zk Tryz.prog (bS qb):=
 okC (A:=⟨[zA zf,ZF zy,wS ZW],[],[],1,[(1,⟨[],⟨[],[(0, .row 133),(1, .row 44)]⟩,[0,2],[],[0,1],0,[],⟨[],[]⟩,[]⟩)],[],[]⟩) (exS:=⟨[.optr 1],[(0, .row 133),(1, .row 44)]⟩) Tryz.f216 (memC zD (memC ZT (memC zdA zF))) (by kernel_rfl) (by kernel_rfl) fun x=>by kernel_rfl
theorem r9:zk Tryz.prog (aS Qy):=
 okC (A:=⟨[Qh Zb,zA zf,Mr qF,bS qb,Sw Z5,ZF zy,qh zX],[(18,[3])],[],1,[(3,⟨[3],⟨[.own 2044],[(0, .row 133),(1, .row 44),(2044, .sl 5)]⟩,[0,2],[],[0,1],0,[],⟨[],[]⟩,[]⟩)],[(10,⟨[3,4],⟨[.own 2044, .int .i64],[(0, .row 133),(1, .row 44),(2044, .sl 5)]⟩,[],[],[0,1,2044],0,[],⟨[],[]⟩,[]⟩)],[]⟩) (exS:=⟨[.optr 1],[(0, .row 133),(1, .row 44)]⟩) Tryz.f177 (memC Q0 (memC zD (memC Ow (memC w9 (memC TB (memC ZT (memC Qd zF))))))) (by kernel_rfl) (by kernel_rfl) fun x=>by kernel_rfl
theorem zeZ:zk Tryz.prog (TS ZK):=
 okC (A:=⟨[Qr zU,zA zf,MH Io,Qh Zb,aS Qy],[],[],1,[],[(11,⟨[],⟨[],[(0, .row 133),(1, .row 44)]⟩,[2,3],[],[0,1],0,[],⟨[],[]⟩,[]⟩)],[]⟩) (exS:=⟨[.optr 1],[(0, .row 133),(1, .row 44)]⟩) Tryz.f147 (memC xH (memC zD (memC UR (memC Q0 (memC r9 zF))))) (by kernel_rfl) (by kernel_rfl) fun x=>by kernel_rfl
theorem zfF:zk Tryz.prog (NS qC):=
 okC (A:=⟨[zA zf,Mr qF,Qh Zb,uS qI,nH Ar,ZF zy,yH zN,Qr zU,vS ZA,lS ZM,Zq strings_HasPrefix,TS ZK,Z7 strings_IndexByte],[],[],1,[],[],[]⟩) (exS:=⟨[.optr 1],[(0, .row 133),(1, .row 44)]⟩) Tryz.f101 (memC zD (memC Ow (memC Q0 (memC zeM (memC rR (memC ZT (memC SS (memC xH (memC zeL (memC zef (memC Zy (memC zeZ (memC qH zF))))))))))))) (by kernel_rfl) (by kernel_rfl) fun x=>by kernel_rfl
theorem zg2:zk Tryz.prog (CS QO):=
 okC (A:=⟨[],[(1,[2])],[],2,[],[],[]⟩) (exS:=⟨[],[(0, .cells 22 [.own 2]),(2, .sl 44)]⟩) Tryz.f70 zF (by kernel_rfl) (by kernel_rfl) fun x=>by kernel_rfl
theorem D8:zk Tryz.prog (aR Aw):=
 okC (A:=⟨[iM Rj,yS Zn,NS qC,CS QO],[],[],1,[(7,⟨[7],⟨[.int .i64],[(0, .cells 22 [.own 2045]),(2045, .sl 44),(1, .row 133)]⟩,[0,1,6],[],[0,1],0,[],⟨[],[(0, .cells 22 [.own 2045]),(2045, .sl 44),(1, .row 133)]⟩,[0,1,2045]⟩)],[],[]⟩) (exS:=⟨[.int .i64],[(0, .cells 22 [.own 1]),(1, .sl 44)]⟩) Tryz.f69 (memC DY (memC zdX (memC zfF (memC zg2 zF)))) (by kernel_rfl) (by kernel_rfl) fun x=>by kernel_rfl
theorem E8:zk Tryz.prog (yQ Bw):=
 okC (A:=⟨[aR Aw],[],[],0,[],[],[]⟩) (exS:=⟨[.sl 44, .int .i64],[]⟩) Tryz.f33 (memC D8 zF) (by kernel_rfl) (by kernel_rfl) fun x=>by kernel_rfl
theorem zfC:zk Tryz.prog (RS qA):=
 okC (A:=⟨[],[],[],0,[(4,⟨[13],⟨[.int .i64],[]⟩,[0,1,12],[],[],0,[],⟨[],[]⟩,[]⟩)],[],[]⟩) (exS:=⟨[.bool],[]⟩) Tryz.f82 zF (by kernel_rfl) (by kernel_rfl) fun x=>by kernel_rfl
theorem u6:zk Tryz.prog (FQ jv):=
 okC (A:=⟨[UH Ul,FH QV,fQ Er,yQ Bw,RS qA],[(24,[5])],[],0,[(7,⟨[5,6,7],⟨[.own 2147, .own 2148, .int .i64],[(2147, .sl 5),(2148, .sl 119)]⟩,[0],[],[],0,[5],⟨[.own 2147],[(2147, .sl 5)]⟩,[2147]⟩),(11,⟨[9,36],⟨[.own 1728, .int .i64],[(1728, .sl 5)]⟩,[5,6,7,8,34,35],[2147,2148],[],2,[9],⟨[.own 1728],[(1728, .sl 5)]⟩,[1728]⟩)],[(17,⟨[5,6,7,9],⟨[.own 2147, .own 2148, .int .i64, .own 2250],[(2147, .sl 5),(2148, .sl 119),(2250, .sl 5)]⟩,[8],[],[2147,2148],0,[],⟨[],[]⟩,[]⟩),(21,⟨[5,6,7],⟨[.own 2147, .own 2148, .int .i64],[(2147, .sl 5),(2148, .sl 119),(2251, .row 119)]⟩,[9,12],[2250],[2147,2148,2251],0,[],⟨[],[]⟩,[]⟩),(24,⟨[5,6,7],⟨[.own 2355, .own 2148, .int .i64],[(2148, .sl 119),(2355, .sl 5)]⟩,[],[2251],[2148],0,[],⟨[],[]⟩,[]⟩)],[]⟩) (exS:=⟨[.str, .int .i64],[]⟩) Tryz.f46 (memC xQ (memC vQ (memC R8 (memC E8 (memC zfC zF))))) (by kernel_rfl) (by kernel_rfl) fun x=>by kernel_rfl
theorem G5:zk Tryz.prog (WP pu):=
 okC (A:=⟨[EH bn,FR Xl,FQ jv],[],[],0,[],[],[]⟩) (exS:=⟨[.str, .int .i64],[]⟩) Tryz.f20 (memC uQ (memC H9 (memC u6 zF))) (by kernel_rfl) (by kernel_rfl) fun x=>by kernel_rfl
theorem nP:zk Tryz.prog (sG Vn):=
 okC (A:=⟨[VH dn,vP yu,WP pu],[],[],0,[],[(13,⟨[8],⟨[.str],[]⟩,[],[],[],0,[],⟨[],[]⟩,[]⟩)],[]⟩) (exS:=⟨[.str, .int .i64],[]⟩) Tryz.f48 (memC kQ (memC I4 (memC G5 zF))) (by kernel_rfl) (by kernel_rfl) fun x=>by kernel_rfl
theorem Rw:zk Tryz.prog (Sr ZJ):=
 okC (A:=⟨[],[],[],0,[],[],[]⟩) (exS:=⟨[.int .u8],[]⟩) Tryz.f150 zF (by kernel_rfl) (by kernel_rfl) fun x=>by kernel_rfl
theorem NR:zk Tryz.prog (KH qY):=
 okC (A:=⟨[Sr ZJ],[],[],0,[(3,⟨[4],⟨[.int .i64],[(0, .sl 5)]⟩,[2,3],[],[0],0,[],⟨[],[(0, .sl 5)]⟩,[0]⟩)],[],[]⟩) (exS:=⟨[.str],[]⟩) Tryz.f105 (memC Rw zF) (by kernel_rfl) (by kernel_rfl) fun x=>by kernel_rfl
theorem M7:zk Tryz.prog (VQ Vv):=
 okC (A:=⟨[KH qY],[],[],0,[(4,⟨[3],⟨[.int .i64],[]⟩,[0],[],[],0,[],⟨[],[]⟩,[]⟩)],[],[]⟩) (exS:=⟨[.bool],[]⟩) Tryz.f94 (memC NR zF) (by kernel_rfl) (by kernel_rfl) fun x=>by kernel_rfl
theorem Y7(ZB:List zg->Option (List ze))(hs:zk Tryz.prog (Qo ZB)):zk Tryz.prog (Qo (rA ZB)):=
 okC (A:=⟨[WB Qm,Qo ZB],[(5,[6]),(9,[3])],[],0,[(3,⟨[3,4],⟨[.own 2356, .int .i64],[(2356, .sl 44)]⟩,[0,2],[],[],0,[3],⟨[.own 2356],[(2356, .sl 44)]⟩,[2356]⟩)],[(4,⟨[3,4],⟨[.own 2458, .int .i64],[(2458, .sl 44)]⟩,[],[],[],0,[],⟨[],[]⟩,[]⟩)],[]⟩) (exS:=⟨[.sl 44],[]⟩) Tryz.f36 (memC YH (memC hs zF)) (by kernel_rfl) (by kernel_rfl) fun x=>by kernel_rfl
theorem XH:zk Tryz.prog (Qo ZB):=
 zk.recE (I:=I) (P:=Tryz.prog) (f:=36) (inS:=⟨[.sl 49],[]⟩) (cst:=[]) (outS:=⟨[.sl 44],[]⟩) (k:=0) (rA) (by kernel_rfl) (fun S h=>Y7 S h)
theorem O8(qP:List zg×Int->Option Bool)(hs:zk Tryz.prog (Tw qP)):zk Tryz.prog (Tw (nA qP)):=
 okC (A:=⟨[WB Qm,Tw qP],[],[],0,[(2,⟨[5],⟨[.int .i64],[]⟩,[0,1],[],[],0,[],⟨[],[]⟩,[]⟩)],[],[]⟩) (exS:=⟨[.bool],[]⟩) Tryz.f66 (memC YH (memC hs zF)) (by kernel_rfl) (by kernel_rfl) fun x=>by kernel_rfl
theorem H8:zk Tryz.prog (Tw qP):=
 zk.recE (I:=I) (P:=Tryz.prog) (f:=66) (inS:=⟨[.sl 49, .int .u8],[]⟩) (cst:=[]) (outS:=⟨[.bool],[]⟩) (k:=0) (nA) (by kernel_rfl) (fun S h=>O8 S h)
theorem O7:zk Tryz.prog (XQ Wv):=
 okC (A:=⟨[Ur Qf,Qo ZB,Tw qP],[],[],0,[],[],[]⟩) (exS:=⟨[.int .i64],[]⟩) Tryz.f27 (memC sQ (memC XH (memC H8 zF))) (by kernel_rfl) (by kernel_rfl) fun x=>by kernel_rfl
theorem P7:zk Tryz.prog (YQ Wl):=
 okC (A:=⟨[],[],[],0,[(2,⟨[3],⟨[.int .i64],[]⟩,[0],[],[],0,[],⟨[],[]⟩,[]⟩)],[],[]⟩) (exS:=⟨[.bool],[]⟩) Tryz.f102 zF (by kernel_rfl) (by kernel_rfl) fun x=>by kernel_rfl
theorem ZO:zk Tryz.prog (ZQ zw):=
 okC (A:=⟨[],[],[],0,[],[],[]⟩) (exS:=⟨[.bool],[]⟩) Tryz.f148 zF (by kernel_rfl) (by kernel_rfl) fun x=>by kernel_rfl
theorem P6:zk Tryz.prog (PQ Nv):=
 okC (A:=⟨[ZQ zw],[],[],0,[],[],[]⟩) (exS:=⟨[.bool],[]⟩) Tryz.f103 (memC ZO zF) (by kernel_rfl) (by kernel_rfl) fun x=>by kernel_rfl
theorem yA:zk Tryz.prog (Iw ZU):=
 okC (A:=⟨[],[],[],0,[],[],[]⟩) (exS:=⟨[.bool],[]⟩) Tryz.f178 zF (by kernel_rfl) (by kernel_rfl) fun x=>by kernel_rfl
theorem qX:zk Tryz.prog (Qe zu):=
 okC (A:=⟨[],[],[],0,[],[],[]⟩) (exS:=⟨[.int .u8],[]⟩) Tryz.f217 zF (by kernel_rfl) (by kernel_rfl) fun x=>by kernel_rfl
theorem bH:zk Tryz.prog (YB Z0):=
 okC (A:=⟨[Qe zu,Iw ZU],[],[],0,[(1,⟨[1],⟨[.int .i64],[]⟩,[0,4],[],[],0,[1],⟨[.int .i64],[]⟩,[]⟩)],[],[]⟩) (exS:=⟨[.int .i64],[]⟩) Tryz.f179 (memC qX (memC yA zF)) (by kernel_rfl) (by kernel_rfl) fun x=>by kernel_rfl
theorem tQ:zk Tryz.prog (BH Nl):=
 okC (A:=⟨[],[(1,[0])],[],0,[],[],[]⟩) (exS:=⟨[.str],[]⟩) Tryz.f244 zF (by kernel_rfl) (by kernel_rfl) fun x=>by kernel_rfl
theorem D5:zk Tryz.prog (TP Jk):=
 okC (A:=⟨[ZQ zw,Sr ZJ],[],[],0,[],[],[]⟩) (exS:=⟨[.int .i64],[]⟩) Tryz.f245 (memC ZO (memC Rw zF)) (by kernel_rfl) (by kernel_rfl) fun x=>by kernel_rfl
theorem V6:zk Tryz.prog (TQ rq):=
 okC (A:=⟨[BH Nl],[(4,[2]),(6,[8]),(8,[13]),(9,[18])],[],0,[],[],[]⟩) (exS:=⟨[.str],[]⟩) Tryz.f246 (memC tQ zF) (by kernel_rfl) (by kernel_rfl) fun x=>by kernel_rfl
theorem aB:zk Tryz.prog (Q5 Zk):=
 okC (A:=⟨[BH Nl,TP Jk,Qe zu,Iw ZU,TQ rq],[],[],0,[(7,⟨[6,7],⟨[.int .i64, .int .i64],[]⟩,[0,1,4,5],[],[],0,[6,7],⟨[.int .i64, .int .i64],[]⟩,[]⟩)],[(12,⟨[7],⟨[.int .i64],[]⟩,[6],[],[],0,[],⟨[],[]⟩,[]⟩)],[]⟩) (exS:=⟨[.str, .int .i64],[]⟩) Tryz.f218 (memC tQ (memC D5 (memC qX (memC yA (memC V6 zF))))) (by kernel_rfl) (by kernel_rfl) fun x=>by kernel_rfl
theorem F9:zk Tryz.prog (DR Ao):=
 okC (A:=⟨[Q5 Zk],[],[],0,[(4,⟨[1],⟨[.int .i64],[(0, .row 44),(1, .row 44)]⟩,[0,4,6,7],[],[0,1],0,[1],⟨[.int .i64],[(0, .row 44),(1, .row 44)]⟩,[0,1]⟩)],[],[]⟩) (exS:=⟨[.optr 0, .int .i64],[(0, .row 44)]⟩) Tryz.f180 (memC aB zF) (by kernel_rfl) (by kernel_rfl) fun x=>by kernel_rfl
theorem uR:zk Tryz.prog (oH Bo):=
 okC (A:=⟨[Sr ZJ],[],[],0,[],[],[]⟩) (exS:=⟨[.bool],[]⟩) Tryz.f198 (memC Rw zF) (by kernel_rfl) (by kernel_rfl) fun x=>by kernel_rfl
theorem NB:zk Tryz.prog (Xw Zr):=
 okC (A:=⟨[oH Bo,ZQ zw],[],[],0,[],[],[]⟩) (exS:=⟨[.bool],[]⟩) Tryz.f163 (memC uR (memC ZO zF)) (by kernel_rfl) (by kernel_rfl) fun x=>by kernel_rfl
theorem Mw:zk Tryz.prog (QS zY):=
 okC (A:=⟨[Qe zu],[],[],0,[],[],[]⟩) (exS:=⟨[.bool],[]⟩) Tryz.f181 (memC qX zF) (by kernel_rfl) (by kernel_rfl) fun x=>by kernel_rfl
theorem jH:zk Tryz.prog (JB qE):=
 okC (A:=⟨[Xw Zr,QS zY,Q5 Zk],[],[],0,[(2,⟨[1,6],⟨[.int .i64, .str],[]⟩,[0],[],[],0,[],⟨[],[]⟩,[]⟩)],[],[]⟩) (exS:=⟨[.str, .int .i64],[]⟩) Tryz.f182 (memC NB (memC Mw (memC aB zF))) (by kernel_rfl) (by kernel_rfl) fun x=>by kernel_rfl
theorem vR:zk Tryz.prog (rH ZL):=
 okC (A:=⟨[Qe zu,oH Bo,QS zY],[],[],0,[],[],[]⟩) (exS:=⟨[.bool],[]⟩) Tryz.f183 (memC qX (memC uR (memC Mw zF))) (by kernel_rfl) (by kernel_rfl) fun x=>by kernel_rfl
theorem U9:zk Tryz.prog (xR QX):=
 okC (A:=⟨[Qe zu,ZQ zw],[],[],0,[],[(4,⟨[1],⟨[.int .i64],[]⟩,[0],[],[],0,[],⟨[],[]⟩,[]⟩),(6,⟨[1],⟨[.int .i64],[]⟩,[],[],[],0,[],⟨[],[]⟩,[]⟩)],[]⟩) (exS:=⟨[.bool],[]⟩) Tryz.f184 (memC qX (memC ZO zF)) (by kernel_rfl) (by kernel_rfl) fun x=>by kernel_rfl
theorem G9:zk Tryz.prog (ER qN):=
 okC (A:=⟨[Qe zu,ZQ zw],[],[],0,[(1,⟨[1],⟨[.int .i64],[]⟩,[0,4],[],[],0,[1],⟨[.int .i64],[]⟩,[]⟩)],[],[]⟩) (exS:=⟨[.int .i64],[]⟩) Tryz.f247 (memC qX (memC ZO zF)) (by kernel_rfl) (by kernel_rfl) fun x=>by kernel_rfl
theorem Y9:zk Tryz.prog (MS qZ):=
 okC (A:=⟨[Qe zu,ER qN,ZQ zw],[],[],0,[],[(4,⟨[1],⟨[.int .i64],[]⟩,[0],[],[],0,[],⟨[],[]⟩,[]⟩),(9,⟨[1,7],⟨[.int .i64, .bool],[]⟩,[],[],[],0,[],⟨[],[]⟩,[]⟩),(15,⟨[1,7,9],⟨[.int .i64, .bool, .int .i64],[]⟩,[],[],[],0,[],⟨[],[]⟩,[]⟩),(18,⟨[1,7],⟨[.int .i64, .bool],[]⟩,[],[],[],0,[],⟨[],[]⟩,[]⟩)],[]⟩) (exS:=⟨[.int .i64, .bool],[]⟩) Tryz.f219 (memC qX (memC G9 (memC ZO zF))) (by kernel_rfl) (by kernel_rfl) fun x=>by kernel_rfl
theorem zgj:zk Tryz.prog (jS qa):=
 okC (A:=⟨[Qe zu,ZQ zw],[],[],0,[(5,⟨[3,5],⟨[.str, .int .i64],[]⟩,[4],[],[],0,[3,5],⟨[.str, .int .i64],[]⟩,[]⟩),(10,⟨[3,4,5],⟨[.str, .int .i64, .int .i64],[]⟩,[],[],[],2,[3,4,5],⟨[.str, .int .i64, .int .i64],[]⟩,[]⟩),(20,⟨[5,8],⟨[.int .i64, .int .i64],[]⟩,[4],[],[],4,[8],⟨[.int .i64],[]⟩,[]⟩),(28,⟨[9,10],⟨[.int .i64, .int .i64],[]⟩,[4],[],[],6,[9],⟨[.int .i64],[]⟩,[]⟩),(31,⟨[4,9],⟨[.int .i64, .int .i64],[]⟩,[],[],[],8,[9],⟨[.int .i64],[]⟩,[]⟩)],[(5,⟨[3,4,5],⟨[.str, .int .i64, .int .i64],[]⟩,[0,6],[],[],0,[],⟨[],[]⟩,[]⟩),(14,⟨[3,4,5],⟨[.str, .int .i64, .int .i64],[]⟩,[],[],[],0,[],⟨[],[]⟩,[]⟩),(19,⟨[4,5],⟨[.int .i64, .int .i64],[]⟩,[3,7],[],[],0,[],⟨[],[]⟩,[]⟩),(25,⟨[4,8],⟨[.int .i64, .int .i64],[]⟩,[],[],[],0,[],⟨[],[]⟩,[]⟩),(26,⟨[4],⟨[.int .i64],[]⟩,[3],[],[],0,[],⟨[],[]⟩,[]⟩)],[]⟩) (exS:=⟨[.int .i64],[]⟩) Tryz.f220 (memC qX (memC ZO zF)) (by kernel_rfl) (by kernel_rfl) fun x=>by kernel_rfl
theorem R9:zk Tryz.prog (mR QH):=
 okC (A:=⟨[MS qZ,jS qa,rH ZL,JB qE,Qe zu],[],[],0,[],[(9,⟨[6],⟨[.int .i64],[(0, .row 44),(1, .row 44)]⟩,[4,8],[],[0,1],0,[],⟨[],[]⟩,[]⟩)],[]⟩) (exS:=⟨[.optr 0, .int .i64],[(0, .row 44)]⟩) Tryz.f185 (memC Y9 (memC zgj (memC vR (memC jH (memC qX zF))))) (by kernel_rfl) (by kernel_rfl) fun x=>by kernel_rfl
theorem kP:zk Tryz.prog (pG QN):=
 okC (A:=⟨[],[],[],0,[],[],[]⟩) (exS:=⟨[.bool],[]⟩) Tryz.f186 zF (by kernel_rfl) (by kernel_rfl) fun x=>by kernel_rfl
theorem kH:zk Tryz.prog (LB Z9):=
 okC (A:=⟨[KH qY],[],[],0,[],[],[]⟩) (exS:=⟨[.bool],[]⟩) Tryz.f72 (memC NR zF) (by kernel_rfl) (by kernel_rfl) fun x=>by kernel_rfl
theorem Y4:zk Tryz.prog (RP Fj):=
 okC (A:=⟨[QS zY,Q5 Zk],[],[],0,[(1,⟨[1],⟨[.int .i64],[]⟩,[0,4,5],[0],[],0,[1],⟨[.int .i64],[]⟩,[]⟩)],[],[]⟩) (exS:=⟨[.optr 0, .int .i64],[(0, .row 44)]⟩) Tryz.f248 (memC Mw (memC aB zF)) (by kernel_rfl) (by kernel_rfl) fun x=>by kernel_rfl
theorem zgk:zk Tryz.prog (dS qU):=
 okC (A:=⟨[],[],[],0,[],[],[]⟩) (exS:=⟨[.bool],[]⟩) Tryz.f249 zF (by kernel_rfl) (by kernel_rfl) fun x=>by kernel_rfl
theorem X4:zk Tryz.prog (PP Nn):=
 okC (A:=⟨[YB Z0,Iw ZU,RP Fj,dS qU,QS zY,Q5 Zk],[],[],0,[(3,⟨[1],⟨[.int .i64],[(0, .row 44),(1, .row 44)]⟩,[0,4,6],[],[0,1],0,[1],⟨[.int .i64],[(0, .row 44),(1, .row 44)]⟩,[0,1]⟩)],[],[]⟩) (exS:=⟨[.optr 0, .int .i64],[(0, .row 44)]⟩) Tryz.f221 (memC bH (memC yA (memC Y4 (memC zgk (memC Mw (memC aB zF)))))) (by kernel_rfl) (by kernel_rfl) fun x=>by kernel_rfl
theorem R6:zk Tryz.prog (RQ Wn):=
 okC (A:=⟨[JB qE,Qe zu,LB Z9,YB Z0,PP Nn],[],[],0,[],[(8,⟨[],⟨[],[(0, .row 44)]⟩,[4,6,7],[],[0],0,[],⟨[],[]⟩,[]⟩)],[]⟩) (exS:=⟨[.optr 0, .int .i64],[(0, .row 44)]⟩) Tryz.f187 (memC jH (memC qX (memC kH (memC bH (memC X4 zF))))) (by kernel_rfl) (by kernel_rfl) fun x=>by kernel_rfl
theorem U6:zk Tryz.prog (SQ Xn):=
 okC (A:=⟨[],[],[],0,[],[],[]⟩) (exS:=⟨[.int .u8],[]⟩) Tryz.f188 zF (by kernel_rfl) (by kernel_rfl) fun x=>by kernel_rfl
theorem mP:zk Tryz.prog (rG Gj):=
 okC (A:=⟨[Iw ZU,YB Z0,DR Ao,Xw Zr,QS zY,JB qE,rH ZL,xR QX,mR QH,pG QN,RQ Wn,SQ Xn],[],[],0,[],[],[]⟩) (exS:=⟨[.optr 0, .int .i64],[(0, .row 44)]⟩) Tryz.f149 (memC yA (memC bH (memC F9 (memC NB (memC Mw (memC jH (memC vR (memC U9 (memC R9 (memC kP (memC R6 (memC U6 zF)))))))))))) (by kernel_rfl) (by kernel_rfl) fun x=>by kernel_rfl
theorem U7:zk Tryz.prog (bQ Qa):=
 okC (A:=⟨[rG Gj],[(1,[1])],[],0,[],[],[]⟩) (exS:=⟨[.bool],[]⟩) Tryz.f104 (memC mP zF) (by kernel_rfl) (by kernel_rfl) fun x=>by kernel_rfl
theorem O6:zk Tryz.prog (OQ Mv):=
 okC (A:=⟨[YQ Wl,PQ Nv,bQ Qa],[],[],0,[],[(6,⟨[8],⟨[.bool],[(1, .row 44)]⟩,[1,3,7],[0],[1],0,[],⟨[],[]⟩,[]⟩),(13,⟨[56],⟨[.bool],[(1, .row 44)]⟩,[],[],[1],0,[],⟨[],[]⟩,[]⟩),(21,⟨[90],⟨[.bool],[(1, .row 44)]⟩,[],[],[1],0,[],⟨[],[]⟩,[]⟩),(26,⟨[148],⟨[.bool],[]⟩,[],[1],[],0,[],⟨[],[]⟩,[]⟩)],[]⟩) (exS:=⟨[.bool],[]⟩) Tryz.f71 (memC P7 (memC P6 (memC U7 zF))) (by kernel_rfl) (by kernel_rfl) fun x=>by kernel_rfl
theorem V7:zk Tryz.prog (dQ Ho):=
 okC (A:=⟨[OQ Mv,LB Z9],[],[],0,[(4,⟨[3],⟨[.int .i64],[]⟩,[0],[],[],0,[],⟨[],[]⟩,[]⟩)],[(12,⟨[4],⟨[.int .i64],[]⟩,[3],[],[],0,[],⟨[],[]⟩,[]⟩),(14,⟨[],⟨[],[]⟩,[3],[],[],0,[],⟨[],[]⟩,[]⟩)],[]⟩) (exS:=⟨[.int .i64],[]⟩) Tryz.f35 (memC O6 (memC kH zF)) (by kernel_rfl) (by kernel_rfl) fun x=>by kernel_rfl
theorem L9(qj:List zg->Option Bool)(hs:zk Tryz.prog (Q6 qj)):zk Tryz.prog (Q6 (SB qj)):=
 okC (A:=⟨[Q6 qj],[],[],0,[(2,⟨[3],⟨[.int .i64],[]⟩,[0],[],[],0,[],⟨[],[]⟩,[]⟩)],[],[]⟩) (exS:=⟨[.bool],[]⟩) Tryz.f131 (memC hs zF) (by kernel_rfl) (by kernel_rfl) fun x=>by kernel_rfl
theorem N9:zk Tryz.prog (Q6 qj):=
 zk.recE (I:=I) (P:=Tryz.prog) (f:=131) (inS:=⟨[.sl 49],[]⟩) (cst:=[]) (outS:=⟨[.bool],[]⟩) (k:=0) (SB) (by kernel_rfl) (fun S h=>L9 S h)
theorem O9:zk Tryz.prog (jR Kw):=
 okC (A:=⟨[],[],[],0,[(1,⟨[0],⟨[.sl 49],[]⟩,[2],[],[],0,[0],⟨[.sl 49],[]⟩,[]⟩),(3,⟨[0],⟨[.sl 49],[]⟩,[2],[],[],2,[0],⟨[.sl 49],[]⟩,[]⟩)],[],[]⟩) (exS:=⟨[.sl 49],[]⟩) Tryz.f110 zF (by kernel_rfl) (by kernel_rfl) fun x=>by kernel_rfl
theorem G8:zk Tryz.prog (BR Dw):=
 okC (A:=⟨[],[],[],0,[],[],[]⟩) (exS:=⟨[.bool],[]⟩) Tryz.f132 zF (by kernel_rfl) (by kernel_rfl) fun x=>by kernel_rfl
theorem F8:zk Tryz.prog (AR Cw):=
 okC (A:=⟨[XQ Wv,Qo ZB,dQ Ho,Q6 qj,jR Kw,BR Dw],[],[],0,[(6,⟨[5],⟨[.int .i64],[]⟩,[1],[],[],0,[],⟨[],[]⟩,[]⟩)],[],[]⟩) (exS:=⟨[.bool],[]⟩) Tryz.f95 (memC O7 (memC XH (memC V7 (memC N9 (memC O9 (memC G8 zF)))))) (by kernel_rfl) (by kernel_rfl) fun x=>by kernel_rfl
theorem gH:zk Tryz.prog (FB QI):=
 okC (A:=⟨[VQ Vv,AR Cw],[],[],0,[],[],[]⟩) (exS:=⟨[.int .i64],[]⟩) Tryz.f53 (memC M7 (memC F8 zF)) (by kernel_rfl) (by kernel_rfl) fun x=>by kernel_rfl
theorem aH:zk Tryz.prog (XB qO):=
 okC (A:=⟨[Sr ZJ,ZQ zw],[(3,[1])],[],0,[],[(7,⟨[4],⟨[.str],[]⟩,[],[],[],0,[],⟨[],[]⟩,[]⟩)],[]⟩) (exS:=⟨[.str],[]⟩) Tryz.f164 (memC Rw (memC ZO zF)) (by kernel_rfl) (by kernel_rfl) fun x=>by kernel_rfl
theorem iH:zk Tryz.prog (IB ZV):=
 okC (A:=⟨[Xw Zr,ZQ zw,XB qO],[],[],0,[(3,⟨[5,6],⟨[.str, .int .i64],[]⟩,[0,1,4],[],[],0,[5],⟨[.str],[]⟩,[]⟩)],[(4,⟨[5,6],⟨[.str, .int .i64],[]⟩,[],[],[],0,[],⟨[],[]⟩,[]⟩),(10,⟨[5,9],⟨[.str, .bool],[]⟩,[6,7],[],[],0,[],⟨[],[]⟩,[]⟩)],[]⟩) (exS:=⟨[.str],[]⟩) Tryz.f124 (memC NB (memC ZO (memC aH zF))) (by kernel_rfl) (by kernel_rfl) fun x=>by kernel_rfl
theorem I8:zk Tryz.prog (CR Cr):=
 okC (A:=⟨[XB qO],[],[],0,[(3,⟨[5,6],⟨[.str, .int .i64],[]⟩,[0,1,4],[],[],0,[5],⟨[.str],[]⟩,[]⟩)],[(4,⟨[5,6],⟨[.str, .int .i64],[]⟩,[],[],[],0,[],⟨[],[]⟩,[]⟩),(9,⟨[5,8],⟨[.str, .bool],[]⟩,[6,7],[],[],0,[],⟨[],[]⟩,[]⟩)],[]⟩) (exS:=⟨[.str],[]⟩) Tryz.f201 (memC aH zF) (by kernel_rfl) (by kernel_rfl) fun x=>by kernel_rfl
theorem u7(qw:Int->Option Str)(hs:zk Tryz.prog (Ww qw)):zk Tryz.prog (Ww (xA qw)):=
 okC (A:=⟨[Ww qw],[],[],0,[],[],[]⟩) (exS:=⟨[.str],[]⟩) Tryz.f229 (memC hs zF) (by kernel_rfl) (by kernel_rfl) fun x=>by kernel_rfl
theorem K8:zk Tryz.prog (Ww qw):=
 zk.recE (I:=I) (P:=Tryz.prog) (f:=229) (inS:=⟨[.int .i64],[]⟩) (cst:=[]) (outS:=⟨[.str],[]⟩) (k:=0) (xA) (by kernel_rfl) (fun S h=>u7 S h)
theorem l7(Z4:Int×Bool->Option Str)(hs:zk Tryz.prog (Uw Z4)):zk Tryz.prog (Uw (uA Z4)):=
 okC (A:=⟨[Uw Z4,Ww qw],[],[],0,[(10,⟨[7],⟨[.str],[]⟩,[4,5],[],[],0,[7],⟨[.str],[]⟩,[]⟩)],[],[]⟩) (exS:=⟨[.str],[]⟩) Tryz.f202 (memC hs (memC K8 zF)) (by kernel_rfl) (by kernel_rfl) fun x=>by kernel_rfl
theorem J8:zk Tryz.prog (Uw Z4):=
 zk.recE (I:=I) (P:=Tryz.prog) (f:=202) (inS:=⟨[.int .i64, .bool],[]⟩) (cst:=[]) (outS:=⟨[.str],[]⟩) (k:=0) (uA) (by kernel_rfl) (fun S h=>l7 S h)
theorem X5:zk Tryz.prog (MQ Kv):=
 okC (A:=⟨[Sr ZJ,Qe zu,ZQ zw,XB qO,Xw Zr,IB ZV],[],[],0,[(4,⟨[3,4],⟨[.str, .int .i64],[]⟩,[0,2],[],[],0,[3],⟨[.str],[]⟩,[]⟩)],[(5,⟨[3,4],⟨[.str, .int .i64],[]⟩,[],[],[],0,[],⟨[],[]⟩,[]⟩)],[]⟩) (exS:=⟨[.str],[]⟩) Tryz.f203 (memC Rw (memC qX (memC ZO (memC aH (memC NB (memC iH zF)))))) (by kernel_rfl) (by kernel_rfl) fun x=>by kernel_rfl
theorem Y5:zk Tryz.prog (NQ yn):=
 okC (A:=⟨[IB ZV,CR Cr,Uw Z4,MQ Kv],[(22,[0])],[],0,[],[],[]⟩) (exS:=⟨[.str],[]⟩) Tryz.f167 (memC iH (memC I8 (memC J8 (memC X5 zF)))) (by kernel_rfl) (by kernel_rfl) fun x=>by kernel_rfl
theorem R7:zk Tryz.prog (aQ Xv):=
 okC (A:=⟨[LB Z9,NQ yn],[],[],0,[(6,⟨[5,6],⟨[.int .i64, .str],[]⟩,[0,2,3],[],[],0,[5,6],⟨[.int .i64, .str],[]⟩,[]⟩)],[],[]⟩) (exS:=⟨[.int .i64, .str],[]⟩) Tryz.f133 (memC kH (memC Y5 zF)) (by kernel_rfl) (by kernel_rfl) fun x=>by kernel_rfl
theorem Y6:zk Tryz.prog (CQ Yn):=
 okC (A:=⟨[pG QN],[],[],0,[(1,⟨[1],⟨[.int .i64],[]⟩,[0,4],[],[],0,[1],⟨[.int .i64],[]⟩,[]⟩),(3,⟨[1],⟨[.int .i64],[]⟩,[],[],[],2,[1],⟨[.int .i64],[]⟩,[]⟩)],[],[]⟩) (exS:=⟨[.int .i64],[]⟩) Tryz.f152 (memC kP zF) (by kernel_rfl) (by kernel_rfl) fun x=>by kernel_rfl
theorem E5:zk Tryz.prog (VP Ev):=
 okC (A:=⟨[CQ Yn,rG Gj],[(6,[2,8])],[],0,[(4,⟨[4,5,6],⟨[.own 2459, .own 2460, .int .i64],[(2459, .sl 44),(2460, .sl 172)]⟩,[0,2,3],[],[],0,[4,5],⟨[.own 2459, .own 2460],[(2459, .sl 44),(2460, .sl 172)]⟩,[2459,2460]⟩)],[],[]⟩) (exS:=⟨[.sl 44, .sl 172],[]⟩) Tryz.f114 (memC Y6 (memC mP zF)) (by kernel_rfl) (by kernel_rfl) fun x=>by kernel_rfl
theorem X6:zk Tryz.prog (BQ Ov):=
 okC (A:=⟨[],[],[],0,[(4,⟨[5],⟨[.int .i64],[]⟩,[0,1],[],[],0,[],⟨[],[]⟩,[]⟩)],[],[]⟩) (exS:=⟨[.bool],[]⟩) Tryz.f23 zF (by kernel_rfl) (by kernel_rfl) fun x=>by kernel_rfl
theorem P9:zk Tryz.prog (kR Kr):=
 okC (A:=⟨[aQ Xv,VP Ev,BQ Ov],[],[],0,[(3,⟨[3,4],⟨[.str, .int .i64],[]⟩,[0,2],[],[],0,[3],⟨[.str],[]⟩,[]⟩)],[(8,⟨[3,4],⟨[.str, .int .i64],[]⟩,[5,6],[],[],0,[],⟨[],[]⟩,[]⟩)],[]⟩) (exS:=⟨[.str],[]⟩) Tryz.f97 (memC R7 (memC E5 (memC X6 zF))) (by kernel_rfl) (by kernel_rfl) fun x=>by kernel_rfl
theorem wR:zk Tryz.prog (vH QJ):=
 okC (A:=⟨[IB ZV,Qo ZB,kR Kr],[],[],0,[],[(4,⟨[3],⟨[.str],[]⟩,[],[],[],0,[],⟨[],[]⟩,[]⟩)],[]⟩) (exS:=⟨[.str],[]⟩) Tryz.f84 (memC iH (memC XH (memC P9 zF))) (by kernel_rfl) (by kernel_rfl) fun x=>by kernel_rfl
theorem P5:zk Tryz.prog (JQ Fv):=
 okC (A:=⟨[FB QI,vH QJ],[],[],0,[],[],[]⟩) (exS:=⟨[.str, .int .i64],[]⟩) Tryz.f49 (memC gH (memC wR zF)) (by kernel_rfl) (by kernel_rfl) fun x=>by kernel_rfl
theorem K4:zk Tryz.prog (xP Av):=
 okC (A:=⟨[sG Vn,fK Gm],[(12,[2])],[(14,[(4,none)])],0,[(6,⟨[4,5,16],⟨[.own 2461, .bool, .int .i64],[(2461, .sl 9)]⟩,[14,15],[],[],0,[4,5],⟨[.own 2461, .bool],[(2461, .sl 9)]⟩,[2461]⟩)],[],[]⟩) (exS:=⟨[.str, .int .i64],[]⟩) Tryz.f50 (memC nP (memC IV zF)) (by kernel_rfl) (by kernel_rfl) fun x=>by kernel_rfl
theorem U5:zk Tryz.prog (LQ Jv):=
 okC (A:=⟨[vH QJ],[],[],0,[(3,⟨[3,4],⟨[.str, .int .i64],[]⟩,[0,2],[],[],0,[3],⟨[.str],[]⟩,[]⟩)],[(7,⟨[3],⟨[.str],[]⟩,[4],[],[],0,[],⟨[],[]⟩,[]⟩)],[]⟩) (exS:=⟨[.str],[]⟩) Tryz.f86 (memC wR zF) (by kernel_rfl) (by kernel_rfl) fun x=>by kernel_rfl
theorem R5:zk Tryz.prog (KQ Gv):=
 okC (A:=⟨[FB QI,LQ Jv],[],[],0,[(4,⟨[4],⟨[.int .i64],[]⟩,[0],[],[],0,[],⟨[],[]⟩,[]⟩)],[],[]⟩) (exS:=⟨[.str, .int .i64],[]⟩) Tryz.f51 (memC gH (memC U5 zF)) (by kernel_rfl) (by kernel_rfl) fun x=>by kernel_rfl
theorem zg0:zk Tryz.prog (KS cB):=
 okC (A:=⟨[WQ Jr,sG Vn,JQ Fv,xP Av,KQ Gv,VH dn,FB QI],[(1,[1])],[],0,[],[],[]⟩) (exS:=⟨[.bool],[]⟩) Tryz.f10 (memC N7 (memC nP (memC P5 (memC K4 (memC R5 (memC kQ (memC gH zF))))))) (by kernel_rfl) (by kernel_rfl) fun x=>by kernel_rfl
end Go.Lv.VT
end
