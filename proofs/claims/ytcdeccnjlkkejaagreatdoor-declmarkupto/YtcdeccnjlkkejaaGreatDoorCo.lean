/- Contracts. -/
import Derived.Test.YtcdeccnjlkkejaaGreatDoorTx
import Derived.Test.YtcdeccnjlkkejaaGreatDoorIp
import Derived.Test.YtcdeccnjlkkejaaGreatDoorLf
import Derived.Test.YtcdeccnjlkkejaaGreatDoorPa
noncomputable section
set_option linter.unusedSimpArgs false
set_option linter.unusedVariables false
namespace Go.Lv.VT
set_option maxRecDepth 100000
open Go.Proofs
theorem okC{con:Con I}{A:Env0 I}{exS:StSh}(f:Go.Func)(hS: ∀c∈A.S,zk Tryz.prog c)(hf:Tryz.prog.funcs[con.f]? =some f)(h:chk con A f=true)(he: ∀x,evF2 A T FK f.ntmps (rsl f) (body f) con exS x=con.F x):zk Tryz.prog con:=
 okC0 mixed ipOK tok rfl rfl hS hf h he
def Gx(F:List zf×Int->Option Int):Con I:=⟨58,⟨[.sl 49, .int .i64],[]⟩,[],⟨[.int .i64],[]⟩,0,F⟩
def KC(F:Int->Option Int):Con I:=⟨25,⟨[.int .u8],[]⟩,[],⟨[.int .u8],[]⟩,0,F⟩
def Ws(F:List zf->Option Int):Con I:=⟨59,⟨[.sl 49],[]⟩,[],⟨[.int .i64],[]⟩,0,F⟩
def SS(F:List zJ->Option Bool):Con I:=⟨47,⟨[.sl 66],[]⟩,[],⟨[.bool],[]⟩,0,F⟩
def xB(F:Int->Option Int):Con I:=⟨150,⟨[.int .u8],[]⟩,[],⟨[.int .u8],[]⟩,0,F⟩
def SI(F:Str->Option Str):Con I:=⟨105,⟨[.str],[]⟩,[],⟨[.str],[]⟩,0,F⟩
def RS(F:Str->Option Bool):Con I:=⟨94,⟨[.str],[]⟩,[],⟨[.bool],[]⟩,0,F⟩
def Nt(F:List zf->Option (List ze)):Con I:=⟨36,⟨[.sl 49],[]⟩,[],⟨[.sl 44],[]⟩,0,F⟩
def Ux(F:List zf×Int->Option Bool):Con I:=⟨66,⟨[.sl 49, .int .u8],[]⟩,[],⟨[.bool],[]⟩,0,F⟩
def VS(F:List zf->Option Int):Con I:=⟨27,⟨[.sl 49],[]⟩,[],⟨[.int .i64],[]⟩,0,F⟩
def WS(F:Str->Option Bool):Con I:=⟨102,⟨[.str],[]⟩,[],⟨[.bool],[]⟩,0,F⟩
def Qn(F:Int->Option Bool):Con I:=⟨148,⟨[.int .u8],[]⟩,[],⟨[.bool],[]⟩,0,F⟩
def jR(F:Str->Option Bool):Con I:=⟨103,⟨[.str],[]⟩,[],⟨[.bool],[]⟩,0,F⟩
def Xx(F:Int->Option Bool):Con I:=⟨178,⟨[.int .u8],[]⟩,[],⟨[.bool],[]⟩,0,F⟩
def QM(F:Str×Int->Option Int):Con I:=⟨217,⟨[.str, .int .i64],[]⟩,[],⟨[.int .u8],[]⟩,0,F⟩
def LC(F:Str×Int->Option Int):Con I:=⟨179,⟨[.str, .int .i64],[]⟩,[],⟨[.int .i64],[]⟩,0,F⟩
def EI(F:Unit->Option Str):Con I:=⟨244,⟨[],[]⟩,[],⟨[.str],[]⟩,0,F⟩
def nQ(F:Int->Option Int):Con I:=⟨245,⟨[.int .u8],[]⟩,[],⟨[.int .i64],[]⟩,0,F⟩
def FR(F:Int->Option Str):Con I:=⟨246,⟨[.int .i64],[]⟩,[],⟨[.str],[]⟩,0,F⟩
def Ay(F:Str×Int->Option (Str×Int)):Con I:=⟨218,⟨[.str, .int .i64],[]⟩,[],⟨[.str, .int .i64],[]⟩,0,F⟩
def kT(F:Str×Int->Option (ze×Int)):Con I:=⟨180,⟨[.str, .int .i64],[]⟩,[],⟨[.val 44, .int .i64],[]⟩,0,F⟩
def iI(F:Int->Option Bool):Con I:=⟨198,⟨[.int .u8],[]⟩,[],⟨[.bool],[]⟩,0,F⟩
def kI(F:Int->Option Bool):Con I:=⟨163,⟨[.int .u8],[]⟩,[],⟨[.bool],[]⟩,0,F⟩
def Ot(F:Str×Int->Option Bool):Con I:=⟨181,⟨[.str, .int .i64],[]⟩,[],⟨[.bool],[]⟩,0,F⟩
def wB(F:Str×Int->Option (Str×Int)):Con I:=⟨182,⟨[.str, .int .i64],[]⟩,[],⟨[.str, .int .i64],[]⟩,0,F⟩
def jI(F:Str×Int->Option Bool):Con I:=⟨183,⟨[.str, .int .i64],[]⟩,[],⟨[.bool],[]⟩,0,F⟩
def JU(F:Str×Int->Option Bool):Con I:=⟨184,⟨[.str, .int .i64],[]⟩,[],⟨[.bool],[]⟩,0,F⟩
def lT(F:Str×Int->Option Int):Con I:=⟨247,⟨[.str, .int .i64],[]⟩,[],⟨[.int .i64],[]⟩,0,F⟩
def PU(F:Str×Int->Option (Int×Bool)):Con I:=⟨219,⟨[.str, .int .i64],[]⟩,[],⟨[.int .i64, .bool],[]⟩,0,F⟩
def YU(F:Str->Option Int):Con I:=⟨220,⟨[.str],[]⟩,[],⟨[.int .i64],[]⟩,0,F⟩
def vT(F:Str×Int->Option (ze×Int)):Con I:=⟨185,⟨[.str, .int .i64],[]⟩,[],⟨[.val 44, .int .i64],[]⟩,0,F⟩
def CR(F:Str×Int×Str->Option Bool):Con I:=⟨186,⟨[.str, .int .i64, .str],[]⟩,[],⟨[.bool],[]⟩,0,F⟩
def UI(F:Str×Str->Option Bool):Con I:=⟨72,⟨[.str, .str],[]⟩,[],⟨[.bool],[]⟩,0,F⟩
def DR(F:Str×Int->Option (ze×Int)):Con I:=⟨248,⟨[.str, .int .i64],[]⟩,[],⟨[.val 44, .int .i64],[]⟩,0,F⟩
def XU(F:Int->Option Bool):Con I:=⟨249,⟨[.int .u8],[]⟩,[],⟨[.bool],[]⟩,0,F⟩
def BR(F:Str×Int->Option (ze×Int)):Con I:=⟨221,⟨[.str, .int .i64],[]⟩,[],⟨[.val 44, .int .i64],[]⟩,0,F⟩
def kR(F:Str×Int->Option (ze×Int)):Con I:=⟨187,⟨[.str, .int .i64],[]⟩,[],⟨[.val 44, .int .i64],[]⟩,0,F⟩
def mR(F:Int->Option Int):Con I:=⟨188,⟨[.int .u8],[]⟩,[],⟨[.int .u8],[]⟩,0,F⟩
def ER(F:Str×Int->Option (ze×Int)):Con I:=⟨149,⟨[.str, .int .i64],[]⟩,[],⟨[.val 44, .int .i64],[]⟩,0,F⟩
def YS(F:Int->Option Bool):Con I:=⟨104,⟨[.int .u8],[]⟩,[],⟨[.bool],[]⟩,0,F⟩
def iR(F:ze->Option Bool):Con I:=⟨71,⟨[.val 44],[]⟩,[],⟨[.bool],[]⟩,0,F⟩
def aS(F:List ze->Option Int):Con I:=⟨35,⟨[.sl 44],[]⟩,[],⟨[.int .i64],[]⟩,0,F⟩
def yx(F:List zf->Option Bool):Con I:=⟨131,⟨[.sl 49],[]⟩,[],⟨[.bool],[]⟩,0,F⟩
def uT(F:List zf->Option (List zf)):Con I:=⟨110,⟨[.sl 49],[]⟩,[],⟨[.sl 49],[]⟩,0,F⟩
def jT(F:Str->Option Bool):Con I:=⟨132,⟨[.str],[]⟩,[],⟨[.bool],[]⟩,0,F⟩
def iT(F:Str×List zf->Option Bool):Con I:=⟨95,⟨[.str, .sl 49],[]⟩,[],⟨[.bool],[]⟩,0,F⟩
def TS(F:zJ->Option Int):Con I:=⟨53,⟨[.val 66],[]⟩,[],⟨[.int .i64],[]⟩,0,F⟩
def Q4(F:Str×Str->Option Bool):Con I:=⟨130,⟨[.str, .str],[]⟩,[],⟨[.bool],[]⟩,0,F⟩
def Zl(F:Str×Str->Option Bool):Con I:=⟨93,⟨[.str, .str],[]⟩,[],⟨[.bool],[]⟩,0,F⟩
def uU(F:za->Option za):Con I:=⟨100,⟨[.optr 0],[(0, .row 133)]⟩,[],⟨[],[(0, .row 133)]⟩,0,F⟩
def zD(F:Int×za->Option Int):Con I:=⟨137,⟨[.optr 0, .int .i64],[(0, .row 133)]⟩,[0],⟨[.int .i64],[]⟩,0,F⟩
def Rt(F:Int->Option Bool):Con I:=⟨138,⟨[.int .i64],[]⟩,[],⟨[.bool],[]⟩,0,F⟩
def Qo(F:za->Option za):Con I:=⟨139,⟨[.optr 0, .clo 138 []],[(0, .row 133)]⟩,[],⟨[],[(0, .row 133)]⟩,0,F⟩
def yU(F:Int->Option (List UInt8)):Con I:=⟨237,⟨[.nilv, .int .i32],[]⟩,[],⟨[.own 0],[(0, .sl 5)]⟩,1,F⟩
def TU(F:Int->Option (List UInt8)):Con I:=⟨210,⟨[.nilv, .int .i32],[]⟩,[],⟨[.own 0],[(0, .sl 5)]⟩,1,F⟩
def Tx(F:Int×Int×Int->Option Bool):Con I:=⟨212,⟨[.int .i64, .int .i64, .int .i64],[]⟩,[],⟨[.bool],[]⟩,0,F⟩
def Tt(F:Int->Option Bool):Con I:=⟨174,⟨[.int .i64],[]⟩,[],⟨[.bool],[]⟩,0,F⟩
def tH(F:Int->Option Int):Con I:=⟨211,⟨[.int .i64],[]⟩,[],⟨[.int .i64],[]⟩,0,F⟩
def nU(F:za->Option (za×List UInt8)):Con I:=⟨172,⟨[.optr 0, .nilv],[(0, .row 133)]⟩,[],⟨[.own 1],[(0, .row 133),(1, .sl 5)]⟩,1,F⟩
def xU(F:Int×List UInt8->Option (List UInt8)):Con I:=⟨237,⟨[.own 0, .int .i32],[(0, .sl 5)]⟩,[],⟨[.own 1],[(1, .sl 5)]⟩,1,F⟩
def RU(F:Int×List UInt8->Option (List UInt8)):Con I:=⟨210,⟨[.own 0, .int .i32],[(0, .sl 5)]⟩,[],⟨[.own 1],[(1, .sl 5)]⟩,1,F⟩
def qw(F:za×List UInt8->Option (za×List UInt8)):Con I:=⟨172,⟨[.optr 0, .own 1],[(0, .row 133),(1, .sl 5)]⟩,[],⟨[.own 2],[(0, .row 133),(2, .sl 5)]⟩,1,F⟩
def aU(F:za->Option (ze×za)):Con I:=⟨140,⟨[.optr 0],[(0, .row 133)]⟩,[],⟨[.val 44],[(0, .row 133)]⟩,0,F⟩
def PI(F:Int->Option Bool):Con I:=⟨173,⟨[.int .i64],[]⟩,[],⟨[.bool],[]⟩,0,F⟩
def fI(F:Int->Option Bool):Con I:=⟨141,⟨[.int .i64],[]⟩,[],⟨[.bool],[]⟩,0,F⟩
def ZQ(F:Int×za->Option Bool):Con I:=⟨142,⟨[.optr 0, .int .i64],[(0, .row 133)]⟩,[0],⟨[.bool],[]⟩,0,F⟩
def WJ(F:Int×za->Option Bool):Con I:=⟨143,⟨[.optr 0, .int .i64],[(0, .row 133)]⟩,[0],⟨[.bool],[]⟩,0,F⟩
def QJ(F:za->Option (Str×za)):Con I:=⟨144,⟨[.optr 0],[(0, .row 133)]⟩,[],⟨[.str],[(0, .row 133)]⟩,0,F⟩
def bU(F:za->Option Bool):Con I:=⟨145,⟨[.optr 0],[(0, .row 133)]⟩,[0],⟨[.bool],[]⟩,0,F⟩
def oU(F:za->Option za):Con I:=⟨139,⟨[.optr 0, .clo 174 []],[(0, .row 133)]⟩,[],⟨[],[(0, .row 133)]⟩,0,F⟩
def rU(F:za->Option (Bool×za)):Con I:=⟨175,⟨[.optr 0],[(0, .row 133)]⟩,[],⟨[.bool],[(0, .row 133)]⟩,0,F⟩
def UU(F:Str->Option Int):Con I:=⟨176,⟨[.str],[]⟩,[],⟨[.int .i64],[]⟩,0,F⟩
def pU(F:za->Option (ze×za)):Con I:=⟨146,⟨[.optr 0],[(0, .row 133)]⟩,[],⟨[.val 44],[(0, .row 133)]⟩,0,F⟩
def AC(F:Str->Option Str):Con I:=⟨108,⟨[.str],[]⟩,[],⟨[.str],[]⟩,0,F⟩
def BC(F:Str×Str->Option Bool):Con I:=⟨109,⟨[.str, .str],[]⟩,[],⟨[.bool],[]⟩,0,F⟩
def WU(F:za->Option (ze×za)):Con I:=⟨216,⟨[.optr 0],[(0, .row 133)]⟩,[],⟨[.val 44],[(0, .row 133)]⟩,0,F⟩
def VU(F:za->Option (ze×za)):Con I:=⟨177,⟨[.optr 0],[(0, .row 133)]⟩,[],⟨[.val 44],[(0, .row 133)]⟩,0,F⟩
def eU(F:za->Option (ze×za)):Con I:=⟨147,⟨[.optr 0],[(0, .row 133)]⟩,[],⟨[.val 44],[(0, .row 133)]⟩,0,F⟩
def qg(F:Str×Int->Option Int):Con I:=⟨119,⟨[.str, .int .u8],[]⟩,[],⟨[.int .i64],[]⟩,0,F⟩
def fU(F:za->Option (ze×za)):Con I:=⟨101,⟨[.optr 0],[(0, .row 133)]⟩,[],⟨[.val 44],[(0, .row 133)]⟩,0,F⟩
def NU(F:(ze×Int×Int)×List ze->Option (List ze)):Con I:=⟨70,⟨[.val 44, .int .i64, .int .i64, .optr 0],[(0, .cells 22 [.own 1]),(1, .sl 44)]⟩,[],⟨[],[(0, .cells 22 [.own 2]),(2, .sl 44)]⟩,1,F⟩
def gT(F:Str->Option (Int×List ze)):Con I:=⟨69,⟨[.str, .clo 70 [0]],[(0, .cells 22 [.nilv])]⟩,[],⟨[.int .i64],[(0, .cells 22 [.own 1]),(1, .sl 44)]⟩,1,F⟩
def gI(F:Str->Option (List ze×Int)):Con I:=⟨33,⟨[.str],[]⟩,[],⟨[.sl 44, .int .i64],[]⟩,0,F⟩
def yB(F:Int->Option Int):Con I:=⟨61,⟨[.int .u8],[]⟩,[],⟨[.int .u8],[]⟩,0,F⟩
def lw(F:List zf×Int->Option zx):Con I:=⟨65,⟨[.sl 49, .int .u8],[]⟩,[],⟨[.val 101],[]⟩,0,F⟩
def Mx(F:List zf->Option Int):Con I:=⟨32,⟨[.sl 49],[]⟩,[],⟨[.int .i64],[]⟩,0,F⟩
def jU(F:List zf->Option (List zf)):Con I:=⟨98,⟨[.sl 49],[]⟩,[],⟨[.own 0],[(0, .sl 49)]⟩,1,F⟩
def Vs(F:List zf->Option (List zf)):Con I:=⟨67,⟨[.sl 49],[]⟩,[],⟨[.sl 49],[]⟩,0,F⟩
def GR(F:List zf×Int->Option (List (List zf)×Int)):Con I:=⟨28,⟨[.sl 49, .int .u8],[]⟩,[],⟨[.sl 23, .int .i64],[]⟩,0,F⟩
def Jm(F:zf×Int->Option Bool):Con I:=⟨91,⟨[.val 49, .int .u8],[]⟩,[],⟨[.bool],[]⟩,0,F⟩
def wQ(F:List zf->Option (List zf)):Con I:=⟨107,⟨[.sl 49],[]⟩,[],⟨[.sl 49],[]⟩,0,F⟩
def KR(F:List zf->Option (List zf)):Con I:=⟨106,⟨[.sl 49],[]⟩,[],⟨[.sl 49],[]⟩,0,F⟩
def uH(F:zf->Option Bool):Con I:=⟨92,⟨[.val 49],[]⟩,[],⟨[.bool],[]⟩,0,F⟩
def dS(F:Int×List zf->Option Bool):Con I:=⟨68,⟨[.int .i64, .optr 0],[(0, .row 23)]⟩,[0],⟨[.bool],[]⟩,0,F⟩
def pQ(F:List zf->Option (List zf×Int)):Con I:=⟨29,⟨[.sl 49],[]⟩,[],⟨[.sl 49, .int .i64],[]⟩,0,F⟩
def Yx(F:List zf×List ze->Option (List ze)):Con I:=⟨63,⟨[.own 0, .sl 49],[(0, .sl 44)]⟩,[],⟨[.own 1],[(1, .sl 44)]⟩,1,F⟩
def bS(F:List zf->Option (List ze)):Con I:=⟨63,⟨[.nilv, .sl 49],[]⟩,[],⟨[.own 0],[(0, .sl 44)]⟩,1,F⟩
def sQ(F:List zf->Option (List ze×Int)):Con I:=⟨18,⟨[.sl 49],[]⟩,[],⟨[.sl 44, .int .i64],[]⟩,0,F⟩
def MR(F:Str->Option Bool):Con I:=⟨87,⟨[.str],[]⟩,[],⟨[.bool],[]⟩,0,F⟩
def kU(F:Str×Str->Option Str):Con I:=⟨197,⟨[.str, .str],[]⟩,[],⟨[.str],[]⟩,0,F⟩
def gU(F:Str×Str->Option Str):Con I:=⟨162,⟨[.str, .str],[]⟩,[],⟨[.str],[]⟩,0,F⟩
def Bt(F:Int->Option Bool):Con I:=⟨155,⟨[.int .u8],[]⟩,[],⟨[.bool],[]⟩,0,F⟩
def lI(F:Str->Option Bool):Con I:=⟨122,⟨[.str],[]⟩,[],⟨[.bool],[]⟩,0,F⟩
def VI(F:Int->Option Bool):Con I:=⟨157,⟨[.int .u8],[]⟩,[],⟨[.bool],[]⟩,0,F⟩
def fB(F:Int->Option Bool):Con I:=⟨153,⟨[.int .u8],[]⟩,[],⟨[.bool],[]⟩,0,F⟩
def OU(F:Str×Str->Option Bool):Con I:=⟨154,⟨[.str, .str],[]⟩,[],⟨[.bool],[]⟩,0,F⟩
def uQ(F:ze->Option Bool):Con I:=⟨115,⟨[.val 44],[]⟩,[],⟨[.bool],[]⟩,0,F⟩
def xS(F:(Int×Int)×List ze->Option Bool):Con I:=⟨116,⟨[.int .i64, .int .u8, .optr 0],[(0, .row 22)]⟩,[0],⟨[.bool],[]⟩,0,F⟩
def FI(F:List ze->Option Int):Con I:=⟨80,⟨[.sl 44],[]⟩,[],⟨[.int .i64],[]⟩,0,F⟩
def II(F:List ze->Option Int):Con I:=⟨79,⟨[.sl 44],[]⟩,[],⟨[.int .i64],[]⟩,0,F⟩
def LU(F:zf->Option Bool):Con I:=⟨128,⟨[.val 49],[]⟩,[],⟨[.bool],[]⟩,0,F⟩
def lU(F:List zf->Option Int):Con I:=⟨129,⟨[.sl 49, .clo 128 []],[]⟩,[],⟨[.int .i64],[]⟩,0,F⟩
def vU(F:List zf->Option Bool):Con I:=⟨89,⟨[.sl 49, .clo 128 []],[]⟩,[],⟨[.bool],[]⟩,0,F⟩
def qM(F:List zf->Option Bool):Con I:=⟨88,⟨[.sl 49],[]⟩,[],⟨[.bool],[]⟩,0,F⟩
def yS(F:zf->Option Bool):Con I:=⟨90,⟨[.val 49],[]⟩,[],⟨[.bool],[]⟩,0,F⟩
def AV(F:List zf->Option Int):Con I:=⟨129,⟨[.sl 49, .clo 90 []],[]⟩,[],⟨[.int .i64],[]⟩,0,F⟩
def wU(F:List zf->Option Bool):Con I:=⟨89,⟨[.sl 49, .clo 90 []],[]⟩,[],⟨[.bool],[]⟩,0,F⟩
def JI(F:zJ->Option Int):Con I:=⟨52,⟨[.val 66],[]⟩,[],⟨[.int .i64],[]⟩,0,F⟩
def UQ(F:List zf->Option (zJ×Bool)):Con I:=⟨73,⟨[.sl 49],[]⟩,[],⟨[.val 66, .bool],[]⟩,0,F⟩
def aP(F:List zf->Option (Int×List zJ)):Con I:=⟨39,⟨[.sl 49],[]⟩,[],⟨[.own 0, .int .i64],[(0, .sl 66)]⟩,1,F⟩
def wH(F:Str->Option (Int×List zJ)):Con I:=⟨41,⟨[.str],[]⟩,[],⟨[.own 0, .int .i64],[(0, .sl 66)]⟩,1,F⟩
def GI(F:Str->Option Int):Con I:=⟨118,⟨[.str],[]⟩,[],⟨[.int .i64],[]⟩,0,F⟩
def XC(F:Int×List UInt8->Option (List UInt8)):Con I:=⟨120,⟨[.own 0, .int .u8],[(0, .sl 5)]⟩,[],⟨[.own 1],[(1, .sl 5)]⟩,1,F⟩
def sS(F:Str×Int->Option (List UInt8)):Con I:=⟨117,⟨[.nilv, .str, .int .i64],[]⟩,[],⟨[.own 0],[(0, .sl 5)]⟩,1,F⟩
def vQ(F:Str->Option (Str×Int)):Con I:=⟨83,⟨[.str],[]⟩,[],⟨[.str, .int .i64],[]⟩,0,F⟩
def nS(F:(Str×Int)×List UInt8->Option (List UInt8)):Con I:=⟨117,⟨[.own 0, .str, .int .i64],[(0, .sl 5)]⟩,[],⟨[.own 1],[(1, .sl 5)]⟩,1,F⟩
def IR(F:Unit->Option zai):Con I:=⟨123,⟨[],[]⟩,[],⟨[.val 149],[]⟩,0,F⟩
def wT(F:(Int×Bool)×List UInt8->Option (List UInt8)):Con I:=⟨121,⟨[.own 0, .int .i64, .bool],[(0, .sl 5)]⟩,[],⟨[.own 1],[(1, .sl 5)]⟩,1,F⟩
def lS(F:ze×List UInt8->Option (List UInt8)):Con I:=⟨81,⟨[.own 0, .val 44],[(0, .sl 5)]⟩,[],⟨[.own 1],[(1, .sl 5)]⟩,1,F⟩
def iU(F:List ze×List ze->Option Bool):Con I:=⟨82,⟨[.sl 44, .sl 44],[]⟩,[],⟨[.bool],[]⟩,0,F⟩
def JR(F:List ze->Option (Str×Int)):Con I:=⟨46,⟨[.sl 44],[]⟩,[],⟨[.str, .int .i64],[]⟩,0,F⟩
def rQ(F:List zf->Option (Str×Int)):Con I:=⟨20,⟨[.sl 49],[]⟩,[],⟨[.str, .int .i64],[]⟩,0,F⟩
def vH(F:zJ->Option (Str×Int)):Con I:=⟨48,⟨[.val 66],[]⟩,[],⟨[.str, .int .i64],[]⟩,0,F⟩
def xQ(F:List zJ->Option (Str×Int)):Con I:=⟨50,⟨[.sl 66],[]⟩,[],⟨[.str, .int .i64],[]⟩,0,F⟩
def jS(F:Str×Str×Int->Option Bool):Con I:=⟨55,⟨[.str, .str, .int .i64],[]⟩,[],⟨[.bool],[]⟩,0,F⟩
def kS(F:Unit->Option Bool):Con I:=⟨54,⟨[],[]⟩,[],⟨[.bool],[]⟩,0,F⟩
def Lx(F:List zf×List zf->Option Bool):Con I:=⟨22,⟨[.sl 49, .sl 49],[]⟩,[],⟨[.bool],[]⟩,0,F⟩
def RI(F:zJ×zJ->Option Bool):Con I:=⟨43,⟨[.val 66, .val 66],[]⟩,[],⟨[.bool],[]⟩,0,F⟩
def dR(F:List zJ×List zJ->Option Bool):Con I:=⟨44,⟨[.sl 66, .sl 66],[]⟩,[],⟨[.bool],[]⟩,0,F⟩
def KU(F:zJ->Option Bool):Con I:=⟨13,⟨[.val 66],[]⟩,[],⟨[.bool],[]⟩,0,F⟩
def nT(F:List zf->Option (List ze)):Con I:=⟨63,⟨[.nilv, .sl 49],[]⟩,[],⟨[.sl 44],[]⟩,0,F⟩
def yM(F:Str->Option (Str×Int)):Con I:=⟨99,⟨[.str],[]⟩,[],⟨[.str, .int .i64],[]⟩,0,F⟩
theorem AY:zk Tryz.prog (yM Kj):=yY
def XP(F:Str×Int->Option Int):Con I:=⟨156,⟨[.str, .int .u8],[]⟩,[],⟨[.int .i64],[]⟩,0,F⟩
theorem M3:zk Tryz.prog (XP wu):=xZ
def UG(F:Str×Str->Option Int):Con I:=⟨136,⟨[.str, .str],[]⟩,[],⟨[.int .i64],[]⟩,0,F⟩
theorem EP:zk Tryz.prog (UG Jj):=xY
def vM(F:Str×Str->Option Str):Con I:=⟨213,⟨[.str, .str],[]⟩,[],⟨[.str],[]⟩,0,F⟩
theorem wX:zk Tryz.prog (vM mh):=vY
def uM(F:Str×Str->Option Str):Con I:=⟨160,⟨[.str, .str],[]⟩,[],⟨[.str],[]⟩,0,F⟩
theorem vX:zk Tryz.prog (uM Kl):=uY
def tQ(F:Str×Str->Option Int):Con I:=⟨214,⟨[.str, .str],[]⟩,[],⟨[.int .i64],[]⟩,0,F⟩
theorem u7:zk Tryz.prog (tQ Ti):=Y6
def dW(F:Str×Str->Option (Str×Str×Bool)):Con I:=⟨215,⟨[.str, .str],[]⟩,[],⟨[.str, .str, .bool],[]⟩,0,F⟩
theorem zDG:zk Tryz.prog (dW cutF):=zDg
def YP(F:Int×Int->Option Str):Con I:=⟨161,⟨[.int .i64, .int .i64],[]⟩,[],⟨[.str],[]⟩,0,F⟩
theorem O3:zk Tryz.prog (YP Ao):=yZ
def VQ(F:(Int×Int)×List UInt8->Option (List UInt8)):Con I:=⟨158,⟨[.own 0, .int .u64, .int .i64],[(0, .sl 5)]⟩,[],⟨[.own 1],[(1, .sl 5)]⟩,1,F⟩
theorem M5:zk Tryz.prog (VQ Io):=X4
def WQ(F:(Int×Int)×List UInt8->Option (List UInt8)):Con I:=⟨159,⟨[.own 0, .int .i64, .int .i64],[(0, .sl 5)]⟩,[],⟨[.own 1],[(1, .sl 5)]⟩,1,F⟩
theorem O5:zk Tryz.prog (WQ Jo):=Y4
def xM(F:List ze->Option (List zf×Int)):Con I:=⟨16,⟨[.sl 44],[]⟩,[],⟨[.sl 49, .int .i64],[]⟩,0,F⟩
theorem yX:zk Tryz.prog (xM parseF):=wY
def dL(F:List Str×Str->Option Str):Con I:=⟨85,⟨[.sl 9, .str],[]⟩,[],⟨[.str],[]⟩,0,F⟩
theorem zA6:zk Tryz.prog (dL Wm):=zAz
theorem C8(qV:List zf×Int->Option Int)(hs:zk Tryz.prog (Gx qV)):zk Tryz.prog (Gx (Dt qV)):=
 okC (A:=⟨[Gx qV],[],[],0,[(3,⟨[5,6],⟨[.int .i64, .int .i64],[]⟩,[0,1,4],[],[],0,[5],⟨[.int .i64],[]⟩,[]⟩)],[],[]⟩) (exS:=⟨[.int .i64],[]⟩) Tryz.f58 (memC hs zF) (by kernel_rfl) (by kernel_rfl) fun x=>by kernel_rfl
theorem G9:zk Tryz.prog (Gx qV):=
 zk.recE (I:=I) (P:=Tryz.prog) (f:=58) (inS:=⟨[.sl 49, .int .i64],[]⟩) (cst:=[]) (outS:=⟨[.int .i64],[]⟩) (k:=0) (Dt) (by kernel_rfl) (fun S h=>C8 S h)
theorem AJ:zk Tryz.prog (KC Qv):=
 okC (A:=⟨[],[],[],0,[],[(6,⟨[6],⟨[.bool],[]⟩,[3],[],[],0,[],⟨[],[]⟩,[]⟩)],[]⟩) (exS:=⟨[.int .u8],[]⟩) Tryz.f25 zF (by kernel_rfl) (by kernel_rfl) fun x=>by kernel_rfl
theorem E8(Qk:List zf->Option Int)(hs:zk Tryz.prog (Ws Qk)):zk Tryz.prog (Ws (bB Qk)):=
 okC (A:=⟨[KC Qv,Ws Qk],[],[],0,[(3,⟨[3,4],⟨[.int .i64, .int .i64],[]⟩,[0,2],[],[],0,[3],⟨[.int .i64],[]⟩,[]⟩)],[(4,⟨[3,4],⟨[.int .i64, .int .i64],[]⟩,[],[],[],0,[],⟨[],[]⟩,[]⟩)],[]⟩) (exS:=⟨[.int .i64],[]⟩) Tryz.f59 (memC AJ (memC hs zF)) (by kernel_rfl) (by kernel_rfl) fun x=>by kernel_rfl
theorem nR:zk Tryz.prog (Ws Qk):=
 zk.recE (I:=I) (P:=Tryz.prog) (f:=59) (inS:=⟨[.sl 49],[]⟩) (cst:=[]) (outS:=⟨[.int .i64],[]⟩) (k:=0) (bB) (by kernel_rfl) (fun S h=>E8 S h)
theorem Y9:zk Tryz.prog (SS ww):=
 okC (A:=⟨[Gx qV,Ws Qk],[],[],0,[(5,⟨[3,4],⟨[.int .i64, .int .i64],[]⟩,[0],[],[],0,[],⟨[],[]⟩,[]⟩)],[],[]⟩) (exS:=⟨[.bool],[]⟩) Tryz.f47 (memC G9 (memC nR zF)) (by kernel_rfl) (by kernel_rfl) fun x=>by kernel_rfl
theorem sI:zk Tryz.prog (xB QG):=
 okC (A:=⟨[],[],[],0,[],[],[]⟩) (exS:=⟨[.int .u8],[]⟩) Tryz.f150 zF (by kernel_rfl) (by kernel_rfl) fun x=>by kernel_rfl
theorem OT:zk Tryz.prog (SI qY):=
 okC (A:=⟨[xB QG],[],[],0,[(3,⟨[4],⟨[.int .i64],[(0, .sl 5)]⟩,[2,3],[],[0],0,[],⟨[],[(0, .sl 5)]⟩,[0]⟩)],[],[]⟩) (exS:=⟨[.str],[]⟩) Tryz.f105 (memC sI zF) (by kernel_rfl) (by kernel_rfl) fun x=>by kernel_rfl
theorem X9:zk Tryz.prog (RS uw):=
 okC (A:=⟨[SI qY],[],[],0,[(4,⟨[3],⟨[.int .i64],[]⟩,[0],[],[],0,[],⟨[],[]⟩,[]⟩)],[],[]⟩) (exS:=⟨[.bool],[]⟩) Tryz.f94 (memC OT zF) (by kernel_rfl) (by kernel_rfl) fun x=>by kernel_rfl
theorem S9(qc:List zf->Option (List ze))(hs:zk Tryz.prog (Nt qc)):zk Tryz.prog (Nt (OC qc)):=
 okC (A:=⟨[KC Qv,Nt qc],[(5,[6]),(9,[3])],[],0,[(3,⟨[3,4],⟨[.own 1001, .int .i64],[(1001, .sl 44)]⟩,[0,2],[],[],0,[3],⟨[.own 1001],[(1001, .sl 44)]⟩,[1001]⟩)],[(4,⟨[3,4],⟨[.own 1103, .int .i64],[(1103, .sl 44)]⟩,[],[],[],0,[],⟨[],[]⟩,[]⟩)],[]⟩) (exS:=⟨[.sl 44],[]⟩) Tryz.f36 (memC AJ (memC hs zF)) (by kernel_rfl) (by kernel_rfl) fun x=>by kernel_rfl
theorem BU:zk Tryz.prog (Nt qc):=
 zk.recE (I:=I) (P:=Tryz.prog) (f:=36) (inS:=⟨[.sl 49],[]⟩) (cst:=[]) (outS:=⟨[.sl 44],[]⟩) (k:=0) (OC) (by kernel_rfl) (fun S h=>S9 S h)
theorem R9(qQ:List zf×Int->Option Bool)(hs:zk Tryz.prog (Ux qQ)):zk Tryz.prog (Ux (NC qQ)):=
 okC (A:=⟨[KC Qv,Ux qQ],[],[],0,[(2,⟨[5],⟨[.int .i64],[]⟩,[0,1],[],[],0,[],⟨[],[]⟩,[]⟩)],[],[]⟩) (exS:=⟨[.bool],[]⟩) Tryz.f66 (memC AJ (memC hs zF)) (by kernel_rfl) (by kernel_rfl) fun x=>by kernel_rfl
theorem zmU:zk Tryz.prog (Ux qQ):=
 zk.recE (I:=I) (P:=Tryz.prog) (f:=66) (inS:=⟨[.sl 49, .int .u8],[]⟩) (cst:=[]) (outS:=⟨[.bool],[]⟩) (k:=0) (NC) (by kernel_rfl) (fun S h=>R9 S h)
theorem l9:zk Tryz.prog (VS yw):=
 okC (A:=⟨[Ws Qk,Nt qc,Ux qQ],[],[],0,[],[],[]⟩) (exS:=⟨[.int .i64],[]⟩) Tryz.f27 (memC nR (memC BU (memC zmU zF))) (by kernel_rfl) (by kernel_rfl) fun x=>by kernel_rfl
theorem p9:zk Tryz.prog (WS Om):=
 okC (A:=⟨[],[],[],0,[(2,⟨[3],⟨[.int .i64],[]⟩,[0],[],[],0,[],⟨[],[]⟩,[]⟩)],[],[]⟩) (exS:=⟨[.bool],[]⟩) Tryz.f102 zF (by kernel_rfl) (by kernel_rfl) fun x=>by kernel_rfl
theorem QF:zk Tryz.prog (Qn zY):=
 okC (A:=⟨[],[],[],0,[],[],[]⟩) (exS:=⟨[.bool],[]⟩) Tryz.f148 zF (by kernel_rfl) (by kernel_rfl) fun x=>by kernel_rfl
theorem J9:zk Tryz.prog (jR jw):=
 okC (A:=⟨[Qn zY],[],[],0,[],[],[]⟩) (exS:=⟨[.bool],[]⟩) Tryz.f103 (memC QF zF) (by kernel_rfl) (by kernel_rfl) fun x=>by kernel_rfl
theorem EC:zk Tryz.prog (Xx qm):=
 okC (A:=⟨[],[],[],0,[],[],[]⟩) (exS:=⟨[.bool],[]⟩) Tryz.f178 zF (by kernel_rfl) (by kernel_rfl) fun x=>by kernel_rfl
theorem QE:zk Tryz.prog (QM zO):=
 okC (A:=⟨[],[],[],0,[],[],[]⟩) (exS:=⟨[.int .u8],[]⟩) Tryz.f217 zF (by kernel_rfl) (by kernel_rfl) fun x=>by kernel_rfl
theorem BJ:zk Tryz.prog (LC qP):=
 okC (A:=⟨[QM zO,Xx qm],[],[],0,[(1,⟨[1],⟨[.int .i64],[]⟩,[0,4],[],[],0,[1],⟨[.int .i64],[]⟩,[]⟩)],[],[]⟩) (exS:=⟨[.int .i64],[]⟩) Tryz.f179 (memC QE (memC EC zF)) (by kernel_rfl) (by kernel_rfl) fun x=>by kernel_rfl
theorem pR:zk Tryz.prog (EI Gs):=
 okC (A:=⟨[],[(1,[0])],[],0,[],[],[]⟩) (exS:=⟨[.str],[]⟩) Tryz.f244 zF (by kernel_rfl) (by kernel_rfl) fun x=>by kernel_rfl
theorem R7:zk Tryz.prog (nQ Gm):=
 okC (A:=⟨[Qn zY,xB QG],[],[],0,[],[],[]⟩) (exS:=⟨[.int .i64],[]⟩) Tryz.f245 (memC QF (memC sI zF)) (by kernel_rfl) (by kernel_rfl) fun x=>by kernel_rfl
theorem R8:zk Tryz.prog (FR LB):=
 okC (A:=⟨[EI Gs],[(4,[2]),(6,[8]),(8,[13]),(9,[18])],[],0,[],[],[]⟩) (exS:=⟨[.str],[]⟩) Tryz.f246 (memC pR zF) (by kernel_rfl) (by kernel_rfl) fun x=>by kernel_rfl
theorem SC:zk Tryz.prog (Ay Z7):=
 okC (A:=⟨[EI Gs,nQ Gm,QM zO,Xx qm,FR LB],[],[],0,[(7,⟨[6,7],⟨[.int .i64, .int .i64],[]⟩,[0,1,4,5],[],[],0,[6,7],⟨[.int .i64, .int .i64],[]⟩,[]⟩)],[(12,⟨[7],⟨[.int .i64],[]⟩,[6],[],[],0,[],⟨[],[]⟩,[]⟩)],[]⟩) (exS:=⟨[.str, .int .i64],[]⟩) Tryz.f218 (memC pR (memC R7 (memC QE (memC EC (memC R8 zF))))) (by kernel_rfl) (by kernel_rfl) fun x=>by kernel_rfl
theorem zmT:zk Tryz.prog (kT Fx):=
 okC (A:=⟨[Ay Z7],[],[],0,[(4,⟨[1],⟨[.int .i64],[(0, .row 44),(1, .row 44)]⟩,[0,4,6,7],[],[0,1],0,[1],⟨[.int .i64],[(0, .row 44),(1, .row 44)]⟩,[0,1]⟩)],[],[]⟩) (exS:=⟨[.optr 0, .int .i64],[(0, .row 44)]⟩) Tryz.f180 (memC SC zF) (by kernel_rfl) (by kernel_rfl) fun x=>by kernel_rfl
theorem CU:zk Tryz.prog (iI Et):=
 okC (A:=⟨[xB QG],[],[],0,[],[],[]⟩) (exS:=⟨[.bool],[]⟩) Tryz.f198 (memC sI zF) (by kernel_rfl) (by kernel_rfl) fun x=>by kernel_rfl
theorem EU:zk Tryz.prog (kI Lp):=
 okC (A:=⟨[iI Et,Qn zY],[],[],0,[],[],[]⟩) (exS:=⟨[.bool],[]⟩) Tryz.f163 (memC CU (memC QF zF)) (by kernel_rfl) (by kernel_rfl) fun x=>by kernel_rfl
theorem Dy:zk Tryz.prog (Ot Zu):=
 okC (A:=⟨[QM zO],[],[],0,[],[],[]⟩) (exS:=⟨[.bool],[]⟩) Tryz.f181 (memC QE zF) (by kernel_rfl) (by kernel_rfl) fun x=>by kernel_rfl
theorem pI:zk Tryz.prog (wB QH):=
 okC (A:=⟨[kI Lp,Ot Zu,Ay Z7],[],[],0,[(2,⟨[1,6],⟨[.int .i64, .str],[]⟩,[0],[],[],0,[],⟨[],[]⟩,[]⟩)],[],[]⟩) (exS:=⟨[.str, .int .i64],[]⟩) Tryz.f182 (memC EU (memC Dy (memC SC zF))) (by kernel_rfl) (by kernel_rfl) fun x=>by kernel_rfl
theorem DU:zk Tryz.prog (jI qD):=
 okC (A:=⟨[QM zO,iI Et,Ot Zu],[],[],0,[],[],[]⟩) (exS:=⟨[.bool],[]⟩) Tryz.f183 (memC QE (memC CU (memC Dy zF))) (by kernel_rfl) (by kernel_rfl) fun x=>by kernel_rfl
theorem zj9:zk Tryz.prog (JU DC):=
 okC (A:=⟨[QM zO,Qn zY],[],[],0,[],[(4,⟨[1],⟨[.int .i64],[]⟩,[0],[],[],0,[],⟨[],[]⟩,[]⟩),(6,⟨[1],⟨[.int .i64],[]⟩,[],[],[],0,[],⟨[],[]⟩,[]⟩)],[]⟩) (exS:=⟨[.bool],[]⟩) Tryz.f184 (memC QE (memC QF zF)) (by kernel_rfl) (by kernel_rfl) fun x=>by kernel_rfl
theorem zmS:zk Tryz.prog (lT Jp):=
 okC (A:=⟨[QM zO,Qn zY],[],[],0,[(1,⟨[1],⟨[.int .i64],[]⟩,[0,4],[],[],0,[1],⟨[.int .i64],[]⟩,[]⟩)],[],[]⟩) (exS:=⟨[.int .i64],[]⟩) Tryz.f247 (memC QE (memC QF zF)) (by kernel_rfl) (by kernel_rfl) fun x=>by kernel_rfl
theorem zjr:zk Tryz.prog (PU Cy):=
 okC (A:=⟨[QM zO,lT Jp,Qn zY],[],[],0,[],[(4,⟨[1],⟨[.int .i64],[]⟩,[0],[],[],0,[],⟨[],[]⟩,[]⟩),(9,⟨[1,7],⟨[.int .i64, .bool],[]⟩,[],[],[],0,[],⟨[],[]⟩,[]⟩),(15,⟨[1,7,9],⟨[.int .i64, .bool, .int .i64],[]⟩,[],[],[],0,[],⟨[],[]⟩,[]⟩),(18,⟨[1,7],⟨[.int .i64, .bool],[]⟩,[],[],[],0,[],⟨[],[]⟩,[]⟩)],[]⟩) (exS:=⟨[.int .i64, .bool],[]⟩) Tryz.f219 (memC QE (memC zmS (memC QF zF))) (by kernel_rfl) (by kernel_rfl) fun x=>by kernel_rfl
theorem zhq:zk Tryz.prog (YU QS):=
 okC (A:=⟨[QM zO,Qn zY],[],[],0,[(5,⟨[3,5],⟨[.str, .int .i64],[]⟩,[4],[],[],0,[3,5],⟨[.str, .int .i64],[]⟩,[]⟩),(10,⟨[3,4,5],⟨[.str, .int .i64, .int .i64],[]⟩,[],[],[],2,[3,4,5],⟨[.str, .int .i64, .int .i64],[]⟩,[]⟩),(20,⟨[5,8],⟨[.int .i64, .int .i64],[]⟩,[4],[],[],4,[8],⟨[.int .i64],[]⟩,[]⟩),(28,⟨[9,10],⟨[.int .i64, .int .i64],[]⟩,[4],[],[],6,[9],⟨[.int .i64],[]⟩,[]⟩),(31,⟨[4,9],⟨[.int .i64, .int .i64],[]⟩,[],[],[],8,[9],⟨[.int .i64],[]⟩,[]⟩)],[(5,⟨[3,4,5],⟨[.str, .int .i64, .int .i64],[]⟩,[0,6],[],[],0,[],⟨[],[]⟩,[]⟩),(14,⟨[3,4,5],⟨[.str, .int .i64, .int .i64],[]⟩,[],[],[],0,[],⟨[],[]⟩,[]⟩),(19,⟨[4,5],⟨[.int .i64, .int .i64],[]⟩,[3,7],[],[],0,[],⟨[],[]⟩,[]⟩),(25,⟨[4,8],⟨[.int .i64, .int .i64],[]⟩,[],[],[],0,[],⟨[],[]⟩,[]⟩),(26,⟨[4],⟨[.int .i64],[]⟩,[3],[],[],0,[],⟨[],[]⟩,[]⟩)],[]⟩) (exS:=⟨[.int .i64],[]⟩) Tryz.f220 (memC QE (memC QF zF)) (by kernel_rfl) (by kernel_rfl) fun x=>by kernel_rfl
theorem zk4:zk Tryz.prog (vT dx):=
 okC (A:=⟨[PU Cy,YU QS,jI qD,wB QH,QM zO],[],[],0,[],[(9,⟨[6],⟨[.int .i64],[(0, .row 44),(1, .row 44)]⟩,[4,8],[],[0,1],0,[],⟨[],[]⟩,[]⟩)],[]⟩) (exS:=⟨[.optr 0, .int .i64],[(0, .row 44)]⟩) Tryz.f185 (memC zjr (memC zhq (memC DU (memC pI (memC QE zF))))) (by kernel_rfl) (by kernel_rfl) fun x=>by kernel_rfl
theorem X5:zk Tryz.prog (CR Yr):=
 okC (A:=⟨[],[],[],0,[],[],[]⟩) (exS:=⟨[.bool],[]⟩) Tryz.f186 zF (by kernel_rfl) (by kernel_rfl) fun x=>by kernel_rfl
theorem PT:zk Tryz.prog (UI qX):=
 okC (A:=⟨[SI qY],[],[],0,[],[],[]⟩) (exS:=⟨[.bool],[]⟩) Tryz.f72 (memC OT zF) (by kernel_rfl) (by kernel_rfl) fun x=>by kernel_rfl
theorem O7:zk Tryz.prog (DR jr):=
 okC (A:=⟨[Ot Zu,Ay Z7],[],[],0,[(1,⟨[1],⟨[.int .i64],[]⟩,[0,4,5],[0],[],0,[1],⟨[.int .i64],[]⟩,[]⟩)],[],[]⟩) (exS:=⟨[.optr 0, .int .i64],[(0, .row 44)]⟩) Tryz.f248 (memC Dy (memC SC zF)) (by kernel_rfl) (by kernel_rfl) fun x=>by kernel_rfl
theorem zhr:zk Tryz.prog (XU aC):=
 okC (A:=⟨[],[],[],0,[],[],[]⟩) (exS:=⟨[.bool],[]⟩) Tryz.f249 zF (by kernel_rfl) (by kernel_rfl) fun x=>by kernel_rfl
theorem V5:zk Tryz.prog (BR Nw):=
 okC (A:=⟨[LC qP,Xx qm,DR jr,XU aC,Ot Zu,Ay Z7],[],[],0,[(3,⟨[1],⟨[.int .i64],[(0, .row 44),(1, .row 44)]⟩,[0,4,6],[],[0,1],0,[1],⟨[.int .i64],[(0, .row 44),(1, .row 44)]⟩,[0,1]⟩)],[],[]⟩) (exS:=⟨[.optr 0, .int .i64],[(0, .row 44)]⟩) Tryz.f221 (memC BJ (memC EC (memC O7 (memC zhr (memC Dy (memC SC zF)))))) (by kernel_rfl) (by kernel_rfl) fun x=>by kernel_rfl
theorem K9:zk Tryz.prog (kR kw):=
 okC (A:=⟨[wB QH,QM zO,UI qX,LC qP,BR Nw],[],[],0,[],[(8,⟨[],⟨[],[(0, .row 44)]⟩,[4,6,7],[],[0],0,[],⟨[],[]⟩,[]⟩)],[]⟩) (exS:=⟨[.optr 0, .int .i64],[(0, .row 44)]⟩) Tryz.f187 (memC pI (memC QE (memC PT (memC BJ (memC V5 zF))))) (by kernel_rfl) (by kernel_rfl) fun x=>by kernel_rfl
theorem P8:zk Tryz.prog (mR Fs):=
 okC (A:=⟨[],[],[],0,[],[],[]⟩) (exS:=⟨[.int .u8],[]⟩) Tryz.f188 zF (by kernel_rfl) (by kernel_rfl) fun x=>by kernel_rfl
theorem P7:zk Tryz.prog (ER Ow):=
 okC (A:=⟨[Xx qm,LC qP,kT Fx,kI Lp,Ot Zu,wB QH,jI qD,JU DC,vT dx,CR Yr,kR kw,mR Fs],[],[],0,[],[],[]⟩) (exS:=⟨[.optr 0, .int .i64],[(0, .row 44)]⟩) Tryz.f149 (memC EC (memC BJ (memC zmT (memC EU (memC Dy (memC pI (memC DU (memC zj9 (memC zk4 (memC X5 (memC K9 (memC P8 zF)))))))))))) (by kernel_rfl) (by kernel_rfl) fun x=>by kernel_rfl
theorem r9:zk Tryz.prog (YS qZ):=
 okC (A:=⟨[ER Ow],[(1,[1])],[],0,[],[],[]⟩) (exS:=⟨[.bool],[]⟩) Tryz.f104 (memC P7 zF) (by kernel_rfl) (by kernel_rfl) fun x=>by kernel_rfl
theorem I9:zk Tryz.prog (iR iw):=
 okC (A:=⟨[WS Om,jR jw,YS qZ],[],[],0,[],[(6,⟨[8],⟨[.bool],[(1, .row 44)]⟩,[1,3,7],[0],[1],0,[],⟨[],[]⟩,[]⟩),(13,⟨[56],⟨[.bool],[(1, .row 44)]⟩,[],[],[1],0,[],⟨[],[]⟩,[]⟩),(21,⟨[90],⟨[.bool],[(1, .row 44)]⟩,[],[],[1],0,[],⟨[],[]⟩,[]⟩),(26,⟨[148],⟨[.bool],[]⟩,[],[1],[],0,[],⟨[],[]⟩,[]⟩)],[]⟩) (exS:=⟨[.bool],[]⟩) Tryz.f71 (memC p9 (memC J9 (memC r9 zF))) (by kernel_rfl) (by kernel_rfl) fun x=>by kernel_rfl
theorem w9:zk Tryz.prog (aS Bp):=
 okC (A:=⟨[iR iw,UI qX],[],[],0,[(4,⟨[3],⟨[.int .i64],[]⟩,[0],[],[],0,[],⟨[],[]⟩,[]⟩)],[(12,⟨[4],⟨[.int .i64],[]⟩,[3],[],[],0,[],⟨[],[]⟩,[]⟩),(14,⟨[],⟨[],[]⟩,[3],[],[],0,[],⟨[],[]⟩,[]⟩)],[]⟩) (exS:=⟨[.int .i64],[]⟩) Tryz.f35 (memC I9 (memC PT zF)) (by kernel_rfl) (by kernel_rfl) fun x=>by kernel_rfl
theorem zk8(qz:List zf->Option Bool)(hs:zk Tryz.prog (yx qz)):zk Tryz.prog (yx (YC qz)):=
 okC (A:=⟨[yx qz],[],[],0,[(2,⟨[3],⟨[.int .i64],[]⟩,[0],[],[],0,[],⟨[],[]⟩,[]⟩)],[],[]⟩) (exS:=⟨[.bool],[]⟩) Tryz.f131 (memC hs zF) (by kernel_rfl) (by kernel_rfl) fun x=>by kernel_rfl
theorem zk6:zk Tryz.prog (yx qz):=
 zk.recE (I:=I) (P:=Tryz.prog) (f:=131) (inS:=⟨[.sl 49],[]⟩) (cst:=[]) (outS:=⟨[.bool],[]⟩) (k:=0) (YC) (by kernel_rfl) (fun S h=>zk8 S h)
theorem zk5:zk Tryz.prog (uT ax):=
 okC (A:=⟨[],[],[],0,[(1,⟨[0],⟨[.sl 49],[]⟩,[2],[],[],0,[0],⟨[.sl 49],[]⟩,[]⟩),(3,⟨[0],⟨[.sl 49],[]⟩,[2],[],[],2,[0],⟨[.sl 49],[]⟩,[]⟩)],[],[]⟩) (exS:=⟨[.sl 49],[]⟩) Tryz.f110 zF (by kernel_rfl) (by kernel_rfl) fun x=>by kernel_rfl
theorem zmV:zk Tryz.prog (jT Ex):=
 okC (A:=⟨[],[],[],0,[],[],[]⟩) (exS:=⟨[.bool],[]⟩) Tryz.f132 zF (by kernel_rfl) (by kernel_rfl) fun x=>by kernel_rfl
theorem zmW:zk Tryz.prog (iT Dx):=
 okC (A:=⟨[VS yw,Nt qc,aS Bp,yx qz,uT ax,jT Ex],[],[],0,[(6,⟨[5],⟨[.int .i64],[]⟩,[1],[],[],0,[],⟨[],[]⟩,[]⟩)],[],[]⟩) (exS:=⟨[.bool],[]⟩) Tryz.f95 (memC l9 (memC BU (memC w9 (memC zk6 (memC zk5 (memC zmV zF)))))) (by kernel_rfl) (by kernel_rfl) fun x=>by kernel_rfl
theorem d9:zk Tryz.prog (TS xw):=
 okC (A:=⟨[RS uw,iT Dx],[],[],0,[],[],[]⟩) (exS:=⟨[.int .i64],[]⟩) Tryz.f53 (memC X9 (memC zmW zF)) (by kernel_rfl) (by kernel_rfl) fun x=>by kernel_rfl
theorem sU:zk Tryz.prog (Q4 stringslite_HasPrefix):=
 okC (A:=⟨[],[],[],0,[],[],[]⟩) (exS:=⟨[.bool],[]⟩) Tryz.f130 zF (by kernel_rfl) (by kernel_rfl) fun x=>by kernel_rfl
theorem Zt:zk Tryz.prog (Zl strings_HasPrefix):=
 okC (A:=⟨[Q4 stringslite_HasPrefix],[],[],0,[],[],[]⟩) (exS:=⟨[.bool],[]⟩) Tryz.f93 (memC sU zF) (by kernel_rfl) (by kernel_rfl) fun x=>by kernel_rfl
theorem zeJ:zk Tryz.prog (uU Ze):=
 okC (A:=⟨[Zl strings_HasPrefix,UG Jj],[],[],1,[(0,⟨[],⟨[],[(0, .row 133)]⟩,[0],[],[0],0,[],⟨[],[(0, .row 133)]⟩,[0]⟩)],[],[]⟩) (exS:=⟨[],[(0, .row 133)]⟩) Tryz.f100 (memC Zt (memC EP zF)) (by kernel_rfl) (by kernel_rfl) fun x=>by kernel_rfl
theorem zG:zk Tryz.prog (zD zg):=
 okC (A:=⟨[],[],[],1,[],[],[]⟩) (exS:=⟨[.int .i64],[]⟩) Tryz.f137 zF (by kernel_rfl) (by kernel_rfl) fun x=>by kernel_rfl
theorem Px:zk Tryz.prog (Rt ZE):=
 okC (A:=⟨[],[],[],0,[],[],[]⟩) (exS:=⟨[.bool],[]⟩) Tryz.f138 zF (by kernel_rfl) (by kernel_rfl) fun x=>by kernel_rfl
theorem NJ:zk Tryz.prog (Qo zX):=
 okC (A:=⟨[zD zg,Rt ZE],[],[],1,[(0,⟨[],⟨[],[(0, .row 133)]⟩,[0,1],[],[0],0,[],⟨[],[(0, .row 133)]⟩,[0]⟩)],[],[]⟩) (exS:=⟨[],[(0, .row 133)]⟩) Tryz.f139 (memC zG (memC Px zF)) (by kernel_rfl) (by kernel_rfl) fun x=>by kernel_rfl
theorem zdm:zk Tryz.prog (yU qA):=
 okC (A:=⟨[],[(2,[1]),(4,[9]),(7,[14]),(9,[19])],[],0,[],[(7,⟨[25],⟨[.bool],[]⟩,[0,1,5],[],[],0,[],⟨[],[]⟩,[]⟩)],[]⟩) (exS:=⟨[.own 0],[(0, .sl 5)]⟩) Tryz.f237 zF (by kernel_rfl) (by kernel_rfl) fun x=>by kernel_rfl
theorem zhv:zk Tryz.prog (TU ZI):=
 okC (A:=⟨[yU qA],[(2,[3])],[],0,[],[],[]⟩) (exS:=⟨[.own 0],[(0, .sl 5)]⟩) Tryz.f210 (memC zdm zF) (by kernel_rfl) (by kernel_rfl) fun x=>by kernel_rfl
theorem VC:zk Tryz.prog (Tx Z0):=
 okC (A:=⟨[],[],[],0,[],[],[]⟩) (exS:=⟨[.bool],[]⟩) Tryz.f212 zF (by kernel_rfl) (by kernel_rfl) fun x=>by kernel_rfl
theorem Rx:zk Tryz.prog (Tt Zm):=
 okC (A:=⟨[Tx Z0],[],[],0,[],[],[]⟩) (exS:=⟨[.bool],[]⟩) Tryz.f174 (memC VC zF) (by kernel_rfl) (by kernel_rfl) fun x=>by kernel_rfl
theorem UR:zk Tryz.prog (tH Pi):=
 okC (A:=⟨[Tt Zm,Tx Z0],[],[],0,[],[],[]⟩) (exS:=⟨[.int .i64],[]⟩) Tryz.f211 (memC Rx (memC VC zF)) (by kernel_rfl) (by kernel_rfl) fun x=>by kernel_rfl
theorem zee:zk Tryz.prog (nU Zn):=
 okC (A:=⟨[zD zg,TU ZI,tH Pi,Rt ZE],[(7,[3])],[],1,[(10,⟨[6,36],⟨[.int .i64, .int .i64],[(0, .row 133)]⟩,[0,1,4],[],[0],0,[6],⟨[.int .i64],[(0, .row 133)]⟩,[0]⟩)],[(17,⟨[6],⟨[.int .i64],[(0, .row 133)]⟩,[1],[],[0],0,[],⟨[],[]⟩,[]⟩),(19,⟨[6],⟨[.int .i64],[]⟩,[],[0],[],0,[],⟨[],[]⟩,[]⟩)],[]⟩) (exS:=⟨[.own 1],[(0, .row 133),(1, .sl 5)]⟩) Tryz.f172 (memC zG (memC zhv (memC UR (memC Px zF)))) (by kernel_rfl) (by kernel_rfl) fun x=>by kernel_rfl
theorem zdn:zk Tryz.prog (xU qB):=
 okC (A:=⟨[],[(2,[1]),(4,[9]),(7,[14]),(9,[19])],[],1,[],[(7,⟨[25],⟨[.bool],[(0, .sl 5)]⟩,[0,1,5],[],[0],0,[],⟨[],[]⟩,[]⟩)],[]⟩) (exS:=⟨[.own 1],[(1, .sl 5)]⟩) Tryz.f237 zF (by kernel_rfl) (by kernel_rfl) fun x=>by kernel_rfl
theorem zhw:zk Tryz.prog (RU ZJ):=
 okC (A:=⟨[xU qB],[(2,[3])],[],1,[],[],[]⟩) (exS:=⟨[.own 1],[(1, .sl 5)]⟩) Tryz.f210 (memC zdn zF) (by kernel_rfl) (by kernel_rfl) fun x=>by kernel_rfl
theorem Qg:zk Tryz.prog (qw zS):=
 okC (A:=⟨[zD zg,RU ZJ,tH Pi,Rt ZE],[(7,[3])],[],2,[(10,⟨[6,36],⟨[.int .i64, .int .i64],[(0, .row 133)]⟩,[0,1,4],[1],[0],0,[6],⟨[.int .i64],[(0, .row 133)]⟩,[0]⟩)],[(17,⟨[6],⟨[.int .i64],[(0, .row 133),(1, .sl 5)]⟩,[1],[],[0,1],0,[],⟨[],[]⟩,[]⟩),(19,⟨[6],⟨[.int .i64],[(1, .sl 5)]⟩,[],[0],[1],0,[],⟨[],[]⟩,[]⟩)],[]⟩) (exS:=⟨[.own 2],[(0, .row 133),(2, .sl 5)]⟩) Tryz.f172 (memC zG (memC zhw (memC UR (memC Px zF)))) (by kernel_rfl) (by kernel_rfl) fun x=>by kernel_rfl
theorem zfI:zk Tryz.prog (aU ZN):=
 okC (A:=⟨[zD zg,qw zS],[(5,[3])],[],1,[(4,⟨[4],⟨[.own 1104],[(0, .row 133),(1, .row 44),(1104, .sl 5)]⟩,[0,2,3],[],[0,1],0,[4],⟨[.own 1104],[(0, .row 133),(1, .row 44),(1104, .sl 5)]⟩,[0,1,1104]⟩)],[],[]⟩) (exS:=⟨[.optr 1],[(0, .row 133),(1, .row 44)]⟩) Tryz.f140 (memC zG (memC Qg zF)) (by kernel_rfl) (by kernel_rfl) fun x=>by kernel_rfl
theorem KT:zk Tryz.prog (PI yo):=
 okC (A:=⟨[Tx Z0],[],[],0,[],[],[]⟩) (exS:=⟨[.bool],[]⟩) Tryz.f173 (memC VC zF) (by kernel_rfl) (by kernel_rfl) fun x=>by kernel_rfl
theorem yT:zk Tryz.prog (fI Q0):=
 okC (A:=⟨[PI yo,Tt Zm],[],[],0,[],[],[]⟩) (exS:=⟨[.bool],[]⟩) Tryz.f141 (memC KT (memC Rx zF)) (by kernel_rfl) (by kernel_rfl) fun x=>by kernel_rfl
theorem Z6:zk Tryz.prog (ZQ zu):=
 okC (A:=⟨[zD zg],[],[],1,[],[],[]⟩) (exS:=⟨[.bool],[]⟩) Tryz.f142 (memC zG zF) (by kernel_rfl) (by kernel_rfl) fun x=>by kernel_rfl
theorem dU:zk Tryz.prog (WJ zB):=
 okC (A:=⟨[zD zg,PI yo,ZQ zu],[],[],1,[],[],[]⟩) (exS:=⟨[.bool],[]⟩) Tryz.f143 (memC zG (memC KT (memC Z6 zF))) (by kernel_rfl) (by kernel_rfl) fun x=>by kernel_rfl
theorem RJ:zk Tryz.prog (QJ zT):=
 okC (A:=⟨[zD zg,fI Q0,ZQ zu,qw zS],[(5,[3])],[],1,[(2,⟨[3],⟨[.own 1105],[(0, .row 133),(1105, .sl 5)]⟩,[0],[],[0],0,[],⟨[],[]⟩,[]⟩)],[],[]⟩) (exS:=⟨[.str],[(0, .row 133)]⟩) Tryz.f144 (memC zG (memC yT (memC Z6 (memC Qg zF)))) (by kernel_rfl) (by kernel_rfl) fun x=>by kernel_rfl
theorem zfH:zk Tryz.prog (bU Zv):=
 okC (A:=⟨[zD zg,Tt Zm],[],[],1,[],[(5,⟨[3],⟨[.int .i64],[]⟩,[0],[],[],0,[],⟨[],[]⟩,[]⟩),(7,⟨[3],⟨[.int .i64],[]⟩,[],[],[],0,[],⟨[],[]⟩,[]⟩)],[]⟩) (exS:=⟨[.bool],[]⟩) Tryz.f145 (memC zG (memC Rx zF)) (by kernel_rfl) (by kernel_rfl) fun x=>by kernel_rfl
theorem ze3:zk Tryz.prog (oU zU):=
 okC (A:=⟨[zD zg,Tt Zm],[],[],1,[(0,⟨[],⟨[],[(0, .row 133)]⟩,[0,1],[],[0],0,[],⟨[],[(0, .row 133)]⟩,[0]⟩)],[],[]⟩) (exS:=⟨[],[(0, .row 133)]⟩) Tryz.f139 (memC zG (memC Rx zF)) (by kernel_rfl) (by kernel_rfl) fun x=>by kernel_rfl
theorem ze1:zk Tryz.prog (rU ZC):=
 okC (A:=⟨[zD zg,oU zU,Tt Zm],[],[],1,[],[(4,⟨[],⟨[],[(0, .row 133)]⟩,[0],[],[0],0,[],⟨[],[]⟩,[]⟩),(10,⟨[4],⟨[.bool],[(0, .row 133)]⟩,[],[],[0],0,[],⟨[],[]⟩,[]⟩),(15,⟨[4,5],⟨[.bool, .int .i64],[(0, .row 133)]⟩,[],[],[0],0,[],⟨[],[]⟩,[]⟩),(19,⟨[4],⟨[.bool],[(0, .row 133)]⟩,[],[],[0],0,[],⟨[],[]⟩,[]⟩)],[]⟩) (exS:=⟨[.bool],[(0, .row 133)]⟩) Tryz.f175 (memC zG (memC ze3 (memC Rx zF))) (by kernel_rfl) (by kernel_rfl) fun x=>by kernel_rfl
theorem zhu:zk Tryz.prog (UU ZH):=
 okC (A:=⟨[vM mh,tQ Ti,dW cutF],[],[],0,[(8,⟨[6,31],⟨[.int .i64, .int .i64],[]⟩,[0,2,3,4,5,29,30],[0],[],0,[6],⟨[.int .i64],[]⟩,[]⟩),(22,⟨[12,81],⟨[.int .i64, .int .i64],[]⟩,[4,79,80],[0],[],2,[12],⟨[.int .i64],[]⟩,[]⟩),(26,⟨[4,12],⟨[.int .i64, .int .i64],[]⟩,[],[],[],4,[12],⟨[.int .i64],[]⟩,[]⟩)],[(14,⟨[0,4,6],⟨[.str, .int .i64, .int .i64],[]⟩,[3,5],[],[],0,[],⟨[],[]⟩,[]⟩),(15,⟨[0,4],⟨[.str, .int .i64],[]⟩,[3],[],[],0,[],⟨[],[]⟩,[]⟩),(20,⟨[0,4],⟨[.str, .int .i64],[]⟩,[],[],[],0,[],⟨[],[]⟩,[]⟩),(31,⟨[12],⟨[.int .i64],[]⟩,[],[],[],0,[],⟨[],[]⟩,[]⟩)],[]⟩) (exS:=⟨[.int .i64],[]⟩) Tryz.f176 (memC wX (memC u7 (memC zDG zF))) (by kernel_rfl) (by kernel_rfl) fun x=>by kernel_rfl
theorem ze2:zk Tryz.prog (pU Zj):=
 okC (A:=⟨[rU ZC,UU ZH,WJ zB,QJ zT,zD zg],[],[],1,[],[(9,⟨[],⟨[],[(0, .row 133),(1, .row 44),(2, .row 44)]⟩,[2,5],[],[0,1,2],0,[],⟨[],[]⟩,[]⟩)],[]⟩) (exS:=⟨[.optr 1],[(0, .row 133),(1, .row 44)]⟩) Tryz.f146 (memC ze1 (memC zhu (memC dU (memC RJ (memC zG zF))))) (by kernel_rfl) (by kernel_rfl) fun x=>by kernel_rfl
theorem vI:zk Tryz.prog (AC qj):=
 okC (A:=⟨[],[],[],0,[(3,⟨[10],⟨[.int .i64],[(0, .sl 5)]⟩,[2,3,8,9],[],[0],0,[],⟨[],[(0, .sl 5)]⟩,[0]⟩)],[(7,⟨[10],⟨[.int .i64],[(0, .sl 5)]⟩,[],[],[0],0,[],⟨[],[]⟩,[]⟩)],[]⟩) (exS:=⟨[.str],[]⟩) Tryz.f108 zF (by kernel_rfl) (by kernel_rfl) fun x=>by kernel_rfl
theorem wI:zk Tryz.prog (BC qF):=
 okC (A:=⟨[AC qj],[],[],0,[],[],[]⟩) (exS:=⟨[.bool],[]⟩) Tryz.f109 (memC vI zF) (by kernel_rfl) (by kernel_rfl) fun x=>by kernel_rfl
theorem zhs:zk Tryz.prog (WU ZG):=
 okC (A:=⟨[zD zg,ZQ zu,nU Zn],[],[],1,[(1,⟨[],⟨[],[(0, .row 133),(1, .row 44)]⟩,[0,2],[],[0,1],0,[],⟨[],[]⟩,[]⟩)],[],[]⟩) (exS:=⟨[.optr 1],[(0, .row 133),(1, .row 44)]⟩) Tryz.f216 (memC zG (memC Z6 (memC zee zF))) (by kernel_rfl) (by kernel_rfl) fun x=>by kernel_rfl
theorem zht:zk Tryz.prog (VU qo):=
 okC (A:=⟨[Qo zX,zD zg,Rt ZE,WU ZG,Tx Z0,ZQ zu,qw zS],[(18,[3])],[],1,[(3,⟨[3],⟨[.own 1106],[(0, .row 133),(1, .row 44),(1106, .sl 5)]⟩,[0,2],[],[0,1],0,[],⟨[],[]⟩,[]⟩)],[(10,⟨[3,4],⟨[.own 1106, .int .i64],[(0, .row 133),(1, .row 44),(1106, .sl 5)]⟩,[],[],[0,1,1106],0,[],⟨[],[]⟩,[]⟩)],[]⟩) (exS:=⟨[.optr 1],[(0, .row 133),(1, .row 44)]⟩) Tryz.f177 (memC NJ (memC zG (memC Px (memC zhs (memC VC (memC Z6 (memC Qg zF))))))) (by kernel_rfl) (by kernel_rfl) fun x=>by kernel_rfl
theorem zf1:zk Tryz.prog (eU Zo):=
 okC (A:=⟨[QJ zT,zD zg,BC qF,Qo zX,VU qo],[],[],1,[],[(11,⟨[],⟨[],[(0, .row 133),(1, .row 44)]⟩,[2,3],[],[0,1],0,[],⟨[],[]⟩,[]⟩)],[]⟩) (exS:=⟨[.optr 1],[(0, .row 133),(1, .row 44)]⟩) Tryz.f147 (memC RJ (memC zG (memC wI (memC NJ (memC zht zF))))) (by kernel_rfl) (by kernel_rfl) fun x=>by kernel_rfl
theorem qK:zk Tryz.prog (qg strings_IndexByte):=
 okC (A:=⟨[XP wu],[],[],0,[],[],[]⟩) (exS:=⟨[.int .i64],[]⟩) Tryz.f119 (memC M3 zF) (by kernel_rfl) (by kernel_rfl) fun x=>by kernel_rfl
theorem zgP:zk Tryz.prog (fU ZP):=
 okC (A:=⟨[zD zg,Rt ZE,Qo zX,aU ZN,fI Q0,ZQ zu,WJ zB,QJ zT,bU Zv,pU Zj,Zl strings_HasPrefix,eU Zo,qg strings_IndexByte],[],[],1,[],[],[]⟩) (exS:=⟨[.optr 1],[(0, .row 133),(1, .row 44)]⟩) Tryz.f101 (memC zG (memC Px (memC NJ (memC zfI (memC yT (memC Z6 (memC dU (memC RJ (memC zfH (memC ze2 (memC Zt (memC zf1 (memC qK zF))))))))))))) (by kernel_rfl) (by kernel_rfl) fun x=>by kernel_rfl
theorem zii:zk Tryz.prog (NU Ql):=
 okC (A:=⟨[],[(1,[2])],[],2,[],[],[]⟩) (exS:=⟨[],[(0, .cells 22 [.own 2]),(2, .sl 44)]⟩) Tryz.f70 zF (by kernel_rfl) (by kernel_rfl) fun x=>by kernel_rfl
theorem zmX:zk Tryz.prog (gT Gp):=
 okC (A:=⟨[yM Kj,uU Ze,fU ZP,NU Ql],[],[],1,[(7,⟨[7],⟨[.int .i64],[(0, .cells 22 [.own 1107]),(1107, .sl 44),(1, .row 133)]⟩,[0,1,6],[],[0,1],0,[],⟨[],[(0, .cells 22 [.own 1107]),(1107, .sl 44),(1, .row 133)]⟩,[0,1,1107]⟩)],[],[]⟩) (exS:=⟨[.int .i64],[(0, .cells 22 [.own 1]),(1, .sl 44)]⟩) Tryz.f69 (memC AY (memC zeJ (memC zgP (memC zii zF)))) (by kernel_rfl) (by kernel_rfl) fun x=>by kernel_rfl
theorem AU:zk Tryz.prog (gI Qz):=
 okC (A:=⟨[gT Gp],[],[],0,[],[],[]⟩) (exS:=⟨[.sl 44, .int .i64],[]⟩) Tryz.f33 (memC zmX zF) (by kernel_rfl) (by kernel_rfl) fun x=>by kernel_rfl
theorem uI:zk Tryz.prog (yB qG):=
 okC (A:=⟨[],[],[],0,[],[(7,⟨[6],⟨[.bool],[]⟩,[0],[],[],0,[],⟨[],[]⟩,[]⟩)],[]⟩) (exS:=⟨[.int .u8],[]⟩) Tryz.f61 zF (by kernel_rfl) (by kernel_rfl) fun x=>by kernel_rfl
theorem R5(qJ:List zf×Int->Option zx)(hs:zk Tryz.prog (lw qJ)):zk Tryz.prog (lw (Ps qJ)):=
 okC (A:=⟨[yB qG,lw qJ],[],[],0,[(3,⟨[12],⟨[.int .i64],[(1, .row 101)]⟩,[1,4,5,10,11],[0],[1],0,[],⟨[],[(1, .row 101)]⟩,[1]⟩)],[(9,⟨[],⟨[],[(1, .row 101)]⟩,[7,8,12],[2],[1],0,[],⟨[],[]⟩,[]⟩),(12,⟨[12],⟨[.int .i64],[(1, .row 101)]⟩,[],[],[1],0,[],⟨[],[]⟩,[]⟩)],[]⟩) (exS:=⟨[.optr 0],[(0, .row 101)]⟩) Tryz.f65 (memC uI (memC hs zF)) (by kernel_rfl) (by kernel_rfl) fun x=>by kernel_rfl
theorem V7:zk Tryz.prog (lw qJ):=
 zk.recE (I:=I) (P:=Tryz.prog) (f:=65) (inS:=⟨[.sl 49, .int .u8],[]⟩) (cst:=[]) (outS:=⟨[.val 101],[]⟩) (k:=0) (Ps) (by kernel_rfl) (fun S h=>R5 S h)
theorem jB:zk Tryz.prog (Mx qU):=
 okC (A:=⟨[lw qJ],[],[],0,[],[],[]⟩) (exS:=⟨[.int .i64],[]⟩) Tryz.f32 (memC V7 zF) (by kernel_rfl) (by kernel_rfl) fun x=>by kernel_rfl
theorem zgK:zk Tryz.prog (jU Qx):=
 okC (A:=⟨[],[],[],0,[],[],[]⟩) (exS:=⟨[.own 0],[(0, .sl 49)]⟩) Tryz.f98 zF (by kernel_rfl) (by kernel_rfl) fun x=>by kernel_rfl
theorem P5(QP:List zf->Option (List zf))(hs:zk Tryz.prog (Vs QP)):zk Tryz.prog (Vs (YB QP)):=
 okC (A:=⟨[jU Qx,Vs QP],[],[],0,[(3,⟨[8],⟨[.int .i64],[(0, .sl 49)]⟩,[0,2,7],[],[0],0,[],⟨[],[(0, .sl 49)]⟩,[0]⟩)],[],[]⟩) (exS:=⟨[.sl 49],[]⟩) Tryz.f67 (memC zgK (memC hs zF)) (by kernel_rfl) (by kernel_rfl) fun x=>by kernel_rfl
theorem VR:zk Tryz.prog (Vs QP):=
 zk.recE (I:=I) (P:=Tryz.prog) (f:=67) (inS:=⟨[.sl 49],[]⟩) (cst:=[]) (outS:=⟨[.sl 49],[]⟩) (k:=0) (YB) (by kernel_rfl) (fun S h=>P5 S h)
theorem U8:zk Tryz.prog (GR Yw):=
 okC (A:=⟨[Mx qU,Vs QP],[(12,[7]),(15,[5])],[],0,[(9,⟨[7,8,24],⟨[.own 1109, .int .i64, .int .i64],[(1109, .sl 23)]⟩,[0,1,4,5,22,23],[],[],0,[7,8],⟨[.own 1109, .int .i64],[(1109, .sl 23)]⟩,[1109]⟩)],[(14,⟨[7,8,24],⟨[.own 1211, .int .i64, .int .i64],[(1211, .sl 23)]⟩,[],[],[],0,[],⟨[],[]⟩,[]⟩)],[]⟩) (exS:=⟨[.sl 23, .int .i64],[]⟩) Tryz.f28 (memC jB (memC VR zF)) (by kernel_rfl) (by kernel_rfl) fun x=>by kernel_rfl
theorem oo:zk Tryz.prog (Jm Zw):=
 okC (A:=⟨[],[],[],0,[],[],[]⟩) (exS:=⟨[.bool],[]⟩) Tryz.f91 zF (by kernel_rfl) (by kernel_rfl) fun x=>by kernel_rfl
theorem H7:zk Tryz.prog (wQ mo):=
 okC (A:=⟨[Jm Zw],[],[],0,[(1,⟨[0],⟨[.sl 49],[]⟩,[2],[],[],0,[0],⟨[.sl 49],[]⟩,[]⟩)],[],[]⟩) (exS:=⟨[.sl 49],[]⟩) Tryz.f107 (memC oo zF) (by kernel_rfl) (by kernel_rfl) fun x=>by kernel_rfl
theorem Y8:zk Tryz.prog (KR Yk):=
 okC (A:=⟨[Jm Zw],[],[],0,[(1,⟨[0],⟨[.sl 49],[]⟩,[2],[],[],0,[0],⟨[.sl 49],[]⟩,[]⟩)],[],[]⟩) (exS:=⟨[.sl 49],[]⟩) Tryz.f106 (memC oo zF) (by kernel_rfl) (by kernel_rfl) fun x=>by kernel_rfl
theorem WR:zk Tryz.prog (uH Sk):=
 okC (A:=⟨[Jm Zw],[],[],0,[],[],[]⟩) (exS:=⟨[.bool],[]⟩) Tryz.f92 (memC oo zF) (by kernel_rfl) (by kernel_rfl) fun x=>by kernel_rfl
theorem znM:zk Tryz.prog (dS Rs):=
 okC (A:=⟨[],[],[],1,[],[],[]⟩) (exS:=⟨[.bool],[]⟩) Tryz.f68 zF (by kernel_rfl) (by kernel_rfl) fun x=>by kernel_rfl
theorem X7:zk Tryz.prog (pQ Pw):=
 okC (A:=⟨[Mx qU,dS Rs,Vs QP],[],[],0,[(6,⟨[6],⟨[.int .i64],[]⟩,[1,2,3,5,7],[0],[],0,[6],⟨[.int .i64],[]⟩,[]⟩),(8,⟨[7],⟨[.int .i64],[]⟩,[1,2,3,5,6],[0],[],2,[7],⟨[.int .i64],[]⟩,[]⟩)],[],[]⟩) (exS:=⟨[.sl 49, .int .i64],[]⟩) Tryz.f29 (memC jB (memC znM (memC VR zF))) (by kernel_rfl) (by kernel_rfl) fun x=>by kernel_rfl
theorem zn1(ZM:List zf×List ze->Option (List ze))(hs:zk Tryz.prog (Yx ZM)):zk Tryz.prog (Yx (Pt ZM)):=
 okC (A:=⟨[yB qG,Yx ZM],[(4,[3]),(7,[6])],[],1,[(2,⟨[0,10],⟨[.own 1212, .int .i64],[(1212, .sl 44)]⟩,[4,8,9],[],[],0,[0],⟨[.own 1212],[(1212, .sl 44)]⟩,[1212]⟩)],[(8,⟨[0,10],⟨[.own 1314, .int .i64],[(1314, .sl 44)]⟩,[],[],[],0,[],⟨[],[]⟩,[]⟩)],[]⟩) (exS:=⟨[.own 1],[(1, .sl 44)]⟩) Tryz.f63 (memC uI (memC hs zF)) (by kernel_rfl) (by kernel_rfl) fun x=>by kernel_rfl
theorem znN:zk Tryz.prog (Yx ZM):=
 zk.recE (I:=I) (P:=Tryz.prog) (f:=63) (inS:=⟨[.own 0, .sl 49],[(0, .sl 44)]⟩) (cst:=[]) (outS:=⟨[.own 1],[(1, .sl 44)]⟩) (k:=1) (Pt) (by kernel_rfl) (fun S h=>zn1 S h)
theorem UT:zk Tryz.prog (bS QC):=
 okC (A:=⟨[yB qG,Yx ZM],[(4,[3]),(7,[6])],[],0,[(2,⟨[0,10],⟨[.own 1316, .int .i64],[(1316, .sl 44)]⟩,[4,8,9],[],[],0,[0],⟨[.own 1316],[(1316, .sl 44)]⟩,[1316]⟩)],[(8,⟨[0,10],⟨[.own 1418, .int .i64],[(1418, .sl 44)]⟩,[],[],[],0,[],⟨[],[]⟩,[]⟩)],[]⟩) (exS:=⟨[.own 0],[(0, .sl 44)]⟩) Tryz.f63 (memC uI (memC znN zF)) (by kernel_rfl) (by kernel_rfl) fun x=>by kernel_rfl
theorem zmR:zk Tryz.prog (nT QC):=sZ ipOK (by kernel_rfl) UT
theorem l7:zk Tryz.prog (sQ Wo):=
 okC (A:=⟨[Mx qU,bS QC],[],[],0,[],[],[]⟩) (exS:=⟨[.sl 44, .int .i64],[]⟩) Tryz.f18 (memC jB (memC UT zF)) (by kernel_rfl) (by kernel_rfl) fun x=>by kernel_rfl
theorem l8:zk Tryz.prog (MR wo):=
 okC (A:=⟨[qg strings_IndexByte,Zl strings_HasPrefix,AC qj],[],[],0,[],[],[]⟩) (exS:=⟨[.bool],[]⟩) Tryz.f87 (memC qK (memC Zt (memC vI zF))) (by kernel_rfl) (by kernel_rfl) fun x=>by kernel_rfl
theorem zeI:zk Tryz.prog (kU stringslite_TrimPrefix):=
 okC (A:=⟨[Q4 stringslite_HasPrefix],[],[],0,[],[],[]⟩) (exS:=⟨[.str],[]⟩) Tryz.f197 (memC sU zF) (by kernel_rfl) (by kernel_rfl) fun x=>by kernel_rfl
theorem zgM:zk Tryz.prog (gU strings_TrimPrefix):=
 okC (A:=⟨[kU stringslite_TrimPrefix],[],[],0,[],[],[]⟩) (exS:=⟨[.str],[]⟩) Tryz.f162 (memC zeI zF) (by kernel_rfl) (by kernel_rfl) fun x=>by kernel_rfl
theorem Vx:zk Tryz.prog (Bt ZX):=
 okC (A:=⟨[],[],[],0,[],[],[]⟩) (exS:=⟨[.bool],[]⟩) Tryz.f155 zF (by kernel_rfl) (by kernel_rfl) fun x=>by kernel_rfl
theorem FU:zk Tryz.prog (lI QY):=
 okC (A:=⟨[gU strings_TrimPrefix,Bt ZX],[],[],0,[],[],[]⟩) (exS:=⟨[.bool],[]⟩) Tryz.f122 (memC zgM (memC Vx zF)) (by kernel_rfl) (by kernel_rfl) fun x=>by kernel_rfl
theorem WT:zk Tryz.prog (VI Us):=
 okC (A:=⟨[],[],[],0,[],[],[]⟩) (exS:=⟨[.bool],[]⟩) Tryz.f157 zF (by kernel_rfl) (by kernel_rfl) fun x=>by kernel_rfl
theorem aI:zk Tryz.prog (fB Qi):=
 okC (A:=⟨[VI Us,Bt ZX],[],[],0,[],[],[]⟩) (exS:=⟨[.bool],[]⟩) Tryz.f153 (memC WT (memC Vx zF)) (by kernel_rfl) (by kernel_rfl) fun x=>by kernel_rfl
theorem zih:zk Tryz.prog (OU strings_Contains):=
 okC (A:=⟨[UG Jj],[],[],0,[],[],[]⟩) (exS:=⟨[.bool],[]⟩) Tryz.f154 (memC EP zF) (by kernel_rfl) (by kernel_rfl) fun x=>by kernel_rfl
theorem F7:zk Tryz.prog (uQ Vr):=
 okC (A:=⟨[qg strings_IndexByte,lI QY,Zl strings_HasPrefix,fB Qi,OU strings_Contains],[],[],0,[],[(8,⟨[3,4,5,6,7,25],⟨[.bool, .bool, .bool, .bool, .bool, .bool],[]⟩,[1,16],[],[],0,[],⟨[],[]⟩,[]⟩),(14,⟨[3,4,5,6,7,63],⟨[.bool, .bool, .bool, .bool, .bool, .bool],[]⟩,[],[],[],0,[],⟨[],[]⟩,[]⟩),(22,⟨[4,5,6,7,94],⟨[.bool, .bool, .bool, .bool, .bool],[]⟩,[3],[],[],0,[],⟨[],[]⟩,[]⟩),(24,⟨[3,4,5,6,7],⟨[.bool, .bool, .bool, .bool, .bool],[]⟩,[1],[0],[],0,[],⟨[],[]⟩,[]⟩)],[]⟩) (exS:=⟨[.bool],[]⟩) Tryz.f115 (memC qK (memC FU (memC Zt (memC aI (memC zih zF))))) (by kernel_rfl) (by kernel_rfl) fun x=>by kernel_rfl
theorem zmQ:zk Tryz.prog (xS ZB):=
 okC (A:=⟨[],[],[],1,[],[],[]⟩) (exS:=⟨[.bool],[]⟩) Tryz.f116 zF (by kernel_rfl) (by kernel_rfl) fun x=>by kernel_rfl
theorem rR:zk Tryz.prog (FI Qj):=
 okC (A:=⟨[xS ZB,BC qF],[],[],0,[],[(11,⟨[5],⟨[.int .i64],[]⟩,[3],[0],[],0,[],⟨[],[]⟩,[]⟩)],[]⟩) (exS:=⟨[.int .i64],[]⟩) Tryz.f80 (memC zmQ (memC wI zF)) (by kernel_rfl) (by kernel_rfl) fun x=>by kernel_rfl
theorem vR:zk Tryz.prog (II Uj):=
 okC (A:=⟨[uQ Vr,FI Qj],[],[],0,[(4,⟨[10],⟨[.int .i64],[]⟩,[0,8,9],[],[],0,[],⟨[],[]⟩,[]⟩)],[],[]⟩) (exS:=⟨[.int .i64],[]⟩) Tryz.f79 (memC F7 (memC rR zF)) (by kernel_rfl) (by kernel_rfl) fun x=>by kernel_rfl
theorem zj7(zm:List zf->Option Bool)(h_decl_closers:zk Tryz.prog (qM zm)):zk Tryz.prog (LU (qN zm)):=
 okC (A:=⟨[Jm Zw,qM zm],[],[],0,[],[],[]⟩) (exS:=⟨[.bool],[]⟩) Tryz.f128 (memC oo (memC h_decl_closers zF)) (by kernel_rfl) (by kernel_rfl) fun x=>by kernel_rfl
theorem zeH(zm:List zf->Option Bool)(h_decl_closers:zk Tryz.prog (qM zm)):zk Tryz.prog (lU (ZR zm)):=
 okC (A:=⟨[LU (qN zm)],[],[],0,[(2,⟨[8],⟨[.int .i64],[]⟩,[0,1,7],[],[],0,[],⟨[],[]⟩,[]⟩)],[],[]⟩) (exS:=⟨[.int .i64],[]⟩) Tryz.f129 (memC (zj7 zm h_decl_closers) zF) (by kernel_rfl) (by kernel_rfl) fun x=>by kernel_rfl
theorem zdl(zm:List zf->Option Bool)(h_decl_closers:zk Tryz.prog (qM zm)):zk Tryz.prog (vU (Zr zm)):=
 okC (A:=⟨[lU (ZR zm)],[],[],0,[],[],[]⟩) (exS:=⟨[.bool],[]⟩) Tryz.f89 (memC (zeH zm h_decl_closers) zF) (by kernel_rfl) (by kernel_rfl) fun x=>by kernel_rfl
theorem zm9(zm:List zf->Option Bool)(hs:zk Tryz.prog (qM zm)):zk Tryz.prog (qM (Mt zm)):=
 okC (A:=⟨[vU (Zr zm)],[],[],0,[],[],[]⟩) (exS:=⟨[.bool],[]⟩) Tryz.f88 (memC (zdl zm hs) zF) (by kernel_rfl) (by kernel_rfl) fun x=>by kernel_rfl
theorem zmP:zk Tryz.prog (qM zm):=
 zk.recE (I:=I) (P:=Tryz.prog) (f:=88) (inS:=⟨[.sl 49],[]⟩) (cst:=[]) (outS:=⟨[.bool],[]⟩) (k:=0) (Mt) (by kernel_rfl) (fun S h=>zm9 S h)
theorem zmO:zk Tryz.prog (yS Ht):=
 okC (A:=⟨[Jm Zw,uH Sk],[],[],0,[],[],[]⟩) (exS:=⟨[.bool],[]⟩) Tryz.f90 (memC oo (memC WR zF)) (by kernel_rfl) (by kernel_rfl) fun x=>by kernel_rfl
theorem zdX:zk Tryz.prog (AV Zz):=
 okC (A:=⟨[yS Ht],[],[],0,[(2,⟨[8],⟨[.int .i64],[]⟩,[0,1,7],[],[],0,[],⟨[],[]⟩,[]⟩)],[],[]⟩) (exS:=⟨[.int .i64],[]⟩) Tryz.f129 (memC zmO zF) (by kernel_rfl) (by kernel_rfl) fun x=>by kernel_rfl
theorem zcM:zk Tryz.prog (wU Zd):=
 okC (A:=⟨[AV Zz],[],[],0,[],[],[]⟩) (exS:=⟨[.bool],[]⟩) Tryz.f89 (memC zdX zF) (by kernel_rfl) (by kernel_rfl) fun x=>by kernel_rfl
theorem wR:zk Tryz.prog (JI ak):=
 okC (A:=⟨[sQ Wo,MR wo,II Uj,qM zm,wU Zd,Zl strings_HasPrefix,Jm Zw],[],[],0,[],[],[]⟩) (exS:=⟨[.int .i64],[]⟩) Tryz.f52 (memC l7 (memC l8 (memC vR (memC zmP (memC zcM (memC Zt (memC oo zF))))))) (by kernel_rfl) (by kernel_rfl) fun x=>by kernel_rfl
theorem K5:zk Tryz.prog (UQ av):=
 okC (A:=⟨[wQ mo,KR Yk,Jm Zw,Zl strings_HasPrefix,AC qj,BC qF,uH Sk,pQ Pw,JI ak],[],[],0,[],[(7,⟨[0],⟨[.sl 49],[(0, .cells 66 [.str, .nilv, .bool]),(1, .cells 66 [.str, .nilv, .bool])]⟩,[2,4],[],[0,1],0,[],⟨[],[]⟩,[]⟩),(16,⟨[0],⟨[.sl 49],[(0, .cells 66 [.str, .nilv, .bool]),(1, .cells 66 [.str, .nilv, .bool])]⟩,[],[],[0,1],0,[],⟨[],[]⟩,[]⟩)],[]⟩) (exS:=⟨[.optr 0, .bool],[(0, .row 66)]⟩) Tryz.f73 (memC H7 (memC Y8 (memC oo (memC Zt (memC vI (memC wI (memC WR (memC X7 (memC wR zF))))))))) (by kernel_rfl) (by kernel_rfl) fun x=>by kernel_rfl
theorem R3:zk Tryz.prog (aP Bv):=
 okC (A:=⟨[GR Yw,UQ av],[(10,[2])],[],0,[(6,⟨[6,21],⟨[.own 1420, .int .i64],[(1420, .sl 66)]⟩,[2,3,19,20],[],[],0,[6],⟨[.own 1420],[(1420, .sl 66)]⟩,[1420]⟩)],[(11,⟨[6,21],⟨[.own 1522, .int .i64],[(1522, .sl 66)]⟩,[],[],[],0,[],⟨[],[]⟩,[]⟩)],[]⟩) (exS:=⟨[.own 0, .int .i64],[(0, .sl 66)]⟩) Tryz.f39 (memC U8 (memC K5 zF)) (by kernel_rfl) (by kernel_rfl) fun x=>by kernel_rfl
theorem YR:zk Tryz.prog (wH ui):=
 okC (A:=⟨[gI Qz,xM parseF,aP Bv],[],[],0,[],[],[]⟩) (exS:=⟨[.own 0, .int .i64],[(0, .sl 66)]⟩) Tryz.f41 (memC AU (memC yX (memC R3 zF))) (by kernel_rfl) (by kernel_rfl) fun x=>by kernel_rfl
theorem uR:zk Tryz.prog (GI ZY):=
 okC (A:=⟨[Zl strings_HasPrefix],[],[],0,[],[],[]⟩) (exS:=⟨[.int .i64],[]⟩) Tryz.f118 (memC Zt zF) (by kernel_rfl) (by kernel_rfl) fun x=>by kernel_rfl
theorem IJ:zk Tryz.prog (XC Zg):=
 okC (A:=⟨[Bt ZX,VI Us,VQ Io],[(2,[2]),(3,[1]),(5,[1])],[],1,[],[],[]⟩) (exS:=⟨[.own 1],[(1, .sl 5)]⟩) Tryz.f120 (memC Vx (memC WT (memC M5 zF))) (by kernel_rfl) (by kernel_rfl) fun x=>by kernel_rfl
theorem znH:zk Tryz.prog (sS Ep):=
 okC (A:=⟨[fB Qi,Bt ZX,XC Zg],[(6,[2])],[],0,[(2,⟨[0,11],⟨[.own 1524, .int .i64],[(1524, .sl 5)]⟩,[1,2,6,10],[],[],0,[0],⟨[.own 1524],[(1524, .sl 5)]⟩,[1524]⟩)],[(8,⟨[0,11],⟨[.own 1626, .int .i64],[(1626, .sl 5)]⟩,[],[],[],0,[],⟨[],[]⟩,[]⟩)],[]⟩) (exS:=⟨[.own 0],[(0, .sl 5)]⟩) Tryz.f117 (memC aI (memC Vx (memC IJ zF))) (by kernel_rfl) (by kernel_rfl) fun x=>by kernel_rfl
theorem G7:zk Tryz.prog (vQ jo):=
 okC (A:=⟨[qg strings_IndexByte,GI ZY,sS Ep],[],[],0,[],[],[]⟩) (exS:=⟨[.str, .int .i64],[]⟩) Tryz.f83 (memC qK (memC uR (memC znH zF))) (by kernel_rfl) (by kernel_rfl) fun x=>by kernel_rfl
theorem znI:zk Tryz.prog (nS qi):=
 okC (A:=⟨[fB Qi,Bt ZX,XC Zg],[(6,[2])],[],1,[(2,⟨[0,11],⟨[.own 1628, .int .i64],[(1628, .sl 5)]⟩,[1,2,6,10],[],[],0,[0],⟨[.own 1628],[(1628, .sl 5)]⟩,[1628]⟩)],[(8,⟨[0,11],⟨[.own 1730, .int .i64],[(1730, .sl 5)]⟩,[],[],[],0,[],⟨[],[]⟩,[]⟩)],[]⟩) (exS:=⟨[.own 1],[(1, .sl 5)]⟩) Tryz.f117 (memC aI (memC Vx (memC IJ zF))) (by kernel_rfl) (by kernel_rfl) fun x=>by kernel_rfl
theorem V8:zk Tryz.prog (IR Ms):=
 okC (A:=⟨[],[],[],0,[],[],[]⟩) (exS:=⟨[.optr 0],[(0, .row 149)]⟩) Tryz.f123 zF (by kernel_rfl) (by kernel_rfl) fun x=>by kernel_rfl
theorem zk3:zk Tryz.prog (wT qx):=
 okC (A:=⟨[WQ Jo,YP Ao,uM Kl],[(2,[1]),(6,[1])],[],1,[],[(3,⟨[0,1],⟨[.own 2252, .int .i64],[(2252, .sl 5)]⟩,[2],[],[],0,[],⟨[],[]⟩,[]⟩),(9,⟨[0],⟨[.own 2355],[(2355, .sl 5)]⟩,[],[],[],0,[],⟨[],[]⟩,[]⟩)],[]⟩) (exS:=⟨[.own 1],[(1, .sl 5)]⟩) Tryz.f121 (memC O5 (memC O3 (memC vX zF))) (by kernel_rfl) (by kernel_rfl) fun x=>by kernel_rfl
theorem znJ:zk Tryz.prog (lS Rm):=
 okC (A:=⟨[GI ZY,nS qi,qg strings_IndexByte,XC Zg,wT qx,lI QY,Zl strings_HasPrefix,IR Ms],[(5,[7]),(7,[1]),(12,[1]),(14,[1]),(20,[2]),(22,[1]),(30,[2]),(32,[1]),(38,[4])],[],1,[(16,⟨[0,67],⟨[.own 2045, .int .i64],[(2045, .sl 5)]⟩,[3,4,65,66],[1,4],[],1,[0],⟨[.own 2045],[(2045, .sl 5)]⟩,[2045]⟩),(26,⟨[0,93],⟨[.own 2149, .int .i64],[(2149, .sl 5)]⟩,[3,4,91,92],[1,3],[],3,[0],⟨[.own 2149],[(2149, .sl 5)]⟩,[2149]⟩)],[(12,⟨[5],⟨[.int .i64],[(0, .sl 5)]⟩,[0,3],[1],[0],0,[],⟨[],[]⟩,[]⟩),(21,⟨[0,67],⟨[.own 2147, .int .i64],[(2147, .sl 5)]⟩,[],[],[],0,[],⟨[],[]⟩,[]⟩),(31,⟨[0,93],⟨[.own 2251, .int .i64],[(2251, .sl 5)]⟩,[],[],[],0,[],⟨[],[]⟩,[]⟩)],[]⟩) (exS:=⟨[.own 1],[(1, .sl 5)]⟩) Tryz.f81 (memC uR (memC znI (memC qK (memC IJ (memC zk3 (memC FU (memC Zt (memC V8 zF)))))))) (by kernel_rfl) (by kernel_rfl) fun x=>by kernel_rfl
theorem zgL:zk Tryz.prog (iU ZO):=
 okC (A:=⟨[],[],[],0,[(4,⟨[13],⟨[.int .i64],[]⟩,[0,1,12],[],[],0,[],⟨[],[]⟩,[]⟩)],[],[]⟩) (exS:=⟨[.bool],[]⟩) Tryz.f82 zF (by kernel_rfl) (by kernel_rfl) fun x=>by kernel_rfl
theorem X8:zk Tryz.prog (JR vo):=
 okC (A:=⟨[II Uj,FI Qj,lS Rm,gI Qz,iU ZO],[(24,[5])],[],0,[(7,⟨[5,6,7],⟨[.own 2462, .own 2463, .int .i64],[(2462, .sl 5),(2463, .sl 119)]⟩,[0],[],[],0,[5],⟨[.own 2462],[(2462, .sl 5)]⟩,[2462]⟩),(11,⟨[9,36],⟨[.own 2043, .int .i64],[(2043, .sl 5)]⟩,[5,6,7,8,34,35],[2462,2463],[],2,[9],⟨[.own 2043],[(2043, .sl 5)]⟩,[2043]⟩)],[(17,⟨[5,6,7,9],⟨[.own 2462, .own 2463, .int .i64, .own 2565],[(2462, .sl 5),(2463, .sl 119),(2565, .sl 5)]⟩,[8],[],[2462,2463],0,[],⟨[],[]⟩,[]⟩),(21,⟨[5,6,7],⟨[.own 2462, .own 2463, .int .i64],[(2462, .sl 5),(2463, .sl 119),(2566, .row 119)]⟩,[9,12],[2565],[2462,2463,2566],0,[],⟨[],[]⟩,[]⟩),(24,⟨[5,6,7],⟨[.own 2670, .own 2463, .int .i64],[(2463, .sl 119),(2670, .sl 5)]⟩,[],[2566],[2463],0,[],⟨[],[]⟩,[]⟩)],[]⟩) (exS:=⟨[.str, .int .i64],[]⟩) Tryz.f46 (memC vR (memC rR (memC znJ (memC AU (memC zgL zF))))) (by kernel_rfl) (by kernel_rfl) fun x=>by kernel_rfl
theorem Y7:zk Tryz.prog (rQ Vo):=
 okC (A:=⟨[Mx qU,nT QC,JR vo],[],[],0,[],[],[]⟩) (exS:=⟨[.str, .int .i64],[]⟩) Tryz.f20 (memC jB (memC zmR (memC X8 zF))) (by kernel_rfl) (by kernel_rfl) fun x=>by kernel_rfl
theorem XR:zk Tryz.prog (vH Tk):=
 okC (A:=⟨[JI ak,vQ jo,rQ Vo],[],[],0,[],[(13,⟨[8],⟨[.str],[]⟩,[],[],[],0,[],⟨[],[]⟩,[]⟩)],[]⟩) (exS:=⟨[.str, .int .i64],[]⟩) Tryz.f48 (memC wR (memC G7 (memC Y7 zF))) (by kernel_rfl) (by kernel_rfl) fun x=>by kernel_rfl
theorem I7:zk Tryz.prog (xQ Jw):=
 okC (A:=⟨[vH Tk,dL Wm],[(12,[2])],[(14,[(4,none)])],0,[(6,⟨[4,5,16],⟨[.own 2671, .bool, .int .i64],[(2671, .sl 9)]⟩,[14,15],[],[],0,[4,5],⟨[.own 2671, .bool],[(2671, .sl 9)]⟩,[2671]⟩)],[],[]⟩) (exS:=⟨[.str, .int .i64],[]⟩) Tryz.f50 (memC XR (memC zA6 zF)) (by kernel_rfl) (by kernel_rfl) fun x=>by kernel_rfl
theorem znL:zk Tryz.prog (jS VB):=
 okC (A:=⟨[wH ui,xQ Jw],[],[(2,[(14,none)])],0,[],[],[]⟩) (exS:=⟨[.bool],[]⟩) Tryz.f55 (memC YR (memC I7 zF)) (by kernel_rfl) (by kernel_rfl) fun x=>by kernel_rfl
theorem znK:zk Tryz.prog (kS Pm):=
 okC (A:=⟨[jS VB],[],[],0,[],[],[]⟩) (exS:=⟨[.bool],[]⟩) Tryz.f54 (memC znL zF) (by kernel_rfl) (by kernel_rfl) fun x=>by kernel_rfl
theorem D8(Sj:List zf×List zf->Option Bool)(hs:zk Tryz.prog (Lx Sj)):zk Tryz.prog (Lx (aB Sj)):=
 okC (A:=⟨[Lx Sj],[],[],0,[(4,⟨[5],⟨[.int .i64],[]⟩,[0,1],[],[],0,[],⟨[],[]⟩,[]⟩)],[],[]⟩) (exS:=⟨[.bool],[]⟩) Tryz.f22 (memC hs zF) (by kernel_rfl) (by kernel_rfl) fun x=>by kernel_rfl
theorem H9:zk Tryz.prog (Lx Sj):=
 zk.recE (I:=I) (P:=Tryz.prog) (f:=22) (inS:=⟨[.sl 49, .sl 49],[]⟩) (cst:=[]) (outS:=⟨[.bool],[]⟩) (k:=0) (aB) (by kernel_rfl) (fun S h=>D8 S h)
theorem NT:zk Tryz.prog (RI Qa):=
 okC (A:=⟨[Lx Sj],[],[],0,[],[],[]⟩) (exS:=⟨[.bool],[]⟩) Tryz.f43 (memC H9 zF) (by kernel_rfl) (by kernel_rfl) fun x=>by kernel_rfl
theorem F9:zk Tryz.prog (dR Es):=
 okC (A:=⟨[RI Qa],[],[],0,[(4,⟨[5],⟨[.int .i64],[]⟩,[0,1],[],[],0,[],⟨[],[]⟩,[]⟩)],[],[]⟩) (exS:=⟨[.bool],[]⟩) Tryz.f44 (memC NT zF) (by kernel_rfl) (by kernel_rfl) fun x=>by kernel_rfl
theorem zj8:zk Tryz.prog (KU IC):=
 okC (A:=⟨[SS ww,TS xw,kS Pm,vH Tk,wH ui,RI Qa,dR Es],[(1,[1]),(18,[3])],[(19,[(138,none),(73,none)])],0,[],[],[]⟩) (exS:=⟨[.bool],[]⟩) Tryz.f13 (memC Y9 (memC d9 (memC znK (memC XR (memC YR (memC NT (memC F9 zF))))))) (by kernel_rfl) (by kernel_rfl) fun x=>by kernel_rfl
end Go.Lv.VT
end
