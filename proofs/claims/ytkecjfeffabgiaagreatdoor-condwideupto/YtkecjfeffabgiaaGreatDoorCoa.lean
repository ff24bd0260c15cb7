/- Contracts. -/
import Derived.Test.YtkecjfeffabgiaaGreatDoorTx
import Derived.Test.YtkecjfeffabgiaaGreatDoorIp
import Derived.Test.YtkecjfeffabgiaaGreatDoorLf
import Derived.Test.YtkecjfeffabgiaaGreatDoorPa
noncomputable section
set_option linter.unusedSimpArgs false
set_option linter.unusedVariables false
namespace Go.Lv.VT
set_option maxRecDepth 100000
open Go.Proofs
theorem okC{con:Con I}{A:Env0 I}{exS:StSh}(f:Go.Func)(hS: ∀c∈A.S,zm Tryz.prog c)(hf:Tryz.prog.funcs[con.f]? =some f)(h:chk con A f=true)(he: ∀x,evF2 A T FK f.ntmps (rsl f) (body f) con exS x=con.F x):zm Tryz.prog con:=
 okC0 mixed ipOK tok rfl rfl hS hf h he
def Dt(F:zg×Int->Option Int):Con I:=⟨31,⟨[.val 27, .int .i64],[]⟩,[],⟨[.int .i64],[]⟩,0,F⟩
def Et(F:List ze×Int->Option Int):Con I:=⟨104,⟨[.sl 59, .int .i64],[]⟩,[],⟨[.int .i64],[]⟩,0,F⟩
def fM(F:Int->Option Int):Con I:=⟨153,⟨[.int .u8],[]⟩,[],⟨[.int .u8],[]⟩,0,F⟩
def Gt(F:List ze->Option Int):Con I:=⟨105,⟨[.sl 59],[]⟩,[],⟨[.int .i64],[]⟩,0,F⟩
def UL(F:List zA->Option Bool):Con I:=⟨61,⟨[.sl 24],[]⟩,[],⟨[.bool],[]⟩,0,F⟩
def Bt(F:zg->Option Bool):Con I:=⟨32,⟨[.val 27],[]⟩,[],⟨[.bool],[]⟩,0,F⟩
def TL(F:zg->Option Bool):Con I:=⟨9,⟨[.val 27],[]⟩,[],⟨[.bool],[]⟩,0,F⟩
def Yx(F:Int->Option Int):Con I:=⟨58,⟨[.int .u8],[]⟩,[],⟨[.int .u8],[]⟩,0,F⟩
def Ao(F:List ze×Int->Option zy):Con I:=⟨85,⟨[.sl 59, .int .u8],[]⟩,[],⟨[.val 111],[]⟩,0,F⟩
def Q9(F:List ze->Option Int):Con I:=⟨50,⟨[.sl 59],[]⟩,[],⟨[.int .i64],[]⟩,0,F⟩
def lK(F:List ze->Option (Int×Int)):Con I:=⟨82,⟨[.sl 59],[]⟩,[],⟨[.int .i64, .int .i64],[]⟩,0,F⟩
def Vt(F:List ze×List zk->Option (List zk)):Con I:=⟨164,⟨[.own 0, .sl 59],[(0, .sl 57)]⟩,[],⟨[.own 1],[(1, .sl 57)]⟩,1,F⟩
def YL(F:List ze->Option (List zk)):Con I:=⟨164,⟨[.nilv, .sl 59],[]⟩,[],⟨[.own 0],[(0, .sl 57)]⟩,1,F⟩
def vJ(F:List ze->Option (List zk×Int)):Con I:=⟨122,⟨[.sl 59],[]⟩,[],⟨[.sl 57, .int .i64],[]⟩,0,F⟩
def ZI(F:Str×Int->Option Int):Con I:=⟨109,⟨[.str, .int .u8],[]⟩,[],⟨[.int .i64],[]⟩,0,F⟩
def eF(F:Str×Str->Option Bool):Con I:=⟨173,⟨[.str, .str],[]⟩,[],⟨[.bool],[]⟩,0,F⟩
def Ze(F:Str×Str->Option Bool):Con I:=⟨130,⟨[.str, .str],[]⟩,[],⟨[.bool],[]⟩,0,F⟩
def Vo(F:Str->Option Str):Con I:=⟨91,⟨[.str],[]⟩,[],⟨[.str],[]⟩,0,F⟩
def pK(F:Str->Option Bool):Con I:=⟨123,⟨[.str],[]⟩,[],⟨[.bool],[]⟩,0,F⟩
def BO(F:Str×Str->Option Str):Con I:=⟨266,⟨[.str, .str],[]⟩,[],⟨[.str],[]⟩,0,F⟩
def VN(F:Str×Str->Option Str):Con I:=⟨236,⟨[.str, .str],[]⟩,[],⟨[.str],[]⟩,0,F⟩
def Oo(F:Int->Option Bool):Con I:=⟨158,⟨[.int .u8],[]⟩,[],⟨[.bool],[]⟩,0,F⟩
def jE(F:Str->Option Bool):Con I:=⟨199,⟨[.str],[]⟩,[],⟨[.bool],[]⟩,0,F⟩
def rD(F:Int->Option Bool):Con I:=⟨190,⟨[.int .u8],[]⟩,[],⟨[.bool],[]⟩,0,F⟩
def Ex(F:Int->Option Bool):Con I:=⟨157,⟨[.int .u8],[]⟩,[],⟨[.bool],[]⟩,0,F⟩
def MN(F:Str×Str->Option Bool):Con I:=⟨200,⟨[.str, .str],[]⟩,[],⟨[.bool],[]⟩,0,F⟩
def xJ(F:zk->Option Bool):Con I:=⟨169,⟨[.val 57],[]⟩,[],⟨[.bool],[]⟩,0,F⟩
def uL(F:(Int×Int)×List zk->Option Bool):Con I:=⟨201,⟨[.int .i64, .int .u8, .optr 0],[(0, .row 62)]⟩,[0],⟨[.bool],[]⟩,0,F⟩
def Wo(F:Str×Str->Option Bool):Con I:=⟨131,⟨[.str, .str],[]⟩,[],⟨[.bool],[]⟩,0,F⟩
def aD(F:List zk->Option Int):Con I:=⟨170,⟨[.sl 57],[]⟩,[],⟨[.int .i64],[]⟩,0,F⟩
def dD(F:List zk->Option Int):Con I:=⟨124,⟨[.sl 57],[]⟩,[],⟨[.int .i64],[]⟩,0,F⟩
def ni(F:ze×Int->Option Bool):Con I:=⟨128,⟨[.val 59, .int .u8],[]⟩,[],⟨[.bool],[]⟩,0,F⟩
def BN(F:ze->Option Bool):Con I:=⟨171,⟨[.val 59],[]⟩,[],⟨[.bool],[]⟩,0,F⟩
def CO(F:List ze->Option Int):Con I:=⟨172,⟨[.sl 59, .clo 171 []],[]⟩,[],⟨[.int .i64],[]⟩,0,F⟩
def VO(F:List ze->Option Bool):Con I:=⟨126,⟨[.sl 59, .clo 171 []],[]⟩,[],⟨[.bool],[]⟩,0,F⟩
def qO(F:List ze->Option Bool):Con I:=⟨125,⟨[.sl 59],[]⟩,[],⟨[.bool],[]⟩,0,F⟩
def ND(F:ze->Option Bool):Con I:=⟨129,⟨[.val 59],[]⟩,[],⟨[.bool],[]⟩,0,F⟩
def vL(F:ze->Option Bool):Con I:=⟨127,⟨[.val 59],[]⟩,[],⟨[.bool],[]⟩,0,F⟩
def uN(F:List ze->Option Int):Con I:=⟨172,⟨[.sl 59, .clo 127 []],[]⟩,[],⟨[.int .i64],[]⟩,0,F⟩
def PO(F:List ze->Option Bool):Con I:=⟨126,⟨[.sl 59, .clo 127 []],[]⟩,[],⟨[.bool],[]⟩,0,F⟩
def Fx(F:zA->Option Int):Con I:=⟨83,⟨[.val 24],[]⟩,[],⟨[.int .i64],[]⟩,0,F⟩
def Fs(F:zg->Option Bool):Con I:=⟨47,⟨[.val 27],[]⟩,[],⟨[.bool],[]⟩,0,F⟩
def OD(F:zg->Option Bool):Con I:=⟨71,⟨[.val 27],[]⟩,[],⟨[.bool],[]⟩,0,F⟩
def Es(F:zg×Int->Option ((Int×Bool)×Int)):Con I:=⟨48,⟨[.val 27, .optr 0],[(0, .row 3)]⟩,[],⟨[.int .i64, .bool],[(0, .row 3)]⟩,0,F⟩
def QP(F:zg->Option Int):Con I:=⟨18,⟨[.val 27],[]⟩,[],⟨[.int .i64],[]⟩,0,F⟩
def aL(F:Int×List ze->Option Bool):Con I:=⟨106,⟨[.int .i64, .optr 0],[(0, .row 22)]⟩,[0],⟨[.bool],[]⟩,0,F⟩
def oN(F:List ze->Option (List ze)):Con I:=⟨133,⟨[.sl 59],[]⟩,[],⟨[.own 0],[(0, .sl 59)]⟩,1,F⟩
def yn(F:List ze->Option (List ze)):Con I:=⟨88,⟨[.sl 59],[]⟩,[],⟨[.sl 59],[]⟩,0,F⟩
def KD(F:List ze->Option (List ze×Int)):Con I:=⟨62,⟨[.sl 59],[]⟩,[],⟨[.sl 59, .int .i64],[]⟩,0,F⟩
def Al(F:zg->Option (List zA)):Con I:=⟨33,⟨[.val 27],[]⟩,[],⟨[.sl 24],[]⟩,0,F⟩
def GL(F:zg->Option (List zA×Int)):Con I:=⟨10,⟨[.val 27],[]⟩,[],⟨[.sl 24, .int .i64],[]⟩,0,F⟩
def WL(F:Int->Option Int):Con I:=⟨149,⟨[.int .u8],[]⟩,[],⟨[.int .u8],[]⟩,0,F⟩
def XL(F:Str->Option Str):Con I:=⟨97,⟨[.str],[]⟩,[],⟨[.str],[]⟩,0,F⟩
def oD(F:zA->Option Bool):Con I:=⟨107,⟨[.val 24],[]⟩,[],⟨[.bool],[]⟩,0,F⟩
def Cy(F:zg->Option Bool):Con I:=⟨65,⟨[.val 27],[]⟩,[],⟨[.bool],[]⟩,0,F⟩
def kN(F:List Str×Str->Option Int):Con I:=⟨175,⟨[.sl 9, .str],[]⟩,[],⟨[.int .i64],[]⟩,0,F⟩
def FO(F:List Str×Str->Option Bool):Con I:=⟨134,⟨[.sl 9, .str],[]⟩,[],⟨[.bool],[]⟩,0,F⟩
def vD(F:Str->Option Bool):Con I:=⟨92,⟨[.str],[]⟩,[],⟨[.bool],[]⟩,0,F⟩
def sD(F:List Int->Option Int):Con I:=⟨113,⟨[.sl 2],[]⟩,[],⟨[.int .i64],[]⟩,0,F⟩
def uD(F:Int->Option Int):Con I:=⟨121,⟨[.int .i64],[]⟩,[],⟨[.int .i64],[]⟩,0,F⟩
def sK(F:zg->Option Bool):Con I:=⟨80,⟨[.val 27],[]⟩,[],⟨[.bool],[]⟩,0,F⟩
def DL(F:zg->Option Bool):Con I:=⟨81,⟨[.val 27],[]⟩,[],⟨[.bool],[]⟩,0,F⟩
def DK(F:zg->Option Bool):Con I:=⟨46,⟨[.val 27],[]⟩,[],⟨[.bool],[]⟩,0,F⟩
def SN(F:zg->Option Bool):Con I:=⟨45,⟨[.val 27],[]⟩,[],⟨[.bool],[]⟩,0,F⟩
def xN(F:List zg->Option Int):Con I:=⟨79,⟨[.sl 27, .clo 45 []],[]⟩,[],⟨[.int .i64],[]⟩,0,F⟩
def vN(F:List zg->Option Bool):Con I:=⟨44,⟨[.sl 27, .clo 45 []],[]⟩,[],⟨[.bool],[]⟩,0,F⟩
def vE(F:zg->Option Int):Con I:=⟨16,⟨[.val 27],[]⟩,[],⟨[.int .i64],[]⟩,0,F⟩
def Gx(F:zg->Option Int):Con I:=⟨36,⟨[.val 27],[]⟩,[],⟨[.int .i64],[]⟩,0,F⟩
def xL(F:Int×List Bool->Option (Bool×Int)):Con I:=⟨38,⟨[.optr 0, .optr 1],[(0, .row 3),(1, .row 30)]⟩,[1],⟨[.bool],[(0, .row 3)]⟩,0,F⟩
def Ht(F:(zg×Int)×Int×List Bool->Option (Bool×Int)):Con I:=⟨37,⟨[.val 27, .int .i64, .clo 38 [0,1]],[(0, .row 3),(1, .row 30)]⟩,[1],⟨[.bool],[(0, .row 3)]⟩,0,F⟩
def eD(F:zg×VEnv×List Bool->Option (Bool×Int)):Con I:=⟨12,⟨[.val 27, .val 29, .sl 4],[]⟩,[],⟨[.bool, .int .i64],[]⟩,0,F⟩
def bM(F:Str->Option Bool):Con I:=⟨154,⟨[.str],[]⟩,[],⟨[.bool],[]⟩,0,F⟩
def XJ(F:Int->Option Bool):Con I:=⟨155,⟨[.int .i64],[]⟩,[],⟨[.bool],[]⟩,0,F⟩
def sJ(F:zg->Option (Bool×Bool)):Con I:=⟨108,⟨[.val 27],[]⟩,[],⟨[.bool, .bool],[]⟩,0,F⟩
def RL(F:zg->Option Bool):Con I:=⟨66,⟨[.val 27],[]⟩,[],⟨[.bool],[]⟩,0,F⟩
def dM(F:zg->Option Bool):Con I:=⟨39,⟨[.val 27],[]⟩,[],⟨[.bool],[]⟩,0,F⟩
def bD(F:Str->Option Int):Con I:=⟨111,⟨[.str],[]⟩,[],⟨[.int .i64],[]⟩,0,F⟩
def Hy(F:Int×List UInt8->Option (List UInt8)):Con I:=⟨159,⟨[.own 0, .int .u8],[(0, .sl 5)]⟩,[],⟨[.own 1],[(1, .sl 5)]⟩,1,F⟩
def jL(F:Str×Int->Option (List UInt8)):Con I:=⟨110,⟨[.nilv, .str, .int .i64],[]⟩,[],⟨[.own 0],[(0, .sl 5)]⟩,1,F⟩
def LD(F:Str->Option (Str×Int)):Con I:=⟨67,⟨[.str],[]⟩,[],⟨[.str, .int .i64],[]⟩,0,F⟩
def lM(F:Int×Int×List UInt8->Option (Int×List UInt8)):Con I:=⟨114,⟨[.int .u8, .optr 0, .optr 1],[(0, .row 3),(1, .sl 5)]⟩,[],⟨[],[(0, .row 3),(1, .sl 5)]⟩,0,F⟩
def kL(F:Int->Option (Str×Int)):Con I:=⟨69,⟨[.int .i64],[]⟩,[],⟨[.str, .int .i64],[]⟩,0,F⟩
def CK(F:List zg×Str->Option Str):Con I:=⟨68,⟨[.sl 27, .str, .clo 41 []],[]⟩,[],⟨[.str],[]⟩,0,F⟩
def uk(F:zg->Option Str):Con I:=⟨41,⟨[.val 27],[]⟩,[],⟨[.str],[]⟩,0,F⟩
def iL(F:(Str×Int)×List UInt8->Option (List UInt8)):Con I:=⟨110,⟨[.own 0, .str, .int .i64],[(0, .sl 5)]⟩,[],⟨[.own 1],[(1, .sl 5)]⟩,1,F⟩
def mK(F:Unit->Option zao):Con I:=⟨221,⟨[],[]⟩,[],⟨[.val 230],[]⟩,0,F⟩
def kM(F:(Int×Bool)×List UInt8->Option (List UInt8)):Con I:=⟨220,⟨[.own 0, .int .i64, .bool],[(0, .sl 5)]⟩,[],⟨[.own 1],[(1, .sl 5)]⟩,1,F⟩
def gL(F:zk×List UInt8->Option (List UInt8)):Con I:=⟨194,⟨[.own 0, .val 57],[(0, .sl 5)]⟩,[],⟨[.own 1],[(1, .sl 5)]⟩,1,F⟩
def AO(F:za->Option za):Con I:=⟨95,⟨[.optr 0],[(0, .row 121)]⟩,[],⟨[],[(0, .row 121)]⟩,0,F⟩
def zJ(F:Int×za->Option Int):Con I:=⟨138,⟨[.optr 0, .int .i64],[(0, .row 121)]⟩,[0],⟨[.int .i64],[]⟩,0,F⟩
def Yo(F:Int->Option Bool):Con I:=⟨139,⟨[.int .i64],[]⟩,[],⟨[.bool],[]⟩,0,F⟩
def Qp(F:za->Option za):Con I:=⟨140,⟨[.optr 0, .clo 139 []],[(0, .row 121)]⟩,[],⟨[],[(0, .row 121)]⟩,0,F⟩
def UO(F:Int->Option (List UInt8)):Con I:=⟨244,⟨[.nilv, .int .i32],[]⟩,[],⟨[.own 0],[(0, .sl 5)]⟩,1,F⟩
def XN(F:Int->Option (List UInt8)):Con I:=⟨210,⟨[.nilv, .int .i32],[]⟩,[],⟨[.own 0],[(0, .sl 5)]⟩,1,F⟩
def Tt(F:Int×Int×Int->Option Bool):Con I:=⟨212,⟨[.int .i64, .int .i64, .int .i64],[]⟩,[],⟨[.bool],[]⟩,0,F⟩
def jo(F:Int->Option Bool):Con I:=⟨182,⟨[.int .i64],[]⟩,[],⟨[.bool],[]⟩,0,F⟩
def JD(F:Int->Option Int):Con I:=⟨211,⟨[.int .i64],[]⟩,[],⟨[.int .i64],[]⟩,0,F⟩
def tN(F:za->Option (za×List UInt8)):Con I:=⟨180,⟨[.optr 0, .nilv],[(0, .row 121)]⟩,[],⟨[.own 1],[(0, .row 121),(1, .sl 5)]⟩,1,F⟩
def RO(F:Int×List UInt8->Option (List UInt8)):Con I:=⟨244,⟨[.own 0, .int .i32],[(0, .sl 5)]⟩,[],⟨[.own 1],[(1, .sl 5)]⟩,1,F⟩
def WN(F:Int×List UInt8->Option (List UInt8)):Con I:=⟨210,⟨[.own 0, .int .i32],[(0, .sl 5)]⟩,[],⟨[.own 1],[(1, .sl 5)]⟩,1,F⟩
def qi(F:za×List UInt8->Option (za×List UInt8)):Con I:=⟨180,⟨[.optr 0, .own 1],[(0, .row 121),(1, .sl 5)]⟩,[],⟨[.own 2],[(0, .row 121),(2, .sl 5)]⟩,1,F⟩
def JO(F:za->Option (zk×za)):Con I:=⟨141,⟨[.optr 0],[(0, .row 121)]⟩,[],⟨[.val 57],[(0, .row 121)]⟩,0,F⟩
def nD(F:Int->Option Bool):Con I:=⟨181,⟨[.int .i64],[]⟩,[],⟨[.bool],[]⟩,0,F⟩
def dE(F:Int->Option Bool):Con I:=⟨142,⟨[.int .i64],[]⟩,[],⟨[.bool],[]⟩,0,F⟩
def ZB(F:Int×za->Option Bool):Con I:=⟨143,⟨[.optr 0, .int .i64],[(0, .row 121)]⟩,[0],⟨[.bool],[]⟩,0,F⟩
def RF(F:Int×za->Option Bool):Con I:=⟨144,⟨[.optr 0, .int .i64],[(0, .row 121)]⟩,[0],⟨[.bool],[]⟩,0,F⟩
def QQ(F:za->Option (Str×za)):Con I:=⟨145,⟨[.optr 0],[(0, .row 121)]⟩,[],⟨[.str],[(0, .row 121)]⟩,0,F⟩
def KO(F:za->Option Bool):Con I:=⟨146,⟨[.optr 0],[(0, .row 121)]⟩,[0],⟨[.bool],[]⟩,0,F⟩
def MO(F:za->Option za):Con I:=⟨140,⟨[.optr 0, .clo 182 []],[(0, .row 121)]⟩,[],⟨[],[(0, .row 121)]⟩,0,F⟩
def wN(F:za->Option (Bool×za)):Con I:=⟨183,⟨[.optr 0],[(0, .row 121)]⟩,[],⟨[.bool],[(0, .row 121)]⟩,0,F⟩
def YN(F:Str->Option Int):Con I:=⟨184,⟨[.str],[]⟩,[],⟨[.int .i64],[]⟩,0,F⟩
def OO(F:za->Option (zk×za)):Con I:=⟨147,⟨[.optr 0],[(0, .row 121)]⟩,[],⟨[.val 57],[(0, .row 121)]⟩,0,F⟩
def bN(F:za->Option (zk×za)):Con I:=⟨216,⟨[.optr 0],[(0, .row 121)]⟩,[],⟨[.val 57],[(0, .row 121)]⟩,0,F⟩
def aN(F:za->Option (zk×za)):Con I:=⟨185,⟨[.optr 0],[(0, .row 121)]⟩,[],⟨[.val 57],[(0, .row 121)]⟩,0,F⟩
def jN(F:za->Option (zk×za)):Con I:=⟨148,⟨[.optr 0],[(0, .row 121)]⟩,[],⟨[.val 57],[(0, .row 121)]⟩,0,F⟩
def UN(F:za->Option (zk×za)):Con I:=⟨96,⟨[.optr 0],[(0, .row 121)]⟩,[],⟨[.val 57],[(0, .row 121)]⟩,0,F⟩
def KN(F:(zk×Int×Int)×List zk->Option (List zk)):Con I:=⟨56,⟨[.val 57, .int .i64, .int .i64, .optr 0],[(0, .cells 62 [.own 1]),(1, .sl 57)]⟩,[],⟨[],[(0, .cells 62 [.own 2]),(2, .sl 57)]⟩,1,F⟩
def aM(F:Str->Option (Int×List zk)):Con I:=⟨55,⟨[.str, .clo 56 [0]],[(0, .cells 62 [.nilv])]⟩,[],⟨[.int .i64],[(0, .cells 62 [.own 1]),(1, .sl 57)]⟩,1,F⟩
def fE(F:Str->Option (List zk×Int)):Con I:=⟨27,⟨[.str],[]⟩,[],⟨[.sl 57, .int .i64],[]⟩,0,F⟩
def nN(F:List zk×List zk->Option Bool):Con I:=⟨195,⟨[.sl 57, .sl 57],[]⟩,[],⟨[.bool],[]⟩,0,F⟩
def nK(F:List zk->Option (Str×Int)):Con I:=⟨163,⟨[.sl 57],[]⟩,[],⟨[.str, .int .i64],[]⟩,0,F⟩
def uJ(F:List ze->Option (Str×Int)):Con I:=⟨115,⟨[.sl 59],[]⟩,[],⟨[.str, .int .i64],[]⟩,0,F⟩
def BK(F:zA->Option (Str×Int)):Con I:=⟨72,⟨[.val 24],[]⟩,[],⟨[.str, .int .i64],[]⟩,0,F⟩
def uE(F:zg×Bool->Option (Str×Bool)):Con I:=⟨70,⟨[.val 27, .optr 0],[(0, .cells 75 [.optr 1]),(1, .row 4)]⟩,[0],⟨[.str],[(1, .row 4)]⟩,0,F⟩
def lL(F:(List zg×Str)×Bool->Option (Str×Bool)):Con I:=⟨68,⟨[.sl 27, .str, .clo 70 [0]],[(0, .cells 75 [.optr 1]),(1, .row 4)]⟩,[0],⟨[.str],[(1, .row 4)]⟩,0,F⟩
def qX(F:zg×Bool->Option (Str×Bool)):Con I:=⟨42,⟨[.val 27, .optr 0],[(0, .row 4)]⟩,[],⟨[.str],[(0, .row 4)]⟩,0,F⟩
def PD(F:zg->Option (Str×Int)):Con I:=⟨14,⟨[.val 27],[]⟩,[],⟨[.str, .int .i64],[]⟩,0,F⟩
def NN(F:zg->Option Int):Con I:=⟨17,⟨[.val 27],[]⟩,[],⟨[.int .i64],[]⟩,0,F⟩
def iE(F:Str->Option (List ze)):Con I:=⟨24,⟨[.str],[]⟩,[],⟨[.sl 59],[]⟩,0,F⟩
def kK(F:List ze×Int->Option (List (List ze)×Int)):Con I:=⟨52,⟨[.sl 59, .int .u8],[]⟩,[],⟨[.sl 22, .int .i64],[]⟩,0,F⟩
def qx(F:zh->Option Int):Con I:=⟨89,⟨[.optr 0],[(0, .row 85)]⟩,[0],⟨[.int .u8],[]⟩,0,F⟩
def qy(F:zh->Option (ze×zh)):Con I:=⟨90,⟨[.optr 0],[(0, .row 85)]⟩,[],⟨[.val 59],[(0, .row 85)]⟩,0,F⟩
def qK(F:zh->Option (Bool×zh)):Con I:=⟨53,⟨[.optr 0],[(0, .row 85)]⟩,[],⟨[.bool],[(0, .row 85)]⟩,0,F⟩
def Jy(F:List Str×zh->Option (Str×zh)):Con I:=⟨86,⟨[.optr 0, .sl 9],[(0, .row 85)]⟩,[],⟨[.str],[(0, .row 85)]⟩,0,F⟩
def lN(F:zh->Option ((zg×Bool)×zh)):Con I:=⟨93,⟨[.optr 0],[(0, .row 85)]⟩,[],⟨[.val 27, .bool],[(0, .row 85)]⟩,0,F⟩
def dN(F:zh->Option ((zg×Bool)×zh)):Con I:=⟨54,⟨[.optr 0],[(0, .row 85)]⟩,[],⟨[.val 27, .bool],[(0, .row 85)]⟩,0,F⟩
def FL(F:List ze->Option (zg×Int)):Con I:=⟨25,⟨[.sl 59],[]⟩,[],⟨[.val 27, .int .i64],[]⟩,0,F⟩
def bL(F:Str×Str×Int×Int->Option Bool):Con I:=⟨21,⟨[.str, .str, .int .i64, .int .i64],[]⟩,[],⟨[.bool],[]⟩,0,F⟩
def yJ(F:List ze->Option (List ze)):Con I:=⟨203,⟨[.sl 59],[]⟩,[],⟨[.sl 59],[]⟩,0,F⟩
def oK(F:List ze->Option (List ze)):Con I:=⟨202,⟨[.sl 59],[]⟩,[],⟨[.sl 59],[]⟩,0,F⟩
def YJ(F:List ze->Option (zA×Bool)):Con I:=⟨174,⟨[.sl 59],[]⟩,[],⟨[.val 24, .bool],[]⟩,0,F⟩
def aJ(F:List ze->Option (zA×Bool×Int)):Con I:=⟨132,⟨[.sl 59],[]⟩,[],⟨[.val 24, .bool, .int .i64],[]⟩,0,F⟩
def PN(F:zh->Option ((zg×Bool)×zh)):Con I:=⟨87,⟨[.optr 0],[(0, .row 85)]⟩,[],⟨[.val 27, .bool],[(0, .row 85)]⟩,0,F⟩
def qz(F:zh->Option ((zg×Bool)×zh)):Con I:=⟨51,⟨[.optr 0],[(0, .row 85)]⟩,[],⟨[.val 27, .bool],[(0, .row 85)]⟩,0,F⟩
def mM(F:List ze->Option (zg×Int)):Con I:=⟨23,⟨[.sl 59],[]⟩,[],⟨[.val 27, .int .i64],[]⟩,0,F⟩
def DN(F:Int×List Bool->Option (Bool×Int)):Con I:=⟨38,⟨[.optr 0, .optr 1],[(0, .row 3),(1, .cells 30 [.own 2]),(2, .sl 4)]⟩,[1,2],⟨[.bool],[(0, .row 3)]⟩,0,F⟩
def Ut(F:(zg×Int)×Int×List Bool->Option (Bool×Int)):Con I:=⟨37,⟨[.val 27, .int .i64, .clo 38 [0,1]],[(0, .row 3),(1, .cells 30 [.own 2]),(2, .sl 4)]⟩,[1,2],⟨[.bool],[(0, .row 3)]⟩,0,F⟩
def wL(F:(zg×VEnv)×List Bool->Option (Bool×Int)):Con I:=⟨12,⟨[.val 27, .val 29, .own 0],[(0, .sl 4)]⟩,[0],⟨[.bool, .int .i64],[]⟩,0,F⟩
def xM(F:Str×Str×Bool×Bool->Option Bool):Con I:=⟨22,⟨[.str, .str, .bool, .bool],[]⟩,[],⟨[.bool],[]⟩,0,F⟩
def dL(F:Unit->Option Bool):Con I:=⟨26,⟨[],[]⟩,[],⟨[.bool],[]⟩,0,F⟩
def yM(F:zg×Int×Int->Option Bool):Con I:=⟨7,⟨[.val 27, .int .i64, .int .i64],[]⟩,[],⟨[.bool],[]⟩,0,F⟩
def gM(F:List ze->Option (List zk)):Con I:=⟨164,⟨[.nilv, .sl 59],[]⟩,[],⟨[.sl 57],[]⟩,0,F⟩
def YH(F:Str->Option (Str×Int)):Con I:=⟨94,⟨[.str],[]⟩,[],⟨[.str, .int .i64],[]⟩,0,F⟩
theorem YT:zm Tryz.prog (YH Vl):=fU
def xI(F:Str×Int->Option Int):Con I:=⟨156,⟨[.str, .int .u8],[]⟩,[],⟨[.int .i64],[]⟩,0,F⟩
theorem gV:zm Tryz.prog (xI Uq):=BV
def jB(F:Str×Str->Option Int):Con I:=⟨137,⟨[.str, .str],[]⟩,[],⟨[.int .i64],[]⟩,0,F⟩
theorem gI:zm Tryz.prog (jB Si):=eU
def VH(F:Str×Str->Option Str):Con I:=⟨213,⟨[.str, .str],[]⟩,[],⟨[.str],[]⟩,0,F⟩
theorem UT:zm Tryz.prog (VH Oj):=bU
def UH(F:Str×Str->Option Str):Con I:=⟨258,⟨[.str, .str],[]⟩,[],⟨[.str],[]⟩,0,F⟩
theorem PT:zm Tryz.prog (UH Em):=aU
def wJ(F:Str×Str->Option Int):Con I:=⟨214,⟨[.str, .str],[]⟩,[],⟨[.int .i64],[]⟩,0,F⟩
theorem IX:zm Tryz.prog (wJ oq):=sW
def MG(F:Str×Str->Option (Str×Str×Bool)):Con I:=⟨215,⟨[.str, .str],[]⟩,[],⟨[.str, .str, .bool],[]⟩,0,F⟩
theorem YQ:zm Tryz.prog (MG cutF):=xP
def yI(F:Int×Int->Option Str):Con I:=⟨259,⟨[.int .i64, .int .i64],[]⟩,[],⟨[.str],[]⟩,0,F⟩
theorem iV:zm Tryz.prog (yI xu):=CV
def bJ(F:(Int×Int)×List UInt8->Option (List UInt8)):Con I:=⟨191,⟨[.own 0, .int .u64, .int .i64],[(0, .sl 5)]⟩,[],⟨[.own 1],[(1, .sl 5)]⟩,1,F⟩
theorem NW:zm Tryz.prog (bJ Uv):=uV
def dJ(F:(Int×Int)×List UInt8->Option (List UInt8)):Con I:=⟨257,⟨[.own 0, .int .i64, .int .i64],[(0, .sl 5)]⟩,[],⟨[.own 1],[(1, .sl 5)]⟩,1,F⟩
theorem OW:zm Tryz.prog (dJ Vv):=vV
def XH(F:List zk->Option (List ze×Int)):Con I:=⟨28,⟨[.sl 57],[]⟩,[],⟨[.sl 59, .int .i64],[]⟩,0,F⟩
theorem XT:zm Tryz.prog (XH parseF):=dU
def VA(F:List Str×Str->Option Str):Con I:=⟨112,⟨[.sl 9, .str],[]⟩,[],⟨[.str],[]⟩,0,F⟩
theorem lH:zm Tryz.prog (VA Kh):=YS
theorem VX(qU:zg×Int->Option Int)(hs:zm Tryz.prog (Dt qU)):zm Tryz.prog (Dt (Eo qU)):=
 okC (A:=⟨[Dt qU],[],[],0,[(3,⟨[5,6],⟨[.int .i64, .int .i64],[]⟩,[1,2,4],[0],[],0,[5],⟨[.int .i64],[]⟩,[]⟩)],[],[]⟩) (exS:=⟨[.int .i64],[]⟩) Tryz.f31 (memC hs zC) (by kernel_rfl) (by kernel_rfl) fun x=>by kernel_rfl
theorem iX:zm Tryz.prog (Dt qU):=
 zm.recE (I:=I) (P:=Tryz.prog) (f:=31) (inS:=⟨[.val 27, .int .i64],[]⟩) (cst:=[]) (outS:=⟨[.int .i64],[]⟩) (k:=0) (Eo) (by kernel_rfl) (fun S h=>VX S h)
theorem WX(qR:List ze×Int->Option Int)(hs:zm Tryz.prog (Et qR)):zm Tryz.prog (Et (Ho qR)):=
 okC (A:=⟨[Et qR],[],[],0,[(3,⟨[5,6],⟨[.int .i64, .int .i64],[]⟩,[0,1,4],[],[],0,[5],⟨[.int .i64],[]⟩,[]⟩)],[],[]⟩) (exS:=⟨[.int .i64],[]⟩) Tryz.f104 (memC hs zC) (by kernel_rfl) (by kernel_rfl) fun x=>by kernel_rfl
theorem jX:zm Tryz.prog (Et qR):=
 zm.recE (I:=I) (P:=Tryz.prog) (f:=104) (inS:=⟨[.sl 59, .int .i64],[]⟩) (cst:=[]) (outS:=⟨[.int .i64],[]⟩) (k:=0) (Ho) (by kernel_rfl) (fun S h=>WX S h)
theorem EZ:zm Tryz.prog (fM Ns):=
 okC (A:=⟨[],[],[],0,[],[(6,⟨[6],⟨[.bool],[]⟩,[3],[],[],0,[],⟨[],[]⟩,[]⟩)],[]⟩) (exS:=⟨[.int .u8],[]⟩) Tryz.f153 zC (by kernel_rfl) (by kernel_rfl) fun x=>by kernel_rfl
theorem XX(Rh:List ze->Option Int)(hs:zm Tryz.prog (Gt Rh)):zm Tryz.prog (Gt (Lx Rh)):=
 okC (A:=⟨[fM Ns,Gt Rh],[],[],0,[(3,⟨[3,4],⟨[.int .i64, .int .i64],[]⟩,[0,2],[],[],0,[3],⟨[.int .i64],[]⟩,[]⟩)],[(4,⟨[3,4],⟨[.int .i64, .int .i64],[]⟩,[],[],[],0,[],⟨[],[]⟩,[]⟩)],[]⟩) (exS:=⟨[.int .i64],[]⟩) Tryz.f105 (memC EZ (memC hs zC)) (by kernel_rfl) (by kernel_rfl) fun x=>by kernel_rfl
theorem kX:zm Tryz.prog (Gt Rh):=
 zm.recE (I:=I) (P:=Tryz.prog) (f:=105) (inS:=⟨[.sl 59],[]⟩) (cst:=[]) (outS:=⟨[.int .i64],[]⟩) (k:=0) (Lx) (by kernel_rfl) (fun S h=>XX S h)
theorem nZ:zm Tryz.prog (UL Jr):=
 okC (A:=⟨[Et qR,Gt Rh],[],[],0,[(5,⟨[3,4],⟨[.int .i64, .int .i64],[]⟩,[0],[],[],0,[],⟨[],[]⟩,[]⟩)],[],[]⟩) (exS:=⟨[.bool],[]⟩) Tryz.f61 (memC jX (memC kX zC)) (by kernel_rfl) (by kernel_rfl) fun x=>by kernel_rfl
theorem UX(Q0:zg->Option Bool)(hs:zm Tryz.prog (Bt Q0)):zm Tryz.prog (Bt (Co Q0)):=
 okC (A:=⟨[UL Jr,Bt Q0],[(1,[2])],[],0,[(4,⟨[3],⟨[.int .i64],[]⟩,[1],[0],[],0,[],⟨[],[]⟩,[]⟩)],[],[]⟩) (exS:=⟨[.bool],[]⟩) Tryz.f32 (memC nZ (memC hs zC)) (by kernel_rfl) (by kernel_rfl) fun x=>by kernel_rfl
theorem gX:zm Tryz.prog (Bt Q0):=
 zm.recE (I:=I) (P:=Tryz.prog) (f:=32) (inS:=⟨[.val 27],[]⟩) (cst:=[]) (outS:=⟨[.bool],[]⟩) (k:=0) (Co) (by kernel_rfl) (fun S h=>UX S h)
theorem mZ:zm Tryz.prog (TL Ir):=
 okC (A:=⟨[Dt qU,Bt Q0],[],[],0,[],[],[]⟩) (exS:=⟨[.bool],[]⟩) Tryz.f9 (memC iX (memC gX zC)) (by kernel_rfl) (by kernel_rfl) fun x=>by kernel_rfl
theorem VE:zm Tryz.prog (Yx qI):=
 okC (A:=⟨[],[],[],0,[],[(7,⟨[6],⟨[.bool],[]⟩,[0],[],[],0,[],⟨[],[]⟩,[]⟩)],[]⟩) (exS:=⟨[.int .u8],[]⟩) Tryz.f58 zC (by kernel_rfl) (by kernel_rfl) fun x=>by kernel_rfl
theorem xW(qc:List ze×Int->Option zy)(hs:zm Tryz.prog (Ao qc)):zm Tryz.prog (Ao (Yn qc)):=
 okC (A:=⟨[Yx qI,Ao qc],[],[],0,[(3,⟨[12],⟨[.int .i64],[(1, .row 111)]⟩,[1,4,5,10,11],[0],[1],0,[],⟨[],[(1, .row 111)]⟩,[1]⟩)],[(9,⟨[],⟨[],[(1, .row 111)]⟩,[7,8,12],[2],[1],0,[],⟨[],[]⟩,[]⟩),(12,⟨[12],⟨[.int .i64],[(1, .row 111)]⟩,[],[],[1],0,[],⟨[],[]⟩,[]⟩)],[]⟩) (exS:=⟨[.optr 0],[(0, .row 111)]⟩) Tryz.f85 (memC VE (memC hs zC)) (by kernel_rfl) (by kernel_rfl) fun x=>by kernel_rfl
theorem SK:zm Tryz.prog (Ao qc):=
 zm.recE (I:=I) (P:=Tryz.prog) (f:=85) (inS:=⟨[.sl 59, .int .u8],[]⟩) (cst:=[]) (outS:=⟨[.val 111],[]⟩) (k:=0) (Yn) (by kernel_rfl) (fun S h=>xW S h)
theorem Yk:zm Tryz.prog (Q9 Zv):=
 okC (A:=⟨[Ao qc],[],[],0,[],[],[]⟩) (exS:=⟨[.int .i64],[]⟩) Tryz.f50 (memC SK zC) (by kernel_rfl) (by kernel_rfl) fun x=>by kernel_rfl
theorem mX:zm Tryz.prog (lK Tk):=
 okC (A:=⟨[Q9 Zv,Ao qc],[],[],0,[],[],[]⟩) (exS:=⟨[.int .i64, .int .i64],[]⟩) Tryz.f82 (memC Yk (memC SK zC)) (by kernel_rfl) (by kernel_rfl) fun x=>by kernel_rfl
theorem kY(Zy:List ze×List zk->Option (List zk))(hs:zm Tryz.prog (Vt Zy)):zm Tryz.prog (Vt (Xo Zy)):=
 okC (A:=⟨[Yx qI,Vt Zy],[(4,[3]),(7,[6])],[],1,[(2,⟨[0,10],⟨[.own 1001, .int .i64],[(1001, .sl 57)]⟩,[4,8,9],[],[],0,[0],⟨[.own 1001],[(1001, .sl 57)]⟩,[1001]⟩)],[(8,⟨[0,10],⟨[.own 1103, .int .i64],[(1103, .sl 57)]⟩,[],[],[],0,[],⟨[],[]⟩,[]⟩)],[]⟩) (exS:=⟨[.own 1],[(1, .sl 57)]⟩) Tryz.f164 (memC VE (memC hs zC)) (by kernel_rfl) (by kernel_rfl) fun x=>by kernel_rfl
theorem sZ:zm Tryz.prog (Vt Zy):=
 zm.recE (I:=I) (P:=Tryz.prog) (f:=164) (inS:=⟨[.own 0, .sl 59],[(0, .sl 57)]⟩) (cst:=[]) (outS:=⟨[.own 1],[(1, .sl 57)]⟩) (k:=1) (Xo) (by kernel_rfl) (fun S h=>kY S h)
theorem IM:zm Tryz.prog (YL QJ):=
 okC (A:=⟨[Yx qI,Vt Zy],[(4,[3]),(7,[6])],[],0,[(2,⟨[0,10],⟨[.own 1105, .int .i64],[(1105, .sl 57)]⟩,[4,8,9],[],[],0,[0],⟨[.own 1105],[(1105, .sl 57)]⟩,[1105]⟩)],[(8,⟨[0,10],⟨[.own 1207, .int .i64],[(1207, .sl 57)]⟩,[],[],[],0,[],⟨[],[]⟩,[]⟩)],[]⟩) (exS:=⟨[.own 0],[(0, .sl 57)]⟩) Tryz.f164 (memC VE (memC sZ zC)) (by kernel_rfl) (by kernel_rfl) fun x=>by kernel_rfl
theorem FZ:zm Tryz.prog (gM QJ):=MU ipOK (by kernel_rfl) IM
theorem GX:zm Tryz.prog (vJ Rk):=
 okC (A:=⟨[Q9 Zv,YL QJ],[],[],0,[],[],[]⟩) (exS:=⟨[.sl 57, .int .i64],[]⟩) Tryz.f122 (memC Yk (memC IM zC)) (by kernel_rfl) (by kernel_rfl) fun x=>by kernel_rfl
theorem Z9:zm Tryz.prog (ZI strings_IndexByte):=
 okC (A:=⟨[xI Uq],[],[],0,[],[],[]⟩) (exS:=⟨[.int .i64],[]⟩) Tryz.f109 (memC gV zC) (by kernel_rfl) (by kernel_rfl) fun x=>by kernel_rfl
theorem yN:zm Tryz.prog (eF stringslite_HasPrefix):=
 okC (A:=⟨[],[],[],0,[],[],[]⟩) (exS:=⟨[.bool],[]⟩) Tryz.f173 zC (by kernel_rfl) (by kernel_rfl) fun x=>by kernel_rfl
theorem Zi:zm Tryz.prog (Ze strings_HasPrefix):=
 okC (A:=⟨[eF stringslite_HasPrefix],[],[],0,[],[],[]⟩) (exS:=⟨[.bool],[]⟩) Tryz.f130 (memC yN zC) (by kernel_rfl) (by kernel_rfl) fun x=>by kernel_rfl
theorem Mt:zm Tryz.prog (Vo Zx):=
 okC (A:=⟨[],[],[],0,[(3,⟨[10],⟨[.int .i64],[(0, .sl 5)]⟩,[2,3,8,9],[],[0],0,[],⟨[],[(0, .sl 5)]⟩,[0]⟩)],[(7,⟨[10],⟨[.int .i64],[(0, .sl 5)]⟩,[],[],[0],0,[],⟨[],[]⟩,[]⟩)],[]⟩) (exS:=⟨[.str],[]⟩) Tryz.f91 zC (by kernel_rfl) (by kernel_rfl) fun x=>by kernel_rfl
theorem aY:zm Tryz.prog (pK Vk):=
 okC (A:=⟨[ZI strings_IndexByte,Ze strings_HasPrefix,Vo Zx],[],[],0,[],[],[]⟩) (exS:=⟨[.bool],[]⟩) Tryz.f123 (memC Z9 (memC Zi (memC Mt zC))) (by kernel_rfl) (by kernel_rfl) fun x=>by kernel_rfl
theorem P7:zm Tryz.prog (BO stringslite_TrimPrefix):=
 okC (A:=⟨[eF stringslite_HasPrefix],[],[],0,[],[],[]⟩) (exS:=⟨[.str],[]⟩) Tryz.f266 (memC yN zC) (by kernel_rfl) (by kernel_rfl) fun x=>by kernel_rfl
theorem M6:zm Tryz.prog (VN strings_TrimPrefix):=
 okC (A:=⟨[BO stringslite_TrimPrefix],[],[],0,[],[],[]⟩) (exS:=⟨[.str],[]⟩) Tryz.f236 (memC P7 zC) (by kernel_rfl) (by kernel_rfl) fun x=>by kernel_rfl
theorem Wt:zm Tryz.prog (Oo Z8):=
 okC (A:=⟨[],[],[],0,[],[],[]⟩) (exS:=⟨[.bool],[]⟩) Tryz.f158 zC (by kernel_rfl) (by kernel_rfl) fun x=>by kernel_rfl
theorem sM:zm Tryz.prog (jE Aj):=
 okC (A:=⟨[VN strings_TrimPrefix,Oo Z8],[],[],0,[],[],[]⟩) (exS:=⟨[.bool],[]⟩) Tryz.f199 (memC M6 (memC Wt zC)) (by kernel_rfl) (by kernel_rfl) fun x=>by kernel_rfl
theorem JM:zm Tryz.prog (rD jr):=
 okC (A:=⟨[],[],[],0,[],[],[]⟩) (exS:=⟨[.bool],[]⟩) Tryz.f190 zC (by kernel_rfl) (by kernel_rfl) fun x=>by kernel_rfl
theorem xD:zm Tryz.prog (Ex QW):=
 okC (A:=⟨[rD jr,Oo Z8],[],[],0,[],[],[]⟩) (exS:=⟨[.bool],[]⟩) Tryz.f157 (memC JM (memC Wt zC)) (by kernel_rfl) (by kernel_rfl) fun x=>by kernel_rfl
theorem E5:zm Tryz.prog (MN strings_Contains):=
 okC (A:=⟨[jB Si],[],[],0,[],[],[]⟩) (exS:=⟨[.bool],[]⟩) Tryz.f200 (memC gI zC) (by kernel_rfl) (by kernel_rfl) fun x=>by kernel_rfl
theorem JX:zm Tryz.prog (xJ Nn):=
 okC (A:=⟨[ZI strings_IndexByte,jE Aj,Ze strings_HasPrefix,Ex QW,MN strings_Contains],[],[],0,[],[(8,⟨[3,4,5,6,7,25],⟨[.bool, .bool, .bool, .bool, .bool, .bool],[]⟩,[1,16],[],[],0,[],⟨[],[]⟩,[]⟩),(14,⟨[3,4,5,6,7,63],⟨[.bool, .bool, .bool, .bool, .bool, .bool],[]⟩,[],[],[],0,[],⟨[],[]⟩,[]⟩),(22,⟨[4,5,6,7,94],⟨[.bool, .bool, .bool, .bool, .bool],[]⟩,[3],[],[],0,[],⟨[],[]⟩,[]⟩),(24,⟨[3,4,5,6,7],⟨[.bool, .bool, .bool, .bool, .bool],[]⟩,[1],[0],[],0,[],⟨[],[]⟩,[]⟩)],[]⟩) (exS:=⟨[.bool],[]⟩) Tryz.f169 (memC Z9 (memC sM (memC Zi (memC xD (memC E5 zC))))) (by kernel_rfl) (by kernel_rfl) fun x=>by kernel_rfl
theorem GZ:zm Tryz.prog (uL qb):=
 okC (A:=⟨[],[],[],1,[],[],[]⟩) (exS:=⟨[.bool],[]⟩) Tryz.f201 zC (by kernel_rfl) (by kernel_rfl) fun x=>by kernel_rfl
theorem Nt:zm Tryz.prog (Wo ZJ):=
 okC (A:=⟨[Vo Zx],[],[],0,[],[],[]⟩) (exS:=⟨[.bool],[]⟩) Tryz.f131 (memC Mt zC) (by kernel_rfl) (by kernel_rfl) fun x=>by kernel_rfl
theorem xK:zm Tryz.prog (aD Ii):=
 okC (A:=⟨[uL qb,Wo ZJ],[],[],0,[],[(11,⟨[5],⟨[.int .i64],[]⟩,[3],[0],[],0,[],⟨[],[]⟩,[]⟩)],[]⟩) (exS:=⟨[.int .i64],[]⟩) Tryz.f170 (memC GZ (memC Nt zC)) (by kernel_rfl) (by kernel_rfl) fun x=>by kernel_rfl
theorem AL:zm Tryz.prog (dD Qo):=
 okC (A:=⟨[xJ Nn,aD Ii],[],[],0,[(4,⟨[10],⟨[.int .i64],[]⟩,[0,8,9],[],[],0,[],⟨[],[]⟩,[]⟩)],[],[]⟩) (exS:=⟨[.int .i64],[]⟩) Tryz.f124 (memC JX (memC xK zC)) (by kernel_rfl) (by kernel_rfl) fun x=>by kernel_rfl
theorem Sk:zm Tryz.prog (ni Zq):=
 okC (A:=⟨[],[],[],0,[],[],[]⟩) (exS:=⟨[.bool],[]⟩) Tryz.f128 zC (by kernel_rfl) (by kernel_rfl) fun x=>by kernel_rfl
theorem M4(zq:List ze->Option Bool)(h_decl_closers:zm Tryz.prog (qO zq)):zm Tryz.prog (BN (qP zq)):=
 okC (A:=⟨[ni Zq,qO zq],[],[],0,[],[],[]⟩) (exS:=⟨[.bool],[]⟩) Tryz.f171 (memC Sk (memC h_decl_closers zC)) (by kernel_rfl) (by kernel_rfl) fun x=>by kernel_rfl
theorem R7(zq:List ze->Option Bool)(h_decl_closers:zm Tryz.prog (qO zq)):zm Tryz.prog (CO (ZC zq)):=
 okC (A:=⟨[BN (qP zq)],[],[],0,[(2,⟨[8],⟨[.int .i64],[]⟩,[0,1,7],[],[],0,[],⟨[],[]⟩,[]⟩)],[],[]⟩) (exS:=⟨[.int .i64],[]⟩) Tryz.f172 (memC (M4 zq h_decl_closers) zC) (by kernel_rfl) (by kernel_rfl) fun x=>by kernel_rfl
theorem C8(zq:List ze->Option Bool)(h_decl_closers:zm Tryz.prog (qO zq)):zm Tryz.prog (VO (Zh zq)):=
 okC (A:=⟨[CO (ZC zq)],[],[],0,[],[],[]⟩) (exS:=⟨[.bool],[]⟩) Tryz.f126 (memC (R7 zq h_decl_closers) zC) (by kernel_rfl) (by kernel_rfl) fun x=>by kernel_rfl
theorem vY(zq:List ze->Option Bool)(hs:zm Tryz.prog (qO zq)):zm Tryz.prog (qO (Uo zq)):=
 okC (A:=⟨[VO (Zh zq)],[],[],0,[],[],[]⟩) (exS:=⟨[.bool],[]⟩) Tryz.f125 (memC (C8 zq hs) zC) (by kernel_rfl) (by kernel_rfl) fun x=>by kernel_rfl
theorem Y0:zm Tryz.prog (qO zq):=
 zm.recE (I:=I) (P:=Tryz.prog) (f:=125) (inS:=⟨[.sl 59],[]⟩) (cst:=[]) (outS:=⟨[.bool],[]⟩) (k:=0) (Uo) (by kernel_rfl) (fun S h=>vY S h)
theorem VK:zm Tryz.prog (ND Jk):=
 okC (A:=⟨[ni Zq],[],[],0,[],[],[]⟩) (exS:=⟨[.bool],[]⟩) Tryz.f129 (memC Sk zC) (by kernel_rfl) (by kernel_rfl) fun x=>by kernel_rfl
theorem I1:zm Tryz.prog (vL Io):=
 okC (A:=⟨[ni Zq,ND Jk],[],[],0,[],[],[]⟩) (exS:=⟨[.bool],[]⟩) Tryz.f127 (memC Sk (memC VK zC)) (by kernel_rfl) (by kernel_rfl) fun x=>by kernel_rfl
theorem G8:zm Tryz.prog (uN Zm):=
 okC (A:=⟨[vL Io],[],[],0,[(2,⟨[8],⟨[.int .i64],[]⟩,[0,1,7],[],[],0,[],⟨[],[]⟩,[]⟩)],[],[]⟩) (exS:=⟨[.int .i64],[]⟩) Tryz.f172 (memC I1 zC) (by kernel_rfl) (by kernel_rfl) fun x=>by kernel_rfl
theorem I8:zm Tryz.prog (PO zW):=
 okC (A:=⟨[uN Zm],[],[],0,[],[],[]⟩) (exS:=⟨[.bool],[]⟩) Tryz.f126 (memC G8 zC) (by kernel_rfl) (by kernel_rfl) fun x=>by kernel_rfl
theorem yD:zm Tryz.prog (Fx Qn):=
 okC (A:=⟨[vJ Rk,pK Vk,dD Qo,qO zq,PO zW,Ze strings_HasPrefix,ni Zq],[],[],0,[],[],[]⟩) (exS:=⟨[.int .i64],[]⟩) Tryz.f83 (memC GX (memC aY (memC AL (memC Y0 (memC I8 (memC Zi (memC Sk zC))))))) (by kernel_rfl) (by kernel_rfl) fun x=>by kernel_rfl
theorem sw:zm Tryz.prog (Fs ZO):=
 okC (A:=⟨[],[],[],0,[],[],[]⟩) (exS:=⟨[.bool],[]⟩) Tryz.f47 zC (by kernel_rfl) (by kernel_rfl) fun x=>by kernel_rfl
theorem WK:zm Tryz.prog (OD Di):=
 okC (A:=⟨[],[],[],0,[],[],[]⟩) (exS:=⟨[.bool],[]⟩) Tryz.f71 zC (by kernel_rfl) (by kernel_rfl) fun x=>by kernel_rfl
theorem AX(ZW:zg×Int->Option ((Int×Bool)×Int))(hs:zm Tryz.prog (Es ZW)):zm Tryz.prog (Es (Gj ZW)):=
 okC (A:=⟨[lK Tk,Fx Qn,Fs ZO,Es ZW,OD Di],[],[],1,[(19,⟨[9,97],⟨[.int .i64, .int .i64],[(0, .row 3)]⟩,[1,95,96],[],[0],1,[9],⟨[.int .i64],[(0, .row 3)]⟩,[0]⟩)],[(15,⟨[69],⟨[.bool],[]⟩,[1,2,6],[0,1],[],0,[],⟨[],[]⟩,[]⟩),(26,⟨[9,12],⟨[.int .i64, .int .i64],[]⟩,[97],[0],[],0,[],⟨[],[]⟩,[]⟩)],[]⟩) (exS:=⟨[.int .i64, .bool],[(0, .row 3)]⟩) Tryz.f48 (memC mX (memC yD (memC sw (memC hs (memC WK zC))))) (by kernel_rfl) (by kernel_rfl) fun x=>by kernel_rfl
theorem OX:zm Tryz.prog (Es ZW):=
 zm.recE (I:=I) (P:=Tryz.prog) (f:=48) (inS:=⟨[.val 27, .optr 0],[(0, .row 3)]⟩) (cst:=[]) (outS:=⟨[.int .i64, .bool],[(0, .row 3)]⟩) (k:=0) (Gj) (by kernel_rfl) (fun S h=>AX S h)
theorem jF:zm Tryz.prog (QP zZ):=
 okC (A:=⟨[Es ZW],[],[],0,[],[],[]⟩) (exS:=⟨[.int .i64],[]⟩) Tryz.f18 (memC OX zC) (by kernel_rfl) (by kernel_rfl) fun x=>by kernel_rfl
theorem tZ:zm Tryz.prog (aL Dj):=
 okC (A:=⟨[],[],[],1,[],[],[]⟩) (exS:=⟨[.bool],[]⟩) Tryz.f106 zC (by kernel_rfl) (by kernel_rfl) fun x=>by kernel_rfl
theorem P6:zm Tryz.prog (oN qB):=
 okC (A:=⟨[],[],[],0,[],[],[]⟩) (exS:=⟨[.own 0],[(0, .sl 59)]⟩) Tryz.f133 zC (by kernel_rfl) (by kernel_rfl) fun x=>by kernel_rfl
theorem wW(ZY:List ze->Option (List ze))(hs:zm Tryz.prog (yn ZY)):zm Tryz.prog (yn (Xn ZY)):=
 okC (A:=⟨[oN qB,yn ZY],[],[],0,[(3,⟨[8],⟨[.int .i64],[(0, .sl 59)]⟩,[0,2,7],[],[0],0,[],⟨[],[(0, .sl 59)]⟩,[0]⟩)],[],[]⟩) (exS:=⟨[.sl 59],[]⟩) Tryz.f88 (memC P6 (memC hs zC)) (by kernel_rfl) (by kernel_rfl) fun x=>by kernel_rfl
theorem PK:zm Tryz.prog (yn ZY):=
 zm.recE (I:=I) (P:=Tryz.prog) (f:=88) (inS:=⟨[.sl 59],[]⟩) (cst:=[]) (outS:=⟨[.sl 59],[]⟩) (k:=0) (Xn) (by kernel_rfl) (fun S h=>wW S h)
theorem TK:zm Tryz.prog (KD QZ):=
 okC (A:=⟨[Q9 Zv,aL Dj,yn ZY],[],[],0,[(6,⟨[6],⟨[.int .i64],[]⟩,[1,2,3,5,7],[0],[],0,[6],⟨[.int .i64],[]⟩,[]⟩),(8,⟨[7],⟨[.int .i64],[]⟩,[1,2,3,5,6],[0],[],2,[7],⟨[.int .i64],[]⟩,[]⟩)],[],[]⟩) (exS:=⟨[.sl 59, .int .i64],[]⟩) Tryz.f62 (memC Yk (memC tZ (memC PK zC))) (by kernel_rfl) (by kernel_rfl) fun x=>by kernel_rfl
theorem bX(Zl:zg->Option (List zA))(hs:zm Tryz.prog (Al Zl)):zm Tryz.prog (Al (Ko Zl)):=
 okC (A:=⟨[KD QZ,Al Zl],[(4,[1])],[],0,[(7,⟨[4,24],⟨[.own 1208, .int .i64],[(1208, .sl 24)]⟩,[2,22,23],[],[],0,[4],⟨[.own 1208],[(1208, .sl 24)]⟩,[1208]⟩)],[],[]⟩) (exS:=⟨[.sl 24],[]⟩) Tryz.f33 (memC TK (memC hs zC)) (by kernel_rfl) (by kernel_rfl) fun x=>by kernel_rfl
theorem CE:zm Tryz.prog (Al Zl):=
 zm.recE (I:=I) (P:=Tryz.prog) (f:=33) (inS:=⟨[.val 27],[]⟩) (cst:=[]) (outS:=⟨[.sl 24],[]⟩) (k:=0) (Ko) (by kernel_rfl) (fun S h=>bX S h)
theorem jY:zm Tryz.prog (GL Kr):=
 okC (A:=⟨[QP zZ,Al Zl],[],[],0,[],[],[]⟩) (exS:=⟨[.sl 24, .int .i64],[]⟩) Tryz.f10 (memC jF (memC CE zC)) (by kernel_rfl) (by kernel_rfl) fun x=>by kernel_rfl
theorem oZ:zm Tryz.prog (WL Gs):=
 okC (A:=⟨[],[],[],0,[],[],[]⟩) (exS:=⟨[.int .u8],[]⟩) Tryz.f149 zC (by kernel_rfl) (by kernel_rfl) fun x=>by kernel_rfl
theorem rZ:zm Tryz.prog (XL Js):=
 okC (A:=⟨[WL Gs],[],[],0,[(3,⟨[4],⟨[.int .i64],[(0, .sl 5)]⟩,[2,3],[],[0],0,[],⟨[],[(0, .sl 5)]⟩,[0]⟩)],[],[]⟩) (exS:=⟨[.str],[]⟩) Tryz.f97 (memC oZ zC) (by kernel_rfl) (by kernel_rfl) fun x=>by kernel_rfl
theorem GM:zm Tryz.prog (oD Cj):=
 okC (A:=⟨[],[],[],0,[],[],[]⟩) (exS:=⟨[.bool],[]⟩) Tryz.f107 zC (by kernel_rfl) (by kernel_rfl) fun x=>by kernel_rfl
theorem nE:zm Tryz.prog (Cy QC):=
 okC (A:=⟨[oD Cj],[],[],0,[],[],[]⟩) (exS:=⟨[.bool],[]⟩) Tryz.f65 (memC GM zC) (by kernel_rfl) (by kernel_rfl) fun x=>by kernel_rfl
theorem H7:zm Tryz.prog (kN slices_Index_string):=
 okC (A:=⟨[],[],[],0,[(2,⟨[8],⟨[.int .i64],[]⟩,[0,1,7],[],[],0,[],⟨[],[]⟩,[]⟩)],[],[]⟩) (exS:=⟨[.int .i64],[]⟩) Tryz.f175 zC (by kernel_rfl) (by kernel_rfl) fun x=>by kernel_rfl
theorem U7:zm Tryz.prog (FO slices_Contains_string):=
 okC (A:=⟨[kN slices_Index_string],[],[],0,[],[],[]⟩) (exS:=⟨[.bool],[]⟩) Tryz.f134 (memC H7 zC) (by kernel_rfl) (by kernel_rfl) fun x=>by kernel_rfl
theorem MM:zm Tryz.prog (vD QF):=
 okC (A:=⟨[FO slices_Contains_string,Vo Zx,ZI strings_IndexByte],[(1,[0])],[],0,[],[],[]⟩) (exS:=⟨[.bool],[]⟩) Tryz.f92 (memC U7 (memC Mt (memC Z9 zC))) (by kernel_rfl) (by kernel_rfl) fun x=>by kernel_rfl
theorem KM:zm Tryz.prog (sD Ej):=
 okC (A:=⟨[],[],[],0,[(2,⟨[7],⟨[.int .i64],[]⟩,[5,6],[],[],0,[],⟨[],[]⟩,[]⟩)],[],[]⟩) (exS:=⟨[.int .i64],[]⟩) Tryz.f113 zC (by kernel_rfl) (by kernel_rfl) fun x=>by kernel_rfl
theorem LM:zm Tryz.prog (uD QH):=
 okC (A:=⟨[sD Ej],[(1,[1])],[],0,[],[],[]⟩) (exS:=⟨[.int .i64],[]⟩) Tryz.f121 (memC KM zC) (by kernel_rfl) (by kernel_rfl) fun x=>by kernel_rfl
theorem bY:zm Tryz.prog (sK ui):=
 okC (A:=⟨[Fs ZO,vD QF,uD QH],[],[],0,[(4,⟨[23],⟨[.int .i64],[]⟩,[21,22],[],[],0,[],⟨[],[]⟩,[]⟩)],[(17,⟨[57],⟨[.bool],[]⟩,[4,23],[1],[],0,[],⟨[],[]⟩,[]⟩),(19,⟨[23],⟨[.int .i64],[]⟩,[],[],[],0,[],⟨[],[]⟩,[]⟩)],[]⟩) (exS:=⟨[.bool],[]⟩) Tryz.f80 (memC sw (memC MM (memC LM zC))) (by kernel_rfl) (by kernel_rfl) fun x=>by kernel_rfl
theorem dY:zm Tryz.prog (DL Tn):=
 okC (A:=⟨[],[],[],0,[],[],[]⟩) (exS:=⟨[.bool],[]⟩) Tryz.f81 zC (by kernel_rfl) (by kernel_rfl) fun x=>by kernel_rfl
theorem RX:zm Tryz.prog (DK Kk):=
 okC (A:=⟨[Fs ZO,sK ui,DL Tn],[],[],0,[],[],[]⟩) (exS:=⟨[.bool],[]⟩) Tryz.f46 (memC sw (memC bY (memC dY zC))) (by kernel_rfl) (by kernel_rfl) fun x=>by kernel_rfl
theorem l5:zm Tryz.prog (SN qd):=
 okC (A:=⟨[DK Kk],[],[],0,[],[],[]⟩) (exS:=⟨[.bool],[]⟩) Tryz.f45 (memC RX zC) (by kernel_rfl) (by kernel_rfl) fun x=>by kernel_rfl
theorem u6:zm Tryz.prog (xN ZP):=
 okC (A:=⟨[SN qd],[],[],0,[(2,⟨[8],⟨[.int .i64],[]⟩,[0,1,7],[],[],0,[],⟨[],[]⟩,[]⟩)],[],[]⟩) (exS:=⟨[.int .i64],[]⟩) Tryz.f79 (memC l5 zC) (by kernel_rfl) (by kernel_rfl) fun x=>by kernel_rfl
theorem H8:zm Tryz.prog (vN Zc):=
 okC (A:=⟨[xN ZP],[],[],0,[],[],[]⟩) (exS:=⟨[.bool],[]⟩) Tryz.f44 (memC u6 zC) (by kernel_rfl) (by kernel_rfl) fun x=>by kernel_rfl
theorem EN:zm Tryz.prog (vE ZV):=
 okC (A:=⟨[vN Zc,Fs ZO],[],[],0,[],[],[]⟩) (exS:=⟨[.int .i64],[]⟩) Tryz.f16 (memC H8 (memC sw zC)) (by kernel_rfl) (by kernel_rfl) fun x=>by kernel_rfl
theorem EE:zm Tryz.prog (Gx QT):=
 okC (A:=⟨[vE ZV,QP zZ],[],[],0,[],[],[]⟩) (exS:=⟨[.int .i64],[]⟩) Tryz.f36 (memC EN (memC jF zC)) (by kernel_rfl) (by kernel_rfl) fun x=>by kernel_rfl
theorem J2:zm Tryz.prog (xL Ws):=
 okC (A:=⟨[],[],[],2,[],[],[]⟩) (exS:=⟨[.bool],[(0, .row 3)]⟩) Tryz.f38 zC (by kernel_rfl) (by kernel_rfl) fun x=>by kernel_rfl
theorem aX(Z7:(zg×Int)×Int×List Bool->Option (Bool×Int))(hs:zm Tryz.prog (Ht Z7)):zm Tryz.prog (Ht (Jo Z7)):=
 okC (A:=⟨[xL Ws,Ht Z7],[],[],2,[(14,⟨[7,8,45],⟨[.bool, .bool, .int .i64],[(0, .row 3)]⟩,[1,2,3,6,43,44],[2],[0],1,[7,8],⟨[.bool, .bool],[(0, .row 3)]⟩,[0]⟩)],[],[]⟩) (exS:=⟨[.bool],[(0, .row 3)]⟩) Tryz.f37 (memC J2 (memC hs zC)) (by kernel_rfl) (by kernel_rfl) fun x=>by kernel_rfl
theorem gY:zm Tryz.prog (Ht Z7):=
 zm.recE (I:=I) (P:=Tryz.prog) (f:=37) (inS:=⟨[.val 27, .int .i64, .clo 38 [0,1]],[(0, .row 3),(1, .row 30)]⟩) (cst:=[1]) (outS:=⟨[.bool],[(0, .row 3)]⟩) (k:=0) (Jo) (by kernel_rfl) (fun S h=>aX S h)
theorem BL:zm Tryz.prog (eD Z6):=
 okC (A:=⟨[Gx QT,Al Zl,Ht Z7],[],[],0,[],[],[]⟩) (exS:=⟨[.bool, .int .i64],[]⟩) Tryz.f12 (memC EE (memC CE (memC gY zC))) (by kernel_rfl) (by kernel_rfl) fun x=>by kernel_rfl
theorem CZ:zm Tryz.prog (bM Bo):=
 okC (A:=⟨[XL Js],[],[],0,[(4,⟨[3],⟨[.int .i64],[]⟩,[0],[],[],0,[],⟨[],[]⟩,[]⟩)],[],[]⟩) (exS:=⟨[.bool],[]⟩) Tryz.f154 (memC rZ zC) (by kernel_rfl) (by kernel_rfl) fun x=>by kernel_rfl
theorem KW:zm Tryz.prog (XJ lm):=
 okC (A:=⟨[],[],[],0,[],[],[]⟩) (exS:=⟨[.bool],[]⟩) Tryz.f155 zC (by kernel_rfl) (by kernel_rfl) fun x=>by kernel_rfl
theorem DX:zm Tryz.prog (sJ Dn):=
 okC (A:=⟨[Cy QC,oD Cj,bM Bo,XJ lm],[],[],0,[(4,⟨[4],⟨[.int .i64],[]⟩,[1],[0],[],0,[],⟨[],[]⟩,[]⟩)],[(5,⟨[4],⟨[.int .i64],[]⟩,[],[],[],0,[],⟨[],[]⟩,[]⟩)],[]⟩) (exS:=⟨[.bool, .bool],[]⟩) Tryz.f108 (memC nE (memC GM (memC CZ (memC KW zC)))) (by kernel_rfl) (by kernel_rfl) fun x=>by kernel_rfl
theorem lZ:zm Tryz.prog (RL Wn):=
 okC (A:=⟨[Cy QC,sJ Dn],[],[],0,[],[],[]⟩) (exS:=⟨[.bool],[]⟩) Tryz.f66 (memC nE (memC DX zC)) (by kernel_rfl) (by kernel_rfl) fun x=>by kernel_rfl
theorem DZ:zm Tryz.prog (dM Ms):=
 okC (A:=⟨[Cy QC,RL Wn],[],[],0,[(8,⟨[3],⟨[.int .i64],[]⟩,[1],[0],[],0,[],⟨[],[]⟩,[]⟩)],[],[]⟩) (exS:=⟨[.bool],[]⟩) Tryz.f39 (memC nE (memC lZ zC)) (by kernel_rfl) (by kernel_rfl) fun x=>by kernel_rfl
theorem yK:zm Tryz.prog (bD qg):=
 okC (A:=⟨[Ze strings_HasPrefix],[],[],0,[],[],[]⟩) (exS:=⟨[.int .i64],[]⟩) Tryz.f111 (memC Zi zC) (by kernel_rfl) (by kernel_rfl) fun x=>by kernel_rfl
theorem wE:zm Tryz.prog (Hy Zk):=
 okC (A:=⟨[Oo Z8,rD jr,bJ Uv],[(2,[2]),(3,[1]),(5,[1])],[],1,[],[],[]⟩) (exS:=⟨[.own 1],[(1, .sl 5)]⟩) Tryz.f159 (memC Wt (memC JM (memC NW zC))) (by kernel_rfl) (by kernel_rfl) fun x=>by kernel_rfl
theorem KZ:zm Tryz.prog (jL Yr):=
 okC (A:=⟨[Ex QW,Oo Z8,Hy Zk],[(6,[2])],[],0,[(2,⟨[0,11],⟨[.own 1314, .int .i64],[(1314, .sl 5)]⟩,[1,2,6,10],[],[],0,[0],⟨[.own 1314],[(1314, .sl 5)]⟩,[1314]⟩)],[(8,⟨[0,11],⟨[.own 1416, .int .i64],[(1416, .sl 5)]⟩,[],[],[],0,[],⟨[],[]⟩,[]⟩)],[]⟩) (exS:=⟨[.own 0],[(0, .sl 5)]⟩) Tryz.f110 (memC xD (memC Wt (memC wE zC))) (by kernel_rfl) (by kernel_rfl) fun x=>by kernel_rfl
theorem UK:zm Tryz.prog (LD Dk):=
 okC (A:=⟨[ZI strings_IndexByte,bD qg,jL Yr],[],[],0,[],[],[]⟩) (exS:=⟨[.str, .int .i64],[]⟩) Tryz.f67 (memC Z9 (memC yK (memC KZ zC))) (by kernel_rfl) (by kernel_rfl) fun x=>by kernel_rfl
theorem M3:zm Tryz.prog (lM qj):=
 okC (A:=⟨[],[],[],2,[],[],[]⟩) (exS:=⟨[],[(0, .row 3),(1, .sl 5)]⟩) Tryz.f114 zC (by kernel_rfl) (by kernel_rfl) fun x=>by kernel_rfl
theorem LZ:zm Tryz.prog (kL kr):=
 okC (A:=⟨[sD Ej,lM qj],[(1,[1]),(7,[200000])],[],0,[(12,⟨[9,26],⟨[.int .i64, .int .i64],[(1, .sl 5),(2, .row 3)]⟩,[0,6,7,8],[],[1,2],0,[],⟨[],[(1, .sl 5),(2, .row 3)]⟩,[1,2]⟩),(23,⟨[0],⟨[.int .i64],[(1, .sl 5),(2, .row 3)]⟩,[6,7,8],[],[1,2],2,[],⟨[],[(1, .sl 5),(2, .row 3)]⟩,[1,2]⟩)],[(7,⟨[0],⟨[.int .i64],[]⟩,[5],[],[],0,[],⟨[],[]⟩,[]⟩),(17,⟨[9],⟨[.int .i64],[(1, .sl 5),(2, .row 3)]⟩,[10,26],[],[1,2],0,[],⟨[],[]⟩,[]⟩),(20,⟨[9,26],⟨[.int .i64, .int .i64],[(1, .sl 5),(2, .row 3)]⟩,[],[],[1,2],0,[],⟨[],[]⟩,[]⟩),(27,⟨[],⟨[],[(1, .sl 5),(2, .row 3)]⟩,[6,7],[],[1,2],0,[],⟨[],[]⟩,[]⟩)],[]⟩) (exS:=⟨[.str, .int .i64],[]⟩) Tryz.f69 (memC KM (memC M3 zC)) (by kernel_rfl) (by kernel_rfl) fun x=>by kernel_rfl
end Go.Lv.VT
end
